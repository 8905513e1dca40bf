/- The pure law PathsLongest: the lengths of the longest ways, or why there are none, are the document's answer's.
   Conditions: none beyond the kinds of the arguments. -/
import Derived.Test.YtcdddmaibchjjaaDoorP14e
namespace Go.Proofs.YtcdddmaibchjjaaDoor.Pure
set_option linter.unusedVariables false
open Go.RowKit Go.Proofs.YtcdddmaibchjjaaDoor.X Go.Proofs.YtcdddmaibchjjaaDoorW.PrintWords Go.Proofs.YtcdddmaibchjjaaDoorW.PrintLast Go.Proofs.YtcdddmaibchjjaaDoorW.PrintMore
theorem same_l0 {a : List Int} (ha : a.length ≤ 100) : ∀ (c i : Nat), i + c = a.length → Ev (fun k => carrefourlaw14_PathsLongest.l0 k a a (i : Int)) true
  | 0, i, hi => Ev.step (fun k => by rw [carrefourlaw14_PathsLongest.l0]) (Ev.iten (by omega) (Ev.bind awake_ev (Ev.eq rfl)))
  | c + 1, i, hi => by
    have ih := same_l0 ha c (i + 1) (by omega)
    have e1 : wrap64 ((i : Int) + 1) = ((i + 1 : Nat) : Int) := by rw [w64 (by omega) (by omega)]; rfl
    exact Ev.step (fun k => by rw [carrefourlaw14_PathsLongest.l0]) (Ev.itep (by omega) (Ev.itep (by omega) (Ev.itep (by omega) (Ev.itep rfl (by simp only [e1]; exact ih)))))
theorem PathsLongest (n : Int) (l : List S34) {P0 P1 : Prop} (h0 : P0) (h1 : P1) : ∃ k, carrefourlaw14_PathsLongest.f k n l = some true := by
  suffices h : Ev (fun k => carrefourlaw14_PathsLongest.f k n l) true by obtain ⟨K, h⟩ := h; exact ⟨K, h K (Nat.le_refl _)⟩
  obtain ⟨t, ht, hf⟩ := few_ev n l
  refine Ev.bind (Ev.eq ht) ?_
  by_cases c : t = true
  · obtain ⟨hl, _⟩ := hf c
    obtain ⟨r, a, b, hlen⟩ : ∃ r, Ev (fun k => paths_Longest.f k n l) r ∧ Ev (fun k => carrefourref14_Longest.f k n l) r ∧ r.1.length ≤ 100 := by
      cases h : rightF n l with
      | false => exact ⟨_, Longest_bad h, ref_bad hl h, by simp⟩
      | true =>
        have hr := right_gr h
        rcases Longest_ev h with ⟨fe, a, b⟩ | ⟨a, b⟩ <;> rcases ref_ev hl h with ⟨d, c, e⟩ | ⟨c, e⟩
        · have := found_same hr.2.2.2 b e
          rw [this] at a
          exact ⟨_, a, c, by rw [e.len]; omega⟩
        · exact absurd b.1 (e _)
        · exact absurd e.fits (b _)
        · exact ⟨_, a, c, by simp⟩
    refine Ev.itep c (Ev.bind a (Ev.bind b (Ev.itep rfl (Ev.step (f := fun k => carrefourlaw14_PathsLongest.l0 k r.1 r.1 ((0 : Nat) : Int)) (fun k => by rw [carrefourlaw14_PathsLongest.j0, if_neg (by simp)]; rfl) (same_l0 hlen r.1.length 0 (by omega))))))
  · exact Ev.iten c (Ev.eq rfl)
end Go.Proofs.YtcdddmaibchjjaaDoor.Pure
