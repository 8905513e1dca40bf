/- The pure law PathsWay: which of the longest ways is told, where all edges are above 0: the document's answer's.
   Conditions: none beyond the kinds of the arguments. -/
import Derived.Test.YtcdddmaibchjjaaDoorP14g
namespace Go.Proofs.YtcdddmaibchjjaaDoor.Pure
set_option linter.unusedVariables false
open Go.RowKit Go.Proofs.YtcdddmaibchjjaaDoor.X Go.Proofs.YtcdddmaibchjjaaDoorW.PrintWords Go.Proofs.YtcdddmaibchjjaaDoorW.PrintLast Go.Proofs.YtcdddmaibchjjaaDoorW.PrintMore
theorem simple_l0 {l : List S34} (hl : l.length ≤ 60) : ∀ (c i : Nat), i + c = l.length → ∃ t, Ev (fun k => carrefourlaw14_simple.l0 k l (i : Int)) t ∧ (t = true → ∀ e ∈ l.drop i, e.f2 ≠ 0)
  | 0, i, hi => ⟨true, Ev.step (fun k => by rw [carrefourlaw14_simple.l0]) (Ev.iten (by omega) (Ev.eq rfl)), fun _ e he => by rw [List.drop_of_length_le (by omega)] at he; cases he⟩
  | c + 1, i, hi => by
    obtain ⟨e1, e2⟩ := drop_at (l := l) (i := i) (by omega)
    have ew : wrap64 ((i : Int) + 1) = ((i + 1 : Nat) : Int) := by rw [w64 (by omega) (by omega)]; rfl
    obtain ⟨t, h1, h2⟩ := simple_l0 hl c (i + 1) (by omega)
    by_cases cz : l[i].f2 = 0
    · exact ⟨false, Ev.step (fun k => by rw [carrefourlaw14_simple.l0, e1]) (Ev.itep (by omega) (Ev.itep (by omega) (Ev.itep cz (Ev.eq rfl)))), fun h => by cases h⟩
    · refine ⟨t, Ev.step (fun k => by rw [carrefourlaw14_simple.l0, e1, ew]) (Ev.itep (by omega) (Ev.itep (by omega) (Ev.iten cz h1))), fun ht e he => ?_⟩
      rw [e2] at he
      rcases List.mem_cons.1 he with rfl | he
      · exact cz
      · exact h2 ht e he
theorem same_way {a : List Int} (ha : a.length ≤ 100) : ∀ (c i : Nat), i + c = a.length → Ev (fun k => carrefourlaw14_PathsWay.l0 k a a (i : Int)) true
  | 0, i, hi => Ev.step (fun k => by rw [carrefourlaw14_PathsWay.l0]) (Ev.iten (by omega) (Ev.bind awake_ev (Ev.eq rfl)))
  | c + 1, i, hi => by
    have ih := same_way ha c (i + 1) (by omega)
    have e1 : wrap64 ((i : Int) + 1) = ((i + 1 : Nat) : Int) := by rw [w64 (by omega) (by omega)]; rfl
    exact Ev.step (fun k => by rw [carrefourlaw14_PathsWay.l0]) (Ev.itep (by omega) (Ev.itep (by omega) (Ev.itep (by omega) (Ev.itep rfl (by simp only [e1]; exact ih)))))
theorem ways_same {n : Int} {l : List S34} {dest : Int} (hl : l.length ≤ 60) (hs : ∀ e ∈ l, e.f2 ≠ 0) : ∃ r, Ev (fun k => paths_Way.f k n l dest) r ∧ Ev (fun k => carrefourref14_Way.f k n l dest) r ∧ r.length ≤ 100 := by
  cases h : rightF n l with
  | false =>
    refine ⟨[], ⟨0, fun k _ => ?_⟩, Ev.bind (ref_bad hl h) (Ev.iten (by decide) (Ev.eq rfl)), by simp⟩
    show paths_Way.f k n l dest = _
    unfold paths_Way.f solvedF
    rw [if_neg (by rw [h]; decide)]
    rfl
  | true =>
    obtain ⟨h1, h2, h3, hg⟩ := right_gr h
    rcases solved_ev h with ⟨fe, a, b⟩ | ⟨a, b⟩ <;> rcases ref_ev hl h with ⟨d, c, e⟩ | ⟨c, e⟩
    · have hsame := found_same hg b e
      subst hsame
      have hpos : ∀ x ∈ l, 0 < x.f2 := fun x hx => by have := hs x hx; have := (hg x hx).2.2.2.1; omega
      have hfl : (fe.1.length : Int) = n := by rw [e.len]; exact h3
      rcases Way_found (dest := dest) h a b with ⟨w1, w2⟩ | ⟨d0, d1, dz, rest, w1, w2, w3⟩
      · refine ⟨[], w1, Ev.bind c (Ev.itep rfl ?_), by simp⟩
        by_cases c1 : dest < 0
        · exact Ev.itep c1 (Ev.eq rfl)
        refine Ev.iten c1 ?_
        by_cases c2 : dest ≥ n
        · exact Ev.itep c2 (Ev.eq rfl)
        exact Ev.iten c2 (Ev.itep (by omega) (Ev.itep (by show dest < (fe.1.length : Int); omega) (Ev.itep (by show rd fe.1 dest < 0; omega) (Ev.eq rfl))))
      · obtain ⟨L, o1, o2, _⟩ := on_says (dest := dest) h2 hl hg hpos e.len e.lo e.hi 1000001 0 (List.replicate n.toNat false) (by omega) (by have := e.fits.1; omega) (by simp) (by decide) (by omega) e.fits.1 (fun v v0 v1 hv => by
          unfold rdOf at hv
          rw [List.getD_eq_getElem?_getD, List.getElem?_replicate, if_pos (by omega)] at hv
          cases hv)
        have := o2.yes _ rest w2 (fun i hi => by cases hi)
        subst this
        exact ⟨_, w1, Ev.bind c (Ev.itep rfl (Ev.iten (by omega) (Ev.iten (by omega) (Ev.itep d0 (Ev.itep (by show dest < (fe.1.length : Int); omega) (Ev.iten (by show ¬ rd fe.1 dest < 0; omega) (Ev.itep (by omega) (Ev.itep (by omega) (Ev.bind o1 (Ev.eq rfl)))))))))), by simp; omega⟩
    · exact absurd b.1 (e _)
    · exact absurd e.fits (b _)
    · exact ⟨[], Ev.bind a (Ev.eq rfl), Ev.bind c (Ev.iten (by decide) (Ev.eq rfl)), by simp⟩
theorem PathsWay (n : Int) (l : List S34) (dest : Int) {P0 P1 P2 : Prop} (h0 : P0) (h1 : P1) (h2 : P2) : ∃ k, carrefourlaw14_PathsWay.f k n l dest = some true := by
  suffices h : Ev (fun k => carrefourlaw14_PathsWay.f k n l dest) true by obtain ⟨K, h⟩ := h; exact ⟨K, h K (Nat.le_refl _)⟩
  obtain ⟨t, ht, hf⟩ := few_ev n l
  refine Ev.bind (Ev.eq ht) ?_
  have no : Ev (fun k => carrefourlaw14_PathsWay.j0 k n l dest true) true := Ev.step (fun k => by rw [carrefourlaw14_PathsWay.j0]) (Ev.itep rfl (Ev.bind awake_ev (Ev.eq rfl)))
  by_cases c : t = true
  · obtain ⟨hl, _⟩ := hf c
    obtain ⟨s, s1, s2⟩ := simple_l0 hl l.length 0 (by omega)
    rw [List.drop_zero] at s2
    refine Ev.itep c (Ev.bind (g := fun k => carrefourlaw14_simple.f k l) s1 ?_)
    cases s with
    | false => exact no
    | true =>
      obtain ⟨r, a, b, hr⟩ := ways_same (n := n) (dest := dest) hl (s2 rfl)
      exact Ev.step (fun k => by rw [carrefourlaw14_PathsWay.j0]) (Ev.iten (by decide) (Ev.bind a (Ev.bind b (Ev.itep rfl (same_way hr r.length 0 (by omega))))))
  · exact Ev.iten c no
end Go.Proofs.YtcdddmaibchjjaaDoor.Pure
