/- What the laws PathsFits and PathsMore share: reading lists, the example, few. Plain lists.
   Conditions: as each theorem's head says. -/
import Derived.Test.YtcdddmaibchjjaaDoorXD
import Derived.Test.YtcdddmaibchjjaaDoorP14c
namespace Go.Proofs.YtcdddmaibchjjaaDoor.Pure
set_option linter.unusedVariables false
open Go.RowKit Go.Proofs.YtcdddmaibchjjaaDoor.X Go.Proofs.YtcdddmaibchjjaaDoorW.PrintWords Go.Proofs.YtcdddmaibchjjaaDoorW.PrintLast Go.Proofs.YtcdddmaibchjjaaDoorW.PrintMore
theorem w64 {x : Int} (h0 : -9223372036854775808 ≤ x) (h1 : x ≤ 9223372036854775807) : wrap64 x = x := by
  unfold wrap64
  omega
theorem Found.met {n : Nat} {l : List S34} {fe : List Int × List Int} (h : Found n l fe) : ∀ v : Int, 0 ≤ v → v < n → rd fe.1 v = -1 ∨ ∃ P, WkE l P ∧ P.head? = some (v, rd fe.1 v) := fun v h0 h1 => by
  rcases h.2.2 v h0 h1 with e | ⟨P, hP, hh, _⟩
  · exact .inl e
  · exact .inr ⟨P, hP, hh⟩
theorem awake_ev : Ev (fun k => carrefourlaw14_awake.f k) true := by
  have h1 : paths_Longest.f 20 3 [(⟨0, 1, 3⟩ : S34), (⟨1, 2, 4⟩ : S34), (⟨0, 2, 5⟩ : S34)] = some ([0, 3, 7], 0) := by decide +kernel
  have h2 : paths_Longest.f 20 3 [(⟨0, 1, 3⟩ : S34), (⟨1, 2, 4⟩ : S34), (⟨0, 2, 5⟩ : S34), (⟨2, 1, 0⟩ : S34)] = some ([], 140) := by decide +kernel
  have h3 : paths_Way.f 20 3 [(⟨0, 1, 3⟩ : S34), (⟨1, 2, 4⟩ : S34), (⟨0, 2, 5⟩ : S34)] 2 = some [0, 1, 2] := by decide +kernel
  exact Ev.bind (Ev.eq rfl) (Ev.bind (Ev.up Longest_up h1) (Ev.itep (by decide) (Ev.bind (Ev.up Longest_up h2) (Ev.bind (Ev.up Way_up h3) (Ev.itep rfl (Ev.itep rfl (Ev.itep (by decide) (Ev.itep rfl (Ev.itep (by decide) (Ev.itep rfl (Ev.itep rfl (Ev.itep rfl (Ev.itep (by decide) (Ev.eq rfl))))))))))))))
theorem few_ev (n : Int) (l : List S34) : ∃ t, carrefourlaw14_few.f n l = some t ∧ (t = true → l.length ≤ 60 ∧ (n ≤ 12 ∨ 64 < n)) := by
  unfold carrefourlaw14_few.f
  by_cases c : n ≤ 12
  · rw [if_pos c]
    refine ⟨_, rfl, fun h => ?_⟩
    have := of_decide_eq_true h
    omega
  · rw [if_neg c]
    by_cases c2 : n > 64
    · rw [if_pos c2]
      refine ⟨_, rfl, fun h => ?_⟩
      have := of_decide_eq_true h
      omega
    · rw [if_neg c2]
      exact ⟨_, rfl, fun h => by cases h⟩
end Go.Proofs.YtcdddmaibchjjaaDoor.Pure
