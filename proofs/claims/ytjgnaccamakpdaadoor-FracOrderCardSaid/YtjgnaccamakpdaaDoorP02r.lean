/- Fractions by rows of parts: what the functions of package carrefourref02 come to.
   Conditions: as each theorem's head says. -/
import Derived.Test.YtjgnaccamakpdaaDoorP02c
import Derived.Test.YtjgnaccamakpdaaDoorP01d
namespace Go.Proofs.YtjgnaccamakpdaaDoor.Pure
set_option linter.unusedVariables false
open Go.RowKit Go.Proofs.YtjgnaccamakpdaaDoor.X Go.Proofs.YtjgnaccamakpdaaDoorW.PrintWords Go.Proofs.YtjgnaccamakpdaaDoorW.PrintLast Go.Proofs.YtjgnaccamakpdaaDoorW.PrintMore

/-- A number, its double, and so on. -/
structure Dbl (l : List (List Int)) (B : Int) (L m : Nat) : Prop where
  len : l.length = m
  num : ∀ i, i < m → Num (l.getD i []) (2 ^ i * B) ∧ (l.getD i []).length ≤ L + i
theorem Dbl.snoc {l : List (List Int)} {B : Int} {L m : Nat} {t : List Int} (h : Dbl l B L m) (ht : Num t (2 ^ m * B)) (hl : t.length ≤ L + m) : Dbl (l ++ [t]) B L (m + 1) := by
  refine ⟨by simp [h.len], fun i hi => ?_⟩
  by_cases c : i < m
  · have e : (l ++ [t]).getD i [] = l.getD i [] := by
      rw [List.getD_eq_getElem?_getD, List.getD_eq_getElem?_getD, List.getElem?_append_left (by rw [h.len]; exact c)]
    rw [e]; exact h.num i c
  · obtain rfl : i = m := by omega
    have e : (l ++ [t]).getD i [] = t := by
      rw [List.getD_eq_getElem?_getD, List.getElem?_append_right (by rw [h.len]; omega), h.len]; simp
    rw [e]; exact ⟨ht, hl⟩
end Go.Proofs.YtjgnaccamakpdaaDoor.Pure
