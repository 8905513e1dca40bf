/- What the functions of packages whole and carrefourref01 come to, by numbers alone: products, quotients, comparisons, roots.
   Conditions: as each theorem's head says. -/
import Derived.Test.YtfhokgkpcphmlaaGreatDoorP01b
namespace Go.Proofs.YtfhokgkpcphmlaaGreatDoor.Pure
set_option linter.unusedVariables false
open Go.RowKit Go.Proofs.YtfhokgkpcphmlaaGreatDoor.X Go.Proofs.YtfhokgkpcphmlaaGreatDoorW.PrintWords Go.Proofs.YtfhokgkpcphmlaaGreatDoorW.PrintLast Go.Proofs.YtfhokgkpcphmlaaGreatDoorW.PrintMore

theorem fit_in {n : Int} (h : I64 n) : fit n = (n, 0) := by unfold I64 at h; unfold fit; rw [if_pos h]
theorem fit_out {n : Int} (h : ¬ I64 n) : fit n = (0, 2) := by unfold I64 at h; unfold fit; rw [if_neg h]
/-! ### sums -/
end Go.Proofs.YtfhokgkpcphmlaaGreatDoor.Pure
