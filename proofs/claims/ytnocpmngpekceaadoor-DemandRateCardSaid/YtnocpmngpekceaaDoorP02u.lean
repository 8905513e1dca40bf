/- Fractions of package carrefourref02: sums, differences, order, roundings; and package frac's roundings.
   Conditions: as each theorem's head says. -/
import Derived.Test.YtnocpmngpekceaaDoorP02t
namespace Go.Proofs.YtnocpmngpekceaaDoor.Pure
set_option linter.unusedVariables false
open Go.RowKit Go.Proofs.YtnocpmngpekceaaDoor.X Go.Proofs.YtnocpmngpekceaaDoorW.PrintWords Go.Proofs.YtnocpmngpekceaaDoorW.PrintLast Go.Proofs.YtnocpmngpekceaaDoorW.PrintMore

theorem sgn_ge {x y : Int} : sgn x y ≥ 0 ↔ y ≤ x := by
  unfold sgn
  by_cases h : x < y
  · rw [if_pos h]; omega
  · rw [if_neg h]; split <;> omega
end Go.Proofs.YtnocpmngpekceaaDoor.Pure
