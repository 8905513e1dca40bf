/- What the functions of packages whole and carrefourref01 come to, by numbers alone: products, quotients, comparisons, roots.
   Conditions: as each theorem's head says. -/
import Derived.Test.YtcdaedhphdmnoaaDoorP01b
namespace Go.Proofs.YtcdaedhphdmnoaaDoor.Pure
set_option linter.unusedVariables false
open Go.RowKit Go.Proofs.YtcdaedhphdmnoaaDoor.X Go.Proofs.YtcdaedhphdmnoaaDoorW.PrintWords Go.Proofs.YtcdaedhphdmnoaaDoorW.PrintLast Go.Proofs.YtcdaedhphdmnoaaDoorW.PrintMore

theorem fit_in {n : Int} (h : I64 n) : fit n = (n, 0) := by unfold I64 at h; unfold fit; rw [if_pos h]
end Go.Proofs.YtcdaedhphdmnoaaDoor.Pure
