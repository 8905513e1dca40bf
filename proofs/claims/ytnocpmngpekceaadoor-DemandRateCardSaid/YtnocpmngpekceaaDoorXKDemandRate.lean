/- How the parameters of the law DemandRate read: as the kinds of the walks.
   Conditions: none. -/
import Derived.Test.YtnocpmngpekceaaDoorXRead
import Derived.Test.YtnocpmngpekceaaDoorX0
import Derived.KernelRfl
namespace Go.Proofs.YtnocpmngpekceaaDoor.X
open Go.RowKit Go.Proofs.YtnocpmngpekceaaDoorW.PrintWords Go.Proofs.YtnocpmngpekceaaDoorW.PrintLast Go.Proofs.YtnocpmngpekceaaDoorW.PrintMore
set_option linter.unusedVariables false
set_option maxRecDepth 100000
namespace KDemandRate
theorem rk2 : Rk Tryd.prog 2 (Kd.int .i64) (fun n => (Lit.int .i64 n).wf = true) := Rk.int Tryd.underlying2
def F23P (x : (Int × Int)) : Prop := ((Lit.int .i64 x.1).wf = true) ∧ (Lit.int .i64 x.2).wf = true
theorem rk23P : Rk Tryd.prog 23 (Kd.pair (Kd.int .i64) (Kd.int .i64)) F23P := Rk.structP Tryd.underlying23 (by kernel_rfl) (RkL.cons (by kernel_rfl) rk2 (by kernel_rfl) (RkL.one (by kernel_rfl) rk2))
end KDemandRate
end Go.Proofs.YtnocpmngpekceaaDoor.X
