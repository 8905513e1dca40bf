/- How the parameters of the law WholeCompare read: as the kinds of the walks.
   Conditions: none. -/
import Derived.Test.YtalmfdfeoglikaaXRead
import Derived.Test.YtalmfdfeoglikaaX0
import Derived.KernelRfl
namespace Go.Proofs.Ytalmfdfeoglikaa.X
open Go.RowKit Go.Proofs.YtalmfdfeoglikaaW.PrintWords Go.Proofs.YtalmfdfeoglikaaW.PrintLast Go.Proofs.YtalmfdfeoglikaaW.PrintMore
set_option linter.unusedVariables false
namespace KWholeCompare
theorem rk2 : Rk Try.prog 2 (Kd.int .i64) (fun n => (Lit.int .i64 n).wf = true) := Rk.int Try.underlying2
def F31P (x : (Int × Int × Int × Int)) : Prop := ((Lit.int .i64 x.1).wf = true) ∧ ((Lit.int .i64 x.2.1).wf = true) ∧ ((Lit.int .i64 x.2.2.1).wf = true) ∧ (Lit.int .i64 x.2.2.2).wf = true
theorem rk31P : Rk Try.prog 31 (Kd.pair (Kd.int .i64) (Kd.pair (Kd.int .i64) (Kd.pair (Kd.int .i64) (Kd.int .i64)))) F31P := Rk.arrayP Try.underlying31 (by kernel_rfl) (RkL.cons (by kernel_rfl) rk2 (by kernel_rfl) (RkL.cons (by kernel_rfl) rk2 (by kernel_rfl) (RkL.cons (by kernel_rfl) rk2 (by kernel_rfl) (RkL.one (by kernel_rfl) rk2))))
end KWholeCompare
end Go.Proofs.Ytalmfdfeoglikaa.X
