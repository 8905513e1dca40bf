/- How the parameters of the law FracRing read: as the kinds of the walks.
   Conditions: none. -/
import Derived.Test.YtjgnaccamakpdaaDoorXRead
import Derived.Test.YtjgnaccamakpdaaDoorX0
import Derived.KernelRfl
namespace Go.Proofs.YtjgnaccamakpdaaDoor.X
open Go.RowKit Go.Proofs.YtjgnaccamakpdaaDoorW.PrintWords Go.Proofs.YtjgnaccamakpdaaDoorW.PrintLast Go.Proofs.YtjgnaccamakpdaaDoorW.PrintMore
set_option linter.unusedVariables false
set_option maxRecDepth 100000
namespace KFracRing
theorem rk2 : Rk Tryd.prog 2 (Kd.int .i64) (fun n => (Lit.int .i64 n).wf = true) := Rk.int Tryd.underlying2
def F23P (x : (Int × Int)) : Prop := ((Lit.int .i64 x.1).wf = true) ∧ (Lit.int .i64 x.2).wf = true
theorem rk23P : Rk Tryd.prog 23 (Kd.pair (Kd.int .i64) (Kd.int .i64)) F23P := Rk.structP Tryd.underlying23 (by kernel_rfl) (RkL.cons (by kernel_rfl) rk2 (by kernel_rfl) (RkL.one (by kernel_rfl) rk2))
def F33P (x : ((Int × Int) × (Int × Int) × (Int × Int))) : Prop := (F23P x.1) ∧ (F23P x.2.1) ∧ F23P x.2.2
theorem rk33P : Rk Tryd.prog 33 (Kd.pair (Kd.pair (Kd.int .i64) (Kd.int .i64)) (Kd.pair (Kd.pair (Kd.int .i64) (Kd.int .i64)) (Kd.pair (Kd.int .i64) (Kd.int .i64)))) F33P := Rk.arrayP Tryd.underlying33 (by kernel_rfl) (RkL.cons (by kernel_rfl) rk23P (by kernel_rfl) (RkL.cons (by kernel_rfl) rk23P (by kernel_rfl) (RkL.one (by kernel_rfl) rk23P)))
end KFracRing
end Go.Proofs.YtjgnaccamakpdaaDoor.X
