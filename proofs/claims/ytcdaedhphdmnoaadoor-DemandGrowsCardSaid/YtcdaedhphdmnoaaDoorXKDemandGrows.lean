/- How the parameters of the law DemandGrows read: as the kinds of the walks.
   Conditions: none. -/
import Derived.Test.YtcdaedhphdmnoaaDoorXRead
import Derived.Test.YtcdaedhphdmnoaaDoorX0
import Derived.KernelRfl
namespace Go.Proofs.YtcdaedhphdmnoaaDoor.X
open Go.RowKit Go.Proofs.YtcdaedhphdmnoaaDoorW.PrintWords Go.Proofs.YtcdaedhphdmnoaaDoorW.PrintLast Go.Proofs.YtcdaedhphdmnoaaDoorW.PrintMore
set_option linter.unusedVariables false
set_option maxRecDepth 100000
namespace KDemandGrows
theorem rk9 : Rk Tryd.prog 9 Kd.string (fun s => s.size ≤ maxLen) := Rk.string Tryd.underlying9
theorem rk2 : Rk Tryd.prog 2 (Kd.int .i64) (fun n => (Lit.int .i64 n).wf = true) := Rk.int Tryd.underlying2
def F23P (x : (Int × Int)) : Prop := ((Lit.int .i64 x.1).wf = true) ∧ (Lit.int .i64 x.2).wf = true
theorem rk23P : Rk Tryd.prog 23 (Kd.pair (Kd.int .i64) (Kd.int .i64)) F23P := Rk.structP Tryd.underlying23 (by kernel_rfl) (RkL.cons (by kernel_rfl) rk2 (by kernel_rfl) (RkL.one (by kernel_rfl) rk2))
theorem rk3 : Rk Tryd.prog 3 (Kd.int .i64) (fun n => (Lit.int .i64 n).wf = true) := Rk.int Tryd.underlying3
def F25P (x : (ByteArray × Int × Int × (Int × Int) × Int × Int × Int × Int × Int × Int)) : Prop := (x.1.size ≤ maxLen) ∧ ((Lit.int .i64 x.2.1).wf = true) ∧ ((Lit.int .i64 x.2.2.1).wf = true) ∧ (F23P x.2.2.2.1) ∧ ((Lit.int .i64 x.2.2.2.2.1).wf = true) ∧ ((Lit.int .i64 x.2.2.2.2.2.1).wf = true) ∧ ((Lit.int .i64 x.2.2.2.2.2.2.1).wf = true) ∧ ((Lit.int .i64 x.2.2.2.2.2.2.2.1).wf = true) ∧ ((Lit.int .i64 x.2.2.2.2.2.2.2.2.1).wf = true) ∧ (Lit.int .i64 x.2.2.2.2.2.2.2.2.2).wf = true
theorem rk25P : Rk Tryd.prog 25 (Kd.pair Kd.string (Kd.pair (Kd.int .i64) (Kd.pair (Kd.int .i64) (Kd.pair (Kd.pair (Kd.int .i64) (Kd.int .i64)) (Kd.pair (Kd.int .i64) (Kd.pair (Kd.int .i64) (Kd.pair (Kd.int .i64) (Kd.pair (Kd.int .i64) (Kd.pair (Kd.int .i64) (Kd.int .i64)))))))))) F25P := Rk.structP Tryd.underlying25 (by kernel_rfl) (RkL.cons (by kernel_rfl) rk9 (by kernel_rfl) (RkL.cons (by kernel_rfl) rk2 (by kernel_rfl) (RkL.cons (by kernel_rfl) rk2 (by kernel_rfl) (RkL.cons (by kernel_rfl) rk23P (by kernel_rfl) (RkL.cons (by kernel_rfl) rk2 (by kernel_rfl) (RkL.cons (by kernel_rfl) rk2 (by kernel_rfl) (RkL.cons (by kernel_rfl) rk2 (by kernel_rfl) (RkL.cons (by kernel_rfl) rk2 (by kernel_rfl) (RkL.cons (by kernel_rfl) rk2 (by kernel_rfl) (RkL.one (by kernel_rfl) rk3))))))))))
end KDemandGrows
end Go.Proofs.YtcdaedhphdmnoaaDoor.X
