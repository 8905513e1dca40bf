/- How the parameters of the law DemandRatio read: as the kinds of the walks.
   Conditions: none. -/
import Derived.Test.YtcdaedhphdmnoaaGreatDoorXRead
import Derived.Test.YtcdaedhphdmnoaaGreatDoorX0
import Derived.KernelRfl
namespace Go.Proofs.YtcdaedhphdmnoaaGreatDoor.X
open Go.RowKit Go.Proofs.YtcdaedhphdmnoaaGreatDoorW.PrintWords Go.Proofs.YtcdaedhphdmnoaaGreatDoorW.PrintLast Go.Proofs.YtcdaedhphdmnoaaGreatDoorW.PrintMore
set_option linter.unusedVariables false
set_option maxRecDepth 100000
namespace KDemandRatio
theorem rk9 : Rk Tryz.prog 9 Kd.string (fun s => s.size ≤ maxLen) := Rk.string Tryz.underlying9
theorem rk2 : Rk Tryz.prog 2 (Kd.int .i64) (fun n => (Lit.int .i64 n).wf = true) := Rk.int Tryz.underlying2
def F23P (x : (Int × Int)) : Prop := ((Lit.int .i64 x.1).wf = true) ∧ (Lit.int .i64 x.2).wf = true
theorem rk23P : Rk Tryz.prog 23 (Kd.pair (Kd.int .i64) (Kd.int .i64)) F23P := Rk.structP Tryz.underlying23 (by kernel_rfl) (RkL.cons (by kernel_rfl) rk2 (by kernel_rfl) (RkL.one (by kernel_rfl) rk2))
theorem rk3 : Rk Tryz.prog 3 (Kd.int .i64) (fun n => (Lit.int .i64 n).wf = true) := Rk.int Tryz.underlying3
def F25P (x : (ByteArray × Int × Int × (Int × Int) × Int × Int × Int × Int × Int × Int)) : Prop := (x.1.size ≤ maxLen) ∧ ((Lit.int .i64 x.2.1).wf = true) ∧ ((Lit.int .i64 x.2.2.1).wf = true) ∧ (F23P x.2.2.2.1) ∧ ((Lit.int .i64 x.2.2.2.2.1).wf = true) ∧ ((Lit.int .i64 x.2.2.2.2.2.1).wf = true) ∧ ((Lit.int .i64 x.2.2.2.2.2.2.1).wf = true) ∧ ((Lit.int .i64 x.2.2.2.2.2.2.2.1).wf = true) ∧ ((Lit.int .i64 x.2.2.2.2.2.2.2.2.1).wf = true) ∧ (Lit.int .i64 x.2.2.2.2.2.2.2.2.2).wf = true
theorem rk25P : Rk Tryz.prog 25 (Kd.pair Kd.string (Kd.pair (Kd.int .i64) (Kd.pair (Kd.int .i64) (Kd.pair (Kd.pair (Kd.int .i64) (Kd.int .i64)) (Kd.pair (Kd.int .i64) (Kd.pair (Kd.int .i64) (Kd.pair (Kd.int .i64) (Kd.pair (Kd.int .i64) (Kd.pair (Kd.int .i64) (Kd.int .i64)))))))))) F25P := Rk.structP Tryz.underlying25 (by kernel_rfl) (RkL.cons (by kernel_rfl) rk9 (by kernel_rfl) (RkL.cons (by kernel_rfl) rk2 (by kernel_rfl) (RkL.cons (by kernel_rfl) rk2 (by kernel_rfl) (RkL.cons (by kernel_rfl) rk23P (by kernel_rfl) (RkL.cons (by kernel_rfl) rk2 (by kernel_rfl) (RkL.cons (by kernel_rfl) rk2 (by kernel_rfl) (RkL.cons (by kernel_rfl) rk2 (by kernel_rfl) (RkL.cons (by kernel_rfl) rk2 (by kernel_rfl) (RkL.cons (by kernel_rfl) rk2 (by kernel_rfl) (RkL.one (by kernel_rfl) rk3))))))))))
end KDemandRatio
end Go.Proofs.YtcdaedhphdmnoaaGreatDoor.X
