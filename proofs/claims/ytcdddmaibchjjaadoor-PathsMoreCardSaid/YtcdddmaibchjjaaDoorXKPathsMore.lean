/- How the parameters of the law PathsMore read: as the kinds of the walks.
   Conditions: none. -/
import Derived.Test.YtcdddmaibchjjaaDoorXRead
import Derived.Test.YtcdddmaibchjjaaDoorX0
import Derived.KernelRfl
namespace Go.Proofs.YtcdddmaibchjjaaDoor.X
open Go.RowKit Go.Proofs.YtcdddmaibchjjaaDoorW.PrintWords Go.Proofs.YtcdddmaibchjjaaDoorW.PrintLast Go.Proofs.YtcdddmaibchjjaaDoorW.PrintMore
set_option linter.unusedVariables false
set_option maxRecDepth 100000
namespace KPathsMore
theorem rk3 : Rk Tryd.prog 3 (Kd.int .i64) (fun n => (Lit.int .i64 n).wf = true) := Rk.int Tryd.underlying3
theorem rk2 : Rk Tryd.prog 2 (Kd.int .i64) (fun n => (Lit.int .i64 n).wf = true) := Rk.int Tryd.underlying2
def F34 (x : S34) : Prop := ((Lit.int .i64 x.f0).wf = true) ∧ ((Lit.int .i64 x.f1).wf = true) ∧ ((Lit.int .i64 x.f2).wf = true)
theorem rk34 : Rk Tryd.prog 34 k34 F34 := Rk.struct (fun x : S34 => (x.f0, x.f1, x.f2)) (fun p => ⟨p.1, p.2.1, p.2.2⟩) Tryd.underlying34 (by kernel_rfl) (RkL.cons (by kernel_rfl) rk3 (by kernel_rfl) (RkL.cons (by kernel_rfl) rk3 (by kernel_rfl) (RkL.one (by kernel_rfl) rk2))) (fun _ => rfl)
theorem rk22 : Rk Tryd.prog 22 (Kd.slice 34 k34) (fun l => l.length ≤ maxLen ∧ ∀ a ∈ l, F34 a) := Rk.slice Tryd.underlying22 (by kernel_rfl) rk34
def F34P (x : (Int × Int × Int)) : Prop := ((Lit.int .i64 x.1).wf = true) ∧ ((Lit.int .i64 x.2.1).wf = true) ∧ (Lit.int .i64 x.2.2).wf = true
theorem rk34P : Rk Tryd.prog 34 (Kd.pair (Kd.int .i64) (Kd.pair (Kd.int .i64) (Kd.int .i64))) F34P := Rk.structP Tryd.underlying34 (by kernel_rfl) (RkL.cons (by kernel_rfl) rk3 (by kernel_rfl) (RkL.cons (by kernel_rfl) rk3 (by kernel_rfl) (RkL.one (by kernel_rfl) rk2)))
end KPathsMore
end Go.Proofs.YtcdddmaibchjjaaDoor.X
