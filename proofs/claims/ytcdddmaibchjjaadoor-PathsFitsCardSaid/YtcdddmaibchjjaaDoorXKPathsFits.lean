/- How the parameters of the law PathsFits read: as the kinds of the walks.
   Conditions: none. -/
import Derived.Test.YtcdddmaibchjjaaDoorXRead
import Derived.Test.YtcdddmaibchjjaaDoorX0
import Derived.KernelRfl
namespace Go.Proofs.YtcdddmaibchjjaaDoor.X
open Go.RowKit Go.Proofs.YtcdddmaibchjjaaDoorW.PrintWords Go.Proofs.YtcdddmaibchjjaaDoorW.PrintLast Go.Proofs.YtcdddmaibchjjaaDoorW.PrintMore
set_option linter.unusedVariables false
set_option maxRecDepth 100000
namespace KPathsFits
theorem rk3 : Rk Tryd.prog 3 (Kd.int .i64) (fun n => (Lit.int .i64 n).wf = true) := Rk.int Tryd.underlying3
theorem rk2 : Rk Tryd.prog 2 (Kd.int .i64) (fun n => (Lit.int .i64 n).wf = true) := Rk.int Tryd.underlying2
def F34 (x : S34) : Prop := ((Lit.int .i64 x.f0).wf = true) ∧ ((Lit.int .i64 x.f1).wf = true) ∧ ((Lit.int .i64 x.f2).wf = true)
theorem rk34 : Rk Tryd.prog 34 k34 F34 := Rk.struct (fun x : S34 => (x.f0, x.f1, x.f2)) (fun p => ⟨p.1, p.2.1, p.2.2⟩) Tryd.underlying34 (by kernel_rfl) (RkL.cons (by kernel_rfl) rk3 (by kernel_rfl) (RkL.cons (by kernel_rfl) rk3 (by kernel_rfl) (RkL.one (by kernel_rfl) rk2))) (fun _ => rfl)
theorem rk22 : Rk Tryd.prog 22 (Kd.slice 34 k34) (fun l => l.length ≤ maxLen ∧ ∀ a ∈ l, F34 a) := Rk.slice Tryd.underlying22 (by kernel_rfl) rk34
end KPathsFits
end Go.Proofs.YtcdddmaibchjjaaDoor.X
