/- How the parameters of the law FracAll read: as the kinds of the walks.
   Conditions: none. -/
import Derived.Test.YtjgnaccamakpdaaDoorXRead
import Derived.Test.YtjgnaccamakpdaaDoorX0
import Derived.KernelRfl
namespace Go.Proofs.YtjgnaccamakpdaaDoor.X
open Go.RowKit Go.Proofs.YtjgnaccamakpdaaDoorW.PrintWords Go.Proofs.YtjgnaccamakpdaaDoorW.PrintLast Go.Proofs.YtjgnaccamakpdaaDoorW.PrintMore
set_option linter.unusedVariables false
set_option maxRecDepth 100000
namespace KFracAll
theorem rk2 : Rk Tryd.prog 2 (Kd.int .i64) (fun n => (Lit.int .i64 n).wf = true) := Rk.int Tryd.underlying2
def F23 (x : S23) : Prop := ((Lit.int .i64 x.f0).wf = true) ∧ ((Lit.int .i64 x.f1).wf = true)
theorem rk23 : Rk Tryd.prog 23 k23 F23 := Rk.struct (fun x : S23 => (x.f0, x.f1)) (fun p => ⟨p.1, p.2⟩) Tryd.underlying23 (by kernel_rfl) (RkL.cons (by kernel_rfl) rk2 (by kernel_rfl) (RkL.one (by kernel_rfl) rk2)) (fun _ => rfl)
theorem rk39 : Rk Tryd.prog 39 (Kd.slice 23 k23) (fun l => l.length ≤ maxLen ∧ ∀ a ∈ l, F23 a) := Rk.slice Tryd.underlying39 (by kernel_rfl) rk23
end KFracAll
end Go.Proofs.YtjgnaccamakpdaaDoor.X
