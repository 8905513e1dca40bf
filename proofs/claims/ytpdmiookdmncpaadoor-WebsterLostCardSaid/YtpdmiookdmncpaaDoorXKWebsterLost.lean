/- How the parameters of the law WebsterLost read: as the kinds of the walks.
   Conditions: none. -/
import Derived.Test.YtpdmiookdmncpaaDoorXRead
import Derived.Test.YtpdmiookdmncpaaDoorX0
import Derived.KernelRfl
namespace Go.Proofs.YtpdmiookdmncpaaDoor.X
open Go.RowKit Go.Proofs.YtpdmiookdmncpaaDoorW.PrintWords Go.Proofs.YtpdmiookdmncpaaDoorW.PrintLast Go.Proofs.YtpdmiookdmncpaaDoorW.PrintMore
set_option linter.unusedVariables false
set_option maxRecDepth 100000
namespace KWebsterLost
theorem rk9 : Rk Tryd.prog 9 Kd.string (fun s => s.size ≤ maxLen) := Rk.string Tryd.underlying9
theorem rk2 : Rk Tryd.prog 2 (Kd.int .i64) (fun n => (Lit.int .i64 n).wf = true) := Rk.int Tryd.underlying2
def F23 (x : S23) : Prop := ((Lit.int .i64 x.f0).wf = true) ∧ ((Lit.int .i64 x.f1).wf = true)
theorem rk23 : Rk Tryd.prog 23 k23 F23 := Rk.struct (fun x : S23 => (x.f0, x.f1)) (fun p => ⟨p.1, p.2⟩) Tryd.underlying23 (by kernel_rfl) (RkL.cons (by kernel_rfl) rk2 (by kernel_rfl) (RkL.one (by kernel_rfl) rk2)) (fun _ => rfl)
def F167 (x : S167) : Prop := (x.f0.size ≤ maxLen) ∧ ((Lit.int .i64 x.f1).wf = true) ∧ ((Lit.int .i64 x.f2).wf = true)
theorem rk167 : Rk Tryd.prog 167 k167 F167 := Rk.struct (fun x : S167 => (x.f0, x.f1, x.f2)) (fun p => ⟨p.1, p.2.1, p.2.2⟩) Tryd.underlying167 (by kernel_rfl) (RkL.cons (by kernel_rfl) rk9 (by kernel_rfl) (RkL.cons (by kernel_rfl) rk2 (by kernel_rfl) (RkL.one (by kernel_rfl) rk2))) (fun _ => rfl)
theorem rk44 : Rk Tryd.prog 44 (Kd.slice 167 k167) (fun l => l.length ≤ maxLen ∧ ∀ a ∈ l, F167 a) := Rk.slice Tryd.underlying44 (by kernel_rfl) rk167
def F46 (x : S46) : Prop := (x.f0.size ≤ maxLen) ∧ ((Lit.int .i64 x.f1).wf = true) ∧ ((Lit.int .i64 x.f2).wf = true) ∧ ((Lit.int .i64 x.f3).wf = true) ∧ (F23 x.f4) ∧ ((fun l => l.length ≤ maxLen ∧ ∀ a ∈ l, F167 a) x.f5)
theorem rk46 : Rk Tryd.prog 46 k46 F46 := Rk.struct (fun x : S46 => (x.f0, x.f1, x.f2, x.f3, x.f4, x.f5)) (fun p => ⟨p.1, p.2.1, p.2.2.1, p.2.2.2.1, p.2.2.2.2.1, p.2.2.2.2.2⟩) Tryd.underlying46 (by kernel_rfl) (RkL.cons (by kernel_rfl) rk9 (by kernel_rfl) (RkL.cons (by kernel_rfl) rk2 (by kernel_rfl) (RkL.cons (by kernel_rfl) rk2 (by kernel_rfl) (RkL.cons (by kernel_rfl) rk2 (by kernel_rfl) (RkL.cons (by kernel_rfl) rk23 (by kernel_rfl) (RkL.one (by kernel_rfl) rk44)))))) (fun _ => rfl)
theorem rk42 : Rk Tryd.prog 42 (Kd.slice 46 k46) (fun l => l.length ≤ maxLen ∧ ∀ a ∈ l, F46 a) := Rk.slice Tryd.underlying42 (by kernel_rfl) rk46
theorem rk3 : Rk Tryd.prog 3 (Kd.int .i64) (fun n => (Lit.int .i64 n).wf = true) := Rk.int Tryd.underlying3
theorem rk43 : Rk Tryd.prog 43 (Kd.slice 3 (Kd.int .i64)) (fun l => l.length ≤ maxLen ∧ ∀ a ∈ l, (fun n => (Lit.int .i64 n).wf = true) a) := Rk.slice Tryd.underlying43 (by kernel_rfl) rk3
end KWebsterLost
end Go.Proofs.YtpdmiookdmncpaaDoor.X
