/- How the parameters of the law WebsterAllowed read: as the kinds of the walks.
   Conditions: none. -/
import Derived.Test.YtpdmiookdmncpaaDoorXRead
import Derived.Test.YtpdmiookdmncpaaDoorX0
import Derived.KernelRfl
namespace Go.Proofs.YtpdmiookdmncpaaDoor.X
open Go.RowKit Go.Proofs.YtpdmiookdmncpaaDoorW.PrintWords Go.Proofs.YtpdmiookdmncpaaDoorW.PrintLast Go.Proofs.YtpdmiookdmncpaaDoorW.PrintMore
set_option linter.unusedVariables false
namespace KWebsterAllowed
theorem rk2 : Rk Tryd.prog 2 (Kd.int .i64) (fun n => (Lit.int .i64 n).wf = true) := Rk.int Tryd.underlying2
def F23P (x : (Int × Int)) : Prop := ((Lit.int .i64 x.1).wf = true) ∧ (Lit.int .i64 x.2).wf = true
theorem rk23P : Rk Tryd.prog 23 (Kd.pair (Kd.int .i64) (Kd.int .i64)) F23P := Rk.structP Tryd.underlying23 (by kernel_rfl) (RkL.cons (by kernel_rfl) rk2 (by kernel_rfl) (RkL.one (by kernel_rfl) rk2))
theorem rk9 : Rk Tryd.prog 9 Kd.string (fun s => s.size ≤ maxLen) := Rk.string Tryd.underlying9
def F23 (x : S23) : Prop := ((Lit.int .i64 x.f0).wf = true) ∧ ((Lit.int .i64 x.f1).wf = true)
theorem rk23 : Rk Tryd.prog 23 k23 F23 := Rk.struct (fun x : S23 => (x.f0, x.f1)) (fun p => ⟨p.1, p.2⟩) Tryd.underlying23 (by kernel_rfl) (RkL.cons (by kernel_rfl) rk2 (by kernel_rfl) (RkL.one (by kernel_rfl) rk2)) (fun _ => rfl)
theorem rk3 : Rk Tryd.prog 3 (Kd.int .i64) (fun n => (Lit.int .i64 n).wf = true) := Rk.int Tryd.underlying3
def F130 (x : S130) : Prop := (x.f0.size ≤ maxLen) ∧ ((Lit.int .i64 x.f1).wf = true) ∧ ((Lit.int .i64 x.f2).wf = true) ∧ (F23 x.f3) ∧ ((Lit.int .i64 x.f4).wf = true) ∧ ((Lit.int .i64 x.f5).wf = true) ∧ ((Lit.int .i64 x.f6).wf = true) ∧ ((Lit.int .i64 x.f7).wf = true) ∧ ((Lit.int .i64 x.f8).wf = true) ∧ ((Lit.int .i64 x.f9).wf = true)
theorem rk130 : Rk Tryd.prog 130 k130 F130 := Rk.struct (fun x : S130 => (x.f0, x.f1, x.f2, x.f3, x.f4, x.f5, x.f6, x.f7, x.f8, x.f9)) (fun p => ⟨p.1, p.2.1, p.2.2.1, p.2.2.2.1, p.2.2.2.2.1, p.2.2.2.2.2.1, p.2.2.2.2.2.2.1, p.2.2.2.2.2.2.2.1, p.2.2.2.2.2.2.2.2.1, p.2.2.2.2.2.2.2.2.2⟩) Tryd.underlying130 (by kernel_rfl) (RkL.cons (by kernel_rfl) rk9 (by kernel_rfl) (RkL.cons (by kernel_rfl) rk2 (by kernel_rfl) (RkL.cons (by kernel_rfl) rk2 (by kernel_rfl) (RkL.cons (by kernel_rfl) rk23 (by kernel_rfl) (RkL.cons (by kernel_rfl) rk2 (by kernel_rfl) (RkL.cons (by kernel_rfl) rk2 (by kernel_rfl) (RkL.cons (by kernel_rfl) rk2 (by kernel_rfl) (RkL.cons (by kernel_rfl) rk2 (by kernel_rfl) (RkL.cons (by kernel_rfl) rk2 (by kernel_rfl) (RkL.one (by kernel_rfl) rk3)))))))))) (fun _ => rfl)
theorem rk49 : Rk Tryd.prog 49 (Kd.slice 130 k130) (fun l => l.length ≤ maxLen ∧ ∀ a ∈ l, F130 a) := Rk.slice Tryd.underlying49 (by kernel_rfl) rk130
def F132 (x : S132) : Prop := (x.f0.size ≤ maxLen) ∧ (x.f1.size ≤ maxLen) ∧ ((Lit.int .i64 x.f2).wf = true) ∧ ((Lit.int .i64 x.f3).wf = true) ∧ ((Lit.int .i64 x.f4).wf = true) ∧ ((Lit.int .i64 x.f5).wf = true)
theorem rk132 : Rk Tryd.prog 132 k132 F132 := Rk.struct (fun x : S132 => (x.f0, x.f1, x.f2, x.f3, x.f4, x.f5)) (fun p => ⟨p.1, p.2.1, p.2.2.1, p.2.2.2.1, p.2.2.2.2.1, p.2.2.2.2.2⟩) Tryd.underlying132 (by kernel_rfl) (RkL.cons (by kernel_rfl) rk9 (by kernel_rfl) (RkL.cons (by kernel_rfl) rk9 (by kernel_rfl) (RkL.cons (by kernel_rfl) rk2 (by kernel_rfl) (RkL.cons (by kernel_rfl) rk2 (by kernel_rfl) (RkL.cons (by kernel_rfl) rk2 (by kernel_rfl) (RkL.one (by kernel_rfl) rk3)))))) (fun _ => rfl)
theorem rk50 : Rk Tryd.prog 50 (Kd.slice 132 k132) (fun l => l.length ≤ maxLen ∧ ∀ a ∈ l, F132 a) := Rk.slice Tryd.underlying50 (by kernel_rfl) rk132
theorem rk88 : Rk Tryd.prog 88 (Kd.slice 9 Kd.string) (fun l => l.length ≤ maxLen ∧ ∀ a ∈ l, (fun s => s.size ≤ maxLen) a) := Rk.slice Tryd.underlying88 (by kernel_rfl) rk9
def F90 (x : S90) : Prop := (x.f0.size ≤ maxLen) ∧ ((fun l => l.length ≤ maxLen ∧ ∀ a ∈ l, (fun s => s.size ≤ maxLen) a) x.f1) ∧ ((Lit.int .i64 x.f2).wf = true)
theorem rk90 : Rk Tryd.prog 90 k90 F90 := Rk.struct (fun x : S90 => (x.f0, x.f1, x.f2)) (fun p => ⟨p.1, p.2.1, p.2.2⟩) Tryd.underlying90 (by kernel_rfl) (RkL.cons (by kernel_rfl) rk9 (by kernel_rfl) (RkL.cons (by kernel_rfl) rk88 (by kernel_rfl) (RkL.one (by kernel_rfl) rk3))) (fun _ => rfl)
theorem rk51 : Rk Tryd.prog 51 (Kd.slice 90 k90) (fun l => l.length ≤ maxLen ∧ ∀ a ∈ l, F90 a) := Rk.slice Tryd.underlying51 (by kernel_rfl) rk90
theorem rk4 : Rk Tryd.prog 4 Kd.bool (fun _ => True) := Rk.bool Tryd.underlying4
def F92 (x : S92) : Prop := (True) ∧ ((fun l => l.length ≤ maxLen ∧ ∀ a ∈ l, (fun s => s.size ≤ maxLen) a) x.f1)
theorem rk92 : Rk Tryd.prog 92 k92 F92 := Rk.struct (fun x : S92 => (x.f0, x.f1)) (fun p => ⟨p.1, p.2⟩) Tryd.underlying92 (by kernel_rfl) (RkL.cons (by kernel_rfl) rk4 (by kernel_rfl) (RkL.one (by kernel_rfl) rk88)) (fun _ => rfl)
theorem rk58 : Rk Tryd.prog 58 (Kd.slice 92 k92) (fun l => l.length ≤ maxLen ∧ ∀ a ∈ l, F92 a) := Rk.slice Tryd.underlying58 (by kernel_rfl) rk92
def F60 (x : S60) : Prop := ((fun l => l.length ≤ maxLen ∧ ∀ a ∈ l, F92 a) x.f0)
theorem rk60 : Rk Tryd.prog 60 k60 F60 := Rk.struct (fun x : S60 => x.f0) (fun p => ⟨p⟩) Tryd.underlying60 (by kernel_rfl) (RkL.one (by kernel_rfl) rk58) (fun _ => rfl)
theorem rk52 : Rk Tryd.prog 52 (Kd.slice 60 k60) (fun l => l.length ≤ maxLen ∧ ∀ a ∈ l, F60 a) := Rk.slice Tryd.underlying52 (by kernel_rfl) rk60
def F134 (x : S134) : Prop := (x.f0.size ≤ maxLen) ∧ (x.f1.size ≤ maxLen) ∧ ((Lit.int .i64 x.f2).wf = true)
theorem rk134 : Rk Tryd.prog 134 k134 F134 := Rk.struct (fun x : S134 => (x.f0, x.f1, x.f2)) (fun p => ⟨p.1, p.2.1, p.2.2⟩) Tryd.underlying134 (by kernel_rfl) (RkL.cons (by kernel_rfl) rk9 (by kernel_rfl) (RkL.cons (by kernel_rfl) rk9 (by kernel_rfl) (RkL.one (by kernel_rfl) rk3))) (fun _ => rfl)
theorem rk53 : Rk Tryd.prog 53 (Kd.slice 134 k134) (fun l => l.length ≤ maxLen ∧ ∀ a ∈ l, F134 a) := Rk.slice Tryd.underlying53 (by kernel_rfl) rk134
def F55 (x : S55) : Prop := (x.f0.size ≤ maxLen) ∧ ((fun l => l.length ≤ maxLen ∧ ∀ a ∈ l, F130 a) x.f1) ∧ ((fun l => l.length ≤ maxLen ∧ ∀ a ∈ l, F132 a) x.f2) ∧ ((fun l => l.length ≤ maxLen ∧ ∀ a ∈ l, F90 a) x.f3) ∧ ((fun l => l.length ≤ maxLen ∧ ∀ a ∈ l, F60 a) x.f4) ∧ ((fun l => l.length ≤ maxLen ∧ ∀ a ∈ l, F134 a) x.f5) ∧ ((Lit.int .i64 x.f6).wf = true)
theorem rk55 : Rk Tryd.prog 55 k55 F55 := Rk.struct (fun x : S55 => (x.f0, x.f1, x.f2, x.f3, x.f4, x.f5, x.f6)) (fun p => ⟨p.1, p.2.1, p.2.2.1, p.2.2.2.1, p.2.2.2.2.1, p.2.2.2.2.2.1, p.2.2.2.2.2.2⟩) Tryd.underlying55 (by kernel_rfl) (RkL.cons (by kernel_rfl) rk9 (by kernel_rfl) (RkL.cons (by kernel_rfl) rk49 (by kernel_rfl) (RkL.cons (by kernel_rfl) rk50 (by kernel_rfl) (RkL.cons (by kernel_rfl) rk51 (by kernel_rfl) (RkL.cons (by kernel_rfl) rk52 (by kernel_rfl) (RkL.cons (by kernel_rfl) rk53 (by kernel_rfl) (RkL.one (by kernel_rfl) rk3))))))) (fun _ => rfl)
theorem rk29 : Rk Tryd.prog 29 (Kd.slice 55 k55) (fun l => l.length ≤ maxLen ∧ ∀ a ∈ l, F55 a) := Rk.slice Tryd.underlying29 (by kernel_rfl) rk55
def F120 (x : S120) : Prop := (x.f0.size ≤ maxLen) ∧ (x.f1.size ≤ maxLen) ∧ (x.f2.size ≤ maxLen) ∧ ((Lit.int .i64 x.f3).wf = true) ∧ ((Lit.int .i64 x.f4).wf = true) ∧ ((Lit.int .i64 x.f5).wf = true)
theorem rk120 : Rk Tryd.prog 120 k120 F120 := Rk.struct (fun x : S120 => (x.f0, x.f1, x.f2, x.f3, x.f4, x.f5)) (fun p => ⟨p.1, p.2.1, p.2.2.1, p.2.2.2.1, p.2.2.2.2.1, p.2.2.2.2.2⟩) Tryd.underlying120 (by kernel_rfl) (RkL.cons (by kernel_rfl) rk9 (by kernel_rfl) (RkL.cons (by kernel_rfl) rk9 (by kernel_rfl) (RkL.cons (by kernel_rfl) rk9 (by kernel_rfl) (RkL.cons (by kernel_rfl) rk2 (by kernel_rfl) (RkL.cons (by kernel_rfl) rk2 (by kernel_rfl) (RkL.one (by kernel_rfl) rk3)))))) (fun _ => rfl)
theorem rk30 : Rk Tryd.prog 30 (Kd.slice 120 k120) (fun l => l.length ≤ maxLen ∧ ∀ a ∈ l, F120 a) := Rk.slice Tryd.underlying30 (by kernel_rfl) rk120
def F32P (x : (Int × Int × Int × (Int × Int) × (List S55) × (List S120) × Int × Int)) : Prop := ((Lit.int .i64 x.1).wf = true) ∧ ((Lit.int .i64 x.2.1).wf = true) ∧ ((Lit.int .i64 x.2.2.1).wf = true) ∧ (F23P x.2.2.2.1) ∧ ((fun l => l.length ≤ maxLen ∧ ∀ a ∈ l, F55 a) x.2.2.2.2.1) ∧ ((fun l => l.length ≤ maxLen ∧ ∀ a ∈ l, F120 a) x.2.2.2.2.2.1) ∧ ((Lit.int .i64 x.2.2.2.2.2.2.1).wf = true) ∧ (Lit.int .i64 x.2.2.2.2.2.2.2).wf = true
theorem rk32P : Rk Tryd.prog 32 (Kd.pair (Kd.int .i64) (Kd.pair (Kd.int .i64) (Kd.pair (Kd.int .i64) (Kd.pair (Kd.pair (Kd.int .i64) (Kd.int .i64)) (Kd.pair (Kd.slice 55 k55) (Kd.pair (Kd.slice 120 k120) (Kd.pair (Kd.int .i64) (Kd.int .i64)))))))) F32P := Rk.structP Tryd.underlying32 (by kernel_rfl) (RkL.cons (by kernel_rfl) rk2 (by kernel_rfl) (RkL.cons (by kernel_rfl) rk2 (by kernel_rfl) (RkL.cons (by kernel_rfl) rk2 (by kernel_rfl) (RkL.cons (by kernel_rfl) rk23P (by kernel_rfl) (RkL.cons (by kernel_rfl) rk29 (by kernel_rfl) (RkL.cons (by kernel_rfl) rk30 (by kernel_rfl) (RkL.cons (by kernel_rfl) rk2 (by kernel_rfl) (RkL.one (by kernel_rfl) rk2))))))))
end KWebsterAllowed
end Go.Proofs.YtpdmiookdmncpaaDoor.X
