/- How the parameters of the law DemandTable read: as the kinds of the walks.
   Conditions: none. -/
import Derived.Test.YtfhokgkpcphmlaaGreatDoorXRead
import Derived.Test.YtfhokgkpcphmlaaGreatDoorX0
import Derived.KernelRfl
namespace Go.Proofs.YtfhokgkpcphmlaaGreatDoor.X
open Go.RowKit Go.Proofs.YtfhokgkpcphmlaaGreatDoorW.PrintWords Go.Proofs.YtfhokgkpcphmlaaGreatDoorW.PrintLast Go.Proofs.YtfhokgkpcphmlaaGreatDoorW.PrintMore
set_option linter.unusedVariables false
set_option maxRecDepth 100000
namespace KDemandTable
theorem rk2 : Rk Tryz.prog 2 (Kd.int .i64) (fun n => (Lit.int .i64 n).wf = true) := Rk.int Tryz.underlying2
def F23P (x : (Int × Int)) : Prop := ((Lit.int .i64 x.1).wf = true) ∧ (Lit.int .i64 x.2).wf = true
theorem rk23P : Rk Tryz.prog 23 (Kd.pair (Kd.int .i64) (Kd.int .i64)) F23P := Rk.structP Tryz.underlying23 (by kernel_rfl) (RkL.cons (by kernel_rfl) rk2 (by kernel_rfl) (RkL.one (by kernel_rfl) rk2))
theorem rk9 : Rk Tryz.prog 9 Kd.string (fun s => s.size ≤ maxLen) := Rk.string Tryz.underlying9
def F23 (x : S23) : Prop := ((Lit.int .i64 x.f0).wf = true) ∧ ((Lit.int .i64 x.f1).wf = true)
theorem rk23 : Rk Tryz.prog 23 k23 F23 := Rk.struct (fun x : S23 => (x.f0, x.f1)) (fun p => ⟨p.1, p.2⟩) Tryz.underlying23 (by kernel_rfl) (RkL.cons (by kernel_rfl) rk2 (by kernel_rfl) (RkL.one (by kernel_rfl) rk2)) (fun _ => rfl)
theorem rk3 : Rk Tryz.prog 3 (Kd.int .i64) (fun n => (Lit.int .i64 n).wf = true) := Rk.int Tryz.underlying3
def F48 (x : S48) : Prop := (x.f0.size ≤ maxLen) ∧ ((Lit.int .i64 x.f1).wf = true) ∧ ((Lit.int .i64 x.f2).wf = true) ∧ (F23 x.f3) ∧ ((Lit.int .i64 x.f4).wf = true) ∧ ((Lit.int .i64 x.f5).wf = true) ∧ ((Lit.int .i64 x.f6).wf = true) ∧ ((Lit.int .i64 x.f7).wf = true) ∧ ((Lit.int .i64 x.f8).wf = true) ∧ ((Lit.int .i64 x.f9).wf = true)
theorem rk48 : Rk Tryz.prog 48 k48 F48 := Rk.struct (fun x : S48 => (x.f0, x.f1, x.f2, x.f3, x.f4, x.f5, x.f6, x.f7, x.f8, x.f9)) (fun p => ⟨p.1, p.2.1, p.2.2.1, p.2.2.2.1, p.2.2.2.2.1, p.2.2.2.2.2.1, p.2.2.2.2.2.2.1, p.2.2.2.2.2.2.2.1, p.2.2.2.2.2.2.2.2.1, p.2.2.2.2.2.2.2.2.2⟩) Tryz.underlying48 (by kernel_rfl) (RkL.cons (by kernel_rfl) rk9 (by kernel_rfl) (RkL.cons (by kernel_rfl) rk2 (by kernel_rfl) (RkL.cons (by kernel_rfl) rk2 (by kernel_rfl) (RkL.cons (by kernel_rfl) rk23 (by kernel_rfl) (RkL.cons (by kernel_rfl) rk2 (by kernel_rfl) (RkL.cons (by kernel_rfl) rk2 (by kernel_rfl) (RkL.cons (by kernel_rfl) rk2 (by kernel_rfl) (RkL.cons (by kernel_rfl) rk2 (by kernel_rfl) (RkL.cons (by kernel_rfl) rk2 (by kernel_rfl) (RkL.one (by kernel_rfl) rk3)))))))))) (fun _ => rfl)
theorem rk36 : Rk Tryz.prog 36 (Kd.slice 48 k48) (fun l => l.length ≤ maxLen ∧ ∀ a ∈ l, F48 a) := Rk.slice Tryz.underlying36 (by kernel_rfl) rk48
def F54 (x : S54) : Prop := (x.f0.size ≤ maxLen) ∧ (x.f1.size ≤ maxLen) ∧ ((Lit.int .i64 x.f2).wf = true) ∧ ((Lit.int .i64 x.f3).wf = true) ∧ ((Lit.int .i64 x.f4).wf = true) ∧ ((Lit.int .i64 x.f5).wf = true)
theorem rk54 : Rk Tryz.prog 54 k54 F54 := Rk.struct (fun x : S54 => (x.f0, x.f1, x.f2, x.f3, x.f4, x.f5)) (fun p => ⟨p.1, p.2.1, p.2.2.1, p.2.2.2.1, p.2.2.2.2.1, p.2.2.2.2.2⟩) Tryz.underlying54 (by kernel_rfl) (RkL.cons (by kernel_rfl) rk9 (by kernel_rfl) (RkL.cons (by kernel_rfl) rk9 (by kernel_rfl) (RkL.cons (by kernel_rfl) rk2 (by kernel_rfl) (RkL.cons (by kernel_rfl) rk2 (by kernel_rfl) (RkL.cons (by kernel_rfl) rk2 (by kernel_rfl) (RkL.one (by kernel_rfl) rk3)))))) (fun _ => rfl)
theorem rk37 : Rk Tryz.prog 37 (Kd.slice 54 k54) (fun l => l.length ≤ maxLen ∧ ∀ a ∈ l, F54 a) := Rk.slice Tryz.underlying37 (by kernel_rfl) rk54
theorem rk46 : Rk Tryz.prog 46 (Kd.slice 9 Kd.string) (fun l => l.length ≤ maxLen ∧ ∀ a ∈ l, (fun s => s.size ≤ maxLen) a) := Rk.slice Tryz.underlying46 (by kernel_rfl) rk9
def F56 (x : S56) : Prop := (x.f0.size ≤ maxLen) ∧ ((fun l => l.length ≤ maxLen ∧ ∀ a ∈ l, (fun s => s.size ≤ maxLen) a) x.f1) ∧ ((Lit.int .i64 x.f2).wf = true)
theorem rk56 : Rk Tryz.prog 56 k56 F56 := Rk.struct (fun x : S56 => (x.f0, x.f1, x.f2)) (fun p => ⟨p.1, p.2.1, p.2.2⟩) Tryz.underlying56 (by kernel_rfl) (RkL.cons (by kernel_rfl) rk9 (by kernel_rfl) (RkL.cons (by kernel_rfl) rk46 (by kernel_rfl) (RkL.one (by kernel_rfl) rk3))) (fun _ => rfl)
theorem rk38 : Rk Tryz.prog 38 (Kd.slice 56 k56) (fun l => l.length ≤ maxLen ∧ ∀ a ∈ l, F56 a) := Rk.slice Tryz.underlying38 (by kernel_rfl) rk56
theorem rk4 : Rk Tryz.prog 4 Kd.bool (fun _ => True) := Rk.bool Tryz.underlying4
def F61 (x : S61) : Prop := (True) ∧ ((fun l => l.length ≤ maxLen ∧ ∀ a ∈ l, (fun s => s.size ≤ maxLen) a) x.f1)
theorem rk61 : Rk Tryz.prog 61 k61 F61 := Rk.struct (fun x : S61 => (x.f0, x.f1)) (fun p => ⟨p.1, p.2⟩) Tryz.underlying61 (by kernel_rfl) (RkL.cons (by kernel_rfl) rk4 (by kernel_rfl) (RkL.one (by kernel_rfl) rk46)) (fun _ => rfl)
theorem rk57 : Rk Tryz.prog 57 (Kd.slice 61 k61) (fun l => l.length ≤ maxLen ∧ ∀ a ∈ l, F61 a) := Rk.slice Tryz.underlying57 (by kernel_rfl) rk61
def F59 (x : S59) : Prop := ((fun l => l.length ≤ maxLen ∧ ∀ a ∈ l, F61 a) x.f0)
theorem rk59 : Rk Tryz.prog 59 k59 F59 := Rk.struct (fun x : S59 => x.f0) (fun p => ⟨p⟩) Tryz.underlying59 (by kernel_rfl) (RkL.one (by kernel_rfl) rk57) (fun _ => rfl)
theorem rk39 : Rk Tryz.prog 39 (Kd.slice 59 k59) (fun l => l.length ≤ maxLen ∧ ∀ a ∈ l, F59 a) := Rk.slice Tryz.underlying39 (by kernel_rfl) rk59
def F63 (x : S63) : Prop := (x.f0.size ≤ maxLen) ∧ (x.f1.size ≤ maxLen) ∧ ((Lit.int .i64 x.f2).wf = true)
theorem rk63 : Rk Tryz.prog 63 k63 F63 := Rk.struct (fun x : S63 => (x.f0, x.f1, x.f2)) (fun p => ⟨p.1, p.2.1, p.2.2⟩) Tryz.underlying63 (by kernel_rfl) (RkL.cons (by kernel_rfl) rk9 (by kernel_rfl) (RkL.cons (by kernel_rfl) rk9 (by kernel_rfl) (RkL.one (by kernel_rfl) rk3))) (fun _ => rfl)
theorem rk40 : Rk Tryz.prog 40 (Kd.slice 63 k63) (fun l => l.length ≤ maxLen ∧ ∀ a ∈ l, F63 a) := Rk.slice Tryz.underlying40 (by kernel_rfl) rk63
def F42 (x : S42) : Prop := (x.f0.size ≤ maxLen) ∧ ((fun l => l.length ≤ maxLen ∧ ∀ a ∈ l, F48 a) x.f1) ∧ ((fun l => l.length ≤ maxLen ∧ ∀ a ∈ l, F54 a) x.f2) ∧ ((fun l => l.length ≤ maxLen ∧ ∀ a ∈ l, F56 a) x.f3) ∧ ((fun l => l.length ≤ maxLen ∧ ∀ a ∈ l, F59 a) x.f4) ∧ ((fun l => l.length ≤ maxLen ∧ ∀ a ∈ l, F63 a) x.f5) ∧ ((Lit.int .i64 x.f6).wf = true)
theorem rk42 : Rk Tryz.prog 42 k42 F42 := Rk.struct (fun x : S42 => (x.f0, x.f1, x.f2, x.f3, x.f4, x.f5, x.f6)) (fun p => ⟨p.1, p.2.1, p.2.2.1, p.2.2.2.1, p.2.2.2.2.1, p.2.2.2.2.2.1, p.2.2.2.2.2.2⟩) Tryz.underlying42 (by kernel_rfl) (RkL.cons (by kernel_rfl) rk9 (by kernel_rfl) (RkL.cons (by kernel_rfl) rk36 (by kernel_rfl) (RkL.cons (by kernel_rfl) rk37 (by kernel_rfl) (RkL.cons (by kernel_rfl) rk38 (by kernel_rfl) (RkL.cons (by kernel_rfl) rk39 (by kernel_rfl) (RkL.cons (by kernel_rfl) rk40 (by kernel_rfl) (RkL.one (by kernel_rfl) rk3))))))) (fun _ => rfl)
theorem rk24 : Rk Tryz.prog 24 (Kd.slice 42 k42) (fun l => l.length ≤ maxLen ∧ ∀ a ∈ l, F42 a) := Rk.slice Tryz.underlying24 (by kernel_rfl) rk42
def F45 (x : S45) : Prop := (x.f0.size ≤ maxLen) ∧ (x.f1.size ≤ maxLen) ∧ (x.f2.size ≤ maxLen) ∧ ((Lit.int .i64 x.f3).wf = true) ∧ ((Lit.int .i64 x.f4).wf = true) ∧ ((Lit.int .i64 x.f5).wf = true)
theorem rk45 : Rk Tryz.prog 45 k45 F45 := Rk.struct (fun x : S45 => (x.f0, x.f1, x.f2, x.f3, x.f4, x.f5)) (fun p => ⟨p.1, p.2.1, p.2.2.1, p.2.2.2.1, p.2.2.2.2.1, p.2.2.2.2.2⟩) Tryz.underlying45 (by kernel_rfl) (RkL.cons (by kernel_rfl) rk9 (by kernel_rfl) (RkL.cons (by kernel_rfl) rk9 (by kernel_rfl) (RkL.cons (by kernel_rfl) rk9 (by kernel_rfl) (RkL.cons (by kernel_rfl) rk2 (by kernel_rfl) (RkL.cons (by kernel_rfl) rk2 (by kernel_rfl) (RkL.one (by kernel_rfl) rk3)))))) (fun _ => rfl)
theorem rk25 : Rk Tryz.prog 25 (Kd.slice 45 k45) (fun l => l.length ≤ maxLen ∧ ∀ a ∈ l, F45 a) := Rk.slice Tryz.underlying25 (by kernel_rfl) rk45
def F27P (x : (Int × Int × Int × (Int × Int) × (List S42) × (List S45) × Int × Int)) : Prop := ((Lit.int .i64 x.1).wf = true) ∧ ((Lit.int .i64 x.2.1).wf = true) ∧ ((Lit.int .i64 x.2.2.1).wf = true) ∧ (F23P x.2.2.2.1) ∧ ((fun l => l.length ≤ maxLen ∧ ∀ a ∈ l, F42 a) x.2.2.2.2.1) ∧ ((fun l => l.length ≤ maxLen ∧ ∀ a ∈ l, F45 a) x.2.2.2.2.2.1) ∧ ((Lit.int .i64 x.2.2.2.2.2.2.1).wf = true) ∧ (Lit.int .i64 x.2.2.2.2.2.2.2).wf = true
theorem rk27P : Rk Tryz.prog 27 (Kd.pair (Kd.int .i64) (Kd.pair (Kd.int .i64) (Kd.pair (Kd.int .i64) (Kd.pair (Kd.pair (Kd.int .i64) (Kd.int .i64)) (Kd.pair (Kd.slice 42 k42) (Kd.pair (Kd.slice 45 k45) (Kd.pair (Kd.int .i64) (Kd.int .i64)))))))) F27P := Rk.structP Tryz.underlying27 (by kernel_rfl) (RkL.cons (by kernel_rfl) rk2 (by kernel_rfl) (RkL.cons (by kernel_rfl) rk2 (by kernel_rfl) (RkL.cons (by kernel_rfl) rk2 (by kernel_rfl) (RkL.cons (by kernel_rfl) rk23P (by kernel_rfl) (RkL.cons (by kernel_rfl) rk24 (by kernel_rfl) (RkL.cons (by kernel_rfl) rk25 (by kernel_rfl) (RkL.cons (by kernel_rfl) rk2 (by kernel_rfl) (RkL.one (by kernel_rfl) rk2))))))))
end KDemandTable
end Go.Proofs.YtfhokgkpcphmlaaGreatDoor.X
