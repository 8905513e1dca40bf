/- Plain laws of the numbers by parts of 16 bits and of the words of 64 bits, and what the printed functions of packages carrefourref01 and whole come to.
   Conditions: as each theorem's head says. -/
import Derived.Test.YtpdmiookdmncpaaDoorXD
import Derived.Laws.MathBits
namespace Go.Proofs.YtpdmiookdmncpaaDoor.Pure
set_option linter.unusedVariables false
open Go.RowKit Go.Proofs.YtpdmiookdmncpaaDoor.X Go.Proofs.YtpdmiookdmncpaaDoorW.PrintWords Go.Proofs.YtpdmiookdmncpaaDoorW.PrintLast Go.Proofs.YtpdmiookdmncpaaDoorW.PrintMore

/-! ### rounds -/
theorem Ev.itep {α : Type} {c : Prop} [Decidable c] {A B : Nat → Option α} {r : α} (h : c) (k : Ev A r) : Ev (fun n => if c then A n else B n) r := by
  obtain ⟨K, k⟩ := k
  exact ⟨K, fun n hn => by show (if c then A n else B n) = some r; rw [if_pos h]; exact k n hn⟩
theorem Ev.iten {α : Type} {c : Prop} [Decidable c] {A B : Nat → Option α} {r : α} (h : ¬ c) (k : Ev B r) : Ev (fun n => if c then A n else B n) r := by
  obtain ⟨K, k⟩ := k
  exact ⟨K, fun n hn => by show (if c then A n else B n) = some r; rw [if_neg h]; exact k n hn⟩
theorem w64 {x : Int} (h0 : -9223372036854775808 ≤ x) (h1 : x < 9223372036854775808) : wrap64 x = x := by
  unfold wrap64; omega
def Good (l : List Int) : Prop := ∀ x ∈ l, 0 ≤ x ∧ x < 65536
theorem Good.head {x : Int} {l : List Int} (h : Good (x :: l)) : 0 ≤ x ∧ x < 65536 := h x (by simp)
end Go.Proofs.YtpdmiookdmncpaaDoor.Pure
