/- Fractions: the examples of chapter 2 hold; whether two answers are the same.
   Conditions: as each theorem's head says. -/
import Derived.Test.YtnocpmngpekceaaDoorP02v
import Derived.Lib.ItoaNum
namespace Go.Proofs.YtnocpmngpekceaaDoor.Pure
set_option linter.unusedVariables false
open Go.RowKit Go.Proofs.YtnocpmngpekceaaDoor.X Go.Proofs.YtnocpmngpekceaaDoorW.PrintWords Go.Proofs.YtnocpmngpekceaaDoorW.PrintLast Go.Proofs.YtnocpmngpekceaaDoorW.PrintMore

theorem fmt_f {a : Int} (ha : I64 a) : strconv_FormatInt.f a 10 = some ⟨(Lib.itoa a).toArray⟩ := by
  unfold I64 at ha
  unfold strconv_FormatInt.f
  rw [if_pos ⟨rfl, by omega, by omega⟩]
theorem itoa_len (a : Int) (ha : I64 a) : (Lib.itoa a).length ≤ 30 := by
  have key : ∀ (n u : Nat), u < 10 ^ (n + 1) → (Lib.decDigits u).length ≤ n + 1 := by
    intro n
    induction n with
    | zero => intro u hu; rw [Lib.decDigits, dif_pos (by omega)]; simp
    | succ n ih =>
      intro u hu
      rw [Lib.decDigits]
      by_cases h : u < 10
      · rw [dif_pos h]; simp
      · rw [dif_neg h, List.length_append]
        have := ih (u / 10) (by rw [Nat.pow_succ] at hu; omega)
        simp; omega
  unfold I64 at ha
  unfold Lib.itoa
  split
  · have := key 19 a.natAbs (by omega)
    rw [List.length_cons]; omega
  · have := key 19 a.toNat (by omega)
    omega
theorem size_mk (l : List UInt8) : (⟨l.toArray⟩ : ByteArray).size = l.length := rfl
end Go.Proofs.YtnocpmngpekceaaDoor.Pure
