/- Fractions of package frac: sums, differences, order, roundings; a fraction of one value is one.
   Conditions: as each theorem's head says. -/
import Derived.Test.YtcdaedhphdmnoaaDoorP02u
namespace Go.Proofs.YtcdaedhphdmnoaaDoor.Pure
set_option linter.unusedVariables false
open Go.RowKit Go.Proofs.YtcdaedhphdmnoaaDoor.X Go.Proofs.YtcdaedhphdmnoaaDoorW.PrintWords Go.Proofs.YtcdaedhphdmnoaaDoorW.PrintLast Go.Proofs.YtcdaedhphdmnoaaDoorW.PrintMore

/-- Two fractions of one value have one form in lowest terms. -/
theorem lowF_scale {n d k : Nat} (hk : 0 < k) (s : Bool) : lowF (k * n) (k * d) s = lowF n d s := by
  unfold lowF
  rw [Nat.gcd_mul_left, Nat.mul_div_mul_left _ _ hk, Nat.mul_div_mul_left _ _ hk]
theorem lowZ_scale {z : Int} {d k : Nat} (hk : 0 < k) : lowZ ((k : Int) * z) (k * d) = lowZ z d := by
  unfold lowZ
  have e : ((k : Int) * z).natAbs = k * z.natAbs := by rw [Int.natAbs_mul, Int.natAbs_natCast]
  have s : decide ((k : Int) * z < 0) = decide (z < 0) := by
    rw [Int.mul_comm]; exact neg_mul_pos (by omega)
  rw [e, s, lowF_scale hk]
theorem lowZ_eq {z z' : Int} {d d' : Nat} (hd : 0 < d) (hd' : 0 < d') (h : z * d' = z' * d) : lowZ z d = lowZ z' d' := by
  rw [← lowZ_scale (z := z) (d := d) hd', ← lowZ_scale (z := z') (d := d') hd, Nat.mul_comm d' d, Int.mul_comm (d' : Int) z, h, Int.mul_comm z' (d : Int)]
end Go.Proofs.YtcdaedhphdmnoaaDoor.Pure
