/- Walks: each '.calls' says that the Go function comes to what its Lean function tells. Conditions: as each theorem's head says. -/
import Derived.Test.YtcdaedhphdmnoaaDoorX0
namespace Go.Proofs.YtcdaedhphdmnoaaDoor.X
open Go.RowKit Go.Proofs.YtcdaedhphdmnoaaDoorW.PrintWords Go.Proofs.YtcdaedhphdmnoaaDoorW.PrintLast Go.Proofs.YtcdaedhphdmnoaaDoorW.PrintMore
attribute [local go_sem] max2_int min2_int max_two min_two max_three min_three max_four min_four   -- for this text's walks alone
set_option linter.unusedVariables false
set_option maxHeartbeats 8000000
set_option maxRecDepth 100000
set_option linter.unusedSimpArgs false

/-! ### demand_chain_then: function 12 -/
-- demand's chain.then: told by hand (it calls what it is handed): where something was refused already, and where not.
/-! ### frac_wide_zero: function 85 -/
def frac_wide_zero.f (a0_0 : Int) (a0_1 : Int) : Option (Bool) := some ((Go.bits .or .u64 a0_0 a0_1) == 0)
/-! ### bits_TrailingZeros64: function 92 -/
def bits_TrailingZeros64.f (a0 : Int) : Option Int := if 0 ≤ a0 ∧ a0 < 18446744073709551616 then some ((Lib.ctz 64 a0.toNat : Nat) : Int) else none
/-! ### frac_wide_twos: function 86 -/
def frac_wide_twos.f (a0_0 : Int) (a0_1 : Int) : Option (Int) := if a0_1 = 0 then ((bits_TrailingZeros64.f a0_0).bind fun t103 => (some (wrap64 (64 + t103)))) else ((bits_TrailingZeros64.f a0_1).bind fun t104 => (some t104))
/-! ### frac_wide_down: function 87 -/
def frac_wide_down.f (a0_0 : Int) (a0_1 : Int) (a1 : Int) : Option (Int × Int) := if a1 ≥ 64 then (if 0 ≤ (wrap64 (a1 - 64)) then (some (0, shr .u64 a0_0 (wrap64 (a1 - 64)))) else (none)) else (if 0 ≤ a1 then (if 0 ≤ (wrap64 (64 - a1)) then (some (shr .u64 a0_0 a1, Go.bits .or .u64 (shr .u64 a0_1 a1) (shl .u64 a0_0 (wrap64 (64 - a1))))) else (none)) else (none))
/-! ### frac_wide_cmp: function 88 -/
def frac_wide_cmp.f (a0_0 : Int) (a0_1 : Int) (a1_0 : Int) (a1_1 : Int) : Option (Int) := if (a0_0 == a1_0 && (a0_1 == a1_1)) = true then (some 0) else (if a0_0 < a1_0 then (some (-1)) else (if a0_0 = a1_0 then (if a0_1 < a1_1 then (some (-1)) else (some 1)) else (some 1)))
/-! ### bits_Sub64: function 59 -/
def bits_Sub64.f (a0 : Int) (a1 : Int) (a2 : Int) : Option (Int × Int) := if 0 ≤ a0 ∧ 0 ≤ a1 ∧ a1 < 18446744073709551616 ∧ 0 ≤ a2 ∧ a2 ≤ 1 then some ((a0 - a1 - a2) % 18446744073709551616, if a0 < a1 + a2 then 1 else 0) else none
/-- The model's entry for math/bits.Sub64. -/
def sub64Entry : Array Value → Sem Value := fun args => do
  let (x, y, b) ← Extern.MathBitsCarry.three "Sub64" args
  pure (Extern.MathBitsCarry.pair ((x + Extern.MathBitsCarry.m64 - y - b) % Extern.MathBitsCarry.m64) (if x < y + b then 1 else 0))
/-! ### frac_wide_minus: function 89 -/
def frac_wide_minus.f (a0_0 : Int) (a0_1 : Int) (a1_0 : Int) (a1_1 : Int) : Option (Int × Int) := (bits_Sub64.f a0_1 a1_1 0).bind fun bt112 => ((bits_Sub64.f a0_0 a1_0 bt112.2).bind fun bt114 => (some (bt114.1, bt112.1)))
/-! ### frac_wide_up: function 90 -/
def frac_wide_up.f (a0_0 : Int) (a0_1 : Int) (a1 : Int) : Option (Int × Int) := if a1 ≥ 64 then (if 0 ≤ (wrap64 (a1 - 64)) then (some (shl .u64 a0_1 (wrap64 (a1 - 64)), 0)) else (none)) else (if 0 ≤ a1 then (if 0 ≤ (wrap64 (64 - a1)) then (some (Go.bits .or .u64 (shl .u64 a0_0 a1) (shr .u64 a0_1 (wrap64 (64 - a1))), shl .u64 a0_1 a1)) else (none)) else (none))
/-! ### frac_gcd: function 68 -/
def frac_gcd.l0 : Nat → Int → Int → Int → Int → Int → Option (Int × Int)
  | 0, _, _, _, _, _ => none
  | k + 1, x5, x119000, x119001, x120000, x120001 => (frac_wide_zero.f x120000 x120001).bind fun t128 => (if t128 = true then ((frac_wide_up.f x119000 x119001 x5).bind fun bt129 => (some (bt129.1, bt129.2))) else ((frac_wide_twos.f x120000 x120001).bind fun t131 => ((frac_wide_down.f x120000 x120001 t131).bind fun bt132 => ((frac_wide_cmp.f x119000 x119001 bt132.1 bt132.2).bind fun t134 => (if t134 > 0 then ((frac_wide_minus.f x119000 x119001 bt132.1 bt132.2).bind fun bt135 => (frac_gcd.l0 k x5 bt132.1 bt132.2 bt135.1 bt135.2)) else ((frac_wide_minus.f bt132.1 bt132.2 x119000 x119001).bind fun bt137 => (frac_gcd.l0 k x5 x119000 x119001 bt137.1 bt137.2)))))))
def frac_gcd.f (k : Nat) (a0_0 : Int) (a0_1 : Int) (a1_0 : Int) (a1_1 : Int) : Option (Int × Int) := (frac_wide_zero.f a0_0 a0_1).bind fun t121 => (if t121 = true then (some (a1_0, a1_1)) else ((frac_wide_zero.f a1_0 a1_1).bind fun t122 => (if t122 = true then (some (a0_0, a0_1)) else ((frac_wide_twos.f a0_0 a0_1).bind fun t123 => ((frac_wide_twos.f a1_0 a1_1).bind fun t124 => ((frac_wide_twos.f a0_0 a0_1).bind fun t125 => ((frac_wide_down.f a0_0 a0_1 t125).bind fun bt126 => (frac_gcd.l0 k (mn t123 t124) bt126.1 bt126.2 a1_0 a1_1))))))))
theorem frac_gcd.mono_l : ∀ k, (∀ y0 y1 y2 y3 y4, LeO (frac_gcd.l0 k y0 y1 y2 y3 y4) (frac_gcd.l0 (k + 1) y0 y1 y2 y3 y4))
  | 0 => fun _ _ _ _ _ r h => by simp [frac_gcd.l0] at h
  | k + 1 => by
    have ih0 := frac_gcd.mono_l k
    · intro y0 y1 y2 y3 y4
      unfold frac_gcd.l0
      repeat' with_reducible first | exact ih0 _ _ _ _ _ | exact LeO.refl _ | exact LeO.none _ | refine LeO.ite ?_ ?_ | refine LeO.bind ?_ (fun _ => ?_)
theorem frac_gcd.mono : ∀ a0 a1 a2 a3 k, LeO (frac_gcd.f k a0 a1 a2 a3) (frac_gcd.f (k + 1) a0 a1 a2 a3) := by
  intro a0 a1 a2 a3 k
  have ih0 := frac_gcd.mono_l k
  unfold frac_gcd.f
  repeat' with_reducible first | exact ih0 _ _ _ _ _ | exact LeO.refl _ | exact LeO.none _ | refine LeO.ite ?_ ?_ | refine LeO.bind ?_ (fun _ => ?_)
/-! ### bits_Len64: function 93 -/
def bits_Len64.f (a0 : Int) : Option Int := if 0 ≤ a0 ∧ a0 ≤ 18446744073709551615 then some ((Lib.bitLen a0.toNat : Nat) : Int) else none
/-! ### frac_wide_long: function 91 -/
def frac_wide_long.f (a0_0 : Int) (a0_1 : Int) : Option (Int) := if a0_0 = 0 then ((bits_Len64.f a0_1).bind fun t140 => (some t140)) else ((bits_Len64.f a0_0).bind fun t141 => (some (wrap64 (64 + t141))))
/-! ### frac_wide_over: function 69 -/
def frac_wide_over.l0 : Nat → Int → Int → Int → Int → Int → Int → Int → Option (Int × Int)
  | 0, _, _, _, _, _, _, _ => none
  | k + 1, x6, x143000, x143001, x144000, x144001, x146000, x146001 => if x6 ≥ 0 then ((frac_wide_up.f x146000 x146001 1).bind fun bt148 => ((frac_wide_up.f x144000 x144001 x6).bind fun bt150 => ((frac_wide_cmp.f bt150.1 bt150.2 x143000 x143001).bind fun t153 => (if t153 ≤ 0 then ((frac_wide_minus.f x143000 x143001 bt150.1 bt150.2).bind fun bt154 => (frac_wide_over.l0 k (wrap64 (x6 - 1)) bt154.1 bt154.2 x144000 x144001 bt148.1 (Go.bits .or .u64 bt148.2 1))) else (frac_wide_over.l0 k (wrap64 (x6 - 1)) x143000 x143001 x144000 x144001 bt148.1 bt148.2))))) else (some (x146000, x146001))
def frac_wide_over.f (k : Nat) (a0_0 : Int) (a0_1 : Int) (a1_0 : Int) (a1_1 : Int) : Option (Int × Int) := (frac_wide_long.f a0_0 a0_1).bind fun t146 => ((frac_wide_long.f a1_0 a1_1).bind fun t147 => (frac_wide_over.l0 k (wrap64 (t146 - t147)) a0_0 a0_1 a1_0 a1_1 0 0))
theorem frac_wide_over.mono_l : ∀ k, (∀ y0 y1 y2 y3 y4 y5 y6, LeO (frac_wide_over.l0 k y0 y1 y2 y3 y4 y5 y6) (frac_wide_over.l0 (k + 1) y0 y1 y2 y3 y4 y5 y6))
  | 0 => fun _ _ _ _ _ _ _ r h => by simp [frac_wide_over.l0] at h
  | k + 1 => by
    have ih0 := frac_wide_over.mono_l k
    · intro y0 y1 y2 y3 y4 y5 y6
      unfold frac_wide_over.l0
      repeat' with_reducible first | exact ih0 _ _ _ _ _ _ _ | exact LeO.refl _ | exact LeO.none _ | refine LeO.ite ?_ ?_ | refine LeO.bind ?_ (fun _ => ?_)
theorem frac_wide_over.mono : ∀ a0 a1 a2 a3 k, LeO (frac_wide_over.f k a0 a1 a2 a3) (frac_wide_over.f (k + 1) a0 a1 a2 a3) := by
  intro a0 a1 a2 a3 k
  have ih0 := frac_wide_over.mono_l k
  unfold frac_wide_over.f
  repeat' with_reducible first | exact ih0 _ _ _ _ _ _ _ | exact LeO.refl _ | exact LeO.none _ | refine LeO.ite ?_ ?_ | refine LeO.bind ?_ (fun _ => ?_)
/-! ### frac_signed_whole: function 70 -/
def frac_signed_whole.f (a0_0 : Bool) (a0_1 : Int) (a0_2 : Int) : Option (Int × Bool) := if a0_1 = 0 then (if a0_0 = true then (some (wrap64 (IntKind.u64.wrap (-a0_2)), decide (a0_2 ≤ 9223372036854775808))) else (some (wrap64 (a0_2), decide (a0_2 < 9223372036854775808)))) else (some (0, false))
/-! ### frac_reduced: function 42 -/
def frac_reduced.f (k : Nat) (a0_0 : Bool) (a0_1 : Int) (a0_2 : Int) (a1_0 : Bool) (a1_1 : Int) (a1_2 : Int) : Option (Int × Int × Int) := (frac_gcd.f k a0_1 a0_2 a1_1 a1_2).bind fun bt160 => ((frac_wide_over.f k a0_1 a0_2 bt160.1 bt160.2).bind fun bt163 => ((frac_wide_over.f k a1_1 a1_2 bt160.1 bt160.2).bind fun bt165 => ((frac_signed_whole.f (a0_0 != a1_0) bt163.1 bt163.2).bind fun bt167 => ((frac_signed_whole.f false bt165.1 bt165.2).bind fun bt169 => (if bt167.2 = true then (if bt169.2 = true then (some (bt167.1, bt169.1, 0)) else (some (0, 0, 2))) else (some (0, 0, 2)))))))
theorem frac_reduced.mono : ∀ a0 a1 a2 a3 a4 a5 k, LeO (frac_reduced.f k a0 a1 a2 a3 a4 a5) (frac_reduced.f (k + 1) a0 a1 a2 a3 a4 a5) := by
  intro a0 a1 a2 a3 a4 a5 k
  unfold frac_reduced.f
  repeat' with_reducible first | exact frac_gcd.mono _ _ _ _ _ | exact frac_wide_over.mono _ _ _ _ _ | exact LeO.refl _ | exact LeO.none _ | refine LeO.ite ?_ ?_ | refine LeO.bind ?_ (fun _ => ?_)
/-! ### frac_sized: function 43 -/
def frac_sized.f (a0 : Int) : Option (Bool × Int × Int) := if a0 < 0 then (some (true, 0, IntKind.u64.wrap (-(IntKind.u64.wrap (a0))))) else (some (false, 0, IntKind.u64.wrap (a0)))
/-! ### frac_Of: function 37 -/
def frac_Of.f (k : Nat) (a0 : Int) (a1 : Int) : Option (Int × Int × Int) := if a1 = 0 then (some (0, 0, 3)) else ((frac_sized.f a0).bind fun bt173 => ((frac_sized.f a1).bind fun bt176 => ((frac_reduced.f k bt173.1 bt173.2.1 bt173.2.2 bt176.1 bt176.2.1 bt176.2.2).bind fun bt179 => (some (bt179.1, bt179.2.1, bt179.2.2)))))
theorem frac_Of.mono : ∀ a0 a1 k, LeO (frac_Of.f k a0 a1) (frac_Of.f (k + 1) a0 a1) := by
  intro a0 a1 k
  unfold frac_Of.f
  repeat' with_reducible first | exact frac_reduced.mono _ _ _ _ _ _ _ | exact LeO.refl _ | exact LeO.none _ | refine LeO.ite ?_ ?_ | refine LeO.bind ?_ (fun _ => ?_)
/-! ### demand_volume_1: function 36 -/
def demand_volume_1.f (k : Nat) (a0_0 : Int) (a0_1 : Int) : Option (Int × Int × Int) := (frac_Of.f k a0_0 a0_1).bind fun bt184 => (some (bt184.1, bt184.2.1, bt184.2.2))
theorem demand_volume_1.mono : ∀ a0 a1 k, LeO (demand_volume_1.f k a0 a1) (demand_volume_1.f (k + 1) a0 a1) := by
  intro a0 a1 k
  unfold demand_volume_1.f
  repeat' with_reducible first | exact frac_Of.mono _ _ _ | exact LeO.refl _ | exact LeO.none _ | refine LeO.ite ?_ ?_ | refine LeO.bind ?_ (fun _ => ?_)
/-! ### demand_number: function 15 -/
def demand_number.f (a0 : Int) : Option (Int × Int) := some (a0, 1)
/-! ### whole_signed: function 57 -/
def whole_signed.j0 : Nat → Int → Bool → Option (Int × Int)
  | 0, _, _ => none
  | k + 1, x0, x6 => if x6 = true then (some (wrap64 (IntKind.u64.wrap (-x0)), 0)) else (if x0 ≤ 9223372036854775807 then (some (wrap64 (x0), 0)) else (some (0, 2)))
def whole_signed.f (k : Nat) (a0 : Int) (a1 : Int) : Option (Int × Int) := if a1 < 0 then (whole_signed.j0 k a0 (decide (a0 ≤ 9223372036854775808))) else (whole_signed.j0 k a0 false)
theorem whole_signed.mono_l : ∀ k, (∀ y0 y1, LeO (whole_signed.j0 k y0 y1) (whole_signed.j0 (k + 1) y0 y1))
  | 0 => fun _ _ r h => by simp [whole_signed.j0] at h
  | k + 1 => by
    have ih0 := whole_signed.mono_l k
    · intro y0 y1
      unfold whole_signed.j0
      repeat' with_reducible first | exact ih0 _ _ | exact LeO.refl _ | exact LeO.none _ | refine LeO.ite ?_ ?_ | refine LeO.bind ?_ (fun _ => ?_)
theorem whole_signed.mono : ∀ a0 a1 k, LeO (whole_signed.f k a0 a1) (whole_signed.f (k + 1) a0 a1) := by
  intro a0 a1 k
  have ih0 := whole_signed.mono_l k
  unfold whole_signed.f
  repeat' with_reducible first | exact ih0 _ _ | exact LeO.refl _ | exact LeO.none _ | refine LeO.ite ?_ ?_ | refine LeO.bind ?_ (fun _ => ?_)
/-! ### whole_gcd: function 74 -/
mutual
def whole_gcd.j0 : Nat → Int → Int → Bool → Option (Int)
  | 0, _, _, _ => none
  | k + 1, x0, x1, x11 => if x11 = true then (some (Go.bits .or .u64 x0 x1)) else ((bits_TrailingZeros64.f (Go.bits .or .u64 x0 x1)).bind fun t188 => ((bits_TrailingZeros64.f x0).bind fun t189 => (if 0 ≤ t189 then (whole_gcd.l0 k (shr .u64 x0 t189) x1 t188) else (none))))
def whole_gcd.l0 : Nat → Int → Int → Int → Option (Int)
  | 0, _, _, _ => none
  | k + 1, x0, x1, x5 => if x1 = 0 then (if 0 ≤ x5 then (some (shl .u64 x0 x5)) else (none)) else ((bits_TrailingZeros64.f x1).bind fun t190 => (if 0 ≤ t190 then (if x0 > (shr .u64 x1 t190) then (whole_gcd.l0 k (shr .u64 x1 t190) (IntKind.u64.wrap (x0 - (shr .u64 x1 t190))) x5) else (whole_gcd.l0 k x0 (IntKind.u64.wrap ((shr .u64 x1 t190) - x0)) x5)) else (none)))
end
def whole_gcd.f (k : Nat) (a0 : Int) (a1 : Int) : Option (Int) := if a0 = 0 then (whole_gcd.j0 k a0 a1 true) else (whole_gcd.j0 k a0 a1 (a1 == 0))
theorem whole_gcd.mono_l : ∀ k, (∀ y0 y1 y2, LeO (whole_gcd.j0 k y0 y1 y2) (whole_gcd.j0 (k + 1) y0 y1 y2)) ∧ (∀ y0 y1 y2, LeO (whole_gcd.l0 k y0 y1 y2) (whole_gcd.l0 (k + 1) y0 y1 y2))
  | 0 => ⟨fun _ _ _ r h => by simp [whole_gcd.j0] at h, fun _ _ _ r h => by simp [whole_gcd.l0] at h⟩
  | k + 1 => by
    obtain ⟨ih0, ih1⟩ := whole_gcd.mono_l k
    refine ⟨?_, ?_⟩
    · intro y0 y1 y2
      unfold whole_gcd.j0
      repeat' with_reducible first | exact ih0 _ _ _ | exact ih1 _ _ _ | exact LeO.refl _ | exact LeO.none _ | refine LeO.ite ?_ ?_ | refine LeO.bind ?_ (fun _ => ?_)
    · intro y0 y1 y2
      unfold whole_gcd.l0
      repeat' with_reducible first | exact ih0 _ _ _ | exact ih1 _ _ _ | exact LeO.refl _ | exact LeO.none _ | refine LeO.ite ?_ ?_ | refine LeO.bind ?_ (fun _ => ?_)
theorem whole_gcd.mono : ∀ a0 a1 k, LeO (whole_gcd.f k a0 a1) (whole_gcd.f (k + 1) a0 a1) := by
  intro a0 a1 k
  obtain ⟨ih0, ih1⟩ := whole_gcd.mono_l k
  unfold whole_gcd.f
  repeat' with_reducible first | exact ih0 _ _ _ | exact ih1 _ _ _ | exact LeO.refl _ | exact LeO.none _ | refine LeO.ite ?_ ?_ | refine LeO.bind ?_ (fun _ => ?_)
/-! ### whole_size: function 75 -/
def whole_size.f (a0 : Int) : Option (Int) := if a0 < 0 then (some (IntKind.u64.wrap (-(IntKind.u64.wrap (a0))))) else (some (IntKind.u64.wrap (a0)))
/-! ### whole_Gcd: function 52 -/
def whole_Gcd.f (k : Nat) (a0 : Int) (a1 : Int) : Option (Int × Int) := (whole_size.f a0).bind fun t191 => ((whole_size.f a1).bind fun t192 => ((whole_gcd.f k t191 t192).bind fun t193 => ((whole_signed.f k t193 1).bind fun bt194 => (some (bt194.1, bt194.2)))))
theorem whole_Gcd.mono : ∀ a0 a1 k, LeO (whole_Gcd.f k a0 a1) (whole_Gcd.f (k + 1) a0 a1) := by
  intro a0 a1 k
  unfold whole_Gcd.f
  repeat' with_reducible first | exact whole_gcd.mono _ _ _ | exact whole_signed.mono _ _ _ | exact LeO.refl _ | exact LeO.none _ | refine LeO.ite ?_ ?_ | refine LeO.bind ?_ (fun _ => ?_)
/-! ### frac_Right: function 27 -/
def frac_Right.f (k : Nat) (a0_0 : Int) (a0_1 : Int) : Option (Bool) := (whole_Gcd.f k a0_0 a0_1).bind fun bt197 => (if a0_1 ≥ 1 then (if bt197.2 = 0 then (some (bt197.1 == 1)) else (some false)) else (some false))
theorem frac_Right.mono : ∀ a0 a1 k, LeO (frac_Right.f k a0 a1) (frac_Right.f (k + 1) a0 a1) := by
  intro a0 a1 k
  unfold frac_Right.f
  repeat' with_reducible first | exact whole_Gcd.mono _ _ _ | exact LeO.refl _ | exact LeO.none _ | refine LeO.ite ?_ ?_ | refine LeO.bind ?_ (fun _ => ?_)
/-! ### frac_nought: function 67 -/
def frac_nought.f  : Option (Int × Int) := some (0, 1)
/-! ### frac_norm: function 41 -/
def frac_norm.f (k : Nat) (a0_0 : Int) (a0_1 : Int) : Option (Int × Int) := (frac_Right.f k a0_0 a0_1).bind fun t202 => (if t202 = true then (some (a0_0, a0_1)) else ((frac_nought.f).bind fun bt203 => (some (bt203.1, bt203.2))))
theorem frac_norm.mono : ∀ a0 a1 k, LeO (frac_norm.f k a0 a1) (frac_norm.f (k + 1) a0 a1) := by
  intro a0 a1 k
  unfold frac_norm.f
  repeat' with_reducible first | exact frac_Right.mono _ _ _ | exact LeO.refl _ | exact LeO.none _ | refine LeO.ite ?_ ?_ | refine LeO.bind ?_ (fun _ => ?_)
/-! ### bits_Mul64: function 58 -/
def bits_Mul64.f (a0 : Int) (a1 : Int) : Option (Int × Int) := some (IntKind.u64.wrap ((IntKind.u64.wrap ((IntKind.u64.wrap ((a0 / 4294967296) * (a1 / 4294967296))) + ((IntKind.u64.wrap ((IntKind.u64.wrap ((a0 / 4294967296) * (Go.bits .and .u64 a1 4294967295))) + ((IntKind.u64.wrap ((Go.bits .and .u64 a0 4294967295) * (Go.bits .and .u64 a1 4294967295))) / 4294967296))) / 4294967296))) + ((IntKind.u64.wrap ((Go.bits .and .u64 (IntKind.u64.wrap ((IntKind.u64.wrap ((a0 / 4294967296) * (Go.bits .and .u64 a1 4294967295))) + ((IntKind.u64.wrap ((Go.bits .and .u64 a0 4294967295) * (Go.bits .and .u64 a1 4294967295))) / 4294967296))) 4294967295) + (IntKind.u64.wrap ((Go.bits .and .u64 a0 4294967295) * (a1 / 4294967296))))) / 4294967296)), IntKind.u64.wrap (a0 * a1))
/-! ### frac_multiply: function 71 -/
def frac_multiply.f (a0 : Int) (a1 : Int) : Option (Int × Int) := (bits_Mul64.f a0 a1).bind fun bt206 => (some (bt206.1, bt206.2))
/-! ### frac_signed_times: function 44 -/
def frac_signed_times.f (a0_0 : Bool) (a0_1 : Int) (a0_2 : Int) (a1_0 : Bool) (a1_1 : Int) (a1_2 : Int) : Option (Bool × Int × Int) := (frac_multiply.f a0_2 a1_2).bind fun bt211 => (some ((a0_0 != a1_0), bt211.1, bt211.2))
/-! ### frac_Mul: function 39 -/
def frac_Mul.f (k : Nat) (a0_0 : Int) (a0_1 : Int) (a1_0 : Int) (a1_1 : Int) : Option (Int × Int × Int) := (frac_norm.f k a0_0 a0_1).bind fun bt216 => ((frac_norm.f k a1_0 a1_1).bind fun bt218 => ((frac_sized.f bt216.1).bind fun bt220 => ((frac_sized.f bt218.1).bind fun bt223 => ((frac_signed_times.f bt220.1 bt220.2.1 bt220.2.2 bt223.1 bt223.2.1 bt223.2.2).bind fun bt226 => ((frac_sized.f bt216.2).bind fun bt229 => ((frac_sized.f bt218.2).bind fun bt232 => ((frac_signed_times.f bt229.1 bt229.2.1 bt229.2.2 bt232.1 bt232.2.1 bt232.2.2).bind fun bt235 => ((frac_reduced.f k bt226.1 bt226.2.1 bt226.2.2 bt235.1 bt235.2.1 bt235.2.2).bind fun bt238 => (some (bt238.1, bt238.2.1, bt238.2.2))))))))))
theorem frac_Mul.mono : ∀ a0 a1 a2 a3 k, LeO (frac_Mul.f k a0 a1 a2 a3) (frac_Mul.f (k + 1) a0 a1 a2 a3) := by
  intro a0 a1 a2 a3 k
  unfold frac_Mul.f
  repeat' with_reducible first | exact frac_norm.mono _ _ _ | exact frac_reduced.mono _ _ _ _ _ _ _ | exact LeO.refl _ | exact LeO.none _ | refine LeO.ite ?_ ?_ | refine LeO.bind ?_ (fun _ => ?_)
/-! ### demand_volume_2: function 38 -/
def demand_volume_2.f (k : Nat) (a0_0 : Int) (a0_1 : Int) (a1_0 : ByteArray) (a1_1 : Int) (a1_2 : Int) (a1_3 : Int) (a1_4 : Int) (a1_5 : Int) (a1_6 : Int) (a1_7 : Int) (a1_8 : Int) (a1_9 : Int) (a1_10 : Int) : Option (Int × Int × Int) := (demand_number.f a1_1).bind fun bt244 => ((frac_Mul.f k a0_0 a0_1 bt244.1 bt244.2).bind fun bt246 => (some (bt246.1, bt246.2.1, bt246.2.2)))
theorem demand_volume_2.mono : ∀ a0 a1 a2 a3 a4 a5 a6 a7 a8 a9 a10 a11 a12 k, LeO (demand_volume_2.f k a0 a1 a2 a3 a4 a5 a6 a7 a8 a9 a10 a11 a12) (demand_volume_2.f (k + 1) a0 a1 a2 a3 a4 a5 a6 a7 a8 a9 a10 a11 a12) := by
  intro a0 a1 a2 a3 a4 a5 a6 a7 a8 a9 a10 a11 a12 k
  unfold demand_volume_2.f
  repeat' with_reducible first | exact frac_Mul.mono _ _ _ _ _ | exact LeO.refl _ | exact LeO.none _ | refine LeO.ite ?_ ?_ | refine LeO.bind ?_ (fun _ => ?_)
/-! ### frac_Div: function 14 -/
def frac_Div.f (k : Nat) (a0_0 : Int) (a0_1 : Int) (a1_0 : Int) (a1_1 : Int) : Option (Int × Int × Int) := (frac_norm.f k a0_0 a0_1).bind fun bt252 => ((frac_norm.f k a1_0 a1_1).bind fun bt254 => (if bt254.1 = 0 then (some (0, 0, 3)) else ((frac_sized.f bt252.1).bind fun bt256 => ((frac_sized.f bt254.2).bind fun bt259 => ((frac_signed_times.f bt256.1 bt256.2.1 bt256.2.2 bt259.1 bt259.2.1 bt259.2.2).bind fun bt262 => ((frac_sized.f bt252.2).bind fun bt265 => ((frac_sized.f bt254.1).bind fun bt268 => ((frac_signed_times.f bt265.1 bt265.2.1 bt265.2.2 bt268.1 bt268.2.1 bt268.2.2).bind fun bt271 => ((frac_reduced.f k bt262.1 bt262.2.1 bt262.2.2 bt271.1 bt271.2.1 bt271.2.2).bind fun bt274 => (some (bt274.1, bt274.2.1, bt274.2.2)))))))))))
theorem frac_Div.mono : ∀ a0 a1 a2 a3 k, LeO (frac_Div.f k a0 a1 a2 a3) (frac_Div.f (k + 1) a0 a1 a2 a3) := by
  intro a0 a1 a2 a3 k
  unfold frac_Div.f
  repeat' with_reducible first | exact frac_norm.mono _ _ _ | exact frac_reduced.mono _ _ _ _ _ _ _ | exact LeO.refl _ | exact LeO.none _ | refine LeO.ite ?_ ?_ | refine LeO.bind ?_ (fun _ => ?_)
/-! ### demand_volume_3: function 40 -/
-- (told where it is handed on)


/-! ### demand_volume: function 11 -/
/-- demand.volume: told by hand (it hands function literals on). -/
def demand_volume.f (k : Nat) (a0_0 : ByteArray) (a0_1 a0_2 a0_3 a0_4 a0_5 a0_6 a0_7 a0_8 a0_9 a0_10 a1_0 a1_1 : Int) : Option (Int × Int × Int) :=
  (demand_volume_1.f k a0_3 a0_4).bind fun a => if a.2.2 = 0 then ((demand_volume_2.f k a.1 a.2.1 a0_0 a0_1 a0_2 a0_3 a0_4 a0_5 a0_6 a0_7 a0_8 a0_9 a0_10).bind fun b => if b.2.2 = 0 then ((demand_volume_1.f k a1_0 a1_1).bind fun c => if c.2.2 = 0 then frac_Div.f k b.1 b.2.1 c.1 c.2.1 else some (0, 0, c.2.2)) else some b) else some a
theorem demand_volume.mono : ∀ y0 y1 y2 y3 y4 y5 y6 y7 y8 y9 y10 z0 z1 k, LeO (demand_volume.f k y0 y1 y2 y3 y4 y5 y6 y7 y8 y9 y10 z0 z1) (demand_volume.f (k + 1) y0 y1 y2 y3 y4 y5 y6 y7 y8 y9 y10 z0 z1) := by
  intro y0 y1 y2 y3 y4 y5 y6 y7 y8 y9 y10 z0 z1 k
  unfold demand_volume.f
  repeat' with_reducible first | exact demand_volume_1.mono _ _ _ | exact demand_volume_2.mono _ _ _ _ _ _ _ _ _ _ _ _ _ _ | exact frac_Div.mono _ _ _ _ _ | exact LeO.refl _ | exact LeO.none _ | refine LeO.ite ?_ ?_ | refine LeO.bind ?_ (fun _ => ?_)
/-! ### demand_Ratio_1: function 13 -/
def demand_Ratio_1.f (k : Nat) (a0_0 : Int) (a0_1 : Int) (a1_0 : ByteArray) (a1_1 : Int) (a1_2 : Int) (a1_3 : Int) (a1_4 : Int) (a1_5 : Int) (a1_6 : Int) (a1_7 : Int) (a1_8 : Int) (a1_9 : Int) (a1_10 : Int) : Option (Int × Int × Int) := (demand_number.f a1_2).bind fun bt280 => ((frac_Div.f k a0_0 a0_1 bt280.1 bt280.2).bind fun bt282 => (some (bt282.1, bt282.2.1, bt282.2.2)))
theorem demand_Ratio_1.mono : ∀ a0 a1 a2 a3 a4 a5 a6 a7 a8 a9 a10 a11 a12 k, LeO (demand_Ratio_1.f k a0 a1 a2 a3 a4 a5 a6 a7 a8 a9 a10 a11 a12) (demand_Ratio_1.f (k + 1) a0 a1 a2 a3 a4 a5 a6 a7 a8 a9 a10 a11 a12) := by
  intro a0 a1 a2 a3 a4 a5 a6 a7 a8 a9 a10 a11 a12 k
  unfold demand_Ratio_1.f
  repeat' with_reducible first | exact frac_Div.mono _ _ _ _ _ | exact LeO.refl _ | exact LeO.none _ | refine LeO.ite ?_ ?_ | refine LeO.bind ?_ (fun _ => ?_)
/-! ### demand_Ratio: function 6 -/
/-- demand.Ratio: told by hand (it hands a function literal on). -/
def demand_Ratio.f (k : Nat) (a0_0 : ByteArray) (a0_1 a0_2 a0_3 a0_4 a0_5 a0_6 a0_7 a0_8 a0_9 a0_10 a1_0 a1_1 : Int) : Option (Int × Int × Int) :=
  (demand_volume.f k a0_0 a0_1 a0_2 a0_3 a0_4 a0_5 a0_6 a0_7 a0_8 a0_9 a0_10 a1_0 a1_1).bind fun a => if a.2.2 = 0 then demand_Ratio_1.f k a.1 a.2.1 a0_0 a0_1 a0_2 a0_3 a0_4 a0_5 a0_6 a0_7 a0_8 a0_9 a0_10 else some a
theorem demand_Ratio.mono : ∀ y0 y1 y2 y3 y4 y5 y6 y7 y8 y9 y10 z0 z1 k, LeO (demand_Ratio.f k y0 y1 y2 y3 y4 y5 y6 y7 y8 y9 y10 z0 z1) (demand_Ratio.f (k + 1) y0 y1 y2 y3 y4 y5 y6 y7 y8 y9 y10 z0 z1) := by
  intro y0 y1 y2 y3 y4 y5 y6 y7 y8 y9 y10 z0 z1 k
  unfold demand_Ratio.f
  repeat' with_reducible first | exact demand_volume.mono _ _ _ _ _ _ _ _ _ _ _ _ _ _ | exact demand_Ratio_1.mono _ _ _ _ _ _ _ _ _ _ _ _ _ _ | exact LeO.refl _ | exact LeO.none _ | refine LeO.ite ?_ ?_ | refine LeO.bind ?_ (fun _ => ?_)
/-! ### demand_Volume: function 9 -/
def demand_Volume.f (k : Nat) (a0_0 : ByteArray) (a0_1 : Int) (a0_2 : Int) (a0_3 : Int) (a0_4 : Int) (a0_5 : Int) (a0_6 : Int) (a0_7 : Int) (a0_8 : Int) (a0_9 : Int) (a0_10 : Int) (a1_0 : Int) (a1_1 : Int) : Option (Int × Int × Int) := (demand_volume.f k a0_0 a0_1 a0_2 a0_3 a0_4 a0_5 a0_6 a0_7 a0_8 a0_9 a0_10 a1_0 a1_1).bind fun bt288 => (some (bt288.1, bt288.2.1, bt288.2.2))
theorem demand_Volume.mono : ∀ a0 a1 a2 a3 a4 a5 a6 a7 a8 a9 a10 a11 a12 k, LeO (demand_Volume.f k a0 a1 a2 a3 a4 a5 a6 a7 a8 a9 a10 a11 a12) (demand_Volume.f (k + 1) a0 a1 a2 a3 a4 a5 a6 a7 a8 a9 a10 a11 a12) := by
  intro a0 a1 a2 a3 a4 a5 a6 a7 a8 a9 a10 a11 a12 k
  unfold demand_Volume.f
  repeat' with_reducible first | exact demand_volume.mono _ _ _ _ _ _ _ _ _ _ _ _ _ _ | exact LeO.refl _ | exact LeO.none _ | refine LeO.ite ?_ ?_ | refine LeO.bind ?_ (fun _ => ?_)
/-! ### whole_product: function 53 -/
def whole_product.f (a0 : Int) (a1 : Int) : Option (Int × Int) := (whole_size.f a0).bind fun t293 => ((whole_size.f a1).bind fun t294 => ((bits_Mul64.f t293 t294).bind fun bt295 => (some (bt295.1, bt295.2))))
/-! ### whole_sign: function 54 -/
def whole_sign.j0 : Nat → Int → Int → Bool → Option (Int)
  | 0, _, _, _ => none
  | k + 1, x0, x1, x5 => if x5 = true then (some 0) else (if ((decide (x0 < 0)) != (decide (x1 < 0))) = true then (some (-1)) else (some 1))
def whole_sign.f (k : Nat) (a0 : Int) (a1 : Int) : Option (Int) := if a0 = 0 then (whole_sign.j0 k a0 a1 true) else (whole_sign.j0 k a0 a1 (a1 == 0))
theorem whole_sign.mono_l : ∀ k, (∀ y0 y1 y2, LeO (whole_sign.j0 k y0 y1 y2) (whole_sign.j0 (k + 1) y0 y1 y2))
  | 0 => fun _ _ _ r h => by simp [whole_sign.j0] at h
  | k + 1 => by
    have ih0 := whole_sign.mono_l k
    · intro y0 y1 y2
      unfold whole_sign.j0
      repeat' with_reducible first | exact ih0 _ _ _ | exact LeO.refl _ | exact LeO.none _ | refine LeO.ite ?_ ?_ | refine LeO.bind ?_ (fun _ => ?_)
theorem whole_sign.mono : ∀ a0 a1 k, LeO (whole_sign.f k a0 a1) (whole_sign.f (k + 1) a0 a1) := by
  intro a0 a1 k
  have ih0 := whole_sign.mono_l k
  unfold whole_sign.f
  repeat' with_reducible first | exact ih0 _ _ _ | exact LeO.refl _ | exact LeO.none _ | refine LeO.ite ?_ ?_ | refine LeO.bind ?_ (fun _ => ?_)
/-! ### bits_Add64: function 55 -/
def bits_Add64.f (a0 : Int) (a1 : Int) (a2 : Int) : Option (Int × Int) := if 0 ≤ a0 ∧ 0 ≤ a1 ∧ 0 ≤ a2 ∧ a2 ≤ 1 then some ((a0 + a1 + a2) % 18446744073709551616, (a0 + a1 + a2) / 18446744073709551616) else none
/-! ### bits_LeadingZeros64: function 76 -/
def bits_LeadingZeros64.f (a0 : Int) : Option (Int) := (bits_Len64.f a0).bind fun t297 => (some (wrap64 (64 - t297)))
/-! ### bits_Div64: function 56 -/
mutual
def bits_Div64.j2 : Nat → Int → Int → Int → Int → Int → Int → Int → Int → Option (Int × Int)
  | 0, _, _, _, _, _, _, _, _ => none
  | k + 1, x2, x8, x9, x10, x11, x13, x14, x15 => if x9 = 0 then (none) else (bits_Div64.l1 k x2 x8 x9 x10 x14 x15 (IntKind.u64.wrap ((IntKind.u64.wrap ((IntKind.u64.wrap ((IntKind.u64.wrap (x11 * 4294967296)) + x13)) - (IntKind.u64.wrap (x15 * x2)))) - (IntKind.u64.wrap ((IntKind.u64.wrap (Int.tdiv (IntKind.u64.wrap ((IntKind.u64.wrap ((IntKind.u64.wrap (x11 * 4294967296)) + x13)) - (IntKind.u64.wrap (x15 * x2)))) x9)) * x9)))) (IntKind.u64.wrap ((IntKind.u64.wrap ((IntKind.u64.wrap (x11 * 4294967296)) + x13)) - (IntKind.u64.wrap (x15 * x2)))) (IntKind.u64.wrap (Int.tdiv (IntKind.u64.wrap ((IntKind.u64.wrap ((IntKind.u64.wrap (x11 * 4294967296)) + x13)) - (IntKind.u64.wrap (x15 * x2)))) x9)))
def bits_Div64.l1 : Nat → Int → Int → Int → Int → Int → Int → Int → Int → Int → Option (Int × Int)
  | 0, _, _, _, _, _, _, _, _, _ => none
  | k + 1, x2, x8, x9, x10, x14, x15, x16, x17, x18 => if x18 ≥ 4294967296 then (bits_Div64.j4 k x2 x8 x9 x10 x14 x15 x16 x17 x18 true) else (bits_Div64.j4 k x2 x8 x9 x10 x14 x15 x16 x17 x18 (decide ((IntKind.u64.wrap (x18 * x10)) > (IntKind.u64.wrap ((IntKind.u64.wrap (4294967296 * x16)) + x14)))))
def bits_Div64.j4 : Nat → Int → Int → Int → Int → Int → Int → Int → Int → Int → Bool → Option (Int × Int)
  | 0, _, _, _, _, _, _, _, _, _, _ => none
  | k + 1, x2, x8, x9, x10, x14, x15, x16, x17, x18, x113 => if x113 = true then (if (IntKind.u64.wrap (x16 + x9)) ≥ 4294967296 then (if 0 ≤ x8 then (some (IntKind.u64.wrap ((IntKind.u64.wrap (x15 * 4294967296)) + (IntKind.u64.wrap (x18 - 1))), shr .u64 (IntKind.u64.wrap ((IntKind.u64.wrap ((IntKind.u64.wrap (x17 * 4294967296)) + x14)) - (IntKind.u64.wrap ((IntKind.u64.wrap (x18 - 1)) * x2)))) x8)) else (none)) else (bits_Div64.l1 k x2 x8 x9 x10 x14 x15 (IntKind.u64.wrap (x16 + x9)) x17 (IntKind.u64.wrap (x18 - 1)))) else (if 0 ≤ x8 then (some (IntKind.u64.wrap ((IntKind.u64.wrap (x15 * 4294967296)) + x18), shr .u64 (IntKind.u64.wrap ((IntKind.u64.wrap ((IntKind.u64.wrap (x17 * 4294967296)) + x14)) - (IntKind.u64.wrap (x18 * x2)))) x8)) else (none))
def bits_Div64.l0 : Nat → Int → Int → Int → Int → Int → Int → Int → Int → Int → Option (Int × Int)
  | 0, _, _, _, _, _, _, _, _, _ => none
  | k + 1, x2, x8, x9, x10, x11, x13, x14, x15, x16 => if x15 ≥ 4294967296 then (bits_Div64.j1 k x2 x8 x9 x10 x11 x13 x14 x15 x16 true) else (bits_Div64.j1 k x2 x8 x9 x10 x11 x13 x14 x15 x16 (decide ((IntKind.u64.wrap (x15 * x10)) > (IntKind.u64.wrap ((IntKind.u64.wrap (4294967296 * x16)) + x13)))))
def bits_Div64.j1 : Nat → Int → Int → Int → Int → Int → Int → Int → Int → Int → Bool → Option (Int × Int)
  | 0, _, _, _, _, _, _, _, _, _, _ => none
  | k + 1, x2, x8, x9, x10, x11, x13, x14, x15, x16, x78 => if x78 = true then (if (IntKind.u64.wrap (x16 + x9)) ≥ 4294967296 then (bits_Div64.j2 k x2 x8 x9 x10 x11 x13 x14 (IntKind.u64.wrap (x15 - 1))) else (bits_Div64.l0 k x2 x8 x9 x10 x11 x13 x14 (IntKind.u64.wrap (x15 - 1)) (IntKind.u64.wrap (x16 + x9)))) else (bits_Div64.j2 k x2 x8 x9 x10 x11 x13 x14 x15)
end
def bits_Div64.f (k : Nat) (a0 : Int) (a1 : Int) (a2 : Int) : Option (Int × Int) := if a2 = 0 then (none) else (if a2 ≤ a0 then (none) else (if a0 = 0 then (some (IntKind.u64.wrap (Int.tdiv a1 a2), Int.tmod a1 a2)) else ((bits_LeadingZeros64.f a2).bind fun t298 => (if 0 ≤ (IntKind.u64.wrap (t298)) then (if 0 ≤ (IntKind.u64.wrap (64 - (IntKind.u64.wrap (t298)))) then (if ((shl .u64 a2 (IntKind.u64.wrap (t298))) / 4294967296) = 0 then (none) else (bits_Div64.l0 k (shl .u64 a2 (IntKind.u64.wrap (t298))) (IntKind.u64.wrap (t298)) ((shl .u64 a2 (IntKind.u64.wrap (t298))) / 4294967296) (Go.bits .and .u64 (shl .u64 a2 (IntKind.u64.wrap (t298))) 4294967295) (Go.bits .or .u64 (shl .u64 a0 (IntKind.u64.wrap (t298))) (shr .u64 a1 (IntKind.u64.wrap (64 - (IntKind.u64.wrap (t298)))))) ((shl .u64 a1 (IntKind.u64.wrap (t298))) / 4294967296) (Go.bits .and .u64 (shl .u64 a1 (IntKind.u64.wrap (t298))) 4294967295) (IntKind.u64.wrap (Int.tdiv (Go.bits .or .u64 (shl .u64 a0 (IntKind.u64.wrap (t298))) (shr .u64 a1 (IntKind.u64.wrap (64 - (IntKind.u64.wrap (t298)))))) ((shl .u64 a2 (IntKind.u64.wrap (t298))) / 4294967296))) (IntKind.u64.wrap ((Go.bits .or .u64 (shl .u64 a0 (IntKind.u64.wrap (t298))) (shr .u64 a1 (IntKind.u64.wrap (64 - (IntKind.u64.wrap (t298)))))) - (IntKind.u64.wrap ((IntKind.u64.wrap (Int.tdiv (Go.bits .or .u64 (shl .u64 a0 (IntKind.u64.wrap (t298))) (shr .u64 a1 (IntKind.u64.wrap (64 - (IntKind.u64.wrap (t298)))))) ((shl .u64 a2 (IntKind.u64.wrap (t298))) / 4294967296))) * ((shl .u64 a2 (IntKind.u64.wrap (t298))) / 4294967296))))))) else (none)) else (none)))))
theorem bits_Div64.mono_l : ∀ k, (∀ y0 y1 y2 y3 y4 y5 y6 y7, LeO (bits_Div64.j2 k y0 y1 y2 y3 y4 y5 y6 y7) (bits_Div64.j2 (k + 1) y0 y1 y2 y3 y4 y5 y6 y7)) ∧ (∀ y0 y1 y2 y3 y4 y5 y6 y7 y8, LeO (bits_Div64.l1 k y0 y1 y2 y3 y4 y5 y6 y7 y8) (bits_Div64.l1 (k + 1) y0 y1 y2 y3 y4 y5 y6 y7 y8)) ∧ (∀ y0 y1 y2 y3 y4 y5 y6 y7 y8 y9, LeO (bits_Div64.j4 k y0 y1 y2 y3 y4 y5 y6 y7 y8 y9) (bits_Div64.j4 (k + 1) y0 y1 y2 y3 y4 y5 y6 y7 y8 y9)) ∧ (∀ y0 y1 y2 y3 y4 y5 y6 y7 y8, LeO (bits_Div64.l0 k y0 y1 y2 y3 y4 y5 y6 y7 y8) (bits_Div64.l0 (k + 1) y0 y1 y2 y3 y4 y5 y6 y7 y8)) ∧ (∀ y0 y1 y2 y3 y4 y5 y6 y7 y8 y9, LeO (bits_Div64.j1 k y0 y1 y2 y3 y4 y5 y6 y7 y8 y9) (bits_Div64.j1 (k + 1) y0 y1 y2 y3 y4 y5 y6 y7 y8 y9))
  | 0 => ⟨fun _ _ _ _ _ _ _ _ r h => by simp [bits_Div64.j2] at h, fun _ _ _ _ _ _ _ _ _ r h => by simp [bits_Div64.l1] at h, fun _ _ _ _ _ _ _ _ _ _ r h => by simp [bits_Div64.j4] at h, fun _ _ _ _ _ _ _ _ _ r h => by simp [bits_Div64.l0] at h, fun _ _ _ _ _ _ _ _ _ _ r h => by simp [bits_Div64.j1] at h⟩
  | k + 1 => by
    obtain ⟨ih0, ih1, ih2, ih3, ih4⟩ := bits_Div64.mono_l k
    refine ⟨?_, ?_, ?_, ?_, ?_⟩
    · intro y0 y1 y2 y3 y4 y5 y6 y7
      unfold bits_Div64.j2
      repeat' with_reducible first | exact ih0 _ _ _ _ _ _ _ _ | exact ih1 _ _ _ _ _ _ _ _ _ | exact ih2 _ _ _ _ _ _ _ _ _ _ | exact ih3 _ _ _ _ _ _ _ _ _ | exact ih4 _ _ _ _ _ _ _ _ _ _ | exact LeO.refl _ | exact LeO.none _ | refine LeO.ite ?_ ?_ | refine LeO.bind ?_ (fun _ => ?_)
    · intro y0 y1 y2 y3 y4 y5 y6 y7 y8
      unfold bits_Div64.l1
      repeat' with_reducible first | exact ih0 _ _ _ _ _ _ _ _ | exact ih1 _ _ _ _ _ _ _ _ _ | exact ih2 _ _ _ _ _ _ _ _ _ _ | exact ih3 _ _ _ _ _ _ _ _ _ | exact ih4 _ _ _ _ _ _ _ _ _ _ | exact LeO.refl _ | exact LeO.none _ | refine LeO.ite ?_ ?_ | refine LeO.bind ?_ (fun _ => ?_)
    · intro y0 y1 y2 y3 y4 y5 y6 y7 y8 y9
      unfold bits_Div64.j4
      repeat' with_reducible first | exact ih0 _ _ _ _ _ _ _ _ | exact ih1 _ _ _ _ _ _ _ _ _ | exact ih2 _ _ _ _ _ _ _ _ _ _ | exact ih3 _ _ _ _ _ _ _ _ _ | exact ih4 _ _ _ _ _ _ _ _ _ _ | exact LeO.refl _ | exact LeO.none _ | refine LeO.ite ?_ ?_ | refine LeO.bind ?_ (fun _ => ?_)
    · intro y0 y1 y2 y3 y4 y5 y6 y7 y8
      unfold bits_Div64.l0
      repeat' with_reducible first | exact ih0 _ _ _ _ _ _ _ _ | exact ih1 _ _ _ _ _ _ _ _ _ | exact ih2 _ _ _ _ _ _ _ _ _ _ | exact ih3 _ _ _ _ _ _ _ _ _ | exact ih4 _ _ _ _ _ _ _ _ _ _ | exact LeO.refl _ | exact LeO.none _ | refine LeO.ite ?_ ?_ | refine LeO.bind ?_ (fun _ => ?_)
    · intro y0 y1 y2 y3 y4 y5 y6 y7 y8 y9
      unfold bits_Div64.j1
      repeat' with_reducible first | exact ih0 _ _ _ _ _ _ _ _ | exact ih1 _ _ _ _ _ _ _ _ _ | exact ih2 _ _ _ _ _ _ _ _ _ _ | exact ih3 _ _ _ _ _ _ _ _ _ | exact ih4 _ _ _ _ _ _ _ _ _ _ | exact LeO.refl _ | exact LeO.none _ | refine LeO.ite ?_ ?_ | refine LeO.bind ?_ (fun _ => ?_)
theorem bits_Div64.mono : ∀ a0 a1 a2 k, LeO (bits_Div64.f k a0 a1 a2) (bits_Div64.f (k + 1) a0 a1 a2) := by
  intro a0 a1 a2 k
  obtain ⟨ih0, ih1, ih2, ih3, ih4⟩ := bits_Div64.mono_l k
  unfold bits_Div64.f
  repeat' with_reducible first | exact ih0 _ _ _ _ _ _ _ _ | exact ih1 _ _ _ _ _ _ _ _ _ | exact ih2 _ _ _ _ _ _ _ _ _ _ | exact ih3 _ _ _ _ _ _ _ _ _ | exact ih4 _ _ _ _ _ _ _ _ _ _ | exact LeO.refl _ | exact LeO.none _ | refine LeO.ite ?_ ?_ | refine LeO.bind ?_ (fun _ => ?_)
/-! ### whole_Scale: function 28 -/
def whole_Scale.j0 : Nat → Int → Int → Int → Int → Option (Int × Int)
  | 0, _, _, _, _ => none
  | k + 1, x2, x9, x303000, x303001 => if x303000 ≥ (IntKind.u64.wrap (x2)) then (some (0, 2)) else ((bits_Div64.f k x303000 x303001 (IntKind.u64.wrap (x2))).bind fun bt305 => ((whole_signed.f k bt305.1 x9).bind fun bt307 => (some (bt307.1, bt307.2))))
def whole_Scale.f (k : Nat) (a0 : Int) (a1 : Int) (a2 : Int) : Option (Int × Int) := if a2 < 1 then (some (0, 1)) else ((whole_product.f a0 a1).bind fun bt299 => ((whole_sign.f k a0 a1).bind fun t301 => (if t301 < 0 then ((bits_Add64.f bt299.2 (IntKind.u64.wrap ((IntKind.u64.wrap (a2)) - 1)) 0).bind fun bt303 => (whole_Scale.j0 k a2 t301 (IntKind.u64.wrap (bt299.1 + bt303.2)) bt303.1)) else (whole_Scale.j0 k a2 t301 bt299.1 bt299.2))))
theorem whole_Scale.mono_l : ∀ k, (∀ y0 y1 y2 y3, LeO (whole_Scale.j0 k y0 y1 y2 y3) (whole_Scale.j0 (k + 1) y0 y1 y2 y3))
  | 0 => fun _ _ _ _ r h => by simp [whole_Scale.j0] at h
  | k + 1 => by
    have ih0 := whole_Scale.mono_l k
    · intro y0 y1 y2 y3
      unfold whole_Scale.j0
      repeat' with_reducible first | exact ih0 _ _ _ _ | exact bits_Div64.mono _ _ _ _ | exact whole_sign.mono _ _ _ | exact whole_signed.mono _ _ _ | exact LeO.refl _ | exact LeO.none _ | refine LeO.ite ?_ ?_ | refine LeO.bind ?_ (fun _ => ?_)
theorem whole_Scale.mono : ∀ a0 a1 a2 k, LeO (whole_Scale.f k a0 a1 a2) (whole_Scale.f (k + 1) a0 a1 a2) := by
  intro a0 a1 a2 k
  have ih0 := whole_Scale.mono_l k
  unfold whole_Scale.f
  repeat' with_reducible first | exact ih0 _ _ _ _ | exact bits_Div64.mono _ _ _ _ | exact whole_sign.mono _ _ _ | exact whole_signed.mono _ _ _ | exact LeO.refl _ | exact LeO.none _ | refine LeO.ite ?_ ?_ | refine LeO.bind ?_ (fun _ => ?_)
/-! ### demand_new128: function 29 -/
def demand_new128.f (a0 : Int) (a1 : Int) : Option (Int × Int) := (bits_Mul64.f (IntKind.u64.wrap (a0)) (IntKind.u64.wrap (a1))).bind fun bt310 => (some (bt310.1, bt310.2))
/-! ### demand_long_less: function 30 -/
def demand_long_less.f (a0_0 : Int) (a0_1 : Int) (a1_0 : Int) (a1_1 : Int) : Option (Int × Int) := (bits_Sub64.f a0_1 a1_1 0).bind fun bt315 => ((bits_Sub64.f a0_0 a1_0 bt315.2).bind fun bt317 => (some (bt317.1, bt315.1)))
/-! ### demand_long_twice: function 31 -/
def demand_long_twice.f (a0_0 : Int) (a0_1 : Int) : Option (Int × Int) := some (Go.bits .or .u64 (IntKind.u64.wrap (a0_0 * 2)) (a0_1 / 9223372036854775808), IntKind.u64.wrap (a0_1 * 2))
/-! ### demand_long_atLeast: function 32 -/
def demand_long_atLeast.f (a0_0 : Int) (a0_1 : Int) (a1 : Int) : Option (Bool) := if a0_0 > 0 then (some true) else (some (decide (a0_1 ≥ (IntKind.u64.wrap (a1)))))
/-! ### whole_Add: function 33 -/
def whole_Add.f (a0 : Int) (a1 : Int) : Option (Int × Int) := if ((decide ((wrap64 (a0 + a1)) < a0)) != (decide (a1 < 0))) = true then (some (0, 2)) else (some (wrap64 (a0 + a1), 0))
/-! ### strconv_FormatInt: function 34 -/
/-- strconv.FormatInt at base 10: by the shelf's contract. -/
def strconv_FormatInt.f (a0 a1 : Int) : Option ByteArray := if a1 = 10 ∧ -9223372036854775808 ≤ a0 ∧ a0 ≤ 9223372036854775807 then some ⟨(Lib.itoa a0).toArray⟩ else none
/-! ### strings_Repeat: function 35 -/
/-- strings.Repeat of few copies of a short text: by the shelf's contract. -/
def strings_Repeat.f (a0 : ByteArray) (a1 : Int) : Option ByteArray := if 0 ≤ a1 ∧ a1 ≤ 1000 ∧ a0.size ≤ 1000 then some ⟨(Lib.repeatL a0.data.toList a1.toNat).toArray⟩ else none
/-! ### demand_Rate: function 10 -/
mutual
def demand_Rate.j0 : Nat → Int → Bool → Int → Int → Option (ByteArray × Int)
  | 0, _, _, _, _ => none
  | k + 1, x1, x26, x323000, x323001 => if x26 = true then (some ((⟨#[]⟩ : ByteArray), 1)) else (demand_Rate.l0 k x1 1 x1 0 x323000 x323001)
def demand_Rate.l0 : Nat → Int → Int → Int → Int → Int → Int → Option (ByteArray × Int)
  | 0, _, _, _, _, _, _ => none
  | k + 1, x1, x6, x27, x28, x323000, x323001 => if x28 < x27 then (demand_Rate.l0 k x1 (wrap64 (x6 * 10)) x27 (wrap64 (x28 + 1)) x323000 x323001) else ((whole_Scale.f k x323000 x6 x323001).bind fun bt324 => (if bt324.2 = 0 then ((demand_new128.f x323000 x6).bind fun bt326 => ((demand_new128.f bt324.1 x323001).bind fun bt328 => ((demand_long_less.f bt326.1 bt326.2 bt328.1 bt328.2).bind fun bt330 => ((demand_long_twice.f bt330.1 bt330.2).bind fun bt333 => ((demand_long_atLeast.f bt333.1 bt333.2 x323001).bind fun t335 => (if t335 = true then ((whole_Add.f bt324.1 1).bind fun bt336 => (if bt336.2 = 0 then (demand_Rate.j2 k x1 bt336.1) else (some ((⟨#[]⟩ : ByteArray), bt336.2)))) else (demand_Rate.j2 k x1 bt324.1))))))) else (some ((⟨#[]⟩ : ByteArray), bt324.2))))
def demand_Rate.j2 : Nat → Int → Int → Option (ByteArray × Int)
  | 0, _, _ => none
  | k + 1, x1, x7 => (strconv_FormatInt.f x7 10).bind fun t338 => (if (t338.size : Int) ≤ x1 then ((strings_Repeat.f (⟨#[48]⟩ : ByteArray) (wrap64 ((wrap64 (x1 + 1)) - (t338.size : Int)))).bind fun t339 => (if t339.size + t338.size ≤ 9223372036854775807 then (if x1 = 0 then (some (t339 ++ t338, 0)) else (if 0 ≤ (wrap64 (((t339 ++ t338).size : Int) - x1)) then (if (wrap64 (((t339 ++ t338).size : Int) - x1)) ≤ ((t339 ++ t338).size : Int) then (if ((t339 ++ t338).extract 0 ((wrap64 (((t339 ++ t338).size : Int) - x1)) : Int).toNat).size + 1 ≤ 9223372036854775807 then (if (((t339 ++ t338).extract 0 ((wrap64 (((t339 ++ t338).size : Int) - x1)) : Int).toNat) ++ (⟨#[46]⟩ : ByteArray)).size + ((t339 ++ t338).extract ((wrap64 (((t339 ++ t338).size : Int) - x1)) : Int).toNat (t339 ++ t338).size).size ≤ 9223372036854775807 then (some ((((t339 ++ t338).extract 0 ((wrap64 (((t339 ++ t338).size : Int) - x1)) : Int).toNat) ++ (⟨#[46]⟩ : ByteArray)) ++ ((t339 ++ t338).extract ((wrap64 (((t339 ++ t338).size : Int) - x1)) : Int).toNat (t339 ++ t338).size), 0)) else (none)) else (none)) else (none)) else (none))) else (none))) else (if x1 = 0 then (some (t338, 0)) else (if 0 ≤ (wrap64 ((t338.size : Int) - x1)) then (if (wrap64 ((t338.size : Int) - x1)) ≤ (t338.size : Int) then (if (t338.extract 0 ((wrap64 ((t338.size : Int) - x1)) : Int).toNat).size + 1 ≤ 9223372036854775807 then (if ((t338.extract 0 ((wrap64 ((t338.size : Int) - x1)) : Int).toNat) ++ (⟨#[46]⟩ : ByteArray)).size + (t338.extract ((wrap64 ((t338.size : Int) - x1)) : Int).toNat t338.size).size ≤ 9223372036854775807 then (some (((t338.extract 0 ((wrap64 ((t338.size : Int) - x1)) : Int).toNat) ++ (⟨#[46]⟩ : ByteArray)) ++ (t338.extract ((wrap64 ((t338.size : Int) - x1)) : Int).toNat t338.size), 0)) else (none)) else (none)) else (none)) else (none))))
end
def demand_Rate.f (k : Nat) (a0_0 : Int) (a0_1 : Int) (a1 : Int) : Option (ByteArray × Int) := if a1 < 0 then (demand_Rate.j0 k a1 true a0_0 a0_1) else (if a1 > 9 then (demand_Rate.j0 k a1 true a0_0 a0_1) else ((frac_Right.f k a0_0 a0_1).bind fun t323 => (if t323 = true then (demand_Rate.j0 k a1 (decide (a0_0 < 0)) a0_0 a0_1) else (demand_Rate.j0 k a1 true a0_0 a0_1))))
theorem demand_Rate.mono_l : ∀ k, (∀ y0 y1 y2 y3, LeO (demand_Rate.j0 k y0 y1 y2 y3) (demand_Rate.j0 (k + 1) y0 y1 y2 y3)) ∧ (∀ y0 y1 y2 y3 y4 y5, LeO (demand_Rate.l0 k y0 y1 y2 y3 y4 y5) (demand_Rate.l0 (k + 1) y0 y1 y2 y3 y4 y5)) ∧ (∀ y0 y1, LeO (demand_Rate.j2 k y0 y1) (demand_Rate.j2 (k + 1) y0 y1))
  | 0 => ⟨fun _ _ _ _ r h => by simp [demand_Rate.j0] at h, fun _ _ _ _ _ _ r h => by simp [demand_Rate.l0] at h, fun _ _ r h => by simp [demand_Rate.j2] at h⟩
  | k + 1 => by
    obtain ⟨ih0, ih1, ih2⟩ := demand_Rate.mono_l k
    refine ⟨?_, ?_, ?_⟩
    · intro y0 y1 y2 y3
      unfold demand_Rate.j0
      repeat' with_reducible first | exact ih0 _ _ _ _ | exact ih1 _ _ _ _ _ _ | exact ih2 _ _ | exact frac_Right.mono _ _ _ | exact whole_Scale.mono _ _ _ _ | exact LeO.refl _ | exact LeO.none _ | refine LeO.ite ?_ ?_ | refine LeO.bind ?_ (fun _ => ?_)
    · intro y0 y1 y2 y3 y4 y5
      unfold demand_Rate.l0
      repeat' with_reducible first | exact ih0 _ _ _ _ | exact ih1 _ _ _ _ _ _ | exact ih2 _ _ | exact frac_Right.mono _ _ _ | exact whole_Scale.mono _ _ _ _ | exact LeO.refl _ | exact LeO.none _ | refine LeO.ite ?_ ?_ | refine LeO.bind ?_ (fun _ => ?_)
    · intro y0 y1
      unfold demand_Rate.j2
      repeat' with_reducible first | exact ih0 _ _ _ _ | exact ih1 _ _ _ _ _ _ | exact ih2 _ _ | exact frac_Right.mono _ _ _ | exact whole_Scale.mono _ _ _ _ | exact LeO.refl _ | exact LeO.none _ | refine LeO.ite ?_ ?_ | refine LeO.bind ?_ (fun _ => ?_)
theorem demand_Rate.mono : ∀ a0 a1 a2 k, LeO (demand_Rate.f k a0 a1 a2) (demand_Rate.f (k + 1) a0 a1 a2) := by
  intro a0 a1 a2 k
  obtain ⟨ih0, ih1, ih2⟩ := demand_Rate.mono_l k
  unfold demand_Rate.f
  repeat' with_reducible first | exact ih0 _ _ _ _ | exact ih1 _ _ _ _ _ _ | exact ih2 _ _ | exact frac_Right.mono _ _ _ | exact whole_Scale.mono _ _ _ _ | exact LeO.refl _ | exact LeO.none _ | refine LeO.ite ?_ ?_ | refine LeO.bind ?_ (fun _ => ?_)
/-! ### carrefourlaw09_awake: function 5 -/
def carrefourlaw09_awake.f (k : Nat)  : Option (Bool) := (demand_Volume.f k (⟨#[]⟩ : ByteArray) 400 1800 21 20 0 0 0 0 0 0 9 10).bind fun bt342 => ((demand_Ratio.f k (⟨#[]⟩ : ByteArray) 400 1800 21 20 0 0 0 0 0 0 9 10).bind fun bt346 => ((demand_Rate.f k bt346.1 bt346.2.1 3).bind fun bt350 => (if bt342.2.2 = 0 then (if bt346.2.2 = 0 then (if bt350.2 = 0 then (if (bt342.1 == 1400 && (bt342.2.1 == 3)) = true then (if (bt346.1 == 7 && (bt346.2.1 == 27)) = true then (some (bt350.1.toList == ([48, 46, 50, 53, 57] : List UInt8))) else (some false)) else (some false)) else (some false)) else (some false)) else (some false))))
theorem carrefourlaw09_awake.mono : ∀ k, LeO (carrefourlaw09_awake.f k ) (carrefourlaw09_awake.f (k + 1) ) := by
  intro  k
  unfold carrefourlaw09_awake.f
  repeat' with_reducible first | exact demand_Rate.mono _ _ _ _ | exact demand_Ratio.mono _ _ _ _ _ _ _ _ _ _ _ _ _ _ | exact demand_Volume.mono _ _ _ _ _ _ _ _ _ _ _ _ _ _ | exact LeO.refl _ | exact LeO.none _ | refine LeO.ite ?_ ?_ | refine LeO.bind ?_ (fun _ => ?_)
/-! ### carrefourref01_Size: function 22 -/
def carrefourref01_Size.f (a0 : Int) : Option (Int) := if a0 < 0 then (some (IntKind.u64.wrap (-(IntKind.u64.wrap (a0))))) else (some (IntKind.u64.wrap (a0)))
/-! ### carrefourref02_gcd: function 47 -/
def carrefourref02_gcd.l0 : Nat → Int → Int → Option (Int)
  | 0, _, _ => none
  | k + 1, x0, x1 => if x1 = 0 then (some x0) else (carrefourref02_gcd.l0 k x1 (Int.tmod x0 x1))
def carrefourref02_gcd.f (k : Nat) (a0 : Int) (a1 : Int) : Option (Int) := carrefourref02_gcd.l0 k a0 a1
theorem carrefourref02_gcd.mono_l : ∀ k, (∀ y0 y1, LeO (carrefourref02_gcd.l0 k y0 y1) (carrefourref02_gcd.l0 (k + 1) y0 y1))
  | 0 => fun _ _ r h => by simp [carrefourref02_gcd.l0] at h
  | k + 1 => by
    have ih0 := carrefourref02_gcd.mono_l k
    · intro y0 y1
      unfold carrefourref02_gcd.l0
      repeat' with_reducible first | exact ih0 _ _ | exact LeO.refl _ | exact LeO.none _ | refine LeO.ite ?_ ?_ | refine LeO.bind ?_ (fun _ => ?_)
theorem carrefourref02_gcd.mono : ∀ a0 a1 k, LeO (carrefourref02_gcd.f k a0 a1) (carrefourref02_gcd.f (k + 1) a0 a1) := by
  intro a0 a1 k
  have ih0 := carrefourref02_gcd.mono_l k
  unfold carrefourref02_gcd.f
  repeat' with_reducible first | exact ih0 _ _ | exact LeO.refl _ | exact LeO.none _ | refine LeO.ite ?_ ?_ | refine LeO.bind ?_ (fun _ => ?_)
/-! ### carrefourref02_Right: function 45 -/
def carrefourref02_Right.f (k : Nat) (a0_0 : Int) (a0_1 : Int) : Option (Bool) := if a0_1 ≥ 1 then ((carrefourref01_Size.f a0_0).bind fun t353 => ((carrefourref02_gcd.f k t353 (IntKind.u64.wrap (a0_1))).bind fun t354 => (some (t354 == 1)))) else (some false)
theorem carrefourref02_Right.mono : ∀ a0 a1 k, LeO (carrefourref02_Right.f k a0 a1) (carrefourref02_Right.f (k + 1) a0 a1) := by
  intro a0 a1 k
  unfold carrefourref02_Right.f
  repeat' with_reducible first | exact carrefourref02_gcd.mono _ _ _ | exact LeO.refl _ | exact LeO.none _ | refine LeO.ite ?_ ?_ | refine LeO.bind ?_ (fun _ => ?_)
/-! ### carrefourref02_Norm: function 16 -/
def carrefourref02_Norm.f (k : Nat) (a0_0 : Int) (a0_1 : Int) : Option (Int × Int) := (carrefourref02_Right.f k a0_0 a0_1).bind fun t357 => (if t357 = true then (some (a0_0, a0_1)) else (some (0, 1)))
theorem carrefourref02_Norm.mono : ∀ a0 a1 k, LeO (carrefourref02_Norm.f k a0 a1) (carrefourref02_Norm.f (k + 1) a0 a1) := by
  intro a0 a1 k
  unfold carrefourref02_Norm.f
  repeat' with_reducible first | exact carrefourref02_Right.mono _ _ _ | exact LeO.refl _ | exact LeO.none _ | refine LeO.ite ?_ ?_ | refine LeO.bind ?_ (fun _ => ?_)
/-! ### carrefourref01_Plus: function 24 -/
mutual
def carrefourref01_Plus.l0 : Nat → List Int → List Int → List Int → Int → Int → Option (List Int)
  | 0, _, _, _, _, _ => none
  | k + 1, x0, x1, x5, x6, x7 => if x7 < (x0.length : Int) then (carrefourref01_Plus.j1 k x0 x1 x5 x6 x7 true) else (if x7 < (x1.length : Int) then (carrefourref01_Plus.j1 k x0 x1 x5 x6 x7 true) else (carrefourref01_Plus.j1 k x0 x1 x5 x6 x7 (decide (x6 > 0))))
def carrefourref01_Plus.j1 : Nat → List Int → List Int → List Int → Int → Int → Bool → Option (List Int)
  | 0, _, _, _, _, _, _ => none
  | k + 1, x0, x1, x5, x6, x7, x22 => if x22 = true then (if x7 < (x0.length : Int) then (if 0 ≤ x7 then (if x7 < (x1.length : Int) then (if x5.length < 17592186044416 then (carrefourref01_Plus.l0 k x0 x1 (x5 ++ [Int.tmod (IntKind.u64.wrap ((IntKind.u64.wrap (x6 + (rd x0 x7))) + (rd x1 x7))) 65536]) (IntKind.u64.wrap (Int.tdiv (IntKind.u64.wrap ((IntKind.u64.wrap (x6 + (rd x0 x7))) + (rd x1 x7))) 65536)) (wrap64 (x7 + 1))) else (none)) else (if x5.length < 17592186044416 then (carrefourref01_Plus.l0 k x0 x1 (x5 ++ [Int.tmod (IntKind.u64.wrap (x6 + (rd x0 x7))) 65536]) (IntKind.u64.wrap (Int.tdiv (IntKind.u64.wrap (x6 + (rd x0 x7))) 65536)) (wrap64 (x7 + 1))) else (none))) else (none)) else (if x7 < (x1.length : Int) then (if 0 ≤ x7 then (if x5.length < 17592186044416 then (carrefourref01_Plus.l0 k x0 x1 (x5 ++ [Int.tmod (IntKind.u64.wrap (x6 + (rd x1 x7))) 65536]) (IntKind.u64.wrap (Int.tdiv (IntKind.u64.wrap (x6 + (rd x1 x7))) 65536)) (wrap64 (x7 + 1))) else (none)) else (none)) else (if x5.length < 17592186044416 then (carrefourref01_Plus.l0 k x0 x1 (x5 ++ [Int.tmod x6 65536]) (IntKind.u64.wrap (Int.tdiv x6 65536)) (wrap64 (x7 + 1))) else (none)))) else (some x5)
end
def carrefourref01_Plus.f (k : Nat) (l0 : List Int) (l1 : List Int) : Option (List Int) := carrefourref01_Plus.l0 k l0 l1 ([] : List Int) 0 0
theorem carrefourref01_Plus.mono_l : ∀ k, (∀ y0 y1 y2 y3 y4, LeO (carrefourref01_Plus.l0 k y0 y1 y2 y3 y4) (carrefourref01_Plus.l0 (k + 1) y0 y1 y2 y3 y4)) ∧ (∀ y0 y1 y2 y3 y4 y5, LeO (carrefourref01_Plus.j1 k y0 y1 y2 y3 y4 y5) (carrefourref01_Plus.j1 (k + 1) y0 y1 y2 y3 y4 y5))
  | 0 => ⟨fun _ _ _ _ _ r h => by simp [carrefourref01_Plus.l0] at h, fun _ _ _ _ _ _ r h => by simp [carrefourref01_Plus.j1] at h⟩
  | k + 1 => by
    obtain ⟨ih0, ih1⟩ := carrefourref01_Plus.mono_l k
    refine ⟨?_, ?_⟩
    · intro y0 y1 y2 y3 y4
      unfold carrefourref01_Plus.l0
      repeat' with_reducible first | exact ih0 _ _ _ _ _ | exact ih1 _ _ _ _ _ _ | exact LeO.refl _ | exact LeO.none _ | refine LeO.ite ?_ ?_ | refine LeO.bind ?_ (fun _ => ?_)
    · intro y0 y1 y2 y3 y4 y5
      unfold carrefourref01_Plus.j1
      repeat' with_reducible first | exact ih0 _ _ _ _ _ | exact ih1 _ _ _ _ _ _ | exact LeO.refl _ | exact LeO.none _ | refine LeO.ite ?_ ?_ | refine LeO.bind ?_ (fun _ => ?_)
theorem carrefourref01_Plus.mono : ∀ a0 a1 k, LeO (carrefourref01_Plus.f k a0 a1) (carrefourref01_Plus.f (k + 1) a0 a1) := by
  intro a0 a1 k
  obtain ⟨ih0, ih1⟩ := carrefourref01_Plus.mono_l k
  unfold carrefourref01_Plus.f
  repeat' with_reducible first | exact ih0 _ _ _ _ _ | exact ih1 _ _ _ _ _ _ | exact LeO.refl _ | exact LeO.none _ | refine LeO.ite ?_ ?_ | refine LeO.bind ?_ (fun _ => ?_)
/-! ### carrefourref01_Parts: function 49 -/
def carrefourref01_Parts.l0 : Nat → Int → List Int → Int → Option (List Int)
  | 0, _, _, _ => none
  | k + 1, x0, x3, x4 => if x4 < 4 then (if x3.length < 17592186044416 then (carrefourref01_Parts.l0 k (IntKind.u64.wrap (Int.tdiv x0 65536)) (x3 ++ [Int.tmod x0 65536]) (wrap64 (x4 + 1))) else (none)) else (some x3)
def carrefourref01_Parts.f (k : Nat) (a0 : Int) : Option (List Int) := carrefourref01_Parts.l0 k a0 ([] : List Int) 0
theorem carrefourref01_Parts.mono_l : ∀ k, (∀ y0 y1 y2, LeO (carrefourref01_Parts.l0 k y0 y1 y2) (carrefourref01_Parts.l0 (k + 1) y0 y1 y2))
  | 0 => fun _ _ _ r h => by simp [carrefourref01_Parts.l0] at h
  | k + 1 => by
    have ih0 := carrefourref01_Parts.mono_l k
    · intro y0 y1 y2
      unfold carrefourref01_Parts.l0
      repeat' with_reducible first | exact ih0 _ _ _ | exact LeO.refl _ | exact LeO.none _ | refine LeO.ite ?_ ?_ | refine LeO.bind ?_ (fun _ => ?_)
theorem carrefourref01_Parts.mono : ∀ a0 k, LeO (carrefourref01_Parts.f k a0) (carrefourref01_Parts.f (k + 1) a0) := by
  intro a0 k
  have ih0 := carrefourref01_Parts.mono_l k
  unfold carrefourref01_Parts.f
  repeat' with_reducible first | exact ih0 _ _ _ | exact LeO.refl _ | exact LeO.none _ | refine LeO.ite ?_ ?_ | refine LeO.bind ?_ (fun _ => ?_)
/-! ### carrefourref01_Times: function 21 -/
mutual
def carrefourref01_Times.l0 : Nat → List Int → List Int → List Int → Int → Option (List Int)
  | 0, _, _, _, _ => none
  | k + 1, x5, x6, x7, x8 => if x8 < 4 then (if 0 ≤ x8 then (if (x8 : Int).toNat ≤ 35184372088832 then (carrefourref01_Times.l1 k x5 x6 x7 x8 (List.replicate (x8 : Int).toNat 0) 0 0) else (none)) else (none)) else (some x7)
def carrefourref01_Times.l1 : Nat → List Int → List Int → List Int → Int → List Int → Int → Int → Option (List Int)
  | 0, _, _, _, _, _, _, _ => none
  | k + 1, x5, x6, x7, x8, x9, x10, x11 => if x11 < 4 then (if 0 ≤ x8 then (if x8 < (x5.length : Int) then (if 0 ≤ x11 then (if x11 < (x6.length : Int) then (if x9.length < 17592186044416 then (carrefourref01_Times.l1 k x5 x6 x7 x8 (x9 ++ [Int.tmod (IntKind.u64.wrap ((IntKind.u64.wrap ((rd x5 x8) * (rd x6 x11))) + x10)) 65536]) (IntKind.u64.wrap (Int.tdiv (IntKind.u64.wrap ((IntKind.u64.wrap ((rd x5 x8) * (rd x6 x11))) + x10)) 65536)) (wrap64 (x11 + 1))) else (none)) else (none)) else (none)) else (none)) else (none)) else (if x9.length < 17592186044416 then ((carrefourref01_Plus.f k x7 (x9 ++ [x10])).bind fun t393 => (carrefourref01_Times.l0 k x5 x6 t393 (wrap64 (x8 + 1)))) else (none))
end
def carrefourref01_Times.f (k : Nat) (a0 : Int) (a1 : Int) : Option (List Int) := (carrefourref01_Parts.f k a0).bind fun t376 => ((carrefourref01_Parts.f k a1).bind fun t379 => (carrefourref01_Times.l0 k t376 t379 ([] : List Int) 0))
theorem carrefourref01_Times.mono_l : ∀ k, (∀ y0 y1 y2 y3, LeO (carrefourref01_Times.l0 k y0 y1 y2 y3) (carrefourref01_Times.l0 (k + 1) y0 y1 y2 y3)) ∧ (∀ y0 y1 y2 y3 y4 y5 y6, LeO (carrefourref01_Times.l1 k y0 y1 y2 y3 y4 y5 y6) (carrefourref01_Times.l1 (k + 1) y0 y1 y2 y3 y4 y5 y6))
  | 0 => ⟨fun _ _ _ _ r h => by simp [carrefourref01_Times.l0] at h, fun _ _ _ _ _ _ _ r h => by simp [carrefourref01_Times.l1] at h⟩
  | k + 1 => by
    obtain ⟨ih0, ih1⟩ := carrefourref01_Times.mono_l k
    refine ⟨?_, ?_⟩
    · intro y0 y1 y2 y3
      unfold carrefourref01_Times.l0
      repeat' with_reducible first | exact ih0 _ _ _ _ | exact ih1 _ _ _ _ _ _ _ | exact carrefourref01_Parts.mono _ _ | exact carrefourref01_Plus.mono _ _ _ | exact LeO.refl _ | exact LeO.none _ | refine LeO.ite ?_ ?_ | refine LeO.bind ?_ (fun _ => ?_)
    · intro y0 y1 y2 y3 y4 y5 y6
      unfold carrefourref01_Times.l1
      repeat' with_reducible first | exact ih0 _ _ _ _ | exact ih1 _ _ _ _ _ _ _ | exact carrefourref01_Parts.mono _ _ | exact carrefourref01_Plus.mono _ _ _ | exact LeO.refl _ | exact LeO.none _ | refine LeO.ite ?_ ?_ | refine LeO.bind ?_ (fun _ => ?_)
theorem carrefourref01_Times.mono : ∀ a0 a1 k, LeO (carrefourref01_Times.f k a0 a1) (carrefourref01_Times.f (k + 1) a0 a1) := by
  intro a0 a1 k
  obtain ⟨ih0, ih1⟩ := carrefourref01_Times.mono_l k
  unfold carrefourref01_Times.f
  repeat' with_reducible first | exact ih0 _ _ _ _ | exact ih1 _ _ _ _ _ _ _ | exact carrefourref01_Parts.mono _ _ | exact carrefourref01_Plus.mono _ _ _ | exact LeO.refl _ | exact LeO.none _ | refine LeO.ite ?_ ?_ | refine LeO.bind ?_ (fun _ => ?_)
/-! ### carrefourref01_Order: function 25 -/
mutual
def carrefourref01_Order.l0 : Nat → List Int → List Int → Int → Option (Int)
  | 0, _, _, _ => none
  | k + 1, x0, x1, x6 => if x6 ≥ 0 then (if x6 < (x0.length : Int) then (if 0 ≤ x6 then (carrefourref01_Order.j1 k x0 x1 x6 (rd x0 x6) 0) else (none)) else (carrefourref01_Order.j1 k x0 x1 x6 0 0)) else (some 0)
def carrefourref01_Order.j1 : Nat → List Int → List Int → Int → Int → Int → Option (Int)
  | 0, _, _, _, _, _ => none
  | k + 1, x0, x1, x6, x7, x8 => if x6 < (x1.length : Int) then (if 0 ≤ x6 then (carrefourref01_Order.j2 k x0 x1 x6 x7 (rd x1 x6)) else (none)) else (carrefourref01_Order.j2 k x0 x1 x6 x7 x8)
def carrefourref01_Order.j2 : Nat → List Int → List Int → Int → Int → Int → Option (Int)
  | 0, _, _, _, _, _ => none
  | k + 1, x0, x1, x6, x7, x8 => if x7 < x8 then (some (-1)) else (if x7 > x8 then (some 1) else (carrefourref01_Order.l0 k x0 x1 (wrap64 (x6 - 1))))
end
def carrefourref01_Order.f (k : Nat) (l0 : List Int) (l1 : List Int) : Option (Int) := carrefourref01_Order.l0 k l0 l1 (wrap64 ((mx (l0.length : Int) (l1.length : Int)) - 1))
theorem carrefourref01_Order.mono_l : ∀ k, (∀ y0 y1 y2, LeO (carrefourref01_Order.l0 k y0 y1 y2) (carrefourref01_Order.l0 (k + 1) y0 y1 y2)) ∧ (∀ y0 y1 y2 y3 y4, LeO (carrefourref01_Order.j1 k y0 y1 y2 y3 y4) (carrefourref01_Order.j1 (k + 1) y0 y1 y2 y3 y4)) ∧ (∀ y0 y1 y2 y3 y4, LeO (carrefourref01_Order.j2 k y0 y1 y2 y3 y4) (carrefourref01_Order.j2 (k + 1) y0 y1 y2 y3 y4))
  | 0 => ⟨fun _ _ _ r h => by simp [carrefourref01_Order.l0] at h, fun _ _ _ _ _ r h => by simp [carrefourref01_Order.j1] at h, fun _ _ _ _ _ r h => by simp [carrefourref01_Order.j2] at h⟩
  | k + 1 => by
    obtain ⟨ih0, ih1, ih2⟩ := carrefourref01_Order.mono_l k
    refine ⟨?_, ?_, ?_⟩
    · intro y0 y1 y2
      unfold carrefourref01_Order.l0
      repeat' with_reducible first | exact ih0 _ _ _ | exact ih1 _ _ _ _ _ | exact ih2 _ _ _ _ _ | exact LeO.refl _ | exact LeO.none _ | refine LeO.ite ?_ ?_ | refine LeO.bind ?_ (fun _ => ?_)
    · intro y0 y1 y2 y3 y4
      unfold carrefourref01_Order.j1
      repeat' with_reducible first | exact ih0 _ _ _ | exact ih1 _ _ _ _ _ | exact ih2 _ _ _ _ _ | exact LeO.refl _ | exact LeO.none _ | refine LeO.ite ?_ ?_ | refine LeO.bind ?_ (fun _ => ?_)
    · intro y0 y1 y2 y3 y4
      unfold carrefourref01_Order.j2
      repeat' with_reducible first | exact ih0 _ _ _ | exact ih1 _ _ _ _ _ | exact ih2 _ _ _ _ _ | exact LeO.refl _ | exact LeO.none _ | refine LeO.ite ?_ ?_ | refine LeO.bind ?_ (fun _ => ?_)
theorem carrefourref01_Order.mono : ∀ a0 a1 k, LeO (carrefourref01_Order.f k a0 a1) (carrefourref01_Order.f (k + 1) a0 a1) := by
  intro a0 a1 k
  obtain ⟨ih0, ih1, ih2⟩ := carrefourref01_Order.mono_l k
  unfold carrefourref01_Order.f
  repeat' with_reducible first | exact ih0 _ _ _ | exact ih1 _ _ _ _ _ | exact ih2 _ _ _ _ _ | exact LeO.refl _ | exact LeO.none _ | refine LeO.ite ?_ ?_ | refine LeO.bind ?_ (fun _ => ?_)
/-! ### carrefourref01_sign: function 46 -/
def carrefourref01_sign.j0 : Nat → Int → Int → Bool → Option (Int)
  | 0, _, _, _ => none
  | k + 1, x0, x1, x10 => if x10 = true then (some 0) else (if ((decide (x0 < 0)) != (decide (x1 < 0))) = true then (some (-1)) else (some 1))
def carrefourref01_sign.f (k : Nat) (a0 : Int) (a1 : Int) : Option (Int) := if a0 = 0 then (carrefourref01_sign.j0 k a0 a1 true) else (carrefourref01_sign.j0 k a0 a1 (a1 == 0))
theorem carrefourref01_sign.mono_l : ∀ k, (∀ y0 y1 y2, LeO (carrefourref01_sign.j0 k y0 y1 y2) (carrefourref01_sign.j0 (k + 1) y0 y1 y2))
  | 0 => fun _ _ _ r h => by simp [carrefourref01_sign.j0] at h
  | k + 1 => by
    have ih0 := carrefourref01_sign.mono_l k
    · intro y0 y1 y2
      unfold carrefourref01_sign.j0
      repeat' with_reducible first | exact ih0 _ _ _ | exact LeO.refl _ | exact LeO.none _ | refine LeO.ite ?_ ?_ | refine LeO.bind ?_ (fun _ => ?_)
theorem carrefourref01_sign.mono : ∀ a0 a1 k, LeO (carrefourref01_sign.f k a0 a1) (carrefourref01_sign.f (k + 1) a0 a1) := by
  intro a0 a1 k
  have ih0 := carrefourref01_sign.mono_l k
  unfold carrefourref01_sign.f
  repeat' with_reducible first | exact ih0 _ _ _ | exact LeO.refl _ | exact LeO.none _ | refine LeO.ite ?_ ?_ | refine LeO.bind ?_ (fun _ => ?_)
/-! ### carrefourref01_Compare: function 17 -/
def carrefourref01_Compare.j0 : Nat → Int → Int → Int → Int → Int → Bool → Option (Int)
  | 0, _, _, _, _, _, _ => none
  | k + 1, x0, x1, x2, x3, x9, x40 => if x40 = true then (if (wrap64 (x0 * x1)) < (wrap64 (x2 * x3)) then (some (-1)) else (if (wrap64 (x0 * x1)) > (wrap64 (x2 * x3)) then (some 1) else (some 0))) else ((carrefourref01_Size.f x0).bind fun t404 => ((carrefourref01_Size.f x1).bind fun t405 => ((carrefourref01_Times.f k t404 t405).bind fun t406 => ((carrefourref01_Size.f x2).bind fun t409 => ((carrefourref01_Size.f x3).bind fun t410 => ((carrefourref01_Times.f k t409 t410).bind fun t411 => ((carrefourref01_Order.f k t406 t411).bind fun t414 => (some (wrap64 (x9 * t414))))))))))
def carrefourref01_Compare.f (k : Nat) (a0 : Int) (a1 : Int) (a2 : Int) (a3 : Int) : Option (Int) := (carrefourref01_sign.f k a0 a1).bind fun t398 => ((carrefourref01_sign.f k a2 a3).bind fun t399 => (if t398 < t399 then (some (-1)) else (if t398 > t399 then (some 1) else ((carrefourref01_Size.f a0).bind fun t400 => (if t400 < 2147483648 then ((carrefourref01_Size.f a1).bind fun t401 => (if t401 < 2147483648 then ((carrefourref01_Size.f a2).bind fun t402 => (if t402 < 2147483648 then ((carrefourref01_Size.f a3).bind fun t403 => (carrefourref01_Compare.j0 k a0 a1 a2 a3 t398 (decide (t403 < 2147483648)))) else (carrefourref01_Compare.j0 k a0 a1 a2 a3 t398 false))) else (carrefourref01_Compare.j0 k a0 a1 a2 a3 t398 false))) else (carrefourref01_Compare.j0 k a0 a1 a2 a3 t398 false))))))
theorem carrefourref01_Compare.mono_l : ∀ k, (∀ y0 y1 y2 y3 y4 y5, LeO (carrefourref01_Compare.j0 k y0 y1 y2 y3 y4 y5) (carrefourref01_Compare.j0 (k + 1) y0 y1 y2 y3 y4 y5))
  | 0 => fun _ _ _ _ _ _ r h => by simp [carrefourref01_Compare.j0] at h
  | k + 1 => by
    have ih0 := carrefourref01_Compare.mono_l k
    · intro y0 y1 y2 y3 y4 y5
      unfold carrefourref01_Compare.j0
      repeat' with_reducible first | exact ih0 _ _ _ _ _ _ | exact carrefourref01_Order.mono _ _ _ | exact carrefourref01_Times.mono _ _ _ | exact carrefourref01_sign.mono _ _ _ | exact LeO.refl _ | exact LeO.none _ | refine LeO.ite ?_ ?_ | refine LeO.bind ?_ (fun _ => ?_)
theorem carrefourref01_Compare.mono : ∀ a0 a1 a2 a3 k, LeO (carrefourref01_Compare.f k a0 a1 a2 a3) (carrefourref01_Compare.f (k + 1) a0 a1 a2 a3) := by
  intro a0 a1 a2 a3 k
  have ih0 := carrefourref01_Compare.mono_l k
  unfold carrefourref01_Compare.f
  repeat' with_reducible first | exact ih0 _ _ _ _ _ _ | exact carrefourref01_Order.mono _ _ _ | exact carrefourref01_Times.mono _ _ _ | exact carrefourref01_sign.mono _ _ _ | exact LeO.refl _ | exact LeO.none _ | refine LeO.ite ?_ ?_ | refine LeO.bind ?_ (fun _ => ?_)
/-! ### carrefourref02_Cmp: function 7 -/
def carrefourref02_Cmp.f (k : Nat) (a0_0 : Int) (a0_1 : Int) (a1_0 : Int) (a1_1 : Int) : Option (Int) := (carrefourref02_Norm.f k a0_0 a0_1).bind fun bt417 => ((carrefourref02_Norm.f k a1_0 a1_1).bind fun bt419 => ((carrefourref01_Compare.f k bt417.1 bt419.2 bt419.1 bt417.2).bind fun t421 => (some t421)))
theorem carrefourref02_Cmp.mono : ∀ a0 a1 a2 a3 k, LeO (carrefourref02_Cmp.f k a0 a1 a2 a3) (carrefourref02_Cmp.f (k + 1) a0 a1 a2 a3) := by
  intro a0 a1 a2 a3 k
  unfold carrefourref02_Cmp.f
  repeat' with_reducible first | exact carrefourref01_Compare.mono _ _ _ _ _ | exact carrefourref02_Norm.mono _ _ _ | exact LeO.refl _ | exact LeO.none _ | refine LeO.ite ?_ ?_ | refine LeO.bind ?_ (fun _ => ?_)
/-! ### carrefourlaw09_DemandGrows: function 3 -/
mutual
def carrefourlaw09_DemandGrows.j0 : Nat → Bool → ByteArray → Int → Int → Int → Int → Int → Int → Int → Int → Int → Int → Int → Int → Option (Bool)
  | 0, _, _, _, _, _, _, _, _, _, _, _, _, _, _ => none
  | k + 1, x55, x423000, x423001, x423002, x423003, x423004, x423005, x423006, x423007, x423008, x423009, x423010, x424000, x424001 => if x55 = true then ((carrefourlaw09_awake.f k).bind fun t424 => (some t424)) else ((demand_Ratio.f k x423000 x423001 x423002 x423003 x423004 x423005 x423006 x423007 x423008 x423009 x423010 x424000 x424001).bind fun bt425 => ((demand_Ratio.f k x423000 (wrap64 (x423001 + 1)) x423002 x423003 x423004 x423005 x423006 x423007 x423008 x423009 x423010 x424000 x424001).bind fun bt430 => ((demand_Ratio.f k x423000 x423001 (wrap64 (x423002 + 1)) x423003 x423004 x423005 x423006 x423007 x423008 x423009 x423010 x424000 x424001).bind fun bt435 => (if bt425.2.2 = 0 then (if bt430.2.2 = 0 then ((carrefourref02_Cmp.f k bt425.1 bt425.2.1 bt430.1 bt430.2.1).bind fun t439 => (if t439 > 0 then (carrefourlaw09_DemandGrows.j1 k true x423000 x423001 x423002 x423003 x423004 x423005 x423006 x423007 x423008 x423009 x423010 x424000 x424001) else (if bt435.2.2 = 0 then ((carrefourref02_Cmp.f k bt435.1 bt435.2.1 bt425.1 bt425.2.1).bind fun t440 => (carrefourlaw09_DemandGrows.j1 k (decide (t440 > 0)) x423000 x423001 x423002 x423003 x423004 x423005 x423006 x423007 x423008 x423009 x423010 x424000 x424001)) else (carrefourlaw09_DemandGrows.j1 k false x423000 x423001 x423002 x423003 x423004 x423005 x423006 x423007 x423008 x423009 x423010 x424000 x424001)))) else (if bt435.2.2 = 0 then ((carrefourref02_Cmp.f k bt435.1 bt435.2.1 bt425.1 bt425.2.1).bind fun t441 => (carrefourlaw09_DemandGrows.j1 k (decide (t441 > 0)) x423000 x423001 x423002 x423003 x423004 x423005 x423006 x423007 x423008 x423009 x423010 x424000 x424001)) else (carrefourlaw09_DemandGrows.j1 k false x423000 x423001 x423002 x423003 x423004 x423005 x423006 x423007 x423008 x423009 x423010 x424000 x424001))) else (carrefourlaw09_DemandGrows.j1 k false x423000 x423001 x423002 x423003 x423004 x423005 x423006 x423007 x423008 x423009 x423010 x424000 x424001)))))
def carrefourlaw09_DemandGrows.j1 : Nat → Bool → ByteArray → Int → Int → Int → Int → Int → Int → Int → Int → Int → Int → Int → Int → Option (Bool)
  | 0, _, _, _, _, _, _, _, _, _, _, _, _, _, _ => none
  | k + 1, x110, x423000, x423001, x423002, x423003, x423004, x423005, x423006, x423007, x423008, x423009, x423010, x424000, x424001 => if x110 = true then (some false) else ((demand_Ratio.f k x423000 0 x423002 x423003 x423004 x423005 x423006 x423007 x423008 x423009 x423010 x424000 x424001).bind fun bt443 => (if bt443.2.2 = 0 then (if bt443.1 = 0 then ((carrefourlaw09_awake.f k).bind fun t447 => (some t447)) else (some false)) else (some false)))
end
def carrefourlaw09_DemandGrows.f (k : Nat) (a0_0 : ByteArray) (a0_1 : Int) (a0_2 : Int) (a0_3 : Int) (a0_4 : Int) (a0_5 : Int) (a0_6 : Int) (a0_7 : Int) (a0_8 : Int) (a0_9 : Int) (a0_10 : Int) (a1_0 : Int) (a1_1 : Int) : Option (Bool) := if a0_1 < 0 then (carrefourlaw09_DemandGrows.j0 k true a0_0 a0_1 a0_2 a0_3 a0_4 a0_5 a0_6 a0_7 a0_8 a0_9 a0_10 a1_0 a1_1) else (if a0_1 > 1000000000 then (carrefourlaw09_DemandGrows.j0 k true a0_0 a0_1 a0_2 a0_3 a0_4 a0_5 a0_6 a0_7 a0_8 a0_9 a0_10 a1_0 a1_1) else (if a0_2 < 1 then (carrefourlaw09_DemandGrows.j0 k true a0_0 a0_1 a0_2 a0_3 a0_4 a0_5 a0_6 a0_7 a0_8 a0_9 a0_10 a1_0 a1_1) else (if a0_2 > 1000000000 then (carrefourlaw09_DemandGrows.j0 k true a0_0 a0_1 a0_2 a0_3 a0_4 a0_5 a0_6 a0_7 a0_8 a0_9 a0_10 a1_0 a1_1) else (if a0_3 < 1 then (carrefourlaw09_DemandGrows.j0 k true a0_0 a0_1 a0_2 a0_3 a0_4 a0_5 a0_6 a0_7 a0_8 a0_9 a0_10 a1_0 a1_1) else (if a0_4 < 1 then (carrefourlaw09_DemandGrows.j0 k true a0_0 a0_1 a0_2 a0_3 a0_4 a0_5 a0_6 a0_7 a0_8 a0_9 a0_10 a1_0 a1_1) else (if a1_0 < 1 then (carrefourlaw09_DemandGrows.j0 k true a0_0 a0_1 a0_2 a0_3 a0_4 a0_5 a0_6 a0_7 a0_8 a0_9 a0_10 a1_0 a1_1) else (carrefourlaw09_DemandGrows.j0 k (decide (a1_1 < 1)) a0_0 a0_1 a0_2 a0_3 a0_4 a0_5 a0_6 a0_7 a0_8 a0_9 a0_10 a1_0 a1_1)))))))
theorem carrefourlaw09_DemandGrows.mono_l : ∀ k, (∀ y0 y1 y2 y3 y4 y5 y6 y7 y8 y9 y10 y11 y12 y13, LeO (carrefourlaw09_DemandGrows.j0 k y0 y1 y2 y3 y4 y5 y6 y7 y8 y9 y10 y11 y12 y13) (carrefourlaw09_DemandGrows.j0 (k + 1) y0 y1 y2 y3 y4 y5 y6 y7 y8 y9 y10 y11 y12 y13)) ∧ (∀ y0 y1 y2 y3 y4 y5 y6 y7 y8 y9 y10 y11 y12 y13, LeO (carrefourlaw09_DemandGrows.j1 k y0 y1 y2 y3 y4 y5 y6 y7 y8 y9 y10 y11 y12 y13) (carrefourlaw09_DemandGrows.j1 (k + 1) y0 y1 y2 y3 y4 y5 y6 y7 y8 y9 y10 y11 y12 y13))
  | 0 => ⟨fun _ _ _ _ _ _ _ _ _ _ _ _ _ _ r h => by simp [carrefourlaw09_DemandGrows.j0] at h, fun _ _ _ _ _ _ _ _ _ _ _ _ _ _ r h => by simp [carrefourlaw09_DemandGrows.j1] at h⟩
  | k + 1 => by
    obtain ⟨ih0, ih1⟩ := carrefourlaw09_DemandGrows.mono_l k
    refine ⟨?_, ?_⟩
    · intro y0 y1 y2 y3 y4 y5 y6 y7 y8 y9 y10 y11 y12 y13
      unfold carrefourlaw09_DemandGrows.j0
      repeat' with_reducible first | exact ih0 _ _ _ _ _ _ _ _ _ _ _ _ _ _ | exact ih1 _ _ _ _ _ _ _ _ _ _ _ _ _ _ | exact carrefourlaw09_awake.mono _ | exact carrefourref02_Cmp.mono _ _ _ _ _ | exact demand_Ratio.mono _ _ _ _ _ _ _ _ _ _ _ _ _ _ | exact LeO.refl _ | exact LeO.none _ | refine LeO.ite ?_ ?_ | refine LeO.bind ?_ (fun _ => ?_)
    · intro y0 y1 y2 y3 y4 y5 y6 y7 y8 y9 y10 y11 y12 y13
      unfold carrefourlaw09_DemandGrows.j1
      repeat' with_reducible first | exact ih0 _ _ _ _ _ _ _ _ _ _ _ _ _ _ | exact ih1 _ _ _ _ _ _ _ _ _ _ _ _ _ _ | exact carrefourlaw09_awake.mono _ | exact carrefourref02_Cmp.mono _ _ _ _ _ | exact demand_Ratio.mono _ _ _ _ _ _ _ _ _ _ _ _ _ _ | exact LeO.refl _ | exact LeO.none _ | refine LeO.ite ?_ ?_ | refine LeO.bind ?_ (fun _ => ?_)
theorem carrefourlaw09_DemandGrows.mono : ∀ a0 a1 a2 a3 a4 a5 a6 a7 a8 a9 a10 a11 a12 k, LeO (carrefourlaw09_DemandGrows.f k a0 a1 a2 a3 a4 a5 a6 a7 a8 a9 a10 a11 a12) (carrefourlaw09_DemandGrows.f (k + 1) a0 a1 a2 a3 a4 a5 a6 a7 a8 a9 a10 a11 a12) := by
  intro a0 a1 a2 a3 a4 a5 a6 a7 a8 a9 a10 a11 a12 k
  obtain ⟨ih0, ih1⟩ := carrefourlaw09_DemandGrows.mono_l k
  unfold carrefourlaw09_DemandGrows.f
  repeat' with_reducible first | exact ih0 _ _ _ _ _ _ _ _ _ _ _ _ _ _ | exact ih1 _ _ _ _ _ _ _ _ _ _ _ _ _ _ | exact carrefourlaw09_awake.mono _ | exact carrefourref02_Cmp.mono _ _ _ _ _ | exact demand_Ratio.mono _ _ _ _ _ _ _ _ _ _ _ _ _ _ | exact LeO.refl _ | exact LeO.none _ | refine LeO.ite ?_ ?_ | refine LeO.bind ?_ (fun _ => ?_)
end Go.Proofs.YtcdaedhphdmnoaaDoor.X
