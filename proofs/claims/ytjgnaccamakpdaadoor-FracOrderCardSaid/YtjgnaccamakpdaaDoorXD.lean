/- Walks: each '.calls' says that the Go function comes to what its Lean function tells. Conditions: as each theorem's head says. -/
import Derived.Test.YtjgnaccamakpdaaDoorX0
namespace Go.Proofs.YtjgnaccamakpdaaDoor.X
open Go.RowKit Go.Proofs.YtjgnaccamakpdaaDoorW.PrintWords Go.Proofs.YtjgnaccamakpdaaDoorW.PrintLast Go.Proofs.YtjgnaccamakpdaaDoorW.PrintMore
attribute [local go_sem] max2_int min2_int max_two min_two max_three min_three max_four min_four   -- for this text's walks alone
set_option linter.unusedVariables false
set_option maxHeartbeats 8000000
set_option maxRecDepth 100000
set_option linter.unusedSimpArgs false

/-! ### frac_wide_cmp: function 87 -/
def frac_wide_cmp.f (a0_0 : Int) (a0_1 : Int) (a1_0 : Int) (a1_1 : Int) : Option (Int) := if (a0_0 == a1_0 && (a0_1 == a1_1)) = true then (some 0) else (if a0_0 < a1_0 then (some (-1)) else (if a0_0 = a1_0 then (if a0_1 < a1_1 then (some (-1)) else (some 1)) else (some 1)))
/-! ### bits_Sub64: function 102 -/
def bits_Sub64.f (a0 : Int) (a1 : Int) (a2 : Int) : Option (Int × Int) := if 0 ≤ a0 ∧ 0 ≤ a1 ∧ a1 < 18446744073709551616 ∧ 0 ≤ a2 ∧ a2 ≤ 1 then some ((a0 - a1 - a2) % 18446744073709551616, if a0 < a1 + a2 then 1 else 0) else none
/-- The model's entry for math/bits.Sub64. -/
def sub64Entry : Array Value → Sem Value := fun args => do
  let (x, y, b) ← Extern.MathBitsCarry.three "Sub64" args
  pure (Extern.MathBitsCarry.pair ((x + Extern.MathBitsCarry.m64 - y - b) % Extern.MathBitsCarry.m64) (if x < y + b then 1 else 0))
/-! ### frac_wide_minus: function 88 -/
def frac_wide_minus.f (a0_0 : Int) (a0_1 : Int) (a1_0 : Int) (a1_1 : Int) : Option (Int × Int) := (bits_Sub64.f a0_1 a1_1 0).bind fun bt106 => ((bits_Sub64.f a0_0 a1_0 bt106.2).bind fun bt108 => (some (bt108.1, bt106.1)))
/-! ### frac_wide_zero: function 89 -/
def frac_wide_zero.f (a0_0 : Int) (a0_1 : Int) : Option (Bool) := some ((Go.bits .or .u64 a0_0 a0_1) == 0)
/-! ### bits_TrailingZeros64: function 94 -/
def bits_TrailingZeros64.f (a0 : Int) : Option Int := if 0 ≤ a0 ∧ a0 < 18446744073709551616 then some ((Lib.ctz 64 a0.toNat : Nat) : Int) else none
/-! ### frac_wide_twos: function 90 -/
def frac_wide_twos.f (a0_0 : Int) (a0_1 : Int) : Option (Int) := if a0_1 = 0 then ((bits_TrailingZeros64.f a0_0).bind fun t112 => (some (wrap64 (64 + t112)))) else ((bits_TrailingZeros64.f a0_1).bind fun t113 => (some t113))
/-! ### frac_wide_down: function 91 -/
def frac_wide_down.f (a0_0 : Int) (a0_1 : Int) (a1 : Int) : Option (Int × Int) := if a1 ≥ 64 then (if 0 ≤ (wrap64 (a1 - 64)) then (some (0, shr .u64 a0_0 (wrap64 (a1 - 64)))) else (none)) else (if 0 ≤ a1 then (if 0 ≤ (wrap64 (64 - a1)) then (some (shr .u64 a0_0 a1, Go.bits .or .u64 (shr .u64 a0_1 a1) (shl .u64 a0_0 (wrap64 (64 - a1))))) else (none)) else (none))
/-! ### frac_wide_up: function 92 -/
def frac_wide_up.f (a0_0 : Int) (a0_1 : Int) (a1 : Int) : Option (Int × Int) := if a1 ≥ 64 then (if 0 ≤ (wrap64 (a1 - 64)) then (some (shl .u64 a0_1 (wrap64 (a1 - 64)), 0)) else (none)) else (if 0 ≤ a1 then (if 0 ≤ (wrap64 (64 - a1)) then (some (Go.bits .or .u64 (shl .u64 a0_0 a1) (shr .u64 a0_1 (wrap64 (64 - a1))), shl .u64 a0_1 a1)) else (none)) else (none))
/-! ### frac_gcd: function 72 -/
def frac_gcd.l0 : Nat → Int → Int → Int → Int → Int → Option (Int × Int)
  | 0, _, _, _, _, _ => none
  | k + 1, x5, x119000, x119001, x120000, x120001 => (frac_wide_zero.f x120000 x120001).bind fun t128 => (if t128 = true then ((frac_wide_up.f x119000 x119001 x5).bind fun bt129 => (some (bt129.1, bt129.2))) else ((frac_wide_twos.f x120000 x120001).bind fun t131 => ((frac_wide_down.f x120000 x120001 t131).bind fun bt132 => ((frac_wide_cmp.f x119000 x119001 bt132.1 bt132.2).bind fun t134 => (if t134 > 0 then ((frac_wide_minus.f x119000 x119001 bt132.1 bt132.2).bind fun bt135 => (frac_gcd.l0 k x5 bt132.1 bt132.2 bt135.1 bt135.2)) else ((frac_wide_minus.f bt132.1 bt132.2 x119000 x119001).bind fun bt137 => (frac_gcd.l0 k x5 x119000 x119001 bt137.1 bt137.2)))))))
def frac_gcd.f (k : Nat) (a0_0 : Int) (a0_1 : Int) (a1_0 : Int) (a1_1 : Int) : Option (Int × Int) := (frac_wide_zero.f a0_0 a0_1).bind fun t121 => (if t121 = true then (some (a1_0, a1_1)) else ((frac_wide_zero.f a1_0 a1_1).bind fun t122 => (if t122 = true then (some (a0_0, a0_1)) else ((frac_wide_twos.f a0_0 a0_1).bind fun t123 => ((frac_wide_twos.f a1_0 a1_1).bind fun t124 => ((frac_wide_twos.f a0_0 a0_1).bind fun t125 => ((frac_wide_down.f a0_0 a0_1 t125).bind fun bt126 => (frac_gcd.l0 k (mn t123 t124) bt126.1 bt126.2 a1_0 a1_1))))))))
theorem frac_gcd.mono_l : ∀ k, (∀ y0 y1 y2 y3 y4, LeO (frac_gcd.l0 k y0 y1 y2 y3 y4) (frac_gcd.l0 (k + 1) y0 y1 y2 y3 y4))
  | 0 => fun _ _ _ _ _ r h => by simp [frac_gcd.l0] at h
  | k + 1 => by
    have ih0 := frac_gcd.mono_l k
    · intro y0 y1 y2 y3 y4
      unfold frac_gcd.l0
      repeat' with_reducible first | exact ih0 _ _ _ _ _ | exact LeO.refl _ | exact LeO.none _ | refine LeO.ite ?_ ?_ | refine LeO.bind ?_ (fun _ => ?_)
theorem frac_gcd.mono : ∀ a0 a1 a2 a3 k, LeO (frac_gcd.f k a0 a1 a2 a3) (frac_gcd.f (k + 1) a0 a1 a2 a3) := by
  intro a0 a1 a2 a3 k
  have ih0 := frac_gcd.mono_l k
  unfold frac_gcd.f
  repeat' with_reducible first | exact ih0 _ _ _ _ _ | exact LeO.refl _ | exact LeO.none _ | refine LeO.ite ?_ ?_ | refine LeO.bind ?_ (fun _ => ?_)
/-! ### bits_Len64: function 103 -/
def bits_Len64.f (a0 : Int) : Option Int := if 0 ≤ a0 ∧ a0 ≤ 18446744073709551615 then some ((Lib.bitLen a0.toNat : Nat) : Int) else none
/-! ### frac_wide_long: function 93 -/
def frac_wide_long.f (a0_0 : Int) (a0_1 : Int) : Option (Int) := if a0_0 = 0 then ((bits_Len64.f a0_1).bind fun t140 => (some t140)) else ((bits_Len64.f a0_0).bind fun t141 => (some (wrap64 (64 + t141))))
/-! ### frac_wide_over: function 73 -/
def frac_wide_over.l0 : Nat → Int → Int → Int → Int → Int → Int → Int → Option (Int × Int)
  | 0, _, _, _, _, _, _, _ => none
  | k + 1, x6, x143000, x143001, x144000, x144001, x146000, x146001 => if x6 ≥ 0 then ((frac_wide_up.f x146000 x146001 1).bind fun bt148 => ((frac_wide_up.f x144000 x144001 x6).bind fun bt150 => ((frac_wide_cmp.f bt150.1 bt150.2 x143000 x143001).bind fun t153 => (if t153 ≤ 0 then ((frac_wide_minus.f x143000 x143001 bt150.1 bt150.2).bind fun bt154 => (frac_wide_over.l0 k (wrap64 (x6 - 1)) bt154.1 bt154.2 x144000 x144001 bt148.1 (Go.bits .or .u64 bt148.2 1))) else (frac_wide_over.l0 k (wrap64 (x6 - 1)) x143000 x143001 x144000 x144001 bt148.1 bt148.2))))) else (some (x146000, x146001))
def frac_wide_over.f (k : Nat) (a0_0 : Int) (a0_1 : Int) (a1_0 : Int) (a1_1 : Int) : Option (Int × Int) := (frac_wide_long.f a0_0 a0_1).bind fun t146 => ((frac_wide_long.f a1_0 a1_1).bind fun t147 => (frac_wide_over.l0 k (wrap64 (t146 - t147)) a0_0 a0_1 a1_0 a1_1 0 0))
theorem frac_wide_over.mono_l : ∀ k, (∀ y0 y1 y2 y3 y4 y5 y6, LeO (frac_wide_over.l0 k y0 y1 y2 y3 y4 y5 y6) (frac_wide_over.l0 (k + 1) y0 y1 y2 y3 y4 y5 y6))
  | 0 => fun _ _ _ _ _ _ _ r h => by simp [frac_wide_over.l0] at h
  | k + 1 => by
    have ih0 := frac_wide_over.mono_l k
    · intro y0 y1 y2 y3 y4 y5 y6
      unfold frac_wide_over.l0
      repeat' with_reducible first | exact ih0 _ _ _ _ _ _ _ | exact LeO.refl _ | exact LeO.none _ | refine LeO.ite ?_ ?_ | refine LeO.bind ?_ (fun _ => ?_)
theorem frac_wide_over.mono : ∀ a0 a1 a2 a3 k, LeO (frac_wide_over.f k a0 a1 a2 a3) (frac_wide_over.f (k + 1) a0 a1 a2 a3) := by
  intro a0 a1 a2 a3 k
  have ih0 := frac_wide_over.mono_l k
  unfold frac_wide_over.f
  repeat' with_reducible first | exact ih0 _ _ _ _ _ _ _ | exact LeO.refl _ | exact LeO.none _ | refine LeO.ite ?_ ?_ | refine LeO.bind ?_ (fun _ => ?_)
/-! ### frac_signed_whole: function 74 -/
def frac_signed_whole.f (a0_0 : Bool) (a0_1 : Int) (a0_2 : Int) : Option (Int × Bool) := if a0_1 = 0 then (if a0_0 = true then (some (wrap64 (IntKind.u64.wrap (-a0_2)), decide (a0_2 ≤ 9223372036854775808))) else (some (wrap64 (a0_2), decide (a0_2 < 9223372036854775808)))) else (some (0, false))
/-! ### frac_reduced: function 51 -/
def frac_reduced.f (k : Nat) (a0_0 : Bool) (a0_1 : Int) (a0_2 : Int) (a1_0 : Bool) (a1_1 : Int) (a1_2 : Int) : Option (Int × Int × Int) := (frac_gcd.f k a0_1 a0_2 a1_1 a1_2).bind fun bt160 => ((frac_wide_over.f k a0_1 a0_2 bt160.1 bt160.2).bind fun bt163 => ((frac_wide_over.f k a1_1 a1_2 bt160.1 bt160.2).bind fun bt165 => ((frac_signed_whole.f (a0_0 != a1_0) bt163.1 bt163.2).bind fun bt167 => ((frac_signed_whole.f false bt165.1 bt165.2).bind fun bt169 => (if bt167.2 = true then (if bt169.2 = true then (some (bt167.1, bt169.1, 0)) else (some (0, 0, 2))) else (some (0, 0, 2)))))))
theorem frac_reduced.mono : ∀ a0 a1 a2 a3 a4 a5 k, LeO (frac_reduced.f k a0 a1 a2 a3 a4 a5) (frac_reduced.f (k + 1) a0 a1 a2 a3 a4 a5) := by
  intro a0 a1 a2 a3 a4 a5 k
  unfold frac_reduced.f
  repeat' with_reducible first | exact frac_gcd.mono _ _ _ _ _ | exact frac_wide_over.mono _ _ _ _ _ | exact LeO.refl _ | exact LeO.none _ | refine LeO.ite ?_ ?_ | refine LeO.bind ?_ (fun _ => ?_)
/-! ### frac_sized: function 52 -/
def frac_sized.f (a0 : Int) : Option (Bool × Int × Int) := if a0 < 0 then (some (true, 0, IntKind.u64.wrap (-(IntKind.u64.wrap (a0))))) else (some (false, 0, IntKind.u64.wrap (a0)))
/-! ### whole_signed: function 76 -/
def whole_signed.j0 : Nat → Int → Bool → Option (Int × Int)
  | 0, _, _ => none
  | k + 1, x0, x6 => if x6 = true then (some (wrap64 (IntKind.u64.wrap (-x0)), 0)) else (if x0 ≤ 9223372036854775807 then (some (wrap64 (x0), 0)) else (some (0, 2)))
def whole_signed.f (k : Nat) (a0 : Int) (a1 : Int) : Option (Int × Int) := if a1 < 0 then (whole_signed.j0 k a0 (decide (a0 ≤ 9223372036854775808))) else (whole_signed.j0 k a0 false)
theorem whole_signed.mono_l : ∀ k, (∀ y0 y1, LeO (whole_signed.j0 k y0 y1) (whole_signed.j0 (k + 1) y0 y1))
  | 0 => fun _ _ r h => by simp [whole_signed.j0] at h
  | k + 1 => by
    have ih0 := whole_signed.mono_l k
    · intro y0 y1
      unfold whole_signed.j0
      repeat' with_reducible first | exact ih0 _ _ | exact LeO.refl _ | exact LeO.none _ | refine LeO.ite ?_ ?_ | refine LeO.bind ?_ (fun _ => ?_)
theorem whole_signed.mono : ∀ a0 a1 k, LeO (whole_signed.f k a0 a1) (whole_signed.f (k + 1) a0 a1) := by
  intro a0 a1 k
  have ih0 := whole_signed.mono_l k
  unfold whole_signed.f
  repeat' with_reducible first | exact ih0 _ _ | exact LeO.refl _ | exact LeO.none _ | refine LeO.ite ?_ ?_ | refine LeO.bind ?_ (fun _ => ?_)
/-! ### whole_gcd: function 77 -/
mutual
def whole_gcd.j0 : Nat → Int → Int → Bool → Option (Int)
  | 0, _, _, _ => none
  | k + 1, x0, x1, x11 => if x11 = true then (some (Go.bits .or .u64 x0 x1)) else ((bits_TrailingZeros64.f (Go.bits .or .u64 x0 x1)).bind fun t172 => ((bits_TrailingZeros64.f x0).bind fun t173 => (if 0 ≤ t173 then (whole_gcd.l0 k (shr .u64 x0 t173) x1 t172) else (none))))
def whole_gcd.l0 : Nat → Int → Int → Int → Option (Int)
  | 0, _, _, _ => none
  | k + 1, x0, x1, x5 => if x1 = 0 then (if 0 ≤ x5 then (some (shl .u64 x0 x5)) else (none)) else ((bits_TrailingZeros64.f x1).bind fun t174 => (if 0 ≤ t174 then (if x0 > (shr .u64 x1 t174) then (whole_gcd.l0 k (shr .u64 x1 t174) (IntKind.u64.wrap (x0 - (shr .u64 x1 t174))) x5) else (whole_gcd.l0 k x0 (IntKind.u64.wrap ((shr .u64 x1 t174) - x0)) x5)) else (none)))
end
def whole_gcd.f (k : Nat) (a0 : Int) (a1 : Int) : Option (Int) := if a0 = 0 then (whole_gcd.j0 k a0 a1 true) else (whole_gcd.j0 k a0 a1 (a1 == 0))
theorem whole_gcd.mono_l : ∀ k, (∀ y0 y1 y2, LeO (whole_gcd.j0 k y0 y1 y2) (whole_gcd.j0 (k + 1) y0 y1 y2)) ∧ (∀ y0 y1 y2, LeO (whole_gcd.l0 k y0 y1 y2) (whole_gcd.l0 (k + 1) y0 y1 y2))
  | 0 => ⟨fun _ _ _ r h => by simp [whole_gcd.j0] at h, fun _ _ _ r h => by simp [whole_gcd.l0] at h⟩
  | k + 1 => by
    obtain ⟨ih0, ih1⟩ := whole_gcd.mono_l k
    refine ⟨?_, ?_⟩
    · intro y0 y1 y2
      unfold whole_gcd.j0
      repeat' with_reducible first | exact ih0 _ _ _ | exact ih1 _ _ _ | exact LeO.refl _ | exact LeO.none _ | refine LeO.ite ?_ ?_ | refine LeO.bind ?_ (fun _ => ?_)
    · intro y0 y1 y2
      unfold whole_gcd.l0
      repeat' with_reducible first | exact ih0 _ _ _ | exact ih1 _ _ _ | exact LeO.refl _ | exact LeO.none _ | refine LeO.ite ?_ ?_ | refine LeO.bind ?_ (fun _ => ?_)
theorem whole_gcd.mono : ∀ a0 a1 k, LeO (whole_gcd.f k a0 a1) (whole_gcd.f (k + 1) a0 a1) := by
  intro a0 a1 k
  obtain ⟨ih0, ih1⟩ := whole_gcd.mono_l k
  unfold whole_gcd.f
  repeat' with_reducible first | exact ih0 _ _ _ | exact ih1 _ _ _ | exact LeO.refl _ | exact LeO.none _ | refine LeO.ite ?_ ?_ | refine LeO.bind ?_ (fun _ => ?_)
/-! ### whole_size: function 78 -/
def whole_size.f (a0 : Int) : Option (Int) := if a0 < 0 then (some (IntKind.u64.wrap (-(IntKind.u64.wrap (a0))))) else (some (IntKind.u64.wrap (a0)))
/-! ### whole_Gcd: function 55 -/
def whole_Gcd.f (k : Nat) (a0 : Int) (a1 : Int) : Option (Int × Int) := (whole_size.f a0).bind fun t175 => ((whole_size.f a1).bind fun t176 => ((whole_gcd.f k t175 t176).bind fun t177 => ((whole_signed.f k t177 1).bind fun bt178 => (some (bt178.1, bt178.2)))))
theorem whole_Gcd.mono : ∀ a0 a1 k, LeO (whole_Gcd.f k a0 a1) (whole_Gcd.f (k + 1) a0 a1) := by
  intro a0 a1 k
  unfold whole_Gcd.f
  repeat' with_reducible first | exact whole_gcd.mono _ _ _ | exact whole_signed.mono _ _ _ | exact LeO.refl _ | exact LeO.none _ | refine LeO.ite ?_ ?_ | refine LeO.bind ?_ (fun _ => ?_)
/-! ### frac_Right: function 18 -/
def frac_Right.f (k : Nat) (a0_0 : Int) (a0_1 : Int) : Option (Bool) := (whole_Gcd.f k a0_0 a0_1).bind fun bt181 => (if a0_1 ≥ 1 then (if bt181.2 = 0 then (some (bt181.1 == 1)) else (some false)) else (some false))
theorem frac_Right.mono : ∀ a0 a1 k, LeO (frac_Right.f k a0 a1) (frac_Right.f (k + 1) a0 a1) := by
  intro a0 a1 k
  unfold frac_Right.f
  repeat' with_reducible first | exact whole_Gcd.mono _ _ _ | exact LeO.refl _ | exact LeO.none _ | refine LeO.ite ?_ ?_ | refine LeO.bind ?_ (fun _ => ?_)
/-! ### frac_nought: function 66 -/
def frac_nought.f  : Option (Int × Int) := some (0, 1)
/-! ### frac_norm: function 56 -/
def frac_norm.f (k : Nat) (a0_0 : Int) (a0_1 : Int) : Option (Int × Int) := (frac_Right.f k a0_0 a0_1).bind fun t186 => (if t186 = true then (some (a0_0, a0_1)) else ((frac_nought.f).bind fun bt187 => (some (bt187.1, bt187.2))))
theorem frac_norm.mono : ∀ a0 a1 k, LeO (frac_norm.f k a0 a1) (frac_norm.f (k + 1) a0 a1) := by
  intro a0 a1 k
  unfold frac_norm.f
  repeat' with_reducible first | exact frac_Right.mono _ _ _ | exact LeO.refl _ | exact LeO.none _ | refine LeO.ite ?_ ?_ | refine LeO.bind ?_ (fun _ => ?_)
/-! ### bits_Mul64: function 95 -/
def bits_Mul64.f (a0 : Int) (a1 : Int) : Option (Int × Int) := some (IntKind.u64.wrap ((IntKind.u64.wrap ((IntKind.u64.wrap ((a0 / 4294967296) * (a1 / 4294967296))) + ((IntKind.u64.wrap ((IntKind.u64.wrap ((a0 / 4294967296) * (Go.bits .and .u64 a1 4294967295))) + ((IntKind.u64.wrap ((Go.bits .and .u64 a0 4294967295) * (Go.bits .and .u64 a1 4294967295))) / 4294967296))) / 4294967296))) + ((IntKind.u64.wrap ((Go.bits .and .u64 (IntKind.u64.wrap ((IntKind.u64.wrap ((a0 / 4294967296) * (Go.bits .and .u64 a1 4294967295))) + ((IntKind.u64.wrap ((Go.bits .and .u64 a0 4294967295) * (Go.bits .and .u64 a1 4294967295))) / 4294967296))) 4294967295) + (IntKind.u64.wrap ((Go.bits .and .u64 a0 4294967295) * (a1 / 4294967296))))) / 4294967296)), IntKind.u64.wrap (a0 * a1))
/-! ### frac_multiply: function 79 -/
def frac_multiply.f (a0 : Int) (a1 : Int) : Option (Int × Int) := (bits_Mul64.f a0 a1).bind fun bt190 => (some (bt190.1, bt190.2))
/-! ### frac_signed_times: function 57 -/
def frac_signed_times.f (a0_0 : Bool) (a0_1 : Int) (a0_2 : Int) (a1_0 : Bool) (a1_1 : Int) (a1_2 : Int) : Option (Bool × Int × Int) := (frac_multiply.f a0_2 a1_2).bind fun bt195 => (some ((a0_0 != a1_0), bt195.1, bt195.2))
/-! ### bits_Add64: function 101 -/
def bits_Add64.f (a0 : Int) (a1 : Int) (a2 : Int) : Option (Int × Int) := if 0 ≤ a0 ∧ 0 ≤ a1 ∧ 0 ≤ a2 ∧ a2 ≤ 1 then some ((a0 + a1 + a2) % 18446744073709551616, (a0 + a1 + a2) / 18446744073709551616) else none
/-! ### frac_wide_plus: function 86 -/
def frac_wide_plus.f (a0_0 : Int) (a0_1 : Int) (a1_0 : Int) (a1_1 : Int) : Option (Int × Int) := (bits_Add64.f a0_1 a1_1 0).bind fun bt200 => ((bits_Add64.f a0_0 a1_0 bt200.2).bind fun bt202 => (some (bt202.1, bt200.1)))
/-! ### frac_signed_plus: function 67 -/
def frac_signed_plus.f (a0_0 : Bool) (a0_1 : Int) (a0_2 : Int) (a1_0 : Bool) (a1_1 : Int) (a1_2 : Int) : Option (Bool × Int × Int) := if (a0_0 == a1_0) = true then ((frac_wide_plus.f a0_1 a0_2 a1_1 a1_2).bind fun bt207 => (some (a0_0, bt207.1, bt207.2))) else ((frac_wide_cmp.f a0_1 a0_2 a1_1 a1_2).bind fun t209 => (if t209 ≥ 0 then ((frac_wide_minus.f a0_1 a0_2 a1_1 a1_2).bind fun bt210 => (some (a0_0, bt210.1, bt210.2))) else ((frac_wide_minus.f a1_1 a1_2 a0_1 a0_2).bind fun bt212 => (some (a1_0, bt212.1, bt212.2)))))
/-! ### frac_Add_1: function 38 -/
def frac_Add_1.f (a0_0 : Bool) (a0_1 : Int) (a0_2 : Int) : Option (Bool × Int × Int) := some (a0_0, a0_1, a0_2)
/-! ### frac_added_fn38: function 900000 -/
def frac_added_fn38.f (k : Nat) (a0_0 : Int) (a0_1 : Int) (a1_0 : Int) (a1_1 : Int) : Option (Int × Int × Int) := (frac_norm.f k a0_0 a0_1).bind fun bt219 => ((frac_norm.f k a1_0 a1_1).bind fun bt221 => ((frac_sized.f bt219.1).bind fun bt223 => ((frac_sized.f bt221.2).bind fun bt226 => ((frac_signed_times.f bt223.1 bt223.2.1 bt223.2.2 bt226.1 bt226.2.1 bt226.2.2).bind fun bt229 => ((frac_sized.f bt221.1).bind fun bt233 => ((frac_sized.f bt219.2).bind fun bt236 => ((frac_signed_times.f bt233.1 bt233.2.1 bt233.2.2 bt236.1 bt236.2.1 bt236.2.2).bind fun bt239 => ((frac_Add_1.f bt239.1 bt239.2.1 bt239.2.2).bind fun bt242 => ((frac_signed_plus.f bt229.1 bt229.2.1 bt229.2.2 bt242.1 bt242.2.1 bt242.2.2).bind fun bt246 => ((frac_sized.f bt219.2).bind fun bt249 => ((frac_sized.f bt221.2).bind fun bt252 => ((frac_signed_times.f bt249.1 bt249.2.1 bt249.2.2 bt252.1 bt252.2.1 bt252.2.2).bind fun bt255 => ((frac_reduced.f k bt246.1 bt246.2.1 bt246.2.2 bt255.1 bt255.2.1 bt255.2.2).bind fun bt258 => (some (bt258.1, bt258.2.1, bt258.2.2)))))))))))))))
theorem frac_added_fn38.mono : ∀ a0 a1 a2 a3 k, LeO (frac_added_fn38.f k a0 a1 a2 a3) (frac_added_fn38.f (k + 1) a0 a1 a2 a3) := by
  intro a0 a1 a2 a3 k
  unfold frac_added_fn38.f
  repeat' with_reducible first | exact frac_norm.mono _ _ _ | exact frac_reduced.mono _ _ _ _ _ _ _ | exact LeO.refl _ | exact LeO.none _ | refine LeO.ite ?_ ?_ | refine LeO.bind ?_ (fun _ => ?_)
/-! ### frac_Add: function 10 -/
def frac_Add.f (k : Nat) (a0_0 : Int) (a0_1 : Int) (a1_0 : Int) (a1_1 : Int) : Option (Int × Int × Int) := (frac_added_fn38.f k a0_0 a0_1 a1_0 a1_1).bind fun bt264 => (some (bt264.1, bt264.2.1, bt264.2.2))
theorem frac_Add.mono : ∀ a0 a1 a2 a3 k, LeO (frac_Add.f k a0 a1 a2 a3) (frac_Add.f (k + 1) a0 a1 a2 a3) := by
  intro a0 a1 a2 a3 k
  unfold frac_Add.f
  repeat' with_reducible first | exact frac_added_fn38.mono _ _ _ _ _ | exact LeO.refl _ | exact LeO.none _ | refine LeO.ite ?_ ?_ | refine LeO.bind ?_ (fun _ => ?_)
/-! ### carrefourref01_Size: function 43 -/
def carrefourref01_Size.f (a0 : Int) : Option (Int) := if a0 < 0 then (some (IntKind.u64.wrap (-(IntKind.u64.wrap (a0))))) else (some (IntKind.u64.wrap (a0)))
/-! ### carrefourref02_gcd: function 53 -/
def carrefourref02_gcd.l0 : Nat → Int → Int → Option (Int)
  | 0, _, _ => none
  | k + 1, x0, x1 => if x1 = 0 then (some x0) else (carrefourref02_gcd.l0 k x1 (Int.tmod x0 x1))
def carrefourref02_gcd.f (k : Nat) (a0 : Int) (a1 : Int) : Option (Int) := carrefourref02_gcd.l0 k a0 a1
theorem carrefourref02_gcd.mono_l : ∀ k, (∀ y0 y1, LeO (carrefourref02_gcd.l0 k y0 y1) (carrefourref02_gcd.l0 (k + 1) y0 y1))
  | 0 => fun _ _ r h => by simp [carrefourref02_gcd.l0] at h
  | k + 1 => by
    have ih0 := carrefourref02_gcd.mono_l k
    · intro y0 y1
      unfold carrefourref02_gcd.l0
      repeat' with_reducible first | exact ih0 _ _ | exact LeO.refl _ | exact LeO.none _ | refine LeO.ite ?_ ?_ | refine LeO.bind ?_ (fun _ => ?_)
theorem carrefourref02_gcd.mono : ∀ a0 a1 k, LeO (carrefourref02_gcd.f k a0 a1) (carrefourref02_gcd.f (k + 1) a0 a1) := by
  intro a0 a1 k
  have ih0 := carrefourref02_gcd.mono_l k
  unfold carrefourref02_gcd.f
  repeat' with_reducible first | exact ih0 _ _ | exact LeO.refl _ | exact LeO.none _ | refine LeO.ite ?_ ?_ | refine LeO.bind ?_ (fun _ => ?_)
/-! ### carrefourref01_Signed: function 75 -/
def carrefourref01_Signed.j0 : Nat → Int → Bool → Bool → Option (Int × Int)
  | 0, _, _, _ => none
  | k + 1, x0, x1, x10 => if x10 = true then (some ((-9223372036854775808), 0)) else (if x0 > 9223372036854775807 then (some (0, 2)) else (if x1 = true then (some (wrap64 (-(wrap64 (x0))), 0)) else (some (wrap64 (x0), 0))))
def carrefourref01_Signed.f (k : Nat) (a0 : Int) (a1 : Bool) : Option (Int × Int) := if a0 = 9223372036854775808 then (carrefourref01_Signed.j0 k a0 a1 a1) else (carrefourref01_Signed.j0 k a0 a1 false)
theorem carrefourref01_Signed.mono_l : ∀ k, (∀ y0 y1 y2, LeO (carrefourref01_Signed.j0 k y0 y1 y2) (carrefourref01_Signed.j0 (k + 1) y0 y1 y2))
  | 0 => fun _ _ _ r h => by simp [carrefourref01_Signed.j0] at h
  | k + 1 => by
    have ih0 := carrefourref01_Signed.mono_l k
    · intro y0 y1 y2
      unfold carrefourref01_Signed.j0
      repeat' with_reducible first | exact ih0 _ _ _ | exact LeO.refl _ | exact LeO.none _ | refine LeO.ite ?_ ?_ | refine LeO.bind ?_ (fun _ => ?_)
theorem carrefourref01_Signed.mono : ∀ a0 a1 k, LeO (carrefourref01_Signed.f k a0 a1) (carrefourref01_Signed.f (k + 1) a0 a1) := by
  intro a0 a1 k
  have ih0 := carrefourref01_Signed.mono_l k
  unfold carrefourref01_Signed.f
  repeat' with_reducible first | exact ih0 _ _ _ | exact LeO.refl _ | exact LeO.none _ | refine LeO.ite ?_ ?_ | refine LeO.bind ?_ (fun _ => ?_)
/-! ### carrefourref02_made: function 54 -/
def carrefourref02_made.f (k : Nat) (a0 : Int) (a1 : Int) (a2 : Bool) : Option (Int × Int × Int) := (carrefourref01_Signed.f k a0 a2).bind fun bt268 => ((carrefourref01_Signed.f k a1 false).bind fun bt270 => (if bt268.2 = 0 then (if bt270.2 = 0 then (some (bt268.1, bt270.1, 0)) else (some (0, 0, 2))) else (some (0, 0, 2))))
theorem carrefourref02_made.mono : ∀ a0 a1 a2 k, LeO (carrefourref02_made.f k a0 a1 a2) (carrefourref02_made.f (k + 1) a0 a1 a2) := by
  intro a0 a1 a2 k
  unfold carrefourref02_made.f
  repeat' with_reducible first | exact carrefourref01_Signed.mono _ _ _ | exact LeO.refl _ | exact LeO.none _ | refine LeO.ite ?_ ?_ | refine LeO.bind ?_ (fun _ => ?_)
/-! ### carrefourref02_Of: function 17 -/
def carrefourref02_Of.f (k : Nat) (a0 : Int) (a1 : Int) : Option (Int × Int × Int) := if a1 = 0 then (some (0, 0, 3)) else ((carrefourref01_Size.f a0).bind fun t273 => ((carrefourref01_Size.f a1).bind fun t274 => ((carrefourref02_gcd.f k t273 t274).bind fun t275 => (if t275 = 0 then (none) else (if a0 = 0 then ((carrefourref02_made.f k (IntKind.u64.wrap (Int.tdiv t273 t275)) (IntKind.u64.wrap (Int.tdiv t274 t275)) false).bind fun bt276 => (some (bt276.1, bt276.2.1, bt276.2.2))) else ((carrefourref02_made.f k (IntKind.u64.wrap (Int.tdiv t273 t275)) (IntKind.u64.wrap (Int.tdiv t274 t275)) ((decide (a0 < 0)) != (decide (a1 < 0)))).bind fun bt279 => (some (bt279.1, bt279.2.1, bt279.2.2))))))))
theorem carrefourref02_Of.mono : ∀ a0 a1 k, LeO (carrefourref02_Of.f k a0 a1) (carrefourref02_Of.f (k + 1) a0 a1) := by
  intro a0 a1 k
  unfold carrefourref02_Of.f
  repeat' with_reducible first | exact carrefourref02_gcd.mono _ _ _ | exact carrefourref02_made.mono _ _ _ _ | exact LeO.refl _ | exact LeO.none _ | refine LeO.ite ?_ ?_ | refine LeO.bind ?_ (fun _ => ?_)
/-! ### carrefourref02_Right: function 19 -/
def carrefourref02_Right.f (k : Nat) (a0_0 : Int) (a0_1 : Int) : Option (Bool) := if a0_1 ≥ 1 then ((carrefourref01_Size.f a0_0).bind fun t283 => ((carrefourref02_gcd.f k t283 (IntKind.u64.wrap (a0_1))).bind fun t284 => (some (t284 == 1)))) else (some false)
theorem carrefourref02_Right.mono : ∀ a0 a1 k, LeO (carrefourref02_Right.f k a0 a1) (carrefourref02_Right.f (k + 1) a0 a1) := by
  intro a0 a1 k
  unfold carrefourref02_Right.f
  repeat' with_reducible first | exact carrefourref02_gcd.mono _ _ _ | exact LeO.refl _ | exact LeO.none _ | refine LeO.ite ?_ ?_ | refine LeO.bind ?_ (fun _ => ?_)
/-! ### carrefourref02_Norm: function 39 -/
def carrefourref02_Norm.f (k : Nat) (a0_0 : Int) (a0_1 : Int) : Option (Int × Int) := (carrefourref02_Right.f k a0_0 a0_1).bind fun t287 => (if t287 = true then (some (a0_0, a0_1)) else (some (0, 1)))
theorem carrefourref02_Norm.mono : ∀ a0 a1 k, LeO (carrefourref02_Norm.f k a0 a1) (carrefourref02_Norm.f (k + 1) a0 a1) := by
  intro a0 a1 k
  unfold carrefourref02_Norm.f
  repeat' with_reducible first | exact carrefourref02_Right.mono _ _ _ | exact LeO.refl _ | exact LeO.none _ | refine LeO.ite ?_ ?_ | refine LeO.bind ?_ (fun _ => ?_)
/-! ### carrefourref02_few: function 40 -/
def carrefourref02_few.f (a0_0 : Int) (a0_1 : Int) (a1_0 : Int) (a1_1 : Int) : Option (Bool) := (carrefourref01_Size.f a0_0).bind fun t290 => (if t290 < 1073741824 then ((carrefourref01_Size.f a1_0).bind fun t291 => (if t291 < 1073741824 then (if a0_1 < 1073741824 then (some (decide (a1_1 < 1073741824))) else (some false)) else (some false))) else (some false))
/-! ### carrefourref02_trim: function 41 -/
def carrefourref02_trim.l0 : Nat → List Int → Int → Option (List Int)
  | 0, _, _ => none
  | k + 1, x0, x3 => if x3 > 0 then (if 0 ≤ (wrap64 (x3 - 1)) then (if (wrap64 (x3 - 1)) < (x0.length : Int) then (if (rd x0 (wrap64 (x3 - 1))) = 0 then (carrefourref02_trim.l0 k x0 (wrap64 (x3 - 1))) else ((some (([] : List Int) : List Int)).bind fun y293 => (if 0 ≤ x3 then (if x3 ≤ (x0.length : Int) then (if y293.length + (x0.take (x3 : Int).toNat).length < 17592186044416 then (some (y293 ++ (x0.take (x3 : Int).toNat))) else (none)) else (none)) else (none)))) else (none)) else (none)) else ((some (([] : List Int) : List Int)).bind fun y300 => (if 0 ≤ x3 then (if x3 ≤ (x0.length : Int) then (if y300.length + (x0.take (x3 : Int).toNat).length < 17592186044416 then (some (y300 ++ (x0.take (x3 : Int).toNat))) else (none)) else (none)) else (none)))
def carrefourref02_trim.f (k : Nat) (l0 : List Int) : Option (List Int) := carrefourref02_trim.l0 k l0 (l0.length : Int)
theorem carrefourref02_trim.mono_l : ∀ k, (∀ y0 y1, LeO (carrefourref02_trim.l0 k y0 y1) (carrefourref02_trim.l0 (k + 1) y0 y1))
  | 0 => fun _ _ r h => by simp [carrefourref02_trim.l0] at h
  | k + 1 => by
    have ih0 := carrefourref02_trim.mono_l k
    · intro y0 y1
      unfold carrefourref02_trim.l0
      repeat' with_reducible first | exact ih0 _ _ | exact LeO.refl _ | exact LeO.none _ | refine LeO.ite ?_ ?_ | refine LeO.bind ?_ (fun _ => ?_)
theorem carrefourref02_trim.mono : ∀ a0 k, LeO (carrefourref02_trim.f k a0) (carrefourref02_trim.f (k + 1) a0) := by
  intro a0 k
  have ih0 := carrefourref02_trim.mono_l k
  unfold carrefourref02_trim.f
  repeat' with_reducible first | exact ih0 _ _ | exact LeO.refl _ | exact LeO.none _ | refine LeO.ite ?_ ?_ | refine LeO.bind ?_ (fun _ => ?_)
/-! ### carrefourref01_Plus: function 45 -/
mutual
def carrefourref01_Plus.l0 : Nat → List Int → List Int → List Int → Int → Int → Option (List Int)
  | 0, _, _, _, _, _ => none
  | k + 1, x0, x1, x5, x6, x7 => if x7 < (x0.length : Int) then (carrefourref01_Plus.j1 k x0 x1 x5 x6 x7 true) else (if x7 < (x1.length : Int) then (carrefourref01_Plus.j1 k x0 x1 x5 x6 x7 true) else (carrefourref01_Plus.j1 k x0 x1 x5 x6 x7 (decide (x6 > 0))))
def carrefourref01_Plus.j1 : Nat → List Int → List Int → List Int → Int → Int → Bool → Option (List Int)
  | 0, _, _, _, _, _, _ => none
  | k + 1, x0, x1, x5, x6, x7, x22 => if x22 = true then (if x7 < (x0.length : Int) then (if 0 ≤ x7 then (if x7 < (x1.length : Int) then (if x5.length < 17592186044416 then (carrefourref01_Plus.l0 k x0 x1 (x5 ++ [Int.tmod (IntKind.u64.wrap ((IntKind.u64.wrap (x6 + (rd x0 x7))) + (rd x1 x7))) 65536]) (IntKind.u64.wrap (Int.tdiv (IntKind.u64.wrap ((IntKind.u64.wrap (x6 + (rd x0 x7))) + (rd x1 x7))) 65536)) (wrap64 (x7 + 1))) else (none)) else (if x5.length < 17592186044416 then (carrefourref01_Plus.l0 k x0 x1 (x5 ++ [Int.tmod (IntKind.u64.wrap (x6 + (rd x0 x7))) 65536]) (IntKind.u64.wrap (Int.tdiv (IntKind.u64.wrap (x6 + (rd x0 x7))) 65536)) (wrap64 (x7 + 1))) else (none))) else (none)) else (if x7 < (x1.length : Int) then (if 0 ≤ x7 then (if x5.length < 17592186044416 then (carrefourref01_Plus.l0 k x0 x1 (x5 ++ [Int.tmod (IntKind.u64.wrap (x6 + (rd x1 x7))) 65536]) (IntKind.u64.wrap (Int.tdiv (IntKind.u64.wrap (x6 + (rd x1 x7))) 65536)) (wrap64 (x7 + 1))) else (none)) else (none)) else (if x5.length < 17592186044416 then (carrefourref01_Plus.l0 k x0 x1 (x5 ++ [Int.tmod x6 65536]) (IntKind.u64.wrap (Int.tdiv x6 65536)) (wrap64 (x7 + 1))) else (none)))) else (some x5)
end
def carrefourref01_Plus.f (k : Nat) (l0 : List Int) (l1 : List Int) : Option (List Int) := carrefourref01_Plus.l0 k l0 l1 ([] : List Int) 0 0
theorem carrefourref01_Plus.mono_l : ∀ k, (∀ y0 y1 y2 y3 y4, LeO (carrefourref01_Plus.l0 k y0 y1 y2 y3 y4) (carrefourref01_Plus.l0 (k + 1) y0 y1 y2 y3 y4)) ∧ (∀ y0 y1 y2 y3 y4 y5, LeO (carrefourref01_Plus.j1 k y0 y1 y2 y3 y4 y5) (carrefourref01_Plus.j1 (k + 1) y0 y1 y2 y3 y4 y5))
  | 0 => ⟨fun _ _ _ _ _ r h => by simp [carrefourref01_Plus.l0] at h, fun _ _ _ _ _ _ r h => by simp [carrefourref01_Plus.j1] at h⟩
  | k + 1 => by
    obtain ⟨ih0, ih1⟩ := carrefourref01_Plus.mono_l k
    refine ⟨?_, ?_⟩
    · intro y0 y1 y2 y3 y4
      unfold carrefourref01_Plus.l0
      repeat' with_reducible first | exact ih0 _ _ _ _ _ | exact ih1 _ _ _ _ _ _ | exact LeO.refl _ | exact LeO.none _ | refine LeO.ite ?_ ?_ | refine LeO.bind ?_ (fun _ => ?_)
    · intro y0 y1 y2 y3 y4 y5
      unfold carrefourref01_Plus.j1
      repeat' with_reducible first | exact ih0 _ _ _ _ _ | exact ih1 _ _ _ _ _ _ | exact LeO.refl _ | exact LeO.none _ | refine LeO.ite ?_ ?_ | refine LeO.bind ?_ (fun _ => ?_)
theorem carrefourref01_Plus.mono : ∀ a0 a1 k, LeO (carrefourref01_Plus.f k a0 a1) (carrefourref01_Plus.f (k + 1) a0 a1) := by
  intro a0 a1 k
  obtain ⟨ih0, ih1⟩ := carrefourref01_Plus.mono_l k
  unfold carrefourref01_Plus.f
  repeat' with_reducible first | exact ih0 _ _ _ _ _ | exact ih1 _ _ _ _ _ _ | exact LeO.refl _ | exact LeO.none _ | refine LeO.ite ?_ ?_ | refine LeO.bind ?_ (fun _ => ?_)
/-! ### carrefourref01_Parts: function 68 -/
def carrefourref01_Parts.l0 : Nat → Int → List Int → Int → Option (List Int)
  | 0, _, _, _ => none
  | k + 1, x0, x3, x4 => if x4 < 4 then (if x3.length < 17592186044416 then (carrefourref01_Parts.l0 k (IntKind.u64.wrap (Int.tdiv x0 65536)) (x3 ++ [Int.tmod x0 65536]) (wrap64 (x4 + 1))) else (none)) else (some x3)
def carrefourref01_Parts.f (k : Nat) (a0 : Int) : Option (List Int) := carrefourref01_Parts.l0 k a0 ([] : List Int) 0
theorem carrefourref01_Parts.mono_l : ∀ k, (∀ y0 y1 y2, LeO (carrefourref01_Parts.l0 k y0 y1 y2) (carrefourref01_Parts.l0 (k + 1) y0 y1 y2))
  | 0 => fun _ _ _ r h => by simp [carrefourref01_Parts.l0] at h
  | k + 1 => by
    have ih0 := carrefourref01_Parts.mono_l k
    · intro y0 y1 y2
      unfold carrefourref01_Parts.l0
      repeat' with_reducible first | exact ih0 _ _ _ | exact LeO.refl _ | exact LeO.none _ | refine LeO.ite ?_ ?_ | refine LeO.bind ?_ (fun _ => ?_)
theorem carrefourref01_Parts.mono : ∀ a0 k, LeO (carrefourref01_Parts.f k a0) (carrefourref01_Parts.f (k + 1) a0) := by
  intro a0 k
  have ih0 := carrefourref01_Parts.mono_l k
  unfold carrefourref01_Parts.f
  repeat' with_reducible first | exact ih0 _ _ _ | exact LeO.refl _ | exact LeO.none _ | refine LeO.ite ?_ ?_ | refine LeO.bind ?_ (fun _ => ?_)
/-! ### carrefourref01_Times: function 42 -/
mutual
def carrefourref01_Times.l0 : Nat → List Int → List Int → List Int → Int → Option (List Int)
  | 0, _, _, _, _ => none
  | k + 1, x5, x6, x7, x8 => if x8 < 4 then (if 0 ≤ x8 then (if (x8 : Int).toNat ≤ 35184372088832 then (carrefourref01_Times.l1 k x5 x6 x7 x8 (List.replicate (x8 : Int).toNat 0) 0 0) else (none)) else (none)) else (some x7)
def carrefourref01_Times.l1 : Nat → List Int → List Int → List Int → Int → List Int → Int → Int → Option (List Int)
  | 0, _, _, _, _, _, _, _ => none
  | k + 1, x5, x6, x7, x8, x9, x10, x11 => if x11 < 4 then (if 0 ≤ x8 then (if x8 < (x5.length : Int) then (if 0 ≤ x11 then (if x11 < (x6.length : Int) then (if x9.length < 17592186044416 then (carrefourref01_Times.l1 k x5 x6 x7 x8 (x9 ++ [Int.tmod (IntKind.u64.wrap ((IntKind.u64.wrap ((rd x5 x8) * (rd x6 x11))) + x10)) 65536]) (IntKind.u64.wrap (Int.tdiv (IntKind.u64.wrap ((IntKind.u64.wrap ((rd x5 x8) * (rd x6 x11))) + x10)) 65536)) (wrap64 (x11 + 1))) else (none)) else (none)) else (none)) else (none)) else (none)) else (if x9.length < 17592186044416 then ((carrefourref01_Plus.f k x7 (x9 ++ [x10])).bind fun t342 => (carrefourref01_Times.l0 k x5 x6 t342 (wrap64 (x8 + 1)))) else (none))
end
def carrefourref01_Times.f (k : Nat) (a0 : Int) (a1 : Int) : Option (List Int) := (carrefourref01_Parts.f k a0).bind fun t325 => ((carrefourref01_Parts.f k a1).bind fun t328 => (carrefourref01_Times.l0 k t325 t328 ([] : List Int) 0))
theorem carrefourref01_Times.mono_l : ∀ k, (∀ y0 y1 y2 y3, LeO (carrefourref01_Times.l0 k y0 y1 y2 y3) (carrefourref01_Times.l0 (k + 1) y0 y1 y2 y3)) ∧ (∀ y0 y1 y2 y3 y4 y5 y6, LeO (carrefourref01_Times.l1 k y0 y1 y2 y3 y4 y5 y6) (carrefourref01_Times.l1 (k + 1) y0 y1 y2 y3 y4 y5 y6))
  | 0 => ⟨fun _ _ _ _ r h => by simp [carrefourref01_Times.l0] at h, fun _ _ _ _ _ _ _ r h => by simp [carrefourref01_Times.l1] at h⟩
  | k + 1 => by
    obtain ⟨ih0, ih1⟩ := carrefourref01_Times.mono_l k
    refine ⟨?_, ?_⟩
    · intro y0 y1 y2 y3
      unfold carrefourref01_Times.l0
      repeat' with_reducible first | exact ih0 _ _ _ _ | exact ih1 _ _ _ _ _ _ _ | exact carrefourref01_Parts.mono _ _ | exact carrefourref01_Plus.mono _ _ _ | exact LeO.refl _ | exact LeO.none _ | refine LeO.ite ?_ ?_ | refine LeO.bind ?_ (fun _ => ?_)
    · intro y0 y1 y2 y3 y4 y5 y6
      unfold carrefourref01_Times.l1
      repeat' with_reducible first | exact ih0 _ _ _ _ | exact ih1 _ _ _ _ _ _ _ | exact carrefourref01_Parts.mono _ _ | exact carrefourref01_Plus.mono _ _ _ | exact LeO.refl _ | exact LeO.none _ | refine LeO.ite ?_ ?_ | refine LeO.bind ?_ (fun _ => ?_)
theorem carrefourref01_Times.mono : ∀ a0 a1 k, LeO (carrefourref01_Times.f k a0 a1) (carrefourref01_Times.f (k + 1) a0 a1) := by
  intro a0 a1 k
  obtain ⟨ih0, ih1⟩ := carrefourref01_Times.mono_l k
  unfold carrefourref01_Times.f
  repeat' with_reducible first | exact ih0 _ _ _ _ | exact ih1 _ _ _ _ _ _ _ | exact carrefourref01_Parts.mono _ _ | exact carrefourref01_Plus.mono _ _ _ | exact LeO.refl _ | exact LeO.none _ | refine LeO.ite ?_ ?_ | refine LeO.bind ?_ (fun _ => ?_)
/-! ### carrefourref01_Order: function 46 -/
mutual
def carrefourref01_Order.l0 : Nat → List Int → List Int → Int → Option (Int)
  | 0, _, _, _ => none
  | k + 1, x0, x1, x6 => if x6 ≥ 0 then (if x6 < (x0.length : Int) then (if 0 ≤ x6 then (carrefourref01_Order.j1 k x0 x1 x6 (rd x0 x6) 0) else (none)) else (carrefourref01_Order.j1 k x0 x1 x6 0 0)) else (some 0)
def carrefourref01_Order.j1 : Nat → List Int → List Int → Int → Int → Int → Option (Int)
  | 0, _, _, _, _, _ => none
  | k + 1, x0, x1, x6, x7, x8 => if x6 < (x1.length : Int) then (if 0 ≤ x6 then (carrefourref01_Order.j2 k x0 x1 x6 x7 (rd x1 x6)) else (none)) else (carrefourref01_Order.j2 k x0 x1 x6 x7 x8)
def carrefourref01_Order.j2 : Nat → List Int → List Int → Int → Int → Int → Option (Int)
  | 0, _, _, _, _, _ => none
  | k + 1, x0, x1, x6, x7, x8 => if x7 < x8 then (some (-1)) else (if x7 > x8 then (some 1) else (carrefourref01_Order.l0 k x0 x1 (wrap64 (x6 - 1))))
end
def carrefourref01_Order.f (k : Nat) (l0 : List Int) (l1 : List Int) : Option (Int) := carrefourref01_Order.l0 k l0 l1 (wrap64 ((mx (l0.length : Int) (l1.length : Int)) - 1))
theorem carrefourref01_Order.mono_l : ∀ k, (∀ y0 y1 y2, LeO (carrefourref01_Order.l0 k y0 y1 y2) (carrefourref01_Order.l0 (k + 1) y0 y1 y2)) ∧ (∀ y0 y1 y2 y3 y4, LeO (carrefourref01_Order.j1 k y0 y1 y2 y3 y4) (carrefourref01_Order.j1 (k + 1) y0 y1 y2 y3 y4)) ∧ (∀ y0 y1 y2 y3 y4, LeO (carrefourref01_Order.j2 k y0 y1 y2 y3 y4) (carrefourref01_Order.j2 (k + 1) y0 y1 y2 y3 y4))
  | 0 => ⟨fun _ _ _ r h => by simp [carrefourref01_Order.l0] at h, fun _ _ _ _ _ r h => by simp [carrefourref01_Order.j1] at h, fun _ _ _ _ _ r h => by simp [carrefourref01_Order.j2] at h⟩
  | k + 1 => by
    obtain ⟨ih0, ih1, ih2⟩ := carrefourref01_Order.mono_l k
    refine ⟨?_, ?_, ?_⟩
    · intro y0 y1 y2
      unfold carrefourref01_Order.l0
      repeat' with_reducible first | exact ih0 _ _ _ | exact ih1 _ _ _ _ _ | exact ih2 _ _ _ _ _ | exact LeO.refl _ | exact LeO.none _ | refine LeO.ite ?_ ?_ | refine LeO.bind ?_ (fun _ => ?_)
    · intro y0 y1 y2 y3 y4
      unfold carrefourref01_Order.j1
      repeat' with_reducible first | exact ih0 _ _ _ | exact ih1 _ _ _ _ _ | exact ih2 _ _ _ _ _ | exact LeO.refl _ | exact LeO.none _ | refine LeO.ite ?_ ?_ | refine LeO.bind ?_ (fun _ => ?_)
    · intro y0 y1 y2 y3 y4
      unfold carrefourref01_Order.j2
      repeat' with_reducible first | exact ih0 _ _ _ | exact ih1 _ _ _ _ _ | exact ih2 _ _ _ _ _ | exact LeO.refl _ | exact LeO.none _ | refine LeO.ite ?_ ?_ | refine LeO.bind ?_ (fun _ => ?_)
theorem carrefourref01_Order.mono : ∀ a0 a1 k, LeO (carrefourref01_Order.f k a0 a1) (carrefourref01_Order.f (k + 1) a0 a1) := by
  intro a0 a1 k
  obtain ⟨ih0, ih1, ih2⟩ := carrefourref01_Order.mono_l k
  unfold carrefourref01_Order.f
  repeat' with_reducible first | exact ih0 _ _ _ | exact ih1 _ _ _ _ _ | exact ih2 _ _ _ _ _ | exact LeO.refl _ | exact LeO.none _ | refine LeO.ite ?_ ?_ | refine LeO.bind ?_ (fun _ => ?_)
/-! ### carrefourref01_Minus: function 47 -/
def carrefourref01_Minus.l0 : Nat → List Int → List Int → List Int → Int → Int → Option (List Int)
  | 0, _, _, _, _, _ => none
  | k + 1, x0, x1, x5, x6, x7 => if x7 < (x0.length : Int) then (if x7 < (x1.length : Int) then (if 0 ≤ x7 then (if (rd x0 x7) ≥ (IntKind.u64.wrap (x6 + (rd x1 x7))) then (if x5.length < 17592186044416 then (carrefourref01_Minus.l0 k x0 x1 (x5 ++ [IntKind.u64.wrap ((rd x0 x7) - (IntKind.u64.wrap (x6 + (rd x1 x7))))]) 0 (wrap64 (x7 + 1))) else (none)) else (if x5.length < 17592186044416 then (carrefourref01_Minus.l0 k x0 x1 (x5 ++ [IntKind.u64.wrap ((IntKind.u64.wrap ((rd x0 x7) + 65536)) - (IntKind.u64.wrap (x6 + (rd x1 x7))))]) 1 (wrap64 (x7 + 1))) else (none))) else (none)) else (if 0 ≤ x7 then (if (rd x0 x7) ≥ x6 then (if x5.length < 17592186044416 then (carrefourref01_Minus.l0 k x0 x1 (x5 ++ [IntKind.u64.wrap ((rd x0 x7) - x6)]) 0 (wrap64 (x7 + 1))) else (none)) else (if x5.length < 17592186044416 then (carrefourref01_Minus.l0 k x0 x1 (x5 ++ [IntKind.u64.wrap ((IntKind.u64.wrap ((rd x0 x7) + 65536)) - x6)]) 1 (wrap64 (x7 + 1))) else (none))) else (none))) else (some x5)
def carrefourref01_Minus.f (k : Nat) (l0 : List Int) (l1 : List Int) : Option (List Int) := carrefourref01_Minus.l0 k l0 l1 ([] : List Int) 0 0
theorem carrefourref01_Minus.mono_l : ∀ k, (∀ y0 y1 y2 y3 y4, LeO (carrefourref01_Minus.l0 k y0 y1 y2 y3 y4) (carrefourref01_Minus.l0 (k + 1) y0 y1 y2 y3 y4))
  | 0 => fun _ _ _ _ _ r h => by simp [carrefourref01_Minus.l0] at h
  | k + 1 => by
    have ih0 := carrefourref01_Minus.mono_l k
    · intro y0 y1 y2 y3 y4
      unfold carrefourref01_Minus.l0
      repeat' with_reducible first | exact ih0 _ _ _ _ _ | exact LeO.refl _ | exact LeO.none _ | refine LeO.ite ?_ ?_ | refine LeO.bind ?_ (fun _ => ?_)
theorem carrefourref01_Minus.mono : ∀ a0 a1 k, LeO (carrefourref01_Minus.f k a0 a1) (carrefourref01_Minus.f (k + 1) a0 a1) := by
  intro a0 a1 k
  have ih0 := carrefourref01_Minus.mono_l k
  unfold carrefourref01_Minus.f
  repeat' with_reducible first | exact ih0 _ _ _ _ _ | exact LeO.refl _ | exact LeO.none _ | refine LeO.ite ?_ ?_ | refine LeO.bind ?_ (fun _ => ?_)
/-! ### carrefourref02_twice: function 71 -/
def carrefourref02_twice.f (k : Nat) (l0 : List Int) : Option (List Int) := (carrefourref01_Plus.f k l0 l0).bind fun t366 => (some t366)
theorem carrefourref02_twice.mono : ∀ a0 k, LeO (carrefourref02_twice.f k a0) (carrefourref02_twice.f (k + 1) a0) := by
  intro a0 k
  unfold carrefourref02_twice.f
  repeat' with_reducible first | exact carrefourref01_Plus.mono _ _ _ | exact LeO.refl _ | exact LeO.none _ | refine LeO.ite ?_ ?_ | refine LeO.bind ?_ (fun _ => ?_)
/-! ### carrefourref02_rest: function 69 -/
mutual
def carrefourref02_rest.l0 : Nat → List Int → List (List Int) → List Int → Option (List Int)
  | 0, _, _, _ => none
  | k + 1, x0, x5, x6 => (carrefourref01_Order.f k x6 x0).bind fun t369 => (if t369 ≤ 0 then (if x5.length < 5864062014805 then ((carrefourref02_twice.f k x6).bind fun t373 => (carrefourref02_rest.l0 k x0 (x5 ++ [x6]) t373)) else (none)) else (carrefourref02_rest.l1 k x0 x5 (wrap64 ((x5.length : Int) - 1))))
def carrefourref02_rest.l1 : Nat → List Int → List (List Int) → Int → Option (List Int)
  | 0, _, _, _ => none
  | k + 1, x0, x5, x7 => if x7 ≥ 0 then (if 0 ≤ x7 then (if x7 < (x5.length : Int) then ((carrefourref01_Order.f k (rd_L1 x5 x7) x0).bind fun t377 => (if t377 ≤ 0 then ((carrefourref01_Minus.f k x0 (rd_L1 x5 x7)).bind fun t379 => ((carrefourref02_trim.f k t379).bind fun t382 => (carrefourref02_rest.l1 k t382 x5 (wrap64 (x7 - 1))))) else (carrefourref02_rest.l1 k x0 x5 (wrap64 (x7 - 1))))) else (none)) else (none)) else (some x0)
end
def carrefourref02_rest.f (k : Nat) (l0 : List Int) (l1 : List Int) : Option (List Int) := carrefourref02_rest.l0 k l0 ([] : List (List Int)) l1
theorem carrefourref02_rest.mono_l : ∀ k, (∀ y0 y1 y2, LeO (carrefourref02_rest.l0 k y0 y1 y2) (carrefourref02_rest.l0 (k + 1) y0 y1 y2)) ∧ (∀ y0 y1 y2, LeO (carrefourref02_rest.l1 k y0 y1 y2) (carrefourref02_rest.l1 (k + 1) y0 y1 y2))
  | 0 => ⟨fun _ _ _ r h => by simp [carrefourref02_rest.l0] at h, fun _ _ _ r h => by simp [carrefourref02_rest.l1] at h⟩
  | k + 1 => by
    obtain ⟨ih0, ih1⟩ := carrefourref02_rest.mono_l k
    refine ⟨?_, ?_⟩
    · intro y0 y1 y2
      unfold carrefourref02_rest.l0
      repeat' with_reducible first | exact ih0 _ _ _ | exact ih1 _ _ _ | exact carrefourref01_Minus.mono _ _ _ | exact carrefourref01_Order.mono _ _ _ | exact carrefourref02_trim.mono _ _ | exact carrefourref02_twice.mono _ _ | exact LeO.refl _ | exact LeO.none _ | refine LeO.ite ?_ ?_ | refine LeO.bind ?_ (fun _ => ?_)
    · intro y0 y1 y2
      unfold carrefourref02_rest.l1
      repeat' with_reducible first | exact ih0 _ _ _ | exact ih1 _ _ _ | exact carrefourref01_Minus.mono _ _ _ | exact carrefourref01_Order.mono _ _ _ | exact carrefourref02_trim.mono _ _ | exact carrefourref02_twice.mono _ _ | exact LeO.refl _ | exact LeO.none _ | refine LeO.ite ?_ ?_ | refine LeO.bind ?_ (fun _ => ?_)
theorem carrefourref02_rest.mono : ∀ a0 a1 k, LeO (carrefourref02_rest.f k a0 a1) (carrefourref02_rest.f (k + 1) a0 a1) := by
  intro a0 a1 k
  obtain ⟨ih0, ih1⟩ := carrefourref02_rest.mono_l k
  unfold carrefourref02_rest.f
  repeat' with_reducible first | exact ih0 _ _ _ | exact ih1 _ _ _ | exact carrefourref01_Minus.mono _ _ _ | exact carrefourref01_Order.mono _ _ _ | exact carrefourref02_trim.mono _ _ | exact carrefourref02_twice.mono _ _ | exact LeO.refl _ | exact LeO.none _ | refine LeO.ite ?_ ?_ | refine LeO.bind ?_ (fun _ => ?_)
/-! ### carrefourref02_divided: function 70 -/
mutual
def carrefourref02_divided.l0 : Nat → List Int → Int → List (List Int) → List Int → Option (Int × Bool)
  | 0, _, _, _, _ => none
  | k + 1, x0, x6, x7, x8 => (carrefourref01_Order.f k x8 x0).bind fun t385 => (if t385 ≤ 0 then (if x7.length < 5864062014805 then ((carrefourref02_twice.f k x8).bind fun t389 => (carrefourref02_divided.l0 k x0 x6 (x7 ++ [x8]) t389)) else (none)) else (if (x7.length : Int) > 64 then (some (0, false)) else (carrefourref02_divided.l1 k x0 x6 x7 (wrap64 ((x7.length : Int) - 1)))))
def carrefourref02_divided.l1 : Nat → List Int → Int → List (List Int) → Int → Option (Int × Bool)
  | 0, _, _, _, _ => none
  | k + 1, x0, x6, x7, x9 => if x9 ≥ 0 then (if 0 ≤ x9 then (if x9 < (x7.length : Int) then ((carrefourref01_Order.f k (rd_L1 x7 x9) x0).bind fun t393 => (if t393 ≤ 0 then ((carrefourref01_Minus.f k x0 (rd_L1 x7 x9)).bind fun t395 => ((carrefourref02_trim.f k t395).bind fun t398 => (carrefourref02_divided.l1 k t398 (IntKind.u64.wrap ((IntKind.u64.wrap (x6 * 2)) + 1)) x7 (wrap64 (x9 - 1))))) else (carrefourref02_divided.l1 k x0 (IntKind.u64.wrap (x6 * 2)) x7 (wrap64 (x9 - 1))))) else (none)) else (none)) else (some (x6, true))
end
def carrefourref02_divided.f (k : Nat) (l0 : List Int) (l1 : List Int) : Option (Int × Bool) := carrefourref02_divided.l0 k l0 0 ([] : List (List Int)) l1
theorem carrefourref02_divided.mono_l : ∀ k, (∀ y0 y1 y2 y3, LeO (carrefourref02_divided.l0 k y0 y1 y2 y3) (carrefourref02_divided.l0 (k + 1) y0 y1 y2 y3)) ∧ (∀ y0 y1 y2 y3, LeO (carrefourref02_divided.l1 k y0 y1 y2 y3) (carrefourref02_divided.l1 (k + 1) y0 y1 y2 y3))
  | 0 => ⟨fun _ _ _ _ r h => by simp [carrefourref02_divided.l0] at h, fun _ _ _ _ r h => by simp [carrefourref02_divided.l1] at h⟩
  | k + 1 => by
    obtain ⟨ih0, ih1⟩ := carrefourref02_divided.mono_l k
    refine ⟨?_, ?_⟩
    · intro y0 y1 y2 y3
      unfold carrefourref02_divided.l0
      repeat' with_reducible first | exact ih0 _ _ _ _ | exact ih1 _ _ _ _ | exact carrefourref01_Minus.mono _ _ _ | exact carrefourref01_Order.mono _ _ _ | exact carrefourref02_trim.mono _ _ | exact carrefourref02_twice.mono _ _ | exact LeO.refl _ | exact LeO.none _ | refine LeO.ite ?_ ?_ | refine LeO.bind ?_ (fun _ => ?_)
    · intro y0 y1 y2 y3
      unfold carrefourref02_divided.l1
      repeat' with_reducible first | exact ih0 _ _ _ _ | exact ih1 _ _ _ _ | exact carrefourref01_Minus.mono _ _ _ | exact carrefourref01_Order.mono _ _ _ | exact carrefourref02_trim.mono _ _ | exact carrefourref02_twice.mono _ _ | exact LeO.refl _ | exact LeO.none _ | refine LeO.ite ?_ ?_ | refine LeO.bind ?_ (fun _ => ?_)
theorem carrefourref02_divided.mono : ∀ a0 a1 k, LeO (carrefourref02_divided.f k a0 a1) (carrefourref02_divided.f (k + 1) a0 a1) := by
  intro a0 a1 k
  obtain ⟨ih0, ih1⟩ := carrefourref02_divided.mono_l k
  unfold carrefourref02_divided.f
  repeat' with_reducible first | exact ih0 _ _ _ _ | exact ih1 _ _ _ _ | exact carrefourref01_Minus.mono _ _ _ | exact carrefourref01_Order.mono _ _ _ | exact carrefourref02_trim.mono _ _ | exact carrefourref02_twice.mono _ _ | exact LeO.refl _ | exact LeO.none _ | refine LeO.ite ?_ ?_ | refine LeO.bind ?_ (fun _ => ?_)
/-! ### carrefourref02_lowest: function 44 -/
def carrefourref02_lowest.l0 : Nat → List Int → List Int → Bool → List Int → List Int → Option (Int × Int × Int)
  | 0, _, _, _, _, _ => none
  | k + 1, x0, x1, x2, x8, x9 => (carrefourref01_Order.f k x9 ([] : List Int)).bind fun t402 => (if t402 = 0 then ((carrefourref02_divided.f k x0 x8).bind fun bt406 => ((carrefourref02_divided.f k x1 x8).bind fun bt408 => (if bt406.2 = true then (if bt408.2 = true then (if x2 = true then ((carrefourref02_made.f k bt406.1 bt408.1 (bt406.1 != 0)).bind fun bt410 => (some (bt410.1, bt410.2.1, bt410.2.2))) else ((carrefourref02_made.f k bt406.1 bt408.1 false).bind fun bt413 => (some (bt413.1, bt413.2.1, bt413.2.2)))) else (some (0, 0, 2))) else (some (0, 0, 2))))) else ((carrefourref02_rest.f k x8 x9).bind fun t403 => (carrefourref02_lowest.l0 k x0 x1 x2 x9 t403)))
def carrefourref02_lowest.f (k : Nat) (l0 : List Int) (l1 : List Int) (a2 : Bool) : Option (Int × Int × Int) := carrefourref02_lowest.l0 k l0 l1 a2 l0 l1
theorem carrefourref02_lowest.mono_l : ∀ k, (∀ y0 y1 y2 y3 y4, LeO (carrefourref02_lowest.l0 k y0 y1 y2 y3 y4) (carrefourref02_lowest.l0 (k + 1) y0 y1 y2 y3 y4))
  | 0 => fun _ _ _ _ _ r h => by simp [carrefourref02_lowest.l0] at h
  | k + 1 => by
    have ih0 := carrefourref02_lowest.mono_l k
    · intro y0 y1 y2 y3 y4
      unfold carrefourref02_lowest.l0
      repeat' with_reducible first | exact ih0 _ _ _ _ _ | exact carrefourref01_Order.mono _ _ _ | exact carrefourref02_divided.mono _ _ _ | exact carrefourref02_made.mono _ _ _ _ | exact carrefourref02_rest.mono _ _ _ | exact LeO.refl _ | exact LeO.none _ | refine LeO.ite ?_ ?_ | refine LeO.bind ?_ (fun _ => ?_)
theorem carrefourref02_lowest.mono : ∀ a0 a1 a2 k, LeO (carrefourref02_lowest.f k a0 a1 a2) (carrefourref02_lowest.f (k + 1) a0 a1 a2) := by
  intro a0 a1 a2 k
  have ih0 := carrefourref02_lowest.mono_l k
  unfold carrefourref02_lowest.f
  repeat' with_reducible first | exact ih0 _ _ _ _ _ | exact carrefourref01_Order.mono _ _ _ | exact carrefourref02_divided.mono _ _ _ | exact carrefourref02_made.mono _ _ _ _ | exact carrefourref02_rest.mono _ _ _ | exact LeO.refl _ | exact LeO.none _ | refine LeO.ite ?_ ?_ | refine LeO.bind ?_ (fun _ => ?_)
/-! ### carrefourref02_Add: function 11 -/
def carrefourref02_Add.f (k : Nat) (a0_0 : Int) (a0_1 : Int) (a1_0 : Int) (a1_1 : Int) : Option (Int × Int × Int) := (carrefourref02_Norm.f k a0_0 a0_1).bind fun bt419 => ((carrefourref02_Norm.f k a1_0 a1_1).bind fun bt421 => ((carrefourref02_few.f bt419.1 bt419.2 bt421.1 bt421.2).bind fun t423 => (if t423 = true then ((carrefourref02_Of.f k (wrap64 ((wrap64 (bt419.1 * bt421.2)) + (wrap64 (bt421.1 * bt419.2)))) (wrap64 (bt419.2 * bt421.2))).bind fun bt424 => (some (bt424.1, bt424.2.1, bt424.2.2))) else ((carrefourref01_Size.f bt419.1).bind fun t427 => ((carrefourref01_Times.f k t427 (IntKind.u64.wrap (bt421.2))).bind fun t428 => ((carrefourref02_trim.f k t428).bind fun t431 => ((carrefourref01_Size.f bt421.1).bind fun t434 => ((carrefourref01_Times.f k t434 (IntKind.u64.wrap (bt419.2))).bind fun t435 => ((carrefourref02_trim.f k t435).bind fun t438 => ((carrefourref01_Times.f k (IntKind.u64.wrap (bt419.2)) (IntKind.u64.wrap (bt421.2))).bind fun t441 => ((carrefourref02_trim.f k t441).bind fun t444 => (if ((decide (bt419.1 < 0)) == (decide (bt421.1 < 0))) = true then ((carrefourref01_Plus.f k t431 t438).bind fun t447 => ((carrefourref02_trim.f k t447).bind fun t450 => ((carrefourref02_lowest.f k t450 t444 (decide (bt419.1 < 0))).bind fun bt453 => (some (bt453.1, bt453.2.1, bt453.2.2))))) else ((carrefourref01_Order.f k t431 t438).bind fun t456 => (if t456 ≥ 0 then ((carrefourref01_Minus.f k t431 t438).bind fun t457 => ((carrefourref02_trim.f k t457).bind fun t460 => ((carrefourref02_lowest.f k t460 t444 (decide (bt419.1 < 0))).bind fun bt463 => (some (bt463.1, bt463.2.1, bt463.2.2))))) else ((carrefourref01_Minus.f k t438 t431).bind fun t466 => ((carrefourref02_trim.f k t466).bind fun t469 => ((carrefourref02_lowest.f k t469 t444 (decide (bt421.1 < 0))).bind fun bt472 => (some (bt472.1, bt472.2.1, bt472.2.2)))))))))))))))))))
theorem carrefourref02_Add.mono : ∀ a0 a1 a2 a3 k, LeO (carrefourref02_Add.f k a0 a1 a2 a3) (carrefourref02_Add.f (k + 1) a0 a1 a2 a3) := by
  intro a0 a1 a2 a3 k
  unfold carrefourref02_Add.f
  repeat' with_reducible first | exact carrefourref01_Minus.mono _ _ _ | exact carrefourref01_Order.mono _ _ _ | exact carrefourref01_Plus.mono _ _ _ | exact carrefourref01_Times.mono _ _ _ | exact carrefourref02_Norm.mono _ _ _ | exact carrefourref02_Of.mono _ _ _ | exact carrefourref02_lowest.mono _ _ _ _ | exact carrefourref02_trim.mono _ _ | exact LeO.refl _ | exact LeO.none _ | refine LeO.ite ?_ ?_ | refine LeO.bind ?_ (fun _ => ?_)
/-! ### frac_signed_opposite: function 48 -/
def frac_signed_opposite.f (a0_0 : Bool) (a0_1 : Int) (a0_2 : Int) : Option (Bool × Int × Int) := some (!a0_0, a0_1, a0_2)
/-! ### frac_added_fn48: function 900001 -/
def frac_added_fn48.f (k : Nat) (a0_0 : Int) (a0_1 : Int) (a1_0 : Int) (a1_1 : Int) : Option (Int × Int × Int) := (frac_norm.f k a0_0 a0_1).bind fun bt480 => ((frac_norm.f k a1_0 a1_1).bind fun bt482 => ((frac_sized.f bt480.1).bind fun bt484 => ((frac_sized.f bt482.2).bind fun bt487 => ((frac_signed_times.f bt484.1 bt484.2.1 bt484.2.2 bt487.1 bt487.2.1 bt487.2.2).bind fun bt490 => ((frac_sized.f bt482.1).bind fun bt494 => ((frac_sized.f bt480.2).bind fun bt497 => ((frac_signed_times.f bt494.1 bt494.2.1 bt494.2.2 bt497.1 bt497.2.1 bt497.2.2).bind fun bt500 => ((frac_signed_opposite.f bt500.1 bt500.2.1 bt500.2.2).bind fun bt503 => ((frac_signed_plus.f bt490.1 bt490.2.1 bt490.2.2 bt503.1 bt503.2.1 bt503.2.2).bind fun bt507 => ((frac_sized.f bt480.2).bind fun bt510 => ((frac_sized.f bt482.2).bind fun bt513 => ((frac_signed_times.f bt510.1 bt510.2.1 bt510.2.2 bt513.1 bt513.2.1 bt513.2.2).bind fun bt516 => ((frac_reduced.f k bt507.1 bt507.2.1 bt507.2.2 bt516.1 bt516.2.1 bt516.2.2).bind fun bt519 => (some (bt519.1, bt519.2.1, bt519.2.2)))))))))))))))
theorem frac_added_fn48.mono : ∀ a0 a1 a2 a3 k, LeO (frac_added_fn48.f k a0 a1 a2 a3) (frac_added_fn48.f (k + 1) a0 a1 a2 a3) := by
  intro a0 a1 a2 a3 k
  unfold frac_added_fn48.f
  repeat' with_reducible first | exact frac_norm.mono _ _ _ | exact frac_reduced.mono _ _ _ _ _ _ _ | exact LeO.refl _ | exact LeO.none _ | refine LeO.ite ?_ ?_ | refine LeO.bind ?_ (fun _ => ?_)
/-! ### frac_Sub: function 12 -/
def frac_Sub.f (k : Nat) (a0_0 : Int) (a0_1 : Int) (a1_0 : Int) (a1_1 : Int) : Option (Int × Int × Int) := (frac_added_fn48.f k a0_0 a0_1 a1_0 a1_1).bind fun bt525 => (some (bt525.1, bt525.2.1, bt525.2.2))
theorem frac_Sub.mono : ∀ a0 a1 a2 a3 k, LeO (frac_Sub.f k a0 a1 a2 a3) (frac_Sub.f (k + 1) a0 a1 a2 a3) := by
  intro a0 a1 a2 a3 k
  unfold frac_Sub.f
  repeat' with_reducible first | exact frac_added_fn48.mono _ _ _ _ _ | exact LeO.refl _ | exact LeO.none _ | refine LeO.ite ?_ ?_ | refine LeO.bind ?_ (fun _ => ?_)
/-! ### carrefourref02_minus: function 49 -/
def carrefourref02_minus.f (a0_0 : Int) (a0_1 : Int) : Option (Int × Int × Bool) := if a0_0 = (-9223372036854775808) then (some (a0_0, a0_1, false)) else (some (wrap64 (-a0_0), a0_1, true))
/-! ### carrefourref02_twiceAdded: function 50 -/
def carrefourref02_twiceAdded.f (k : Nat) (a0_0 : Int) (a0_1 : Int) (a1_0 : Int) (a1_1 : Int) : Option (Int × Int × Int) := (carrefourref01_Size.f a0_0).bind fun t533 => ((carrefourref01_Times.f k t533 (IntKind.u64.wrap (a1_1))).bind fun t534 => ((carrefourref02_trim.f k t534).bind fun t537 => ((carrefourref01_Times.f k (IntKind.u64.wrap (a1_0)) (IntKind.u64.wrap (a0_1))).bind fun t540 => ((carrefourref02_twice.f k t540).bind fun t543 => ((carrefourref02_trim.f k t543).bind fun t546 => ((carrefourref01_Times.f k (IntKind.u64.wrap (a0_1)) (IntKind.u64.wrap (a1_1))).bind fun t549 => ((carrefourref02_trim.f k t549).bind fun t552 => (if a0_0 ≥ 0 then ((carrefourref01_Plus.f k t537 t546).bind fun t555 => ((carrefourref02_trim.f k t555).bind fun t558 => ((carrefourref02_lowest.f k t558 t552 false).bind fun bt561 => (some (bt561.1, bt561.2.1, bt561.2.2))))) else ((carrefourref01_Order.f k t537 t546).bind fun t564 => (if t564 ≥ 0 then ((carrefourref01_Minus.f k t537 t546).bind fun t565 => ((carrefourref02_trim.f k t565).bind fun t568 => ((carrefourref02_lowest.f k t568 t552 true).bind fun bt571 => (some (bt571.1, bt571.2.1, bt571.2.2))))) else ((carrefourref01_Minus.f k t546 t537).bind fun t574 => ((carrefourref02_trim.f k t574).bind fun t577 => ((carrefourref02_lowest.f k t577 t552 false).bind fun bt580 => (some (bt580.1, bt580.2.1, bt580.2.2)))))))))))))))
theorem carrefourref02_twiceAdded.mono : ∀ a0 a1 a2 a3 k, LeO (carrefourref02_twiceAdded.f k a0 a1 a2 a3) (carrefourref02_twiceAdded.f (k + 1) a0 a1 a2 a3) := by
  intro a0 a1 a2 a3 k
  unfold carrefourref02_twiceAdded.f
  repeat' with_reducible first | exact carrefourref01_Minus.mono _ _ _ | exact carrefourref01_Order.mono _ _ _ | exact carrefourref01_Plus.mono _ _ _ | exact carrefourref01_Times.mono _ _ _ | exact carrefourref02_lowest.mono _ _ _ _ | exact carrefourref02_trim.mono _ _ | exact carrefourref02_twice.mono _ _ | exact LeO.refl _ | exact LeO.none _ | refine LeO.ite ?_ ?_ | refine LeO.bind ?_ (fun _ => ?_)
/-! ### carrefourref02_Sub: function 13 -/
def carrefourref02_Sub.f (k : Nat) (a0_0 : Int) (a0_1 : Int) (a1_0 : Int) (a1_1 : Int) : Option (Int × Int × Int) := (carrefourref02_Norm.f k a1_0 a1_1).bind fun bt586 => ((carrefourref02_minus.f bt586.1 bt586.2).bind fun bt588 => (if bt588.2.2 = true then ((carrefourref02_Add.f k a0_0 a0_1 bt588.1 bt588.2.1).bind fun bt592 => (some (bt592.1, bt592.2.1, bt592.2.2))) else (if (Int.tmod bt586.2 2) = 0 then (some (0, 0, 2)) else ((carrefourref02_Norm.f k a0_0 a0_1).bind fun bt596 => ((carrefourref02_twiceAdded.f k bt596.1 bt596.2 4611686018427387904 bt586.2).bind fun bt598 => (some (bt598.1, bt598.2.1, bt598.2.2)))))))
theorem carrefourref02_Sub.mono : ∀ a0 a1 a2 a3 k, LeO (carrefourref02_Sub.f k a0 a1 a2 a3) (carrefourref02_Sub.f (k + 1) a0 a1 a2 a3) := by
  intro a0 a1 a2 a3 k
  unfold carrefourref02_Sub.f
  repeat' with_reducible first | exact carrefourref02_Add.mono _ _ _ _ _ | exact carrefourref02_Norm.mono _ _ _ | exact carrefourref02_twiceAdded.mono _ _ _ _ _ | exact LeO.refl _ | exact LeO.none _ | refine LeO.ite ?_ ?_ | refine LeO.bind ?_ (fun _ => ?_)
/-! ### carrefourlaw02_same: function 14 -/
def carrefourlaw02_same.f (a0_0 : Int) (a0_1 : Int) (a1 : Int) (a2_0 : Int) (a2_1 : Int) (a3 : Int) : Option (Bool) := if (a0_0 == a2_0 && (a0_1 == a2_1)) = true then (some (a1 == a3)) else (some false)
/-! ### whole_Sub: function 96 -/
def whole_Sub.f (a0 : Int) (a1 : Int) : Option (Int × Int) := if ((decide ((wrap64 (a0 - a1)) > a0)) != (decide (a1 < 0))) = true then (some (0, 2)) else (some (wrap64 (a0 - a1), 0))
/-! ### whole_Neg: function 84 -/
def whole_Neg.f (a0 : Int) : Option (Int × Int) := (whole_Sub.f 0 a0).bind fun bt603 => (some (bt603.1, bt603.2))
/-! ### whole_Floor: function 60 -/
def whole_Floor.f (a0 : Int) (a1 : Int) : Option (Int × Int) := if a1 = 0 then (some (0, 3)) else (if a1 = (-1) then ((whole_Neg.f a0).bind fun bt605 => (some (bt605.1, bt605.2))) else (if (Int.tmod a0 a1) = 0 then (some (wrap64 (Int.tdiv a0 a1), 0)) else (if ((decide ((Int.tmod a0 a1) < 0)) != (decide (a1 < 0))) = true then (some (wrap64 ((wrap64 (Int.tdiv a0 a1)) - 1), 0)) else (some (wrap64 (Int.tdiv a0 a1), 0)))))
/-! ### frac_Floor: function 27 -/
def frac_Floor.f (k : Nat) (a0_0 : Int) (a0_1 : Int) : Option (Int) := (frac_norm.f k a0_0 a0_1).bind fun bt608 => ((whole_Floor.f bt608.1 bt608.2).bind fun bt610 => (some bt610.1))
theorem frac_Floor.mono : ∀ a0 a1 k, LeO (frac_Floor.f k a0 a1) (frac_Floor.f (k + 1) a0 a1) := by
  intro a0 a1 k
  unfold frac_Floor.f
  repeat' with_reducible first | exact frac_norm.mono _ _ _ | exact LeO.refl _ | exact LeO.none _ | refine LeO.ite ?_ ?_ | refine LeO.bind ?_ (fun _ => ?_)
/-! ### strconv_FormatInt: function 64 -/
/-- strconv.FormatInt at base 10: by the shelf's contract. -/
def strconv_FormatInt.f (a0 a1 : Int) : Option ByteArray := if a1 = 10 ∧ -9223372036854775808 ≤ a0 ∧ a0 ≤ 9223372036854775807 then some ⟨(Lib.itoa a0).toArray⟩ else none
/-! ### frac_Print: function 31 -/
def frac_Print.f (k : Nat) (a0_0 : Int) (a0_1 : Int) : Option (ByteArray) := (frac_norm.f k a0_0 a0_1).bind fun bt613 => ((strconv_FormatInt.f bt613.1 10).bind fun t615 => (if t615.size + 1 ≤ 9223372036854775807 then ((strconv_FormatInt.f bt613.2 10).bind fun t616 => (if (t615 ++ (⟨#[47]⟩ : ByteArray)).size + t616.size ≤ 9223372036854775807 then (some ((t615 ++ (⟨#[47]⟩ : ByteArray)) ++ t616)) else (none))) else (none)))
theorem frac_Print.mono : ∀ a0 a1 k, LeO (frac_Print.f k a0 a1) (frac_Print.f (k + 1) a0 a1) := by
  intro a0 a1 k
  unfold frac_Print.f
  repeat' with_reducible first | exact frac_norm.mono _ _ _ | exact LeO.refl _ | exact LeO.none _ | refine LeO.ite ?_ ?_ | refine LeO.bind ?_ (fun _ => ?_)
/-! ### carrefourlaw02_awake: function 15 -/
def carrefourlaw02_awake.f (k : Nat)  : Option (Bool) := (frac_Add.f k 1 6 1 10).bind fun bt617 => ((frac_Add.f k 1 4611686018427387904 1 4611686018427387903).bind fun bt621 => (if bt617.2.2 = 0 then (if (bt617.1 == 4 && (bt617.2.1 == 15)) = true then (if bt621.2.2 = 2 then ((frac_Floor.f k (-1) 2).bind fun t625 => (if t625 = (-1) then ((frac_Print.f k bt617.1 bt617.2.1).bind fun t626 => (some (t626.toList == ([52, 47, 49, 53] : List UInt8)))) else (some false))) else (some false)) else (some false)) else (some false)))
theorem carrefourlaw02_awake.mono : ∀ k, LeO (carrefourlaw02_awake.f k ) (carrefourlaw02_awake.f (k + 1) ) := by
  intro  k
  unfold carrefourlaw02_awake.f
  repeat' with_reducible first | exact frac_Add.mono _ _ _ _ _ | exact frac_Floor.mono _ _ _ | exact frac_Print.mono _ _ _ | exact LeO.refl _ | exact LeO.none _ | refine LeO.ite ?_ ?_ | refine LeO.bind ?_ (fun _ => ?_)
/-! ### carrefourlaw02_FracSums: function 3 -/
def carrefourlaw02_FracSums.f (k : Nat) (a0_0 : Int) (a0_1 : Int) (a1_0 : Int) (a1_1 : Int) : Option (Bool) := (frac_Add.f k a0_0 a0_1 a1_0 a1_1).bind fun bt629 => ((carrefourref02_Add.f k a0_0 a0_1 a1_0 a1_1).bind fun bt633 => ((frac_Sub.f k a0_0 a0_1 a1_0 a1_1).bind fun bt637 => ((carrefourref02_Sub.f k a0_0 a0_1 a1_0 a1_1).bind fun bt641 => ((carrefourlaw02_same.f bt629.1 bt629.2.1 bt629.2.2 bt633.1 bt633.2.1 bt633.2.2).bind fun t645 => (if t645 = true then ((carrefourlaw02_same.f bt637.1 bt637.2.1 bt637.2.2 bt641.1 bt641.2.1 bt641.2.2).bind fun t646 => (if t646 = true then ((carrefourlaw02_awake.f k).bind fun t647 => (some t647)) else (some false))) else (some false))))))
theorem carrefourlaw02_FracSums.mono : ∀ a0 a1 a2 a3 k, LeO (carrefourlaw02_FracSums.f k a0 a1 a2 a3) (carrefourlaw02_FracSums.f (k + 1) a0 a1 a2 a3) := by
  intro a0 a1 a2 a3 k
  unfold carrefourlaw02_FracSums.f
  repeat' with_reducible first | exact carrefourlaw02_awake.mono _ | exact carrefourref02_Add.mono _ _ _ _ _ | exact carrefourref02_Sub.mono _ _ _ _ _ | exact frac_Add.mono _ _ _ _ _ | exact frac_Sub.mono _ _ _ _ _ | exact LeO.refl _ | exact LeO.none _ | refine LeO.ite ?_ ?_ | refine LeO.bind ?_ (fun _ => ?_)
/-! ### frac_Of: function 16 -/
def frac_Of.f (k : Nat) (a0 : Int) (a1 : Int) : Option (Int × Int × Int) := if a1 = 0 then (some (0, 0, 3)) else ((frac_sized.f a0).bind fun bt649 => ((frac_sized.f a1).bind fun bt652 => ((frac_reduced.f k bt649.1 bt649.2.1 bt649.2.2 bt652.1 bt652.2.1 bt652.2.2).bind fun bt655 => (some (bt655.1, bt655.2.1, bt655.2.2)))))
theorem frac_Of.mono : ∀ a0 a1 k, LeO (frac_Of.f k a0 a1) (frac_Of.f (k + 1) a0 a1) := by
  intro a0 a1 k
  unfold frac_Of.f
  repeat' with_reducible first | exact frac_reduced.mono _ _ _ _ _ _ _ | exact LeO.refl _ | exact LeO.none _ | refine LeO.ite ?_ ?_ | refine LeO.bind ?_ (fun _ => ?_)
/-! ### carrefourlaw02_FracOf: function 4 -/
def carrefourlaw02_FracOf.f (k : Nat) (a0 : Int) (a1 : Int) : Option (Bool) := (frac_Of.f k a0 a1).bind fun bt658 => ((carrefourref02_Of.f k a0 a1).bind fun bt662 => ((carrefourlaw02_same.f bt658.1 bt658.2.1 bt658.2.2 bt662.1 bt662.2.1 bt662.2.2).bind fun t667 => (if t667 = true then ((frac_Right.f k a0 a1).bind fun t668 => ((carrefourref02_Right.f k a0 a1).bind fun t669 => (if (t668 == t669) = true then (if bt658.2.2 = 0 then ((frac_Right.f k bt658.1 bt658.2.1).bind fun t670 => (if t670 = true then ((carrefourlaw02_awake.f k).bind fun t671 => (some t671)) else (some false))) else ((carrefourlaw02_awake.f k).bind fun t672 => (some t672))) else (some false)))) else (some false))))
theorem carrefourlaw02_FracOf.mono : ∀ a0 a1 k, LeO (carrefourlaw02_FracOf.f k a0 a1) (carrefourlaw02_FracOf.f (k + 1) a0 a1) := by
  intro a0 a1 k
  unfold carrefourlaw02_FracOf.f
  repeat' with_reducible first | exact carrefourlaw02_awake.mono _ | exact carrefourref02_Of.mono _ _ _ | exact carrefourref02_Right.mono _ _ _ | exact frac_Of.mono _ _ _ | exact frac_Right.mono _ _ _ | exact LeO.refl _ | exact LeO.none _ | refine LeO.ite ?_ ?_ | refine LeO.bind ?_ (fun _ => ?_)
/-! ### frac_Mul: function 21 -/
def frac_Mul.f (k : Nat) (a0_0 : Int) (a0_1 : Int) (a1_0 : Int) (a1_1 : Int) : Option (Int × Int × Int) := (frac_norm.f k a0_0 a0_1).bind fun bt676 => ((frac_norm.f k a1_0 a1_1).bind fun bt678 => ((frac_sized.f bt676.1).bind fun bt680 => ((frac_sized.f bt678.1).bind fun bt683 => ((frac_signed_times.f bt680.1 bt680.2.1 bt680.2.2 bt683.1 bt683.2.1 bt683.2.2).bind fun bt686 => ((frac_sized.f bt676.2).bind fun bt689 => ((frac_sized.f bt678.2).bind fun bt692 => ((frac_signed_times.f bt689.1 bt689.2.1 bt689.2.2 bt692.1 bt692.2.1 bt692.2.2).bind fun bt695 => ((frac_reduced.f k bt686.1 bt686.2.1 bt686.2.2 bt695.1 bt695.2.1 bt695.2.2).bind fun bt698 => (some (bt698.1, bt698.2.1, bt698.2.2))))))))))
theorem frac_Mul.mono : ∀ a0 a1 a2 a3 k, LeO (frac_Mul.f k a0 a1 a2 a3) (frac_Mul.f (k + 1) a0 a1 a2 a3) := by
  intro a0 a1 a2 a3 k
  unfold frac_Mul.f
  repeat' with_reducible first | exact frac_norm.mono _ _ _ | exact frac_reduced.mono _ _ _ _ _ _ _ | exact LeO.refl _ | exact LeO.none _ | refine LeO.ite ?_ ?_ | refine LeO.bind ?_ (fun _ => ?_)
/-! ### carrefourlaw02_sum_fn10: function 900002 -/
def carrefourlaw02_sum_fn10.f (k : Nat) (a0_0 : Int) (a0_1 : Int) (a0_2 : Int) (a0_3 : Int) (a0_4 : Int) (a0_5 : Int) : Option (Bool) := (frac_Add.f k a0_0 a0_1 a0_2 a0_3).bind fun bt702 => ((frac_Add.f k bt702.1 bt702.2.1 a0_4 a0_5).bind fun bt706 => ((frac_Add.f k a0_2 a0_3 a0_4 a0_5).bind fun bt710 => ((frac_Add.f k a0_0 a0_1 bt710.1 bt710.2.1).bind fun bt714 => (if bt702.2.2 = 0 then (if bt706.2.2 = 0 then (if bt710.2.2 = 0 then (if bt714.2.2 = 0 then ((frac_Add.f k a0_2 a0_3 a0_0 a0_1).bind fun bt718 => (if (bt706.1 == bt714.1 && (bt706.2.1 == bt714.2.1)) = true then (if (bt718.1 == bt702.1 && (bt718.2.1 == bt702.2.1)) = true then (some (bt718.2.2 == 0)) else (some false)) else (some false))) else (some true)) else (some true)) else (some true)) else (some true)))))
theorem carrefourlaw02_sum_fn10.mono : ∀ a0 a1 a2 a3 a4 a5 k, LeO (carrefourlaw02_sum_fn10.f k a0 a1 a2 a3 a4 a5) (carrefourlaw02_sum_fn10.f (k + 1) a0 a1 a2 a3 a4 a5) := by
  intro a0 a1 a2 a3 a4 a5 k
  unfold carrefourlaw02_sum_fn10.f
  repeat' with_reducible first | exact frac_Add.mono _ _ _ _ _ | exact LeO.refl _ | exact LeO.none _ | refine LeO.ite ?_ ?_ | refine LeO.bind ?_ (fun _ => ?_)
/-! ### carrefourlaw02_sum_fn21: function 900003 -/
def carrefourlaw02_sum_fn21.f (k : Nat) (a0_0 : Int) (a0_1 : Int) (a0_2 : Int) (a0_3 : Int) (a0_4 : Int) (a0_5 : Int) : Option (Bool) := (frac_Mul.f k a0_0 a0_1 a0_2 a0_3).bind fun bt723 => ((frac_Mul.f k bt723.1 bt723.2.1 a0_4 a0_5).bind fun bt727 => ((frac_Mul.f k a0_2 a0_3 a0_4 a0_5).bind fun bt731 => ((frac_Mul.f k a0_0 a0_1 bt731.1 bt731.2.1).bind fun bt735 => (if bt723.2.2 = 0 then (if bt727.2.2 = 0 then (if bt731.2.2 = 0 then (if bt735.2.2 = 0 then ((frac_Mul.f k a0_2 a0_3 a0_0 a0_1).bind fun bt739 => (if (bt727.1 == bt735.1 && (bt727.2.1 == bt735.2.1)) = true then (if (bt739.1 == bt723.1 && (bt739.2.1 == bt723.2.1)) = true then (some (bt739.2.2 == 0)) else (some false)) else (some false))) else (some true)) else (some true)) else (some true)) else (some true)))))
theorem carrefourlaw02_sum_fn21.mono : ∀ a0 a1 a2 a3 a4 a5 k, LeO (carrefourlaw02_sum_fn21.f k a0 a1 a2 a3 a4 a5) (carrefourlaw02_sum_fn21.f (k + 1) a0 a1 a2 a3 a4 a5) := by
  intro a0 a1 a2 a3 a4 a5 k
  unfold carrefourlaw02_sum_fn21.f
  repeat' with_reducible first | exact frac_Mul.mono _ _ _ _ _ | exact LeO.refl _ | exact LeO.none _ | refine LeO.ite ?_ ?_ | refine LeO.bind ?_ (fun _ => ?_)
/-! ### carrefourlaw02_FracRing: function 5 -/
mutual
def carrefourlaw02_FracRing.j0 : Nat → Bool → Int → Int → Int → Int → Int → Int → Option (Bool)
  | 0, _, _, _, _, _, _, _ => none
  | k + 1, x22, x744000, x744001, x744002, x744003, x744004, x744005 => if x22 = true then (some false) else ((frac_Add.f k x744000 x744001 x744002 x744003).bind fun bt746 => ((frac_Mul.f k bt746.1 bt746.2.1 x744004 x744005).bind fun bt750 => ((frac_Mul.f k x744000 x744001 x744004 x744005).bind fun bt754 => ((frac_Mul.f k x744002 x744003 x744004 x744005).bind fun bt758 => ((frac_Add.f k bt754.1 bt754.2.1 bt758.1 bt758.2.1).bind fun bt762 => (if bt746.2.2 = 0 then (if bt750.2.2 = 0 then (if bt754.2.2 = 0 then (if bt758.2.2 = 0 then (if bt762.2.2 = 0 then (carrefourlaw02_FracRing.j1 k bt746.2.2 (!(bt750.1 == bt762.1) || (!(bt750.2.1 == bt762.2.1))) x744000 x744001 x744002 x744003 x744004 x744005 bt746.1 bt746.2.1) else (carrefourlaw02_FracRing.j1 k bt746.2.2 false x744000 x744001 x744002 x744003 x744004 x744005 bt746.1 bt746.2.1)) else (carrefourlaw02_FracRing.j1 k bt746.2.2 false x744000 x744001 x744002 x744003 x744004 x744005 bt746.1 bt746.2.1)) else (carrefourlaw02_FracRing.j1 k bt746.2.2 false x744000 x744001 x744002 x744003 x744004 x744005 bt746.1 bt746.2.1)) else (carrefourlaw02_FracRing.j1 k bt746.2.2 false x744000 x744001 x744002 x744003 x744004 x744005 bt746.1 bt746.2.1)) else (carrefourlaw02_FracRing.j1 k bt746.2.2 false x744000 x744001 x744002 x744003 x744004 x744005 bt746.1 bt746.2.1)))))))
def carrefourlaw02_FracRing.j1 : Nat → Int → Bool → Int → Int → Int → Int → Int → Int → Int → Int → Option (Bool)
  | 0, _, _, _, _, _, _, _, _, _, _ => none
  | k + 1, x4, x82, x744000, x744001, x744002, x744003, x744004, x744005, x750000, x750001 => if x82 = true then (some false) else ((frac_Sub.f k x750000 x750001 x744002 x744003).bind fun bt766 => (if x4 = 0 then (if bt766.2.2 = 0 then ((frac_Right.f k x744000 x744001).bind fun t770 => (if t770 = true then (if (!(bt766.1 == x744000) || (!(bt766.2.1 == x744001))) = true then (some false) else ((carrefourlaw02_awake.f k).bind fun t771 => (some t771))) else ((carrefourlaw02_awake.f k).bind fun t772 => (some t772)))) else ((carrefourlaw02_awake.f k).bind fun t773 => (some t773))) else ((carrefourlaw02_awake.f k).bind fun t774 => (some t774))))
end
def carrefourlaw02_FracRing.f (k : Nat) (a0_0 : Int) (a0_1 : Int) (a0_2 : Int) (a0_3 : Int) (a0_4 : Int) (a0_5 : Int) : Option (Bool) := (carrefourlaw02_sum_fn10.f k a0_0 a0_1 a0_2 a0_3 a0_4 a0_5).bind fun t744 => (if t744 = true then ((carrefourlaw02_sum_fn21.f k a0_0 a0_1 a0_2 a0_3 a0_4 a0_5).bind fun t745 => (carrefourlaw02_FracRing.j0 k (!t745) a0_0 a0_1 a0_2 a0_3 a0_4 a0_5)) else (carrefourlaw02_FracRing.j0 k true a0_0 a0_1 a0_2 a0_3 a0_4 a0_5))
theorem carrefourlaw02_FracRing.mono_l : ∀ k, (∀ y0 y1 y2 y3 y4 y5 y6, LeO (carrefourlaw02_FracRing.j0 k y0 y1 y2 y3 y4 y5 y6) (carrefourlaw02_FracRing.j0 (k + 1) y0 y1 y2 y3 y4 y5 y6)) ∧ (∀ y0 y1 y2 y3 y4 y5 y6 y7 y8 y9, LeO (carrefourlaw02_FracRing.j1 k y0 y1 y2 y3 y4 y5 y6 y7 y8 y9) (carrefourlaw02_FracRing.j1 (k + 1) y0 y1 y2 y3 y4 y5 y6 y7 y8 y9))
  | 0 => ⟨fun _ _ _ _ _ _ _ r h => by simp [carrefourlaw02_FracRing.j0] at h, fun _ _ _ _ _ _ _ _ _ _ r h => by simp [carrefourlaw02_FracRing.j1] at h⟩
  | k + 1 => by
    obtain ⟨ih0, ih1⟩ := carrefourlaw02_FracRing.mono_l k
    refine ⟨?_, ?_⟩
    · intro y0 y1 y2 y3 y4 y5 y6
      unfold carrefourlaw02_FracRing.j0
      repeat' with_reducible first | exact ih0 _ _ _ _ _ _ _ | exact ih1 _ _ _ _ _ _ _ _ _ _ | exact carrefourlaw02_awake.mono _ | exact carrefourlaw02_sum_fn10.mono _ _ _ _ _ _ _ | exact carrefourlaw02_sum_fn21.mono _ _ _ _ _ _ _ | exact frac_Add.mono _ _ _ _ _ | exact frac_Mul.mono _ _ _ _ _ | exact frac_Right.mono _ _ _ | exact frac_Sub.mono _ _ _ _ _ | exact LeO.refl _ | exact LeO.none _ | refine LeO.ite ?_ ?_ | refine LeO.bind ?_ (fun _ => ?_)
    · intro y0 y1 y2 y3 y4 y5 y6 y7 y8 y9
      unfold carrefourlaw02_FracRing.j1
      repeat' with_reducible first | exact ih0 _ _ _ _ _ _ _ | exact ih1 _ _ _ _ _ _ _ _ _ _ | exact carrefourlaw02_awake.mono _ | exact carrefourlaw02_sum_fn10.mono _ _ _ _ _ _ _ | exact carrefourlaw02_sum_fn21.mono _ _ _ _ _ _ _ | exact frac_Add.mono _ _ _ _ _ | exact frac_Mul.mono _ _ _ _ _ | exact frac_Right.mono _ _ _ | exact frac_Sub.mono _ _ _ _ _ | exact LeO.refl _ | exact LeO.none _ | refine LeO.ite ?_ ?_ | refine LeO.bind ?_ (fun _ => ?_)
theorem carrefourlaw02_FracRing.mono : ∀ a0 a1 a2 a3 a4 a5 k, LeO (carrefourlaw02_FracRing.f k a0 a1 a2 a3 a4 a5) (carrefourlaw02_FracRing.f (k + 1) a0 a1 a2 a3 a4 a5) := by
  intro a0 a1 a2 a3 a4 a5 k
  obtain ⟨ih0, ih1⟩ := carrefourlaw02_FracRing.mono_l k
  unfold carrefourlaw02_FracRing.f
  repeat' with_reducible first | exact ih0 _ _ _ _ _ _ _ | exact ih1 _ _ _ _ _ _ _ _ _ _ | exact carrefourlaw02_awake.mono _ | exact carrefourlaw02_sum_fn10.mono _ _ _ _ _ _ _ | exact carrefourlaw02_sum_fn21.mono _ _ _ _ _ _ _ | exact frac_Add.mono _ _ _ _ _ | exact frac_Mul.mono _ _ _ _ _ | exact frac_Right.mono _ _ _ | exact frac_Sub.mono _ _ _ _ _ | exact LeO.refl _ | exact LeO.none _ | refine LeO.ite ?_ ?_ | refine LeO.bind ?_ (fun _ => ?_)
/-! ### carrefourref02_Mul: function 22 -/
def carrefourref02_Mul.f (k : Nat) (a0_0 : Int) (a0_1 : Int) (a1_0 : Int) (a1_1 : Int) : Option (Int × Int × Int) := (carrefourref02_Norm.f k a0_0 a0_1).bind fun bt778 => ((carrefourref02_Norm.f k a1_0 a1_1).bind fun bt780 => ((carrefourref02_few.f bt778.1 bt778.2 bt780.1 bt780.2).bind fun t782 => (if t782 = true then ((carrefourref02_Of.f k (wrap64 (bt778.1 * bt780.1)) (wrap64 (bt778.2 * bt780.2))).bind fun bt783 => (some (bt783.1, bt783.2.1, bt783.2.2))) else ((carrefourref01_Size.f bt778.1).bind fun t786 => ((carrefourref01_Size.f bt780.1).bind fun t787 => ((carrefourref01_Times.f k t786 t787).bind fun t788 => ((carrefourref02_trim.f k t788).bind fun t791 => ((carrefourref01_Times.f k (IntKind.u64.wrap (bt778.2)) (IntKind.u64.wrap (bt780.2))).bind fun t794 => ((carrefourref02_trim.f k t794).bind fun t797 => ((carrefourref02_lowest.f k t791 t797 ((decide (bt778.1 < 0)) != (decide (bt780.1 < 0)))).bind fun bt800 => (some (bt800.1, bt800.2.1, bt800.2.2))))))))))))
theorem carrefourref02_Mul.mono : ∀ a0 a1 a2 a3 k, LeO (carrefourref02_Mul.f k a0 a1 a2 a3) (carrefourref02_Mul.f (k + 1) a0 a1 a2 a3) := by
  intro a0 a1 a2 a3 k
  unfold carrefourref02_Mul.f
  repeat' with_reducible first | exact carrefourref01_Times.mono _ _ _ | exact carrefourref02_Norm.mono _ _ _ | exact carrefourref02_Of.mono _ _ _ | exact carrefourref02_lowest.mono _ _ _ _ | exact carrefourref02_trim.mono _ _ | exact LeO.refl _ | exact LeO.none _ | refine LeO.ite ?_ ?_ | refine LeO.bind ?_ (fun _ => ?_)
/-! ### frac_Div: function 23 -/
def frac_Div.f (k : Nat) (a0_0 : Int) (a0_1 : Int) (a1_0 : Int) (a1_1 : Int) : Option (Int × Int × Int) := (frac_norm.f k a0_0 a0_1).bind fun bt806 => ((frac_norm.f k a1_0 a1_1).bind fun bt808 => (if bt808.1 = 0 then (some (0, 0, 3)) else ((frac_sized.f bt806.1).bind fun bt810 => ((frac_sized.f bt808.2).bind fun bt813 => ((frac_signed_times.f bt810.1 bt810.2.1 bt810.2.2 bt813.1 bt813.2.1 bt813.2.2).bind fun bt816 => ((frac_sized.f bt806.2).bind fun bt819 => ((frac_sized.f bt808.1).bind fun bt822 => ((frac_signed_times.f bt819.1 bt819.2.1 bt819.2.2 bt822.1 bt822.2.1 bt822.2.2).bind fun bt825 => ((frac_reduced.f k bt816.1 bt816.2.1 bt816.2.2 bt825.1 bt825.2.1 bt825.2.2).bind fun bt828 => (some (bt828.1, bt828.2.1, bt828.2.2)))))))))))
theorem frac_Div.mono : ∀ a0 a1 a2 a3 k, LeO (frac_Div.f k a0 a1 a2 a3) (frac_Div.f (k + 1) a0 a1 a2 a3) := by
  intro a0 a1 a2 a3 k
  unfold frac_Div.f
  repeat' with_reducible first | exact frac_norm.mono _ _ _ | exact frac_reduced.mono _ _ _ _ _ _ _ | exact LeO.refl _ | exact LeO.none _ | refine LeO.ite ?_ ?_ | refine LeO.bind ?_ (fun _ => ?_)
/-! ### carrefourref02_Div: function 24 -/
def carrefourref02_Div.f (k : Nat) (a0_0 : Int) (a0_1 : Int) (a1_0 : Int) (a1_1 : Int) : Option (Int × Int × Int) := (carrefourref02_Norm.f k a0_0 a0_1).bind fun bt834 => ((carrefourref02_Norm.f k a1_0 a1_1).bind fun bt836 => (if bt836.1 = 0 then (some (0, 0, 3)) else ((carrefourref02_few.f bt834.1 bt834.2 bt836.1 bt836.2).bind fun t838 => (if t838 = true then ((carrefourref02_Of.f k (wrap64 (bt834.1 * bt836.2)) (wrap64 (bt834.2 * bt836.1))).bind fun bt839 => (some (bt839.1, bt839.2.1, bt839.2.2))) else ((carrefourref01_Size.f bt834.1).bind fun t842 => ((carrefourref01_Times.f k t842 (IntKind.u64.wrap (bt836.2))).bind fun t843 => ((carrefourref02_trim.f k t843).bind fun t846 => ((carrefourref01_Size.f bt836.1).bind fun t849 => ((carrefourref01_Times.f k (IntKind.u64.wrap (bt834.2)) t849).bind fun t850 => ((carrefourref02_trim.f k t850).bind fun t853 => ((carrefourref02_lowest.f k t846 t853 ((decide (bt834.1 < 0)) != (decide (bt836.1 < 0)))).bind fun bt856 => (some (bt856.1, bt856.2.1, bt856.2.2)))))))))))))
theorem carrefourref02_Div.mono : ∀ a0 a1 a2 a3 k, LeO (carrefourref02_Div.f k a0 a1 a2 a3) (carrefourref02_Div.f (k + 1) a0 a1 a2 a3) := by
  intro a0 a1 a2 a3 k
  unfold carrefourref02_Div.f
  repeat' with_reducible first | exact carrefourref01_Times.mono _ _ _ | exact carrefourref02_Norm.mono _ _ _ | exact carrefourref02_Of.mono _ _ _ | exact carrefourref02_lowest.mono _ _ _ _ | exact carrefourref02_trim.mono _ _ | exact LeO.refl _ | exact LeO.none _ | refine LeO.ite ?_ ?_ | refine LeO.bind ?_ (fun _ => ?_)
/-! ### carrefourlaw02_FracProducts: function 6 -/
def carrefourlaw02_FracProducts.f (k : Nat) (a0_0 : Int) (a0_1 : Int) (a1_0 : Int) (a1_1 : Int) : Option (Bool) := (frac_Mul.f k a0_0 a0_1 a1_0 a1_1).bind fun bt861 => ((carrefourref02_Mul.f k a0_0 a0_1 a1_0 a1_1).bind fun bt865 => ((frac_Div.f k a0_0 a0_1 a1_0 a1_1).bind fun bt869 => ((carrefourref02_Div.f k a0_0 a0_1 a1_0 a1_1).bind fun bt873 => ((carrefourlaw02_same.f bt861.1 bt861.2.1 bt861.2.2 bt865.1 bt865.2.1 bt865.2.2).bind fun t877 => (if t877 = true then ((carrefourlaw02_same.f bt869.1 bt869.2.1 bt869.2.2 bt873.1 bt873.2.1 bt873.2.2).bind fun t878 => (if t878 = true then ((carrefourlaw02_awake.f k).bind fun t879 => (some t879)) else (some false))) else (some false))))))
theorem carrefourlaw02_FracProducts.mono : ∀ a0 a1 a2 a3 k, LeO (carrefourlaw02_FracProducts.f k a0 a1 a2 a3) (carrefourlaw02_FracProducts.f (k + 1) a0 a1 a2 a3) := by
  intro a0 a1 a2 a3 k
  unfold carrefourlaw02_FracProducts.f
  repeat' with_reducible first | exact carrefourlaw02_awake.mono _ | exact carrefourref02_Div.mono _ _ _ _ _ | exact carrefourref02_Mul.mono _ _ _ _ _ | exact frac_Div.mono _ _ _ _ _ | exact frac_Mul.mono _ _ _ _ _ | exact LeO.refl _ | exact LeO.none _ | refine LeO.ite ?_ ?_ | refine LeO.bind ?_ (fun _ => ?_)
/-! ### whole_sign: function 80 -/
def whole_sign.j0 : Nat → Int → Int → Bool → Option (Int)
  | 0, _, _, _ => none
  | k + 1, x0, x1, x5 => if x5 = true then (some 0) else (if ((decide (x0 < 0)) != (decide (x1 < 0))) = true then (some (-1)) else (some 1))
def whole_sign.f (k : Nat) (a0 : Int) (a1 : Int) : Option (Int) := if a0 = 0 then (whole_sign.j0 k a0 a1 true) else (whole_sign.j0 k a0 a1 (a1 == 0))
theorem whole_sign.mono_l : ∀ k, (∀ y0 y1 y2, LeO (whole_sign.j0 k y0 y1 y2) (whole_sign.j0 (k + 1) y0 y1 y2))
  | 0 => fun _ _ _ r h => by simp [whole_sign.j0] at h
  | k + 1 => by
    have ih0 := whole_sign.mono_l k
    · intro y0 y1 y2
      unfold whole_sign.j0
      repeat' with_reducible first | exact ih0 _ _ _ | exact LeO.refl _ | exact LeO.none _ | refine LeO.ite ?_ ?_ | refine LeO.bind ?_ (fun _ => ?_)
theorem whole_sign.mono : ∀ a0 a1 k, LeO (whole_sign.f k a0 a1) (whole_sign.f (k + 1) a0 a1) := by
  intro a0 a1 k
  have ih0 := whole_sign.mono_l k
  unfold whole_sign.f
  repeat' with_reducible first | exact ih0 _ _ _ | exact LeO.refl _ | exact LeO.none _ | refine LeO.ite ?_ ?_ | refine LeO.bind ?_ (fun _ => ?_)
/-! ### whole_product: function 81 -/
def whole_product.f (a0 : Int) (a1 : Int) : Option (Int × Int) := (whole_size.f a0).bind fun t881 => ((whole_size.f a1).bind fun t882 => ((bits_Mul64.f t881 t882).bind fun bt883 => (some (bt883.1, bt883.2))))
/-! ### whole_double_less: function 82 -/
def whole_double_less.f (a0_0 : Int) (a0_1 : Int) (a1_0 : Int) (a1_1 : Int) : Option (Bool) := if a0_0 < a1_0 then (some true) else (if a0_0 = a1_0 then (some (decide (a0_1 < a1_1))) else (some false))
/-! ### whole_Compare: function 58 -/
def whole_Compare.f (k : Nat) (a0 : Int) (a1 : Int) (a2 : Int) (a3 : Int) : Option (Int) := (whole_sign.f k a0 a1).bind fun t887 => ((whole_sign.f k a2 a3).bind fun t888 => ((whole_product.f a0 a1).bind fun bt889 => ((whole_product.f a2 a3).bind fun bt891 => (if t887 = t888 then (if (bt889.1 == bt891.1 && (bt889.2 == bt891.2)) = true then (some 0) else ((whole_double_less.f bt889.1 bt889.2 bt891.1 bt891.2).bind fun t895 => (if t895 = true then (some (wrap64 (-t887))) else (some t887)))) else (some (mx (-1) (mn 1 (wrap64 (t887 - t888)))))))))
theorem whole_Compare.mono : ∀ a0 a1 a2 a3 k, LeO (whole_Compare.f k a0 a1 a2 a3) (whole_Compare.f (k + 1) a0 a1 a2 a3) := by
  intro a0 a1 a2 a3 k
  unfold whole_Compare.f
  repeat' with_reducible first | exact whole_sign.mono _ _ _ | exact LeO.refl _ | exact LeO.none _ | refine LeO.ite ?_ ?_ | refine LeO.bind ?_ (fun _ => ?_)
/-! ### frac_Cmp: function 25 -/
def frac_Cmp.f (k : Nat) (a0_0 : Int) (a0_1 : Int) (a1_0 : Int) (a1_1 : Int) : Option (Int) := (frac_norm.f k a0_0 a0_1).bind fun bt898 => ((frac_norm.f k a1_0 a1_1).bind fun bt900 => ((whole_Compare.f k bt898.1 bt900.2 bt900.1 bt898.2).bind fun t902 => (some t902)))
theorem frac_Cmp.mono : ∀ a0 a1 a2 a3 k, LeO (frac_Cmp.f k a0 a1 a2 a3) (frac_Cmp.f (k + 1) a0 a1 a2 a3) := by
  intro a0 a1 a2 a3 k
  unfold frac_Cmp.f
  repeat' with_reducible first | exact frac_norm.mono _ _ _ | exact whole_Compare.mono _ _ _ _ _ | exact LeO.refl _ | exact LeO.none _ | refine LeO.ite ?_ ?_ | refine LeO.bind ?_ (fun _ => ?_)
/-! ### carrefourref01_sign: function 83 -/
def carrefourref01_sign.j0 : Nat → Int → Int → Bool → Option (Int)
  | 0, _, _, _ => none
  | k + 1, x0, x1, x10 => if x10 = true then (some 0) else (if ((decide (x0 < 0)) != (decide (x1 < 0))) = true then (some (-1)) else (some 1))
def carrefourref01_sign.f (k : Nat) (a0 : Int) (a1 : Int) : Option (Int) := if a0 = 0 then (carrefourref01_sign.j0 k a0 a1 true) else (carrefourref01_sign.j0 k a0 a1 (a1 == 0))
theorem carrefourref01_sign.mono_l : ∀ k, (∀ y0 y1 y2, LeO (carrefourref01_sign.j0 k y0 y1 y2) (carrefourref01_sign.j0 (k + 1) y0 y1 y2))
  | 0 => fun _ _ _ r h => by simp [carrefourref01_sign.j0] at h
  | k + 1 => by
    have ih0 := carrefourref01_sign.mono_l k
    · intro y0 y1 y2
      unfold carrefourref01_sign.j0
      repeat' with_reducible first | exact ih0 _ _ _ | exact LeO.refl _ | exact LeO.none _ | refine LeO.ite ?_ ?_ | refine LeO.bind ?_ (fun _ => ?_)
theorem carrefourref01_sign.mono : ∀ a0 a1 k, LeO (carrefourref01_sign.f k a0 a1) (carrefourref01_sign.f (k + 1) a0 a1) := by
  intro a0 a1 k
  have ih0 := carrefourref01_sign.mono_l k
  unfold carrefourref01_sign.f
  repeat' with_reducible first | exact ih0 _ _ _ | exact LeO.refl _ | exact LeO.none _ | refine LeO.ite ?_ ?_ | refine LeO.bind ?_ (fun _ => ?_)
/-! ### carrefourref01_Compare: function 59 -/
def carrefourref01_Compare.j0 : Nat → Int → Int → Int → Int → Int → Bool → Option (Int)
  | 0, _, _, _, _, _, _ => none
  | k + 1, x0, x1, x2, x3, x9, x40 => if x40 = true then (if (wrap64 (x0 * x1)) < (wrap64 (x2 * x3)) then (some (-1)) else (if (wrap64 (x0 * x1)) > (wrap64 (x2 * x3)) then (some 1) else (some 0))) else ((carrefourref01_Size.f x0).bind fun t909 => ((carrefourref01_Size.f x1).bind fun t910 => ((carrefourref01_Times.f k t909 t910).bind fun t911 => ((carrefourref01_Size.f x2).bind fun t914 => ((carrefourref01_Size.f x3).bind fun t915 => ((carrefourref01_Times.f k t914 t915).bind fun t916 => ((carrefourref01_Order.f k t911 t916).bind fun t919 => (some (wrap64 (x9 * t919))))))))))
def carrefourref01_Compare.f (k : Nat) (a0 : Int) (a1 : Int) (a2 : Int) (a3 : Int) : Option (Int) := (carrefourref01_sign.f k a0 a1).bind fun t903 => ((carrefourref01_sign.f k a2 a3).bind fun t904 => (if t903 < t904 then (some (-1)) else (if t903 > t904 then (some 1) else ((carrefourref01_Size.f a0).bind fun t905 => (if t905 < 2147483648 then ((carrefourref01_Size.f a1).bind fun t906 => (if t906 < 2147483648 then ((carrefourref01_Size.f a2).bind fun t907 => (if t907 < 2147483648 then ((carrefourref01_Size.f a3).bind fun t908 => (carrefourref01_Compare.j0 k a0 a1 a2 a3 t903 (decide (t908 < 2147483648)))) else (carrefourref01_Compare.j0 k a0 a1 a2 a3 t903 false))) else (carrefourref01_Compare.j0 k a0 a1 a2 a3 t903 false))) else (carrefourref01_Compare.j0 k a0 a1 a2 a3 t903 false))))))
theorem carrefourref01_Compare.mono_l : ∀ k, (∀ y0 y1 y2 y3 y4 y5, LeO (carrefourref01_Compare.j0 k y0 y1 y2 y3 y4 y5) (carrefourref01_Compare.j0 (k + 1) y0 y1 y2 y3 y4 y5))
  | 0 => fun _ _ _ _ _ _ r h => by simp [carrefourref01_Compare.j0] at h
  | k + 1 => by
    have ih0 := carrefourref01_Compare.mono_l k
    · intro y0 y1 y2 y3 y4 y5
      unfold carrefourref01_Compare.j0
      repeat' with_reducible first | exact ih0 _ _ _ _ _ _ | exact carrefourref01_Order.mono _ _ _ | exact carrefourref01_Times.mono _ _ _ | exact carrefourref01_sign.mono _ _ _ | exact LeO.refl _ | exact LeO.none _ | refine LeO.ite ?_ ?_ | refine LeO.bind ?_ (fun _ => ?_)
theorem carrefourref01_Compare.mono : ∀ a0 a1 a2 a3 k, LeO (carrefourref01_Compare.f k a0 a1 a2 a3) (carrefourref01_Compare.f (k + 1) a0 a1 a2 a3) := by
  intro a0 a1 a2 a3 k
  have ih0 := carrefourref01_Compare.mono_l k
  unfold carrefourref01_Compare.f
  repeat' with_reducible first | exact ih0 _ _ _ _ _ _ | exact carrefourref01_Order.mono _ _ _ | exact carrefourref01_Times.mono _ _ _ | exact carrefourref01_sign.mono _ _ _ | exact LeO.refl _ | exact LeO.none _ | refine LeO.ite ?_ ?_ | refine LeO.bind ?_ (fun _ => ?_)
/-! ### carrefourref02_Cmp: function 26 -/
def carrefourref02_Cmp.f (k : Nat) (a0_0 : Int) (a0_1 : Int) (a1_0 : Int) (a1_1 : Int) : Option (Int) := (carrefourref02_Norm.f k a0_0 a0_1).bind fun bt922 => ((carrefourref02_Norm.f k a1_0 a1_1).bind fun bt924 => ((carrefourref01_Compare.f k bt922.1 bt924.2 bt924.1 bt922.2).bind fun t926 => (some t926)))
theorem carrefourref02_Cmp.mono : ∀ a0 a1 a2 a3 k, LeO (carrefourref02_Cmp.f k a0 a1 a2 a3) (carrefourref02_Cmp.f (k + 1) a0 a1 a2 a3) := by
  intro a0 a1 a2 a3 k
  unfold carrefourref02_Cmp.f
  repeat' with_reducible first | exact carrefourref01_Compare.mono _ _ _ _ _ | exact carrefourref02_Norm.mono _ _ _ | exact LeO.refl _ | exact LeO.none _ | refine LeO.ite ?_ ?_ | refine LeO.bind ?_ (fun _ => ?_)
/-! ### carrefourref01_Floor: function 61 -/
def carrefourref01_Floor.j0 : Nat → Int → Int → Bool → Option (Int × Int)
  | 0, _, _, _ => none
  | k + 1, x0, x1, x14 => if x14 = true then (some (0, 2)) else (if x1 = 0 then (none) else (if (Int.tmod x0 x1) = 0 then (some (wrap64 (Int.tdiv x0 x1), 0)) else (if ((decide (x0 < 0)) != (decide (x1 < 0))) = true then (some (wrap64 ((wrap64 (Int.tdiv x0 x1)) - 1), 0)) else (some (wrap64 (Int.tdiv x0 x1), 0)))))
def carrefourref01_Floor.f (k : Nat) (a0 : Int) (a1 : Int) : Option (Int × Int) := if a1 = 0 then (some (0, 3)) else (if a0 = (-9223372036854775808) then (carrefourref01_Floor.j0 k a0 a1 (a1 == (-1))) else (carrefourref01_Floor.j0 k a0 a1 false))
theorem carrefourref01_Floor.mono_l : ∀ k, (∀ y0 y1 y2, LeO (carrefourref01_Floor.j0 k y0 y1 y2) (carrefourref01_Floor.j0 (k + 1) y0 y1 y2))
  | 0 => fun _ _ _ r h => by simp [carrefourref01_Floor.j0] at h
  | k + 1 => by
    have ih0 := carrefourref01_Floor.mono_l k
    · intro y0 y1 y2
      unfold carrefourref01_Floor.j0
      repeat' with_reducible first | exact ih0 _ _ _ | exact LeO.refl _ | exact LeO.none _ | refine LeO.ite ?_ ?_ | refine LeO.bind ?_ (fun _ => ?_)
theorem carrefourref01_Floor.mono : ∀ a0 a1 k, LeO (carrefourref01_Floor.f k a0 a1) (carrefourref01_Floor.f (k + 1) a0 a1) := by
  intro a0 a1 k
  have ih0 := carrefourref01_Floor.mono_l k
  unfold carrefourref01_Floor.f
  repeat' with_reducible first | exact ih0 _ _ _ | exact LeO.refl _ | exact LeO.none _ | refine LeO.ite ?_ ?_ | refine LeO.bind ?_ (fun _ => ?_)
/-! ### carrefourref02_Floor: function 28 -/
def carrefourref02_Floor.f (k : Nat) (a0_0 : Int) (a0_1 : Int) : Option (Int) := (carrefourref02_Norm.f k a0_0 a0_1).bind fun bt928 => ((carrefourref01_Floor.f k bt928.1 bt928.2).bind fun bt930 => (some bt930.1))
theorem carrefourref02_Floor.mono : ∀ a0 a1 k, LeO (carrefourref02_Floor.f k a0 a1) (carrefourref02_Floor.f (k + 1) a0 a1) := by
  intro a0 a1 k
  unfold carrefourref02_Floor.f
  repeat' with_reducible first | exact carrefourref01_Floor.mono _ _ _ | exact carrefourref02_Norm.mono _ _ _ | exact LeO.refl _ | exact LeO.none _ | refine LeO.ite ?_ ?_ | refine LeO.bind ?_ (fun _ => ?_)
/-! ### whole_Ceil: function 62 -/
def whole_Ceil.f (a0 : Int) (a1 : Int) : Option (Int × Int) := if a1 = 0 then (some (0, 3)) else (if a1 = (-1) then ((whole_Neg.f a0).bind fun bt932 => (some (bt932.1, bt932.2))) else (if (Int.tmod a0 a1) = 0 then (some (wrap64 (Int.tdiv a0 a1), 0)) else (if ((decide ((Int.tmod a0 a1) < 0)) == (decide (a1 < 0))) = true then (some (wrap64 ((wrap64 (Int.tdiv a0 a1)) + 1), 0)) else (some (wrap64 (Int.tdiv a0 a1), 0)))))
/-! ### frac_Ceil: function 29 -/
def frac_Ceil.f (k : Nat) (a0_0 : Int) (a0_1 : Int) : Option (Int) := (frac_norm.f k a0_0 a0_1).bind fun bt935 => ((whole_Ceil.f bt935.1 bt935.2).bind fun bt937 => (some bt937.1))
theorem frac_Ceil.mono : ∀ a0 a1 k, LeO (frac_Ceil.f k a0 a1) (frac_Ceil.f (k + 1) a0 a1) := by
  intro a0 a1 k
  unfold frac_Ceil.f
  repeat' with_reducible first | exact frac_norm.mono _ _ _ | exact LeO.refl _ | exact LeO.none _ | refine LeO.ite ?_ ?_ | refine LeO.bind ?_ (fun _ => ?_)
/-! ### carrefourref01_Ceil: function 63 -/
def carrefourref01_Ceil.f (k : Nat) (a0 : Int) (a1 : Int) : Option (Int × Int) := (carrefourref01_Floor.f k a0 a1).bind fun bt939 => (if bt939.2 = 0 then (if a1 = 0 then (none) else (if (Int.tmod a0 a1) = 0 then (some (bt939.1, bt939.2)) else (some (wrap64 (bt939.1 + 1), bt939.2)))) else (some (bt939.1, bt939.2)))
theorem carrefourref01_Ceil.mono : ∀ a0 a1 k, LeO (carrefourref01_Ceil.f k a0 a1) (carrefourref01_Ceil.f (k + 1) a0 a1) := by
  intro a0 a1 k
  unfold carrefourref01_Ceil.f
  repeat' with_reducible first | exact carrefourref01_Floor.mono _ _ _ | exact LeO.refl _ | exact LeO.none _ | refine LeO.ite ?_ ?_ | refine LeO.bind ?_ (fun _ => ?_)
/-! ### carrefourref02_Ceil: function 30 -/
def carrefourref02_Ceil.f (k : Nat) (a0_0 : Int) (a0_1 : Int) : Option (Int) := (carrefourref02_Norm.f k a0_0 a0_1).bind fun bt942 => ((carrefourref01_Ceil.f k bt942.1 bt942.2).bind fun bt944 => (some bt944.1))
theorem carrefourref02_Ceil.mono : ∀ a0 a1 k, LeO (carrefourref02_Ceil.f k a0 a1) (carrefourref02_Ceil.f (k + 1) a0 a1) := by
  intro a0 a1 k
  unfold carrefourref02_Ceil.f
  repeat' with_reducible first | exact carrefourref01_Ceil.mono _ _ _ | exact carrefourref02_Norm.mono _ _ _ | exact LeO.refl _ | exact LeO.none _ | refine LeO.ite ?_ ?_ | refine LeO.bind ?_ (fun _ => ?_)
/-! ### carrefourref02_Digits: function 65 -/
def carrefourref02_Digits.l0 : Nat → Int → Int → ByteArray → Option (ByteArray)
  | 0, _, _, _ => none
  | k + 1, x0, x3, x4 => if x4.toList = ([] : List UInt8) then ((some (([(IntKind.u64.wrap (48 + (Int.tmod x3 10))) % 256] : List Int) : List Int)).bind fun y947 => (if (strOfNums y947).size + x4.size ≤ 9223372036854775807 then (carrefourref02_Digits.l0 k x0 (IntKind.u64.wrap (Int.tdiv x3 10)) ((strOfNums y947) ++ x4)) else (none))) else (if x3 > 0 then ((some (([(IntKind.u64.wrap (48 + (Int.tmod x3 10))) % 256] : List Int) : List Int)).bind fun y950 => (if (strOfNums y950).size + x4.size ≤ 9223372036854775807 then (carrefourref02_Digits.l0 k x0 (IntKind.u64.wrap (Int.tdiv x3 10)) ((strOfNums y950) ++ x4)) else (none))) else (if x0 < 0 then (if 1 + x4.size ≤ 9223372036854775807 then (some ((⟨#[45]⟩ : ByteArray) ++ x4)) else (none)) else (some x4)))
def carrefourref02_Digits.f (k : Nat) (a0 : Int) : Option (ByteArray) := (carrefourref01_Size.f a0).bind fun t946 => (carrefourref02_Digits.l0 k a0 t946 (⟨#[]⟩ : ByteArray))
theorem carrefourref02_Digits.mono_l : ∀ k, (∀ y0 y1 y2, LeO (carrefourref02_Digits.l0 k y0 y1 y2) (carrefourref02_Digits.l0 (k + 1) y0 y1 y2))
  | 0 => fun _ _ _ r h => by simp [carrefourref02_Digits.l0] at h
  | k + 1 => by
    have ih0 := carrefourref02_Digits.mono_l k
    · intro y0 y1 y2
      unfold carrefourref02_Digits.l0
      repeat' with_reducible first | exact ih0 _ _ _ | exact LeO.refl _ | exact LeO.none _ | refine LeO.ite ?_ ?_ | refine LeO.bind ?_ (fun _ => ?_)
theorem carrefourref02_Digits.mono : ∀ a0 k, LeO (carrefourref02_Digits.f k a0) (carrefourref02_Digits.f (k + 1) a0) := by
  intro a0 k
  have ih0 := carrefourref02_Digits.mono_l k
  unfold carrefourref02_Digits.f
  repeat' with_reducible first | exact ih0 _ _ _ | exact LeO.refl _ | exact LeO.none _ | refine LeO.ite ?_ ?_ | refine LeO.bind ?_ (fun _ => ?_)
/-! ### carrefourref02_Print: function 32 -/
def carrefourref02_Print.f (k : Nat) (a0_0 : Int) (a0_1 : Int) : Option (ByteArray) := (carrefourref02_Norm.f k a0_0 a0_1).bind fun bt954 => ((carrefourref02_Digits.f k bt954.1).bind fun t956 => (if t956.size + 1 ≤ 9223372036854775807 then ((carrefourref02_Digits.f k bt954.2).bind fun t957 => (if (t956 ++ (⟨#[47]⟩ : ByteArray)).size + t957.size ≤ 9223372036854775807 then (some ((t956 ++ (⟨#[47]⟩ : ByteArray)) ++ t957)) else (none))) else (none)))
theorem carrefourref02_Print.mono : ∀ a0 a1 k, LeO (carrefourref02_Print.f k a0 a1) (carrefourref02_Print.f (k + 1) a0 a1) := by
  intro a0 a1 k
  unfold carrefourref02_Print.f
  repeat' with_reducible first | exact carrefourref02_Digits.mono _ _ | exact carrefourref02_Norm.mono _ _ _ | exact LeO.refl _ | exact LeO.none _ | refine LeO.ite ?_ ?_ | refine LeO.bind ?_ (fun _ => ?_)
/-! ### carrefourlaw02_FracOrder: function 7 -/
def carrefourlaw02_FracOrder.f (k : Nat) (a0_0 : Int) (a0_1 : Int) (a1_0 : Int) (a1_1 : Int) : Option (Bool) := (frac_Cmp.f k a0_0 a0_1 a1_0 a1_1).bind fun t960 => ((carrefourref02_Cmp.f k a0_0 a0_1 a1_0 a1_1).bind fun t961 => (if t960 = t961 then ((frac_Cmp.f k a1_0 a1_1 a0_0 a0_1).bind fun t962 => (if t960 = (wrap64 (-t962)) then ((frac_Floor.f k a0_0 a0_1).bind fun t963 => ((carrefourref02_Floor.f k a0_0 a0_1).bind fun t964 => (if t963 = t964 then ((frac_Ceil.f k a0_0 a0_1).bind fun t965 => ((carrefourref02_Ceil.f k a0_0 a0_1).bind fun t966 => (if t965 = t966 then ((frac_Print.f k a0_0 a0_1).bind fun t967 => ((carrefourref02_Print.f k a0_0 a0_1).bind fun t968 => (if t967.toList = t968.toList then ((carrefourlaw02_awake.f k).bind fun t969 => (some t969)) else (some false)))) else (some false)))) else (some false)))) else (some false))) else (some false)))
theorem carrefourlaw02_FracOrder.mono : ∀ a0 a1 a2 a3 k, LeO (carrefourlaw02_FracOrder.f k a0 a1 a2 a3) (carrefourlaw02_FracOrder.f (k + 1) a0 a1 a2 a3) := by
  intro a0 a1 a2 a3 k
  unfold carrefourlaw02_FracOrder.f
  repeat' with_reducible first | exact carrefourlaw02_awake.mono _ | exact carrefourref02_Ceil.mono _ _ _ | exact carrefourref02_Cmp.mono _ _ _ _ _ | exact carrefourref02_Floor.mono _ _ _ | exact carrefourref02_Print.mono _ _ _ | exact frac_Ceil.mono _ _ _ | exact frac_Cmp.mono _ _ _ _ _ | exact frac_Floor.mono _ _ _ | exact frac_Print.mono _ _ _ | exact LeO.refl _ | exact LeO.none _ | refine LeO.ite ?_ ?_ | refine LeO.bind ?_ (fun _ => ?_)
/-! ### carrefourlaw02_FracRound: function 8 -/
def carrefourlaw02_FracRound.j0 : Nat → Int → Int → Bool → Int → Int → Option (Bool)
  | 0, _, _, _, _, _ => none
  | k + 1, x3, x4, x38, x971000, x971001 => if x38 = true then (some false) else (if x971001 = 1 then (if x3 = x971000 then (if x4 = x971000 then ((carrefourlaw02_awake.f k).bind fun t981 => (some t981)) else (some false)) else (some false)) else (if (wrap64 (x4 - x3)) = 1 then ((carrefourlaw02_awake.f k).bind fun t982 => (some t982)) else (some false)))
def carrefourlaw02_FracRound.f (k : Nat) (a0_0 : Int) (a0_1 : Int) : Option (Bool) := (frac_Right.f k a0_0 a0_1).bind fun t971 => (if t971 = true then ((frac_Floor.f k a0_0 a0_1).bind fun t975 => ((frac_Ceil.f k a0_0 a0_1).bind fun t976 => ((frac_Cmp.f k t975 1 a0_0 a0_1).bind fun t979 => (if t979 > 0 then (carrefourlaw02_FracRound.j0 k t975 t976 true a0_0 a0_1) else ((frac_Cmp.f k t976 1 a0_0 a0_1).bind fun t980 => (carrefourlaw02_FracRound.j0 k t975 t976 (decide (t980 < 0)) a0_0 a0_1)))))) else ((frac_Floor.f k a0_0 a0_1).bind fun t972 => (if t972 = 0 then ((frac_Ceil.f k a0_0 a0_1).bind fun t973 => (if t973 = 0 then ((carrefourlaw02_awake.f k).bind fun t974 => (some t974)) else (some false))) else (some false))))
theorem carrefourlaw02_FracRound.mono_l : ∀ k, (∀ y0 y1 y2 y3 y4, LeO (carrefourlaw02_FracRound.j0 k y0 y1 y2 y3 y4) (carrefourlaw02_FracRound.j0 (k + 1) y0 y1 y2 y3 y4))
  | 0 => fun _ _ _ _ _ r h => by simp [carrefourlaw02_FracRound.j0] at h
  | k + 1 => by
    have ih0 := carrefourlaw02_FracRound.mono_l k
    · intro y0 y1 y2 y3 y4
      unfold carrefourlaw02_FracRound.j0
      repeat' with_reducible first | exact ih0 _ _ _ _ _ | exact carrefourlaw02_awake.mono _ | exact frac_Ceil.mono _ _ _ | exact frac_Cmp.mono _ _ _ _ _ | exact frac_Floor.mono _ _ _ | exact frac_Right.mono _ _ _ | exact LeO.refl _ | exact LeO.none _ | refine LeO.ite ?_ ?_ | refine LeO.bind ?_ (fun _ => ?_)
theorem carrefourlaw02_FracRound.mono : ∀ a0 a1 k, LeO (carrefourlaw02_FracRound.f k a0 a1) (carrefourlaw02_FracRound.f (k + 1) a0 a1) := by
  intro a0 a1 k
  have ih0 := carrefourlaw02_FracRound.mono_l k
  unfold carrefourlaw02_FracRound.f
  repeat' with_reducible first | exact ih0 _ _ _ _ _ | exact carrefourlaw02_awake.mono _ | exact frac_Ceil.mono _ _ _ | exact frac_Cmp.mono _ _ _ _ _ | exact frac_Floor.mono _ _ _ | exact frac_Right.mono _ _ _ | exact LeO.refl _ | exact LeO.none _ | refine LeO.ite ?_ ?_ | refine LeO.bind ?_ (fun _ => ?_)
/-! ### frac_Sum: function 33 -/
def frac_Sum.l0 : Nat → List (S23) → Int → Int → Int → Int → Option (Int × Int × Int)
  | 0, _, _, _, _, _ => none
  | k + 1, x10, x11, x12, x987000, x987001 => if x12 < x11 then (if 0 ≤ x12 then (if x12 < (x10.length : Int) then ((frac_Add.f k x987000 x987001 ((rd_T23 x10 x12).f0) ((rd_T23 x10 x12).f1)).bind fun bt989 => (if bt989.2.2 = 0 then (frac_Sum.l0 k x10 x11 (wrap64 (x12 + 1)) bt989.1 bt989.2.1) else (some (0, 0, bt989.2.2)))) else (none)) else (none)) else (some (x987000, x987001, 0))
def frac_Sum.f (k : Nat) (l0 : List (S23)) : Option (Int × Int × Int) := (frac_nought.f).bind fun bt984 => (frac_Sum.l0 k l0 (l0.length : Int) 0 bt984.1 bt984.2)
theorem frac_Sum.mono_l : ∀ k, (∀ y0 y1 y2 y3 y4, LeO (frac_Sum.l0 k y0 y1 y2 y3 y4) (frac_Sum.l0 (k + 1) y0 y1 y2 y3 y4))
  | 0 => fun _ _ _ _ _ r h => by simp [frac_Sum.l0] at h
  | k + 1 => by
    have ih0 := frac_Sum.mono_l k
    · intro y0 y1 y2 y3 y4
      unfold frac_Sum.l0
      repeat' with_reducible first | exact ih0 _ _ _ _ _ | exact frac_Add.mono _ _ _ _ _ | exact LeO.refl _ | exact LeO.none _ | refine LeO.ite ?_ ?_ | refine LeO.bind ?_ (fun _ => ?_)
theorem frac_Sum.mono : ∀ a0 k, LeO (frac_Sum.f k a0) (frac_Sum.f (k + 1) a0) := by
  intro a0 k
  have ih0 := frac_Sum.mono_l k
  unfold frac_Sum.f
  repeat' with_reducible first | exact ih0 _ _ _ _ _ | exact frac_Add.mono _ _ _ _ _ | exact LeO.refl _ | exact LeO.none _ | refine LeO.ite ?_ ?_ | refine LeO.bind ?_ (fun _ => ?_)
/-! ### carrefourref02_Sum: function 34 -/
def carrefourref02_Sum.l0 : Nat → List (S23) → Int → Int → Int → Option (Int × Int × Int)
  | 0, _, _, _, _ => none
  | k + 1, x0, x5, x995000, x995001 => if x5 < (x0.length : Int) then (if 0 ≤ x5 then ((carrefourref02_Add.f k x995000 x995001 ((rd_T23 x0 x5).f0) ((rd_T23 x0 x5).f1)).bind fun bt996 => (if bt996.2.2 = 0 then (carrefourref02_Sum.l0 k x0 (wrap64 (x5 + 1)) bt996.1 bt996.2.1) else (some (0, 0, bt996.2.2)))) else (none)) else (some (x995000, x995001, 0))
def carrefourref02_Sum.f (k : Nat) (l0 : List (S23)) : Option (Int × Int × Int) := carrefourref02_Sum.l0 k l0 0 0 1
theorem carrefourref02_Sum.mono_l : ∀ k, (∀ y0 y1 y2 y3, LeO (carrefourref02_Sum.l0 k y0 y1 y2 y3) (carrefourref02_Sum.l0 (k + 1) y0 y1 y2 y3))
  | 0 => fun _ _ _ _ r h => by simp [carrefourref02_Sum.l0] at h
  | k + 1 => by
    have ih0 := carrefourref02_Sum.mono_l k
    · intro y0 y1 y2 y3
      unfold carrefourref02_Sum.l0
      repeat' with_reducible first | exact ih0 _ _ _ _ | exact carrefourref02_Add.mono _ _ _ _ _ | exact LeO.refl _ | exact LeO.none _ | refine LeO.ite ?_ ?_ | refine LeO.bind ?_ (fun _ => ?_)
theorem carrefourref02_Sum.mono : ∀ a0 k, LeO (carrefourref02_Sum.f k a0) (carrefourref02_Sum.f (k + 1) a0) := by
  intro a0 k
  have ih0 := carrefourref02_Sum.mono_l k
  unfold carrefourref02_Sum.f
  repeat' with_reducible first | exact ih0 _ _ _ _ | exact carrefourref02_Add.mono _ _ _ _ _ | exact LeO.refl _ | exact LeO.none _ | refine LeO.ite ?_ ?_ | refine LeO.bind ?_ (fun _ => ?_)
/-! ### frac_Max: function 35 -/
def frac_Max.l0 : Nat → List (S23) → Int → Int → Int → Int → Option (Int × Int)
  | 0, _, _, _, _, _ => none
  | k + 1, x15, x16, x17, x1007000, x1007001 => if x17 < x16 then (if 0 ≤ x17 then (if x17 < (x15.length : Int) then ((frac_Cmp.f k ((rd_T23 x15 x17).f0) ((rd_T23 x15 x17).f1) x1007000 x1007001).bind fun t1013 => (if t1013 > 0 then ((frac_norm.f k ((rd_T23 x15 x17).f0) ((rd_T23 x15 x17).f1)).bind fun bt1014 => (frac_Max.l0 k x15 x16 (wrap64 (x17 + 1)) bt1014.1 bt1014.2)) else (frac_Max.l0 k x15 x16 (wrap64 (x17 + 1)) x1007000 x1007001))) else (none)) else (none)) else (some (x1007000, x1007001))
def frac_Max.f (k : Nat) (l0 : List (S23)) : Option (Int × Int) := if (l0.length : Int) = 0 then ((frac_nought.f).bind fun bt1001 => (some (bt1001.1, bt1001.2))) else (if 0 < (l0.length : Int) then ((frac_norm.f k ((rd_T23 l0 0).f0) ((rd_T23 l0 0).f1)).bind fun bt1004 => (if 1 ≤ (l0.length : Int) then ((some (l0.drop 1 : List (S23))).bind fun y1007 => (frac_Max.l0 k y1007 (y1007.length : Int) 0 bt1004.1 bt1004.2)) else (none))) else (none))
theorem frac_Max.mono_l : ∀ k, (∀ y0 y1 y2 y3 y4, LeO (frac_Max.l0 k y0 y1 y2 y3 y4) (frac_Max.l0 (k + 1) y0 y1 y2 y3 y4))
  | 0 => fun _ _ _ _ _ r h => by simp [frac_Max.l0] at h
  | k + 1 => by
    have ih0 := frac_Max.mono_l k
    · intro y0 y1 y2 y3 y4
      unfold frac_Max.l0
      repeat' with_reducible first | exact ih0 _ _ _ _ _ | exact frac_Cmp.mono _ _ _ _ _ | exact frac_norm.mono _ _ _ | exact LeO.refl _ | exact LeO.none _ | refine LeO.ite ?_ ?_ | refine LeO.bind ?_ (fun _ => ?_)
theorem frac_Max.mono : ∀ a0 k, LeO (frac_Max.f k a0) (frac_Max.f (k + 1) a0) := by
  intro a0 k
  have ih0 := frac_Max.mono_l k
  unfold frac_Max.f
  repeat' with_reducible first | exact ih0 _ _ _ _ _ | exact frac_Cmp.mono _ _ _ _ _ | exact frac_norm.mono _ _ _ | exact LeO.refl _ | exact LeO.none _ | refine LeO.ite ?_ ?_ | refine LeO.bind ?_ (fun _ => ?_)
/-! ### carrefourref02_Max: function 36 -/
def carrefourref02_Max.l0 : Nat → List (S23) → Int → Int → Int → Option (Int × Int)
  | 0, _, _, _, _ => none
  | k + 1, x0, x4, x1018000, x1018001 => if x4 < (x0.length : Int) then (if x4 = 0 then (if 0 ≤ x4 then ((carrefourref02_Norm.f k ((rd_T23 x0 x4).f0) ((rd_T23 x0 x4).f1)).bind fun bt1019 => (carrefourref02_Max.l0 k x0 (wrap64 (x4 + 1)) bt1019.1 bt1019.2)) else (none)) else (if 0 ≤ x4 then ((carrefourref02_Cmp.f k ((rd_T23 x0 x4).f0) ((rd_T23 x0 x4).f1) x1018000 x1018001).bind fun t1022 => (if t1022 > 0 then ((carrefourref02_Norm.f k ((rd_T23 x0 x4).f0) ((rd_T23 x0 x4).f1)).bind fun bt1024 => (carrefourref02_Max.l0 k x0 (wrap64 (x4 + 1)) bt1024.1 bt1024.2)) else (carrefourref02_Max.l0 k x0 (wrap64 (x4 + 1)) x1018000 x1018001))) else (none))) else (some (x1018000, x1018001))
def carrefourref02_Max.f (k : Nat) (l0 : List (S23)) : Option (Int × Int) := carrefourref02_Max.l0 k l0 0 0 1
theorem carrefourref02_Max.mono_l : ∀ k, (∀ y0 y1 y2 y3, LeO (carrefourref02_Max.l0 k y0 y1 y2 y3) (carrefourref02_Max.l0 (k + 1) y0 y1 y2 y3))
  | 0 => fun _ _ _ _ r h => by simp [carrefourref02_Max.l0] at h
  | k + 1 => by
    have ih0 := carrefourref02_Max.mono_l k
    · intro y0 y1 y2 y3
      unfold carrefourref02_Max.l0
      repeat' with_reducible first | exact ih0 _ _ _ _ | exact carrefourref02_Cmp.mono _ _ _ _ _ | exact carrefourref02_Norm.mono _ _ _ | exact LeO.refl _ | exact LeO.none _ | refine LeO.ite ?_ ?_ | refine LeO.bind ?_ (fun _ => ?_)
theorem carrefourref02_Max.mono : ∀ a0 k, LeO (carrefourref02_Max.f k a0) (carrefourref02_Max.f (k + 1) a0) := by
  intro a0 k
  have ih0 := carrefourref02_Max.mono_l k
  unfold carrefourref02_Max.f
  repeat' with_reducible first | exact ih0 _ _ _ _ | exact carrefourref02_Cmp.mono _ _ _ _ _ | exact carrefourref02_Norm.mono _ _ _ | exact LeO.refl _ | exact LeO.none _ | refine LeO.ite ?_ ?_ | refine LeO.bind ?_ (fun _ => ?_)
/-! ### carrefourlaw02_FracAll: function 9 -/
def carrefourlaw02_FracAll.f (k : Nat) (l0 : List (S23)) : Option (Bool) := if (l0.length : Int) > 50 then (some true) else ((frac_Sum.f k l0).bind fun bt1026 => ((carrefourref02_Sum.f k l0).bind fun bt1030 => ((carrefourlaw02_same.f bt1026.1 bt1026.2.1 bt1026.2.2 bt1030.1 bt1030.2.1 bt1030.2.2).bind fun t1034 => (if t1034 = true then ((frac_Max.f k l0).bind fun bt1035 => ((carrefourref02_Max.f k l0).bind fun bt1037 => (if (bt1035.1 == bt1037.1 && (bt1035.2 == bt1037.2)) = true then ((carrefourlaw02_awake.f k).bind fun t1039 => (some t1039)) else (some false)))) else (some false)))))
theorem carrefourlaw02_FracAll.mono : ∀ a0 k, LeO (carrefourlaw02_FracAll.f k a0) (carrefourlaw02_FracAll.f (k + 1) a0) := by
  intro a0 k
  unfold carrefourlaw02_FracAll.f
  repeat' with_reducible first | exact carrefourlaw02_awake.mono _ | exact carrefourref02_Max.mono _ _ | exact carrefourref02_Sum.mono _ _ | exact frac_Max.mono _ _ | exact frac_Sum.mono _ _ | exact LeO.refl _ | exact LeO.none _ | refine LeO.ite ?_ ?_ | refine LeO.bind ?_ (fun _ => ?_)
end Go.Proofs.YtjgnaccamakpdaaDoor.X
