/- Walks: each '.calls' says that the Go function comes to what its Lean function tells. Conditions: as each theorem's head says. -/
import Derived.Test.YtpdmiookdmncpaaDoorX0
namespace Go.Proofs.YtpdmiookdmncpaaDoor.X
open Go.RowKit Go.Proofs.YtpdmiookdmncpaaDoorW.PrintWords Go.Proofs.YtpdmiookdmncpaaDoorW.PrintLast Go.Proofs.YtpdmiookdmncpaaDoorW.PrintMore
attribute [local go_sem] max2_int min2_int max_two min_two max_three min_three max_four min_four   -- for this text's walks alone
set_option linter.unusedVariables false
set_option maxHeartbeats 8000000
set_option maxRecDepth 100000
set_option linter.unusedSimpArgs false

/-! ### whole_signed: function 84 -/
def whole_signed.j0 : Nat → Int → Bool → Option (Int × Int)
  | 0, _, _ => none
  | k + 1, x0, x6 => if x6 = true then (some (wrap64 (IntKind.u64.wrap (-x0)), 0)) else (if x0 ≤ 9223372036854775807 then (some (wrap64 (x0), 0)) else (some (0, 2)))
def whole_signed.f (k : Nat) (a0 : Int) (a1 : Int) : Option (Int × Int) := if a1 < 0 then (whole_signed.j0 k a0 (decide (a0 ≤ 9223372036854775808))) else (whole_signed.j0 k a0 false)
theorem whole_signed.mono_l : ∀ k, (∀ y0 y1, LeO (whole_signed.j0 k y0 y1) (whole_signed.j0 (k + 1) y0 y1))
  | 0 => fun _ _ r h => by simp [whole_signed.j0] at h
  | k + 1 => by
    have ih0 := whole_signed.mono_l k
    · intro y0 y1
      unfold whole_signed.j0
      repeat' with_reducible first | exact ih0 _ _ | exact LeO.refl _ | exact LeO.none _ | refine LeO.ite ?_ ?_ | refine LeO.bind ?_ (fun _ => ?_)
theorem whole_signed.mono : ∀ a0 a1 k, LeO (whole_signed.f k a0 a1) (whole_signed.f (k + 1) a0 a1) := by
  intro a0 a1 k
  have ih0 := whole_signed.mono_l k
  unfold whole_signed.f
  repeat' with_reducible first | exact ih0 _ _ | exact LeO.refl _ | exact LeO.none _ | refine LeO.ite ?_ ?_ | refine LeO.bind ?_ (fun _ => ?_)
/-! ### bits_TrailingZeros64: function 99 -/
def bits_TrailingZeros64.f (a0 : Int) : Option Int := if 0 ≤ a0 ∧ a0 < 18446744073709551616 then some ((Lib.ctz 64 a0.toNat : Nat) : Int) else none
/-! ### whole_gcd: function 85 -/
mutual
def whole_gcd.j0 : Nat → Int → Int → Bool → Option (Int)
  | 0, _, _, _ => none
  | k + 1, x0, x1, x11 => if x11 = true then (some (Go.bits .or .u64 x0 x1)) else ((bits_TrailingZeros64.f (Go.bits .or .u64 x0 x1)).bind fun t101 => ((bits_TrailingZeros64.f x0).bind fun t102 => (if 0 ≤ t102 then (whole_gcd.l0 k (shr .u64 x0 t102) x1 t101) else (none))))
def whole_gcd.l0 : Nat → Int → Int → Int → Option (Int)
  | 0, _, _, _ => none
  | k + 1, x0, x1, x5 => if x1 = 0 then (if 0 ≤ x5 then (some (shl .u64 x0 x5)) else (none)) else ((bits_TrailingZeros64.f x1).bind fun t103 => (if 0 ≤ t103 then (if x0 > (shr .u64 x1 t103) then (whole_gcd.l0 k (shr .u64 x1 t103) (IntKind.u64.wrap (x0 - (shr .u64 x1 t103))) x5) else (whole_gcd.l0 k x0 (IntKind.u64.wrap ((shr .u64 x1 t103) - x0)) x5)) else (none)))
end
def whole_gcd.f (k : Nat) (a0 : Int) (a1 : Int) : Option (Int) := if a0 = 0 then (whole_gcd.j0 k a0 a1 true) else (whole_gcd.j0 k a0 a1 (a1 == 0))
theorem whole_gcd.mono_l : ∀ k, (∀ y0 y1 y2, LeO (whole_gcd.j0 k y0 y1 y2) (whole_gcd.j0 (k + 1) y0 y1 y2)) ∧ (∀ y0 y1 y2, LeO (whole_gcd.l0 k y0 y1 y2) (whole_gcd.l0 (k + 1) y0 y1 y2))
  | 0 => ⟨fun _ _ _ r h => by simp [whole_gcd.j0] at h, fun _ _ _ r h => by simp [whole_gcd.l0] at h⟩
  | k + 1 => by
    obtain ⟨ih0, ih1⟩ := whole_gcd.mono_l k
    refine ⟨?_, ?_⟩
    · intro y0 y1 y2
      unfold whole_gcd.j0
      repeat' with_reducible first | exact ih0 _ _ _ | exact ih1 _ _ _ | exact LeO.refl _ | exact LeO.none _ | refine LeO.ite ?_ ?_ | refine LeO.bind ?_ (fun _ => ?_)
    · intro y0 y1 y2
      unfold whole_gcd.l0
      repeat' with_reducible first | exact ih0 _ _ _ | exact ih1 _ _ _ | exact LeO.refl _ | exact LeO.none _ | refine LeO.ite ?_ ?_ | refine LeO.bind ?_ (fun _ => ?_)
theorem whole_gcd.mono : ∀ a0 a1 k, LeO (whole_gcd.f k a0 a1) (whole_gcd.f (k + 1) a0 a1) := by
  intro a0 a1 k
  obtain ⟨ih0, ih1⟩ := whole_gcd.mono_l k
  unfold whole_gcd.f
  repeat' with_reducible first | exact ih0 _ _ _ | exact ih1 _ _ _ | exact LeO.refl _ | exact LeO.none _ | refine LeO.ite ?_ ?_ | refine LeO.bind ?_ (fun _ => ?_)
/-! ### whole_size: function 86 -/
def whole_size.f (a0 : Int) : Option (Int) := if a0 < 0 then (some (IntKind.u64.wrap (-(IntKind.u64.wrap (a0))))) else (some (IntKind.u64.wrap (a0)))
/-! ### whole_Gcd: function 63 -/
def whole_Gcd.f (k : Nat) (a0 : Int) (a1 : Int) : Option (Int × Int) := (whole_size.f a0).bind fun t104 => ((whole_size.f a1).bind fun t105 => ((whole_gcd.f k t104 t105).bind fun t106 => ((whole_signed.f k t106 1).bind fun bt107 => (some (bt107.1, bt107.2)))))
theorem whole_Gcd.mono : ∀ a0 a1 k, LeO (whole_Gcd.f k a0 a1) (whole_Gcd.f (k + 1) a0 a1) := by
  intro a0 a1 k
  unfold whole_Gcd.f
  repeat' with_reducible first | exact whole_gcd.mono _ _ _ | exact whole_signed.mono _ _ _ | exact LeO.refl _ | exact LeO.none _ | refine LeO.ite ?_ ?_ | refine LeO.bind ?_ (fun _ => ?_)
/-! ### frac_Right: function 33 -/
def frac_Right.f (k : Nat) (a0_0 : Int) (a0_1 : Int) : Option (Bool) := (whole_Gcd.f k a0_0 a0_1).bind fun bt110 => (if a0_1 ≥ 1 then (if bt110.2 = 0 then (some (bt110.1 == 1)) else (some false)) else (some false))
theorem frac_Right.mono : ∀ a0 a1 k, LeO (frac_Right.f k a0 a1) (frac_Right.f (k + 1) a0 a1) := by
  intro a0 a1 k
  unfold frac_Right.f
  repeat' with_reducible first | exact whole_Gcd.mono _ _ _ | exact LeO.refl _ | exact LeO.none _ | refine LeO.ite ?_ ?_ | refine LeO.bind ?_ (fun _ => ?_)
/-! ### frac_wide_zero: function 100 -/
def frac_wide_zero.f (a0_0 : Int) (a0_1 : Int) : Option (Bool) := some ((Go.bits .or .u64 a0_0 a0_1) == 0)
/-! ### frac_wide_twos: function 101 -/
def frac_wide_twos.f (a0_0 : Int) (a0_1 : Int) : Option (Int) := if a0_1 = 0 then ((bits_TrailingZeros64.f a0_0).bind fun t114 => (some (wrap64 (64 + t114)))) else ((bits_TrailingZeros64.f a0_1).bind fun t115 => (some t115))
/-! ### frac_wide_down: function 102 -/
def frac_wide_down.f (a0_0 : Int) (a0_1 : Int) (a1 : Int) : Option (Int × Int) := if a1 ≥ 64 then (if 0 ≤ (wrap64 (a1 - 64)) then (some (0, shr .u64 a0_0 (wrap64 (a1 - 64)))) else (none)) else (if 0 ≤ a1 then (if 0 ≤ (wrap64 (64 - a1)) then (some (shr .u64 a0_0 a1, Go.bits .or .u64 (shr .u64 a0_1 a1) (shl .u64 a0_0 (wrap64 (64 - a1))))) else (none)) else (none))
/-! ### frac_wide_cmp: function 103 -/
def frac_wide_cmp.f (a0_0 : Int) (a0_1 : Int) (a1_0 : Int) (a1_1 : Int) : Option (Int) := if (a0_0 == a1_0 && (a0_1 == a1_1)) = true then (some 0) else (if a0_0 < a1_0 then (some (-1)) else (if a0_0 = a1_0 then (if a0_1 < a1_1 then (some (-1)) else (some 1)) else (some 1)))
/-! ### bits_Sub64: function 112 -/
def bits_Sub64.f (a0 : Int) (a1 : Int) (a2 : Int) : Option (Int × Int) := if 0 ≤ a0 ∧ 0 ≤ a1 ∧ a1 < 18446744073709551616 ∧ 0 ≤ a2 ∧ a2 ≤ 1 then some ((a0 - a1 - a2) % 18446744073709551616, if a0 < a1 + a2 then 1 else 0) else none
/-- The model's entry for math/bits.Sub64. -/
def sub64Entry : Array Value → Sem Value := fun args => do
  let (x, y, b) ← Extern.MathBitsCarry.three "Sub64" args
  pure (Extern.MathBitsCarry.pair ((x + Extern.MathBitsCarry.m64 - y - b) % Extern.MathBitsCarry.m64) (if x < y + b then 1 else 0))
/-! ### frac_wide_minus: function 104 -/
def frac_wide_minus.f (a0_0 : Int) (a0_1 : Int) (a1_0 : Int) (a1_1 : Int) : Option (Int × Int) := (bits_Sub64.f a0_1 a1_1 0).bind fun bt123 => ((bits_Sub64.f a0_0 a1_0 bt123.2).bind fun bt125 => (some (bt125.1, bt123.1)))
/-! ### frac_wide_up: function 105 -/
def frac_wide_up.f (a0_0 : Int) (a0_1 : Int) (a1 : Int) : Option (Int × Int) := if a1 ≥ 64 then (if 0 ≤ (wrap64 (a1 - 64)) then (some (shl .u64 a0_1 (wrap64 (a1 - 64)), 0)) else (none)) else (if 0 ≤ a1 then (if 0 ≤ (wrap64 (64 - a1)) then (some (Go.bits .or .u64 (shl .u64 a0_0 a1) (shr .u64 a0_1 (wrap64 (64 - a1))), shl .u64 a0_1 a1)) else (none)) else (none))
/-! ### frac_gcd: function 87 -/
def frac_gcd.l0 : Nat → Int → Int → Int → Int → Int → Option (Int × Int)
  | 0, _, _, _, _, _ => none
  | k + 1, x5, x130000, x130001, x131000, x131001 => (frac_wide_zero.f x131000 x131001).bind fun t139 => (if t139 = true then ((frac_wide_up.f x130000 x130001 x5).bind fun bt140 => (some (bt140.1, bt140.2))) else ((frac_wide_twos.f x131000 x131001).bind fun t142 => ((frac_wide_down.f x131000 x131001 t142).bind fun bt143 => ((frac_wide_cmp.f x130000 x130001 bt143.1 bt143.2).bind fun t145 => (if t145 > 0 then ((frac_wide_minus.f x130000 x130001 bt143.1 bt143.2).bind fun bt146 => (frac_gcd.l0 k x5 bt143.1 bt143.2 bt146.1 bt146.2)) else ((frac_wide_minus.f bt143.1 bt143.2 x130000 x130001).bind fun bt148 => (frac_gcd.l0 k x5 x130000 x130001 bt148.1 bt148.2)))))))
def frac_gcd.f (k : Nat) (a0_0 : Int) (a0_1 : Int) (a1_0 : Int) (a1_1 : Int) : Option (Int × Int) := (frac_wide_zero.f a0_0 a0_1).bind fun t132 => (if t132 = true then (some (a1_0, a1_1)) else ((frac_wide_zero.f a1_0 a1_1).bind fun t133 => (if t133 = true then (some (a0_0, a0_1)) else ((frac_wide_twos.f a0_0 a0_1).bind fun t134 => ((frac_wide_twos.f a1_0 a1_1).bind fun t135 => ((frac_wide_twos.f a0_0 a0_1).bind fun t136 => ((frac_wide_down.f a0_0 a0_1 t136).bind fun bt137 => (frac_gcd.l0 k (mn t134 t135) bt137.1 bt137.2 a1_0 a1_1))))))))
theorem frac_gcd.mono_l : ∀ k, (∀ y0 y1 y2 y3 y4, LeO (frac_gcd.l0 k y0 y1 y2 y3 y4) (frac_gcd.l0 (k + 1) y0 y1 y2 y3 y4))
  | 0 => fun _ _ _ _ _ r h => by simp [frac_gcd.l0] at h
  | k + 1 => by
    have ih0 := frac_gcd.mono_l k
    · intro y0 y1 y2 y3 y4
      unfold frac_gcd.l0
      repeat' with_reducible first | exact ih0 _ _ _ _ _ | exact LeO.refl _ | exact LeO.none _ | refine LeO.ite ?_ ?_ | refine LeO.bind ?_ (fun _ => ?_)
theorem frac_gcd.mono : ∀ a0 a1 a2 a3 k, LeO (frac_gcd.f k a0 a1 a2 a3) (frac_gcd.f (k + 1) a0 a1 a2 a3) := by
  intro a0 a1 a2 a3 k
  have ih0 := frac_gcd.mono_l k
  unfold frac_gcd.f
  repeat' with_reducible first | exact ih0 _ _ _ _ _ | exact LeO.refl _ | exact LeO.none _ | refine LeO.ite ?_ ?_ | refine LeO.bind ?_ (fun _ => ?_)
/-! ### bits_Len64: function 113 -/
def bits_Len64.f (a0 : Int) : Option Int := if 0 ≤ a0 ∧ a0 ≤ 18446744073709551615 then some ((Lib.bitLen a0.toNat : Nat) : Int) else none
/-! ### frac_wide_long: function 106 -/
def frac_wide_long.f (a0_0 : Int) (a0_1 : Int) : Option (Int) := if a0_0 = 0 then ((bits_Len64.f a0_1).bind fun t151 => (some t151)) else ((bits_Len64.f a0_0).bind fun t152 => (some (wrap64 (64 + t152))))
/-! ### frac_wide_over: function 88 -/
def frac_wide_over.l0 : Nat → Int → Int → Int → Int → Int → Int → Int → Option (Int × Int)
  | 0, _, _, _, _, _, _, _ => none
  | k + 1, x6, x154000, x154001, x155000, x155001, x157000, x157001 => if x6 ≥ 0 then ((frac_wide_up.f x157000 x157001 1).bind fun bt159 => ((frac_wide_up.f x155000 x155001 x6).bind fun bt161 => ((frac_wide_cmp.f bt161.1 bt161.2 x154000 x154001).bind fun t164 => (if t164 ≤ 0 then ((frac_wide_minus.f x154000 x154001 bt161.1 bt161.2).bind fun bt165 => (frac_wide_over.l0 k (wrap64 (x6 - 1)) bt165.1 bt165.2 x155000 x155001 bt159.1 (Go.bits .or .u64 bt159.2 1))) else (frac_wide_over.l0 k (wrap64 (x6 - 1)) x154000 x154001 x155000 x155001 bt159.1 bt159.2))))) else (some (x157000, x157001))
def frac_wide_over.f (k : Nat) (a0_0 : Int) (a0_1 : Int) (a1_0 : Int) (a1_1 : Int) : Option (Int × Int) := (frac_wide_long.f a0_0 a0_1).bind fun t157 => ((frac_wide_long.f a1_0 a1_1).bind fun t158 => (frac_wide_over.l0 k (wrap64 (t157 - t158)) a0_0 a0_1 a1_0 a1_1 0 0))
theorem frac_wide_over.mono_l : ∀ k, (∀ y0 y1 y2 y3 y4 y5 y6, LeO (frac_wide_over.l0 k y0 y1 y2 y3 y4 y5 y6) (frac_wide_over.l0 (k + 1) y0 y1 y2 y3 y4 y5 y6))
  | 0 => fun _ _ _ _ _ _ _ r h => by simp [frac_wide_over.l0] at h
  | k + 1 => by
    have ih0 := frac_wide_over.mono_l k
    · intro y0 y1 y2 y3 y4 y5 y6
      unfold frac_wide_over.l0
      repeat' with_reducible first | exact ih0 _ _ _ _ _ _ _ | exact LeO.refl _ | exact LeO.none _ | refine LeO.ite ?_ ?_ | refine LeO.bind ?_ (fun _ => ?_)
theorem frac_wide_over.mono : ∀ a0 a1 a2 a3 k, LeO (frac_wide_over.f k a0 a1 a2 a3) (frac_wide_over.f (k + 1) a0 a1 a2 a3) := by
  intro a0 a1 a2 a3 k
  have ih0 := frac_wide_over.mono_l k
  unfold frac_wide_over.f
  repeat' with_reducible first | exact ih0 _ _ _ _ _ _ _ | exact LeO.refl _ | exact LeO.none _ | refine LeO.ite ?_ ?_ | refine LeO.bind ?_ (fun _ => ?_)
/-! ### frac_signed_whole: function 89 -/
def frac_signed_whole.f (a0_0 : Bool) (a0_1 : Int) (a0_2 : Int) : Option (Int × Bool) := if a0_1 = 0 then (if a0_0 = true then (some (wrap64 (IntKind.u64.wrap (-a0_2)), decide (a0_2 ≤ 9223372036854775808))) else (some (wrap64 (a0_2), decide (a0_2 < 9223372036854775808)))) else (some (0, false))
/-! ### frac_reduced: function 64 -/
def frac_reduced.f (k : Nat) (a0_0 : Bool) (a0_1 : Int) (a0_2 : Int) (a1_0 : Bool) (a1_1 : Int) (a1_2 : Int) : Option (Int × Int × Int) := (frac_gcd.f k a0_1 a0_2 a1_1 a1_2).bind fun bt171 => ((frac_wide_over.f k a0_1 a0_2 bt171.1 bt171.2).bind fun bt174 => ((frac_wide_over.f k a1_1 a1_2 bt171.1 bt171.2).bind fun bt176 => ((frac_signed_whole.f (a0_0 != a1_0) bt174.1 bt174.2).bind fun bt178 => ((frac_signed_whole.f false bt176.1 bt176.2).bind fun bt180 => (if bt178.2 = true then (if bt180.2 = true then (some (bt178.1, bt180.1, 0)) else (some (0, 0, 2))) else (some (0, 0, 2)))))))
theorem frac_reduced.mono : ∀ a0 a1 a2 a3 a4 a5 k, LeO (frac_reduced.f k a0 a1 a2 a3 a4 a5) (frac_reduced.f (k + 1) a0 a1 a2 a3 a4 a5) := by
  intro a0 a1 a2 a3 a4 a5 k
  unfold frac_reduced.f
  repeat' with_reducible first | exact frac_gcd.mono _ _ _ _ _ | exact frac_wide_over.mono _ _ _ _ _ | exact LeO.refl _ | exact LeO.none _ | refine LeO.ite ?_ ?_ | refine LeO.bind ?_ (fun _ => ?_)
/-! ### frac_sized: function 65 -/
def frac_sized.f (a0 : Int) : Option (Bool × Int × Int) := if a0 < 0 then (some (true, 0, IntKind.u64.wrap (-(IntKind.u64.wrap (a0))))) else (some (false, 0, IntKind.u64.wrap (a0)))
/-! ### frac_Of: function 34 -/
def frac_Of.f (k : Nat) (a0 : Int) (a1 : Int) : Option (Int × Int × Int) := if a1 = 0 then (some (0, 0, 3)) else ((frac_sized.f a0).bind fun bt184 => ((frac_sized.f a1).bind fun bt187 => ((frac_reduced.f k bt184.1 bt184.2.1 bt184.2.2 bt187.1 bt187.2.1 bt187.2.2).bind fun bt190 => (some (bt190.1, bt190.2.1, bt190.2.2)))))
theorem frac_Of.mono : ∀ a0 a1 k, LeO (frac_Of.f k a0 a1) (frac_Of.f (k + 1) a0 a1) := by
  intro a0 a1 k
  unfold frac_Of.f
  repeat' with_reducible first | exact frac_reduced.mono _ _ _ _ _ _ _ | exact LeO.refl _ | exact LeO.none _ | refine LeO.ite ?_ ?_ | refine LeO.bind ?_ (fun _ => ?_)
/-! ### frac_nought: function 82 -/
def frac_nought.f  : Option (Int × Int) := some (0, 1)
/-! ### frac_norm: function 66 -/
def frac_norm.f (k : Nat) (a0_0 : Int) (a0_1 : Int) : Option (Int × Int) := (frac_Right.f k a0_0 a0_1).bind fun t196 => (if t196 = true then (some (a0_0, a0_1)) else ((frac_nought.f).bind fun bt197 => (some (bt197.1, bt197.2))))
theorem frac_norm.mono : ∀ a0 a1 k, LeO (frac_norm.f k a0 a1) (frac_norm.f (k + 1) a0 a1) := by
  intro a0 a1 k
  unfold frac_norm.f
  repeat' with_reducible first | exact frac_Right.mono _ _ _ | exact LeO.refl _ | exact LeO.none _ | refine LeO.ite ?_ ?_ | refine LeO.bind ?_ (fun _ => ?_)
/-! ### bits_Mul64: function 107 -/
def bits_Mul64.f (a0 : Int) (a1 : Int) : Option (Int × Int) := some (IntKind.u64.wrap ((IntKind.u64.wrap ((IntKind.u64.wrap ((a0 / 4294967296) * (a1 / 4294967296))) + ((IntKind.u64.wrap ((IntKind.u64.wrap ((a0 / 4294967296) * (Go.bits .and .u64 a1 4294967295))) + ((IntKind.u64.wrap ((Go.bits .and .u64 a0 4294967295) * (Go.bits .and .u64 a1 4294967295))) / 4294967296))) / 4294967296))) + ((IntKind.u64.wrap ((Go.bits .and .u64 (IntKind.u64.wrap ((IntKind.u64.wrap ((a0 / 4294967296) * (Go.bits .and .u64 a1 4294967295))) + ((IntKind.u64.wrap ((Go.bits .and .u64 a0 4294967295) * (Go.bits .and .u64 a1 4294967295))) / 4294967296))) 4294967295) + (IntKind.u64.wrap ((Go.bits .and .u64 a0 4294967295) * (a1 / 4294967296))))) / 4294967296)), IntKind.u64.wrap (a0 * a1))
/-! ### frac_multiply: function 90 -/
def frac_multiply.f (a0 : Int) (a1 : Int) : Option (Int × Int) := (bits_Mul64.f a0 a1).bind fun bt200 => (some (bt200.1, bt200.2))
/-! ### frac_signed_times: function 67 -/
def frac_signed_times.f (a0_0 : Bool) (a0_1 : Int) (a0_2 : Int) (a1_0 : Bool) (a1_1 : Int) (a1_2 : Int) : Option (Bool × Int × Int) := (frac_multiply.f a0_2 a1_2).bind fun bt205 => (some ((a0_0 != a1_0), bt205.1, bt205.2))
/-! ### frac_Div: function 35 -/
def frac_Div.f (k : Nat) (a0_0 : Int) (a0_1 : Int) (a1_0 : Int) (a1_1 : Int) : Option (Int × Int × Int) := (frac_norm.f k a0_0 a0_1).bind fun bt210 => ((frac_norm.f k a1_0 a1_1).bind fun bt212 => (if bt212.1 = 0 then (some (0, 0, 3)) else ((frac_sized.f bt210.1).bind fun bt214 => ((frac_sized.f bt212.2).bind fun bt217 => ((frac_signed_times.f bt214.1 bt214.2.1 bt214.2.2 bt217.1 bt217.2.1 bt217.2.2).bind fun bt220 => ((frac_sized.f bt210.2).bind fun bt223 => ((frac_sized.f bt212.1).bind fun bt226 => ((frac_signed_times.f bt223.1 bt223.2.1 bt223.2.2 bt226.1 bt226.2.1 bt226.2.2).bind fun bt229 => ((frac_reduced.f k bt220.1 bt220.2.1 bt220.2.2 bt229.1 bt229.2.1 bt229.2.2).bind fun bt232 => (some (bt232.1, bt232.2.1, bt232.2.2)))))))))))
theorem frac_Div.mono : ∀ a0 a1 a2 a3 k, LeO (frac_Div.f k a0 a1 a2 a3) (frac_Div.f (k + 1) a0 a1 a2 a3) := by
  intro a0 a1 a2 a3 k
  unfold frac_Div.f
  repeat' with_reducible first | exact frac_norm.mono _ _ _ | exact frac_reduced.mono _ _ _ _ _ _ _ | exact LeO.refl _ | exact LeO.none _ | refine LeO.ite ?_ ?_ | refine LeO.bind ?_ (fun _ => ?_)
/-! ### whole_Sub: function 93 -/
def whole_Sub.f (a0 : Int) (a1 : Int) : Option (Int × Int) := if ((decide ((wrap64 (a0 - a1)) > a0)) != (decide (a1 < 0))) = true then (some (0, 2)) else (some (wrap64 (a0 - a1), 0))
/-! ### whole_Neg: function 71 -/
def whole_Neg.f (a0 : Int) : Option (Int × Int) := (whole_Sub.f 0 a0).bind fun bt235 => (some (bt235.1, bt235.2))
/-! ### whole_Ceil: function 41 -/
def whole_Ceil.f (a0 : Int) (a1 : Int) : Option (Int × Int) := if a1 = 0 then (some (0, 3)) else (if a1 = (-1) then ((whole_Neg.f a0).bind fun bt237 => (some (bt237.1, bt237.2))) else (if (Int.tmod a0 a1) = 0 then (some (wrap64 (Int.tdiv a0 a1), 0)) else (if ((decide ((Int.tmod a0 a1) < 0)) == (decide (a1 < 0))) = true then (some (wrap64 ((wrap64 (Int.tdiv a0 a1)) + 1), 0)) else (some (wrap64 (Int.tdiv a0 a1), 0)))))
/-! ### frac_Ceil: function 36 -/
def frac_Ceil.f (k : Nat) (a0_0 : Int) (a0_1 : Int) : Option (Int) := (frac_norm.f k a0_0 a0_1).bind fun bt240 => ((whole_Ceil.f bt240.1 bt240.2).bind fun bt242 => (some bt242.1))
theorem frac_Ceil.mono : ∀ a0 a1 k, LeO (frac_Ceil.f k a0 a1) (frac_Ceil.f (k + 1) a0 a1) := by
  intro a0 a1 k
  unfold frac_Ceil.f
  repeat' with_reducible first | exact frac_norm.mono _ _ _ | exact LeO.refl _ | exact LeO.none _ | refine LeO.ite ?_ ?_ | refine LeO.bind ?_ (fun _ => ?_)
/-! ### webster_Cycle: function 10 -/
def webster_Cycle.j0 : Nat → Int → Bool → Int → Int → Option (Int × Bool × Int)
  | 0, _, _, _, _ => none
  | k + 1, x0, x26, x245000, x245001 => if x26 = true then (some (0, false, 1)) else (if x245000 ≥ x245001 then (some (0, false, 0)) else ((frac_Of.f k (wrap64 (x245001 - x245000)) x245001).bind fun bt246 => (if bt246.2.2 = 0 then ((frac_Of.f k (wrap64 ((wrap64 (3 * x0)) + 100)) 2).bind fun bt250 => (if bt250.2.2 = 0 then ((frac_Div.f k bt250.1 bt250.2.1 bt246.1 bt246.2.1).bind fun bt254 => (if bt254.2.2 = 0 then ((frac_Ceil.f k bt254.1 bt254.2.1).bind fun t258 => (some (t258, true, 0))) else (some (0, false, bt254.2.2)))) else (some (0, false, bt250.2.2)))) else (some (0, false, bt246.2.2)))))
def webster_Cycle.f (k : Nat) (a0 : Int) (a1_0 : Int) (a1_1 : Int) : Option (Int × Bool × Int) := if a0 < 0 then (webster_Cycle.j0 k a0 true a1_0 a1_1) else (if a0 > 600000 then (webster_Cycle.j0 k a0 true a1_0 a1_1) else ((frac_Right.f k a1_0 a1_1).bind fun t245 => (if t245 = true then (webster_Cycle.j0 k a0 (decide (a1_0 < 0)) a1_0 a1_1) else (webster_Cycle.j0 k a0 true a1_0 a1_1))))
theorem webster_Cycle.mono_l : ∀ k, (∀ y0 y1 y2 y3, LeO (webster_Cycle.j0 k y0 y1 y2 y3) (webster_Cycle.j0 (k + 1) y0 y1 y2 y3))
  | 0 => fun _ _ _ _ r h => by simp [webster_Cycle.j0] at h
  | k + 1 => by
    have ih0 := webster_Cycle.mono_l k
    · intro y0 y1 y2 y3
      unfold webster_Cycle.j0
      repeat' with_reducible first | exact ih0 _ _ _ _ | exact frac_Ceil.mono _ _ _ | exact frac_Div.mono _ _ _ _ _ | exact frac_Of.mono _ _ _ | exact frac_Right.mono _ _ _ | exact LeO.refl _ | exact LeO.none _ | refine LeO.ite ?_ ?_ | refine LeO.bind ?_ (fun _ => ?_)
theorem webster_Cycle.mono : ∀ a0 a1 a2 k, LeO (webster_Cycle.f k a0 a1 a2) (webster_Cycle.f (k + 1) a0 a1 a2) := by
  intro a0 a1 a2 k
  have ih0 := webster_Cycle.mono_l k
  unfold webster_Cycle.f
  repeat' with_reducible first | exact ih0 _ _ _ _ | exact frac_Ceil.mono _ _ _ | exact frac_Div.mono _ _ _ _ _ | exact frac_Of.mono _ _ _ | exact frac_Right.mono _ _ _ | exact LeO.refl _ | exact LeO.none _ | refine LeO.ite ?_ ?_ | refine LeO.bind ?_ (fun _ => ?_)
/-! ### webster_right: function 40 -/
def webster_right.f (a0_0 : Int) (a0_1 : Int) (a0_2 : Int) (a0_3 : Int) (a0_4 : Int) (l0_5 : List (S55)) (l0_6 : List (S120)) (a0_7 : Int) (a0_8 : Int) : Option (Bool) := if 1 ≤ a0_0 then (if a0_0 ≤ a0_1 then (if a0_1 ≤ 6000 then (some (decide (a0_2 ≥ 1))) else (some false)) else (some false)) else (some false)
/-! ### webster_Count: function 15 -/
def webster_Count.f (a0_0 : Int) (a0_1 : Int) (a0_2 : Int) (a0_3 : Int) (a0_4 : Int) (l0_5 : List (S55)) (l0_6 : List (S120)) (a0_7 : Int) (a0_8 : Int) : Option (Int) := (webster_right.f a0_0 a0_1 a0_2 a0_3 a0_4 l0_5 l0_6 a0_7 a0_8).bind fun t261 => (if t261 = true then (if a0_2 = 0 then (none) else (some (wrap64 ((wrap64 (Int.tdiv (wrap64 (a0_1 - a0_0)) a0_2)) + 1)))) else (some 0))
/-! ### webster_Allowed: function 13 -/
def webster_Allowed.f (a0_0 : Int) (a0_1 : Int) (a0_2 : Int) (a0_3 : Int) (a0_4 : Int) (l0_5 : List (S55)) (l0_6 : List (S120)) (a0_7 : Int) (a0_8 : Int) (a1 : Int) : Option (Int × Bool) := (webster_right.f a0_0 a0_1 a0_2 a0_3 a0_4 l0_5 l0_6 a0_7 a0_8).bind fun t263 => (if t263 = true then ((webster_Count.f a0_0 a0_1 a0_2 a0_3 a0_4 l0_5 l0_6 a0_7 a0_8).bind fun t264 => (if a1 ≤ a0_0 then (some (a0_0, true)) else (if a1 > (wrap64 (a0_0 + (wrap64 ((wrap64 (t264 - 1)) * a0_2)))) then (some (wrap64 (a0_0 + (wrap64 ((wrap64 (t264 - 1)) * a0_2))), false)) else ((whole_Ceil.f (wrap64 (a1 - a0_0)) a0_2).bind fun bt265 => (some (wrap64 (a0_0 + (wrap64 (bt265.1 * a0_2))), true)))))) else (some (0, false)))
/-! ### carrefourlaw12_awake: function 12 -/
def carrefourlaw12_awake.f (k : Nat)  : Option (Bool) := (webster_Cycle.f k 120 1 2).bind fun bt267 => ((webster_Allowed.f 300 900 70 0 0 ([] : List (S55)) ([] : List (S120)) 0 0 600).bind fun bt271 => ((webster_Allowed.f 300 900 70 0 0 ([] : List (S55)) ([] : List (S120)) 0 0 870).bind fun bt273 => (if bt267.2.2 = 0 then (if bt267.2.1 = true then (if bt267.1 = 460 then (if bt271.1 = 650 then (if bt271.2 = true then (if bt273.1 = 860 then (if bt273.2 = true then (some false) else ((webster_Count.f 300 900 70 0 0 ([] : List (S55)) ([] : List (S120)) 0 0).bind fun t275 => (some (t275 == 9)))) else (some false)) else (some false)) else (some false)) else (some false)) else (some false)) else (some false))))
theorem carrefourlaw12_awake.mono : ∀ k, LeO (carrefourlaw12_awake.f k ) (carrefourlaw12_awake.f (k + 1) ) := by
  intro  k
  unfold carrefourlaw12_awake.f
  repeat' with_reducible first | exact webster_Cycle.mono _ _ _ _ | exact LeO.refl _ | exact LeO.none _ | refine LeO.ite ?_ ?_ | refine LeO.bind ?_ (fun _ => ?_)
/-! ### webster_Lost: function 21 -/
/-- webster.Lost: told by hand (it adds in a function literal that captures the sum). -/
def webster_Lost.l0 : Nat → List S46 → List Int → Int → Int → Option Int
  | 0, _, _, _, _ => none
  | k + 1, x0, x1, s, i => if i < (x1.length : Int) then (if 0 ≤ i then (if 0 ≤ rd x1 i then (if rd x1 i < (x0.length : Int) then webster_Lost.l0 k x0 x1 (wrap64 (s + wrap64 ((rd_T46 x0 (rd x1 i)).f2 + (rd_T46 x0 (rd x1 i)).f3))) (wrap64 (i + 1)) else webster_Lost.l0 k x0 x1 s (wrap64 (i + 1))) else webster_Lost.l0 k x0 x1 s (wrap64 (i + 1))) else none) else some s
def webster_Lost.f (k : Nat) (l0 : List S46) (l1 : List Int) : Option Int := webster_Lost.l0 k l0 l1 0 0
theorem webster_Lost.mono_l : ∀ k, (∀ y0 y1 y2 y3, LeO (webster_Lost.l0 k y0 y1 y2 y3) (webster_Lost.l0 (k + 1) y0 y1 y2 y3))
  | 0 => fun _ _ _ _ r h => by simp [webster_Lost.l0] at h
  | k + 1 => by
    have ih0 := webster_Lost.mono_l k
    · intro y0 y1 y2 y3
      unfold webster_Lost.l0
      repeat' with_reducible first | exact ih0 _ _ _ _ | exact LeO.refl _ | exact LeO.none _ | refine LeO.ite ?_ ?_ | refine LeO.bind ?_ (fun _ => ?_)
theorem webster_Lost.mono : ∀ a0 a1 k, LeO (webster_Lost.f k a0 a1) (webster_Lost.f (k + 1) a0 a1) := fun a0 a1 k => webster_Lost.mono_l k _ _ _ _
/-! ### carrefourref12_Lost: function 22 -/
def carrefourref12_Lost.l0 : Nat → List (S46) → List Int → Int → Int → Option (Int)
  | 0, _, _, _, _ => none
  | k + 1, x0, x1, x5, x6 => if x6 < (x1.length : Int) then (if 0 ≤ x6 then (if (rd x1 x6) ≥ 0 then (if (rd x1 x6) < (x0.length : Int) then (if 0 ≤ (rd x1 x6) then (carrefourref12_Lost.l0 k x0 x1 (wrap64 (x5 + (wrap64 (((rd_T46 x0 (rd x1 x6)).f2) + ((rd_T46 x0 (rd x1 x6)).f3))))) (wrap64 (x6 + 1))) else (none)) else (carrefourref12_Lost.l0 k x0 x1 x5 (wrap64 (x6 + 1)))) else (carrefourref12_Lost.l0 k x0 x1 x5 (wrap64 (x6 + 1)))) else (none)) else (some x5)
def carrefourref12_Lost.f (k : Nat) (l0 : List (S46)) (l1 : List Int) : Option (Int) := carrefourref12_Lost.l0 k l0 l1 0 0
theorem carrefourref12_Lost.mono_l : ∀ k, (∀ y0 y1 y2 y3, LeO (carrefourref12_Lost.l0 k y0 y1 y2 y3) (carrefourref12_Lost.l0 (k + 1) y0 y1 y2 y3))
  | 0 => fun _ _ _ _ r h => by simp [carrefourref12_Lost.l0] at h
  | k + 1 => by
    have ih0 := carrefourref12_Lost.mono_l k
    · intro y0 y1 y2 y3
      unfold carrefourref12_Lost.l0
      repeat' with_reducible first | exact ih0 _ _ _ _ | exact LeO.refl _ | exact LeO.none _ | refine LeO.ite ?_ ?_ | refine LeO.bind ?_ (fun _ => ?_)
theorem carrefourref12_Lost.mono : ∀ a0 a1 k, LeO (carrefourref12_Lost.f k a0 a1) (carrefourref12_Lost.f (k + 1) a0 a1) := by
  intro a0 a1 k
  have ih0 := carrefourref12_Lost.mono_l k
  unfold carrefourref12_Lost.f
  repeat' with_reducible first | exact ih0 _ _ _ _ | exact LeO.refl _ | exact LeO.none _ | refine LeO.ite ?_ ?_ | refine LeO.bind ?_ (fun _ => ?_)
/-! ### carrefourlaw12_WebsterLost: function 7 -/
mutual
def carrefourlaw12_WebsterLost.j0 : Nat → List (S46) → List Int → Bool → Option (Bool)
  | 0, _, _, _ => none
  | k + 1, x0, x1, x13 => if x13 = true then (some true) else (carrefourlaw12_WebsterLost.l0 k x0 x1 0)
def carrefourlaw12_WebsterLost.l0 : Nat → List (S46) → List Int → Int → Option (Bool)
  | 0, _, _, _ => none
  | k + 1, x0, x1, x5 => if x5 < (x0.length : Int) then (if 0 ≤ x5 then (if ((rd_T46 x0 x5).f2) < 0 then (some true) else (if ((rd_T46 x0 x5).f2) > 1000000000000 then (some true) else (if ((rd_T46 x0 x5).f3) < 0 then (some true) else (if ((rd_T46 x0 x5).f3) > 1000000000000 then (some true) else (carrefourlaw12_WebsterLost.l0 k x0 x1 (wrap64 (x5 + 1))))))) else (none)) else ((webster_Lost.f k x0 x1).bind fun t286 => ((carrefourref12_Lost.f k x0 x1).bind fun t287 => (if t286 = t287 then ((carrefourlaw12_awake.f k).bind fun t288 => (some t288)) else (some false))))
end
def carrefourlaw12_WebsterLost.f (k : Nat) (l0 : List (S46)) (l1 : List Int) : Option (Bool) := if (l0.length : Int) > 50 then (carrefourlaw12_WebsterLost.j0 k l0 l1 true) else (carrefourlaw12_WebsterLost.j0 k l0 l1 (decide ((l1.length : Int) > 50)))
theorem carrefourlaw12_WebsterLost.mono_l : ∀ k, (∀ y0 y1 y2, LeO (carrefourlaw12_WebsterLost.j0 k y0 y1 y2) (carrefourlaw12_WebsterLost.j0 (k + 1) y0 y1 y2)) ∧ (∀ y0 y1 y2, LeO (carrefourlaw12_WebsterLost.l0 k y0 y1 y2) (carrefourlaw12_WebsterLost.l0 (k + 1) y0 y1 y2))
  | 0 => ⟨fun _ _ _ r h => by simp [carrefourlaw12_WebsterLost.j0] at h, fun _ _ _ r h => by simp [carrefourlaw12_WebsterLost.l0] at h⟩
  | k + 1 => by
    obtain ⟨ih0, ih1⟩ := carrefourlaw12_WebsterLost.mono_l k
    refine ⟨?_, ?_⟩
    · intro y0 y1 y2
      unfold carrefourlaw12_WebsterLost.j0
      repeat' with_reducible first | exact ih0 _ _ _ | exact ih1 _ _ _ | exact carrefourlaw12_awake.mono _ | exact carrefourref12_Lost.mono _ _ _ | exact webster_Lost.mono _ _ _ | exact LeO.refl _ | exact LeO.none _ | refine LeO.ite ?_ ?_ | refine LeO.bind ?_ (fun _ => ?_)
    · intro y0 y1 y2
      unfold carrefourlaw12_WebsterLost.l0
      repeat' with_reducible first | exact ih0 _ _ _ | exact ih1 _ _ _ | exact carrefourlaw12_awake.mono _ | exact carrefourref12_Lost.mono _ _ _ | exact webster_Lost.mono _ _ _ | exact LeO.refl _ | exact LeO.none _ | refine LeO.ite ?_ ?_ | refine LeO.bind ?_ (fun _ => ?_)
theorem carrefourlaw12_WebsterLost.mono : ∀ a0 a1 k, LeO (carrefourlaw12_WebsterLost.f k a0 a1) (carrefourlaw12_WebsterLost.f (k + 1) a0 a1) := by
  intro a0 a1 k
  obtain ⟨ih0, ih1⟩ := carrefourlaw12_WebsterLost.mono_l k
  unfold carrefourlaw12_WebsterLost.f
  repeat' with_reducible first | exact ih0 _ _ _ | exact ih1 _ _ _ | exact carrefourlaw12_awake.mono _ | exact carrefourref12_Lost.mono _ _ _ | exact webster_Lost.mono _ _ _ | exact LeO.refl _ | exact LeO.none _ | refine LeO.ite ?_ ?_ | refine LeO.bind ?_ (fun _ => ?_)
end Go.Proofs.YtpdmiookdmncpaaDoor.X
