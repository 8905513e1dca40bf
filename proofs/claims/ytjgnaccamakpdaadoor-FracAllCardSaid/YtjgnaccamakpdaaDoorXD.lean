/- Walks: each '.calls' says that the Go function comes to what its Lean function tells. Conditions: as each theorem's head says. -/
import Derived.Test.YtjgnaccamakpdaaDoorX0
namespace Go.Proofs.YtjgnaccamakpdaaDoor.X
open Go.RowKit Go.Proofs.YtjgnaccamakpdaaDoorW.PrintWords Go.Proofs.YtjgnaccamakpdaaDoorW.PrintLast Go.Proofs.YtjgnaccamakpdaaDoorW.PrintMore
attribute [local go_sem] max2_int min2_int max_two min_two max_three min_three max_four min_four   -- for this text's walks alone
set_option linter.unusedVariables false
set_option maxHeartbeats 8000000
set_option maxRecDepth 100000
set_option linter.unusedSimpArgs false

/-! ### carrefourlaw02_same: function 14 -/
def carrefourlaw02_same.f (a0_0 : Int) (a0_1 : Int) (a1 : Int) (a2_0 : Int) (a2_1 : Int) (a3 : Int) : Option (Bool) := if (a0_0 == a2_0 && (a0_1 == a2_1)) = true then (some (a1 == a3)) else (some false)
/-! ### frac_wide_cmp: function 87 -/
def frac_wide_cmp.f (a0_0 : Int) (a0_1 : Int) (a1_0 : Int) (a1_1 : Int) : Option (Int) := if (a0_0 == a1_0 && (a0_1 == a1_1)) = true then (some 0) else (if a0_0 < a1_0 then (some (-1)) else (if a0_0 = a1_0 then (if a0_1 < a1_1 then (some (-1)) else (some 1)) else (some 1)))
/-! ### bits_Sub64: function 102 -/
def bits_Sub64.f (a0 : Int) (a1 : Int) (a2 : Int) : Option (Int × Int) := if 0 ≤ a0 ∧ 0 ≤ a1 ∧ a1 < 18446744073709551616 ∧ 0 ≤ a2 ∧ a2 ≤ 1 then some ((a0 - a1 - a2) % 18446744073709551616, if a0 < a1 + a2 then 1 else 0) else none
/-- The model's entry for math/bits.Sub64. -/
def sub64Entry : Array Value → Sem Value := fun args => do
  let (x, y, b) ← Extern.MathBitsCarry.three "Sub64" args
  pure (Extern.MathBitsCarry.pair ((x + Extern.MathBitsCarry.m64 - y - b) % Extern.MathBitsCarry.m64) (if x < y + b then 1 else 0))
/-! ### frac_wide_minus: function 88 -/
def frac_wide_minus.f (a0_0 : Int) (a0_1 : Int) (a1_0 : Int) (a1_1 : Int) : Option (Int × Int) := (bits_Sub64.f a0_1 a1_1 0).bind fun bt108 => ((bits_Sub64.f a0_0 a1_0 bt108.2).bind fun bt110 => (some (bt110.1, bt108.1)))
/-! ### frac_wide_zero: function 89 -/
def frac_wide_zero.f (a0_0 : Int) (a0_1 : Int) : Option (Bool) := some ((Go.bits .or .u64 a0_0 a0_1) == 0)
/-! ### bits_TrailingZeros64: function 94 -/
def bits_TrailingZeros64.f (a0 : Int) : Option Int := if 0 ≤ a0 ∧ a0 < 18446744073709551616 then some ((Lib.ctz 64 a0.toNat : Nat) : Int) else none
/-! ### frac_wide_twos: function 90 -/
def frac_wide_twos.f (a0_0 : Int) (a0_1 : Int) : Option (Int) := if a0_1 = 0 then ((bits_TrailingZeros64.f a0_0).bind fun t114 => (some (wrap64 (64 + t114)))) else ((bits_TrailingZeros64.f a0_1).bind fun t115 => (some t115))
/-! ### frac_wide_down: function 91 -/
def frac_wide_down.f (a0_0 : Int) (a0_1 : Int) (a1 : Int) : Option (Int × Int) := if a1 ≥ 64 then (if 0 ≤ (wrap64 (a1 - 64)) then (some (0, shr .u64 a0_0 (wrap64 (a1 - 64)))) else (none)) else (if 0 ≤ a1 then (if 0 ≤ (wrap64 (64 - a1)) then (some (shr .u64 a0_0 a1, Go.bits .or .u64 (shr .u64 a0_1 a1) (shl .u64 a0_0 (wrap64 (64 - a1))))) else (none)) else (none))
/-! ### frac_wide_up: function 92 -/
def frac_wide_up.f (a0_0 : Int) (a0_1 : Int) (a1 : Int) : Option (Int × Int) := if a1 ≥ 64 then (if 0 ≤ (wrap64 (a1 - 64)) then (some (shl .u64 a0_1 (wrap64 (a1 - 64)), 0)) else (none)) else (if 0 ≤ a1 then (if 0 ≤ (wrap64 (64 - a1)) then (some (Go.bits .or .u64 (shl .u64 a0_0 a1) (shr .u64 a0_1 (wrap64 (64 - a1))), shl .u64 a0_1 a1)) else (none)) else (none))
/-! ### frac_gcd: function 72 -/
def frac_gcd.l0 : Nat → Int → Int → Int → Int → Int → Option (Int × Int)
  | 0, _, _, _, _, _ => none
  | k + 1, x5, x121000, x121001, x122000, x122001 => (frac_wide_zero.f x122000 x122001).bind fun t130 => (if t130 = true then ((frac_wide_up.f x121000 x121001 x5).bind fun bt131 => (some (bt131.1, bt131.2))) else ((frac_wide_twos.f x122000 x122001).bind fun t133 => ((frac_wide_down.f x122000 x122001 t133).bind fun bt134 => ((frac_wide_cmp.f x121000 x121001 bt134.1 bt134.2).bind fun t136 => (if t136 > 0 then ((frac_wide_minus.f x121000 x121001 bt134.1 bt134.2).bind fun bt137 => (frac_gcd.l0 k x5 bt134.1 bt134.2 bt137.1 bt137.2)) else ((frac_wide_minus.f bt134.1 bt134.2 x121000 x121001).bind fun bt139 => (frac_gcd.l0 k x5 x121000 x121001 bt139.1 bt139.2)))))))
def frac_gcd.f (k : Nat) (a0_0 : Int) (a0_1 : Int) (a1_0 : Int) (a1_1 : Int) : Option (Int × Int) := (frac_wide_zero.f a0_0 a0_1).bind fun t123 => (if t123 = true then (some (a1_0, a1_1)) else ((frac_wide_zero.f a1_0 a1_1).bind fun t124 => (if t124 = true then (some (a0_0, a0_1)) else ((frac_wide_twos.f a0_0 a0_1).bind fun t125 => ((frac_wide_twos.f a1_0 a1_1).bind fun t126 => ((frac_wide_twos.f a0_0 a0_1).bind fun t127 => ((frac_wide_down.f a0_0 a0_1 t127).bind fun bt128 => (frac_gcd.l0 k (mn t125 t126) bt128.1 bt128.2 a1_0 a1_1))))))))
theorem frac_gcd.mono_l : ∀ k, (∀ y0 y1 y2 y3 y4, LeO (frac_gcd.l0 k y0 y1 y2 y3 y4) (frac_gcd.l0 (k + 1) y0 y1 y2 y3 y4))
  | 0 => fun _ _ _ _ _ r h => by simp [frac_gcd.l0] at h
  | k + 1 => by
    have ih0 := frac_gcd.mono_l k
    · intro y0 y1 y2 y3 y4
      unfold frac_gcd.l0
      repeat' with_reducible first | exact ih0 _ _ _ _ _ | exact LeO.refl _ | exact LeO.none _ | refine LeO.ite ?_ ?_ | refine LeO.bind ?_ (fun _ => ?_)
theorem frac_gcd.mono : ∀ a0 a1 a2 a3 k, LeO (frac_gcd.f k a0 a1 a2 a3) (frac_gcd.f (k + 1) a0 a1 a2 a3) := by
  intro a0 a1 a2 a3 k
  have ih0 := frac_gcd.mono_l k
  unfold frac_gcd.f
  repeat' with_reducible first | exact ih0 _ _ _ _ _ | exact LeO.refl _ | exact LeO.none _ | refine LeO.ite ?_ ?_ | refine LeO.bind ?_ (fun _ => ?_)
/-! ### bits_Len64: function 103 -/
def bits_Len64.f (a0 : Int) : Option Int := if 0 ≤ a0 ∧ a0 ≤ 18446744073709551615 then some ((Lib.bitLen a0.toNat : Nat) : Int) else none
/-! ### frac_wide_long: function 93 -/
def frac_wide_long.f (a0_0 : Int) (a0_1 : Int) : Option (Int) := if a0_0 = 0 then ((bits_Len64.f a0_1).bind fun t142 => (some t142)) else ((bits_Len64.f a0_0).bind fun t143 => (some (wrap64 (64 + t143))))
/-! ### frac_wide_over: function 73 -/
def frac_wide_over.l0 : Nat → Int → Int → Int → Int → Int → Int → Int → Option (Int × Int)
  | 0, _, _, _, _, _, _, _ => none
  | k + 1, x6, x145000, x145001, x146000, x146001, x148000, x148001 => if x6 ≥ 0 then ((frac_wide_up.f x148000 x148001 1).bind fun bt150 => ((frac_wide_up.f x146000 x146001 x6).bind fun bt152 => ((frac_wide_cmp.f bt152.1 bt152.2 x145000 x145001).bind fun t155 => (if t155 ≤ 0 then ((frac_wide_minus.f x145000 x145001 bt152.1 bt152.2).bind fun bt156 => (frac_wide_over.l0 k (wrap64 (x6 - 1)) bt156.1 bt156.2 x146000 x146001 bt150.1 (Go.bits .or .u64 bt150.2 1))) else (frac_wide_over.l0 k (wrap64 (x6 - 1)) x145000 x145001 x146000 x146001 bt150.1 bt150.2))))) else (some (x148000, x148001))
def frac_wide_over.f (k : Nat) (a0_0 : Int) (a0_1 : Int) (a1_0 : Int) (a1_1 : Int) : Option (Int × Int) := (frac_wide_long.f a0_0 a0_1).bind fun t148 => ((frac_wide_long.f a1_0 a1_1).bind fun t149 => (frac_wide_over.l0 k (wrap64 (t148 - t149)) a0_0 a0_1 a1_0 a1_1 0 0))
theorem frac_wide_over.mono_l : ∀ k, (∀ y0 y1 y2 y3 y4 y5 y6, LeO (frac_wide_over.l0 k y0 y1 y2 y3 y4 y5 y6) (frac_wide_over.l0 (k + 1) y0 y1 y2 y3 y4 y5 y6))
  | 0 => fun _ _ _ _ _ _ _ r h => by simp [frac_wide_over.l0] at h
  | k + 1 => by
    have ih0 := frac_wide_over.mono_l k
    · intro y0 y1 y2 y3 y4 y5 y6
      unfold frac_wide_over.l0
      repeat' with_reducible first | exact ih0 _ _ _ _ _ _ _ | exact LeO.refl _ | exact LeO.none _ | refine LeO.ite ?_ ?_ | refine LeO.bind ?_ (fun _ => ?_)
theorem frac_wide_over.mono : ∀ a0 a1 a2 a3 k, LeO (frac_wide_over.f k a0 a1 a2 a3) (frac_wide_over.f (k + 1) a0 a1 a2 a3) := by
  intro a0 a1 a2 a3 k
  have ih0 := frac_wide_over.mono_l k
  unfold frac_wide_over.f
  repeat' with_reducible first | exact ih0 _ _ _ _ _ _ _ | exact LeO.refl _ | exact LeO.none _ | refine LeO.ite ?_ ?_ | refine LeO.bind ?_ (fun _ => ?_)
/-! ### frac_signed_whole: function 74 -/
def frac_signed_whole.f (a0_0 : Bool) (a0_1 : Int) (a0_2 : Int) : Option (Int × Bool) := if a0_1 = 0 then (if a0_0 = true then (some (wrap64 (IntKind.u64.wrap (-a0_2)), decide (a0_2 ≤ 9223372036854775808))) else (some (wrap64 (a0_2), decide (a0_2 < 9223372036854775808)))) else (some (0, false))
/-! ### frac_reduced: function 51 -/
def frac_reduced.f (k : Nat) (a0_0 : Bool) (a0_1 : Int) (a0_2 : Int) (a1_0 : Bool) (a1_1 : Int) (a1_2 : Int) : Option (Int × Int × Int) := (frac_gcd.f k a0_1 a0_2 a1_1 a1_2).bind fun bt162 => ((frac_wide_over.f k a0_1 a0_2 bt162.1 bt162.2).bind fun bt165 => ((frac_wide_over.f k a1_1 a1_2 bt162.1 bt162.2).bind fun bt167 => ((frac_signed_whole.f (a0_0 != a1_0) bt165.1 bt165.2).bind fun bt169 => ((frac_signed_whole.f false bt167.1 bt167.2).bind fun bt171 => (if bt169.2 = true then (if bt171.2 = true then (some (bt169.1, bt171.1, 0)) else (some (0, 0, 2))) else (some (0, 0, 2)))))))
theorem frac_reduced.mono : ∀ a0 a1 a2 a3 a4 a5 k, LeO (frac_reduced.f k a0 a1 a2 a3 a4 a5) (frac_reduced.f (k + 1) a0 a1 a2 a3 a4 a5) := by
  intro a0 a1 a2 a3 a4 a5 k
  unfold frac_reduced.f
  repeat' with_reducible first | exact frac_gcd.mono _ _ _ _ _ | exact frac_wide_over.mono _ _ _ _ _ | exact LeO.refl _ | exact LeO.none _ | refine LeO.ite ?_ ?_ | refine LeO.bind ?_ (fun _ => ?_)
/-! ### frac_sized: function 52 -/
def frac_sized.f (a0 : Int) : Option (Bool × Int × Int) := if a0 < 0 then (some (true, 0, IntKind.u64.wrap (-(IntKind.u64.wrap (a0))))) else (some (false, 0, IntKind.u64.wrap (a0)))
/-! ### whole_signed: function 76 -/
def whole_signed.j0 : Nat → Int → Bool → Option (Int × Int)
  | 0, _, _ => none
  | k + 1, x0, x6 => if x6 = true then (some (wrap64 (IntKind.u64.wrap (-x0)), 0)) else (if x0 ≤ 9223372036854775807 then (some (wrap64 (x0), 0)) else (some (0, 2)))
def whole_signed.f (k : Nat) (a0 : Int) (a1 : Int) : Option (Int × Int) := if a1 < 0 then (whole_signed.j0 k a0 (decide (a0 ≤ 9223372036854775808))) else (whole_signed.j0 k a0 false)
theorem whole_signed.mono_l : ∀ k, (∀ y0 y1, LeO (whole_signed.j0 k y0 y1) (whole_signed.j0 (k + 1) y0 y1))
  | 0 => fun _ _ r h => by simp [whole_signed.j0] at h
  | k + 1 => by
    have ih0 := whole_signed.mono_l k
    · intro y0 y1
      unfold whole_signed.j0
      repeat' with_reducible first | exact ih0 _ _ | exact LeO.refl _ | exact LeO.none _ | refine LeO.ite ?_ ?_ | refine LeO.bind ?_ (fun _ => ?_)
theorem whole_signed.mono : ∀ a0 a1 k, LeO (whole_signed.f k a0 a1) (whole_signed.f (k + 1) a0 a1) := by
  intro a0 a1 k
  have ih0 := whole_signed.mono_l k
  unfold whole_signed.f
  repeat' with_reducible first | exact ih0 _ _ | exact LeO.refl _ | exact LeO.none _ | refine LeO.ite ?_ ?_ | refine LeO.bind ?_ (fun _ => ?_)
/-! ### whole_gcd: function 77 -/
mutual
def whole_gcd.j0 : Nat → Int → Int → Bool → Option (Int)
  | 0, _, _, _ => none
  | k + 1, x0, x1, x11 => if x11 = true then (some (Go.bits .or .u64 x0 x1)) else ((bits_TrailingZeros64.f (Go.bits .or .u64 x0 x1)).bind fun t174 => ((bits_TrailingZeros64.f x0).bind fun t175 => (if 0 ≤ t175 then (whole_gcd.l0 k (shr .u64 x0 t175) x1 t174) else (none))))
def whole_gcd.l0 : Nat → Int → Int → Int → Option (Int)
  | 0, _, _, _ => none
  | k + 1, x0, x1, x5 => if x1 = 0 then (if 0 ≤ x5 then (some (shl .u64 x0 x5)) else (none)) else ((bits_TrailingZeros64.f x1).bind fun t176 => (if 0 ≤ t176 then (if x0 > (shr .u64 x1 t176) then (whole_gcd.l0 k (shr .u64 x1 t176) (IntKind.u64.wrap (x0 - (shr .u64 x1 t176))) x5) else (whole_gcd.l0 k x0 (IntKind.u64.wrap ((shr .u64 x1 t176) - x0)) x5)) else (none)))
end
def whole_gcd.f (k : Nat) (a0 : Int) (a1 : Int) : Option (Int) := if a0 = 0 then (whole_gcd.j0 k a0 a1 true) else (whole_gcd.j0 k a0 a1 (a1 == 0))
theorem whole_gcd.mono_l : ∀ k, (∀ y0 y1 y2, LeO (whole_gcd.j0 k y0 y1 y2) (whole_gcd.j0 (k + 1) y0 y1 y2)) ∧ (∀ y0 y1 y2, LeO (whole_gcd.l0 k y0 y1 y2) (whole_gcd.l0 (k + 1) y0 y1 y2))
  | 0 => ⟨fun _ _ _ r h => by simp [whole_gcd.j0] at h, fun _ _ _ r h => by simp [whole_gcd.l0] at h⟩
  | k + 1 => by
    obtain ⟨ih0, ih1⟩ := whole_gcd.mono_l k
    refine ⟨?_, ?_⟩
    · intro y0 y1 y2
      unfold whole_gcd.j0
      repeat' with_reducible first | exact ih0 _ _ _ | exact ih1 _ _ _ | exact LeO.refl _ | exact LeO.none _ | refine LeO.ite ?_ ?_ | refine LeO.bind ?_ (fun _ => ?_)
    · intro y0 y1 y2
      unfold whole_gcd.l0
      repeat' with_reducible first | exact ih0 _ _ _ | exact ih1 _ _ _ | exact LeO.refl _ | exact LeO.none _ | refine LeO.ite ?_ ?_ | refine LeO.bind ?_ (fun _ => ?_)
theorem whole_gcd.mono : ∀ a0 a1 k, LeO (whole_gcd.f k a0 a1) (whole_gcd.f (k + 1) a0 a1) := by
  intro a0 a1 k
  obtain ⟨ih0, ih1⟩ := whole_gcd.mono_l k
  unfold whole_gcd.f
  repeat' with_reducible first | exact ih0 _ _ _ | exact ih1 _ _ _ | exact LeO.refl _ | exact LeO.none _ | refine LeO.ite ?_ ?_ | refine LeO.bind ?_ (fun _ => ?_)
/-! ### whole_size: function 78 -/
def whole_size.f (a0 : Int) : Option (Int) := if a0 < 0 then (some (IntKind.u64.wrap (-(IntKind.u64.wrap (a0))))) else (some (IntKind.u64.wrap (a0)))
/-! ### whole_Gcd: function 55 -/
def whole_Gcd.f (k : Nat) (a0 : Int) (a1 : Int) : Option (Int × Int) := (whole_size.f a0).bind fun t177 => ((whole_size.f a1).bind fun t178 => ((whole_gcd.f k t177 t178).bind fun t179 => ((whole_signed.f k t179 1).bind fun bt180 => (some (bt180.1, bt180.2)))))
theorem whole_Gcd.mono : ∀ a0 a1 k, LeO (whole_Gcd.f k a0 a1) (whole_Gcd.f (k + 1) a0 a1) := by
  intro a0 a1 k
  unfold whole_Gcd.f
  repeat' with_reducible first | exact whole_gcd.mono _ _ _ | exact whole_signed.mono _ _ _ | exact LeO.refl _ | exact LeO.none _ | refine LeO.ite ?_ ?_ | refine LeO.bind ?_ (fun _ => ?_)
/-! ### frac_Right: function 18 -/
def frac_Right.f (k : Nat) (a0_0 : Int) (a0_1 : Int) : Option (Bool) := (whole_Gcd.f k a0_0 a0_1).bind fun bt183 => (if a0_1 ≥ 1 then (if bt183.2 = 0 then (some (bt183.1 == 1)) else (some false)) else (some false))
theorem frac_Right.mono : ∀ a0 a1 k, LeO (frac_Right.f k a0 a1) (frac_Right.f (k + 1) a0 a1) := by
  intro a0 a1 k
  unfold frac_Right.f
  repeat' with_reducible first | exact whole_Gcd.mono _ _ _ | exact LeO.refl _ | exact LeO.none _ | refine LeO.ite ?_ ?_ | refine LeO.bind ?_ (fun _ => ?_)
/-! ### frac_nought: function 66 -/
def frac_nought.f  : Option (Int × Int) := some (0, 1)
/-! ### frac_norm: function 56 -/
def frac_norm.f (k : Nat) (a0_0 : Int) (a0_1 : Int) : Option (Int × Int) := (frac_Right.f k a0_0 a0_1).bind fun t188 => (if t188 = true then (some (a0_0, a0_1)) else ((frac_nought.f).bind fun bt189 => (some (bt189.1, bt189.2))))
theorem frac_norm.mono : ∀ a0 a1 k, LeO (frac_norm.f k a0 a1) (frac_norm.f (k + 1) a0 a1) := by
  intro a0 a1 k
  unfold frac_norm.f
  repeat' with_reducible first | exact frac_Right.mono _ _ _ | exact LeO.refl _ | exact LeO.none _ | refine LeO.ite ?_ ?_ | refine LeO.bind ?_ (fun _ => ?_)
/-! ### bits_Mul64: function 95 -/
def bits_Mul64.f (a0 : Int) (a1 : Int) : Option (Int × Int) := some (IntKind.u64.wrap ((IntKind.u64.wrap ((IntKind.u64.wrap ((a0 / 4294967296) * (a1 / 4294967296))) + ((IntKind.u64.wrap ((IntKind.u64.wrap ((a0 / 4294967296) * (Go.bits .and .u64 a1 4294967295))) + ((IntKind.u64.wrap ((Go.bits .and .u64 a0 4294967295) * (Go.bits .and .u64 a1 4294967295))) / 4294967296))) / 4294967296))) + ((IntKind.u64.wrap ((Go.bits .and .u64 (IntKind.u64.wrap ((IntKind.u64.wrap ((a0 / 4294967296) * (Go.bits .and .u64 a1 4294967295))) + ((IntKind.u64.wrap ((Go.bits .and .u64 a0 4294967295) * (Go.bits .and .u64 a1 4294967295))) / 4294967296))) 4294967295) + (IntKind.u64.wrap ((Go.bits .and .u64 a0 4294967295) * (a1 / 4294967296))))) / 4294967296)), IntKind.u64.wrap (a0 * a1))
/-! ### frac_multiply: function 79 -/
def frac_multiply.f (a0 : Int) (a1 : Int) : Option (Int × Int) := (bits_Mul64.f a0 a1).bind fun bt192 => (some (bt192.1, bt192.2))
/-! ### frac_signed_times: function 57 -/
def frac_signed_times.f (a0_0 : Bool) (a0_1 : Int) (a0_2 : Int) (a1_0 : Bool) (a1_1 : Int) (a1_2 : Int) : Option (Bool × Int × Int) := (frac_multiply.f a0_2 a1_2).bind fun bt197 => (some ((a0_0 != a1_0), bt197.1, bt197.2))
/-! ### bits_Add64: function 101 -/
def bits_Add64.f (a0 : Int) (a1 : Int) (a2 : Int) : Option (Int × Int) := if 0 ≤ a0 ∧ 0 ≤ a1 ∧ 0 ≤ a2 ∧ a2 ≤ 1 then some ((a0 + a1 + a2) % 18446744073709551616, (a0 + a1 + a2) / 18446744073709551616) else none
/-! ### frac_wide_plus: function 86 -/
def frac_wide_plus.f (a0_0 : Int) (a0_1 : Int) (a1_0 : Int) (a1_1 : Int) : Option (Int × Int) := (bits_Add64.f a0_1 a1_1 0).bind fun bt202 => ((bits_Add64.f a0_0 a1_0 bt202.2).bind fun bt204 => (some (bt204.1, bt202.1)))
/-! ### frac_signed_plus: function 67 -/
def frac_signed_plus.f (a0_0 : Bool) (a0_1 : Int) (a0_2 : Int) (a1_0 : Bool) (a1_1 : Int) (a1_2 : Int) : Option (Bool × Int × Int) := if (a0_0 == a1_0) = true then ((frac_wide_plus.f a0_1 a0_2 a1_1 a1_2).bind fun bt209 => (some (a0_0, bt209.1, bt209.2))) else ((frac_wide_cmp.f a0_1 a0_2 a1_1 a1_2).bind fun t211 => (if t211 ≥ 0 then ((frac_wide_minus.f a0_1 a0_2 a1_1 a1_2).bind fun bt212 => (some (a0_0, bt212.1, bt212.2))) else ((frac_wide_minus.f a1_1 a1_2 a0_1 a0_2).bind fun bt214 => (some (a1_0, bt214.1, bt214.2)))))
/-! ### frac_Add_1: function 38 -/
def frac_Add_1.f (a0_0 : Bool) (a0_1 : Int) (a0_2 : Int) : Option (Bool × Int × Int) := some (a0_0, a0_1, a0_2)
/-! ### frac_added_fn38: function 900000 -/
def frac_added_fn38.f (k : Nat) (a0_0 : Int) (a0_1 : Int) (a1_0 : Int) (a1_1 : Int) : Option (Int × Int × Int) := (frac_norm.f k a0_0 a0_1).bind fun bt221 => ((frac_norm.f k a1_0 a1_1).bind fun bt223 => ((frac_sized.f bt221.1).bind fun bt225 => ((frac_sized.f bt223.2).bind fun bt228 => ((frac_signed_times.f bt225.1 bt225.2.1 bt225.2.2 bt228.1 bt228.2.1 bt228.2.2).bind fun bt231 => ((frac_sized.f bt223.1).bind fun bt235 => ((frac_sized.f bt221.2).bind fun bt238 => ((frac_signed_times.f bt235.1 bt235.2.1 bt235.2.2 bt238.1 bt238.2.1 bt238.2.2).bind fun bt241 => ((frac_Add_1.f bt241.1 bt241.2.1 bt241.2.2).bind fun bt244 => ((frac_signed_plus.f bt231.1 bt231.2.1 bt231.2.2 bt244.1 bt244.2.1 bt244.2.2).bind fun bt248 => ((frac_sized.f bt221.2).bind fun bt251 => ((frac_sized.f bt223.2).bind fun bt254 => ((frac_signed_times.f bt251.1 bt251.2.1 bt251.2.2 bt254.1 bt254.2.1 bt254.2.2).bind fun bt257 => ((frac_reduced.f k bt248.1 bt248.2.1 bt248.2.2 bt257.1 bt257.2.1 bt257.2.2).bind fun bt260 => (some (bt260.1, bt260.2.1, bt260.2.2)))))))))))))))
theorem frac_added_fn38.mono : ∀ a0 a1 a2 a3 k, LeO (frac_added_fn38.f k a0 a1 a2 a3) (frac_added_fn38.f (k + 1) a0 a1 a2 a3) := by
  intro a0 a1 a2 a3 k
  unfold frac_added_fn38.f
  repeat' with_reducible first | exact frac_norm.mono _ _ _ | exact frac_reduced.mono _ _ _ _ _ _ _ | exact LeO.refl _ | exact LeO.none _ | refine LeO.ite ?_ ?_ | refine LeO.bind ?_ (fun _ => ?_)
/-! ### frac_Add: function 10 -/
def frac_Add.f (k : Nat) (a0_0 : Int) (a0_1 : Int) (a1_0 : Int) (a1_1 : Int) : Option (Int × Int × Int) := (frac_added_fn38.f k a0_0 a0_1 a1_0 a1_1).bind fun bt266 => (some (bt266.1, bt266.2.1, bt266.2.2))
theorem frac_Add.mono : ∀ a0 a1 a2 a3 k, LeO (frac_Add.f k a0 a1 a2 a3) (frac_Add.f (k + 1) a0 a1 a2 a3) := by
  intro a0 a1 a2 a3 k
  unfold frac_Add.f
  repeat' with_reducible first | exact frac_added_fn38.mono _ _ _ _ _ | exact LeO.refl _ | exact LeO.none _ | refine LeO.ite ?_ ?_ | refine LeO.bind ?_ (fun _ => ?_)
/-! ### whole_Sub: function 96 -/
def whole_Sub.f (a0 : Int) (a1 : Int) : Option (Int × Int) := if ((decide ((wrap64 (a0 - a1)) > a0)) != (decide (a1 < 0))) = true then (some (0, 2)) else (some (wrap64 (a0 - a1), 0))
/-! ### whole_Neg: function 84 -/
def whole_Neg.f (a0 : Int) : Option (Int × Int) := (whole_Sub.f 0 a0).bind fun bt269 => (some (bt269.1, bt269.2))
/-! ### whole_Floor: function 60 -/
def whole_Floor.f (a0 : Int) (a1 : Int) : Option (Int × Int) := if a1 = 0 then (some (0, 3)) else (if a1 = (-1) then ((whole_Neg.f a0).bind fun bt271 => (some (bt271.1, bt271.2))) else (if (Int.tmod a0 a1) = 0 then (some (wrap64 (Int.tdiv a0 a1), 0)) else (if ((decide ((Int.tmod a0 a1) < 0)) != (decide (a1 < 0))) = true then (some (wrap64 ((wrap64 (Int.tdiv a0 a1)) - 1), 0)) else (some (wrap64 (Int.tdiv a0 a1), 0)))))
/-! ### frac_Floor: function 27 -/
def frac_Floor.f (k : Nat) (a0_0 : Int) (a0_1 : Int) : Option (Int) := (frac_norm.f k a0_0 a0_1).bind fun bt274 => ((whole_Floor.f bt274.1 bt274.2).bind fun bt276 => (some bt276.1))
theorem frac_Floor.mono : ∀ a0 a1 k, LeO (frac_Floor.f k a0 a1) (frac_Floor.f (k + 1) a0 a1) := by
  intro a0 a1 k
  unfold frac_Floor.f
  repeat' with_reducible first | exact frac_norm.mono _ _ _ | exact LeO.refl _ | exact LeO.none _ | refine LeO.ite ?_ ?_ | refine LeO.bind ?_ (fun _ => ?_)
/-! ### strconv_FormatInt: function 64 -/
/-- strconv.FormatInt at base 10: by the shelf's contract. -/
def strconv_FormatInt.f (a0 a1 : Int) : Option ByteArray := if a1 = 10 ∧ -9223372036854775808 ≤ a0 ∧ a0 ≤ 9223372036854775807 then some ⟨(Lib.itoa a0).toArray⟩ else none
/-! ### frac_Print: function 31 -/
def frac_Print.f (k : Nat) (a0_0 : Int) (a0_1 : Int) : Option (ByteArray) := (frac_norm.f k a0_0 a0_1).bind fun bt279 => ((strconv_FormatInt.f bt279.1 10).bind fun t281 => (if t281.size + 1 ≤ 9223372036854775807 then ((strconv_FormatInt.f bt279.2 10).bind fun t282 => (if (t281 ++ (⟨#[47]⟩ : ByteArray)).size + t282.size ≤ 9223372036854775807 then (some ((t281 ++ (⟨#[47]⟩ : ByteArray)) ++ t282)) else (none))) else (none)))
theorem frac_Print.mono : ∀ a0 a1 k, LeO (frac_Print.f k a0 a1) (frac_Print.f (k + 1) a0 a1) := by
  intro a0 a1 k
  unfold frac_Print.f
  repeat' with_reducible first | exact frac_norm.mono _ _ _ | exact LeO.refl _ | exact LeO.none _ | refine LeO.ite ?_ ?_ | refine LeO.bind ?_ (fun _ => ?_)
/-! ### carrefourlaw02_awake: function 15 -/
def carrefourlaw02_awake.f (k : Nat)  : Option (Bool) := (frac_Add.f k 1 6 1 10).bind fun bt283 => ((frac_Add.f k 1 4611686018427387904 1 4611686018427387903).bind fun bt287 => (if bt283.2.2 = 0 then (if (bt283.1 == 4 && (bt283.2.1 == 15)) = true then (if bt287.2.2 = 2 then ((frac_Floor.f k (-1) 2).bind fun t291 => (if t291 = (-1) then ((frac_Print.f k bt283.1 bt283.2.1).bind fun t292 => (some (t292.toList == ([52, 47, 49, 53] : List UInt8)))) else (some false))) else (some false)) else (some false)) else (some false)))
theorem carrefourlaw02_awake.mono : ∀ k, LeO (carrefourlaw02_awake.f k ) (carrefourlaw02_awake.f (k + 1) ) := by
  intro  k
  unfold carrefourlaw02_awake.f
  repeat' with_reducible first | exact frac_Add.mono _ _ _ _ _ | exact frac_Floor.mono _ _ _ | exact frac_Print.mono _ _ _ | exact LeO.refl _ | exact LeO.none _ | refine LeO.ite ?_ ?_ | refine LeO.bind ?_ (fun _ => ?_)
/-! ### frac_Sum: function 33 -/
def frac_Sum.l0 : Nat → List (S23) → Int → Int → Int → Int → Option (Int × Int × Int)
  | 0, _, _, _, _, _ => none
  | k + 1, x10, x11, x12, x297000, x297001 => if x12 < x11 then (if 0 ≤ x12 then (if x12 < (x10.length : Int) then ((frac_Add.f k x297000 x297001 ((rd_T23 x10 x12).f0) ((rd_T23 x10 x12).f1)).bind fun bt299 => (if bt299.2.2 = 0 then (frac_Sum.l0 k x10 x11 (wrap64 (x12 + 1)) bt299.1 bt299.2.1) else (some (0, 0, bt299.2.2)))) else (none)) else (none)) else (some (x297000, x297001, 0))
def frac_Sum.f (k : Nat) (l0 : List (S23)) : Option (Int × Int × Int) := (frac_nought.f).bind fun bt294 => (frac_Sum.l0 k l0 (l0.length : Int) 0 bt294.1 bt294.2)
theorem frac_Sum.mono_l : ∀ k, (∀ y0 y1 y2 y3 y4, LeO (frac_Sum.l0 k y0 y1 y2 y3 y4) (frac_Sum.l0 (k + 1) y0 y1 y2 y3 y4))
  | 0 => fun _ _ _ _ _ r h => by simp [frac_Sum.l0] at h
  | k + 1 => by
    have ih0 := frac_Sum.mono_l k
    · intro y0 y1 y2 y3 y4
      unfold frac_Sum.l0
      repeat' with_reducible first | exact ih0 _ _ _ _ _ | exact frac_Add.mono _ _ _ _ _ | exact LeO.refl _ | exact LeO.none _ | refine LeO.ite ?_ ?_ | refine LeO.bind ?_ (fun _ => ?_)
theorem frac_Sum.mono : ∀ a0 k, LeO (frac_Sum.f k a0) (frac_Sum.f (k + 1) a0) := by
  intro a0 k
  have ih0 := frac_Sum.mono_l k
  unfold frac_Sum.f
  repeat' with_reducible first | exact ih0 _ _ _ _ _ | exact frac_Add.mono _ _ _ _ _ | exact LeO.refl _ | exact LeO.none _ | refine LeO.ite ?_ ?_ | refine LeO.bind ?_ (fun _ => ?_)
/-! ### carrefourref01_Size: function 43 -/
def carrefourref01_Size.f (a0 : Int) : Option (Int) := if a0 < 0 then (some (IntKind.u64.wrap (-(IntKind.u64.wrap (a0))))) else (some (IntKind.u64.wrap (a0)))
/-! ### carrefourref02_gcd: function 53 -/
def carrefourref02_gcd.l0 : Nat → Int → Int → Option (Int)
  | 0, _, _ => none
  | k + 1, x0, x1 => if x1 = 0 then (some x0) else (carrefourref02_gcd.l0 k x1 (Int.tmod x0 x1))
def carrefourref02_gcd.f (k : Nat) (a0 : Int) (a1 : Int) : Option (Int) := carrefourref02_gcd.l0 k a0 a1
theorem carrefourref02_gcd.mono_l : ∀ k, (∀ y0 y1, LeO (carrefourref02_gcd.l0 k y0 y1) (carrefourref02_gcd.l0 (k + 1) y0 y1))
  | 0 => fun _ _ r h => by simp [carrefourref02_gcd.l0] at h
  | k + 1 => by
    have ih0 := carrefourref02_gcd.mono_l k
    · intro y0 y1
      unfold carrefourref02_gcd.l0
      repeat' with_reducible first | exact ih0 _ _ | exact LeO.refl _ | exact LeO.none _ | refine LeO.ite ?_ ?_ | refine LeO.bind ?_ (fun _ => ?_)
theorem carrefourref02_gcd.mono : ∀ a0 a1 k, LeO (carrefourref02_gcd.f k a0 a1) (carrefourref02_gcd.f (k + 1) a0 a1) := by
  intro a0 a1 k
  have ih0 := carrefourref02_gcd.mono_l k
  unfold carrefourref02_gcd.f
  repeat' with_reducible first | exact ih0 _ _ | exact LeO.refl _ | exact LeO.none _ | refine LeO.ite ?_ ?_ | refine LeO.bind ?_ (fun _ => ?_)
/-! ### carrefourref01_Signed: function 75 -/
def carrefourref01_Signed.j0 : Nat → Int → Bool → Bool → Option (Int × Int)
  | 0, _, _, _ => none
  | k + 1, x0, x1, x10 => if x10 = true then (some ((-9223372036854775808), 0)) else (if x0 > 9223372036854775807 then (some (0, 2)) else (if x1 = true then (some (wrap64 (-(wrap64 (x0))), 0)) else (some (wrap64 (x0), 0))))
def carrefourref01_Signed.f (k : Nat) (a0 : Int) (a1 : Bool) : Option (Int × Int) := if a0 = 9223372036854775808 then (carrefourref01_Signed.j0 k a0 a1 a1) else (carrefourref01_Signed.j0 k a0 a1 false)
theorem carrefourref01_Signed.mono_l : ∀ k, (∀ y0 y1 y2, LeO (carrefourref01_Signed.j0 k y0 y1 y2) (carrefourref01_Signed.j0 (k + 1) y0 y1 y2))
  | 0 => fun _ _ _ r h => by simp [carrefourref01_Signed.j0] at h
  | k + 1 => by
    have ih0 := carrefourref01_Signed.mono_l k
    · intro y0 y1 y2
      unfold carrefourref01_Signed.j0
      repeat' with_reducible first | exact ih0 _ _ _ | exact LeO.refl _ | exact LeO.none _ | refine LeO.ite ?_ ?_ | refine LeO.bind ?_ (fun _ => ?_)
theorem carrefourref01_Signed.mono : ∀ a0 a1 k, LeO (carrefourref01_Signed.f k a0 a1) (carrefourref01_Signed.f (k + 1) a0 a1) := by
  intro a0 a1 k
  have ih0 := carrefourref01_Signed.mono_l k
  unfold carrefourref01_Signed.f
  repeat' with_reducible first | exact ih0 _ _ _ | exact LeO.refl _ | exact LeO.none _ | refine LeO.ite ?_ ?_ | refine LeO.bind ?_ (fun _ => ?_)
/-! ### carrefourref02_made: function 54 -/
def carrefourref02_made.f (k : Nat) (a0 : Int) (a1 : Int) (a2 : Bool) : Option (Int × Int × Int) := (carrefourref01_Signed.f k a0 a2).bind fun bt304 => ((carrefourref01_Signed.f k a1 false).bind fun bt306 => (if bt304.2 = 0 then (if bt306.2 = 0 then (some (bt304.1, bt306.1, 0)) else (some (0, 0, 2))) else (some (0, 0, 2))))
theorem carrefourref02_made.mono : ∀ a0 a1 a2 k, LeO (carrefourref02_made.f k a0 a1 a2) (carrefourref02_made.f (k + 1) a0 a1 a2) := by
  intro a0 a1 a2 k
  unfold carrefourref02_made.f
  repeat' with_reducible first | exact carrefourref01_Signed.mono _ _ _ | exact LeO.refl _ | exact LeO.none _ | refine LeO.ite ?_ ?_ | refine LeO.bind ?_ (fun _ => ?_)
/-! ### carrefourref02_Of: function 17 -/
def carrefourref02_Of.f (k : Nat) (a0 : Int) (a1 : Int) : Option (Int × Int × Int) := if a1 = 0 then (some (0, 0, 3)) else ((carrefourref01_Size.f a0).bind fun t309 => ((carrefourref01_Size.f a1).bind fun t310 => ((carrefourref02_gcd.f k t309 t310).bind fun t311 => (if t311 = 0 then (none) else (if a0 = 0 then ((carrefourref02_made.f k (IntKind.u64.wrap (Int.tdiv t309 t311)) (IntKind.u64.wrap (Int.tdiv t310 t311)) false).bind fun bt312 => (some (bt312.1, bt312.2.1, bt312.2.2))) else ((carrefourref02_made.f k (IntKind.u64.wrap (Int.tdiv t309 t311)) (IntKind.u64.wrap (Int.tdiv t310 t311)) ((decide (a0 < 0)) != (decide (a1 < 0)))).bind fun bt315 => (some (bt315.1, bt315.2.1, bt315.2.2))))))))
theorem carrefourref02_Of.mono : ∀ a0 a1 k, LeO (carrefourref02_Of.f k a0 a1) (carrefourref02_Of.f (k + 1) a0 a1) := by
  intro a0 a1 k
  unfold carrefourref02_Of.f
  repeat' with_reducible first | exact carrefourref02_gcd.mono _ _ _ | exact carrefourref02_made.mono _ _ _ _ | exact LeO.refl _ | exact LeO.none _ | refine LeO.ite ?_ ?_ | refine LeO.bind ?_ (fun _ => ?_)
/-! ### carrefourref02_Right: function 19 -/
def carrefourref02_Right.f (k : Nat) (a0_0 : Int) (a0_1 : Int) : Option (Bool) := if a0_1 ≥ 1 then ((carrefourref01_Size.f a0_0).bind fun t319 => ((carrefourref02_gcd.f k t319 (IntKind.u64.wrap (a0_1))).bind fun t320 => (some (t320 == 1)))) else (some false)
theorem carrefourref02_Right.mono : ∀ a0 a1 k, LeO (carrefourref02_Right.f k a0 a1) (carrefourref02_Right.f (k + 1) a0 a1) := by
  intro a0 a1 k
  unfold carrefourref02_Right.f
  repeat' with_reducible first | exact carrefourref02_gcd.mono _ _ _ | exact LeO.refl _ | exact LeO.none _ | refine LeO.ite ?_ ?_ | refine LeO.bind ?_ (fun _ => ?_)
/-! ### carrefourref02_Norm: function 39 -/
def carrefourref02_Norm.f (k : Nat) (a0_0 : Int) (a0_1 : Int) : Option (Int × Int) := (carrefourref02_Right.f k a0_0 a0_1).bind fun t323 => (if t323 = true then (some (a0_0, a0_1)) else (some (0, 1)))
theorem carrefourref02_Norm.mono : ∀ a0 a1 k, LeO (carrefourref02_Norm.f k a0 a1) (carrefourref02_Norm.f (k + 1) a0 a1) := by
  intro a0 a1 k
  unfold carrefourref02_Norm.f
  repeat' with_reducible first | exact carrefourref02_Right.mono _ _ _ | exact LeO.refl _ | exact LeO.none _ | refine LeO.ite ?_ ?_ | refine LeO.bind ?_ (fun _ => ?_)
/-! ### carrefourref02_few: function 40 -/
def carrefourref02_few.f (a0_0 : Int) (a0_1 : Int) (a1_0 : Int) (a1_1 : Int) : Option (Bool) := (carrefourref01_Size.f a0_0).bind fun t326 => (if t326 < 1073741824 then ((carrefourref01_Size.f a1_0).bind fun t327 => (if t327 < 1073741824 then (if a0_1 < 1073741824 then (some (decide (a1_1 < 1073741824))) else (some false)) else (some false))) else (some false))
/-! ### carrefourref02_trim: function 41 -/
def carrefourref02_trim.l0 : Nat → List Int → Int → Option (List Int)
  | 0, _, _ => none
  | k + 1, x0, x3 => if x3 > 0 then (if 0 ≤ (wrap64 (x3 - 1)) then (if (wrap64 (x3 - 1)) < (x0.length : Int) then (if (rd x0 (wrap64 (x3 - 1))) = 0 then (carrefourref02_trim.l0 k x0 (wrap64 (x3 - 1))) else ((some (([] : List Int) : List Int)).bind fun y329 => (if 0 ≤ x3 then (if x3 ≤ (x0.length : Int) then (if y329.length + (x0.take (x3 : Int).toNat).length < 17592186044416 then (some (y329 ++ (x0.take (x3 : Int).toNat))) else (none)) else (none)) else (none)))) else (none)) else (none)) else ((some (([] : List Int) : List Int)).bind fun y336 => (if 0 ≤ x3 then (if x3 ≤ (x0.length : Int) then (if y336.length + (x0.take (x3 : Int).toNat).length < 17592186044416 then (some (y336 ++ (x0.take (x3 : Int).toNat))) else (none)) else (none)) else (none)))
def carrefourref02_trim.f (k : Nat) (l0 : List Int) : Option (List Int) := carrefourref02_trim.l0 k l0 (l0.length : Int)
theorem carrefourref02_trim.mono_l : ∀ k, (∀ y0 y1, LeO (carrefourref02_trim.l0 k y0 y1) (carrefourref02_trim.l0 (k + 1) y0 y1))
  | 0 => fun _ _ r h => by simp [carrefourref02_trim.l0] at h
  | k + 1 => by
    have ih0 := carrefourref02_trim.mono_l k
    · intro y0 y1
      unfold carrefourref02_trim.l0
      repeat' with_reducible first | exact ih0 _ _ | exact LeO.refl _ | exact LeO.none _ | refine LeO.ite ?_ ?_ | refine LeO.bind ?_ (fun _ => ?_)
theorem carrefourref02_trim.mono : ∀ a0 k, LeO (carrefourref02_trim.f k a0) (carrefourref02_trim.f (k + 1) a0) := by
  intro a0 k
  have ih0 := carrefourref02_trim.mono_l k
  unfold carrefourref02_trim.f
  repeat' with_reducible first | exact ih0 _ _ | exact LeO.refl _ | exact LeO.none _ | refine LeO.ite ?_ ?_ | refine LeO.bind ?_ (fun _ => ?_)
/-! ### carrefourref01_Plus: function 45 -/
mutual
def carrefourref01_Plus.l0 : Nat → List Int → List Int → List Int → Int → Int → Option (List Int)
  | 0, _, _, _, _, _ => none
  | k + 1, x0, x1, x5, x6, x7 => if x7 < (x0.length : Int) then (carrefourref01_Plus.j1 k x0 x1 x5 x6 x7 true) else (if x7 < (x1.length : Int) then (carrefourref01_Plus.j1 k x0 x1 x5 x6 x7 true) else (carrefourref01_Plus.j1 k x0 x1 x5 x6 x7 (decide (x6 > 0))))
def carrefourref01_Plus.j1 : Nat → List Int → List Int → List Int → Int → Int → Bool → Option (List Int)
  | 0, _, _, _, _, _, _ => none
  | k + 1, x0, x1, x5, x6, x7, x22 => if x22 = true then (if x7 < (x0.length : Int) then (if 0 ≤ x7 then (if x7 < (x1.length : Int) then (if x5.length < 17592186044416 then (carrefourref01_Plus.l0 k x0 x1 (x5 ++ [Int.tmod (IntKind.u64.wrap ((IntKind.u64.wrap (x6 + (rd x0 x7))) + (rd x1 x7))) 65536]) (IntKind.u64.wrap (Int.tdiv (IntKind.u64.wrap ((IntKind.u64.wrap (x6 + (rd x0 x7))) + (rd x1 x7))) 65536)) (wrap64 (x7 + 1))) else (none)) else (if x5.length < 17592186044416 then (carrefourref01_Plus.l0 k x0 x1 (x5 ++ [Int.tmod (IntKind.u64.wrap (x6 + (rd x0 x7))) 65536]) (IntKind.u64.wrap (Int.tdiv (IntKind.u64.wrap (x6 + (rd x0 x7))) 65536)) (wrap64 (x7 + 1))) else (none))) else (none)) else (if x7 < (x1.length : Int) then (if 0 ≤ x7 then (if x5.length < 17592186044416 then (carrefourref01_Plus.l0 k x0 x1 (x5 ++ [Int.tmod (IntKind.u64.wrap (x6 + (rd x1 x7))) 65536]) (IntKind.u64.wrap (Int.tdiv (IntKind.u64.wrap (x6 + (rd x1 x7))) 65536)) (wrap64 (x7 + 1))) else (none)) else (none)) else (if x5.length < 17592186044416 then (carrefourref01_Plus.l0 k x0 x1 (x5 ++ [Int.tmod x6 65536]) (IntKind.u64.wrap (Int.tdiv x6 65536)) (wrap64 (x7 + 1))) else (none)))) else (some x5)
end
def carrefourref01_Plus.f (k : Nat) (l0 : List Int) (l1 : List Int) : Option (List Int) := carrefourref01_Plus.l0 k l0 l1 ([] : List Int) 0 0
theorem carrefourref01_Plus.mono_l : ∀ k, (∀ y0 y1 y2 y3 y4, LeO (carrefourref01_Plus.l0 k y0 y1 y2 y3 y4) (carrefourref01_Plus.l0 (k + 1) y0 y1 y2 y3 y4)) ∧ (∀ y0 y1 y2 y3 y4 y5, LeO (carrefourref01_Plus.j1 k y0 y1 y2 y3 y4 y5) (carrefourref01_Plus.j1 (k + 1) y0 y1 y2 y3 y4 y5))
  | 0 => ⟨fun _ _ _ _ _ r h => by simp [carrefourref01_Plus.l0] at h, fun _ _ _ _ _ _ r h => by simp [carrefourref01_Plus.j1] at h⟩
  | k + 1 => by
    obtain ⟨ih0, ih1⟩ := carrefourref01_Plus.mono_l k
    refine ⟨?_, ?_⟩
    · intro y0 y1 y2 y3 y4
      unfold carrefourref01_Plus.l0
      repeat' with_reducible first | exact ih0 _ _ _ _ _ | exact ih1 _ _ _ _ _ _ | exact LeO.refl _ | exact LeO.none _ | refine LeO.ite ?_ ?_ | refine LeO.bind ?_ (fun _ => ?_)
    · intro y0 y1 y2 y3 y4 y5
      unfold carrefourref01_Plus.j1
      repeat' with_reducible first | exact ih0 _ _ _ _ _ | exact ih1 _ _ _ _ _ _ | exact LeO.refl _ | exact LeO.none _ | refine LeO.ite ?_ ?_ | refine LeO.bind ?_ (fun _ => ?_)
theorem carrefourref01_Plus.mono : ∀ a0 a1 k, LeO (carrefourref01_Plus.f k a0 a1) (carrefourref01_Plus.f (k + 1) a0 a1) := by
  intro a0 a1 k
  obtain ⟨ih0, ih1⟩ := carrefourref01_Plus.mono_l k
  unfold carrefourref01_Plus.f
  repeat' with_reducible first | exact ih0 _ _ _ _ _ | exact ih1 _ _ _ _ _ _ | exact LeO.refl _ | exact LeO.none _ | refine LeO.ite ?_ ?_ | refine LeO.bind ?_ (fun _ => ?_)
/-! ### carrefourref01_Parts: function 68 -/
def carrefourref01_Parts.l0 : Nat → Int → List Int → Int → Option (List Int)
  | 0, _, _, _ => none
  | k + 1, x0, x3, x4 => if x4 < 4 then (if x3.length < 17592186044416 then (carrefourref01_Parts.l0 k (IntKind.u64.wrap (Int.tdiv x0 65536)) (x3 ++ [Int.tmod x0 65536]) (wrap64 (x4 + 1))) else (none)) else (some x3)
def carrefourref01_Parts.f (k : Nat) (a0 : Int) : Option (List Int) := carrefourref01_Parts.l0 k a0 ([] : List Int) 0
theorem carrefourref01_Parts.mono_l : ∀ k, (∀ y0 y1 y2, LeO (carrefourref01_Parts.l0 k y0 y1 y2) (carrefourref01_Parts.l0 (k + 1) y0 y1 y2))
  | 0 => fun _ _ _ r h => by simp [carrefourref01_Parts.l0] at h
  | k + 1 => by
    have ih0 := carrefourref01_Parts.mono_l k
    · intro y0 y1 y2
      unfold carrefourref01_Parts.l0
      repeat' with_reducible first | exact ih0 _ _ _ | exact LeO.refl _ | exact LeO.none _ | refine LeO.ite ?_ ?_ | refine LeO.bind ?_ (fun _ => ?_)
theorem carrefourref01_Parts.mono : ∀ a0 k, LeO (carrefourref01_Parts.f k a0) (carrefourref01_Parts.f (k + 1) a0) := by
  intro a0 k
  have ih0 := carrefourref01_Parts.mono_l k
  unfold carrefourref01_Parts.f
  repeat' with_reducible first | exact ih0 _ _ _ | exact LeO.refl _ | exact LeO.none _ | refine LeO.ite ?_ ?_ | refine LeO.bind ?_ (fun _ => ?_)
/-! ### carrefourref01_Times: function 42 -/
mutual
def carrefourref01_Times.l0 : Nat → List Int → List Int → List Int → Int → Option (List Int)
  | 0, _, _, _, _ => none
  | k + 1, x5, x6, x7, x8 => if x8 < 4 then (if 0 ≤ x8 then (if (x8 : Int).toNat ≤ 35184372088832 then (carrefourref01_Times.l1 k x5 x6 x7 x8 (List.replicate (x8 : Int).toNat 0) 0 0) else (none)) else (none)) else (some x7)
def carrefourref01_Times.l1 : Nat → List Int → List Int → List Int → Int → List Int → Int → Int → Option (List Int)
  | 0, _, _, _, _, _, _, _ => none
  | k + 1, x5, x6, x7, x8, x9, x10, x11 => if x11 < 4 then (if 0 ≤ x8 then (if x8 < (x5.length : Int) then (if 0 ≤ x11 then (if x11 < (x6.length : Int) then (if x9.length < 17592186044416 then (carrefourref01_Times.l1 k x5 x6 x7 x8 (x9 ++ [Int.tmod (IntKind.u64.wrap ((IntKind.u64.wrap ((rd x5 x8) * (rd x6 x11))) + x10)) 65536]) (IntKind.u64.wrap (Int.tdiv (IntKind.u64.wrap ((IntKind.u64.wrap ((rd x5 x8) * (rd x6 x11))) + x10)) 65536)) (wrap64 (x11 + 1))) else (none)) else (none)) else (none)) else (none)) else (none)) else (if x9.length < 17592186044416 then ((carrefourref01_Plus.f k x7 (x9 ++ [x10])).bind fun t378 => (carrefourref01_Times.l0 k x5 x6 t378 (wrap64 (x8 + 1)))) else (none))
end
def carrefourref01_Times.f (k : Nat) (a0 : Int) (a1 : Int) : Option (List Int) := (carrefourref01_Parts.f k a0).bind fun t361 => ((carrefourref01_Parts.f k a1).bind fun t364 => (carrefourref01_Times.l0 k t361 t364 ([] : List Int) 0))
theorem carrefourref01_Times.mono_l : ∀ k, (∀ y0 y1 y2 y3, LeO (carrefourref01_Times.l0 k y0 y1 y2 y3) (carrefourref01_Times.l0 (k + 1) y0 y1 y2 y3)) ∧ (∀ y0 y1 y2 y3 y4 y5 y6, LeO (carrefourref01_Times.l1 k y0 y1 y2 y3 y4 y5 y6) (carrefourref01_Times.l1 (k + 1) y0 y1 y2 y3 y4 y5 y6))
  | 0 => ⟨fun _ _ _ _ r h => by simp [carrefourref01_Times.l0] at h, fun _ _ _ _ _ _ _ r h => by simp [carrefourref01_Times.l1] at h⟩
  | k + 1 => by
    obtain ⟨ih0, ih1⟩ := carrefourref01_Times.mono_l k
    refine ⟨?_, ?_⟩
    · intro y0 y1 y2 y3
      unfold carrefourref01_Times.l0
      repeat' with_reducible first | exact ih0 _ _ _ _ | exact ih1 _ _ _ _ _ _ _ | exact carrefourref01_Parts.mono _ _ | exact carrefourref01_Plus.mono _ _ _ | exact LeO.refl _ | exact LeO.none _ | refine LeO.ite ?_ ?_ | refine LeO.bind ?_ (fun _ => ?_)
    · intro y0 y1 y2 y3 y4 y5 y6
      unfold carrefourref01_Times.l1
      repeat' with_reducible first | exact ih0 _ _ _ _ | exact ih1 _ _ _ _ _ _ _ | exact carrefourref01_Parts.mono _ _ | exact carrefourref01_Plus.mono _ _ _ | exact LeO.refl _ | exact LeO.none _ | refine LeO.ite ?_ ?_ | refine LeO.bind ?_ (fun _ => ?_)
theorem carrefourref01_Times.mono : ∀ a0 a1 k, LeO (carrefourref01_Times.f k a0 a1) (carrefourref01_Times.f (k + 1) a0 a1) := by
  intro a0 a1 k
  obtain ⟨ih0, ih1⟩ := carrefourref01_Times.mono_l k
  unfold carrefourref01_Times.f
  repeat' with_reducible first | exact ih0 _ _ _ _ | exact ih1 _ _ _ _ _ _ _ | exact carrefourref01_Parts.mono _ _ | exact carrefourref01_Plus.mono _ _ _ | exact LeO.refl _ | exact LeO.none _ | refine LeO.ite ?_ ?_ | refine LeO.bind ?_ (fun _ => ?_)
/-! ### carrefourref01_Order: function 46 -/
mutual
def carrefourref01_Order.l0 : Nat → List Int → List Int → Int → Option (Int)
  | 0, _, _, _ => none
  | k + 1, x0, x1, x6 => if x6 ≥ 0 then (if x6 < (x0.length : Int) then (if 0 ≤ x6 then (carrefourref01_Order.j1 k x0 x1 x6 (rd x0 x6) 0) else (none)) else (carrefourref01_Order.j1 k x0 x1 x6 0 0)) else (some 0)
def carrefourref01_Order.j1 : Nat → List Int → List Int → Int → Int → Int → Option (Int)
  | 0, _, _, _, _, _ => none
  | k + 1, x0, x1, x6, x7, x8 => if x6 < (x1.length : Int) then (if 0 ≤ x6 then (carrefourref01_Order.j2 k x0 x1 x6 x7 (rd x1 x6)) else (none)) else (carrefourref01_Order.j2 k x0 x1 x6 x7 x8)
def carrefourref01_Order.j2 : Nat → List Int → List Int → Int → Int → Int → Option (Int)
  | 0, _, _, _, _, _ => none
  | k + 1, x0, x1, x6, x7, x8 => if x7 < x8 then (some (-1)) else (if x7 > x8 then (some 1) else (carrefourref01_Order.l0 k x0 x1 (wrap64 (x6 - 1))))
end
def carrefourref01_Order.f (k : Nat) (l0 : List Int) (l1 : List Int) : Option (Int) := carrefourref01_Order.l0 k l0 l1 (wrap64 ((mx (l0.length : Int) (l1.length : Int)) - 1))
theorem carrefourref01_Order.mono_l : ∀ k, (∀ y0 y1 y2, LeO (carrefourref01_Order.l0 k y0 y1 y2) (carrefourref01_Order.l0 (k + 1) y0 y1 y2)) ∧ (∀ y0 y1 y2 y3 y4, LeO (carrefourref01_Order.j1 k y0 y1 y2 y3 y4) (carrefourref01_Order.j1 (k + 1) y0 y1 y2 y3 y4)) ∧ (∀ y0 y1 y2 y3 y4, LeO (carrefourref01_Order.j2 k y0 y1 y2 y3 y4) (carrefourref01_Order.j2 (k + 1) y0 y1 y2 y3 y4))
  | 0 => ⟨fun _ _ _ r h => by simp [carrefourref01_Order.l0] at h, fun _ _ _ _ _ r h => by simp [carrefourref01_Order.j1] at h, fun _ _ _ _ _ r h => by simp [carrefourref01_Order.j2] at h⟩
  | k + 1 => by
    obtain ⟨ih0, ih1, ih2⟩ := carrefourref01_Order.mono_l k
    refine ⟨?_, ?_, ?_⟩
    · intro y0 y1 y2
      unfold carrefourref01_Order.l0
      repeat' with_reducible first | exact ih0 _ _ _ | exact ih1 _ _ _ _ _ | exact ih2 _ _ _ _ _ | exact LeO.refl _ | exact LeO.none _ | refine LeO.ite ?_ ?_ | refine LeO.bind ?_ (fun _ => ?_)
    · intro y0 y1 y2 y3 y4
      unfold carrefourref01_Order.j1
      repeat' with_reducible first | exact ih0 _ _ _ | exact ih1 _ _ _ _ _ | exact ih2 _ _ _ _ _ | exact LeO.refl _ | exact LeO.none _ | refine LeO.ite ?_ ?_ | refine LeO.bind ?_ (fun _ => ?_)
    · intro y0 y1 y2 y3 y4
      unfold carrefourref01_Order.j2
      repeat' with_reducible first | exact ih0 _ _ _ | exact ih1 _ _ _ _ _ | exact ih2 _ _ _ _ _ | exact LeO.refl _ | exact LeO.none _ | refine LeO.ite ?_ ?_ | refine LeO.bind ?_ (fun _ => ?_)
theorem carrefourref01_Order.mono : ∀ a0 a1 k, LeO (carrefourref01_Order.f k a0 a1) (carrefourref01_Order.f (k + 1) a0 a1) := by
  intro a0 a1 k
  obtain ⟨ih0, ih1, ih2⟩ := carrefourref01_Order.mono_l k
  unfold carrefourref01_Order.f
  repeat' with_reducible first | exact ih0 _ _ _ | exact ih1 _ _ _ _ _ | exact ih2 _ _ _ _ _ | exact LeO.refl _ | exact LeO.none _ | refine LeO.ite ?_ ?_ | refine LeO.bind ?_ (fun _ => ?_)
/-! ### carrefourref01_Minus: function 47 -/
def carrefourref01_Minus.l0 : Nat → List Int → List Int → List Int → Int → Int → Option (List Int)
  | 0, _, _, _, _, _ => none
  | k + 1, x0, x1, x5, x6, x7 => if x7 < (x0.length : Int) then (if x7 < (x1.length : Int) then (if 0 ≤ x7 then (if (rd x0 x7) ≥ (IntKind.u64.wrap (x6 + (rd x1 x7))) then (if x5.length < 17592186044416 then (carrefourref01_Minus.l0 k x0 x1 (x5 ++ [IntKind.u64.wrap ((rd x0 x7) - (IntKind.u64.wrap (x6 + (rd x1 x7))))]) 0 (wrap64 (x7 + 1))) else (none)) else (if x5.length < 17592186044416 then (carrefourref01_Minus.l0 k x0 x1 (x5 ++ [IntKind.u64.wrap ((IntKind.u64.wrap ((rd x0 x7) + 65536)) - (IntKind.u64.wrap (x6 + (rd x1 x7))))]) 1 (wrap64 (x7 + 1))) else (none))) else (none)) else (if 0 ≤ x7 then (if (rd x0 x7) ≥ x6 then (if x5.length < 17592186044416 then (carrefourref01_Minus.l0 k x0 x1 (x5 ++ [IntKind.u64.wrap ((rd x0 x7) - x6)]) 0 (wrap64 (x7 + 1))) else (none)) else (if x5.length < 17592186044416 then (carrefourref01_Minus.l0 k x0 x1 (x5 ++ [IntKind.u64.wrap ((IntKind.u64.wrap ((rd x0 x7) + 65536)) - x6)]) 1 (wrap64 (x7 + 1))) else (none))) else (none))) else (some x5)
def carrefourref01_Minus.f (k : Nat) (l0 : List Int) (l1 : List Int) : Option (List Int) := carrefourref01_Minus.l0 k l0 l1 ([] : List Int) 0 0
theorem carrefourref01_Minus.mono_l : ∀ k, (∀ y0 y1 y2 y3 y4, LeO (carrefourref01_Minus.l0 k y0 y1 y2 y3 y4) (carrefourref01_Minus.l0 (k + 1) y0 y1 y2 y3 y4))
  | 0 => fun _ _ _ _ _ r h => by simp [carrefourref01_Minus.l0] at h
  | k + 1 => by
    have ih0 := carrefourref01_Minus.mono_l k
    · intro y0 y1 y2 y3 y4
      unfold carrefourref01_Minus.l0
      repeat' with_reducible first | exact ih0 _ _ _ _ _ | exact LeO.refl _ | exact LeO.none _ | refine LeO.ite ?_ ?_ | refine LeO.bind ?_ (fun _ => ?_)
theorem carrefourref01_Minus.mono : ∀ a0 a1 k, LeO (carrefourref01_Minus.f k a0 a1) (carrefourref01_Minus.f (k + 1) a0 a1) := by
  intro a0 a1 k
  have ih0 := carrefourref01_Minus.mono_l k
  unfold carrefourref01_Minus.f
  repeat' with_reducible first | exact ih0 _ _ _ _ _ | exact LeO.refl _ | exact LeO.none _ | refine LeO.ite ?_ ?_ | refine LeO.bind ?_ (fun _ => ?_)
/-! ### carrefourref02_twice: function 71 -/
def carrefourref02_twice.f (k : Nat) (l0 : List Int) : Option (List Int) := (carrefourref01_Plus.f k l0 l0).bind fun t402 => (some t402)
theorem carrefourref02_twice.mono : ∀ a0 k, LeO (carrefourref02_twice.f k a0) (carrefourref02_twice.f (k + 1) a0) := by
  intro a0 k
  unfold carrefourref02_twice.f
  repeat' with_reducible first | exact carrefourref01_Plus.mono _ _ _ | exact LeO.refl _ | exact LeO.none _ | refine LeO.ite ?_ ?_ | refine LeO.bind ?_ (fun _ => ?_)
/-! ### carrefourref02_rest: function 69 -/
mutual
def carrefourref02_rest.l0 : Nat → List Int → List (List Int) → List Int → Option (List Int)
  | 0, _, _, _ => none
  | k + 1, x0, x5, x6 => (carrefourref01_Order.f k x6 x0).bind fun t405 => (if t405 ≤ 0 then (if x5.length < 5864062014805 then ((carrefourref02_twice.f k x6).bind fun t409 => (carrefourref02_rest.l0 k x0 (x5 ++ [x6]) t409)) else (none)) else (carrefourref02_rest.l1 k x0 x5 (wrap64 ((x5.length : Int) - 1))))
def carrefourref02_rest.l1 : Nat → List Int → List (List Int) → Int → Option (List Int)
  | 0, _, _, _ => none
  | k + 1, x0, x5, x7 => if x7 ≥ 0 then (if 0 ≤ x7 then (if x7 < (x5.length : Int) then ((carrefourref01_Order.f k (rd_L3 x5 x7) x0).bind fun t413 => (if t413 ≤ 0 then ((carrefourref01_Minus.f k x0 (rd_L3 x5 x7)).bind fun t415 => ((carrefourref02_trim.f k t415).bind fun t418 => (carrefourref02_rest.l1 k t418 x5 (wrap64 (x7 - 1))))) else (carrefourref02_rest.l1 k x0 x5 (wrap64 (x7 - 1))))) else (none)) else (none)) else (some x0)
end
def carrefourref02_rest.f (k : Nat) (l0 : List Int) (l1 : List Int) : Option (List Int) := carrefourref02_rest.l0 k l0 ([] : List (List Int)) l1
theorem carrefourref02_rest.mono_l : ∀ k, (∀ y0 y1 y2, LeO (carrefourref02_rest.l0 k y0 y1 y2) (carrefourref02_rest.l0 (k + 1) y0 y1 y2)) ∧ (∀ y0 y1 y2, LeO (carrefourref02_rest.l1 k y0 y1 y2) (carrefourref02_rest.l1 (k + 1) y0 y1 y2))
  | 0 => ⟨fun _ _ _ r h => by simp [carrefourref02_rest.l0] at h, fun _ _ _ r h => by simp [carrefourref02_rest.l1] at h⟩
  | k + 1 => by
    obtain ⟨ih0, ih1⟩ := carrefourref02_rest.mono_l k
    refine ⟨?_, ?_⟩
    · intro y0 y1 y2
      unfold carrefourref02_rest.l0
      repeat' with_reducible first | exact ih0 _ _ _ | exact ih1 _ _ _ | exact carrefourref01_Minus.mono _ _ _ | exact carrefourref01_Order.mono _ _ _ | exact carrefourref02_trim.mono _ _ | exact carrefourref02_twice.mono _ _ | exact LeO.refl _ | exact LeO.none _ | refine LeO.ite ?_ ?_ | refine LeO.bind ?_ (fun _ => ?_)
    · intro y0 y1 y2
      unfold carrefourref02_rest.l1
      repeat' with_reducible first | exact ih0 _ _ _ | exact ih1 _ _ _ | exact carrefourref01_Minus.mono _ _ _ | exact carrefourref01_Order.mono _ _ _ | exact carrefourref02_trim.mono _ _ | exact carrefourref02_twice.mono _ _ | exact LeO.refl _ | exact LeO.none _ | refine LeO.ite ?_ ?_ | refine LeO.bind ?_ (fun _ => ?_)
theorem carrefourref02_rest.mono : ∀ a0 a1 k, LeO (carrefourref02_rest.f k a0 a1) (carrefourref02_rest.f (k + 1) a0 a1) := by
  intro a0 a1 k
  obtain ⟨ih0, ih1⟩ := carrefourref02_rest.mono_l k
  unfold carrefourref02_rest.f
  repeat' with_reducible first | exact ih0 _ _ _ | exact ih1 _ _ _ | exact carrefourref01_Minus.mono _ _ _ | exact carrefourref01_Order.mono _ _ _ | exact carrefourref02_trim.mono _ _ | exact carrefourref02_twice.mono _ _ | exact LeO.refl _ | exact LeO.none _ | refine LeO.ite ?_ ?_ | refine LeO.bind ?_ (fun _ => ?_)
/-! ### carrefourref02_divided: function 70 -/
mutual
def carrefourref02_divided.l0 : Nat → List Int → Int → List (List Int) → List Int → Option (Int × Bool)
  | 0, _, _, _, _ => none
  | k + 1, x0, x6, x7, x8 => (carrefourref01_Order.f k x8 x0).bind fun t421 => (if t421 ≤ 0 then (if x7.length < 5864062014805 then ((carrefourref02_twice.f k x8).bind fun t425 => (carrefourref02_divided.l0 k x0 x6 (x7 ++ [x8]) t425)) else (none)) else (if (x7.length : Int) > 64 then (some (0, false)) else (carrefourref02_divided.l1 k x0 x6 x7 (wrap64 ((x7.length : Int) - 1)))))
def carrefourref02_divided.l1 : Nat → List Int → Int → List (List Int) → Int → Option (Int × Bool)
  | 0, _, _, _, _ => none
  | k + 1, x0, x6, x7, x9 => if x9 ≥ 0 then (if 0 ≤ x9 then (if x9 < (x7.length : Int) then ((carrefourref01_Order.f k (rd_L3 x7 x9) x0).bind fun t429 => (if t429 ≤ 0 then ((carrefourref01_Minus.f k x0 (rd_L3 x7 x9)).bind fun t431 => ((carrefourref02_trim.f k t431).bind fun t434 => (carrefourref02_divided.l1 k t434 (IntKind.u64.wrap ((IntKind.u64.wrap (x6 * 2)) + 1)) x7 (wrap64 (x9 - 1))))) else (carrefourref02_divided.l1 k x0 (IntKind.u64.wrap (x6 * 2)) x7 (wrap64 (x9 - 1))))) else (none)) else (none)) else (some (x6, true))
end
def carrefourref02_divided.f (k : Nat) (l0 : List Int) (l1 : List Int) : Option (Int × Bool) := carrefourref02_divided.l0 k l0 0 ([] : List (List Int)) l1
theorem carrefourref02_divided.mono_l : ∀ k, (∀ y0 y1 y2 y3, LeO (carrefourref02_divided.l0 k y0 y1 y2 y3) (carrefourref02_divided.l0 (k + 1) y0 y1 y2 y3)) ∧ (∀ y0 y1 y2 y3, LeO (carrefourref02_divided.l1 k y0 y1 y2 y3) (carrefourref02_divided.l1 (k + 1) y0 y1 y2 y3))
  | 0 => ⟨fun _ _ _ _ r h => by simp [carrefourref02_divided.l0] at h, fun _ _ _ _ r h => by simp [carrefourref02_divided.l1] at h⟩
  | k + 1 => by
    obtain ⟨ih0, ih1⟩ := carrefourref02_divided.mono_l k
    refine ⟨?_, ?_⟩
    · intro y0 y1 y2 y3
      unfold carrefourref02_divided.l0
      repeat' with_reducible first | exact ih0 _ _ _ _ | exact ih1 _ _ _ _ | exact carrefourref01_Minus.mono _ _ _ | exact carrefourref01_Order.mono _ _ _ | exact carrefourref02_trim.mono _ _ | exact carrefourref02_twice.mono _ _ | exact LeO.refl _ | exact LeO.none _ | refine LeO.ite ?_ ?_ | refine LeO.bind ?_ (fun _ => ?_)
    · intro y0 y1 y2 y3
      unfold carrefourref02_divided.l1
      repeat' with_reducible first | exact ih0 _ _ _ _ | exact ih1 _ _ _ _ | exact carrefourref01_Minus.mono _ _ _ | exact carrefourref01_Order.mono _ _ _ | exact carrefourref02_trim.mono _ _ | exact carrefourref02_twice.mono _ _ | exact LeO.refl _ | exact LeO.none _ | refine LeO.ite ?_ ?_ | refine LeO.bind ?_ (fun _ => ?_)
theorem carrefourref02_divided.mono : ∀ a0 a1 k, LeO (carrefourref02_divided.f k a0 a1) (carrefourref02_divided.f (k + 1) a0 a1) := by
  intro a0 a1 k
  obtain ⟨ih0, ih1⟩ := carrefourref02_divided.mono_l k
  unfold carrefourref02_divided.f
  repeat' with_reducible first | exact ih0 _ _ _ _ | exact ih1 _ _ _ _ | exact carrefourref01_Minus.mono _ _ _ | exact carrefourref01_Order.mono _ _ _ | exact carrefourref02_trim.mono _ _ | exact carrefourref02_twice.mono _ _ | exact LeO.refl _ | exact LeO.none _ | refine LeO.ite ?_ ?_ | refine LeO.bind ?_ (fun _ => ?_)
/-! ### carrefourref02_lowest: function 44 -/
def carrefourref02_lowest.l0 : Nat → List Int → List Int → Bool → List Int → List Int → Option (Int × Int × Int)
  | 0, _, _, _, _, _ => none
  | k + 1, x0, x1, x2, x8, x9 => (carrefourref01_Order.f k x9 ([] : List Int)).bind fun t438 => (if t438 = 0 then ((carrefourref02_divided.f k x0 x8).bind fun bt442 => ((carrefourref02_divided.f k x1 x8).bind fun bt444 => (if bt442.2 = true then (if bt444.2 = true then (if x2 = true then ((carrefourref02_made.f k bt442.1 bt444.1 (bt442.1 != 0)).bind fun bt446 => (some (bt446.1, bt446.2.1, bt446.2.2))) else ((carrefourref02_made.f k bt442.1 bt444.1 false).bind fun bt449 => (some (bt449.1, bt449.2.1, bt449.2.2)))) else (some (0, 0, 2))) else (some (0, 0, 2))))) else ((carrefourref02_rest.f k x8 x9).bind fun t439 => (carrefourref02_lowest.l0 k x0 x1 x2 x9 t439)))
def carrefourref02_lowest.f (k : Nat) (l0 : List Int) (l1 : List Int) (a2 : Bool) : Option (Int × Int × Int) := carrefourref02_lowest.l0 k l0 l1 a2 l0 l1
theorem carrefourref02_lowest.mono_l : ∀ k, (∀ y0 y1 y2 y3 y4, LeO (carrefourref02_lowest.l0 k y0 y1 y2 y3 y4) (carrefourref02_lowest.l0 (k + 1) y0 y1 y2 y3 y4))
  | 0 => fun _ _ _ _ _ r h => by simp [carrefourref02_lowest.l0] at h
  | k + 1 => by
    have ih0 := carrefourref02_lowest.mono_l k
    · intro y0 y1 y2 y3 y4
      unfold carrefourref02_lowest.l0
      repeat' with_reducible first | exact ih0 _ _ _ _ _ | exact carrefourref01_Order.mono _ _ _ | exact carrefourref02_divided.mono _ _ _ | exact carrefourref02_made.mono _ _ _ _ | exact carrefourref02_rest.mono _ _ _ | exact LeO.refl _ | exact LeO.none _ | refine LeO.ite ?_ ?_ | refine LeO.bind ?_ (fun _ => ?_)
theorem carrefourref02_lowest.mono : ∀ a0 a1 a2 k, LeO (carrefourref02_lowest.f k a0 a1 a2) (carrefourref02_lowest.f (k + 1) a0 a1 a2) := by
  intro a0 a1 a2 k
  have ih0 := carrefourref02_lowest.mono_l k
  unfold carrefourref02_lowest.f
  repeat' with_reducible first | exact ih0 _ _ _ _ _ | exact carrefourref01_Order.mono _ _ _ | exact carrefourref02_divided.mono _ _ _ | exact carrefourref02_made.mono _ _ _ _ | exact carrefourref02_rest.mono _ _ _ | exact LeO.refl _ | exact LeO.none _ | refine LeO.ite ?_ ?_ | refine LeO.bind ?_ (fun _ => ?_)
/-! ### carrefourref02_Add: function 11 -/
def carrefourref02_Add.f (k : Nat) (a0_0 : Int) (a0_1 : Int) (a1_0 : Int) (a1_1 : Int) : Option (Int × Int × Int) := (carrefourref02_Norm.f k a0_0 a0_1).bind fun bt455 => ((carrefourref02_Norm.f k a1_0 a1_1).bind fun bt457 => ((carrefourref02_few.f bt455.1 bt455.2 bt457.1 bt457.2).bind fun t459 => (if t459 = true then ((carrefourref02_Of.f k (wrap64 ((wrap64 (bt455.1 * bt457.2)) + (wrap64 (bt457.1 * bt455.2)))) (wrap64 (bt455.2 * bt457.2))).bind fun bt460 => (some (bt460.1, bt460.2.1, bt460.2.2))) else ((carrefourref01_Size.f bt455.1).bind fun t463 => ((carrefourref01_Times.f k t463 (IntKind.u64.wrap (bt457.2))).bind fun t464 => ((carrefourref02_trim.f k t464).bind fun t467 => ((carrefourref01_Size.f bt457.1).bind fun t470 => ((carrefourref01_Times.f k t470 (IntKind.u64.wrap (bt455.2))).bind fun t471 => ((carrefourref02_trim.f k t471).bind fun t474 => ((carrefourref01_Times.f k (IntKind.u64.wrap (bt455.2)) (IntKind.u64.wrap (bt457.2))).bind fun t477 => ((carrefourref02_trim.f k t477).bind fun t480 => (if ((decide (bt455.1 < 0)) == (decide (bt457.1 < 0))) = true then ((carrefourref01_Plus.f k t467 t474).bind fun t483 => ((carrefourref02_trim.f k t483).bind fun t486 => ((carrefourref02_lowest.f k t486 t480 (decide (bt455.1 < 0))).bind fun bt489 => (some (bt489.1, bt489.2.1, bt489.2.2))))) else ((carrefourref01_Order.f k t467 t474).bind fun t492 => (if t492 ≥ 0 then ((carrefourref01_Minus.f k t467 t474).bind fun t493 => ((carrefourref02_trim.f k t493).bind fun t496 => ((carrefourref02_lowest.f k t496 t480 (decide (bt455.1 < 0))).bind fun bt499 => (some (bt499.1, bt499.2.1, bt499.2.2))))) else ((carrefourref01_Minus.f k t474 t467).bind fun t502 => ((carrefourref02_trim.f k t502).bind fun t505 => ((carrefourref02_lowest.f k t505 t480 (decide (bt457.1 < 0))).bind fun bt508 => (some (bt508.1, bt508.2.1, bt508.2.2)))))))))))))))))))
theorem carrefourref02_Add.mono : ∀ a0 a1 a2 a3 k, LeO (carrefourref02_Add.f k a0 a1 a2 a3) (carrefourref02_Add.f (k + 1) a0 a1 a2 a3) := by
  intro a0 a1 a2 a3 k
  unfold carrefourref02_Add.f
  repeat' with_reducible first | exact carrefourref01_Minus.mono _ _ _ | exact carrefourref01_Order.mono _ _ _ | exact carrefourref01_Plus.mono _ _ _ | exact carrefourref01_Times.mono _ _ _ | exact carrefourref02_Norm.mono _ _ _ | exact carrefourref02_Of.mono _ _ _ | exact carrefourref02_lowest.mono _ _ _ _ | exact carrefourref02_trim.mono _ _ | exact LeO.refl _ | exact LeO.none _ | refine LeO.ite ?_ ?_ | refine LeO.bind ?_ (fun _ => ?_)
/-! ### carrefourref02_Sum: function 34 -/
def carrefourref02_Sum.l0 : Nat → List (S23) → Int → Int → Int → Option (Int × Int × Int)
  | 0, _, _, _, _ => none
  | k + 1, x0, x5, x513000, x513001 => if x5 < (x0.length : Int) then (if 0 ≤ x5 then ((carrefourref02_Add.f k x513000 x513001 ((rd_T23 x0 x5).f0) ((rd_T23 x0 x5).f1)).bind fun bt514 => (if bt514.2.2 = 0 then (carrefourref02_Sum.l0 k x0 (wrap64 (x5 + 1)) bt514.1 bt514.2.1) else (some (0, 0, bt514.2.2)))) else (none)) else (some (x513000, x513001, 0))
def carrefourref02_Sum.f (k : Nat) (l0 : List (S23)) : Option (Int × Int × Int) := carrefourref02_Sum.l0 k l0 0 0 1
theorem carrefourref02_Sum.mono_l : ∀ k, (∀ y0 y1 y2 y3, LeO (carrefourref02_Sum.l0 k y0 y1 y2 y3) (carrefourref02_Sum.l0 (k + 1) y0 y1 y2 y3))
  | 0 => fun _ _ _ _ r h => by simp [carrefourref02_Sum.l0] at h
  | k + 1 => by
    have ih0 := carrefourref02_Sum.mono_l k
    · intro y0 y1 y2 y3
      unfold carrefourref02_Sum.l0
      repeat' with_reducible first | exact ih0 _ _ _ _ | exact carrefourref02_Add.mono _ _ _ _ _ | exact LeO.refl _ | exact LeO.none _ | refine LeO.ite ?_ ?_ | refine LeO.bind ?_ (fun _ => ?_)
theorem carrefourref02_Sum.mono : ∀ a0 k, LeO (carrefourref02_Sum.f k a0) (carrefourref02_Sum.f (k + 1) a0) := by
  intro a0 k
  have ih0 := carrefourref02_Sum.mono_l k
  unfold carrefourref02_Sum.f
  repeat' with_reducible first | exact ih0 _ _ _ _ | exact carrefourref02_Add.mono _ _ _ _ _ | exact LeO.refl _ | exact LeO.none _ | refine LeO.ite ?_ ?_ | refine LeO.bind ?_ (fun _ => ?_)
/-! ### whole_sign: function 80 -/
def whole_sign.j0 : Nat → Int → Int → Bool → Option (Int)
  | 0, _, _, _ => none
  | k + 1, x0, x1, x5 => if x5 = true then (some 0) else (if ((decide (x0 < 0)) != (decide (x1 < 0))) = true then (some (-1)) else (some 1))
def whole_sign.f (k : Nat) (a0 : Int) (a1 : Int) : Option (Int) := if a0 = 0 then (whole_sign.j0 k a0 a1 true) else (whole_sign.j0 k a0 a1 (a1 == 0))
theorem whole_sign.mono_l : ∀ k, (∀ y0 y1 y2, LeO (whole_sign.j0 k y0 y1 y2) (whole_sign.j0 (k + 1) y0 y1 y2))
  | 0 => fun _ _ _ r h => by simp [whole_sign.j0] at h
  | k + 1 => by
    have ih0 := whole_sign.mono_l k
    · intro y0 y1 y2
      unfold whole_sign.j0
      repeat' with_reducible first | exact ih0 _ _ _ | exact LeO.refl _ | exact LeO.none _ | refine LeO.ite ?_ ?_ | refine LeO.bind ?_ (fun _ => ?_)
theorem whole_sign.mono : ∀ a0 a1 k, LeO (whole_sign.f k a0 a1) (whole_sign.f (k + 1) a0 a1) := by
  intro a0 a1 k
  have ih0 := whole_sign.mono_l k
  unfold whole_sign.f
  repeat' with_reducible first | exact ih0 _ _ _ | exact LeO.refl _ | exact LeO.none _ | refine LeO.ite ?_ ?_ | refine LeO.bind ?_ (fun _ => ?_)
/-! ### whole_product: function 81 -/
def whole_product.f (a0 : Int) (a1 : Int) : Option (Int × Int) := (whole_size.f a0).bind fun t519 => ((whole_size.f a1).bind fun t520 => ((bits_Mul64.f t519 t520).bind fun bt521 => (some (bt521.1, bt521.2))))
/-! ### whole_double_less: function 82 -/
def whole_double_less.f (a0_0 : Int) (a0_1 : Int) (a1_0 : Int) (a1_1 : Int) : Option (Bool) := if a0_0 < a1_0 then (some true) else (if a0_0 = a1_0 then (some (decide (a0_1 < a1_1))) else (some false))
/-! ### whole_Compare: function 58 -/
def whole_Compare.f (k : Nat) (a0 : Int) (a1 : Int) (a2 : Int) (a3 : Int) : Option (Int) := (whole_sign.f k a0 a1).bind fun t525 => ((whole_sign.f k a2 a3).bind fun t526 => ((whole_product.f a0 a1).bind fun bt527 => ((whole_product.f a2 a3).bind fun bt529 => (if t525 = t526 then (if (bt527.1 == bt529.1 && (bt527.2 == bt529.2)) = true then (some 0) else ((whole_double_less.f bt527.1 bt527.2 bt529.1 bt529.2).bind fun t533 => (if t533 = true then (some (wrap64 (-t525))) else (some t525)))) else (some (mx (-1) (mn 1 (wrap64 (t525 - t526)))))))))
theorem whole_Compare.mono : ∀ a0 a1 a2 a3 k, LeO (whole_Compare.f k a0 a1 a2 a3) (whole_Compare.f (k + 1) a0 a1 a2 a3) := by
  intro a0 a1 a2 a3 k
  unfold whole_Compare.f
  repeat' with_reducible first | exact whole_sign.mono _ _ _ | exact LeO.refl _ | exact LeO.none _ | refine LeO.ite ?_ ?_ | refine LeO.bind ?_ (fun _ => ?_)
/-! ### frac_Cmp: function 25 -/
def frac_Cmp.f (k : Nat) (a0_0 : Int) (a0_1 : Int) (a1_0 : Int) (a1_1 : Int) : Option (Int) := (frac_norm.f k a0_0 a0_1).bind fun bt536 => ((frac_norm.f k a1_0 a1_1).bind fun bt538 => ((whole_Compare.f k bt536.1 bt538.2 bt538.1 bt536.2).bind fun t540 => (some t540)))
theorem frac_Cmp.mono : ∀ a0 a1 a2 a3 k, LeO (frac_Cmp.f k a0 a1 a2 a3) (frac_Cmp.f (k + 1) a0 a1 a2 a3) := by
  intro a0 a1 a2 a3 k
  unfold frac_Cmp.f
  repeat' with_reducible first | exact frac_norm.mono _ _ _ | exact whole_Compare.mono _ _ _ _ _ | exact LeO.refl _ | exact LeO.none _ | refine LeO.ite ?_ ?_ | refine LeO.bind ?_ (fun _ => ?_)
/-! ### frac_Max: function 35 -/
def frac_Max.l0 : Nat → List (S23) → Int → Int → Int → Int → Option (Int × Int)
  | 0, _, _, _, _, _ => none
  | k + 1, x15, x16, x17, x548000, x548001 => if x17 < x16 then (if 0 ≤ x17 then (if x17 < (x15.length : Int) then ((frac_Cmp.f k ((rd_T23 x15 x17).f0) ((rd_T23 x15 x17).f1) x548000 x548001).bind fun t554 => (if t554 > 0 then ((frac_norm.f k ((rd_T23 x15 x17).f0) ((rd_T23 x15 x17).f1)).bind fun bt555 => (frac_Max.l0 k x15 x16 (wrap64 (x17 + 1)) bt555.1 bt555.2)) else (frac_Max.l0 k x15 x16 (wrap64 (x17 + 1)) x548000 x548001))) else (none)) else (none)) else (some (x548000, x548001))
def frac_Max.f (k : Nat) (l0 : List (S23)) : Option (Int × Int) := if (l0.length : Int) = 0 then ((frac_nought.f).bind fun bt542 => (some (bt542.1, bt542.2))) else (if 0 < (l0.length : Int) then ((frac_norm.f k ((rd_T23 l0 0).f0) ((rd_T23 l0 0).f1)).bind fun bt545 => (if 1 ≤ (l0.length : Int) then ((some (l0.drop 1 : List (S23))).bind fun y548 => (frac_Max.l0 k y548 (y548.length : Int) 0 bt545.1 bt545.2)) else (none))) else (none))
theorem frac_Max.mono_l : ∀ k, (∀ y0 y1 y2 y3 y4, LeO (frac_Max.l0 k y0 y1 y2 y3 y4) (frac_Max.l0 (k + 1) y0 y1 y2 y3 y4))
  | 0 => fun _ _ _ _ _ r h => by simp [frac_Max.l0] at h
  | k + 1 => by
    have ih0 := frac_Max.mono_l k
    · intro y0 y1 y2 y3 y4
      unfold frac_Max.l0
      repeat' with_reducible first | exact ih0 _ _ _ _ _ | exact frac_Cmp.mono _ _ _ _ _ | exact frac_norm.mono _ _ _ | exact LeO.refl _ | exact LeO.none _ | refine LeO.ite ?_ ?_ | refine LeO.bind ?_ (fun _ => ?_)
theorem frac_Max.mono : ∀ a0 k, LeO (frac_Max.f k a0) (frac_Max.f (k + 1) a0) := by
  intro a0 k
  have ih0 := frac_Max.mono_l k
  unfold frac_Max.f
  repeat' with_reducible first | exact ih0 _ _ _ _ _ | exact frac_Cmp.mono _ _ _ _ _ | exact frac_norm.mono _ _ _ | exact LeO.refl _ | exact LeO.none _ | refine LeO.ite ?_ ?_ | refine LeO.bind ?_ (fun _ => ?_)
/-! ### carrefourref01_sign: function 83 -/
def carrefourref01_sign.j0 : Nat → Int → Int → Bool → Option (Int)
  | 0, _, _, _ => none
  | k + 1, x0, x1, x10 => if x10 = true then (some 0) else (if ((decide (x0 < 0)) != (decide (x1 < 0))) = true then (some (-1)) else (some 1))
def carrefourref01_sign.f (k : Nat) (a0 : Int) (a1 : Int) : Option (Int) := if a0 = 0 then (carrefourref01_sign.j0 k a0 a1 true) else (carrefourref01_sign.j0 k a0 a1 (a1 == 0))
theorem carrefourref01_sign.mono_l : ∀ k, (∀ y0 y1 y2, LeO (carrefourref01_sign.j0 k y0 y1 y2) (carrefourref01_sign.j0 (k + 1) y0 y1 y2))
  | 0 => fun _ _ _ r h => by simp [carrefourref01_sign.j0] at h
  | k + 1 => by
    have ih0 := carrefourref01_sign.mono_l k
    · intro y0 y1 y2
      unfold carrefourref01_sign.j0
      repeat' with_reducible first | exact ih0 _ _ _ | exact LeO.refl _ | exact LeO.none _ | refine LeO.ite ?_ ?_ | refine LeO.bind ?_ (fun _ => ?_)
theorem carrefourref01_sign.mono : ∀ a0 a1 k, LeO (carrefourref01_sign.f k a0 a1) (carrefourref01_sign.f (k + 1) a0 a1) := by
  intro a0 a1 k
  have ih0 := carrefourref01_sign.mono_l k
  unfold carrefourref01_sign.f
  repeat' with_reducible first | exact ih0 _ _ _ | exact LeO.refl _ | exact LeO.none _ | refine LeO.ite ?_ ?_ | refine LeO.bind ?_ (fun _ => ?_)
/-! ### carrefourref01_Compare: function 59 -/
def carrefourref01_Compare.j0 : Nat → Int → Int → Int → Int → Int → Bool → Option (Int)
  | 0, _, _, _, _, _, _ => none
  | k + 1, x0, x1, x2, x3, x9, x40 => if x40 = true then (if (wrap64 (x0 * x1)) < (wrap64 (x2 * x3)) then (some (-1)) else (if (wrap64 (x0 * x1)) > (wrap64 (x2 * x3)) then (some 1) else (some 0))) else ((carrefourref01_Size.f x0).bind fun t563 => ((carrefourref01_Size.f x1).bind fun t564 => ((carrefourref01_Times.f k t563 t564).bind fun t565 => ((carrefourref01_Size.f x2).bind fun t568 => ((carrefourref01_Size.f x3).bind fun t569 => ((carrefourref01_Times.f k t568 t569).bind fun t570 => ((carrefourref01_Order.f k t565 t570).bind fun t573 => (some (wrap64 (x9 * t573))))))))))
def carrefourref01_Compare.f (k : Nat) (a0 : Int) (a1 : Int) (a2 : Int) (a3 : Int) : Option (Int) := (carrefourref01_sign.f k a0 a1).bind fun t557 => ((carrefourref01_sign.f k a2 a3).bind fun t558 => (if t557 < t558 then (some (-1)) else (if t557 > t558 then (some 1) else ((carrefourref01_Size.f a0).bind fun t559 => (if t559 < 2147483648 then ((carrefourref01_Size.f a1).bind fun t560 => (if t560 < 2147483648 then ((carrefourref01_Size.f a2).bind fun t561 => (if t561 < 2147483648 then ((carrefourref01_Size.f a3).bind fun t562 => (carrefourref01_Compare.j0 k a0 a1 a2 a3 t557 (decide (t562 < 2147483648)))) else (carrefourref01_Compare.j0 k a0 a1 a2 a3 t557 false))) else (carrefourref01_Compare.j0 k a0 a1 a2 a3 t557 false))) else (carrefourref01_Compare.j0 k a0 a1 a2 a3 t557 false))))))
theorem carrefourref01_Compare.mono_l : ∀ k, (∀ y0 y1 y2 y3 y4 y5, LeO (carrefourref01_Compare.j0 k y0 y1 y2 y3 y4 y5) (carrefourref01_Compare.j0 (k + 1) y0 y1 y2 y3 y4 y5))
  | 0 => fun _ _ _ _ _ _ r h => by simp [carrefourref01_Compare.j0] at h
  | k + 1 => by
    have ih0 := carrefourref01_Compare.mono_l k
    · intro y0 y1 y2 y3 y4 y5
      unfold carrefourref01_Compare.j0
      repeat' with_reducible first | exact ih0 _ _ _ _ _ _ | exact carrefourref01_Order.mono _ _ _ | exact carrefourref01_Times.mono _ _ _ | exact carrefourref01_sign.mono _ _ _ | exact LeO.refl _ | exact LeO.none _ | refine LeO.ite ?_ ?_ | refine LeO.bind ?_ (fun _ => ?_)
theorem carrefourref01_Compare.mono : ∀ a0 a1 a2 a3 k, LeO (carrefourref01_Compare.f k a0 a1 a2 a3) (carrefourref01_Compare.f (k + 1) a0 a1 a2 a3) := by
  intro a0 a1 a2 a3 k
  have ih0 := carrefourref01_Compare.mono_l k
  unfold carrefourref01_Compare.f
  repeat' with_reducible first | exact ih0 _ _ _ _ _ _ | exact carrefourref01_Order.mono _ _ _ | exact carrefourref01_Times.mono _ _ _ | exact carrefourref01_sign.mono _ _ _ | exact LeO.refl _ | exact LeO.none _ | refine LeO.ite ?_ ?_ | refine LeO.bind ?_ (fun _ => ?_)
/-! ### carrefourref02_Cmp: function 26 -/
def carrefourref02_Cmp.f (k : Nat) (a0_0 : Int) (a0_1 : Int) (a1_0 : Int) (a1_1 : Int) : Option (Int) := (carrefourref02_Norm.f k a0_0 a0_1).bind fun bt576 => ((carrefourref02_Norm.f k a1_0 a1_1).bind fun bt578 => ((carrefourref01_Compare.f k bt576.1 bt578.2 bt578.1 bt576.2).bind fun t580 => (some t580)))
theorem carrefourref02_Cmp.mono : ∀ a0 a1 a2 a3 k, LeO (carrefourref02_Cmp.f k a0 a1 a2 a3) (carrefourref02_Cmp.f (k + 1) a0 a1 a2 a3) := by
  intro a0 a1 a2 a3 k
  unfold carrefourref02_Cmp.f
  repeat' with_reducible first | exact carrefourref01_Compare.mono _ _ _ _ _ | exact carrefourref02_Norm.mono _ _ _ | exact LeO.refl _ | exact LeO.none _ | refine LeO.ite ?_ ?_ | refine LeO.bind ?_ (fun _ => ?_)
/-! ### carrefourref02_Max: function 36 -/
def carrefourref02_Max.l0 : Nat → List (S23) → Int → Int → Int → Option (Int × Int)
  | 0, _, _, _, _ => none
  | k + 1, x0, x4, x583000, x583001 => if x4 < (x0.length : Int) then (if x4 = 0 then (if 0 ≤ x4 then ((carrefourref02_Norm.f k ((rd_T23 x0 x4).f0) ((rd_T23 x0 x4).f1)).bind fun bt584 => (carrefourref02_Max.l0 k x0 (wrap64 (x4 + 1)) bt584.1 bt584.2)) else (none)) else (if 0 ≤ x4 then ((carrefourref02_Cmp.f k ((rd_T23 x0 x4).f0) ((rd_T23 x0 x4).f1) x583000 x583001).bind fun t587 => (if t587 > 0 then ((carrefourref02_Norm.f k ((rd_T23 x0 x4).f0) ((rd_T23 x0 x4).f1)).bind fun bt589 => (carrefourref02_Max.l0 k x0 (wrap64 (x4 + 1)) bt589.1 bt589.2)) else (carrefourref02_Max.l0 k x0 (wrap64 (x4 + 1)) x583000 x583001))) else (none))) else (some (x583000, x583001))
def carrefourref02_Max.f (k : Nat) (l0 : List (S23)) : Option (Int × Int) := carrefourref02_Max.l0 k l0 0 0 1
theorem carrefourref02_Max.mono_l : ∀ k, (∀ y0 y1 y2 y3, LeO (carrefourref02_Max.l0 k y0 y1 y2 y3) (carrefourref02_Max.l0 (k + 1) y0 y1 y2 y3))
  | 0 => fun _ _ _ _ r h => by simp [carrefourref02_Max.l0] at h
  | k + 1 => by
    have ih0 := carrefourref02_Max.mono_l k
    · intro y0 y1 y2 y3
      unfold carrefourref02_Max.l0
      repeat' with_reducible first | exact ih0 _ _ _ _ | exact carrefourref02_Cmp.mono _ _ _ _ _ | exact carrefourref02_Norm.mono _ _ _ | exact LeO.refl _ | exact LeO.none _ | refine LeO.ite ?_ ?_ | refine LeO.bind ?_ (fun _ => ?_)
theorem carrefourref02_Max.mono : ∀ a0 k, LeO (carrefourref02_Max.f k a0) (carrefourref02_Max.f (k + 1) a0) := by
  intro a0 k
  have ih0 := carrefourref02_Max.mono_l k
  unfold carrefourref02_Max.f
  repeat' with_reducible first | exact ih0 _ _ _ _ | exact carrefourref02_Cmp.mono _ _ _ _ _ | exact carrefourref02_Norm.mono _ _ _ | exact LeO.refl _ | exact LeO.none _ | refine LeO.ite ?_ ?_ | refine LeO.bind ?_ (fun _ => ?_)
/-! ### carrefourlaw02_FracAll: function 9 -/
def carrefourlaw02_FracAll.f (k : Nat) (l0 : List (S23)) : Option (Bool) := if (l0.length : Int) > 50 then (some true) else ((frac_Sum.f k l0).bind fun bt591 => ((carrefourref02_Sum.f k l0).bind fun bt595 => ((carrefourlaw02_same.f bt591.1 bt591.2.1 bt591.2.2 bt595.1 bt595.2.1 bt595.2.2).bind fun t599 => (if t599 = true then ((frac_Max.f k l0).bind fun bt600 => ((carrefourref02_Max.f k l0).bind fun bt602 => (if (bt600.1 == bt602.1 && (bt600.2 == bt602.2)) = true then ((carrefourlaw02_awake.f k).bind fun t604 => (some t604)) else (some false)))) else (some false)))))
theorem carrefourlaw02_FracAll.mono : ∀ a0 k, LeO (carrefourlaw02_FracAll.f k a0) (carrefourlaw02_FracAll.f (k + 1) a0) := by
  intro a0 k
  unfold carrefourlaw02_FracAll.f
  repeat' with_reducible first | exact carrefourlaw02_awake.mono _ | exact carrefourref02_Max.mono _ _ | exact carrefourref02_Sum.mono _ _ | exact frac_Max.mono _ _ | exact frac_Sum.mono _ _ | exact LeO.refl _ | exact LeO.none _ | refine LeO.ite ?_ ?_ | refine LeO.bind ?_ (fun _ => ?_)
end Go.Proofs.YtjgnaccamakpdaaDoor.X
