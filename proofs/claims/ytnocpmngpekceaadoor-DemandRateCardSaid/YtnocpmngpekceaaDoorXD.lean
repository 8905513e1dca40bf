/- Walks: each '.calls' says that the Go function comes to what its Lean function tells. Conditions: as each theorem's head says. -/
import Derived.Test.YtnocpmngpekceaaDoorX0
namespace Go.Proofs.YtnocpmngpekceaaDoor.X
open Go.RowKit Go.Proofs.YtnocpmngpekceaaDoorW.PrintWords Go.Proofs.YtnocpmngpekceaaDoorW.PrintLast Go.Proofs.YtnocpmngpekceaaDoorW.PrintMore
attribute [local go_sem] max2_int min2_int max_two min_two max_three min_three max_four min_four   -- for this text's walks alone
set_option linter.unusedVariables false
set_option maxHeartbeats 8000000
set_option maxRecDepth 100000
set_option linter.unusedSimpArgs false

/-! ### whole_signed: function 32 -/
def whole_signed.j0 : Nat → Int → Bool → Option (Int × Int)
  | 0, _, _ => none
  | k + 1, x0, x6 => if x6 = true then (some (wrap64 (IntKind.u64.wrap (-x0)), 0)) else (if x0 ≤ 9223372036854775807 then (some (wrap64 (x0), 0)) else (some (0, 2)))
def whole_signed.f (k : Nat) (a0 : Int) (a1 : Int) : Option (Int × Int) := if a1 < 0 then (whole_signed.j0 k a0 (decide (a0 ≤ 9223372036854775808))) else (whole_signed.j0 k a0 false)
theorem whole_signed.mono_l : ∀ k, (∀ y0 y1, LeO (whole_signed.j0 k y0 y1) (whole_signed.j0 (k + 1) y0 y1))
  | 0 => fun _ _ r h => by simp [whole_signed.j0] at h
  | k + 1 => by
    have ih0 := whole_signed.mono_l k
    · intro y0 y1
      unfold whole_signed.j0
      repeat' with_reducible first | exact ih0 _ _ | exact LeO.refl _ | exact LeO.none _ | refine LeO.ite ?_ ?_ | refine LeO.bind ?_ (fun _ => ?_)
theorem whole_signed.mono : ∀ a0 a1 k, LeO (whole_signed.f k a0 a1) (whole_signed.f (k + 1) a0 a1) := by
  intro a0 a1 k
  have ih0 := whole_signed.mono_l k
  unfold whole_signed.f
  repeat' with_reducible first | exact ih0 _ _ | exact LeO.refl _ | exact LeO.none _ | refine LeO.ite ?_ ?_ | refine LeO.bind ?_ (fun _ => ?_)
/-! ### bits_TrailingZeros64: function 72 -/
def bits_TrailingZeros64.f (a0 : Int) : Option Int := if 0 ≤ a0 ∧ a0 < 18446744073709551616 then some ((Lib.ctz 64 a0.toNat : Nat) : Int) else none
/-! ### whole_gcd: function 51 -/
mutual
def whole_gcd.j0 : Nat → Int → Int → Bool → Option (Int)
  | 0, _, _, _ => none
  | k + 1, x0, x1, x11 => if x11 = true then (some (Go.bits .or .u64 x0 x1)) else ((bits_TrailingZeros64.f (Go.bits .or .u64 x0 x1)).bind fun t101 => ((bits_TrailingZeros64.f x0).bind fun t102 => (if 0 ≤ t102 then (whole_gcd.l0 k (shr .u64 x0 t102) x1 t101) else (none))))
def whole_gcd.l0 : Nat → Int → Int → Int → Option (Int)
  | 0, _, _, _ => none
  | k + 1, x0, x1, x5 => if x1 = 0 then (if 0 ≤ x5 then (some (shl .u64 x0 x5)) else (none)) else ((bits_TrailingZeros64.f x1).bind fun t103 => (if 0 ≤ t103 then (if x0 > (shr .u64 x1 t103) then (whole_gcd.l0 k (shr .u64 x1 t103) (IntKind.u64.wrap (x0 - (shr .u64 x1 t103))) x5) else (whole_gcd.l0 k x0 (IntKind.u64.wrap ((shr .u64 x1 t103) - x0)) x5)) else (none)))
end
def whole_gcd.f (k : Nat) (a0 : Int) (a1 : Int) : Option (Int) := if a0 = 0 then (whole_gcd.j0 k a0 a1 true) else (whole_gcd.j0 k a0 a1 (a1 == 0))
theorem whole_gcd.mono_l : ∀ k, (∀ y0 y1 y2, LeO (whole_gcd.j0 k y0 y1 y2) (whole_gcd.j0 (k + 1) y0 y1 y2)) ∧ (∀ y0 y1 y2, LeO (whole_gcd.l0 k y0 y1 y2) (whole_gcd.l0 (k + 1) y0 y1 y2))
  | 0 => ⟨fun _ _ _ r h => by simp [whole_gcd.j0] at h, fun _ _ _ r h => by simp [whole_gcd.l0] at h⟩
  | k + 1 => by
    obtain ⟨ih0, ih1⟩ := whole_gcd.mono_l k
    refine ⟨?_, ?_⟩
    · intro y0 y1 y2
      unfold whole_gcd.j0
      repeat' with_reducible first | exact ih0 _ _ _ | exact ih1 _ _ _ | exact LeO.refl _ | exact LeO.none _ | refine LeO.ite ?_ ?_ | refine LeO.bind ?_ (fun _ => ?_)
    · intro y0 y1 y2
      unfold whole_gcd.l0
      repeat' with_reducible first | exact ih0 _ _ _ | exact ih1 _ _ _ | exact LeO.refl _ | exact LeO.none _ | refine LeO.ite ?_ ?_ | refine LeO.bind ?_ (fun _ => ?_)
theorem whole_gcd.mono : ∀ a0 a1 k, LeO (whole_gcd.f k a0 a1) (whole_gcd.f (k + 1) a0 a1) := by
  intro a0 a1 k
  obtain ⟨ih0, ih1⟩ := whole_gcd.mono_l k
  unfold whole_gcd.f
  repeat' with_reducible first | exact ih0 _ _ _ | exact ih1 _ _ _ | exact LeO.refl _ | exact LeO.none _ | refine LeO.ite ?_ ?_ | refine LeO.bind ?_ (fun _ => ?_)
/-! ### whole_size: function 52 -/
def whole_size.f (a0 : Int) : Option (Int) := if a0 < 0 then (some (IntKind.u64.wrap (-(IntKind.u64.wrap (a0))))) else (some (IntKind.u64.wrap (a0)))
/-! ### whole_Gcd: function 27 -/
def whole_Gcd.f (k : Nat) (a0 : Int) (a1 : Int) : Option (Int × Int) := (whole_size.f a0).bind fun t104 => ((whole_size.f a1).bind fun t105 => ((whole_gcd.f k t104 t105).bind fun t106 => ((whole_signed.f k t106 1).bind fun bt107 => (some (bt107.1, bt107.2)))))
theorem whole_Gcd.mono : ∀ a0 a1 k, LeO (whole_Gcd.f k a0 a1) (whole_Gcd.f (k + 1) a0 a1) := by
  intro a0 a1 k
  unfold whole_Gcd.f
  repeat' with_reducible first | exact whole_gcd.mono _ _ _ | exact whole_signed.mono _ _ _ | exact LeO.refl _ | exact LeO.none _ | refine LeO.ite ?_ ?_ | refine LeO.bind ?_ (fun _ => ?_)
/-! ### frac_Right: function 7 -/
def frac_Right.f (k : Nat) (a0_0 : Int) (a0_1 : Int) : Option (Bool) := (whole_Gcd.f k a0_0 a0_1).bind fun bt110 => (if a0_1 ≥ 1 then (if bt110.2 = 0 then (some (bt110.1 == 1)) else (some false)) else (some false))
theorem frac_Right.mono : ∀ a0 a1 k, LeO (frac_Right.f k a0 a1) (frac_Right.f (k + 1) a0 a1) := by
  intro a0 a1 k
  unfold frac_Right.f
  repeat' with_reducible first | exact whole_Gcd.mono _ _ _ | exact LeO.refl _ | exact LeO.none _ | refine LeO.ite ?_ ?_ | refine LeO.bind ?_ (fun _ => ?_)
/-! ### bits_Mul64: function 33 -/
def bits_Mul64.f (a0 : Int) (a1 : Int) : Option (Int × Int) := some (IntKind.u64.wrap ((IntKind.u64.wrap ((IntKind.u64.wrap ((a0 / 4294967296) * (a1 / 4294967296))) + ((IntKind.u64.wrap ((IntKind.u64.wrap ((a0 / 4294967296) * (Go.bits .and .u64 a1 4294967295))) + ((IntKind.u64.wrap ((Go.bits .and .u64 a0 4294967295) * (Go.bits .and .u64 a1 4294967295))) / 4294967296))) / 4294967296))) + ((IntKind.u64.wrap ((Go.bits .and .u64 (IntKind.u64.wrap ((IntKind.u64.wrap ((a0 / 4294967296) * (Go.bits .and .u64 a1 4294967295))) + ((IntKind.u64.wrap ((Go.bits .and .u64 a0 4294967295) * (Go.bits .and .u64 a1 4294967295))) / 4294967296))) 4294967295) + (IntKind.u64.wrap ((Go.bits .and .u64 a0 4294967295) * (a1 / 4294967296))))) / 4294967296)), IntKind.u64.wrap (a0 * a1))
/-! ### whole_product: function 28 -/
def whole_product.f (a0 : Int) (a1 : Int) : Option (Int × Int) := (whole_size.f a0).bind fun t113 => ((whole_size.f a1).bind fun t114 => ((bits_Mul64.f t113 t114).bind fun bt115 => (some (bt115.1, bt115.2))))
/-! ### whole_sign: function 29 -/
def whole_sign.j0 : Nat → Int → Int → Bool → Option (Int)
  | 0, _, _, _ => none
  | k + 1, x0, x1, x5 => if x5 = true then (some 0) else (if ((decide (x0 < 0)) != (decide (x1 < 0))) = true then (some (-1)) else (some 1))
def whole_sign.f (k : Nat) (a0 : Int) (a1 : Int) : Option (Int) := if a0 = 0 then (whole_sign.j0 k a0 a1 true) else (whole_sign.j0 k a0 a1 (a1 == 0))
theorem whole_sign.mono_l : ∀ k, (∀ y0 y1 y2, LeO (whole_sign.j0 k y0 y1 y2) (whole_sign.j0 (k + 1) y0 y1 y2))
  | 0 => fun _ _ _ r h => by simp [whole_sign.j0] at h
  | k + 1 => by
    have ih0 := whole_sign.mono_l k
    · intro y0 y1 y2
      unfold whole_sign.j0
      repeat' with_reducible first | exact ih0 _ _ _ | exact LeO.refl _ | exact LeO.none _ | refine LeO.ite ?_ ?_ | refine LeO.bind ?_ (fun _ => ?_)
theorem whole_sign.mono : ∀ a0 a1 k, LeO (whole_sign.f k a0 a1) (whole_sign.f (k + 1) a0 a1) := by
  intro a0 a1 k
  have ih0 := whole_sign.mono_l k
  unfold whole_sign.f
  repeat' with_reducible first | exact ih0 _ _ _ | exact LeO.refl _ | exact LeO.none _ | refine LeO.ite ?_ ?_ | refine LeO.bind ?_ (fun _ => ?_)
/-! ### bits_Add64: function 30 -/
def bits_Add64.f (a0 : Int) (a1 : Int) (a2 : Int) : Option (Int × Int) := if 0 ≤ a0 ∧ 0 ≤ a1 ∧ 0 ≤ a2 ∧ a2 ≤ 1 then some ((a0 + a1 + a2) % 18446744073709551616, (a0 + a1 + a2) / 18446744073709551616) else none
/-! ### bits_Len64: function 73 -/
def bits_Len64.f (a0 : Int) : Option Int := if 0 ≤ a0 ∧ a0 ≤ 18446744073709551615 then some ((Lib.bitLen a0.toNat : Nat) : Int) else none
/-! ### bits_LeadingZeros64: function 53 -/
def bits_LeadingZeros64.f (a0 : Int) : Option (Int) := (bits_Len64.f a0).bind fun t117 => (some (wrap64 (64 - t117)))
/-! ### bits_Div64: function 31 -/
mutual
def bits_Div64.j2 : Nat → Int → Int → Int → Int → Int → Int → Int → Int → Option (Int × Int)
  | 0, _, _, _, _, _, _, _, _ => none
  | k + 1, x2, x8, x9, x10, x11, x13, x14, x15 => if x9 = 0 then (none) else (bits_Div64.l1 k x2 x8 x9 x10 x14 x15 (IntKind.u64.wrap ((IntKind.u64.wrap ((IntKind.u64.wrap ((IntKind.u64.wrap (x11 * 4294967296)) + x13)) - (IntKind.u64.wrap (x15 * x2)))) - (IntKind.u64.wrap ((IntKind.u64.wrap (Int.tdiv (IntKind.u64.wrap ((IntKind.u64.wrap ((IntKind.u64.wrap (x11 * 4294967296)) + x13)) - (IntKind.u64.wrap (x15 * x2)))) x9)) * x9)))) (IntKind.u64.wrap ((IntKind.u64.wrap ((IntKind.u64.wrap (x11 * 4294967296)) + x13)) - (IntKind.u64.wrap (x15 * x2)))) (IntKind.u64.wrap (Int.tdiv (IntKind.u64.wrap ((IntKind.u64.wrap ((IntKind.u64.wrap (x11 * 4294967296)) + x13)) - (IntKind.u64.wrap (x15 * x2)))) x9)))
def bits_Div64.l1 : Nat → Int → Int → Int → Int → Int → Int → Int → Int → Int → Option (Int × Int)
  | 0, _, _, _, _, _, _, _, _, _ => none
  | k + 1, x2, x8, x9, x10, x14, x15, x16, x17, x18 => if x18 ≥ 4294967296 then (bits_Div64.j4 k x2 x8 x9 x10 x14 x15 x16 x17 x18 true) else (bits_Div64.j4 k x2 x8 x9 x10 x14 x15 x16 x17 x18 (decide ((IntKind.u64.wrap (x18 * x10)) > (IntKind.u64.wrap ((IntKind.u64.wrap (4294967296 * x16)) + x14)))))
def bits_Div64.j4 : Nat → Int → Int → Int → Int → Int → Int → Int → Int → Int → Bool → Option (Int × Int)
  | 0, _, _, _, _, _, _, _, _, _, _ => none
  | k + 1, x2, x8, x9, x10, x14, x15, x16, x17, x18, x113 => if x113 = true then (if (IntKind.u64.wrap (x16 + x9)) ≥ 4294967296 then (if 0 ≤ x8 then (some (IntKind.u64.wrap ((IntKind.u64.wrap (x15 * 4294967296)) + (IntKind.u64.wrap (x18 - 1))), shr .u64 (IntKind.u64.wrap ((IntKind.u64.wrap ((IntKind.u64.wrap (x17 * 4294967296)) + x14)) - (IntKind.u64.wrap ((IntKind.u64.wrap (x18 - 1)) * x2)))) x8)) else (none)) else (bits_Div64.l1 k x2 x8 x9 x10 x14 x15 (IntKind.u64.wrap (x16 + x9)) x17 (IntKind.u64.wrap (x18 - 1)))) else (if 0 ≤ x8 then (some (IntKind.u64.wrap ((IntKind.u64.wrap (x15 * 4294967296)) + x18), shr .u64 (IntKind.u64.wrap ((IntKind.u64.wrap ((IntKind.u64.wrap (x17 * 4294967296)) + x14)) - (IntKind.u64.wrap (x18 * x2)))) x8)) else (none))
def bits_Div64.l0 : Nat → Int → Int → Int → Int → Int → Int → Int → Int → Int → Option (Int × Int)
  | 0, _, _, _, _, _, _, _, _, _ => none
  | k + 1, x2, x8, x9, x10, x11, x13, x14, x15, x16 => if x15 ≥ 4294967296 then (bits_Div64.j1 k x2 x8 x9 x10 x11 x13 x14 x15 x16 true) else (bits_Div64.j1 k x2 x8 x9 x10 x11 x13 x14 x15 x16 (decide ((IntKind.u64.wrap (x15 * x10)) > (IntKind.u64.wrap ((IntKind.u64.wrap (4294967296 * x16)) + x13)))))
def bits_Div64.j1 : Nat → Int → Int → Int → Int → Int → Int → Int → Int → Int → Bool → Option (Int × Int)
  | 0, _, _, _, _, _, _, _, _, _, _ => none
  | k + 1, x2, x8, x9, x10, x11, x13, x14, x15, x16, x78 => if x78 = true then (if (IntKind.u64.wrap (x16 + x9)) ≥ 4294967296 then (bits_Div64.j2 k x2 x8 x9 x10 x11 x13 x14 (IntKind.u64.wrap (x15 - 1))) else (bits_Div64.l0 k x2 x8 x9 x10 x11 x13 x14 (IntKind.u64.wrap (x15 - 1)) (IntKind.u64.wrap (x16 + x9)))) else (bits_Div64.j2 k x2 x8 x9 x10 x11 x13 x14 x15)
end
def bits_Div64.f (k : Nat) (a0 : Int) (a1 : Int) (a2 : Int) : Option (Int × Int) := if a2 = 0 then (none) else (if a2 ≤ a0 then (none) else (if a0 = 0 then (some (IntKind.u64.wrap (Int.tdiv a1 a2), Int.tmod a1 a2)) else ((bits_LeadingZeros64.f a2).bind fun t118 => (if 0 ≤ (IntKind.u64.wrap (t118)) then (if 0 ≤ (IntKind.u64.wrap (64 - (IntKind.u64.wrap (t118)))) then (if ((shl .u64 a2 (IntKind.u64.wrap (t118))) / 4294967296) = 0 then (none) else (bits_Div64.l0 k (shl .u64 a2 (IntKind.u64.wrap (t118))) (IntKind.u64.wrap (t118)) ((shl .u64 a2 (IntKind.u64.wrap (t118))) / 4294967296) (Go.bits .and .u64 (shl .u64 a2 (IntKind.u64.wrap (t118))) 4294967295) (Go.bits .or .u64 (shl .u64 a0 (IntKind.u64.wrap (t118))) (shr .u64 a1 (IntKind.u64.wrap (64 - (IntKind.u64.wrap (t118)))))) ((shl .u64 a1 (IntKind.u64.wrap (t118))) / 4294967296) (Go.bits .and .u64 (shl .u64 a1 (IntKind.u64.wrap (t118))) 4294967295) (IntKind.u64.wrap (Int.tdiv (Go.bits .or .u64 (shl .u64 a0 (IntKind.u64.wrap (t118))) (shr .u64 a1 (IntKind.u64.wrap (64 - (IntKind.u64.wrap (t118)))))) ((shl .u64 a2 (IntKind.u64.wrap (t118))) / 4294967296))) (IntKind.u64.wrap ((Go.bits .or .u64 (shl .u64 a0 (IntKind.u64.wrap (t118))) (shr .u64 a1 (IntKind.u64.wrap (64 - (IntKind.u64.wrap (t118)))))) - (IntKind.u64.wrap ((IntKind.u64.wrap (Int.tdiv (Go.bits .or .u64 (shl .u64 a0 (IntKind.u64.wrap (t118))) (shr .u64 a1 (IntKind.u64.wrap (64 - (IntKind.u64.wrap (t118)))))) ((shl .u64 a2 (IntKind.u64.wrap (t118))) / 4294967296))) * ((shl .u64 a2 (IntKind.u64.wrap (t118))) / 4294967296))))))) else (none)) else (none)))))
theorem bits_Div64.mono_l : ∀ k, (∀ y0 y1 y2 y3 y4 y5 y6 y7, LeO (bits_Div64.j2 k y0 y1 y2 y3 y4 y5 y6 y7) (bits_Div64.j2 (k + 1) y0 y1 y2 y3 y4 y5 y6 y7)) ∧ (∀ y0 y1 y2 y3 y4 y5 y6 y7 y8, LeO (bits_Div64.l1 k y0 y1 y2 y3 y4 y5 y6 y7 y8) (bits_Div64.l1 (k + 1) y0 y1 y2 y3 y4 y5 y6 y7 y8)) ∧ (∀ y0 y1 y2 y3 y4 y5 y6 y7 y8 y9, LeO (bits_Div64.j4 k y0 y1 y2 y3 y4 y5 y6 y7 y8 y9) (bits_Div64.j4 (k + 1) y0 y1 y2 y3 y4 y5 y6 y7 y8 y9)) ∧ (∀ y0 y1 y2 y3 y4 y5 y6 y7 y8, LeO (bits_Div64.l0 k y0 y1 y2 y3 y4 y5 y6 y7 y8) (bits_Div64.l0 (k + 1) y0 y1 y2 y3 y4 y5 y6 y7 y8)) ∧ (∀ y0 y1 y2 y3 y4 y5 y6 y7 y8 y9, LeO (bits_Div64.j1 k y0 y1 y2 y3 y4 y5 y6 y7 y8 y9) (bits_Div64.j1 (k + 1) y0 y1 y2 y3 y4 y5 y6 y7 y8 y9))
  | 0 => ⟨fun _ _ _ _ _ _ _ _ r h => by simp [bits_Div64.j2] at h, fun _ _ _ _ _ _ _ _ _ r h => by simp [bits_Div64.l1] at h, fun _ _ _ _ _ _ _ _ _ _ r h => by simp [bits_Div64.j4] at h, fun _ _ _ _ _ _ _ _ _ r h => by simp [bits_Div64.l0] at h, fun _ _ _ _ _ _ _ _ _ _ r h => by simp [bits_Div64.j1] at h⟩
  | k + 1 => by
    obtain ⟨ih0, ih1, ih2, ih3, ih4⟩ := bits_Div64.mono_l k
    refine ⟨?_, ?_, ?_, ?_, ?_⟩
    · intro y0 y1 y2 y3 y4 y5 y6 y7
      unfold bits_Div64.j2
      repeat' with_reducible first | exact ih0 _ _ _ _ _ _ _ _ | exact ih1 _ _ _ _ _ _ _ _ _ | exact ih2 _ _ _ _ _ _ _ _ _ _ | exact ih3 _ _ _ _ _ _ _ _ _ | exact ih4 _ _ _ _ _ _ _ _ _ _ | exact LeO.refl _ | exact LeO.none _ | refine LeO.ite ?_ ?_ | refine LeO.bind ?_ (fun _ => ?_)
    · intro y0 y1 y2 y3 y4 y5 y6 y7 y8
      unfold bits_Div64.l1
      repeat' with_reducible first | exact ih0 _ _ _ _ _ _ _ _ | exact ih1 _ _ _ _ _ _ _ _ _ | exact ih2 _ _ _ _ _ _ _ _ _ _ | exact ih3 _ _ _ _ _ _ _ _ _ | exact ih4 _ _ _ _ _ _ _ _ _ _ | exact LeO.refl _ | exact LeO.none _ | refine LeO.ite ?_ ?_ | refine LeO.bind ?_ (fun _ => ?_)
    · intro y0 y1 y2 y3 y4 y5 y6 y7 y8 y9
      unfold bits_Div64.j4
      repeat' with_reducible first | exact ih0 _ _ _ _ _ _ _ _ | exact ih1 _ _ _ _ _ _ _ _ _ | exact ih2 _ _ _ _ _ _ _ _ _ _ | exact ih3 _ _ _ _ _ _ _ _ _ | exact ih4 _ _ _ _ _ _ _ _ _ _ | exact LeO.refl _ | exact LeO.none _ | refine LeO.ite ?_ ?_ | refine LeO.bind ?_ (fun _ => ?_)
    · intro y0 y1 y2 y3 y4 y5 y6 y7 y8
      unfold bits_Div64.l0
      repeat' with_reducible first | exact ih0 _ _ _ _ _ _ _ _ | exact ih1 _ _ _ _ _ _ _ _ _ | exact ih2 _ _ _ _ _ _ _ _ _ _ | exact ih3 _ _ _ _ _ _ _ _ _ | exact ih4 _ _ _ _ _ _ _ _ _ _ | exact LeO.refl _ | exact LeO.none _ | refine LeO.ite ?_ ?_ | refine LeO.bind ?_ (fun _ => ?_)
    · intro y0 y1 y2 y3 y4 y5 y6 y7 y8 y9
      unfold bits_Div64.j1
      repeat' with_reducible first | exact ih0 _ _ _ _ _ _ _ _ | exact ih1 _ _ _ _ _ _ _ _ _ | exact ih2 _ _ _ _ _ _ _ _ _ _ | exact ih3 _ _ _ _ _ _ _ _ _ | exact ih4 _ _ _ _ _ _ _ _ _ _ | exact LeO.refl _ | exact LeO.none _ | refine LeO.ite ?_ ?_ | refine LeO.bind ?_ (fun _ => ?_)
theorem bits_Div64.mono : ∀ a0 a1 a2 k, LeO (bits_Div64.f k a0 a1 a2) (bits_Div64.f (k + 1) a0 a1 a2) := by
  intro a0 a1 a2 k
  obtain ⟨ih0, ih1, ih2, ih3, ih4⟩ := bits_Div64.mono_l k
  unfold bits_Div64.f
  repeat' with_reducible first | exact ih0 _ _ _ _ _ _ _ _ | exact ih1 _ _ _ _ _ _ _ _ _ | exact ih2 _ _ _ _ _ _ _ _ _ _ | exact ih3 _ _ _ _ _ _ _ _ _ | exact ih4 _ _ _ _ _ _ _ _ _ _ | exact LeO.refl _ | exact LeO.none _ | refine LeO.ite ?_ ?_ | refine LeO.bind ?_ (fun _ => ?_)
/-! ### whole_Scale: function 8 -/
def whole_Scale.j0 : Nat → Int → Int → Int → Int → Option (Int × Int)
  | 0, _, _, _, _ => none
  | k + 1, x2, x9, x123000, x123001 => if x123000 ≥ (IntKind.u64.wrap (x2)) then (some (0, 2)) else ((bits_Div64.f k x123000 x123001 (IntKind.u64.wrap (x2))).bind fun bt125 => ((whole_signed.f k bt125.1 x9).bind fun bt127 => (some (bt127.1, bt127.2))))
def whole_Scale.f (k : Nat) (a0 : Int) (a1 : Int) (a2 : Int) : Option (Int × Int) := if a2 < 1 then (some (0, 1)) else ((whole_product.f a0 a1).bind fun bt119 => ((whole_sign.f k a0 a1).bind fun t121 => (if t121 < 0 then ((bits_Add64.f bt119.2 (IntKind.u64.wrap ((IntKind.u64.wrap (a2)) - 1)) 0).bind fun bt123 => (whole_Scale.j0 k a2 t121 (IntKind.u64.wrap (bt119.1 + bt123.2)) bt123.1)) else (whole_Scale.j0 k a2 t121 bt119.1 bt119.2))))
theorem whole_Scale.mono_l : ∀ k, (∀ y0 y1 y2 y3, LeO (whole_Scale.j0 k y0 y1 y2 y3) (whole_Scale.j0 (k + 1) y0 y1 y2 y3))
  | 0 => fun _ _ _ _ r h => by simp [whole_Scale.j0] at h
  | k + 1 => by
    have ih0 := whole_Scale.mono_l k
    · intro y0 y1 y2 y3
      unfold whole_Scale.j0
      repeat' with_reducible first | exact ih0 _ _ _ _ | exact bits_Div64.mono _ _ _ _ | exact whole_sign.mono _ _ _ | exact whole_signed.mono _ _ _ | exact LeO.refl _ | exact LeO.none _ | refine LeO.ite ?_ ?_ | refine LeO.bind ?_ (fun _ => ?_)
theorem whole_Scale.mono : ∀ a0 a1 a2 k, LeO (whole_Scale.f k a0 a1 a2) (whole_Scale.f (k + 1) a0 a1 a2) := by
  intro a0 a1 a2 k
  have ih0 := whole_Scale.mono_l k
  unfold whole_Scale.f
  repeat' with_reducible first | exact ih0 _ _ _ _ | exact bits_Div64.mono _ _ _ _ | exact whole_sign.mono _ _ _ | exact whole_signed.mono _ _ _ | exact LeO.refl _ | exact LeO.none _ | refine LeO.ite ?_ ?_ | refine LeO.bind ?_ (fun _ => ?_)
/-! ### demand_new128: function 9 -/
def demand_new128.f (a0 : Int) (a1 : Int) : Option (Int × Int) := (bits_Mul64.f (IntKind.u64.wrap (a0)) (IntKind.u64.wrap (a1))).bind fun bt130 => (some (bt130.1, bt130.2))
/-! ### bits_Sub64: function 34 -/
def bits_Sub64.f (a0 : Int) (a1 : Int) (a2 : Int) : Option (Int × Int) := if 0 ≤ a0 ∧ 0 ≤ a1 ∧ a1 < 18446744073709551616 ∧ 0 ≤ a2 ∧ a2 ≤ 1 then some ((a0 - a1 - a2) % 18446744073709551616, if a0 < a1 + a2 then 1 else 0) else none
/-- The model's entry for math/bits.Sub64. -/
def sub64Entry : Array Value → Sem Value := fun args => do
  let (x, y, b) ← Extern.MathBitsCarry.three "Sub64" args
  pure (Extern.MathBitsCarry.pair ((x + Extern.MathBitsCarry.m64 - y - b) % Extern.MathBitsCarry.m64) (if x < y + b then 1 else 0))
/-! ### demand_long_less: function 10 -/
def demand_long_less.f (a0_0 : Int) (a0_1 : Int) (a1_0 : Int) (a1_1 : Int) : Option (Int × Int) := (bits_Sub64.f a0_1 a1_1 0).bind fun bt135 => ((bits_Sub64.f a0_0 a1_0 bt135.2).bind fun bt137 => (some (bt137.1, bt135.1)))
/-! ### demand_long_twice: function 11 -/
def demand_long_twice.f (a0_0 : Int) (a0_1 : Int) : Option (Int × Int) := some (Go.bits .or .u64 (IntKind.u64.wrap (a0_0 * 2)) (a0_1 / 9223372036854775808), IntKind.u64.wrap (a0_1 * 2))
/-! ### demand_long_atLeast: function 12 -/
def demand_long_atLeast.f (a0_0 : Int) (a0_1 : Int) (a1 : Int) : Option (Bool) := if a0_0 > 0 then (some true) else (some (decide (a0_1 ≥ (IntKind.u64.wrap (a1)))))
/-! ### whole_Add: function 13 -/
def whole_Add.f (a0 : Int) (a1 : Int) : Option (Int × Int) := if ((decide ((wrap64 (a0 + a1)) < a0)) != (decide (a1 < 0))) = true then (some (0, 2)) else (some (wrap64 (a0 + a1), 0))
/-! ### strconv_FormatInt: function 14 -/
/-- strconv.FormatInt at base 10: by the shelf's contract. -/
def strconv_FormatInt.f (a0 a1 : Int) : Option ByteArray := if a1 = 10 ∧ -9223372036854775808 ≤ a0 ∧ a0 ≤ 9223372036854775807 then some ⟨(Lib.itoa a0).toArray⟩ else none
/-! ### strings_Repeat: function 15 -/
/-- strings.Repeat of few copies of a short text: by the shelf's contract. -/
def strings_Repeat.f (a0 : ByteArray) (a1 : Int) : Option ByteArray := if 0 ≤ a1 ∧ a1 ≤ 1000 ∧ a0.size ≤ 1000 then some ⟨(Lib.repeatL a0.data.toList a1.toNat).toArray⟩ else none
/-! ### demand_Rate: function 4 -/
mutual
def demand_Rate.j0 : Nat → Int → Bool → Int → Int → Option (ByteArray × Int)
  | 0, _, _, _, _ => none
  | k + 1, x1, x26, x143000, x143001 => if x26 = true then (some ((⟨#[]⟩ : ByteArray), 1)) else (demand_Rate.l0 k x1 1 x1 0 x143000 x143001)
def demand_Rate.l0 : Nat → Int → Int → Int → Int → Int → Int → Option (ByteArray × Int)
  | 0, _, _, _, _, _, _ => none
  | k + 1, x1, x6, x27, x28, x143000, x143001 => if x28 < x27 then (demand_Rate.l0 k x1 (wrap64 (x6 * 10)) x27 (wrap64 (x28 + 1)) x143000 x143001) else ((whole_Scale.f k x143000 x6 x143001).bind fun bt144 => (if bt144.2 = 0 then ((demand_new128.f x143000 x6).bind fun bt146 => ((demand_new128.f bt144.1 x143001).bind fun bt148 => ((demand_long_less.f bt146.1 bt146.2 bt148.1 bt148.2).bind fun bt150 => ((demand_long_twice.f bt150.1 bt150.2).bind fun bt153 => ((demand_long_atLeast.f bt153.1 bt153.2 x143001).bind fun t155 => (if t155 = true then ((whole_Add.f bt144.1 1).bind fun bt156 => (if bt156.2 = 0 then (demand_Rate.j2 k x1 bt156.1) else (some ((⟨#[]⟩ : ByteArray), bt156.2)))) else (demand_Rate.j2 k x1 bt144.1))))))) else (some ((⟨#[]⟩ : ByteArray), bt144.2))))
def demand_Rate.j2 : Nat → Int → Int → Option (ByteArray × Int)
  | 0, _, _ => none
  | k + 1, x1, x7 => (strconv_FormatInt.f x7 10).bind fun t158 => (if (t158.size : Int) ≤ x1 then ((strings_Repeat.f (⟨#[48]⟩ : ByteArray) (wrap64 ((wrap64 (x1 + 1)) - (t158.size : Int)))).bind fun t159 => (if t159.size + t158.size ≤ 9223372036854775807 then (if x1 = 0 then (some (t159 ++ t158, 0)) else (if 0 ≤ (wrap64 (((t159 ++ t158).size : Int) - x1)) then (if (wrap64 (((t159 ++ t158).size : Int) - x1)) ≤ ((t159 ++ t158).size : Int) then (if ((t159 ++ t158).extract 0 ((wrap64 (((t159 ++ t158).size : Int) - x1)) : Int).toNat).size + 1 ≤ 9223372036854775807 then (if (((t159 ++ t158).extract 0 ((wrap64 (((t159 ++ t158).size : Int) - x1)) : Int).toNat) ++ (⟨#[46]⟩ : ByteArray)).size + ((t159 ++ t158).extract ((wrap64 (((t159 ++ t158).size : Int) - x1)) : Int).toNat (t159 ++ t158).size).size ≤ 9223372036854775807 then (some ((((t159 ++ t158).extract 0 ((wrap64 (((t159 ++ t158).size : Int) - x1)) : Int).toNat) ++ (⟨#[46]⟩ : ByteArray)) ++ ((t159 ++ t158).extract ((wrap64 (((t159 ++ t158).size : Int) - x1)) : Int).toNat (t159 ++ t158).size), 0)) else (none)) else (none)) else (none)) else (none))) else (none))) else (if x1 = 0 then (some (t158, 0)) else (if 0 ≤ (wrap64 ((t158.size : Int) - x1)) then (if (wrap64 ((t158.size : Int) - x1)) ≤ (t158.size : Int) then (if (t158.extract 0 ((wrap64 ((t158.size : Int) - x1)) : Int).toNat).size + 1 ≤ 9223372036854775807 then (if ((t158.extract 0 ((wrap64 ((t158.size : Int) - x1)) : Int).toNat) ++ (⟨#[46]⟩ : ByteArray)).size + (t158.extract ((wrap64 ((t158.size : Int) - x1)) : Int).toNat t158.size).size ≤ 9223372036854775807 then (some (((t158.extract 0 ((wrap64 ((t158.size : Int) - x1)) : Int).toNat) ++ (⟨#[46]⟩ : ByteArray)) ++ (t158.extract ((wrap64 ((t158.size : Int) - x1)) : Int).toNat t158.size), 0)) else (none)) else (none)) else (none)) else (none))))
end
def demand_Rate.f (k : Nat) (a0_0 : Int) (a0_1 : Int) (a1 : Int) : Option (ByteArray × Int) := if a1 < 0 then (demand_Rate.j0 k a1 true a0_0 a0_1) else (if a1 > 9 then (demand_Rate.j0 k a1 true a0_0 a0_1) else ((frac_Right.f k a0_0 a0_1).bind fun t143 => (if t143 = true then (demand_Rate.j0 k a1 (decide (a0_0 < 0)) a0_0 a0_1) else (demand_Rate.j0 k a1 true a0_0 a0_1))))
theorem demand_Rate.mono_l : ∀ k, (∀ y0 y1 y2 y3, LeO (demand_Rate.j0 k y0 y1 y2 y3) (demand_Rate.j0 (k + 1) y0 y1 y2 y3)) ∧ (∀ y0 y1 y2 y3 y4 y5, LeO (demand_Rate.l0 k y0 y1 y2 y3 y4 y5) (demand_Rate.l0 (k + 1) y0 y1 y2 y3 y4 y5)) ∧ (∀ y0 y1, LeO (demand_Rate.j2 k y0 y1) (demand_Rate.j2 (k + 1) y0 y1))
  | 0 => ⟨fun _ _ _ _ r h => by simp [demand_Rate.j0] at h, fun _ _ _ _ _ _ r h => by simp [demand_Rate.l0] at h, fun _ _ r h => by simp [demand_Rate.j2] at h⟩
  | k + 1 => by
    obtain ⟨ih0, ih1, ih2⟩ := demand_Rate.mono_l k
    refine ⟨?_, ?_, ?_⟩
    · intro y0 y1 y2 y3
      unfold demand_Rate.j0
      repeat' with_reducible first | exact ih0 _ _ _ _ | exact ih1 _ _ _ _ _ _ | exact ih2 _ _ | exact frac_Right.mono _ _ _ | exact whole_Scale.mono _ _ _ _ | exact LeO.refl _ | exact LeO.none _ | refine LeO.ite ?_ ?_ | refine LeO.bind ?_ (fun _ => ?_)
    · intro y0 y1 y2 y3 y4 y5
      unfold demand_Rate.l0
      repeat' with_reducible first | exact ih0 _ _ _ _ | exact ih1 _ _ _ _ _ _ | exact ih2 _ _ | exact frac_Right.mono _ _ _ | exact whole_Scale.mono _ _ _ _ | exact LeO.refl _ | exact LeO.none _ | refine LeO.ite ?_ ?_ | refine LeO.bind ?_ (fun _ => ?_)
    · intro y0 y1
      unfold demand_Rate.j2
      repeat' with_reducible first | exact ih0 _ _ _ _ | exact ih1 _ _ _ _ _ _ | exact ih2 _ _ | exact frac_Right.mono _ _ _ | exact whole_Scale.mono _ _ _ _ | exact LeO.refl _ | exact LeO.none _ | refine LeO.ite ?_ ?_ | refine LeO.bind ?_ (fun _ => ?_)
theorem demand_Rate.mono : ∀ a0 a1 a2 k, LeO (demand_Rate.f k a0 a1 a2) (demand_Rate.f (k + 1) a0 a1 a2) := by
  intro a0 a1 a2 k
  obtain ⟨ih0, ih1, ih2⟩ := demand_Rate.mono_l k
  unfold demand_Rate.f
  repeat' with_reducible first | exact ih0 _ _ _ _ | exact ih1 _ _ _ _ _ _ | exact ih2 _ _ | exact frac_Right.mono _ _ _ | exact whole_Scale.mono _ _ _ _ | exact LeO.refl _ | exact LeO.none _ | refine LeO.ite ?_ ?_ | refine LeO.bind ?_ (fun _ => ?_)
/-! ### carrefourref02_gcd: function 42 -/
def carrefourref02_gcd.l0 : Nat → Int → Int → Option (Int)
  | 0, _, _ => none
  | k + 1, x0, x1 => if x1 = 0 then (some x0) else (carrefourref02_gcd.l0 k x1 (Int.tmod x0 x1))
def carrefourref02_gcd.f (k : Nat) (a0 : Int) (a1 : Int) : Option (Int) := carrefourref02_gcd.l0 k a0 a1
theorem carrefourref02_gcd.mono_l : ∀ k, (∀ y0 y1, LeO (carrefourref02_gcd.l0 k y0 y1) (carrefourref02_gcd.l0 (k + 1) y0 y1))
  | 0 => fun _ _ r h => by simp [carrefourref02_gcd.l0] at h
  | k + 1 => by
    have ih0 := carrefourref02_gcd.mono_l k
    · intro y0 y1
      unfold carrefourref02_gcd.l0
      repeat' with_reducible first | exact ih0 _ _ | exact LeO.refl _ | exact LeO.none _ | refine LeO.ite ?_ ?_ | refine LeO.bind ?_ (fun _ => ?_)
theorem carrefourref02_gcd.mono : ∀ a0 a1 k, LeO (carrefourref02_gcd.f k a0 a1) (carrefourref02_gcd.f (k + 1) a0 a1) := by
  intro a0 a1 k
  have ih0 := carrefourref02_gcd.mono_l k
  unfold carrefourref02_gcd.f
  repeat' with_reducible first | exact ih0 _ _ | exact LeO.refl _ | exact LeO.none _ | refine LeO.ite ?_ ?_ | refine LeO.bind ?_ (fun _ => ?_)
/-! ### carrefourref01_Size: function 43 -/
def carrefourref01_Size.f (a0 : Int) : Option (Int) := if a0 < 0 then (some (IntKind.u64.wrap (-(IntKind.u64.wrap (a0))))) else (some (IntKind.u64.wrap (a0)))
/-! ### carrefourref02_Right: function 16 -/
def carrefourref02_Right.f (k : Nat) (a0_0 : Int) (a0_1 : Int) : Option (Bool) := if a0_1 ≥ 1 then ((carrefourref01_Size.f a0_0).bind fun t161 => ((carrefourref02_gcd.f k t161 (IntKind.u64.wrap (a0_1))).bind fun t162 => (some (t162 == 1)))) else (some false)
theorem carrefourref02_Right.mono : ∀ a0 a1 k, LeO (carrefourref02_Right.f k a0 a1) (carrefourref02_Right.f (k + 1) a0 a1) := by
  intro a0 a1 k
  unfold carrefourref02_Right.f
  repeat' with_reducible first | exact carrefourref02_gcd.mono _ _ _ | exact LeO.refl _ | exact LeO.none _ | refine LeO.ite ?_ ?_ | refine LeO.bind ?_ (fun _ => ?_)
/-! ### carrefourref01_Plus: function 22 -/
mutual
def carrefourref01_Plus.l0 : Nat → List Int → List Int → List Int → Int → Int → Option (List Int)
  | 0, _, _, _, _, _ => none
  | k + 1, x0, x1, x5, x6, x7 => if x7 < (x0.length : Int) then (carrefourref01_Plus.j1 k x0 x1 x5 x6 x7 true) else (if x7 < (x1.length : Int) then (carrefourref01_Plus.j1 k x0 x1 x5 x6 x7 true) else (carrefourref01_Plus.j1 k x0 x1 x5 x6 x7 (decide (x6 > 0))))
def carrefourref01_Plus.j1 : Nat → List Int → List Int → List Int → Int → Int → Bool → Option (List Int)
  | 0, _, _, _, _, _, _ => none
  | k + 1, x0, x1, x5, x6, x7, x22 => if x22 = true then (if x7 < (x0.length : Int) then (if 0 ≤ x7 then (if x7 < (x1.length : Int) then (if x5.length < 17592186044416 then (carrefourref01_Plus.l0 k x0 x1 (x5 ++ [Int.tmod (IntKind.u64.wrap ((IntKind.u64.wrap (x6 + (rd x0 x7))) + (rd x1 x7))) 65536]) (IntKind.u64.wrap (Int.tdiv (IntKind.u64.wrap ((IntKind.u64.wrap (x6 + (rd x0 x7))) + (rd x1 x7))) 65536)) (wrap64 (x7 + 1))) else (none)) else (if x5.length < 17592186044416 then (carrefourref01_Plus.l0 k x0 x1 (x5 ++ [Int.tmod (IntKind.u64.wrap (x6 + (rd x0 x7))) 65536]) (IntKind.u64.wrap (Int.tdiv (IntKind.u64.wrap (x6 + (rd x0 x7))) 65536)) (wrap64 (x7 + 1))) else (none))) else (none)) else (if x7 < (x1.length : Int) then (if 0 ≤ x7 then (if x5.length < 17592186044416 then (carrefourref01_Plus.l0 k x0 x1 (x5 ++ [Int.tmod (IntKind.u64.wrap (x6 + (rd x1 x7))) 65536]) (IntKind.u64.wrap (Int.tdiv (IntKind.u64.wrap (x6 + (rd x1 x7))) 65536)) (wrap64 (x7 + 1))) else (none)) else (none)) else (if x5.length < 17592186044416 then (carrefourref01_Plus.l0 k x0 x1 (x5 ++ [Int.tmod x6 65536]) (IntKind.u64.wrap (Int.tdiv x6 65536)) (wrap64 (x7 + 1))) else (none)))) else (some x5)
end
def carrefourref01_Plus.f (k : Nat) (l0 : List Int) (l1 : List Int) : Option (List Int) := carrefourref01_Plus.l0 k l0 l1 ([] : List Int) 0 0
theorem carrefourref01_Plus.mono_l : ∀ k, (∀ y0 y1 y2 y3 y4, LeO (carrefourref01_Plus.l0 k y0 y1 y2 y3 y4) (carrefourref01_Plus.l0 (k + 1) y0 y1 y2 y3 y4)) ∧ (∀ y0 y1 y2 y3 y4 y5, LeO (carrefourref01_Plus.j1 k y0 y1 y2 y3 y4 y5) (carrefourref01_Plus.j1 (k + 1) y0 y1 y2 y3 y4 y5))
  | 0 => ⟨fun _ _ _ _ _ r h => by simp [carrefourref01_Plus.l0] at h, fun _ _ _ _ _ _ r h => by simp [carrefourref01_Plus.j1] at h⟩
  | k + 1 => by
    obtain ⟨ih0, ih1⟩ := carrefourref01_Plus.mono_l k
    refine ⟨?_, ?_⟩
    · intro y0 y1 y2 y3 y4
      unfold carrefourref01_Plus.l0
      repeat' with_reducible first | exact ih0 _ _ _ _ _ | exact ih1 _ _ _ _ _ _ | exact LeO.refl _ | exact LeO.none _ | refine LeO.ite ?_ ?_ | refine LeO.bind ?_ (fun _ => ?_)
    · intro y0 y1 y2 y3 y4 y5
      unfold carrefourref01_Plus.j1
      repeat' with_reducible first | exact ih0 _ _ _ _ _ | exact ih1 _ _ _ _ _ _ | exact LeO.refl _ | exact LeO.none _ | refine LeO.ite ?_ ?_ | refine LeO.bind ?_ (fun _ => ?_)
theorem carrefourref01_Plus.mono : ∀ a0 a1 k, LeO (carrefourref01_Plus.f k a0 a1) (carrefourref01_Plus.f (k + 1) a0 a1) := by
  intro a0 a1 k
  obtain ⟨ih0, ih1⟩ := carrefourref01_Plus.mono_l k
  unfold carrefourref01_Plus.f
  repeat' with_reducible first | exact ih0 _ _ _ _ _ | exact ih1 _ _ _ _ _ _ | exact LeO.refl _ | exact LeO.none _ | refine LeO.ite ?_ ?_ | refine LeO.bind ?_ (fun _ => ?_)
/-! ### carrefourref01_Parts: function 23 -/
def carrefourref01_Parts.l0 : Nat → Int → List Int → Int → Option (List Int)
  | 0, _, _, _ => none
  | k + 1, x0, x3, x4 => if x4 < 4 then (if x3.length < 17592186044416 then (carrefourref01_Parts.l0 k (IntKind.u64.wrap (Int.tdiv x0 65536)) (x3 ++ [Int.tmod x0 65536]) (wrap64 (x4 + 1))) else (none)) else (some x3)
def carrefourref01_Parts.f (k : Nat) (a0 : Int) : Option (List Int) := carrefourref01_Parts.l0 k a0 ([] : List Int) 0
theorem carrefourref01_Parts.mono_l : ∀ k, (∀ y0 y1 y2, LeO (carrefourref01_Parts.l0 k y0 y1 y2) (carrefourref01_Parts.l0 (k + 1) y0 y1 y2))
  | 0 => fun _ _ _ r h => by simp [carrefourref01_Parts.l0] at h
  | k + 1 => by
    have ih0 := carrefourref01_Parts.mono_l k
    · intro y0 y1 y2
      unfold carrefourref01_Parts.l0
      repeat' with_reducible first | exact ih0 _ _ _ | exact LeO.refl _ | exact LeO.none _ | refine LeO.ite ?_ ?_ | refine LeO.bind ?_ (fun _ => ?_)
theorem carrefourref01_Parts.mono : ∀ a0 k, LeO (carrefourref01_Parts.f k a0) (carrefourref01_Parts.f (k + 1) a0) := by
  intro a0 k
  have ih0 := carrefourref01_Parts.mono_l k
  unfold carrefourref01_Parts.f
  repeat' with_reducible first | exact ih0 _ _ _ | exact LeO.refl _ | exact LeO.none _ | refine LeO.ite ?_ ?_ | refine LeO.bind ?_ (fun _ => ?_)
/-! ### carrefourref01_Times: function 19 -/
mutual
def carrefourref01_Times.l0 : Nat → List Int → List Int → List Int → Int → Option (List Int)
  | 0, _, _, _, _ => none
  | k + 1, x5, x6, x7, x8 => if x8 < 4 then (if 0 ≤ x8 then (if (x8 : Int).toNat ≤ 35184372088832 then (carrefourref01_Times.l1 k x5 x6 x7 x8 (List.replicate (x8 : Int).toNat 0) 0 0) else (none)) else (none)) else (some x7)
def carrefourref01_Times.l1 : Nat → List Int → List Int → List Int → Int → List Int → Int → Int → Option (List Int)
  | 0, _, _, _, _, _, _, _ => none
  | k + 1, x5, x6, x7, x8, x9, x10, x11 => if x11 < 4 then (if 0 ≤ x8 then (if x8 < (x5.length : Int) then (if 0 ≤ x11 then (if x11 < (x6.length : Int) then (if x9.length < 17592186044416 then (carrefourref01_Times.l1 k x5 x6 x7 x8 (x9 ++ [Int.tmod (IntKind.u64.wrap ((IntKind.u64.wrap ((rd x5 x8) * (rd x6 x11))) + x10)) 65536]) (IntKind.u64.wrap (Int.tdiv (IntKind.u64.wrap ((IntKind.u64.wrap ((rd x5 x8) * (rd x6 x11))) + x10)) 65536)) (wrap64 (x11 + 1))) else (none)) else (none)) else (none)) else (none)) else (none)) else (if x9.length < 17592186044416 then ((carrefourref01_Plus.f k x7 (x9 ++ [x10])).bind fun t198 => (carrefourref01_Times.l0 k x5 x6 t198 (wrap64 (x8 + 1)))) else (none))
end
def carrefourref01_Times.f (k : Nat) (a0 : Int) (a1 : Int) : Option (List Int) := (carrefourref01_Parts.f k a0).bind fun t181 => ((carrefourref01_Parts.f k a1).bind fun t184 => (carrefourref01_Times.l0 k t181 t184 ([] : List Int) 0))
theorem carrefourref01_Times.mono_l : ∀ k, (∀ y0 y1 y2 y3, LeO (carrefourref01_Times.l0 k y0 y1 y2 y3) (carrefourref01_Times.l0 (k + 1) y0 y1 y2 y3)) ∧ (∀ y0 y1 y2 y3 y4 y5 y6, LeO (carrefourref01_Times.l1 k y0 y1 y2 y3 y4 y5 y6) (carrefourref01_Times.l1 (k + 1) y0 y1 y2 y3 y4 y5 y6))
  | 0 => ⟨fun _ _ _ _ r h => by simp [carrefourref01_Times.l0] at h, fun _ _ _ _ _ _ _ r h => by simp [carrefourref01_Times.l1] at h⟩
  | k + 1 => by
    obtain ⟨ih0, ih1⟩ := carrefourref01_Times.mono_l k
    refine ⟨?_, ?_⟩
    · intro y0 y1 y2 y3
      unfold carrefourref01_Times.l0
      repeat' with_reducible first | exact ih0 _ _ _ _ | exact ih1 _ _ _ _ _ _ _ | exact carrefourref01_Parts.mono _ _ | exact carrefourref01_Plus.mono _ _ _ | exact LeO.refl _ | exact LeO.none _ | refine LeO.ite ?_ ?_ | refine LeO.bind ?_ (fun _ => ?_)
    · intro y0 y1 y2 y3 y4 y5 y6
      unfold carrefourref01_Times.l1
      repeat' with_reducible first | exact ih0 _ _ _ _ | exact ih1 _ _ _ _ _ _ _ | exact carrefourref01_Parts.mono _ _ | exact carrefourref01_Plus.mono _ _ _ | exact LeO.refl _ | exact LeO.none _ | refine LeO.ite ?_ ?_ | refine LeO.bind ?_ (fun _ => ?_)
theorem carrefourref01_Times.mono : ∀ a0 a1 k, LeO (carrefourref01_Times.f k a0 a1) (carrefourref01_Times.f (k + 1) a0 a1) := by
  intro a0 a1 k
  obtain ⟨ih0, ih1⟩ := carrefourref01_Times.mono_l k
  unfold carrefourref01_Times.f
  repeat' with_reducible first | exact ih0 _ _ _ _ | exact ih1 _ _ _ _ _ _ _ | exact carrefourref01_Parts.mono _ _ | exact carrefourref01_Plus.mono _ _ _ | exact LeO.refl _ | exact LeO.none _ | refine LeO.ite ?_ ?_ | refine LeO.bind ?_ (fun _ => ?_)
/-! ### carrefourref01_Order: function 21 -/
mutual
def carrefourref01_Order.l0 : Nat → List Int → List Int → Int → Option (Int)
  | 0, _, _, _ => none
  | k + 1, x0, x1, x6 => if x6 ≥ 0 then (if x6 < (x0.length : Int) then (if 0 ≤ x6 then (carrefourref01_Order.j1 k x0 x1 x6 (rd x0 x6) 0) else (none)) else (carrefourref01_Order.j1 k x0 x1 x6 0 0)) else (some 0)
def carrefourref01_Order.j1 : Nat → List Int → List Int → Int → Int → Int → Option (Int)
  | 0, _, _, _, _, _ => none
  | k + 1, x0, x1, x6, x7, x8 => if x6 < (x1.length : Int) then (if 0 ≤ x6 then (carrefourref01_Order.j2 k x0 x1 x6 x7 (rd x1 x6)) else (none)) else (carrefourref01_Order.j2 k x0 x1 x6 x7 x8)
def carrefourref01_Order.j2 : Nat → List Int → List Int → Int → Int → Int → Option (Int)
  | 0, _, _, _, _, _ => none
  | k + 1, x0, x1, x6, x7, x8 => if x7 < x8 then (some (-1)) else (if x7 > x8 then (some 1) else (carrefourref01_Order.l0 k x0 x1 (wrap64 (x6 - 1))))
end
def carrefourref01_Order.f (k : Nat) (l0 : List Int) (l1 : List Int) : Option (Int) := carrefourref01_Order.l0 k l0 l1 (wrap64 ((mx (l0.length : Int) (l1.length : Int)) - 1))
theorem carrefourref01_Order.mono_l : ∀ k, (∀ y0 y1 y2, LeO (carrefourref01_Order.l0 k y0 y1 y2) (carrefourref01_Order.l0 (k + 1) y0 y1 y2)) ∧ (∀ y0 y1 y2 y3 y4, LeO (carrefourref01_Order.j1 k y0 y1 y2 y3 y4) (carrefourref01_Order.j1 (k + 1) y0 y1 y2 y3 y4)) ∧ (∀ y0 y1 y2 y3 y4, LeO (carrefourref01_Order.j2 k y0 y1 y2 y3 y4) (carrefourref01_Order.j2 (k + 1) y0 y1 y2 y3 y4))
  | 0 => ⟨fun _ _ _ r h => by simp [carrefourref01_Order.l0] at h, fun _ _ _ _ _ r h => by simp [carrefourref01_Order.j1] at h, fun _ _ _ _ _ r h => by simp [carrefourref01_Order.j2] at h⟩
  | k + 1 => by
    obtain ⟨ih0, ih1, ih2⟩ := carrefourref01_Order.mono_l k
    refine ⟨?_, ?_, ?_⟩
    · intro y0 y1 y2
      unfold carrefourref01_Order.l0
      repeat' with_reducible first | exact ih0 _ _ _ | exact ih1 _ _ _ _ _ | exact ih2 _ _ _ _ _ | exact LeO.refl _ | exact LeO.none _ | refine LeO.ite ?_ ?_ | refine LeO.bind ?_ (fun _ => ?_)
    · intro y0 y1 y2 y3 y4
      unfold carrefourref01_Order.j1
      repeat' with_reducible first | exact ih0 _ _ _ | exact ih1 _ _ _ _ _ | exact ih2 _ _ _ _ _ | exact LeO.refl _ | exact LeO.none _ | refine LeO.ite ?_ ?_ | refine LeO.bind ?_ (fun _ => ?_)
    · intro y0 y1 y2 y3 y4
      unfold carrefourref01_Order.j2
      repeat' with_reducible first | exact ih0 _ _ _ | exact ih1 _ _ _ _ _ | exact ih2 _ _ _ _ _ | exact LeO.refl _ | exact LeO.none _ | refine LeO.ite ?_ ?_ | refine LeO.bind ?_ (fun _ => ?_)
theorem carrefourref01_Order.mono : ∀ a0 a1 k, LeO (carrefourref01_Order.f k a0 a1) (carrefourref01_Order.f (k + 1) a0 a1) := by
  intro a0 a1 k
  obtain ⟨ih0, ih1, ih2⟩ := carrefourref01_Order.mono_l k
  unfold carrefourref01_Order.f
  repeat' with_reducible first | exact ih0 _ _ _ | exact ih1 _ _ _ _ _ | exact ih2 _ _ _ _ _ | exact LeO.refl _ | exact LeO.none _ | refine LeO.ite ?_ ?_ | refine LeO.bind ?_ (fun _ => ?_)
/-! ### carrefourref01_Minus: function 18 -/
def carrefourref01_Minus.l0 : Nat → List Int → List Int → List Int → Int → Int → Option (List Int)
  | 0, _, _, _, _, _ => none
  | k + 1, x0, x1, x5, x6, x7 => if x7 < (x0.length : Int) then (if x7 < (x1.length : Int) then (if 0 ≤ x7 then (if (rd x0 x7) ≥ (IntKind.u64.wrap (x6 + (rd x1 x7))) then (if x5.length < 17592186044416 then (carrefourref01_Minus.l0 k x0 x1 (x5 ++ [IntKind.u64.wrap ((rd x0 x7) - (IntKind.u64.wrap (x6 + (rd x1 x7))))]) 0 (wrap64 (x7 + 1))) else (none)) else (if x5.length < 17592186044416 then (carrefourref01_Minus.l0 k x0 x1 (x5 ++ [IntKind.u64.wrap ((IntKind.u64.wrap ((rd x0 x7) + 65536)) - (IntKind.u64.wrap (x6 + (rd x1 x7))))]) 1 (wrap64 (x7 + 1))) else (none))) else (none)) else (if 0 ≤ x7 then (if (rd x0 x7) ≥ x6 then (if x5.length < 17592186044416 then (carrefourref01_Minus.l0 k x0 x1 (x5 ++ [IntKind.u64.wrap ((rd x0 x7) - x6)]) 0 (wrap64 (x7 + 1))) else (none)) else (if x5.length < 17592186044416 then (carrefourref01_Minus.l0 k x0 x1 (x5 ++ [IntKind.u64.wrap ((IntKind.u64.wrap ((rd x0 x7) + 65536)) - x6)]) 1 (wrap64 (x7 + 1))) else (none))) else (none))) else (some x5)
def carrefourref01_Minus.f (k : Nat) (l0 : List Int) (l1 : List Int) : Option (List Int) := carrefourref01_Minus.l0 k l0 l1 ([] : List Int) 0 0
theorem carrefourref01_Minus.mono_l : ∀ k, (∀ y0 y1 y2 y3 y4, LeO (carrefourref01_Minus.l0 k y0 y1 y2 y3 y4) (carrefourref01_Minus.l0 (k + 1) y0 y1 y2 y3 y4))
  | 0 => fun _ _ _ _ _ r h => by simp [carrefourref01_Minus.l0] at h
  | k + 1 => by
    have ih0 := carrefourref01_Minus.mono_l k
    · intro y0 y1 y2 y3 y4
      unfold carrefourref01_Minus.l0
      repeat' with_reducible first | exact ih0 _ _ _ _ _ | exact LeO.refl _ | exact LeO.none _ | refine LeO.ite ?_ ?_ | refine LeO.bind ?_ (fun _ => ?_)
theorem carrefourref01_Minus.mono : ∀ a0 a1 k, LeO (carrefourref01_Minus.f k a0 a1) (carrefourref01_Minus.f (k + 1) a0 a1) := by
  intro a0 a1 k
  have ih0 := carrefourref01_Minus.mono_l k
  unfold carrefourref01_Minus.f
  repeat' with_reducible first | exact ih0 _ _ _ _ _ | exact LeO.refl _ | exact LeO.none _ | refine LeO.ite ?_ ?_ | refine LeO.bind ?_ (fun _ => ?_)
/-! ### carrefourref01_nothing: function 62 -/
def carrefourref01_nothing.f (k : Nat) (l0 : List Int) (l1 : List Int) : Option (List Int) := (carrefourref01_Order.f k l0 l1).bind fun t222 => (if t222 > 0 then (some ([] : List Int)) else (some l0))
theorem carrefourref01_nothing.mono : ∀ a0 a1 k, LeO (carrefourref01_nothing.f k a0 a1) (carrefourref01_nothing.f (k + 1) a0 a1) := by
  intro a0 a1 k
  unfold carrefourref01_nothing.f
  repeat' with_reducible first | exact carrefourref01_Order.mono _ _ _ | exact LeO.refl _ | exact LeO.none _ | refine LeO.ite ?_ ?_ | refine LeO.bind ?_ (fun _ => ?_)
/-! ### carrefourref01_Quotient: function 44 -/
def carrefourref01_Quotient.l0 : Nat → List Int → Int → Int → Int → Option (Int × Bool)
  | 0, _, _, _, _ => none
  | k + 1, x0, x1, x6, x7 => if x7 ≥ 0 then (if 0 ≤ x7 then ((carrefourref01_Times.f k (IntKind.u64.wrap (x6 + (shl .u64 1 x7))) x1).bind fun t223 => ((carrefourref01_Order.f k t223 x0).bind fun t226 => (if t226 ≤ 0 then (carrefourref01_Quotient.l0 k x0 x1 (IntKind.u64.wrap (x6 + (shl .u64 1 x7))) (wrap64 (x7 - 1))) else (carrefourref01_Quotient.l0 k x0 x1 x6 (wrap64 (x7 - 1)))))) else (none)) else ((carrefourref01_Times.f k x6 x1).bind fun t227 => ((carrefourref01_nothing.f k t227 x0).bind fun t230 => ((carrefourref01_Minus.f k x0 t230).bind fun t233 => ((carrefourref01_Parts.f k x1).bind fun t236 => ((carrefourref01_Order.f k t233 t236).bind fun t239 => (some (x6, decide (t239 < 0))))))))
def carrefourref01_Quotient.f (k : Nat) (l0 : List Int) (a1 : Int) : Option (Int × Bool) := carrefourref01_Quotient.l0 k l0 a1 0 63
theorem carrefourref01_Quotient.mono_l : ∀ k, (∀ y0 y1 y2 y3, LeO (carrefourref01_Quotient.l0 k y0 y1 y2 y3) (carrefourref01_Quotient.l0 (k + 1) y0 y1 y2 y3))
  | 0 => fun _ _ _ _ r h => by simp [carrefourref01_Quotient.l0] at h
  | k + 1 => by
    have ih0 := carrefourref01_Quotient.mono_l k
    · intro y0 y1 y2 y3
      unfold carrefourref01_Quotient.l0
      repeat' with_reducible first | exact ih0 _ _ _ _ | exact carrefourref01_Minus.mono _ _ _ | exact carrefourref01_Order.mono _ _ _ | exact carrefourref01_Parts.mono _ _ | exact carrefourref01_Times.mono _ _ _ | exact carrefourref01_nothing.mono _ _ _ | exact LeO.refl _ | exact LeO.none _ | refine LeO.ite ?_ ?_ | refine LeO.bind ?_ (fun _ => ?_)
theorem carrefourref01_Quotient.mono : ∀ a0 a1 k, LeO (carrefourref01_Quotient.f k a0 a1) (carrefourref01_Quotient.f (k + 1) a0 a1) := by
  intro a0 a1 k
  have ih0 := carrefourref01_Quotient.mono_l k
  unfold carrefourref01_Quotient.f
  repeat' with_reducible first | exact ih0 _ _ _ _ | exact carrefourref01_Minus.mono _ _ _ | exact carrefourref01_Order.mono _ _ _ | exact carrefourref01_Parts.mono _ _ | exact carrefourref01_Times.mono _ _ _ | exact carrefourref01_nothing.mono _ _ _ | exact LeO.refl _ | exact LeO.none _ | refine LeO.ite ?_ ?_ | refine LeO.bind ?_ (fun _ => ?_)
/-! ### carrefourref01_Signed: function 45 -/
def carrefourref01_Signed.j0 : Nat → Int → Bool → Bool → Option (Int × Int)
  | 0, _, _, _ => none
  | k + 1, x0, x1, x10 => if x10 = true then (some ((-9223372036854775808), 0)) else (if x0 > 9223372036854775807 then (some (0, 2)) else (if x1 = true then (some (wrap64 (-(wrap64 (x0))), 0)) else (some (wrap64 (x0), 0))))
def carrefourref01_Signed.f (k : Nat) (a0 : Int) (a1 : Bool) : Option (Int × Int) := if a0 = 9223372036854775808 then (carrefourref01_Signed.j0 k a0 a1 a1) else (carrefourref01_Signed.j0 k a0 a1 false)
theorem carrefourref01_Signed.mono_l : ∀ k, (∀ y0 y1 y2, LeO (carrefourref01_Signed.j0 k y0 y1 y2) (carrefourref01_Signed.j0 (k + 1) y0 y1 y2))
  | 0 => fun _ _ _ r h => by simp [carrefourref01_Signed.j0] at h
  | k + 1 => by
    have ih0 := carrefourref01_Signed.mono_l k
    · intro y0 y1 y2
      unfold carrefourref01_Signed.j0
      repeat' with_reducible first | exact ih0 _ _ _ | exact LeO.refl _ | exact LeO.none _ | refine LeO.ite ?_ ?_ | refine LeO.bind ?_ (fun _ => ?_)
theorem carrefourref01_Signed.mono : ∀ a0 a1 k, LeO (carrefourref01_Signed.f k a0 a1) (carrefourref01_Signed.f (k + 1) a0 a1) := by
  intro a0 a1 k
  have ih0 := carrefourref01_Signed.mono_l k
  unfold carrefourref01_Signed.f
  repeat' with_reducible first | exact ih0 _ _ _ | exact LeO.refl _ | exact LeO.none _ | refine LeO.ite ?_ ?_ | refine LeO.bind ?_ (fun _ => ?_)
/-! ### carrefourref01_Scale: function 17 -/
mutual
def carrefourref01_Scale.j0 : Nat → Int → List Int → Int → Bool → Bool → Option (Int × Int)
  | 0, _, _, _, _, _ => none
  | k + 1, x2, x8, x9, x10, x11 => if x10 = true then (if x11 = true then ((carrefourref01_Times.f k x9 (IntKind.u64.wrap (x2))).bind fun t247 => ((carrefourref01_Order.f k t247 x8).bind fun t250 => (carrefourref01_Scale.j1 k x9 x11 (t250 != 0)))) else (carrefourref01_Scale.j1 k x9 x11 false)) else (some (0, 2))
def carrefourref01_Scale.j1 : Nat → Int → Bool → Bool → Option (Int × Int)
  | 0, _, _, _ => none
  | k + 1, x9, x11, x50 => if x50 = true then (if x9 = 18446744073709551615 then (some (0, 2)) else ((carrefourref01_Signed.f k (IntKind.u64.wrap (x9 + 1)) x11).bind fun bt251 => (some (bt251.1, bt251.2)))) else ((carrefourref01_Signed.f k x9 x11).bind fun bt253 => (some (bt253.1, bt253.2)))
end
def carrefourref01_Scale.f (k : Nat) (a0 : Int) (a1 : Int) (a2 : Int) : Option (Int × Int) := if a2 < 1 then (some (0, 1)) else ((carrefourref01_Size.f a0).bind fun t240 => ((carrefourref01_Size.f a1).bind fun t241 => ((carrefourref01_Times.f k t240 t241).bind fun t242 => ((carrefourref01_Quotient.f k t242 (IntKind.u64.wrap (a2))).bind fun bt245 => (if ((decide (a0 < 0)) != (decide (a1 < 0))) = true then (if a0 = 0 then (carrefourref01_Scale.j0 k a2 t242 bt245.1 bt245.2 false) else (carrefourref01_Scale.j0 k a2 t242 bt245.1 bt245.2 (a1 != 0))) else (carrefourref01_Scale.j0 k a2 t242 bt245.1 bt245.2 false))))))
theorem carrefourref01_Scale.mono_l : ∀ k, (∀ y0 y1 y2 y3 y4, LeO (carrefourref01_Scale.j0 k y0 y1 y2 y3 y4) (carrefourref01_Scale.j0 (k + 1) y0 y1 y2 y3 y4)) ∧ (∀ y0 y1 y2, LeO (carrefourref01_Scale.j1 k y0 y1 y2) (carrefourref01_Scale.j1 (k + 1) y0 y1 y2))
  | 0 => ⟨fun _ _ _ _ _ r h => by simp [carrefourref01_Scale.j0] at h, fun _ _ _ r h => by simp [carrefourref01_Scale.j1] at h⟩
  | k + 1 => by
    obtain ⟨ih0, ih1⟩ := carrefourref01_Scale.mono_l k
    refine ⟨?_, ?_⟩
    · intro y0 y1 y2 y3 y4
      unfold carrefourref01_Scale.j0
      repeat' with_reducible first | exact ih0 _ _ _ _ _ | exact ih1 _ _ _ | exact carrefourref01_Order.mono _ _ _ | exact carrefourref01_Quotient.mono _ _ _ | exact carrefourref01_Signed.mono _ _ _ | exact carrefourref01_Times.mono _ _ _ | exact LeO.refl _ | exact LeO.none _ | refine LeO.ite ?_ ?_ | refine LeO.bind ?_ (fun _ => ?_)
    · intro y0 y1 y2
      unfold carrefourref01_Scale.j1
      repeat' with_reducible first | exact ih0 _ _ _ _ _ | exact ih1 _ _ _ | exact carrefourref01_Order.mono _ _ _ | exact carrefourref01_Quotient.mono _ _ _ | exact carrefourref01_Signed.mono _ _ _ | exact carrefourref01_Times.mono _ _ _ | exact LeO.refl _ | exact LeO.none _ | refine LeO.ite ?_ ?_ | refine LeO.bind ?_ (fun _ => ?_)
theorem carrefourref01_Scale.mono : ∀ a0 a1 a2 k, LeO (carrefourref01_Scale.f k a0 a1 a2) (carrefourref01_Scale.f (k + 1) a0 a1 a2) := by
  intro a0 a1 a2 k
  obtain ⟨ih0, ih1⟩ := carrefourref01_Scale.mono_l k
  unfold carrefourref01_Scale.f
  repeat' with_reducible first | exact ih0 _ _ _ _ _ | exact ih1 _ _ _ | exact carrefourref01_Order.mono _ _ _ | exact carrefourref01_Quotient.mono _ _ _ | exact carrefourref01_Signed.mono _ _ _ | exact carrefourref01_Times.mono _ _ _ | exact LeO.refl _ | exact LeO.none _ | refine LeO.ite ?_ ?_ | refine LeO.bind ?_ (fun _ => ?_)
/-! ### carrefourref09_trim: function 20 -/
def carrefourref09_trim.l0 : Nat → List Int → Int → Option (List Int)
  | 0, _, _ => none
  | k + 1, x0, x3 => if x3 > 0 then (if 0 ≤ (wrap64 (x3 - 1)) then (if (wrap64 (x3 - 1)) < (x0.length : Int) then (if (rd x0 (wrap64 (x3 - 1))) = 0 then (carrefourref09_trim.l0 k x0 (wrap64 (x3 - 1))) else (if 0 ≤ x3 then (if x3 ≤ (x0.length : Int) then (some (x0.take (x3 : Int).toNat)) else (none)) else (none))) else (none)) else (none)) else (if 0 ≤ x3 then (if x3 ≤ (x0.length : Int) then (some (x0.take (x3 : Int).toNat)) else (none)) else (none))
def carrefourref09_trim.f (k : Nat) (l0 : List Int) : Option (List Int) := carrefourref09_trim.l0 k l0 (l0.length : Int)
theorem carrefourref09_trim.mono_l : ∀ k, (∀ y0 y1, LeO (carrefourref09_trim.l0 k y0 y1) (carrefourref09_trim.l0 (k + 1) y0 y1))
  | 0 => fun _ _ r h => by simp [carrefourref09_trim.l0] at h
  | k + 1 => by
    have ih0 := carrefourref09_trim.mono_l k
    · intro y0 y1
      unfold carrefourref09_trim.l0
      repeat' with_reducible first | exact ih0 _ _ | exact LeO.refl _ | exact LeO.none _ | refine LeO.ite ?_ ?_ | refine LeO.bind ?_ (fun _ => ?_)
theorem carrefourref09_trim.mono : ∀ a0 k, LeO (carrefourref09_trim.f k a0) (carrefourref09_trim.f (k + 1) a0) := by
  intro a0 k
  have ih0 := carrefourref09_trim.mono_l k
  unfold carrefourref09_trim.f
  repeat' with_reducible first | exact ih0 _ _ | exact LeO.refl _ | exact LeO.none _ | refine LeO.ite ?_ ?_ | refine LeO.bind ?_ (fun _ => ?_)
/-! ### carrefourref02_Digits: function 24 -/
def carrefourref02_Digits.l0 : Nat → Int → Int → ByteArray → Option (ByteArray)
  | 0, _, _, _ => none
  | k + 1, x0, x3, x4 => if x4.toList = ([] : List UInt8) then ((some (([(IntKind.u64.wrap (48 + (Int.tmod x3 10))) % 256] : List Int) : List Int)).bind fun y263 => (if (strOfNums y263).size + x4.size ≤ 9223372036854775807 then (carrefourref02_Digits.l0 k x0 (IntKind.u64.wrap (Int.tdiv x3 10)) ((strOfNums y263) ++ x4)) else (none))) else (if x3 > 0 then ((some (([(IntKind.u64.wrap (48 + (Int.tmod x3 10))) % 256] : List Int) : List Int)).bind fun y266 => (if (strOfNums y266).size + x4.size ≤ 9223372036854775807 then (carrefourref02_Digits.l0 k x0 (IntKind.u64.wrap (Int.tdiv x3 10)) ((strOfNums y266) ++ x4)) else (none))) else (if x0 < 0 then (if 1 + x4.size ≤ 9223372036854775807 then (some ((⟨#[45]⟩ : ByteArray) ++ x4)) else (none)) else (some x4)))
def carrefourref02_Digits.f (k : Nat) (a0 : Int) : Option (ByteArray) := (carrefourref01_Size.f a0).bind fun t262 => (carrefourref02_Digits.l0 k a0 t262 (⟨#[]⟩ : ByteArray))
theorem carrefourref02_Digits.mono_l : ∀ k, (∀ y0 y1 y2, LeO (carrefourref02_Digits.l0 k y0 y1 y2) (carrefourref02_Digits.l0 (k + 1) y0 y1 y2))
  | 0 => fun _ _ _ r h => by simp [carrefourref02_Digits.l0] at h
  | k + 1 => by
    have ih0 := carrefourref02_Digits.mono_l k
    · intro y0 y1 y2
      unfold carrefourref02_Digits.l0
      repeat' with_reducible first | exact ih0 _ _ _ | exact LeO.refl _ | exact LeO.none _ | refine LeO.ite ?_ ?_ | refine LeO.bind ?_ (fun _ => ?_)
theorem carrefourref02_Digits.mono : ∀ a0 k, LeO (carrefourref02_Digits.f k a0) (carrefourref02_Digits.f (k + 1) a0) := by
  intro a0 k
  have ih0 := carrefourref02_Digits.mono_l k
  unfold carrefourref02_Digits.f
  repeat' with_reducible first | exact ih0 _ _ _ | exact LeO.refl _ | exact LeO.none _ | refine LeO.ite ?_ ?_ | refine LeO.bind ?_ (fun _ => ?_)
/-! ### carrefourref09_Rate: function 5 -/
mutual
def carrefourref09_Rate.j0 : Nat → Int → Bool → Int → Int → Option (ByteArray × Int)
  | 0, _, _, _, _ => none
  | k + 1, x1, x27, x270000, x270001 => if x27 = true then (some ((⟨#[]⟩ : ByteArray), 1)) else (carrefourref09_Rate.l0 k x1 1 0 x270000 x270001)
def carrefourref09_Rate.l0 : Nat → Int → Int → Int → Int → Int → Option (ByteArray × Int)
  | 0, _, _, _, _, _ => none
  | k + 1, x1, x6, x7, x270000, x270001 => if x7 < x1 then (carrefourref09_Rate.l0 k x1 (wrap64 (x6 * 10)) (wrap64 (x7 + 1)) x270000 x270001) else ((carrefourref01_Scale.f k x270000 x6 x270001).bind fun bt271 => (if bt271.2 = 0 then ((carrefourref01_Times.f k (IntKind.u64.wrap (x270000)) (IntKind.u64.wrap (x6))).bind fun t273 => ((carrefourref01_Times.f k (IntKind.u64.wrap (bt271.1)) (IntKind.u64.wrap (x270001))).bind fun t276 => ((carrefourref09_trim.f k t276).bind fun t279 => ((carrefourref01_Minus.f k t273 t279).bind fun t282 => ((carrefourref01_Plus.f k t282 t282).bind fun t285 => ((carrefourref01_Parts.f k (IntKind.u64.wrap (x270001))).bind fun t288 => ((carrefourref01_Order.f k t285 t288).bind fun t291 => (if t291 ≥ 0 then (if bt271.1 = 9223372036854775807 then (some ((⟨#[]⟩ : ByteArray), 2)) else (carrefourref09_Rate.j2 k x1 (wrap64 (bt271.1 + 1)))) else (carrefourref09_Rate.j2 k x1 bt271.1))))))))) else (some ((⟨#[]⟩ : ByteArray), bt271.2))))
def carrefourref09_Rate.j2 : Nat → Int → Int → Option (ByteArray × Int)
  | 0, _, _ => none
  | k + 1, x1, x8 => (carrefourref02_Digits.f k x8).bind fun t292 => (carrefourref09_Rate.l1 k x1 t292)
def carrefourref09_Rate.l1 : Nat → Int → ByteArray → Option (ByteArray × Int)
  | 0, _, _ => none
  | k + 1, x1, x11 => if (x11.size : Int) ≤ x1 then (if 1 + x11.size ≤ 9223372036854775807 then (carrefourref09_Rate.l1 k x1 ((⟨#[48]⟩ : ByteArray) ++ x11)) else (none)) else (if x1 = 0 then (some (x11, 0)) else (if 0 ≤ (wrap64 ((x11.size : Int) - x1)) then (if (wrap64 ((x11.size : Int) - x1)) ≤ (x11.size : Int) then (if (x11.extract 0 ((wrap64 ((x11.size : Int) - x1)) : Int).toNat).size + 1 ≤ 9223372036854775807 then (if ((x11.extract 0 ((wrap64 ((x11.size : Int) - x1)) : Int).toNat) ++ (⟨#[46]⟩ : ByteArray)).size + (x11.extract ((wrap64 ((x11.size : Int) - x1)) : Int).toNat x11.size).size ≤ 9223372036854775807 then (some (((x11.extract 0 ((wrap64 ((x11.size : Int) - x1)) : Int).toNat) ++ (⟨#[46]⟩ : ByteArray)) ++ (x11.extract ((wrap64 ((x11.size : Int) - x1)) : Int).toNat x11.size), 0)) else (none)) else (none)) else (none)) else (none)))
end
def carrefourref09_Rate.f (k : Nat) (a0_0 : Int) (a0_1 : Int) (a1 : Int) : Option (ByteArray × Int) := if a1 < 0 then (carrefourref09_Rate.j0 k a1 true a0_0 a0_1) else (if a1 > 9 then (carrefourref09_Rate.j0 k a1 true a0_0 a0_1) else ((carrefourref02_Right.f k a0_0 a0_1).bind fun t270 => (if t270 = true then (carrefourref09_Rate.j0 k a1 (decide (a0_0 < 0)) a0_0 a0_1) else (carrefourref09_Rate.j0 k a1 true a0_0 a0_1))))
theorem carrefourref09_Rate.mono_l : ∀ k, (∀ y0 y1 y2 y3, LeO (carrefourref09_Rate.j0 k y0 y1 y2 y3) (carrefourref09_Rate.j0 (k + 1) y0 y1 y2 y3)) ∧ (∀ y0 y1 y2 y3 y4, LeO (carrefourref09_Rate.l0 k y0 y1 y2 y3 y4) (carrefourref09_Rate.l0 (k + 1) y0 y1 y2 y3 y4)) ∧ (∀ y0 y1, LeO (carrefourref09_Rate.j2 k y0 y1) (carrefourref09_Rate.j2 (k + 1) y0 y1)) ∧ (∀ y0 y1, LeO (carrefourref09_Rate.l1 k y0 y1) (carrefourref09_Rate.l1 (k + 1) y0 y1))
  | 0 => ⟨fun _ _ _ _ r h => by simp [carrefourref09_Rate.j0] at h, fun _ _ _ _ _ r h => by simp [carrefourref09_Rate.l0] at h, fun _ _ r h => by simp [carrefourref09_Rate.j2] at h, fun _ _ r h => by simp [carrefourref09_Rate.l1] at h⟩
  | k + 1 => by
    obtain ⟨ih0, ih1, ih2, ih3⟩ := carrefourref09_Rate.mono_l k
    refine ⟨?_, ?_, ?_, ?_⟩
    · intro y0 y1 y2 y3
      unfold carrefourref09_Rate.j0
      repeat' with_reducible first | exact ih0 _ _ _ _ | exact ih1 _ _ _ _ _ | exact ih2 _ _ | exact ih3 _ _ | exact carrefourref01_Minus.mono _ _ _ | exact carrefourref01_Order.mono _ _ _ | exact carrefourref01_Parts.mono _ _ | exact carrefourref01_Plus.mono _ _ _ | exact carrefourref01_Scale.mono _ _ _ _ | exact carrefourref01_Times.mono _ _ _ | exact carrefourref02_Digits.mono _ _ | exact carrefourref02_Right.mono _ _ _ | exact carrefourref09_trim.mono _ _ | exact LeO.refl _ | exact LeO.none _ | refine LeO.ite ?_ ?_ | refine LeO.bind ?_ (fun _ => ?_)
    · intro y0 y1 y2 y3 y4
      unfold carrefourref09_Rate.l0
      repeat' with_reducible first | exact ih0 _ _ _ _ | exact ih1 _ _ _ _ _ | exact ih2 _ _ | exact ih3 _ _ | exact carrefourref01_Minus.mono _ _ _ | exact carrefourref01_Order.mono _ _ _ | exact carrefourref01_Parts.mono _ _ | exact carrefourref01_Plus.mono _ _ _ | exact carrefourref01_Scale.mono _ _ _ _ | exact carrefourref01_Times.mono _ _ _ | exact carrefourref02_Digits.mono _ _ | exact carrefourref02_Right.mono _ _ _ | exact carrefourref09_trim.mono _ _ | exact LeO.refl _ | exact LeO.none _ | refine LeO.ite ?_ ?_ | refine LeO.bind ?_ (fun _ => ?_)
    · intro y0 y1
      unfold carrefourref09_Rate.j2
      repeat' with_reducible first | exact ih0 _ _ _ _ | exact ih1 _ _ _ _ _ | exact ih2 _ _ | exact ih3 _ _ | exact carrefourref01_Minus.mono _ _ _ | exact carrefourref01_Order.mono _ _ _ | exact carrefourref01_Parts.mono _ _ | exact carrefourref01_Plus.mono _ _ _ | exact carrefourref01_Scale.mono _ _ _ _ | exact carrefourref01_Times.mono _ _ _ | exact carrefourref02_Digits.mono _ _ | exact carrefourref02_Right.mono _ _ _ | exact carrefourref09_trim.mono _ _ | exact LeO.refl _ | exact LeO.none _ | refine LeO.ite ?_ ?_ | refine LeO.bind ?_ (fun _ => ?_)
    · intro y0 y1
      unfold carrefourref09_Rate.l1
      repeat' with_reducible first | exact ih0 _ _ _ _ | exact ih1 _ _ _ _ _ | exact ih2 _ _ | exact ih3 _ _ | exact carrefourref01_Minus.mono _ _ _ | exact carrefourref01_Order.mono _ _ _ | exact carrefourref01_Parts.mono _ _ | exact carrefourref01_Plus.mono _ _ _ | exact carrefourref01_Scale.mono _ _ _ _ | exact carrefourref01_Times.mono _ _ _ | exact carrefourref02_Digits.mono _ _ | exact carrefourref02_Right.mono _ _ _ | exact carrefourref09_trim.mono _ _ | exact LeO.refl _ | exact LeO.none _ | refine LeO.ite ?_ ?_ | refine LeO.bind ?_ (fun _ => ?_)
theorem carrefourref09_Rate.mono : ∀ a0 a1 a2 k, LeO (carrefourref09_Rate.f k a0 a1 a2) (carrefourref09_Rate.f (k + 1) a0 a1 a2) := by
  intro a0 a1 a2 k
  obtain ⟨ih0, ih1, ih2, ih3⟩ := carrefourref09_Rate.mono_l k
  unfold carrefourref09_Rate.f
  repeat' with_reducible first | exact ih0 _ _ _ _ | exact ih1 _ _ _ _ _ | exact ih2 _ _ | exact ih3 _ _ | exact carrefourref01_Minus.mono _ _ _ | exact carrefourref01_Order.mono _ _ _ | exact carrefourref01_Parts.mono _ _ | exact carrefourref01_Plus.mono _ _ _ | exact carrefourref01_Scale.mono _ _ _ _ | exact carrefourref01_Times.mono _ _ _ | exact carrefourref02_Digits.mono _ _ | exact carrefourref02_Right.mono _ _ _ | exact carrefourref09_trim.mono _ _ | exact LeO.refl _ | exact LeO.none _ | refine LeO.ite ?_ ?_ | refine LeO.bind ?_ (fun _ => ?_)
/-! ### demand_chain_then: function 47 -/
-- demand's chain.then: told by hand (it calls what it is handed): where something was refused already, and where not.
/-! ### frac_wide_zero: function 86 -/
def frac_wide_zero.f (a0_0 : Int) (a0_1 : Int) : Option (Bool) := some ((Go.bits .or .u64 a0_0 a0_1) == 0)
/-! ### frac_wide_twos: function 87 -/
def frac_wide_twos.f (a0_0 : Int) (a0_1 : Int) : Option (Int) := if a0_1 = 0 then ((bits_TrailingZeros64.f a0_0).bind fun t295 => (some (wrap64 (64 + t295)))) else ((bits_TrailingZeros64.f a0_1).bind fun t296 => (some t296))
/-! ### frac_wide_down: function 88 -/
def frac_wide_down.f (a0_0 : Int) (a0_1 : Int) (a1 : Int) : Option (Int × Int) := if a1 ≥ 64 then (if 0 ≤ (wrap64 (a1 - 64)) then (some (0, shr .u64 a0_0 (wrap64 (a1 - 64)))) else (none)) else (if 0 ≤ a1 then (if 0 ≤ (wrap64 (64 - a1)) then (some (shr .u64 a0_0 a1, Go.bits .or .u64 (shr .u64 a0_1 a1) (shl .u64 a0_0 (wrap64 (64 - a1))))) else (none)) else (none))
/-! ### frac_wide_cmp: function 89 -/
def frac_wide_cmp.f (a0_0 : Int) (a0_1 : Int) (a1_0 : Int) (a1_1 : Int) : Option (Int) := if (a0_0 == a1_0 && (a0_1 == a1_1)) = true then (some 0) else (if a0_0 < a1_0 then (some (-1)) else (if a0_0 = a1_0 then (if a0_1 < a1_1 then (some (-1)) else (some 1)) else (some 1)))
/-! ### frac_wide_minus: function 90 -/
def frac_wide_minus.f (a0_0 : Int) (a0_1 : Int) (a1_0 : Int) (a1_1 : Int) : Option (Int × Int) := (bits_Sub64.f a0_1 a1_1 0).bind fun bt304 => ((bits_Sub64.f a0_0 a1_0 bt304.2).bind fun bt306 => (some (bt306.1, bt304.1)))
/-! ### frac_wide_up: function 91 -/
def frac_wide_up.f (a0_0 : Int) (a0_1 : Int) (a1 : Int) : Option (Int × Int) := if a1 ≥ 64 then (if 0 ≤ (wrap64 (a1 - 64)) then (some (shl .u64 a0_1 (wrap64 (a1 - 64)), 0)) else (none)) else (if 0 ≤ a1 then (if 0 ≤ (wrap64 (64 - a1)) then (some (Go.bits .or .u64 (shl .u64 a0_0 a1) (shr .u64 a0_1 (wrap64 (64 - a1))), shl .u64 a0_1 a1)) else (none)) else (none))
/-! ### frac_gcd: function 81 -/
def frac_gcd.l0 : Nat → Int → Int → Int → Int → Int → Option (Int × Int)
  | 0, _, _, _, _, _ => none
  | k + 1, x5, x311000, x311001, x312000, x312001 => (frac_wide_zero.f x312000 x312001).bind fun t320 => (if t320 = true then ((frac_wide_up.f x311000 x311001 x5).bind fun bt321 => (some (bt321.1, bt321.2))) else ((frac_wide_twos.f x312000 x312001).bind fun t323 => ((frac_wide_down.f x312000 x312001 t323).bind fun bt324 => ((frac_wide_cmp.f x311000 x311001 bt324.1 bt324.2).bind fun t326 => (if t326 > 0 then ((frac_wide_minus.f x311000 x311001 bt324.1 bt324.2).bind fun bt327 => (frac_gcd.l0 k x5 bt324.1 bt324.2 bt327.1 bt327.2)) else ((frac_wide_minus.f bt324.1 bt324.2 x311000 x311001).bind fun bt329 => (frac_gcd.l0 k x5 x311000 x311001 bt329.1 bt329.2)))))))
def frac_gcd.f (k : Nat) (a0_0 : Int) (a0_1 : Int) (a1_0 : Int) (a1_1 : Int) : Option (Int × Int) := (frac_wide_zero.f a0_0 a0_1).bind fun t313 => (if t313 = true then (some (a1_0, a1_1)) else ((frac_wide_zero.f a1_0 a1_1).bind fun t314 => (if t314 = true then (some (a0_0, a0_1)) else ((frac_wide_twos.f a0_0 a0_1).bind fun t315 => ((frac_wide_twos.f a1_0 a1_1).bind fun t316 => ((frac_wide_twos.f a0_0 a0_1).bind fun t317 => ((frac_wide_down.f a0_0 a0_1 t317).bind fun bt318 => (frac_gcd.l0 k (mn t315 t316) bt318.1 bt318.2 a1_0 a1_1))))))))
theorem frac_gcd.mono_l : ∀ k, (∀ y0 y1 y2 y3 y4, LeO (frac_gcd.l0 k y0 y1 y2 y3 y4) (frac_gcd.l0 (k + 1) y0 y1 y2 y3 y4))
  | 0 => fun _ _ _ _ _ r h => by simp [frac_gcd.l0] at h
  | k + 1 => by
    have ih0 := frac_gcd.mono_l k
    · intro y0 y1 y2 y3 y4
      unfold frac_gcd.l0
      repeat' with_reducible first | exact ih0 _ _ _ _ _ | exact LeO.refl _ | exact LeO.none _ | refine LeO.ite ?_ ?_ | refine LeO.bind ?_ (fun _ => ?_)
theorem frac_gcd.mono : ∀ a0 a1 a2 a3 k, LeO (frac_gcd.f k a0 a1 a2 a3) (frac_gcd.f (k + 1) a0 a1 a2 a3) := by
  intro a0 a1 a2 a3 k
  have ih0 := frac_gcd.mono_l k
  unfold frac_gcd.f
  repeat' with_reducible first | exact ih0 _ _ _ _ _ | exact LeO.refl _ | exact LeO.none _ | refine LeO.ite ?_ ?_ | refine LeO.bind ?_ (fun _ => ?_)
/-! ### frac_wide_long: function 92 -/
def frac_wide_long.f (a0_0 : Int) (a0_1 : Int) : Option (Int) := if a0_0 = 0 then ((bits_Len64.f a0_1).bind fun t332 => (some t332)) else ((bits_Len64.f a0_0).bind fun t333 => (some (wrap64 (64 + t333))))
/-! ### frac_wide_over: function 82 -/
def frac_wide_over.l0 : Nat → Int → Int → Int → Int → Int → Int → Int → Option (Int × Int)
  | 0, _, _, _, _, _, _, _ => none
  | k + 1, x6, x335000, x335001, x336000, x336001, x338000, x338001 => if x6 ≥ 0 then ((frac_wide_up.f x338000 x338001 1).bind fun bt340 => ((frac_wide_up.f x336000 x336001 x6).bind fun bt342 => ((frac_wide_cmp.f bt342.1 bt342.2 x335000 x335001).bind fun t345 => (if t345 ≤ 0 then ((frac_wide_minus.f x335000 x335001 bt342.1 bt342.2).bind fun bt346 => (frac_wide_over.l0 k (wrap64 (x6 - 1)) bt346.1 bt346.2 x336000 x336001 bt340.1 (Go.bits .or .u64 bt340.2 1))) else (frac_wide_over.l0 k (wrap64 (x6 - 1)) x335000 x335001 x336000 x336001 bt340.1 bt340.2))))) else (some (x338000, x338001))
def frac_wide_over.f (k : Nat) (a0_0 : Int) (a0_1 : Int) (a1_0 : Int) (a1_1 : Int) : Option (Int × Int) := (frac_wide_long.f a0_0 a0_1).bind fun t338 => ((frac_wide_long.f a1_0 a1_1).bind fun t339 => (frac_wide_over.l0 k (wrap64 (t338 - t339)) a0_0 a0_1 a1_0 a1_1 0 0))
theorem frac_wide_over.mono_l : ∀ k, (∀ y0 y1 y2 y3 y4 y5 y6, LeO (frac_wide_over.l0 k y0 y1 y2 y3 y4 y5 y6) (frac_wide_over.l0 (k + 1) y0 y1 y2 y3 y4 y5 y6))
  | 0 => fun _ _ _ _ _ _ _ r h => by simp [frac_wide_over.l0] at h
  | k + 1 => by
    have ih0 := frac_wide_over.mono_l k
    · intro y0 y1 y2 y3 y4 y5 y6
      unfold frac_wide_over.l0
      repeat' with_reducible first | exact ih0 _ _ _ _ _ _ _ | exact LeO.refl _ | exact LeO.none _ | refine LeO.ite ?_ ?_ | refine LeO.bind ?_ (fun _ => ?_)
theorem frac_wide_over.mono : ∀ a0 a1 a2 a3 k, LeO (frac_wide_over.f k a0 a1 a2 a3) (frac_wide_over.f (k + 1) a0 a1 a2 a3) := by
  intro a0 a1 a2 a3 k
  have ih0 := frac_wide_over.mono_l k
  unfold frac_wide_over.f
  repeat' with_reducible first | exact ih0 _ _ _ _ _ _ _ | exact LeO.refl _ | exact LeO.none _ | refine LeO.ite ?_ ?_ | refine LeO.bind ?_ (fun _ => ?_)
/-! ### frac_signed_whole: function 83 -/
def frac_signed_whole.f (a0_0 : Bool) (a0_1 : Int) (a0_2 : Int) : Option (Int × Bool) := if a0_1 = 0 then (if a0_0 = true then (some (wrap64 (IntKind.u64.wrap (-a0_2)), decide (a0_2 ≤ 9223372036854775808))) else (some (wrap64 (a0_2), decide (a0_2 < 9223372036854775808)))) else (some (0, false))
/-! ### frac_reduced: function 69 -/
def frac_reduced.f (k : Nat) (a0_0 : Bool) (a0_1 : Int) (a0_2 : Int) (a1_0 : Bool) (a1_1 : Int) (a1_2 : Int) : Option (Int × Int × Int) := (frac_gcd.f k a0_1 a0_2 a1_1 a1_2).bind fun bt352 => ((frac_wide_over.f k a0_1 a0_2 bt352.1 bt352.2).bind fun bt355 => ((frac_wide_over.f k a1_1 a1_2 bt352.1 bt352.2).bind fun bt357 => ((frac_signed_whole.f (a0_0 != a1_0) bt355.1 bt355.2).bind fun bt359 => ((frac_signed_whole.f false bt357.1 bt357.2).bind fun bt361 => (if bt359.2 = true then (if bt361.2 = true then (some (bt359.1, bt361.1, 0)) else (some (0, 0, 2))) else (some (0, 0, 2)))))))
theorem frac_reduced.mono : ∀ a0 a1 a2 a3 a4 a5 k, LeO (frac_reduced.f k a0 a1 a2 a3 a4 a5) (frac_reduced.f (k + 1) a0 a1 a2 a3 a4 a5) := by
  intro a0 a1 a2 a3 a4 a5 k
  unfold frac_reduced.f
  repeat' with_reducible first | exact frac_gcd.mono _ _ _ _ _ | exact frac_wide_over.mono _ _ _ _ _ | exact LeO.refl _ | exact LeO.none _ | refine LeO.ite ?_ ?_ | refine LeO.bind ?_ (fun _ => ?_)
/-! ### frac_sized: function 70 -/
def frac_sized.f (a0 : Int) : Option (Bool × Int × Int) := if a0 < 0 then (some (true, 0, IntKind.u64.wrap (-(IntKind.u64.wrap (a0))))) else (some (false, 0, IntKind.u64.wrap (a0)))
/-! ### frac_Of: function 64 -/
def frac_Of.f (k : Nat) (a0 : Int) (a1 : Int) : Option (Int × Int × Int) := if a1 = 0 then (some (0, 0, 3)) else ((frac_sized.f a0).bind fun bt365 => ((frac_sized.f a1).bind fun bt368 => ((frac_reduced.f k bt365.1 bt365.2.1 bt365.2.2 bt368.1 bt368.2.1 bt368.2.2).bind fun bt371 => (some (bt371.1, bt371.2.1, bt371.2.2)))))
theorem frac_Of.mono : ∀ a0 a1 k, LeO (frac_Of.f k a0 a1) (frac_Of.f (k + 1) a0 a1) := by
  intro a0 a1 k
  unfold frac_Of.f
  repeat' with_reducible first | exact frac_reduced.mono _ _ _ _ _ _ _ | exact LeO.refl _ | exact LeO.none _ | refine LeO.ite ?_ ?_ | refine LeO.bind ?_ (fun _ => ?_)
/-! ### demand_volume_1: function 63 -/
def demand_volume_1.f (k : Nat) (a0_0 : Int) (a0_1 : Int) : Option (Int × Int × Int) := (frac_Of.f k a0_0 a0_1).bind fun bt376 => (some (bt376.1, bt376.2.1, bt376.2.2))
theorem demand_volume_1.mono : ∀ a0 a1 k, LeO (demand_volume_1.f k a0 a1) (demand_volume_1.f (k + 1) a0 a1) := by
  intro a0 a1 k
  unfold demand_volume_1.f
  repeat' with_reducible first | exact frac_Of.mono _ _ _ | exact LeO.refl _ | exact LeO.none _ | refine LeO.ite ?_ ?_ | refine LeO.bind ?_ (fun _ => ?_)
/-! ### demand_number: function 50 -/
def demand_number.f (a0 : Int) : Option (Int × Int) := some (a0, 1)
/-! ### frac_nought: function 80 -/
def frac_nought.f  : Option (Int × Int) := some (0, 1)
/-! ### frac_norm: function 68 -/
def frac_norm.f (k : Nat) (a0_0 : Int) (a0_1 : Int) : Option (Int × Int) := (frac_Right.f k a0_0 a0_1).bind fun t383 => (if t383 = true then (some (a0_0, a0_1)) else ((frac_nought.f).bind fun bt384 => (some (bt384.1, bt384.2))))
theorem frac_norm.mono : ∀ a0 a1 k, LeO (frac_norm.f k a0 a1) (frac_norm.f (k + 1) a0 a1) := by
  intro a0 a1 k
  unfold frac_norm.f
  repeat' with_reducible first | exact frac_Right.mono _ _ _ | exact LeO.refl _ | exact LeO.none _ | refine LeO.ite ?_ ?_ | refine LeO.bind ?_ (fun _ => ?_)
/-! ### frac_multiply: function 84 -/
def frac_multiply.f (a0 : Int) (a1 : Int) : Option (Int × Int) := (bits_Mul64.f a0 a1).bind fun bt387 => (some (bt387.1, bt387.2))
/-! ### frac_signed_times: function 71 -/
def frac_signed_times.f (a0_0 : Bool) (a0_1 : Int) (a0_2 : Int) (a1_0 : Bool) (a1_1 : Int) (a1_2 : Int) : Option (Bool × Int × Int) := (frac_multiply.f a0_2 a1_2).bind fun bt392 => (some ((a0_0 != a1_0), bt392.1, bt392.2))
/-! ### frac_Mul: function 66 -/
def frac_Mul.f (k : Nat) (a0_0 : Int) (a0_1 : Int) (a1_0 : Int) (a1_1 : Int) : Option (Int × Int × Int) := (frac_norm.f k a0_0 a0_1).bind fun bt397 => ((frac_norm.f k a1_0 a1_1).bind fun bt399 => ((frac_sized.f bt397.1).bind fun bt401 => ((frac_sized.f bt399.1).bind fun bt404 => ((frac_signed_times.f bt401.1 bt401.2.1 bt401.2.2 bt404.1 bt404.2.1 bt404.2.2).bind fun bt407 => ((frac_sized.f bt397.2).bind fun bt410 => ((frac_sized.f bt399.2).bind fun bt413 => ((frac_signed_times.f bt410.1 bt410.2.1 bt410.2.2 bt413.1 bt413.2.1 bt413.2.2).bind fun bt416 => ((frac_reduced.f k bt407.1 bt407.2.1 bt407.2.2 bt416.1 bt416.2.1 bt416.2.2).bind fun bt419 => (some (bt419.1, bt419.2.1, bt419.2.2))))))))))
theorem frac_Mul.mono : ∀ a0 a1 a2 a3 k, LeO (frac_Mul.f k a0 a1 a2 a3) (frac_Mul.f (k + 1) a0 a1 a2 a3) := by
  intro a0 a1 a2 a3 k
  unfold frac_Mul.f
  repeat' with_reducible first | exact frac_norm.mono _ _ _ | exact frac_reduced.mono _ _ _ _ _ _ _ | exact LeO.refl _ | exact LeO.none _ | refine LeO.ite ?_ ?_ | refine LeO.bind ?_ (fun _ => ?_)
/-! ### demand_volume_2: function 65 -/
def demand_volume_2.f (k : Nat) (a0_0 : Int) (a0_1 : Int) (a1_0 : ByteArray) (a1_1 : Int) (a1_2 : Int) (a1_3 : Int) (a1_4 : Int) (a1_5 : Int) (a1_6 : Int) (a1_7 : Int) (a1_8 : Int) (a1_9 : Int) (a1_10 : Int) : Option (Int × Int × Int) := (demand_number.f a1_1).bind fun bt425 => ((frac_Mul.f k a0_0 a0_1 bt425.1 bt425.2).bind fun bt427 => (some (bt427.1, bt427.2.1, bt427.2.2)))
theorem demand_volume_2.mono : ∀ a0 a1 a2 a3 a4 a5 a6 a7 a8 a9 a10 a11 a12 k, LeO (demand_volume_2.f k a0 a1 a2 a3 a4 a5 a6 a7 a8 a9 a10 a11 a12) (demand_volume_2.f (k + 1) a0 a1 a2 a3 a4 a5 a6 a7 a8 a9 a10 a11 a12) := by
  intro a0 a1 a2 a3 a4 a5 a6 a7 a8 a9 a10 a11 a12 k
  unfold demand_volume_2.f
  repeat' with_reducible first | exact frac_Mul.mono _ _ _ _ _ | exact LeO.refl _ | exact LeO.none _ | refine LeO.ite ?_ ?_ | refine LeO.bind ?_ (fun _ => ?_)
/-! ### frac_Div: function 49 -/
def frac_Div.f (k : Nat) (a0_0 : Int) (a0_1 : Int) (a1_0 : Int) (a1_1 : Int) : Option (Int × Int × Int) := (frac_norm.f k a0_0 a0_1).bind fun bt433 => ((frac_norm.f k a1_0 a1_1).bind fun bt435 => (if bt435.1 = 0 then (some (0, 0, 3)) else ((frac_sized.f bt433.1).bind fun bt437 => ((frac_sized.f bt435.2).bind fun bt440 => ((frac_signed_times.f bt437.1 bt437.2.1 bt437.2.2 bt440.1 bt440.2.1 bt440.2.2).bind fun bt443 => ((frac_sized.f bt433.2).bind fun bt446 => ((frac_sized.f bt435.1).bind fun bt449 => ((frac_signed_times.f bt446.1 bt446.2.1 bt446.2.2 bt449.1 bt449.2.1 bt449.2.2).bind fun bt452 => ((frac_reduced.f k bt443.1 bt443.2.1 bt443.2.2 bt452.1 bt452.2.1 bt452.2.2).bind fun bt455 => (some (bt455.1, bt455.2.1, bt455.2.2)))))))))))
theorem frac_Div.mono : ∀ a0 a1 a2 a3 k, LeO (frac_Div.f k a0 a1 a2 a3) (frac_Div.f (k + 1) a0 a1 a2 a3) := by
  intro a0 a1 a2 a3 k
  unfold frac_Div.f
  repeat' with_reducible first | exact frac_norm.mono _ _ _ | exact frac_reduced.mono _ _ _ _ _ _ _ | exact LeO.refl _ | exact LeO.none _ | refine LeO.ite ?_ ?_ | refine LeO.bind ?_ (fun _ => ?_)
/-! ### demand_volume_3: function 67 -/
-- (told where it is handed on)


/-! ### demand_volume: function 46 -/
/-- demand.volume: told by hand (it hands function literals on). -/
def demand_volume.f (k : Nat) (a0_0 : ByteArray) (a0_1 a0_2 a0_3 a0_4 a0_5 a0_6 a0_7 a0_8 a0_9 a0_10 a1_0 a1_1 : Int) : Option (Int × Int × Int) :=
  (demand_volume_1.f k a0_3 a0_4).bind fun a => if a.2.2 = 0 then ((demand_volume_2.f k a.1 a.2.1 a0_0 a0_1 a0_2 a0_3 a0_4 a0_5 a0_6 a0_7 a0_8 a0_9 a0_10).bind fun b => if b.2.2 = 0 then ((demand_volume_1.f k a1_0 a1_1).bind fun c => if c.2.2 = 0 then frac_Div.f k b.1 b.2.1 c.1 c.2.1 else some (0, 0, c.2.2)) else some b) else some a
theorem demand_volume.mono : ∀ y0 y1 y2 y3 y4 y5 y6 y7 y8 y9 y10 z0 z1 k, LeO (demand_volume.f k y0 y1 y2 y3 y4 y5 y6 y7 y8 y9 y10 z0 z1) (demand_volume.f (k + 1) y0 y1 y2 y3 y4 y5 y6 y7 y8 y9 y10 z0 z1) := by
  intro y0 y1 y2 y3 y4 y5 y6 y7 y8 y9 y10 z0 z1 k
  unfold demand_volume.f
  repeat' with_reducible first | exact demand_volume_1.mono _ _ _ | exact demand_volume_2.mono _ _ _ _ _ _ _ _ _ _ _ _ _ _ | exact frac_Div.mono _ _ _ _ _ | exact LeO.refl _ | exact LeO.none _ | refine LeO.ite ?_ ?_ | refine LeO.bind ?_ (fun _ => ?_)
/-! ### demand_Volume: function 25 -/
def demand_Volume.f (k : Nat) (a0_0 : ByteArray) (a0_1 : Int) (a0_2 : Int) (a0_3 : Int) (a0_4 : Int) (a0_5 : Int) (a0_6 : Int) (a0_7 : Int) (a0_8 : Int) (a0_9 : Int) (a0_10 : Int) (a1_0 : Int) (a1_1 : Int) : Option (Int × Int × Int) := (demand_volume.f k a0_0 a0_1 a0_2 a0_3 a0_4 a0_5 a0_6 a0_7 a0_8 a0_9 a0_10 a1_0 a1_1).bind fun bt461 => (some (bt461.1, bt461.2.1, bt461.2.2))
theorem demand_Volume.mono : ∀ a0 a1 a2 a3 a4 a5 a6 a7 a8 a9 a10 a11 a12 k, LeO (demand_Volume.f k a0 a1 a2 a3 a4 a5 a6 a7 a8 a9 a10 a11 a12) (demand_Volume.f (k + 1) a0 a1 a2 a3 a4 a5 a6 a7 a8 a9 a10 a11 a12) := by
  intro a0 a1 a2 a3 a4 a5 a6 a7 a8 a9 a10 a11 a12 k
  unfold demand_Volume.f
  repeat' with_reducible first | exact demand_volume.mono _ _ _ _ _ _ _ _ _ _ _ _ _ _ | exact LeO.refl _ | exact LeO.none _ | refine LeO.ite ?_ ?_ | refine LeO.bind ?_ (fun _ => ?_)
/-! ### demand_Ratio_1: function 48 -/
def demand_Ratio_1.f (k : Nat) (a0_0 : Int) (a0_1 : Int) (a1_0 : ByteArray) (a1_1 : Int) (a1_2 : Int) (a1_3 : Int) (a1_4 : Int) (a1_5 : Int) (a1_6 : Int) (a1_7 : Int) (a1_8 : Int) (a1_9 : Int) (a1_10 : Int) : Option (Int × Int × Int) := (demand_number.f a1_2).bind fun bt468 => ((frac_Div.f k a0_0 a0_1 bt468.1 bt468.2).bind fun bt470 => (some (bt470.1, bt470.2.1, bt470.2.2)))
theorem demand_Ratio_1.mono : ∀ a0 a1 a2 a3 a4 a5 a6 a7 a8 a9 a10 a11 a12 k, LeO (demand_Ratio_1.f k a0 a1 a2 a3 a4 a5 a6 a7 a8 a9 a10 a11 a12) (demand_Ratio_1.f (k + 1) a0 a1 a2 a3 a4 a5 a6 a7 a8 a9 a10 a11 a12) := by
  intro a0 a1 a2 a3 a4 a5 a6 a7 a8 a9 a10 a11 a12 k
  unfold demand_Ratio_1.f
  repeat' with_reducible first | exact frac_Div.mono _ _ _ _ _ | exact LeO.refl _ | exact LeO.none _ | refine LeO.ite ?_ ?_ | refine LeO.bind ?_ (fun _ => ?_)
/-! ### demand_Ratio: function 26 -/
/-- demand.Ratio: told by hand (it hands a function literal on). -/
def demand_Ratio.f (k : Nat) (a0_0 : ByteArray) (a0_1 a0_2 a0_3 a0_4 a0_5 a0_6 a0_7 a0_8 a0_9 a0_10 a1_0 a1_1 : Int) : Option (Int × Int × Int) :=
  (demand_volume.f k a0_0 a0_1 a0_2 a0_3 a0_4 a0_5 a0_6 a0_7 a0_8 a0_9 a0_10 a1_0 a1_1).bind fun a => if a.2.2 = 0 then demand_Ratio_1.f k a.1 a.2.1 a0_0 a0_1 a0_2 a0_3 a0_4 a0_5 a0_6 a0_7 a0_8 a0_9 a0_10 else some a
theorem demand_Ratio.mono : ∀ y0 y1 y2 y3 y4 y5 y6 y7 y8 y9 y10 z0 z1 k, LeO (demand_Ratio.f k y0 y1 y2 y3 y4 y5 y6 y7 y8 y9 y10 z0 z1) (demand_Ratio.f (k + 1) y0 y1 y2 y3 y4 y5 y6 y7 y8 y9 y10 z0 z1) := by
  intro y0 y1 y2 y3 y4 y5 y6 y7 y8 y9 y10 z0 z1 k
  unfold demand_Ratio.f
  repeat' with_reducible first | exact demand_volume.mono _ _ _ _ _ _ _ _ _ _ _ _ _ _ | exact demand_Ratio_1.mono _ _ _ _ _ _ _ _ _ _ _ _ _ _ | exact LeO.refl _ | exact LeO.none _ | refine LeO.ite ?_ ?_ | refine LeO.bind ?_ (fun _ => ?_)
/-! ### carrefourlaw09_awake: function 6 -/
def carrefourlaw09_awake.f (k : Nat)  : Option (Bool) := (demand_Volume.f k (⟨#[]⟩ : ByteArray) 400 1800 21 20 0 0 0 0 0 0 9 10).bind fun bt475 => ((demand_Ratio.f k (⟨#[]⟩ : ByteArray) 400 1800 21 20 0 0 0 0 0 0 9 10).bind fun bt479 => ((demand_Rate.f k bt479.1 bt479.2.1 3).bind fun bt483 => (if bt475.2.2 = 0 then (if bt479.2.2 = 0 then (if bt483.2 = 0 then (if (bt475.1 == 1400 && (bt475.2.1 == 3)) = true then (if (bt479.1 == 7 && (bt479.2.1 == 27)) = true then (some (bt483.1.toList == ([48, 46, 50, 53, 57] : List UInt8))) else (some false)) else (some false)) else (some false)) else (some false)) else (some false))))
theorem carrefourlaw09_awake.mono : ∀ k, LeO (carrefourlaw09_awake.f k ) (carrefourlaw09_awake.f (k + 1) ) := by
  intro  k
  unfold carrefourlaw09_awake.f
  repeat' with_reducible first | exact demand_Rate.mono _ _ _ _ | exact demand_Ratio.mono _ _ _ _ _ _ _ _ _ _ _ _ _ _ | exact demand_Volume.mono _ _ _ _ _ _ _ _ _ _ _ _ _ _ | exact LeO.refl _ | exact LeO.none _ | refine LeO.ite ?_ ?_ | refine LeO.bind ?_ (fun _ => ?_)
/-! ### carrefourlaw09_DemandRate: function 3 -/
def carrefourlaw09_DemandRate.f (k : Nat) (a0_0 : Int) (a0_1 : Int) (a1 : Int) : Option (Bool) := (demand_Rate.f k a0_0 a0_1 a1).bind fun bt486 => ((carrefourref09_Rate.f k a0_0 a0_1 a1).bind fun bt488 => (if bt486.1.toList = bt488.1.toList then (if bt486.2 = bt488.2 then ((carrefourlaw09_awake.f k).bind fun t490 => (some t490)) else (some false)) else (some false)))
theorem carrefourlaw09_DemandRate.mono : ∀ a0 a1 a2 k, LeO (carrefourlaw09_DemandRate.f k a0 a1 a2) (carrefourlaw09_DemandRate.f (k + 1) a0 a1 a2) := by
  intro a0 a1 a2 k
  unfold carrefourlaw09_DemandRate.f
  repeat' with_reducible first | exact carrefourlaw09_awake.mono _ | exact carrefourref09_Rate.mono _ _ _ _ | exact demand_Rate.mono _ _ _ _ | exact LeO.refl _ | exact LeO.none _ | refine LeO.ite ?_ ?_ | refine LeO.bind ?_ (fun _ => ?_)
end Go.Proofs.YtnocpmngpekceaaDoor.X
