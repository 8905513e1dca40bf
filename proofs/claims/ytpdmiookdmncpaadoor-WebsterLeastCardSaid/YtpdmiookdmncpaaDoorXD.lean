/- What functions of the program come to, as Lean functions, laid by a program of this session over the translation. Conditions: as each theorem's head says. -/
import Derived.Test.YtpdmiookdmncpaaDoorX0
namespace Go.Proofs.YtpdmiookdmncpaaDoor.X
open Go.RowKit Go.Proofs.YtpdmiookdmncpaaDoorW.PrintWords Go.Proofs.YtpdmiookdmncpaaDoorW.PrintLast Go.Proofs.YtpdmiookdmncpaaDoorW.PrintMore
attribute [local go_sem] max2_int min2_int max_two min_two max_three min_three max_four min_four   -- for this text's walks alone
set_option linter.unusedVariables false
set_option linter.unusedSimpArgs false

/-! ### whole_signed: function 84 -/
def whole_signed.j0 : Nat → Int → Bool → Option (Int × Int)
  | 0, _, _ => none
  | k + 1, x0, x6 => if x6 = true then (some (wrap64 (IntKind.u64.wrap (-x0)), 0)) else (if x0 ≤ 9223372036854775807 then (some (wrap64 (x0), 0)) else (some (0, 2)))
def whole_signed.f (k : Nat) (a0 : Int) (a1 : Int) : Option (Int × Int) := if a1 < 0 then (whole_signed.j0 k a0 (decide (a0 ≤ 9223372036854775808))) else (whole_signed.j0 k a0 false)
theorem whole_signed.mono_l : ∀ k, (∀ y0 y1, LeO (whole_signed.j0 k y0 y1) (whole_signed.j0 (k + 1) y0 y1))
  | 0 => fun _ _ r h => by simp [whole_signed.j0] at h
  | k + 1 => by
    have ih0 := whole_signed.mono_l k
    · intro y0 y1
      unfold whole_signed.j0
      repeat' first
      | (with_reducible exact ih0 _ _)
      | (with_reducible exact LeO.refl _)
      | (with_reducible exact LeO.none _)
      | (with_reducible refine LeO.ite ?_ ?_)
      | (with_reducible refine LeO.bind ?_ (fun _ => ?_))
      | exact ih0 _ _
      | exact LeO.none _
      | refine LeO.ite ?_ ?_
      | refine LeO.bind ?_ (fun _ => ?_)
theorem whole_signed.mono : ∀ a0 a1 k, LeO (whole_signed.f k a0 a1) (whole_signed.f (k + 1) a0 a1) := by
  intro a0 a1 k
  have ih0 := whole_signed.mono_l k
  unfold whole_signed.f
  repeat' first
      | (with_reducible exact ih0 _ _)
      | (with_reducible exact LeO.refl _)
      | (with_reducible exact LeO.none _)
      | (with_reducible refine LeO.ite ?_ ?_)
      | (with_reducible refine LeO.bind ?_ (fun _ => ?_))
      | exact ih0 _ _
      | exact LeO.none _
      | refine LeO.ite ?_ ?_
      | refine LeO.bind ?_ (fun _ => ?_)
/-! ### bits_TrailingZeros64: function 99 -/
def bits_TrailingZeros64.f (a0 : Int) : Option Int := if 0 ≤ a0 ∧ a0 < 18446744073709551616 then some ((Lib.ctz 64 a0.toNat : Nat) : Int) else none
/-! ### whole_gcd: function 85 -/
mutual
def whole_gcd.j0 : Nat → Int → Int → Bool → Option (Int)
  | 0, _, _, _ => none
  | k + 1, x0, x1, x11 => if x11 = true then (some (Go.bits .or .u64 x0 x1)) else ((bits_TrailingZeros64.f (Go.bits .or .u64 x0 x1)).bind fun t101 => ((bits_TrailingZeros64.f x0).bind fun t102 => (if 0 ≤ t102 then (whole_gcd.l0 k (shr .u64 x0 t102) x1 t101) else (none))))
def whole_gcd.l0 : Nat → Int → Int → Int → Option (Int)
  | 0, _, _, _ => none
  | k + 1, x0, x1, x5 => if x1 = 0 then (if 0 ≤ x5 then (some (shl .u64 x0 x5)) else (none)) else ((bits_TrailingZeros64.f x1).bind fun t103 => (if 0 ≤ t103 then (if x0 > (shr .u64 x1 t103) then (whole_gcd.l0 k (shr .u64 x1 t103) (IntKind.u64.wrap (x0 - (shr .u64 x1 t103))) x5) else (whole_gcd.l0 k x0 (IntKind.u64.wrap ((shr .u64 x1 t103) - x0)) x5)) else (none)))
end
def whole_gcd.f (k : Nat) (a0 : Int) (a1 : Int) : Option (Int) := if a0 = 0 then (whole_gcd.j0 k a0 a1 true) else (whole_gcd.j0 k a0 a1 (a1 == 0))
theorem whole_gcd.mono_l : ∀ k, (∀ y0 y1 y2, LeO (whole_gcd.j0 k y0 y1 y2) (whole_gcd.j0 (k + 1) y0 y1 y2)) ∧ (∀ y0 y1 y2, LeO (whole_gcd.l0 k y0 y1 y2) (whole_gcd.l0 (k + 1) y0 y1 y2))
  | 0 => ⟨fun _ _ _ r h => by simp [whole_gcd.j0] at h, fun _ _ _ r h => by simp [whole_gcd.l0] at h⟩
  | k + 1 => by
    obtain ⟨ih0, ih1⟩ := whole_gcd.mono_l k
    refine ⟨?_, ?_⟩
    · intro y0 y1 y2
      unfold whole_gcd.j0
      repeat' first
      | (with_reducible exact ih0 _ _ _)
      | (with_reducible exact ih1 _ _ _)
      | (with_reducible exact LeO.refl _)
      | (with_reducible exact LeO.none _)
      | (with_reducible refine LeO.ite ?_ ?_)
      | (with_reducible refine LeO.bind ?_ (fun _ => ?_))
      | exact ih0 _ _ _
      | exact ih1 _ _ _
      | exact LeO.none _
      | refine LeO.ite ?_ ?_
      | refine LeO.bind ?_ (fun _ => ?_)
    · intro y0 y1 y2
      unfold whole_gcd.l0
      repeat' first
      | (with_reducible exact ih0 _ _ _)
      | (with_reducible exact ih1 _ _ _)
      | (with_reducible exact LeO.refl _)
      | (with_reducible exact LeO.none _)
      | (with_reducible refine LeO.ite ?_ ?_)
      | (with_reducible refine LeO.bind ?_ (fun _ => ?_))
      | exact ih0 _ _ _
      | exact ih1 _ _ _
      | exact LeO.none _
      | refine LeO.ite ?_ ?_
      | refine LeO.bind ?_ (fun _ => ?_)
theorem whole_gcd.mono : ∀ a0 a1 k, LeO (whole_gcd.f k a0 a1) (whole_gcd.f (k + 1) a0 a1) := by
  intro a0 a1 k
  obtain ⟨ih0, ih1⟩ := whole_gcd.mono_l k
  unfold whole_gcd.f
  repeat' first
      | (with_reducible exact ih0 _ _ _)
      | (with_reducible exact ih1 _ _ _)
      | (with_reducible exact LeO.refl _)
      | (with_reducible exact LeO.none _)
      | (with_reducible refine LeO.ite ?_ ?_)
      | (with_reducible refine LeO.bind ?_ (fun _ => ?_))
      | exact ih0 _ _ _
      | exact ih1 _ _ _
      | exact LeO.none _
      | refine LeO.ite ?_ ?_
      | refine LeO.bind ?_ (fun _ => ?_)
/-! ### whole_size: function 86 -/
def whole_size.f (a0 : Int) : Option (Int) := if a0 < 0 then (some (IntKind.u64.wrap (-(IntKind.u64.wrap (a0))))) else (some (IntKind.u64.wrap (a0)))
/-! ### whole_Gcd: function 63 -/
def whole_Gcd.f (k : Nat) (a0 : Int) (a1 : Int) : Option (Int × Int) := (whole_size.f a0).bind fun t104 => ((whole_size.f a1).bind fun t105 => ((whole_gcd.f k t104 t105).bind fun t106 => ((whole_signed.f k t106 1).bind fun bt107 => (some (bt107.1, bt107.2)))))
theorem whole_Gcd.mono : ∀ a0 a1 k, LeO (whole_Gcd.f k a0 a1) (whole_Gcd.f (k + 1) a0 a1) := by
  intro a0 a1 k
  unfold whole_Gcd.f
  repeat' first
      | (with_reducible exact whole_gcd.mono _ _ _)
      | (with_reducible exact whole_signed.mono _ _ _)
      | (with_reducible exact LeO.refl _)
      | (with_reducible exact LeO.none _)
      | (with_reducible refine LeO.ite ?_ ?_)
      | (with_reducible refine LeO.bind ?_ (fun _ => ?_))
      | exact whole_gcd.mono _ _ _
      | exact whole_signed.mono _ _ _
      | exact LeO.none _
      | refine LeO.ite ?_ ?_
      | refine LeO.bind ?_ (fun _ => ?_)
/-! ### frac_Right: function 33 -/
def frac_Right.f (k : Nat) (a0_0 : Int) (a0_1 : Int) : Option (Bool) := (whole_Gcd.f k a0_0 a0_1).bind fun bt110 => (if a0_1 ≥ 1 then (if bt110.2 = 0 then (some (bt110.1 == 1)) else (some false)) else (some false))
theorem frac_Right.mono : ∀ a0 a1 k, LeO (frac_Right.f k a0 a1) (frac_Right.f (k + 1) a0 a1) := by
  intro a0 a1 k
  unfold frac_Right.f
  repeat' first
      | (with_reducible exact whole_Gcd.mono _ _ _)
      | (with_reducible exact LeO.refl _)
      | (with_reducible exact LeO.none _)
      | (with_reducible refine LeO.ite ?_ ?_)
      | (with_reducible refine LeO.bind ?_ (fun _ => ?_))
      | exact whole_Gcd.mono _ _ _
      | exact LeO.none _
      | refine LeO.ite ?_ ?_
      | refine LeO.bind ?_ (fun _ => ?_)
/-! ### frac_wide_zero: function 100 -/
def frac_wide_zero.f (a0_0 : Int) (a0_1 : Int) : Option (Bool) := some ((Go.bits .or .u64 a0_0 a0_1) == 0)
/-! ### frac_wide_twos: function 101 -/
def frac_wide_twos.f (a0_0 : Int) (a0_1 : Int) : Option (Int) := if a0_1 = 0 then ((bits_TrailingZeros64.f a0_0).bind fun t114 => (some (wrap64 (64 + t114)))) else ((bits_TrailingZeros64.f a0_1).bind fun t115 => (some t115))
/-! ### frac_wide_down: function 102 -/
def frac_wide_down.f (a0_0 : Int) (a0_1 : Int) (a1 : Int) : Option (Int × Int) := if a1 ≥ 64 then (if 0 ≤ (wrap64 (a1 - 64)) then (some (0, shr .u64 a0_0 (wrap64 (a1 - 64)))) else (none)) else (if 0 ≤ a1 then (if 0 ≤ (wrap64 (64 - a1)) then (some (shr .u64 a0_0 a1, Go.bits .or .u64 (shr .u64 a0_1 a1) (shl .u64 a0_0 (wrap64 (64 - a1))))) else (none)) else (none))
/-! ### frac_wide_cmp: function 103 -/
def frac_wide_cmp.f (a0_0 : Int) (a0_1 : Int) (a1_0 : Int) (a1_1 : Int) : Option (Int) := if (a0_0 == a1_0 && (a0_1 == a1_1)) = true then (some 0) else (if a0_0 < a1_0 then (some (-1)) else (if a0_0 = a1_0 then (if a0_1 < a1_1 then (some (-1)) else (some 1)) else (some 1)))
/-! ### bits_Sub64: function 112 -/
def bits_Sub64.f (a0 : Int) (a1 : Int) (a2 : Int) : Option (Int × Int) := if 0 ≤ a0 ∧ 0 ≤ a1 ∧ a1 < 18446744073709551616 ∧ 0 ≤ a2 ∧ a2 ≤ 1 then some ((a0 - a1 - a2) % 18446744073709551616, if a0 < a1 + a2 then 1 else 0) else none
/-- The model's entry for math/bits.Sub64. -/
def sub64Entry : Array Value → Sem Value := fun args => do
  let (x, y, b) ← Extern.MathBitsCarry.three "Sub64" args
  pure (Extern.MathBitsCarry.pair ((x + Extern.MathBitsCarry.m64 - y - b) % Extern.MathBitsCarry.m64) (if x < y + b then 1 else 0))
/-! ### frac_wide_minus: function 104 -/
def frac_wide_minus.f (a0_0 : Int) (a0_1 : Int) (a1_0 : Int) (a1_1 : Int) : Option (Int × Int) := (bits_Sub64.f a0_1 a1_1 0).bind fun bt123 => ((bits_Sub64.f a0_0 a1_0 bt123.2).bind fun bt125 => (some (bt125.1, bt123.1)))
/-! ### frac_wide_up: function 105 -/
def frac_wide_up.f (a0_0 : Int) (a0_1 : Int) (a1 : Int) : Option (Int × Int) := if a1 ≥ 64 then (if 0 ≤ (wrap64 (a1 - 64)) then (some (shl .u64 a0_1 (wrap64 (a1 - 64)), 0)) else (none)) else (if 0 ≤ a1 then (if 0 ≤ (wrap64 (64 - a1)) then (some (Go.bits .or .u64 (shl .u64 a0_0 a1) (shr .u64 a0_1 (wrap64 (64 - a1))), shl .u64 a0_1 a1)) else (none)) else (none))
/-! ### frac_gcd: function 87 -/
def frac_gcd.l0 : Nat → Int → Int → Int → Int → Int → Option (Int × Int)
  | 0, _, _, _, _, _ => none
  | k + 1, x5, x130000, x130001, x131000, x131001 => (frac_wide_zero.f x131000 x131001).bind fun t139 => (if t139 = true then ((frac_wide_up.f x130000 x130001 x5).bind fun bt140 => (some (bt140.1, bt140.2))) else ((frac_wide_twos.f x131000 x131001).bind fun t142 => ((frac_wide_down.f x131000 x131001 t142).bind fun bt143 => ((frac_wide_cmp.f x130000 x130001 bt143.1 bt143.2).bind fun t145 => (if t145 > 0 then ((frac_wide_minus.f x130000 x130001 bt143.1 bt143.2).bind fun bt146 => (frac_gcd.l0 k x5 bt143.1 bt143.2 bt146.1 bt146.2)) else ((frac_wide_minus.f bt143.1 bt143.2 x130000 x130001).bind fun bt148 => (frac_gcd.l0 k x5 x130000 x130001 bt148.1 bt148.2)))))))
def frac_gcd.f (k : Nat) (a0_0 : Int) (a0_1 : Int) (a1_0 : Int) (a1_1 : Int) : Option (Int × Int) := (frac_wide_zero.f a0_0 a0_1).bind fun t132 => (if t132 = true then (some (a1_0, a1_1)) else ((frac_wide_zero.f a1_0 a1_1).bind fun t133 => (if t133 = true then (some (a0_0, a0_1)) else ((frac_wide_twos.f a0_0 a0_1).bind fun t134 => ((frac_wide_twos.f a1_0 a1_1).bind fun t135 => ((frac_wide_twos.f a0_0 a0_1).bind fun t136 => ((frac_wide_down.f a0_0 a0_1 t136).bind fun bt137 => (frac_gcd.l0 k (mn t134 t135) bt137.1 bt137.2 a1_0 a1_1))))))))
theorem frac_gcd.mono_l : ∀ k, (∀ y0 y1 y2 y3 y4, LeO (frac_gcd.l0 k y0 y1 y2 y3 y4) (frac_gcd.l0 (k + 1) y0 y1 y2 y3 y4))
  | 0 => fun _ _ _ _ _ r h => by simp [frac_gcd.l0] at h
  | k + 1 => by
    have ih0 := frac_gcd.mono_l k
    · intro y0 y1 y2 y3 y4
      unfold frac_gcd.l0
      repeat' first
      | (with_reducible exact ih0 _ _ _ _ _)
      | (with_reducible exact LeO.refl _)
      | (with_reducible exact LeO.none _)
      | (with_reducible refine LeO.ite ?_ ?_)
      | (with_reducible refine LeO.bind ?_ (fun _ => ?_))
      | exact ih0 _ _ _ _ _
      | exact LeO.none _
      | refine LeO.ite ?_ ?_
      | refine LeO.bind ?_ (fun _ => ?_)
theorem frac_gcd.mono : ∀ a0 a1 a2 a3 k, LeO (frac_gcd.f k a0 a1 a2 a3) (frac_gcd.f (k + 1) a0 a1 a2 a3) := by
  intro a0 a1 a2 a3 k
  have ih0 := frac_gcd.mono_l k
  unfold frac_gcd.f
  repeat' first
      | (with_reducible exact ih0 _ _ _ _ _)
      | (with_reducible exact LeO.refl _)
      | (with_reducible exact LeO.none _)
      | (with_reducible refine LeO.ite ?_ ?_)
      | (with_reducible refine LeO.bind ?_ (fun _ => ?_))
      | exact ih0 _ _ _ _ _
      | exact LeO.none _
      | refine LeO.ite ?_ ?_
      | refine LeO.bind ?_ (fun _ => ?_)
/-! ### bits_Len64: function 113 -/
def bits_Len64.f (a0 : Int) : Option Int := if 0 ≤ a0 ∧ a0 ≤ 18446744073709551615 then some ((Lib.bitLen a0.toNat : Nat) : Int) else none
/-! ### frac_wide_long: function 106 -/
def frac_wide_long.f (a0_0 : Int) (a0_1 : Int) : Option (Int) := if a0_0 = 0 then ((bits_Len64.f a0_1).bind fun t151 => (some t151)) else ((bits_Len64.f a0_0).bind fun t152 => (some (wrap64 (64 + t152))))
/-! ### frac_wide_over: function 88 -/
def frac_wide_over.l0 : Nat → Int → Int → Int → Int → Int → Int → Int → Option (Int × Int)
  | 0, _, _, _, _, _, _, _ => none
  | k + 1, x6, x154000, x154001, x155000, x155001, x157000, x157001 => if x6 ≥ 0 then ((frac_wide_up.f x157000 x157001 1).bind fun bt159 => ((frac_wide_up.f x155000 x155001 x6).bind fun bt161 => ((frac_wide_cmp.f bt161.1 bt161.2 x154000 x154001).bind fun t164 => (if t164 ≤ 0 then ((frac_wide_minus.f x154000 x154001 bt161.1 bt161.2).bind fun bt165 => (frac_wide_over.l0 k (wrap64 (x6 - 1)) bt165.1 bt165.2 x155000 x155001 bt159.1 (Go.bits .or .u64 bt159.2 1))) else (frac_wide_over.l0 k (wrap64 (x6 - 1)) x154000 x154001 x155000 x155001 bt159.1 bt159.2))))) else (some (x157000, x157001))
def frac_wide_over.f (k : Nat) (a0_0 : Int) (a0_1 : Int) (a1_0 : Int) (a1_1 : Int) : Option (Int × Int) := (frac_wide_long.f a0_0 a0_1).bind fun t157 => ((frac_wide_long.f a1_0 a1_1).bind fun t158 => (frac_wide_over.l0 k (wrap64 (t157 - t158)) a0_0 a0_1 a1_0 a1_1 0 0))
theorem frac_wide_over.mono_l : ∀ k, (∀ y0 y1 y2 y3 y4 y5 y6, LeO (frac_wide_over.l0 k y0 y1 y2 y3 y4 y5 y6) (frac_wide_over.l0 (k + 1) y0 y1 y2 y3 y4 y5 y6))
  | 0 => fun _ _ _ _ _ _ _ r h => by simp [frac_wide_over.l0] at h
  | k + 1 => by
    have ih0 := frac_wide_over.mono_l k
    · intro y0 y1 y2 y3 y4 y5 y6
      unfold frac_wide_over.l0
      repeat' first
      | (with_reducible exact ih0 _ _ _ _ _ _ _)
      | (with_reducible exact LeO.refl _)
      | (with_reducible exact LeO.none _)
      | (with_reducible refine LeO.ite ?_ ?_)
      | (with_reducible refine LeO.bind ?_ (fun _ => ?_))
      | exact ih0 _ _ _ _ _ _ _
      | exact LeO.none _
      | refine LeO.ite ?_ ?_
      | refine LeO.bind ?_ (fun _ => ?_)
theorem frac_wide_over.mono : ∀ a0 a1 a2 a3 k, LeO (frac_wide_over.f k a0 a1 a2 a3) (frac_wide_over.f (k + 1) a0 a1 a2 a3) := by
  intro a0 a1 a2 a3 k
  have ih0 := frac_wide_over.mono_l k
  unfold frac_wide_over.f
  repeat' first
      | (with_reducible exact ih0 _ _ _ _ _ _ _)
      | (with_reducible exact LeO.refl _)
      | (with_reducible exact LeO.none _)
      | (with_reducible refine LeO.ite ?_ ?_)
      | (with_reducible refine LeO.bind ?_ (fun _ => ?_))
      | exact ih0 _ _ _ _ _ _ _
      | exact LeO.none _
      | refine LeO.ite ?_ ?_
      | refine LeO.bind ?_ (fun _ => ?_)
/-! ### frac_signed_whole: function 89 -/
def frac_signed_whole.f (a0_0 : Bool) (a0_1 : Int) (a0_2 : Int) : Option (Int × Bool) := if a0_1 = 0 then (if a0_0 = true then (some (wrap64 (IntKind.u64.wrap (-a0_2)), decide (a0_2 ≤ 9223372036854775808))) else (some (wrap64 (a0_2), decide (a0_2 < 9223372036854775808)))) else (some (0, false))
/-! ### frac_reduced: function 64 -/
def frac_reduced.f (k : Nat) (a0_0 : Bool) (a0_1 : Int) (a0_2 : Int) (a1_0 : Bool) (a1_1 : Int) (a1_2 : Int) : Option (Int × Int × Int) := (frac_gcd.f k a0_1 a0_2 a1_1 a1_2).bind fun bt171 => ((frac_wide_over.f k a0_1 a0_2 bt171.1 bt171.2).bind fun bt174 => ((frac_wide_over.f k a1_1 a1_2 bt171.1 bt171.2).bind fun bt176 => ((frac_signed_whole.f (a0_0 != a1_0) bt174.1 bt174.2).bind fun bt178 => ((frac_signed_whole.f false bt176.1 bt176.2).bind fun bt180 => (if bt178.2 = true then (if bt180.2 = true then (some (bt178.1, bt180.1, 0)) else (some (0, 0, 2))) else (some (0, 0, 2)))))))
theorem frac_reduced.mono : ∀ a0 a1 a2 a3 a4 a5 k, LeO (frac_reduced.f k a0 a1 a2 a3 a4 a5) (frac_reduced.f (k + 1) a0 a1 a2 a3 a4 a5) := by
  intro a0 a1 a2 a3 a4 a5 k
  unfold frac_reduced.f
  repeat' first
      | (with_reducible exact frac_gcd.mono _ _ _ _ _)
      | (with_reducible exact frac_wide_over.mono _ _ _ _ _)
      | (with_reducible exact LeO.refl _)
      | (with_reducible exact LeO.none _)
      | (with_reducible refine LeO.ite ?_ ?_)
      | (with_reducible refine LeO.bind ?_ (fun _ => ?_))
      | exact frac_gcd.mono _ _ _ _ _
      | exact frac_wide_over.mono _ _ _ _ _
      | exact LeO.none _
      | refine LeO.ite ?_ ?_
      | refine LeO.bind ?_ (fun _ => ?_)
/-! ### frac_sized: function 65 -/
def frac_sized.f (a0 : Int) : Option (Bool × Int × Int) := if a0 < 0 then (some (true, 0, IntKind.u64.wrap (-(IntKind.u64.wrap (a0))))) else (some (false, 0, IntKind.u64.wrap (a0)))
/-! ### frac_Of: function 34 -/
def frac_Of.f (k : Nat) (a0 : Int) (a1 : Int) : Option (Int × Int × Int) := if a1 = 0 then (some (0, 0, 3)) else ((frac_sized.f a0).bind fun bt184 => ((frac_sized.f a1).bind fun bt187 => ((frac_reduced.f k bt184.1 bt184.2.1 bt184.2.2 bt187.1 bt187.2.1 bt187.2.2).bind fun bt190 => (some (bt190.1, bt190.2.1, bt190.2.2)))))
theorem frac_Of.mono : ∀ a0 a1 k, LeO (frac_Of.f k a0 a1) (frac_Of.f (k + 1) a0 a1) := by
  intro a0 a1 k
  unfold frac_Of.f
  repeat' first
      | (with_reducible exact frac_reduced.mono _ _ _ _ _ _ _)
      | (with_reducible exact LeO.refl _)
      | (with_reducible exact LeO.none _)
      | (with_reducible refine LeO.ite ?_ ?_)
      | (with_reducible refine LeO.bind ?_ (fun _ => ?_))
      | exact frac_reduced.mono _ _ _ _ _ _ _
      | exact LeO.none _
      | refine LeO.ite ?_ ?_
      | refine LeO.bind ?_ (fun _ => ?_)
/-! ### frac_nought: function 82 -/
def frac_nought.f  : Option (Int × Int) := some (0, 1)
/-! ### frac_norm: function 66 -/
def frac_norm.f (k : Nat) (a0_0 : Int) (a0_1 : Int) : Option (Int × Int) := (frac_Right.f k a0_0 a0_1).bind fun t196 => (if t196 = true then (some (a0_0, a0_1)) else ((frac_nought.f).bind fun bt197 => (some (bt197.1, bt197.2))))
theorem frac_norm.mono : ∀ a0 a1 k, LeO (frac_norm.f k a0 a1) (frac_norm.f (k + 1) a0 a1) := by
  intro a0 a1 k
  unfold frac_norm.f
  repeat' first
      | (with_reducible exact frac_Right.mono _ _ _)
      | (with_reducible exact LeO.refl _)
      | (with_reducible exact LeO.none _)
      | (with_reducible refine LeO.ite ?_ ?_)
      | (with_reducible refine LeO.bind ?_ (fun _ => ?_))
      | exact frac_Right.mono _ _ _
      | exact LeO.none _
      | refine LeO.ite ?_ ?_
      | refine LeO.bind ?_ (fun _ => ?_)
/-! ### bits_Mul64: function 107 -/
def bits_Mul64.f (a0 : Int) (a1 : Int) : Option (Int × Int) := some (IntKind.u64.wrap ((IntKind.u64.wrap ((IntKind.u64.wrap ((a0 / 4294967296) * (a1 / 4294967296))) + ((IntKind.u64.wrap ((IntKind.u64.wrap ((a0 / 4294967296) * (Go.bits .and .u64 a1 4294967295))) + ((IntKind.u64.wrap ((Go.bits .and .u64 a0 4294967295) * (Go.bits .and .u64 a1 4294967295))) / 4294967296))) / 4294967296))) + ((IntKind.u64.wrap ((Go.bits .and .u64 (IntKind.u64.wrap ((IntKind.u64.wrap ((a0 / 4294967296) * (Go.bits .and .u64 a1 4294967295))) + ((IntKind.u64.wrap ((Go.bits .and .u64 a0 4294967295) * (Go.bits .and .u64 a1 4294967295))) / 4294967296))) 4294967295) + (IntKind.u64.wrap ((Go.bits .and .u64 a0 4294967295) * (a1 / 4294967296))))) / 4294967296)), IntKind.u64.wrap (a0 * a1))
/-! ### frac_multiply: function 90 -/
def frac_multiply.f (a0 : Int) (a1 : Int) : Option (Int × Int) := (bits_Mul64.f a0 a1).bind fun bt200 => (some (bt200.1, bt200.2))
/-! ### frac_signed_times: function 67 -/
def frac_signed_times.f (a0_0 : Bool) (a0_1 : Int) (a0_2 : Int) (a1_0 : Bool) (a1_1 : Int) (a1_2 : Int) : Option (Bool × Int × Int) := (frac_multiply.f a0_2 a1_2).bind fun bt205 => (some ((a0_0 != a1_0), bt205.1, bt205.2))
/-! ### frac_Div: function 35 -/
def frac_Div.f (k : Nat) (a0_0 : Int) (a0_1 : Int) (a1_0 : Int) (a1_1 : Int) : Option (Int × Int × Int) := (frac_norm.f k a0_0 a0_1).bind fun bt210 => ((frac_norm.f k a1_0 a1_1).bind fun bt212 => (if bt212.1 = 0 then (some (0, 0, 3)) else ((frac_sized.f bt210.1).bind fun bt214 => ((frac_sized.f bt212.2).bind fun bt217 => ((frac_signed_times.f bt214.1 bt214.2.1 bt214.2.2 bt217.1 bt217.2.1 bt217.2.2).bind fun bt220 => ((frac_sized.f bt210.2).bind fun bt223 => ((frac_sized.f bt212.1).bind fun bt226 => ((frac_signed_times.f bt223.1 bt223.2.1 bt223.2.2 bt226.1 bt226.2.1 bt226.2.2).bind fun bt229 => ((frac_reduced.f k bt220.1 bt220.2.1 bt220.2.2 bt229.1 bt229.2.1 bt229.2.2).bind fun bt232 => (some (bt232.1, bt232.2.1, bt232.2.2)))))))))))
theorem frac_Div.mono : ∀ a0 a1 a2 a3 k, LeO (frac_Div.f k a0 a1 a2 a3) (frac_Div.f (k + 1) a0 a1 a2 a3) := by
  intro a0 a1 a2 a3 k
  unfold frac_Div.f
  repeat' first
      | (with_reducible exact frac_norm.mono _ _ _)
      | (with_reducible exact frac_reduced.mono _ _ _ _ _ _ _)
      | (with_reducible exact LeO.refl _)
      | (with_reducible exact LeO.none _)
      | (with_reducible refine LeO.ite ?_ ?_)
      | (with_reducible refine LeO.bind ?_ (fun _ => ?_))
      | exact frac_norm.mono _ _ _
      | exact frac_reduced.mono _ _ _ _ _ _ _
      | exact LeO.none _
      | refine LeO.ite ?_ ?_
      | refine LeO.bind ?_ (fun _ => ?_)
/-! ### whole_Sub: function 93 -/
def whole_Sub.f (a0 : Int) (a1 : Int) : Option (Int × Int) := if ((decide ((wrap64 (a0 - a1)) > a0)) != (decide (a1 < 0))) = true then (some (0, 2)) else (some (wrap64 (a0 - a1), 0))
/-! ### whole_Neg: function 71 -/
def whole_Neg.f (a0 : Int) : Option (Int × Int) := (whole_Sub.f 0 a0).bind fun bt235 => (some (bt235.1, bt235.2))
/-! ### whole_Ceil: function 41 -/
def whole_Ceil.f (a0 : Int) (a1 : Int) : Option (Int × Int) := if a1 = 0 then (some (0, 3)) else (if a1 = (-1) then ((whole_Neg.f a0).bind fun bt237 => (some (bt237.1, bt237.2))) else (if (Int.tmod a0 a1) = 0 then (some (wrap64 (Int.tdiv a0 a1), 0)) else (if ((decide ((Int.tmod a0 a1) < 0)) == (decide (a1 < 0))) = true then (some (wrap64 ((wrap64 (Int.tdiv a0 a1)) + 1), 0)) else (some (wrap64 (Int.tdiv a0 a1), 0)))))
/-! ### frac_Ceil: function 36 -/
def frac_Ceil.f (k : Nat) (a0_0 : Int) (a0_1 : Int) : Option (Int) := (frac_norm.f k a0_0 a0_1).bind fun bt240 => ((whole_Ceil.f bt240.1 bt240.2).bind fun bt242 => (some bt242.1))
theorem frac_Ceil.mono : ∀ a0 a1 k, LeO (frac_Ceil.f k a0 a1) (frac_Ceil.f (k + 1) a0 a1) := by
  intro a0 a1 k
  unfold frac_Ceil.f
  repeat' first
      | (with_reducible exact frac_norm.mono _ _ _)
      | (with_reducible exact LeO.refl _)
      | (with_reducible exact LeO.none _)
      | (with_reducible refine LeO.ite ?_ ?_)
      | (with_reducible refine LeO.bind ?_ (fun _ => ?_))
      | exact frac_norm.mono _ _ _
      | exact LeO.none _
      | refine LeO.ite ?_ ?_
      | refine LeO.bind ?_ (fun _ => ?_)
/-! ### webster_Cycle: function 10 -/
def webster_Cycle.j0 : Nat → Int → Bool → Int → Int → Option (Int × Bool × Int)
  | 0, _, _, _, _ => none
  | k + 1, x0, x26, x245000, x245001 => if x26 = true then (some (0, false, 1)) else (if x245000 ≥ x245001 then (some (0, false, 0)) else ((frac_Of.f k (wrap64 (x245001 - x245000)) x245001).bind fun bt246 => (if bt246.2.2 = 0 then ((frac_Of.f k (wrap64 ((wrap64 (3 * x0)) + 100)) 2).bind fun bt250 => (if bt250.2.2 = 0 then ((frac_Div.f k bt250.1 bt250.2.1 bt246.1 bt246.2.1).bind fun bt254 => (if bt254.2.2 = 0 then ((frac_Ceil.f k bt254.1 bt254.2.1).bind fun t258 => (some (t258, true, 0))) else (some (0, false, bt254.2.2)))) else (some (0, false, bt250.2.2)))) else (some (0, false, bt246.2.2)))))
def webster_Cycle.f (k : Nat) (a0 : Int) (a1_0 : Int) (a1_1 : Int) : Option (Int × Bool × Int) := if a0 < 0 then (webster_Cycle.j0 k a0 true a1_0 a1_1) else (if a0 > 600000 then (webster_Cycle.j0 k a0 true a1_0 a1_1) else ((frac_Right.f k a1_0 a1_1).bind fun t245 => (if t245 = true then (webster_Cycle.j0 k a0 (decide (a1_0 < 0)) a1_0 a1_1) else (webster_Cycle.j0 k a0 true a1_0 a1_1))))
theorem webster_Cycle.mono_l : ∀ k, (∀ y0 y1 y2 y3, LeO (webster_Cycle.j0 k y0 y1 y2 y3) (webster_Cycle.j0 (k + 1) y0 y1 y2 y3))
  | 0 => fun _ _ _ _ r h => by simp [webster_Cycle.j0] at h
  | k + 1 => by
    have ih0 := webster_Cycle.mono_l k
    · intro y0 y1 y2 y3
      unfold webster_Cycle.j0
      repeat' first
      | (with_reducible exact ih0 _ _ _ _)
      | (with_reducible exact frac_Ceil.mono _ _ _)
      | (with_reducible exact frac_Div.mono _ _ _ _ _)
      | (with_reducible exact frac_Of.mono _ _ _)
      | (with_reducible exact frac_Right.mono _ _ _)
      | (with_reducible exact LeO.refl _)
      | (with_reducible exact LeO.none _)
      | (with_reducible refine LeO.ite ?_ ?_)
      | (with_reducible refine LeO.bind ?_ (fun _ => ?_))
      | exact ih0 _ _ _ _
      | exact frac_Ceil.mono _ _ _
      | exact frac_Div.mono _ _ _ _ _
      | exact frac_Of.mono _ _ _
      | exact frac_Right.mono _ _ _
      | exact LeO.none _
      | refine LeO.ite ?_ ?_
      | refine LeO.bind ?_ (fun _ => ?_)
theorem webster_Cycle.mono : ∀ a0 a1 a2 k, LeO (webster_Cycle.f k a0 a1 a2) (webster_Cycle.f (k + 1) a0 a1 a2) := by
  intro a0 a1 a2 k
  have ih0 := webster_Cycle.mono_l k
  unfold webster_Cycle.f
  repeat' first
      | (with_reducible exact ih0 _ _ _ _)
      | (with_reducible exact frac_Ceil.mono _ _ _)
      | (with_reducible exact frac_Div.mono _ _ _ _ _)
      | (with_reducible exact frac_Of.mono _ _ _)
      | (with_reducible exact frac_Right.mono _ _ _)
      | (with_reducible exact LeO.refl _)
      | (with_reducible exact LeO.none _)
      | (with_reducible refine LeO.ite ?_ ?_)
      | (with_reducible refine LeO.bind ?_ (fun _ => ?_))
      | exact ih0 _ _ _ _
      | exact frac_Ceil.mono _ _ _
      | exact frac_Div.mono _ _ _ _ _
      | exact frac_Of.mono _ _ _
      | exact frac_Right.mono _ _ _
      | exact LeO.none _
      | refine LeO.ite ?_ ?_
      | refine LeO.bind ?_ (fun _ => ?_)
/-! ### carrefourref01_Size: function 42 -/
def carrefourref01_Size.f (a0 : Int) : Option (Int) := if a0 < 0 then (some (IntKind.u64.wrap (-(IntKind.u64.wrap (a0))))) else (some (IntKind.u64.wrap (a0)))
/-! ### carrefourref02_gcd: function 43 -/
def carrefourref02_gcd.l0 : Nat → Int → Int → Option (Int)
  | 0, _, _ => none
  | k + 1, x0, x1 => if x1 = 0 then (some x0) else (carrefourref02_gcd.l0 k x1 (Int.tmod x0 x1))
def carrefourref02_gcd.f (k : Nat) (a0 : Int) (a1 : Int) : Option (Int) := carrefourref02_gcd.l0 k a0 a1
theorem carrefourref02_gcd.mono_l : ∀ k, (∀ y0 y1, LeO (carrefourref02_gcd.l0 k y0 y1) (carrefourref02_gcd.l0 (k + 1) y0 y1))
  | 0 => fun _ _ r h => by simp [carrefourref02_gcd.l0] at h
  | k + 1 => by
    have ih0 := carrefourref02_gcd.mono_l k
    · intro y0 y1
      unfold carrefourref02_gcd.l0
      repeat' first
      | (with_reducible exact ih0 _ _)
      | (with_reducible exact LeO.refl _)
      | (with_reducible exact LeO.none _)
      | (with_reducible refine LeO.ite ?_ ?_)
      | (with_reducible refine LeO.bind ?_ (fun _ => ?_))
      | exact ih0 _ _
      | exact LeO.none _
      | refine LeO.ite ?_ ?_
      | refine LeO.bind ?_ (fun _ => ?_)
theorem carrefourref02_gcd.mono : ∀ a0 a1 k, LeO (carrefourref02_gcd.f k a0 a1) (carrefourref02_gcd.f (k + 1) a0 a1) := by
  intro a0 a1 k
  have ih0 := carrefourref02_gcd.mono_l k
  unfold carrefourref02_gcd.f
  repeat' first
      | (with_reducible exact ih0 _ _)
      | (with_reducible exact LeO.refl _)
      | (with_reducible exact LeO.none _)
      | (with_reducible refine LeO.ite ?_ ?_)
      | (with_reducible refine LeO.bind ?_ (fun _ => ?_))
      | exact ih0 _ _
      | exact LeO.none _
      | refine LeO.ite ?_ ?_
      | refine LeO.bind ?_ (fun _ => ?_)
/-! ### carrefourref01_Signed: function 72 -/
def carrefourref01_Signed.j0 : Nat → Int → Bool → Bool → Option (Int × Int)
  | 0, _, _, _ => none
  | k + 1, x0, x1, x10 => if x10 = true then (some ((-9223372036854775808), 0)) else (if x0 > 9223372036854775807 then (some (0, 2)) else (if x1 = true then (some (wrap64 (-(wrap64 (x0))), 0)) else (some (wrap64 (x0), 0))))
def carrefourref01_Signed.f (k : Nat) (a0 : Int) (a1 : Bool) : Option (Int × Int) := if a0 = 9223372036854775808 then (carrefourref01_Signed.j0 k a0 a1 a1) else (carrefourref01_Signed.j0 k a0 a1 false)
theorem carrefourref01_Signed.mono_l : ∀ k, (∀ y0 y1 y2, LeO (carrefourref01_Signed.j0 k y0 y1 y2) (carrefourref01_Signed.j0 (k + 1) y0 y1 y2))
  | 0 => fun _ _ _ r h => by simp [carrefourref01_Signed.j0] at h
  | k + 1 => by
    have ih0 := carrefourref01_Signed.mono_l k
    · intro y0 y1 y2
      unfold carrefourref01_Signed.j0
      repeat' first
      | (with_reducible exact ih0 _ _ _)
      | (with_reducible exact LeO.refl _)
      | (with_reducible exact LeO.none _)
      | (with_reducible refine LeO.ite ?_ ?_)
      | (with_reducible refine LeO.bind ?_ (fun _ => ?_))
      | exact ih0 _ _ _
      | exact LeO.none _
      | refine LeO.ite ?_ ?_
      | refine LeO.bind ?_ (fun _ => ?_)
theorem carrefourref01_Signed.mono : ∀ a0 a1 k, LeO (carrefourref01_Signed.f k a0 a1) (carrefourref01_Signed.f (k + 1) a0 a1) := by
  intro a0 a1 k
  have ih0 := carrefourref01_Signed.mono_l k
  unfold carrefourref01_Signed.f
  repeat' first
      | (with_reducible exact ih0 _ _ _)
      | (with_reducible exact LeO.refl _)
      | (with_reducible exact LeO.none _)
      | (with_reducible refine LeO.ite ?_ ?_)
      | (with_reducible refine LeO.bind ?_ (fun _ => ?_))
      | exact ih0 _ _ _
      | exact LeO.none _
      | refine LeO.ite ?_ ?_
      | refine LeO.bind ?_ (fun _ => ?_)
/-! ### carrefourref02_made: function 44 -/
def carrefourref02_made.f (k : Nat) (a0 : Int) (a1 : Int) (a2 : Bool) : Option (Int × Int × Int) := (carrefourref01_Signed.f k a0 a2).bind fun bt260 => ((carrefourref01_Signed.f k a1 false).bind fun bt262 => (if bt260.2 = 0 then (if bt262.2 = 0 then (some (bt260.1, bt262.1, 0)) else (some (0, 0, 2))) else (some (0, 0, 2))))
theorem carrefourref02_made.mono : ∀ a0 a1 a2 k, LeO (carrefourref02_made.f k a0 a1 a2) (carrefourref02_made.f (k + 1) a0 a1 a2) := by
  intro a0 a1 a2 k
  unfold carrefourref02_made.f
  repeat' first
      | (with_reducible exact carrefourref01_Signed.mono _ _ _)
      | (with_reducible exact LeO.refl _)
      | (with_reducible exact LeO.none _)
      | (with_reducible refine LeO.ite ?_ ?_)
      | (with_reducible refine LeO.bind ?_ (fun _ => ?_))
      | exact carrefourref01_Signed.mono _ _ _
      | exact LeO.none _
      | refine LeO.ite ?_ ?_
      | refine LeO.bind ?_ (fun _ => ?_)
/-! ### carrefourref02_Of: function 17 -/
def carrefourref02_Of.f (k : Nat) (a0 : Int) (a1 : Int) : Option (Int × Int × Int) := if a1 = 0 then (some (0, 0, 3)) else ((carrefourref01_Size.f a0).bind fun t265 => ((carrefourref01_Size.f a1).bind fun t266 => ((carrefourref02_gcd.f k t265 t266).bind fun t267 => (if t267 = 0 then (none) else (if a0 = 0 then ((carrefourref02_made.f k (IntKind.u64.wrap (Int.tdiv t265 t267)) (IntKind.u64.wrap (Int.tdiv t266 t267)) false).bind fun bt268 => (some (bt268.1, bt268.2.1, bt268.2.2))) else ((carrefourref02_made.f k (IntKind.u64.wrap (Int.tdiv t265 t267)) (IntKind.u64.wrap (Int.tdiv t266 t267)) ((decide (a0 < 0)) != (decide (a1 < 0)))).bind fun bt271 => (some (bt271.1, bt271.2.1, bt271.2.2))))))))
theorem carrefourref02_Of.mono : ∀ a0 a1 k, LeO (carrefourref02_Of.f k a0 a1) (carrefourref02_Of.f (k + 1) a0 a1) := by
  intro a0 a1 k
  unfold carrefourref02_Of.f
  repeat' first
      | (with_reducible exact carrefourref02_gcd.mono _ _ _)
      | (with_reducible exact carrefourref02_made.mono _ _ _ _)
      | (with_reducible exact LeO.refl _)
      | (with_reducible exact LeO.none _)
      | (with_reducible refine LeO.ite ?_ ?_)
      | (with_reducible refine LeO.bind ?_ (fun _ => ?_))
      | exact carrefourref02_gcd.mono _ _ _
      | exact carrefourref02_made.mono _ _ _ _
      | exact LeO.none _
      | refine LeO.ite ?_ ?_
      | refine LeO.bind ?_ (fun _ => ?_)
/-! ### carrefourref02_Right: function 31 -/
def carrefourref02_Right.f (k : Nat) (a0_0 : Int) (a0_1 : Int) : Option (Bool) := if a0_1 ≥ 1 then ((carrefourref01_Size.f a0_0).bind fun t275 => ((carrefourref02_gcd.f k t275 (IntKind.u64.wrap (a0_1))).bind fun t276 => (some (t276 == 1)))) else (some false)
theorem carrefourref02_Right.mono : ∀ a0 a1 k, LeO (carrefourref02_Right.f k a0 a1) (carrefourref02_Right.f (k + 1) a0 a1) := by
  intro a0 a1 k
  unfold carrefourref02_Right.f
  repeat' first
      | (with_reducible exact carrefourref02_gcd.mono _ _ _)
      | (with_reducible exact LeO.refl _)
      | (with_reducible exact LeO.none _)
      | (with_reducible refine LeO.ite ?_ ?_)
      | (with_reducible refine LeO.bind ?_ (fun _ => ?_))
      | exact carrefourref02_gcd.mono _ _ _
      | exact LeO.none _
      | refine LeO.ite ?_ ?_
      | refine LeO.bind ?_ (fun _ => ?_)
/-! ### carrefourref02_Norm: function 45 -/
def carrefourref02_Norm.f (k : Nat) (a0_0 : Int) (a0_1 : Int) : Option (Int × Int) := (carrefourref02_Right.f k a0_0 a0_1).bind fun t279 => (if t279 = true then (some (a0_0, a0_1)) else (some (0, 1)))
theorem carrefourref02_Norm.mono : ∀ a0 a1 k, LeO (carrefourref02_Norm.f k a0 a1) (carrefourref02_Norm.f (k + 1) a0 a1) := by
  intro a0 a1 k
  unfold carrefourref02_Norm.f
  repeat' first
      | (with_reducible exact carrefourref02_Right.mono _ _ _)
      | (with_reducible exact LeO.refl _)
      | (with_reducible exact LeO.none _)
      | (with_reducible refine LeO.ite ?_ ?_)
      | (with_reducible refine LeO.bind ?_ (fun _ => ?_))
      | exact carrefourref02_Right.mono _ _ _
      | exact LeO.none _
      | refine LeO.ite ?_ ?_
      | refine LeO.bind ?_ (fun _ => ?_)
/-! ### carrefourref01_Plus: function 60 -/
mutual
def carrefourref01_Plus.l0 : Nat → List Int → List Int → List Int → Int → Int → Option (List Int)
  | 0, _, _, _, _, _ => none
  | k + 1, x0, x1, x5, x6, x7 => if x7 < (x0.length : Int) then (carrefourref01_Plus.j1 k x0 x1 x5 x6 x7 true) else (if x7 < (x1.length : Int) then (carrefourref01_Plus.j1 k x0 x1 x5 x6 x7 true) else (carrefourref01_Plus.j1 k x0 x1 x5 x6 x7 (decide (x6 > 0))))
def carrefourref01_Plus.j1 : Nat → List Int → List Int → List Int → Int → Int → Bool → Option (List Int)
  | 0, _, _, _, _, _, _ => none
  | k + 1, x0, x1, x5, x6, x7, x22 => if x22 = true then (if x7 < (x0.length : Int) then (if 0 ≤ x7 then (if x7 < (x1.length : Int) then (if x5.length < 17592186044416 then (carrefourref01_Plus.l0 k x0 x1 (x5 ++ [Int.tmod (IntKind.u64.wrap ((IntKind.u64.wrap (x6 + (rd x0 x7))) + (rd x1 x7))) 65536]) (IntKind.u64.wrap (Int.tdiv (IntKind.u64.wrap ((IntKind.u64.wrap (x6 + (rd x0 x7))) + (rd x1 x7))) 65536)) (wrap64 (x7 + 1))) else (none)) else (if x5.length < 17592186044416 then (carrefourref01_Plus.l0 k x0 x1 (x5 ++ [Int.tmod (IntKind.u64.wrap (x6 + (rd x0 x7))) 65536]) (IntKind.u64.wrap (Int.tdiv (IntKind.u64.wrap (x6 + (rd x0 x7))) 65536)) (wrap64 (x7 + 1))) else (none))) else (none)) else (if x7 < (x1.length : Int) then (if 0 ≤ x7 then (if x5.length < 17592186044416 then (carrefourref01_Plus.l0 k x0 x1 (x5 ++ [Int.tmod (IntKind.u64.wrap (x6 + (rd x1 x7))) 65536]) (IntKind.u64.wrap (Int.tdiv (IntKind.u64.wrap (x6 + (rd x1 x7))) 65536)) (wrap64 (x7 + 1))) else (none)) else (none)) else (if x5.length < 17592186044416 then (carrefourref01_Plus.l0 k x0 x1 (x5 ++ [Int.tmod x6 65536]) (IntKind.u64.wrap (Int.tdiv x6 65536)) (wrap64 (x7 + 1))) else (none)))) else (some x5)
end
def carrefourref01_Plus.f (k : Nat) (l0 : List Int) (l1 : List Int) : Option (List Int) := carrefourref01_Plus.l0 k l0 l1 ([] : List Int) 0 0
theorem carrefourref01_Plus.mono_l : ∀ k, (∀ y0 y1 y2 y3 y4, LeO (carrefourref01_Plus.l0 k y0 y1 y2 y3 y4) (carrefourref01_Plus.l0 (k + 1) y0 y1 y2 y3 y4)) ∧ (∀ y0 y1 y2 y3 y4 y5, LeO (carrefourref01_Plus.j1 k y0 y1 y2 y3 y4 y5) (carrefourref01_Plus.j1 (k + 1) y0 y1 y2 y3 y4 y5))
  | 0 => ⟨fun _ _ _ _ _ r h => by simp [carrefourref01_Plus.l0] at h, fun _ _ _ _ _ _ r h => by simp [carrefourref01_Plus.j1] at h⟩
  | k + 1 => by
    obtain ⟨ih0, ih1⟩ := carrefourref01_Plus.mono_l k
    refine ⟨?_, ?_⟩
    · intro y0 y1 y2 y3 y4
      unfold carrefourref01_Plus.l0
      repeat' first
      | (with_reducible exact ih0 _ _ _ _ _)
      | (with_reducible exact ih1 _ _ _ _ _ _)
      | (with_reducible exact LeO.refl _)
      | (with_reducible exact LeO.none _)
      | (with_reducible refine LeO.ite ?_ ?_)
      | (with_reducible refine LeO.bind ?_ (fun _ => ?_))
      | exact ih0 _ _ _ _ _
      | exact ih1 _ _ _ _ _ _
      | exact LeO.none _
      | refine LeO.ite ?_ ?_
      | refine LeO.bind ?_ (fun _ => ?_)
    · intro y0 y1 y2 y3 y4 y5
      unfold carrefourref01_Plus.j1
      repeat' first
      | (with_reducible exact ih0 _ _ _ _ _)
      | (with_reducible exact ih1 _ _ _ _ _ _)
      | (with_reducible exact LeO.refl _)
      | (with_reducible exact LeO.none _)
      | (with_reducible refine LeO.ite ?_ ?_)
      | (with_reducible refine LeO.bind ?_ (fun _ => ?_))
      | exact ih0 _ _ _ _ _
      | exact ih1 _ _ _ _ _ _
      | exact LeO.none _
      | refine LeO.ite ?_ ?_
      | refine LeO.bind ?_ (fun _ => ?_)
theorem carrefourref01_Plus.mono : ∀ a0 a1 k, LeO (carrefourref01_Plus.f k a0 a1) (carrefourref01_Plus.f (k + 1) a0 a1) := by
  intro a0 a1 k
  obtain ⟨ih0, ih1⟩ := carrefourref01_Plus.mono_l k
  unfold carrefourref01_Plus.f
  repeat' first
      | (with_reducible exact ih0 _ _ _ _ _)
      | (with_reducible exact ih1 _ _ _ _ _ _)
      | (with_reducible exact LeO.refl _)
      | (with_reducible exact LeO.none _)
      | (with_reducible refine LeO.ite ?_ ?_)
      | (with_reducible refine LeO.bind ?_ (fun _ => ?_))
      | exact ih0 _ _ _ _ _
      | exact ih1 _ _ _ _ _ _
      | exact LeO.none _
      | refine LeO.ite ?_ ?_
      | refine LeO.bind ?_ (fun _ => ?_)
/-! ### carrefourref01_Parts: function 73 -/
def carrefourref01_Parts.l0 : Nat → Int → List Int → Int → Option (List Int)
  | 0, _, _, _ => none
  | k + 1, x0, x3, x4 => if x4 < 4 then (if x3.length < 17592186044416 then (carrefourref01_Parts.l0 k (IntKind.u64.wrap (Int.tdiv x0 65536)) (x3 ++ [Int.tmod x0 65536]) (wrap64 (x4 + 1))) else (none)) else (some x3)
def carrefourref01_Parts.f (k : Nat) (a0 : Int) : Option (List Int) := carrefourref01_Parts.l0 k a0 ([] : List Int) 0
theorem carrefourref01_Parts.mono_l : ∀ k, (∀ y0 y1 y2, LeO (carrefourref01_Parts.l0 k y0 y1 y2) (carrefourref01_Parts.l0 (k + 1) y0 y1 y2))
  | 0 => fun _ _ _ r h => by simp [carrefourref01_Parts.l0] at h
  | k + 1 => by
    have ih0 := carrefourref01_Parts.mono_l k
    · intro y0 y1 y2
      unfold carrefourref01_Parts.l0
      repeat' first
      | (with_reducible exact ih0 _ _ _)
      | (with_reducible exact LeO.refl _)
      | (with_reducible exact LeO.none _)
      | (with_reducible refine LeO.ite ?_ ?_)
      | (with_reducible refine LeO.bind ?_ (fun _ => ?_))
      | exact ih0 _ _ _
      | exact LeO.none _
      | refine LeO.ite ?_ ?_
      | refine LeO.bind ?_ (fun _ => ?_)
theorem carrefourref01_Parts.mono : ∀ a0 k, LeO (carrefourref01_Parts.f k a0) (carrefourref01_Parts.f (k + 1) a0) := by
  intro a0 k
  have ih0 := carrefourref01_Parts.mono_l k
  unfold carrefourref01_Parts.f
  repeat' first
      | (with_reducible exact ih0 _ _ _)
      | (with_reducible exact LeO.refl _)
      | (with_reducible exact LeO.none _)
      | (with_reducible refine LeO.ite ?_ ?_)
      | (with_reducible refine LeO.bind ?_ (fun _ => ?_))
      | exact ih0 _ _ _
      | exact LeO.none _
      | refine LeO.ite ?_ ?_
      | refine LeO.bind ?_ (fun _ => ?_)
/-! ### carrefourref01_Times: function 48 -/
mutual
def carrefourref01_Times.l0 : Nat → List Int → List Int → List Int → Int → Option (List Int)
  | 0, _, _, _, _ => none
  | k + 1, x5, x6, x7, x8 => if x8 < 4 then (if 0 ≤ x8 then (if (x8 : Int).toNat ≤ 35184372088832 then (carrefourref01_Times.l1 k x5 x6 x7 x8 (List.replicate (x8 : Int).toNat 0) 0 0) else (none)) else (none)) else (some x7)
def carrefourref01_Times.l1 : Nat → List Int → List Int → List Int → Int → List Int → Int → Int → Option (List Int)
  | 0, _, _, _, _, _, _, _ => none
  | k + 1, x5, x6, x7, x8, x9, x10, x11 => if x11 < 4 then (if 0 ≤ x8 then (if x8 < (x5.length : Int) then (if 0 ≤ x11 then (if x11 < (x6.length : Int) then (if x9.length < 17592186044416 then (carrefourref01_Times.l1 k x5 x6 x7 x8 (x9 ++ [Int.tmod (IntKind.u64.wrap ((IntKind.u64.wrap ((rd x5 x8) * (rd x6 x11))) + x10)) 65536]) (IntKind.u64.wrap (Int.tdiv (IntKind.u64.wrap ((IntKind.u64.wrap ((rd x5 x8) * (rd x6 x11))) + x10)) 65536)) (wrap64 (x11 + 1))) else (none)) else (none)) else (none)) else (none)) else (none)) else (if x9.length < 17592186044416 then ((carrefourref01_Plus.f k x7 (x9 ++ [x10])).bind fun t315 => (carrefourref01_Times.l0 k x5 x6 t315 (wrap64 (x8 + 1)))) else (none))
end
def carrefourref01_Times.f (k : Nat) (a0 : Int) (a1 : Int) : Option (List Int) := (carrefourref01_Parts.f k a0).bind fun t298 => ((carrefourref01_Parts.f k a1).bind fun t301 => (carrefourref01_Times.l0 k t298 t301 ([] : List Int) 0))
theorem carrefourref01_Times.mono_l : ∀ k, (∀ y0 y1 y2 y3, LeO (carrefourref01_Times.l0 k y0 y1 y2 y3) (carrefourref01_Times.l0 (k + 1) y0 y1 y2 y3)) ∧ (∀ y0 y1 y2 y3 y4 y5 y6, LeO (carrefourref01_Times.l1 k y0 y1 y2 y3 y4 y5 y6) (carrefourref01_Times.l1 (k + 1) y0 y1 y2 y3 y4 y5 y6))
  | 0 => ⟨fun _ _ _ _ r h => by simp [carrefourref01_Times.l0] at h, fun _ _ _ _ _ _ _ r h => by simp [carrefourref01_Times.l1] at h⟩
  | k + 1 => by
    obtain ⟨ih0, ih1⟩ := carrefourref01_Times.mono_l k
    refine ⟨?_, ?_⟩
    · intro y0 y1 y2 y3
      unfold carrefourref01_Times.l0
      repeat' first
      | (with_reducible exact ih0 _ _ _ _)
      | (with_reducible exact ih1 _ _ _ _ _ _ _)
      | (with_reducible exact carrefourref01_Parts.mono _ _)
      | (with_reducible exact carrefourref01_Plus.mono _ _ _)
      | (with_reducible exact LeO.refl _)
      | (with_reducible exact LeO.none _)
      | (with_reducible refine LeO.ite ?_ ?_)
      | (with_reducible refine LeO.bind ?_ (fun _ => ?_))
      | exact ih0 _ _ _ _
      | exact ih1 _ _ _ _ _ _ _
      | exact carrefourref01_Parts.mono _ _
      | exact carrefourref01_Plus.mono _ _ _
      | exact LeO.none _
      | refine LeO.ite ?_ ?_
      | refine LeO.bind ?_ (fun _ => ?_)
    · intro y0 y1 y2 y3 y4 y5 y6
      unfold carrefourref01_Times.l1
      repeat' first
      | (with_reducible exact ih0 _ _ _ _)
      | (with_reducible exact ih1 _ _ _ _ _ _ _)
      | (with_reducible exact carrefourref01_Parts.mono _ _)
      | (with_reducible exact carrefourref01_Plus.mono _ _ _)
      | (with_reducible exact LeO.refl _)
      | (with_reducible exact LeO.none _)
      | (with_reducible refine LeO.ite ?_ ?_)
      | (with_reducible refine LeO.bind ?_ (fun _ => ?_))
      | exact ih0 _ _ _ _
      | exact ih1 _ _ _ _ _ _ _
      | exact carrefourref01_Parts.mono _ _
      | exact carrefourref01_Plus.mono _ _ _
      | exact LeO.none _
      | refine LeO.ite ?_ ?_
      | refine LeO.bind ?_ (fun _ => ?_)
theorem carrefourref01_Times.mono : ∀ a0 a1 k, LeO (carrefourref01_Times.f k a0 a1) (carrefourref01_Times.f (k + 1) a0 a1) := by
  intro a0 a1 k
  obtain ⟨ih0, ih1⟩ := carrefourref01_Times.mono_l k
  unfold carrefourref01_Times.f
  repeat' first
      | (with_reducible exact ih0 _ _ _ _)
      | (with_reducible exact ih1 _ _ _ _ _ _ _)
      | (with_reducible exact carrefourref01_Parts.mono _ _)
      | (with_reducible exact carrefourref01_Plus.mono _ _ _)
      | (with_reducible exact LeO.refl _)
      | (with_reducible exact LeO.none _)
      | (with_reducible refine LeO.ite ?_ ?_)
      | (with_reducible refine LeO.bind ?_ (fun _ => ?_))
      | exact ih0 _ _ _ _
      | exact ih1 _ _ _ _ _ _ _
      | exact carrefourref01_Parts.mono _ _
      | exact carrefourref01_Plus.mono _ _ _
      | exact LeO.none _
      | refine LeO.ite ?_ ?_
      | refine LeO.bind ?_ (fun _ => ?_)
/-! ### carrefourref01_Order: function 61 -/
mutual
def carrefourref01_Order.l0 : Nat → List Int → List Int → Int → Option (Int)
  | 0, _, _, _ => none
  | k + 1, x0, x1, x6 => if x6 ≥ 0 then (if x6 < (x0.length : Int) then (if 0 ≤ x6 then (carrefourref01_Order.j1 k x0 x1 x6 (rd x0 x6) 0) else (none)) else (carrefourref01_Order.j1 k x0 x1 x6 0 0)) else (some 0)
def carrefourref01_Order.j1 : Nat → List Int → List Int → Int → Int → Int → Option (Int)
  | 0, _, _, _, _, _ => none
  | k + 1, x0, x1, x6, x7, x8 => if x6 < (x1.length : Int) then (if 0 ≤ x6 then (carrefourref01_Order.j2 k x0 x1 x6 x7 (rd x1 x6)) else (none)) else (carrefourref01_Order.j2 k x0 x1 x6 x7 x8)
def carrefourref01_Order.j2 : Nat → List Int → List Int → Int → Int → Int → Option (Int)
  | 0, _, _, _, _, _ => none
  | k + 1, x0, x1, x6, x7, x8 => if x7 < x8 then (some (-1)) else (if x7 > x8 then (some 1) else (carrefourref01_Order.l0 k x0 x1 (wrap64 (x6 - 1))))
end
def carrefourref01_Order.f (k : Nat) (l0 : List Int) (l1 : List Int) : Option (Int) := carrefourref01_Order.l0 k l0 l1 (wrap64 ((mx (l0.length : Int) (l1.length : Int)) - 1))
theorem carrefourref01_Order.mono_l : ∀ k, (∀ y0 y1 y2, LeO (carrefourref01_Order.l0 k y0 y1 y2) (carrefourref01_Order.l0 (k + 1) y0 y1 y2)) ∧ (∀ y0 y1 y2 y3 y4, LeO (carrefourref01_Order.j1 k y0 y1 y2 y3 y4) (carrefourref01_Order.j1 (k + 1) y0 y1 y2 y3 y4)) ∧ (∀ y0 y1 y2 y3 y4, LeO (carrefourref01_Order.j2 k y0 y1 y2 y3 y4) (carrefourref01_Order.j2 (k + 1) y0 y1 y2 y3 y4))
  | 0 => ⟨fun _ _ _ r h => by simp [carrefourref01_Order.l0] at h, fun _ _ _ _ _ r h => by simp [carrefourref01_Order.j1] at h, fun _ _ _ _ _ r h => by simp [carrefourref01_Order.j2] at h⟩
  | k + 1 => by
    obtain ⟨ih0, ih1, ih2⟩ := carrefourref01_Order.mono_l k
    refine ⟨?_, ?_, ?_⟩
    · intro y0 y1 y2
      unfold carrefourref01_Order.l0
      repeat' first
      | (with_reducible exact ih0 _ _ _)
      | (with_reducible exact ih1 _ _ _ _ _)
      | (with_reducible exact ih2 _ _ _ _ _)
      | (with_reducible exact LeO.refl _)
      | (with_reducible exact LeO.none _)
      | (with_reducible refine LeO.ite ?_ ?_)
      | (with_reducible refine LeO.bind ?_ (fun _ => ?_))
      | exact ih0 _ _ _
      | exact ih1 _ _ _ _ _
      | exact ih2 _ _ _ _ _
      | exact LeO.none _
      | refine LeO.ite ?_ ?_
      | refine LeO.bind ?_ (fun _ => ?_)
    · intro y0 y1 y2 y3 y4
      unfold carrefourref01_Order.j1
      repeat' first
      | (with_reducible exact ih0 _ _ _)
      | (with_reducible exact ih1 _ _ _ _ _)
      | (with_reducible exact ih2 _ _ _ _ _)
      | (with_reducible exact LeO.refl _)
      | (with_reducible exact LeO.none _)
      | (with_reducible refine LeO.ite ?_ ?_)
      | (with_reducible refine LeO.bind ?_ (fun _ => ?_))
      | exact ih0 _ _ _
      | exact ih1 _ _ _ _ _
      | exact ih2 _ _ _ _ _
      | exact LeO.none _
      | refine LeO.ite ?_ ?_
      | refine LeO.bind ?_ (fun _ => ?_)
    · intro y0 y1 y2 y3 y4
      unfold carrefourref01_Order.j2
      repeat' first
      | (with_reducible exact ih0 _ _ _)
      | (with_reducible exact ih1 _ _ _ _ _)
      | (with_reducible exact ih2 _ _ _ _ _)
      | (with_reducible exact LeO.refl _)
      | (with_reducible exact LeO.none _)
      | (with_reducible refine LeO.ite ?_ ?_)
      | (with_reducible refine LeO.bind ?_ (fun _ => ?_))
      | exact ih0 _ _ _
      | exact ih1 _ _ _ _ _
      | exact ih2 _ _ _ _ _
      | exact LeO.none _
      | refine LeO.ite ?_ ?_
      | refine LeO.bind ?_ (fun _ => ?_)
theorem carrefourref01_Order.mono : ∀ a0 a1 k, LeO (carrefourref01_Order.f k a0 a1) (carrefourref01_Order.f (k + 1) a0 a1) := by
  intro a0 a1 k
  obtain ⟨ih0, ih1, ih2⟩ := carrefourref01_Order.mono_l k
  unfold carrefourref01_Order.f
  repeat' first
      | (with_reducible exact ih0 _ _ _)
      | (with_reducible exact ih1 _ _ _ _ _)
      | (with_reducible exact ih2 _ _ _ _ _)
      | (with_reducible exact LeO.refl _)
      | (with_reducible exact LeO.none _)
      | (with_reducible refine LeO.ite ?_ ?_)
      | (with_reducible refine LeO.bind ?_ (fun _ => ?_))
      | exact ih0 _ _ _
      | exact ih1 _ _ _ _ _
      | exact ih2 _ _ _ _ _
      | exact LeO.none _
      | refine LeO.ite ?_ ?_
      | refine LeO.bind ?_ (fun _ => ?_)
/-! ### carrefourref01_sign: function 76 -/
def carrefourref01_sign.j0 : Nat → Int → Int → Bool → Option (Int)
  | 0, _, _, _ => none
  | k + 1, x0, x1, x10 => if x10 = true then (some 0) else (if ((decide (x0 < 0)) != (decide (x1 < 0))) = true then (some (-1)) else (some 1))
def carrefourref01_sign.f (k : Nat) (a0 : Int) (a1 : Int) : Option (Int) := if a0 = 0 then (carrefourref01_sign.j0 k a0 a1 true) else (carrefourref01_sign.j0 k a0 a1 (a1 == 0))
theorem carrefourref01_sign.mono_l : ∀ k, (∀ y0 y1 y2, LeO (carrefourref01_sign.j0 k y0 y1 y2) (carrefourref01_sign.j0 (k + 1) y0 y1 y2))
  | 0 => fun _ _ _ r h => by simp [carrefourref01_sign.j0] at h
  | k + 1 => by
    have ih0 := carrefourref01_sign.mono_l k
    · intro y0 y1 y2
      unfold carrefourref01_sign.j0
      repeat' first
      | (with_reducible exact ih0 _ _ _)
      | (with_reducible exact LeO.refl _)
      | (with_reducible exact LeO.none _)
      | (with_reducible refine LeO.ite ?_ ?_)
      | (with_reducible refine LeO.bind ?_ (fun _ => ?_))
      | exact ih0 _ _ _
      | exact LeO.none _
      | refine LeO.ite ?_ ?_
      | refine LeO.bind ?_ (fun _ => ?_)
theorem carrefourref01_sign.mono : ∀ a0 a1 k, LeO (carrefourref01_sign.f k a0 a1) (carrefourref01_sign.f (k + 1) a0 a1) := by
  intro a0 a1 k
  have ih0 := carrefourref01_sign.mono_l k
  unfold carrefourref01_sign.f
  repeat' first
      | (with_reducible exact ih0 _ _ _)
      | (with_reducible exact LeO.refl _)
      | (with_reducible exact LeO.none _)
      | (with_reducible refine LeO.ite ?_ ?_)
      | (with_reducible refine LeO.bind ?_ (fun _ => ?_))
      | exact ih0 _ _ _
      | exact LeO.none _
      | refine LeO.ite ?_ ?_
      | refine LeO.bind ?_ (fun _ => ?_)
/-! ### carrefourref01_Compare: function 50 -/
def carrefourref01_Compare.j0 : Nat → Int → Int → Int → Int → Int → Bool → Option (Int)
  | 0, _, _, _, _, _, _ => none
  | k + 1, x0, x1, x2, x3, x9, x40 => if x40 = true then (if (wrap64 (x0 * x1)) < (wrap64 (x2 * x3)) then (some (-1)) else (if (wrap64 (x0 * x1)) > (wrap64 (x2 * x3)) then (some 1) else (some 0))) else ((carrefourref01_Size.f x0).bind fun t326 => ((carrefourref01_Size.f x1).bind fun t327 => ((carrefourref01_Times.f k t326 t327).bind fun t328 => ((carrefourref01_Size.f x2).bind fun t331 => ((carrefourref01_Size.f x3).bind fun t332 => ((carrefourref01_Times.f k t331 t332).bind fun t333 => ((carrefourref01_Order.f k t328 t333).bind fun t336 => (some (wrap64 (x9 * t336))))))))))
def carrefourref01_Compare.f (k : Nat) (a0 : Int) (a1 : Int) (a2 : Int) (a3 : Int) : Option (Int) := (carrefourref01_sign.f k a0 a1).bind fun t320 => ((carrefourref01_sign.f k a2 a3).bind fun t321 => (if t320 < t321 then (some (-1)) else (if t320 > t321 then (some 1) else ((carrefourref01_Size.f a0).bind fun t322 => (if t322 < 2147483648 then ((carrefourref01_Size.f a1).bind fun t323 => (if t323 < 2147483648 then ((carrefourref01_Size.f a2).bind fun t324 => (if t324 < 2147483648 then ((carrefourref01_Size.f a3).bind fun t325 => (carrefourref01_Compare.j0 k a0 a1 a2 a3 t320 (decide (t325 < 2147483648)))) else (carrefourref01_Compare.j0 k a0 a1 a2 a3 t320 false))) else (carrefourref01_Compare.j0 k a0 a1 a2 a3 t320 false))) else (carrefourref01_Compare.j0 k a0 a1 a2 a3 t320 false))))))
theorem carrefourref01_Compare.mono_l : ∀ k, (∀ y0 y1 y2 y3 y4 y5, LeO (carrefourref01_Compare.j0 k y0 y1 y2 y3 y4 y5) (carrefourref01_Compare.j0 (k + 1) y0 y1 y2 y3 y4 y5))
  | 0 => fun _ _ _ _ _ _ r h => by simp [carrefourref01_Compare.j0] at h
  | k + 1 => by
    have ih0 := carrefourref01_Compare.mono_l k
    · intro y0 y1 y2 y3 y4 y5
      unfold carrefourref01_Compare.j0
      repeat' first
      | (with_reducible exact ih0 _ _ _ _ _ _)
      | (with_reducible exact carrefourref01_Order.mono _ _ _)
      | (with_reducible exact carrefourref01_Times.mono _ _ _)
      | (with_reducible exact carrefourref01_sign.mono _ _ _)
      | (with_reducible exact LeO.refl _)
      | (with_reducible exact LeO.none _)
      | (with_reducible refine LeO.ite ?_ ?_)
      | (with_reducible refine LeO.bind ?_ (fun _ => ?_))
      | exact ih0 _ _ _ _ _ _
      | exact carrefourref01_Order.mono _ _ _
      | exact carrefourref01_Times.mono _ _ _
      | exact carrefourref01_sign.mono _ _ _
      | exact LeO.none _
      | refine LeO.ite ?_ ?_
      | refine LeO.bind ?_ (fun _ => ?_)
theorem carrefourref01_Compare.mono : ∀ a0 a1 a2 a3 k, LeO (carrefourref01_Compare.f k a0 a1 a2 a3) (carrefourref01_Compare.f (k + 1) a0 a1 a2 a3) := by
  intro a0 a1 a2 a3 k
  have ih0 := carrefourref01_Compare.mono_l k
  unfold carrefourref01_Compare.f
  repeat' first
      | (with_reducible exact ih0 _ _ _ _ _ _)
      | (with_reducible exact carrefourref01_Order.mono _ _ _)
      | (with_reducible exact carrefourref01_Times.mono _ _ _)
      | (with_reducible exact carrefourref01_sign.mono _ _ _)
      | (with_reducible exact LeO.refl _)
      | (with_reducible exact LeO.none _)
      | (with_reducible refine LeO.ite ?_ ?_)
      | (with_reducible refine LeO.bind ?_ (fun _ => ?_))
      | exact ih0 _ _ _ _ _ _
      | exact carrefourref01_Order.mono _ _ _
      | exact carrefourref01_Times.mono _ _ _
      | exact carrefourref01_sign.mono _ _ _
      | exact LeO.none _
      | refine LeO.ite ?_ ?_
      | refine LeO.bind ?_ (fun _ => ?_)
/-! ### carrefourref02_Cmp: function 19 -/
def carrefourref02_Cmp.f (k : Nat) (a0_0 : Int) (a0_1 : Int) (a1_0 : Int) (a1_1 : Int) : Option (Int) := (carrefourref02_Norm.f k a0_0 a0_1).bind fun bt339 => ((carrefourref02_Norm.f k a1_0 a1_1).bind fun bt341 => ((carrefourref01_Compare.f k bt339.1 bt341.2 bt341.1 bt339.2).bind fun t343 => (some t343)))
theorem carrefourref02_Cmp.mono : ∀ a0 a1 a2 a3 k, LeO (carrefourref02_Cmp.f k a0 a1 a2 a3) (carrefourref02_Cmp.f (k + 1) a0 a1 a2 a3) := by
  intro a0 a1 a2 a3 k
  unfold carrefourref02_Cmp.f
  repeat' first
      | (with_reducible exact carrefourref01_Compare.mono _ _ _ _ _)
      | (with_reducible exact carrefourref02_Norm.mono _ _ _)
      | (with_reducible exact LeO.refl _)
      | (with_reducible exact LeO.none _)
      | (with_reducible refine LeO.ite ?_ ?_)
      | (with_reducible refine LeO.bind ?_ (fun _ => ?_))
      | exact carrefourref01_Compare.mono _ _ _ _ _
      | exact carrefourref02_Norm.mono _ _ _
      | exact LeO.none _
      | refine LeO.ite ?_ ?_
      | refine LeO.bind ?_ (fun _ => ?_)
/-! ### carrefourref02_few: function 46 -/
def carrefourref02_few.f (a0_0 : Int) (a0_1 : Int) (a1_0 : Int) (a1_1 : Int) : Option (Bool) := (carrefourref01_Size.f a0_0).bind fun t346 => (if t346 < 1073741824 then ((carrefourref01_Size.f a1_0).bind fun t347 => (if t347 < 1073741824 then (if a0_1 < 1073741824 then (some (decide (a1_1 < 1073741824))) else (some false)) else (some false))) else (some false))
/-! ### carrefourref02_trim: function 47 -/
def carrefourref02_trim.l0 : Nat → List Int → Int → Option (List Int)
  | 0, _, _ => none
  | k + 1, x0, x3 => if x3 > 0 then (if 0 ≤ (wrap64 (x3 - 1)) then (if (wrap64 (x3 - 1)) < (x0.length : Int) then (if (rd x0 (wrap64 (x3 - 1))) = 0 then (carrefourref02_trim.l0 k x0 (wrap64 (x3 - 1))) else ((some (([] : List Int) : List Int)).bind fun y349 => (if 0 ≤ x3 then (if x3 ≤ (x0.length : Int) then (if y349.length + (x0.take (x3 : Int).toNat).length < 17592186044416 then (some (y349 ++ (x0.take (x3 : Int).toNat))) else (none)) else (none)) else (none)))) else (none)) else (none)) else ((some (([] : List Int) : List Int)).bind fun y356 => (if 0 ≤ x3 then (if x3 ≤ (x0.length : Int) then (if y356.length + (x0.take (x3 : Int).toNat).length < 17592186044416 then (some (y356 ++ (x0.take (x3 : Int).toNat))) else (none)) else (none)) else (none)))
def carrefourref02_trim.f (k : Nat) (l0 : List Int) : Option (List Int) := carrefourref02_trim.l0 k l0 (l0.length : Int)
theorem carrefourref02_trim.mono_l : ∀ k, (∀ y0 y1, LeO (carrefourref02_trim.l0 k y0 y1) (carrefourref02_trim.l0 (k + 1) y0 y1))
  | 0 => fun _ _ r h => by simp [carrefourref02_trim.l0] at h
  | k + 1 => by
    have ih0 := carrefourref02_trim.mono_l k
    · intro y0 y1
      unfold carrefourref02_trim.l0
      repeat' first
      | (with_reducible exact ih0 _ _)
      | (with_reducible exact LeO.refl _)
      | (with_reducible exact LeO.none _)
      | (with_reducible refine LeO.ite ?_ ?_)
      | (with_reducible refine LeO.bind ?_ (fun _ => ?_))
      | exact ih0 _ _
      | exact LeO.none _
      | refine LeO.ite ?_ ?_
      | refine LeO.bind ?_ (fun _ => ?_)
theorem carrefourref02_trim.mono : ∀ a0 k, LeO (carrefourref02_trim.f k a0) (carrefourref02_trim.f (k + 1) a0) := by
  intro a0 k
  have ih0 := carrefourref02_trim.mono_l k
  unfold carrefourref02_trim.f
  repeat' first
      | (with_reducible exact ih0 _ _)
      | (with_reducible exact LeO.refl _)
      | (with_reducible exact LeO.none _)
      | (with_reducible refine LeO.ite ?_ ?_)
      | (with_reducible refine LeO.bind ?_ (fun _ => ?_))
      | exact ih0 _ _
      | exact LeO.none _
      | refine LeO.ite ?_ ?_
      | refine LeO.bind ?_ (fun _ => ?_)
/-! ### carrefourref01_Minus: function 62 -/
def carrefourref01_Minus.l0 : Nat → List Int → List Int → List Int → Int → Int → Option (List Int)
  | 0, _, _, _, _, _ => none
  | k + 1, x0, x1, x5, x6, x7 => if x7 < (x0.length : Int) then (if x7 < (x1.length : Int) then (if 0 ≤ x7 then (if (rd x0 x7) ≥ (IntKind.u64.wrap (x6 + (rd x1 x7))) then (if x5.length < 17592186044416 then (carrefourref01_Minus.l0 k x0 x1 (x5 ++ [IntKind.u64.wrap ((rd x0 x7) - (IntKind.u64.wrap (x6 + (rd x1 x7))))]) 0 (wrap64 (x7 + 1))) else (none)) else (if x5.length < 17592186044416 then (carrefourref01_Minus.l0 k x0 x1 (x5 ++ [IntKind.u64.wrap ((IntKind.u64.wrap ((rd x0 x7) + 65536)) - (IntKind.u64.wrap (x6 + (rd x1 x7))))]) 1 (wrap64 (x7 + 1))) else (none))) else (none)) else (if 0 ≤ x7 then (if (rd x0 x7) ≥ x6 then (if x5.length < 17592186044416 then (carrefourref01_Minus.l0 k x0 x1 (x5 ++ [IntKind.u64.wrap ((rd x0 x7) - x6)]) 0 (wrap64 (x7 + 1))) else (none)) else (if x5.length < 17592186044416 then (carrefourref01_Minus.l0 k x0 x1 (x5 ++ [IntKind.u64.wrap ((IntKind.u64.wrap ((rd x0 x7) + 65536)) - x6)]) 1 (wrap64 (x7 + 1))) else (none))) else (none))) else (some x5)
def carrefourref01_Minus.f (k : Nat) (l0 : List Int) (l1 : List Int) : Option (List Int) := carrefourref01_Minus.l0 k l0 l1 ([] : List Int) 0 0
theorem carrefourref01_Minus.mono_l : ∀ k, (∀ y0 y1 y2 y3 y4, LeO (carrefourref01_Minus.l0 k y0 y1 y2 y3 y4) (carrefourref01_Minus.l0 (k + 1) y0 y1 y2 y3 y4))
  | 0 => fun _ _ _ _ _ r h => by simp [carrefourref01_Minus.l0] at h
  | k + 1 => by
    have ih0 := carrefourref01_Minus.mono_l k
    · intro y0 y1 y2 y3 y4
      unfold carrefourref01_Minus.l0
      repeat' first
      | (with_reducible exact ih0 _ _ _ _ _)
      | (with_reducible exact LeO.refl _)
      | (with_reducible exact LeO.none _)
      | (with_reducible refine LeO.ite ?_ ?_)
      | (with_reducible refine LeO.bind ?_ (fun _ => ?_))
      | exact ih0 _ _ _ _ _
      | exact LeO.none _
      | refine LeO.ite ?_ ?_
      | refine LeO.bind ?_ (fun _ => ?_)
theorem carrefourref01_Minus.mono : ∀ a0 a1 k, LeO (carrefourref01_Minus.f k a0 a1) (carrefourref01_Minus.f (k + 1) a0 a1) := by
  intro a0 a1 k
  have ih0 := carrefourref01_Minus.mono_l k
  unfold carrefourref01_Minus.f
  repeat' first
      | (with_reducible exact ih0 _ _ _ _ _)
      | (with_reducible exact LeO.refl _)
      | (with_reducible exact LeO.none _)
      | (with_reducible refine LeO.ite ?_ ?_)
      | (with_reducible refine LeO.bind ?_ (fun _ => ?_))
      | exact ih0 _ _ _ _ _
      | exact LeO.none _
      | refine LeO.ite ?_ ?_
      | refine LeO.bind ?_ (fun _ => ?_)
/-! ### carrefourref02_twice: function 91 -/
def carrefourref02_twice.f (k : Nat) (l0 : List Int) : Option (List Int) := (carrefourref01_Plus.f k l0 l0).bind fun t382 => (some t382)
theorem carrefourref02_twice.mono : ∀ a0 k, LeO (carrefourref02_twice.f k a0) (carrefourref02_twice.f (k + 1) a0) := by
  intro a0 k
  unfold carrefourref02_twice.f
  repeat' first
      | (with_reducible exact carrefourref01_Plus.mono _ _ _)
      | (with_reducible exact LeO.refl _)
      | (with_reducible exact LeO.none _)
      | (with_reducible refine LeO.ite ?_ ?_)
      | (with_reducible refine LeO.bind ?_ (fun _ => ?_))
      | exact carrefourref01_Plus.mono _ _ _
      | exact LeO.none _
      | refine LeO.ite ?_ ?_
      | refine LeO.bind ?_ (fun _ => ?_)
/-! ### carrefourref02_rest: function 74 -/
mutual
def carrefourref02_rest.l0 : Nat → List Int → List (List Int) → List Int → Option (List Int)
  | 0, _, _, _ => none
  | k + 1, x0, x5, x6 => (carrefourref01_Order.f k x6 x0).bind fun t385 => (if t385 ≤ 0 then (if x5.length < 5864062014805 then ((carrefourref02_twice.f k x6).bind fun t389 => (carrefourref02_rest.l0 k x0 (x5 ++ [x6]) t389)) else (none)) else (carrefourref02_rest.l1 k x0 x5 (wrap64 ((x5.length : Int) - 1))))
def carrefourref02_rest.l1 : Nat → List Int → List (List Int) → Int → Option (List Int)
  | 0, _, _, _ => none
  | k + 1, x0, x5, x7 => if x7 ≥ 0 then (if 0 ≤ x7 then (if x7 < (x5.length : Int) then ((carrefourref01_Order.f k (rd_L1 x5 x7) x0).bind fun t393 => (if t393 ≤ 0 then ((carrefourref01_Minus.f k x0 (rd_L1 x5 x7)).bind fun t395 => ((carrefourref02_trim.f k t395).bind fun t398 => (carrefourref02_rest.l1 k t398 x5 (wrap64 (x7 - 1))))) else (carrefourref02_rest.l1 k x0 x5 (wrap64 (x7 - 1))))) else (none)) else (none)) else (some x0)
end
def carrefourref02_rest.f (k : Nat) (l0 : List Int) (l1 : List Int) : Option (List Int) := carrefourref02_rest.l0 k l0 ([] : List (List Int)) l1
theorem carrefourref02_rest.mono_l : ∀ k, (∀ y0 y1 y2, LeO (carrefourref02_rest.l0 k y0 y1 y2) (carrefourref02_rest.l0 (k + 1) y0 y1 y2)) ∧ (∀ y0 y1 y2, LeO (carrefourref02_rest.l1 k y0 y1 y2) (carrefourref02_rest.l1 (k + 1) y0 y1 y2))
  | 0 => ⟨fun _ _ _ r h => by simp [carrefourref02_rest.l0] at h, fun _ _ _ r h => by simp [carrefourref02_rest.l1] at h⟩
  | k + 1 => by
    obtain ⟨ih0, ih1⟩ := carrefourref02_rest.mono_l k
    refine ⟨?_, ?_⟩
    · intro y0 y1 y2
      unfold carrefourref02_rest.l0
      repeat' first
      | (with_reducible exact ih0 _ _ _)
      | (with_reducible exact ih1 _ _ _)
      | (with_reducible exact carrefourref01_Minus.mono _ _ _)
      | (with_reducible exact carrefourref01_Order.mono _ _ _)
      | (with_reducible exact carrefourref02_trim.mono _ _)
      | (with_reducible exact carrefourref02_twice.mono _ _)
      | (with_reducible exact LeO.refl _)
      | (with_reducible exact LeO.none _)
      | (with_reducible refine LeO.ite ?_ ?_)
      | (with_reducible refine LeO.bind ?_ (fun _ => ?_))
      | exact ih0 _ _ _
      | exact ih1 _ _ _
      | exact carrefourref01_Minus.mono _ _ _
      | exact carrefourref01_Order.mono _ _ _
      | exact carrefourref02_trim.mono _ _
      | exact carrefourref02_twice.mono _ _
      | exact LeO.none _
      | refine LeO.ite ?_ ?_
      | refine LeO.bind ?_ (fun _ => ?_)
    · intro y0 y1 y2
      unfold carrefourref02_rest.l1
      repeat' first
      | (with_reducible exact ih0 _ _ _)
      | (with_reducible exact ih1 _ _ _)
      | (with_reducible exact carrefourref01_Minus.mono _ _ _)
      | (with_reducible exact carrefourref01_Order.mono _ _ _)
      | (with_reducible exact carrefourref02_trim.mono _ _)
      | (with_reducible exact carrefourref02_twice.mono _ _)
      | (with_reducible exact LeO.refl _)
      | (with_reducible exact LeO.none _)
      | (with_reducible refine LeO.ite ?_ ?_)
      | (with_reducible refine LeO.bind ?_ (fun _ => ?_))
      | exact ih0 _ _ _
      | exact ih1 _ _ _
      | exact carrefourref01_Minus.mono _ _ _
      | exact carrefourref01_Order.mono _ _ _
      | exact carrefourref02_trim.mono _ _
      | exact carrefourref02_twice.mono _ _
      | exact LeO.none _
      | refine LeO.ite ?_ ?_
      | refine LeO.bind ?_ (fun _ => ?_)
theorem carrefourref02_rest.mono : ∀ a0 a1 k, LeO (carrefourref02_rest.f k a0 a1) (carrefourref02_rest.f (k + 1) a0 a1) := by
  intro a0 a1 k
  obtain ⟨ih0, ih1⟩ := carrefourref02_rest.mono_l k
  unfold carrefourref02_rest.f
  repeat' first
      | (with_reducible exact ih0 _ _ _)
      | (with_reducible exact ih1 _ _ _)
      | (with_reducible exact carrefourref01_Minus.mono _ _ _)
      | (with_reducible exact carrefourref01_Order.mono _ _ _)
      | (with_reducible exact carrefourref02_trim.mono _ _)
      | (with_reducible exact carrefourref02_twice.mono _ _)
      | (with_reducible exact LeO.refl _)
      | (with_reducible exact LeO.none _)
      | (with_reducible refine LeO.ite ?_ ?_)
      | (with_reducible refine LeO.bind ?_ (fun _ => ?_))
      | exact ih0 _ _ _
      | exact ih1 _ _ _
      | exact carrefourref01_Minus.mono _ _ _
      | exact carrefourref01_Order.mono _ _ _
      | exact carrefourref02_trim.mono _ _
      | exact carrefourref02_twice.mono _ _
      | exact LeO.none _
      | refine LeO.ite ?_ ?_
      | refine LeO.bind ?_ (fun _ => ?_)
/-! ### carrefourref02_divided: function 75 -/
mutual
def carrefourref02_divided.l0 : Nat → List Int → Int → List (List Int) → List Int → Option (Int × Bool)
  | 0, _, _, _, _ => none
  | k + 1, x0, x6, x7, x8 => (carrefourref01_Order.f k x8 x0).bind fun t401 => (if t401 ≤ 0 then (if x7.length < 5864062014805 then ((carrefourref02_twice.f k x8).bind fun t405 => (carrefourref02_divided.l0 k x0 x6 (x7 ++ [x8]) t405)) else (none)) else (if (x7.length : Int) > 64 then (some (0, false)) else (carrefourref02_divided.l1 k x0 x6 x7 (wrap64 ((x7.length : Int) - 1)))))
def carrefourref02_divided.l1 : Nat → List Int → Int → List (List Int) → Int → Option (Int × Bool)
  | 0, _, _, _, _ => none
  | k + 1, x0, x6, x7, x9 => if x9 ≥ 0 then (if 0 ≤ x9 then (if x9 < (x7.length : Int) then ((carrefourref01_Order.f k (rd_L1 x7 x9) x0).bind fun t409 => (if t409 ≤ 0 then ((carrefourref01_Minus.f k x0 (rd_L1 x7 x9)).bind fun t411 => ((carrefourref02_trim.f k t411).bind fun t414 => (carrefourref02_divided.l1 k t414 (IntKind.u64.wrap ((IntKind.u64.wrap (x6 * 2)) + 1)) x7 (wrap64 (x9 - 1))))) else (carrefourref02_divided.l1 k x0 (IntKind.u64.wrap (x6 * 2)) x7 (wrap64 (x9 - 1))))) else (none)) else (none)) else (some (x6, true))
end
def carrefourref02_divided.f (k : Nat) (l0 : List Int) (l1 : List Int) : Option (Int × Bool) := carrefourref02_divided.l0 k l0 0 ([] : List (List Int)) l1
theorem carrefourref02_divided.mono_l : ∀ k, (∀ y0 y1 y2 y3, LeO (carrefourref02_divided.l0 k y0 y1 y2 y3) (carrefourref02_divided.l0 (k + 1) y0 y1 y2 y3)) ∧ (∀ y0 y1 y2 y3, LeO (carrefourref02_divided.l1 k y0 y1 y2 y3) (carrefourref02_divided.l1 (k + 1) y0 y1 y2 y3))
  | 0 => ⟨fun _ _ _ _ r h => by simp [carrefourref02_divided.l0] at h, fun _ _ _ _ r h => by simp [carrefourref02_divided.l1] at h⟩
  | k + 1 => by
    obtain ⟨ih0, ih1⟩ := carrefourref02_divided.mono_l k
    refine ⟨?_, ?_⟩
    · intro y0 y1 y2 y3
      unfold carrefourref02_divided.l0
      repeat' first
      | (with_reducible exact ih0 _ _ _ _)
      | (with_reducible exact ih1 _ _ _ _)
      | (with_reducible exact carrefourref01_Minus.mono _ _ _)
      | (with_reducible exact carrefourref01_Order.mono _ _ _)
      | (with_reducible exact carrefourref02_trim.mono _ _)
      | (with_reducible exact carrefourref02_twice.mono _ _)
      | (with_reducible exact LeO.refl _)
      | (with_reducible exact LeO.none _)
      | (with_reducible refine LeO.ite ?_ ?_)
      | (with_reducible refine LeO.bind ?_ (fun _ => ?_))
      | exact ih0 _ _ _ _
      | exact ih1 _ _ _ _
      | exact carrefourref01_Minus.mono _ _ _
      | exact carrefourref01_Order.mono _ _ _
      | exact carrefourref02_trim.mono _ _
      | exact carrefourref02_twice.mono _ _
      | exact LeO.none _
      | refine LeO.ite ?_ ?_
      | refine LeO.bind ?_ (fun _ => ?_)
    · intro y0 y1 y2 y3
      unfold carrefourref02_divided.l1
      repeat' first
      | (with_reducible exact ih0 _ _ _ _)
      | (with_reducible exact ih1 _ _ _ _)
      | (with_reducible exact carrefourref01_Minus.mono _ _ _)
      | (with_reducible exact carrefourref01_Order.mono _ _ _)
      | (with_reducible exact carrefourref02_trim.mono _ _)
      | (with_reducible exact carrefourref02_twice.mono _ _)
      | (with_reducible exact LeO.refl _)
      | (with_reducible exact LeO.none _)
      | (with_reducible refine LeO.ite ?_ ?_)
      | (with_reducible refine LeO.bind ?_ (fun _ => ?_))
      | exact ih0 _ _ _ _
      | exact ih1 _ _ _ _
      | exact carrefourref01_Minus.mono _ _ _
      | exact carrefourref01_Order.mono _ _ _
      | exact carrefourref02_trim.mono _ _
      | exact carrefourref02_twice.mono _ _
      | exact LeO.none _
      | refine LeO.ite ?_ ?_
      | refine LeO.bind ?_ (fun _ => ?_)
theorem carrefourref02_divided.mono : ∀ a0 a1 k, LeO (carrefourref02_divided.f k a0 a1) (carrefourref02_divided.f (k + 1) a0 a1) := by
  intro a0 a1 k
  obtain ⟨ih0, ih1⟩ := carrefourref02_divided.mono_l k
  unfold carrefourref02_divided.f
  repeat' first
      | (with_reducible exact ih0 _ _ _ _)
      | (with_reducible exact ih1 _ _ _ _)
      | (with_reducible exact carrefourref01_Minus.mono _ _ _)
      | (with_reducible exact carrefourref01_Order.mono _ _ _)
      | (with_reducible exact carrefourref02_trim.mono _ _)
      | (with_reducible exact carrefourref02_twice.mono _ _)
      | (with_reducible exact LeO.refl _)
      | (with_reducible exact LeO.none _)
      | (with_reducible refine LeO.ite ?_ ?_)
      | (with_reducible refine LeO.bind ?_ (fun _ => ?_))
      | exact ih0 _ _ _ _
      | exact ih1 _ _ _ _
      | exact carrefourref01_Minus.mono _ _ _
      | exact carrefourref01_Order.mono _ _ _
      | exact carrefourref02_trim.mono _ _
      | exact carrefourref02_twice.mono _ _
      | exact LeO.none _
      | refine LeO.ite ?_ ?_
      | refine LeO.bind ?_ (fun _ => ?_)
/-! ### carrefourref02_lowest: function 49 -/
def carrefourref02_lowest.l0 : Nat → List Int → List Int → Bool → List Int → List Int → Option (Int × Int × Int)
  | 0, _, _, _, _, _ => none
  | k + 1, x0, x1, x2, x8, x9 => (carrefourref01_Order.f k x9 ([] : List Int)).bind fun t418 => (if t418 = 0 then ((carrefourref02_divided.f k x0 x8).bind fun bt422 => ((carrefourref02_divided.f k x1 x8).bind fun bt424 => (if bt422.2 = true then (if bt424.2 = true then (if x2 = true then ((carrefourref02_made.f k bt422.1 bt424.1 (bt422.1 != 0)).bind fun bt426 => (some (bt426.1, bt426.2.1, bt426.2.2))) else ((carrefourref02_made.f k bt422.1 bt424.1 false).bind fun bt429 => (some (bt429.1, bt429.2.1, bt429.2.2)))) else (some (0, 0, 2))) else (some (0, 0, 2))))) else ((carrefourref02_rest.f k x8 x9).bind fun t419 => (carrefourref02_lowest.l0 k x0 x1 x2 x9 t419)))
def carrefourref02_lowest.f (k : Nat) (l0 : List Int) (l1 : List Int) (a2 : Bool) : Option (Int × Int × Int) := carrefourref02_lowest.l0 k l0 l1 a2 l0 l1
theorem carrefourref02_lowest.mono_l : ∀ k, (∀ y0 y1 y2 y3 y4, LeO (carrefourref02_lowest.l0 k y0 y1 y2 y3 y4) (carrefourref02_lowest.l0 (k + 1) y0 y1 y2 y3 y4))
  | 0 => fun _ _ _ _ _ r h => by simp [carrefourref02_lowest.l0] at h
  | k + 1 => by
    have ih0 := carrefourref02_lowest.mono_l k
    · intro y0 y1 y2 y3 y4
      unfold carrefourref02_lowest.l0
      repeat' first
      | (with_reducible exact ih0 _ _ _ _ _)
      | (with_reducible exact carrefourref01_Order.mono _ _ _)
      | (with_reducible exact carrefourref02_divided.mono _ _ _)
      | (with_reducible exact carrefourref02_made.mono _ _ _ _)
      | (with_reducible exact carrefourref02_rest.mono _ _ _)
      | (with_reducible exact LeO.refl _)
      | (with_reducible exact LeO.none _)
      | (with_reducible refine LeO.ite ?_ ?_)
      | (with_reducible refine LeO.bind ?_ (fun _ => ?_))
      | exact ih0 _ _ _ _ _
      | exact carrefourref01_Order.mono _ _ _
      | exact carrefourref02_divided.mono _ _ _
      | exact carrefourref02_made.mono _ _ _ _
      | exact carrefourref02_rest.mono _ _ _
      | exact LeO.none _
      | refine LeO.ite ?_ ?_
      | refine LeO.bind ?_ (fun _ => ?_)
theorem carrefourref02_lowest.mono : ∀ a0 a1 a2 k, LeO (carrefourref02_lowest.f k a0 a1 a2) (carrefourref02_lowest.f (k + 1) a0 a1 a2) := by
  intro a0 a1 a2 k
  have ih0 := carrefourref02_lowest.mono_l k
  unfold carrefourref02_lowest.f
  repeat' first
      | (with_reducible exact ih0 _ _ _ _ _)
      | (with_reducible exact carrefourref01_Order.mono _ _ _)
      | (with_reducible exact carrefourref02_divided.mono _ _ _)
      | (with_reducible exact carrefourref02_made.mono _ _ _ _)
      | (with_reducible exact carrefourref02_rest.mono _ _ _)
      | (with_reducible exact LeO.refl _)
      | (with_reducible exact LeO.none _)
      | (with_reducible refine LeO.ite ?_ ?_)
      | (with_reducible refine LeO.bind ?_ (fun _ => ?_))
      | exact ih0 _ _ _ _ _
      | exact carrefourref01_Order.mono _ _ _
      | exact carrefourref02_divided.mono _ _ _
      | exact carrefourref02_made.mono _ _ _ _
      | exact carrefourref02_rest.mono _ _ _
      | exact LeO.none _
      | refine LeO.ite ?_ ?_
      | refine LeO.bind ?_ (fun _ => ?_)
/-! ### carrefourref02_Add: function 29 -/
def carrefourref02_Add.f (k : Nat) (a0_0 : Int) (a0_1 : Int) (a1_0 : Int) (a1_1 : Int) : Option (Int × Int × Int) := (carrefourref02_Norm.f k a0_0 a0_1).bind fun bt435 => ((carrefourref02_Norm.f k a1_0 a1_1).bind fun bt437 => ((carrefourref02_few.f bt435.1 bt435.2 bt437.1 bt437.2).bind fun t439 => (if t439 = true then ((carrefourref02_Of.f k (wrap64 ((wrap64 (bt435.1 * bt437.2)) + (wrap64 (bt437.1 * bt435.2)))) (wrap64 (bt435.2 * bt437.2))).bind fun bt440 => (some (bt440.1, bt440.2.1, bt440.2.2))) else ((carrefourref01_Size.f bt435.1).bind fun t443 => ((carrefourref01_Times.f k t443 (IntKind.u64.wrap (bt437.2))).bind fun t444 => ((carrefourref02_trim.f k t444).bind fun t447 => ((carrefourref01_Size.f bt437.1).bind fun t450 => ((carrefourref01_Times.f k t450 (IntKind.u64.wrap (bt435.2))).bind fun t451 => ((carrefourref02_trim.f k t451).bind fun t454 => ((carrefourref01_Times.f k (IntKind.u64.wrap (bt435.2)) (IntKind.u64.wrap (bt437.2))).bind fun t457 => ((carrefourref02_trim.f k t457).bind fun t460 => (if ((decide (bt435.1 < 0)) == (decide (bt437.1 < 0))) = true then ((carrefourref01_Plus.f k t447 t454).bind fun t463 => ((carrefourref02_trim.f k t463).bind fun t466 => ((carrefourref02_lowest.f k t466 t460 (decide (bt435.1 < 0))).bind fun bt469 => (some (bt469.1, bt469.2.1, bt469.2.2))))) else ((carrefourref01_Order.f k t447 t454).bind fun t472 => (if t472 ≥ 0 then ((carrefourref01_Minus.f k t447 t454).bind fun t473 => ((carrefourref02_trim.f k t473).bind fun t476 => ((carrefourref02_lowest.f k t476 t460 (decide (bt435.1 < 0))).bind fun bt479 => (some (bt479.1, bt479.2.1, bt479.2.2))))) else ((carrefourref01_Minus.f k t454 t447).bind fun t482 => ((carrefourref02_trim.f k t482).bind fun t485 => ((carrefourref02_lowest.f k t485 t460 (decide (bt437.1 < 0))).bind fun bt488 => (some (bt488.1, bt488.2.1, bt488.2.2)))))))))))))))))))
theorem carrefourref02_Add.mono : ∀ a0 a1 a2 a3 k, LeO (carrefourref02_Add.f k a0 a1 a2 a3) (carrefourref02_Add.f (k + 1) a0 a1 a2 a3) := by
  intro a0 a1 a2 a3 k
  unfold carrefourref02_Add.f
  repeat' first
      | (with_reducible exact carrefourref01_Minus.mono _ _ _)
      | (with_reducible exact carrefourref01_Order.mono _ _ _)
      | (with_reducible exact carrefourref01_Plus.mono _ _ _)
      | (with_reducible exact carrefourref01_Times.mono _ _ _)
      | (with_reducible exact carrefourref02_Norm.mono _ _ _)
      | (with_reducible exact carrefourref02_Of.mono _ _ _)
      | (with_reducible exact carrefourref02_lowest.mono _ _ _ _)
      | (with_reducible exact carrefourref02_trim.mono _ _)
      | (with_reducible exact LeO.refl _)
      | (with_reducible exact LeO.none _)
      | (with_reducible refine LeO.ite ?_ ?_)
      | (with_reducible refine LeO.bind ?_ (fun _ => ?_))
      | exact carrefourref01_Minus.mono _ _ _
      | exact carrefourref01_Order.mono _ _ _
      | exact carrefourref01_Plus.mono _ _ _
      | exact carrefourref01_Times.mono _ _ _
      | exact carrefourref02_Norm.mono _ _ _
      | exact carrefourref02_Of.mono _ _ _
      | exact carrefourref02_lowest.mono _ _ _ _
      | exact carrefourref02_trim.mono _ _
      | exact LeO.none _
      | refine LeO.ite ?_ ?_
      | refine LeO.bind ?_ (fun _ => ?_)
/-! ### carrefourref02_minus: function 68 -/
def carrefourref02_minus.f (a0_0 : Int) (a0_1 : Int) : Option (Int × Int × Bool) := if a0_0 = (-9223372036854775808) then (some (a0_0, a0_1, false)) else (some (wrap64 (-a0_0), a0_1, true))
/-! ### carrefourref02_twiceAdded: function 69 -/
def carrefourref02_twiceAdded.f (k : Nat) (a0_0 : Int) (a0_1 : Int) (a1_0 : Int) (a1_1 : Int) : Option (Int × Int × Int) := (carrefourref01_Size.f a0_0).bind fun t496 => ((carrefourref01_Times.f k t496 (IntKind.u64.wrap (a1_1))).bind fun t497 => ((carrefourref02_trim.f k t497).bind fun t500 => ((carrefourref01_Times.f k (IntKind.u64.wrap (a1_0)) (IntKind.u64.wrap (a0_1))).bind fun t503 => ((carrefourref02_twice.f k t503).bind fun t506 => ((carrefourref02_trim.f k t506).bind fun t509 => ((carrefourref01_Times.f k (IntKind.u64.wrap (a0_1)) (IntKind.u64.wrap (a1_1))).bind fun t512 => ((carrefourref02_trim.f k t512).bind fun t515 => (if a0_0 ≥ 0 then ((carrefourref01_Plus.f k t500 t509).bind fun t518 => ((carrefourref02_trim.f k t518).bind fun t521 => ((carrefourref02_lowest.f k t521 t515 false).bind fun bt524 => (some (bt524.1, bt524.2.1, bt524.2.2))))) else ((carrefourref01_Order.f k t500 t509).bind fun t527 => (if t527 ≥ 0 then ((carrefourref01_Minus.f k t500 t509).bind fun t528 => ((carrefourref02_trim.f k t528).bind fun t531 => ((carrefourref02_lowest.f k t531 t515 true).bind fun bt534 => (some (bt534.1, bt534.2.1, bt534.2.2))))) else ((carrefourref01_Minus.f k t509 t500).bind fun t537 => ((carrefourref02_trim.f k t537).bind fun t540 => ((carrefourref02_lowest.f k t540 t515 false).bind fun bt543 => (some (bt543.1, bt543.2.1, bt543.2.2)))))))))))))))
theorem carrefourref02_twiceAdded.mono : ∀ a0 a1 a2 a3 k, LeO (carrefourref02_twiceAdded.f k a0 a1 a2 a3) (carrefourref02_twiceAdded.f (k + 1) a0 a1 a2 a3) := by
  intro a0 a1 a2 a3 k
  unfold carrefourref02_twiceAdded.f
  repeat' first
      | (with_reducible exact carrefourref01_Minus.mono _ _ _)
      | (with_reducible exact carrefourref01_Order.mono _ _ _)
      | (with_reducible exact carrefourref01_Plus.mono _ _ _)
      | (with_reducible exact carrefourref01_Times.mono _ _ _)
      | (with_reducible exact carrefourref02_lowest.mono _ _ _ _)
      | (with_reducible exact carrefourref02_trim.mono _ _)
      | (with_reducible exact carrefourref02_twice.mono _ _)
      | (with_reducible exact LeO.refl _)
      | (with_reducible exact LeO.none _)
      | (with_reducible refine LeO.ite ?_ ?_)
      | (with_reducible refine LeO.bind ?_ (fun _ => ?_))
      | exact carrefourref01_Minus.mono _ _ _
      | exact carrefourref01_Order.mono _ _ _
      | exact carrefourref01_Plus.mono _ _ _
      | exact carrefourref01_Times.mono _ _ _
      | exact carrefourref02_lowest.mono _ _ _ _
      | exact carrefourref02_trim.mono _ _
      | exact carrefourref02_twice.mono _ _
      | exact LeO.none _
      | refine LeO.ite ?_ ?_
      | refine LeO.bind ?_ (fun _ => ?_)
/-! ### carrefourref02_Sub: function 37 -/
def carrefourref02_Sub.f (k : Nat) (a0_0 : Int) (a0_1 : Int) (a1_0 : Int) (a1_1 : Int) : Option (Int × Int × Int) := (carrefourref02_Norm.f k a1_0 a1_1).bind fun bt549 => ((carrefourref02_minus.f bt549.1 bt549.2).bind fun bt551 => (if bt551.2.2 = true then ((carrefourref02_Add.f k a0_0 a0_1 bt551.1 bt551.2.1).bind fun bt555 => (some (bt555.1, bt555.2.1, bt555.2.2))) else (if (Int.tmod bt549.2 2) = 0 then (some (0, 0, 2)) else ((carrefourref02_Norm.f k a0_0 a0_1).bind fun bt559 => ((carrefourref02_twiceAdded.f k bt559.1 bt559.2 4611686018427387904 bt549.2).bind fun bt561 => (some (bt561.1, bt561.2.1, bt561.2.2)))))))
theorem carrefourref02_Sub.mono : ∀ a0 a1 a2 a3 k, LeO (carrefourref02_Sub.f k a0 a1 a2 a3) (carrefourref02_Sub.f (k + 1) a0 a1 a2 a3) := by
  intro a0 a1 a2 a3 k
  unfold carrefourref02_Sub.f
  repeat' first
      | (with_reducible exact carrefourref02_Add.mono _ _ _ _ _)
      | (with_reducible exact carrefourref02_Norm.mono _ _ _)
      | (with_reducible exact carrefourref02_twiceAdded.mono _ _ _ _ _)
      | (with_reducible exact LeO.refl _)
      | (with_reducible exact LeO.none _)
      | (with_reducible refine LeO.ite ?_ ?_)
      | (with_reducible refine LeO.bind ?_ (fun _ => ?_))
      | exact carrefourref02_Add.mono _ _ _ _ _
      | exact carrefourref02_Norm.mono _ _ _
      | exact carrefourref02_twiceAdded.mono _ _ _ _ _
      | exact LeO.none _
      | refine LeO.ite ?_ ?_
      | refine LeO.bind ?_ (fun _ => ?_)
/-! ### carrefourref02_Div: function 38 -/
def carrefourref02_Div.f (k : Nat) (a0_0 : Int) (a0_1 : Int) (a1_0 : Int) (a1_1 : Int) : Option (Int × Int × Int) := (carrefourref02_Norm.f k a0_0 a0_1).bind fun bt567 => ((carrefourref02_Norm.f k a1_0 a1_1).bind fun bt569 => (if bt569.1 = 0 then (some (0, 0, 3)) else ((carrefourref02_few.f bt567.1 bt567.2 bt569.1 bt569.2).bind fun t571 => (if t571 = true then ((carrefourref02_Of.f k (wrap64 (bt567.1 * bt569.2)) (wrap64 (bt567.2 * bt569.1))).bind fun bt572 => (some (bt572.1, bt572.2.1, bt572.2.2))) else ((carrefourref01_Size.f bt567.1).bind fun t575 => ((carrefourref01_Times.f k t575 (IntKind.u64.wrap (bt569.2))).bind fun t576 => ((carrefourref02_trim.f k t576).bind fun t579 => ((carrefourref01_Size.f bt569.1).bind fun t582 => ((carrefourref01_Times.f k (IntKind.u64.wrap (bt567.2)) t582).bind fun t583 => ((carrefourref02_trim.f k t583).bind fun t586 => ((carrefourref02_lowest.f k t579 t586 ((decide (bt567.1 < 0)) != (decide (bt569.1 < 0)))).bind fun bt589 => (some (bt589.1, bt589.2.1, bt589.2.2)))))))))))))
theorem carrefourref02_Div.mono : ∀ a0 a1 a2 a3 k, LeO (carrefourref02_Div.f k a0 a1 a2 a3) (carrefourref02_Div.f (k + 1) a0 a1 a2 a3) := by
  intro a0 a1 a2 a3 k
  unfold carrefourref02_Div.f
  repeat' first
      | (with_reducible exact carrefourref01_Times.mono _ _ _)
      | (with_reducible exact carrefourref02_Norm.mono _ _ _)
      | (with_reducible exact carrefourref02_Of.mono _ _ _)
      | (with_reducible exact carrefourref02_lowest.mono _ _ _ _)
      | (with_reducible exact carrefourref02_trim.mono _ _)
      | (with_reducible exact LeO.refl _)
      | (with_reducible exact LeO.none _)
      | (with_reducible refine LeO.ite ?_ ?_)
      | (with_reducible refine LeO.bind ?_ (fun _ => ?_))
      | exact carrefourref01_Times.mono _ _ _
      | exact carrefourref02_Norm.mono _ _ _
      | exact carrefourref02_Of.mono _ _ _
      | exact carrefourref02_lowest.mono _ _ _ _
      | exact carrefourref02_trim.mono _ _
      | exact LeO.none _
      | refine LeO.ite ?_ ?_
      | refine LeO.bind ?_ (fun _ => ?_)
/-! ### carrefourref01_Floor: function 92 -/
def carrefourref01_Floor.j0 : Nat → Int → Int → Bool → Option (Int × Int)
  | 0, _, _, _ => none
  | k + 1, x0, x1, x14 => if x14 = true then (some (0, 2)) else (if x1 = 0 then (none) else (if (Int.tmod x0 x1) = 0 then (some (wrap64 (Int.tdiv x0 x1), 0)) else (if ((decide (x0 < 0)) != (decide (x1 < 0))) = true then (some (wrap64 ((wrap64 (Int.tdiv x0 x1)) - 1), 0)) else (some (wrap64 (Int.tdiv x0 x1), 0)))))
def carrefourref01_Floor.f (k : Nat) (a0 : Int) (a1 : Int) : Option (Int × Int) := if a1 = 0 then (some (0, 3)) else (if a0 = (-9223372036854775808) then (carrefourref01_Floor.j0 k a0 a1 (a1 == (-1))) else (carrefourref01_Floor.j0 k a0 a1 false))
theorem carrefourref01_Floor.mono_l : ∀ k, (∀ y0 y1 y2, LeO (carrefourref01_Floor.j0 k y0 y1 y2) (carrefourref01_Floor.j0 (k + 1) y0 y1 y2))
  | 0 => fun _ _ _ r h => by simp [carrefourref01_Floor.j0] at h
  | k + 1 => by
    have ih0 := carrefourref01_Floor.mono_l k
    · intro y0 y1 y2
      unfold carrefourref01_Floor.j0
      repeat' first
      | (with_reducible exact ih0 _ _ _)
      | (with_reducible exact LeO.refl _)
      | (with_reducible exact LeO.none _)
      | (with_reducible refine LeO.ite ?_ ?_)
      | (with_reducible refine LeO.bind ?_ (fun _ => ?_))
      | exact ih0 _ _ _
      | exact LeO.none _
      | refine LeO.ite ?_ ?_
      | refine LeO.bind ?_ (fun _ => ?_)
theorem carrefourref01_Floor.mono : ∀ a0 a1 k, LeO (carrefourref01_Floor.f k a0 a1) (carrefourref01_Floor.f (k + 1) a0 a1) := by
  intro a0 a1 k
  have ih0 := carrefourref01_Floor.mono_l k
  unfold carrefourref01_Floor.f
  repeat' first
      | (with_reducible exact ih0 _ _ _)
      | (with_reducible exact LeO.refl _)
      | (with_reducible exact LeO.none _)
      | (with_reducible refine LeO.ite ?_ ?_)
      | (with_reducible refine LeO.bind ?_ (fun _ => ?_))
      | exact ih0 _ _ _
      | exact LeO.none _
      | refine LeO.ite ?_ ?_
      | refine LeO.bind ?_ (fun _ => ?_)
/-! ### carrefourref01_Ceil: function 70 -/
def carrefourref01_Ceil.f (k : Nat) (a0 : Int) (a1 : Int) : Option (Int × Int) := (carrefourref01_Floor.f k a0 a1).bind fun bt592 => (if bt592.2 = 0 then (if a1 = 0 then (none) else (if (Int.tmod a0 a1) = 0 then (some (bt592.1, bt592.2)) else (some (wrap64 (bt592.1 + 1), bt592.2)))) else (some (bt592.1, bt592.2)))
theorem carrefourref01_Ceil.mono : ∀ a0 a1 k, LeO (carrefourref01_Ceil.f k a0 a1) (carrefourref01_Ceil.f (k + 1) a0 a1) := by
  intro a0 a1 k
  unfold carrefourref01_Ceil.f
  repeat' first
      | (with_reducible exact carrefourref01_Floor.mono _ _ _)
      | (with_reducible exact LeO.refl _)
      | (with_reducible exact LeO.none _)
      | (with_reducible refine LeO.ite ?_ ?_)
      | (with_reducible refine LeO.bind ?_ (fun _ => ?_))
      | exact carrefourref01_Floor.mono _ _ _
      | exact LeO.none _
      | refine LeO.ite ?_ ?_
      | refine LeO.bind ?_ (fun _ => ?_)
/-! ### carrefourref02_Ceil: function 39 -/
def carrefourref02_Ceil.f (k : Nat) (a0_0 : Int) (a0_1 : Int) : Option (Int) := (carrefourref02_Norm.f k a0_0 a0_1).bind fun bt595 => ((carrefourref01_Ceil.f k bt595.1 bt595.2).bind fun bt597 => (some bt597.1))
theorem carrefourref02_Ceil.mono : ∀ a0 a1 k, LeO (carrefourref02_Ceil.f k a0 a1) (carrefourref02_Ceil.f (k + 1) a0 a1) := by
  intro a0 a1 k
  unfold carrefourref02_Ceil.f
  repeat' first
      | (with_reducible exact carrefourref01_Ceil.mono _ _ _)
      | (with_reducible exact carrefourref02_Norm.mono _ _ _)
      | (with_reducible exact LeO.refl _)
      | (with_reducible exact LeO.none _)
      | (with_reducible refine LeO.ite ?_ ?_)
      | (with_reducible refine LeO.bind ?_ (fun _ => ?_))
      | exact carrefourref01_Ceil.mono _ _ _
      | exact carrefourref02_Norm.mono _ _ _
      | exact LeO.none _
      | refine LeO.ite ?_ ?_
      | refine LeO.bind ?_ (fun _ => ?_)
/-! ### carrefourref12_Cycle: function 11 -/
def carrefourref12_Cycle.j0 : Nat → Int → Bool → Int → Int → Int → Int → Option (Int × Bool × Int)
  | 0, _, _, _, _, _, _ => none
  | k + 1, x0, x29, x600000, x600001, x601000, x601001 => if x29 = true then (some (0, false, 1)) else ((carrefourref02_Cmp.f k x600000 x600001 x601000 x601001).bind fun t602 => (if t602 ≥ 0 then (some (0, false, 0)) else ((carrefourref02_Of.f k (wrap64 ((wrap64 (3 * x0)) + 100)) 2).bind fun bt603 => ((carrefourref02_Sub.f k x601000 x601001 x600000 x600001).bind fun bt607 => (if bt607.2.2 = 0 then ((carrefourref02_Div.f k bt603.1 bt603.2.1 bt607.1 bt607.2.1).bind fun bt611 => (if bt611.2.2 = 0 then ((carrefourref02_Ceil.f k bt611.1 bt611.2.1).bind fun t615 => (some (t615, true, 0))) else (some (0, false, bt611.2.2)))) else (some (0, false, bt607.2.2)))))))
def carrefourref12_Cycle.f (k : Nat) (a0 : Int) (a1_0 : Int) (a1_1 : Int) : Option (Int × Bool × Int) := if a0 < 0 then (carrefourref12_Cycle.j0 k a0 true a1_0 a1_1 1 1) else (if a0 > 600000 then (carrefourref12_Cycle.j0 k a0 true a1_0 a1_1 1 1) else ((carrefourref02_Right.f k a1_0 a1_1).bind fun t601 => (if t601 = true then (carrefourref12_Cycle.j0 k a0 (decide (a1_0 < 0)) a1_0 a1_1 1 1) else (carrefourref12_Cycle.j0 k a0 true a1_0 a1_1 1 1))))
theorem carrefourref12_Cycle.mono_l : ∀ k, (∀ y0 y1 y2 y3 y4 y5, LeO (carrefourref12_Cycle.j0 k y0 y1 y2 y3 y4 y5) (carrefourref12_Cycle.j0 (k + 1) y0 y1 y2 y3 y4 y5))
  | 0 => fun _ _ _ _ _ _ r h => by simp [carrefourref12_Cycle.j0] at h
  | k + 1 => by
    have ih0 := carrefourref12_Cycle.mono_l k
    · intro y0 y1 y2 y3 y4 y5
      unfold carrefourref12_Cycle.j0
      repeat' first
      | (with_reducible exact ih0 _ _ _ _ _ _)
      | (with_reducible exact carrefourref02_Ceil.mono _ _ _)
      | (with_reducible exact carrefourref02_Cmp.mono _ _ _ _ _)
      | (with_reducible exact carrefourref02_Div.mono _ _ _ _ _)
      | (with_reducible exact carrefourref02_Of.mono _ _ _)
      | (with_reducible exact carrefourref02_Right.mono _ _ _)
      | (with_reducible exact carrefourref02_Sub.mono _ _ _ _ _)
      | (with_reducible exact LeO.refl _)
      | (with_reducible exact LeO.none _)
      | (with_reducible refine LeO.ite ?_ ?_)
      | (with_reducible refine LeO.bind ?_ (fun _ => ?_))
      | exact ih0 _ _ _ _ _ _
      | exact carrefourref02_Ceil.mono _ _ _
      | exact carrefourref02_Cmp.mono _ _ _ _ _
      | exact carrefourref02_Div.mono _ _ _ _ _
      | exact carrefourref02_Of.mono _ _ _
      | exact carrefourref02_Right.mono _ _ _
      | exact carrefourref02_Sub.mono _ _ _ _ _
      | exact LeO.none _
      | refine LeO.ite ?_ ?_
      | refine LeO.bind ?_ (fun _ => ?_)
theorem carrefourref12_Cycle.mono : ∀ a0 a1 a2 k, LeO (carrefourref12_Cycle.f k a0 a1 a2) (carrefourref12_Cycle.f (k + 1) a0 a1 a2) := by
  intro a0 a1 a2 k
  have ih0 := carrefourref12_Cycle.mono_l k
  unfold carrefourref12_Cycle.f
  repeat' first
      | (with_reducible exact ih0 _ _ _ _ _ _)
      | (with_reducible exact carrefourref02_Ceil.mono _ _ _)
      | (with_reducible exact carrefourref02_Cmp.mono _ _ _ _ _)
      | (with_reducible exact carrefourref02_Div.mono _ _ _ _ _)
      | (with_reducible exact carrefourref02_Of.mono _ _ _)
      | (with_reducible exact carrefourref02_Right.mono _ _ _)
      | (with_reducible exact carrefourref02_Sub.mono _ _ _ _ _)
      | (with_reducible exact LeO.refl _)
      | (with_reducible exact LeO.none _)
      | (with_reducible refine LeO.ite ?_ ?_)
      | (with_reducible refine LeO.bind ?_ (fun _ => ?_))
      | exact ih0 _ _ _ _ _ _
      | exact carrefourref02_Ceil.mono _ _ _
      | exact carrefourref02_Cmp.mono _ _ _ _ _
      | exact carrefourref02_Div.mono _ _ _ _ _
      | exact carrefourref02_Of.mono _ _ _
      | exact carrefourref02_Right.mono _ _ _
      | exact carrefourref02_Sub.mono _ _ _ _ _
      | exact LeO.none _
      | refine LeO.ite ?_ ?_
      | refine LeO.bind ?_ (fun _ => ?_)
/-! ### webster_right: function 40 -/
def webster_right.f (a0_0 : Int) (a0_1 : Int) (a0_2 : Int) (a0_3 : Int) (a0_4 : Int) (l0_5 : List (S55)) (l0_6 : List (S120)) (a0_7 : Int) (a0_8 : Int) : Option (Bool) := if 1 ≤ a0_0 then (if a0_0 ≤ a0_1 then (if a0_1 ≤ 6000 then (some (decide (a0_2 ≥ 1))) else (some false)) else (some false)) else (some false)
/-! ### webster_Count: function 15 -/
def webster_Count.f (a0_0 : Int) (a0_1 : Int) (a0_2 : Int) (a0_3 : Int) (a0_4 : Int) (l0_5 : List (S55)) (l0_6 : List (S120)) (a0_7 : Int) (a0_8 : Int) : Option (Int) := (webster_right.f a0_0 a0_1 a0_2 a0_3 a0_4 l0_5 l0_6 a0_7 a0_8).bind fun t618 => (if t618 = true then (if a0_2 = 0 then (none) else (some (wrap64 ((wrap64 (Int.tdiv (wrap64 (a0_1 - a0_0)) a0_2)) + 1)))) else (some 0))
/-! ### webster_Allowed: function 13 -/
def webster_Allowed.f (a0_0 : Int) (a0_1 : Int) (a0_2 : Int) (a0_3 : Int) (a0_4 : Int) (l0_5 : List (S55)) (l0_6 : List (S120)) (a0_7 : Int) (a0_8 : Int) (a1 : Int) : Option (Int × Bool) := (webster_right.f a0_0 a0_1 a0_2 a0_3 a0_4 l0_5 l0_6 a0_7 a0_8).bind fun t620 => (if t620 = true then ((webster_Count.f a0_0 a0_1 a0_2 a0_3 a0_4 l0_5 l0_6 a0_7 a0_8).bind fun t621 => (if a1 ≤ a0_0 then (some (a0_0, true)) else (if a1 > (wrap64 (a0_0 + (wrap64 ((wrap64 (t621 - 1)) * a0_2)))) then (some (wrap64 (a0_0 + (wrap64 ((wrap64 (t621 - 1)) * a0_2))), false)) else ((whole_Ceil.f (wrap64 (a1 - a0_0)) a0_2).bind fun bt622 => (some (wrap64 (a0_0 + (wrap64 (bt622.1 * a0_2))), true)))))) else (some (0, false)))
/-! ### carrefourlaw12_awake: function 12 -/
def carrefourlaw12_awake.f (k : Nat)  : Option (Bool) := (webster_Cycle.f k 120 1 2).bind fun bt624 => ((webster_Allowed.f 300 900 70 0 0 ([] : List (S55)) ([] : List (S120)) 0 0 600).bind fun bt628 => ((webster_Allowed.f 300 900 70 0 0 ([] : List (S55)) ([] : List (S120)) 0 0 870).bind fun bt630 => (if bt624.2.2 = 0 then (if bt624.2.1 = true then (if bt624.1 = 460 then (if bt628.1 = 650 then (if bt628.2 = true then (if bt630.1 = 860 then (if bt630.2 = true then (some false) else ((webster_Count.f 300 900 70 0 0 ([] : List (S55)) ([] : List (S120)) 0 0).bind fun t632 => (some (t632 == 9)))) else (some false)) else (some false)) else (some false)) else (some false)) else (some false)) else (some false))))
theorem carrefourlaw12_awake.mono : ∀ k, LeO (carrefourlaw12_awake.f k ) (carrefourlaw12_awake.f (k + 1) ) := by
  intro  k
  unfold carrefourlaw12_awake.f
  repeat' first
      | (with_reducible exact webster_Cycle.mono _ _ _ _)
      | (with_reducible exact LeO.refl _)
      | (with_reducible exact LeO.none _)
      | (with_reducible refine LeO.ite ?_ ?_)
      | (with_reducible refine LeO.bind ?_ (fun _ => ?_))
      | exact webster_Cycle.mono _ _ _ _
      | exact LeO.none _
      | refine LeO.ite ?_ ?_
      | refine LeO.bind ?_ (fun _ => ?_)
/-! ### carrefourlaw12_WebsterCycle: function 3 -/
def carrefourlaw12_WebsterCycle.f (k : Nat) (a0 : Int) (a1_0 : Int) (a1_1 : Int) : Option (Bool) := (webster_Cycle.f k a0 a1_0 a1_1).bind fun bt634 => ((carrefourref12_Cycle.f k a0 a1_0 a1_1).bind fun bt637 => (if bt634.1 = bt637.1 then (if (bt634.2.1 == bt637.2.1) = true then (if bt634.2.2 = bt637.2.2 then ((carrefourlaw12_awake.f k).bind fun t640 => (some t640)) else (some false)) else (some false)) else (some false)))
theorem carrefourlaw12_WebsterCycle.mono : ∀ a0 a1 a2 k, LeO (carrefourlaw12_WebsterCycle.f k a0 a1 a2) (carrefourlaw12_WebsterCycle.f (k + 1) a0 a1 a2) := by
  intro a0 a1 a2 k
  unfold carrefourlaw12_WebsterCycle.f
  repeat' first
      | (with_reducible exact carrefourlaw12_awake.mono _)
      | (with_reducible exact carrefourref12_Cycle.mono _ _ _ _)
      | (with_reducible exact webster_Cycle.mono _ _ _ _)
      | (with_reducible exact LeO.refl _)
      | (with_reducible exact LeO.none _)
      | (with_reducible refine LeO.ite ?_ ?_)
      | (with_reducible refine LeO.bind ?_ (fun _ => ?_))
      | exact carrefourlaw12_awake.mono _
      | exact carrefourref12_Cycle.mono _ _ _ _
      | exact webster_Cycle.mono _ _ _ _
      | exact LeO.none _
      | refine LeO.ite ?_ ?_
      | refine LeO.bind ?_ (fun _ => ?_)
/-! ### carrefourref02_Mul: function 18 -/
def carrefourref02_Mul.f (k : Nat) (a0_0 : Int) (a0_1 : Int) (a1_0 : Int) (a1_1 : Int) : Option (Int × Int × Int) := (carrefourref02_Norm.f k a0_0 a0_1).bind fun bt644 => ((carrefourref02_Norm.f k a1_0 a1_1).bind fun bt646 => ((carrefourref02_few.f bt644.1 bt644.2 bt646.1 bt646.2).bind fun t648 => (if t648 = true then ((carrefourref02_Of.f k (wrap64 (bt644.1 * bt646.1)) (wrap64 (bt644.2 * bt646.2))).bind fun bt649 => (some (bt649.1, bt649.2.1, bt649.2.2))) else ((carrefourref01_Size.f bt644.1).bind fun t652 => ((carrefourref01_Size.f bt646.1).bind fun t653 => ((carrefourref01_Times.f k t652 t653).bind fun t654 => ((carrefourref02_trim.f k t654).bind fun t657 => ((carrefourref01_Times.f k (IntKind.u64.wrap (bt644.2)) (IntKind.u64.wrap (bt646.2))).bind fun t660 => ((carrefourref02_trim.f k t660).bind fun t663 => ((carrefourref02_lowest.f k t657 t663 ((decide (bt644.1 < 0)) != (decide (bt646.1 < 0)))).bind fun bt666 => (some (bt666.1, bt666.2.1, bt666.2.2))))))))))))
theorem carrefourref02_Mul.mono : ∀ a0 a1 a2 a3 k, LeO (carrefourref02_Mul.f k a0 a1 a2 a3) (carrefourref02_Mul.f (k + 1) a0 a1 a2 a3) := by
  intro a0 a1 a2 a3 k
  unfold carrefourref02_Mul.f
  repeat' first
      | (with_reducible exact carrefourref01_Times.mono _ _ _)
      | (with_reducible exact carrefourref02_Norm.mono _ _ _)
      | (with_reducible exact carrefourref02_Of.mono _ _ _)
      | (with_reducible exact carrefourref02_lowest.mono _ _ _ _)
      | (with_reducible exact carrefourref02_trim.mono _ _)
      | (with_reducible exact LeO.refl _)
      | (with_reducible exact LeO.none _)
      | (with_reducible refine LeO.ite ?_ ?_)
      | (with_reducible refine LeO.bind ?_ (fun _ => ?_))
      | exact carrefourref01_Times.mono _ _ _
      | exact carrefourref02_Norm.mono _ _ _
      | exact carrefourref02_Of.mono _ _ _
      | exact carrefourref02_lowest.mono _ _ _ _
      | exact carrefourref02_trim.mono _ _
      | exact LeO.none _
      | refine LeO.ite ?_ ?_
      | refine LeO.bind ?_ (fun _ => ?_)
/-! ### carrefourlaw12_WebsterLeast: function 5 -/
def carrefourlaw12_WebsterLeast.j0 : Nat → Int → Int → Int → Bool → Int → Int → Option (Bool)
  | 0, _, _, _, _, _, _ => none
  | k + 1, x0, x5, x7, x28, x670000, x670001 => if x28 = true then (if x7 = 0 then (if x670000 ≥ x670001 then (if x5 = 0 then ((carrefourlaw12_awake.f k).bind fun t673 => (some t673)) else (some false)) else (some false)) else (if x5 = 0 then ((carrefourlaw12_awake.f k).bind fun t674 => (some t674)) else (some false))) else ((carrefourref02_Of.f k (wrap64 ((wrap64 (3 * x0)) + 100)) 2).bind fun bt675 => ((carrefourref02_Of.f k (wrap64 (x670001 - x670000)) x670001).bind fun bt679 => ((carrefourref02_Mul.f k bt679.1 bt679.2.1 x5 1).bind fun bt683 => ((carrefourref02_Mul.f k bt679.1 bt679.2.1 (wrap64 (x5 - 1)) 1).bind fun bt687 => (if bt679.2.2 = 0 then (if bt683.2.2 = 0 then ((carrefourref02_Cmp.f k bt683.1 bt683.2.1 bt675.1 bt675.2.1).bind fun t691 => (if t691 < 0 then (some false) else (if bt687.2.2 = 0 then ((carrefourref02_Cmp.f k bt687.1 bt687.2.1 bt675.1 bt675.2.1).bind fun t692 => (if t692 ≥ 0 then (some false) else ((carrefourlaw12_awake.f k).bind fun t693 => (some t693)))) else ((carrefourlaw12_awake.f k).bind fun t694 => (some t694))))) else (if bt687.2.2 = 0 then ((carrefourref02_Cmp.f k bt687.1 bt687.2.1 bt675.1 bt675.2.1).bind fun t695 => (if t695 ≥ 0 then (some false) else ((carrefourlaw12_awake.f k).bind fun t696 => (some t696)))) else ((carrefourlaw12_awake.f k).bind fun t697 => (some t697)))) else (some false))))))
def carrefourlaw12_WebsterLeast.f (k : Nat) (a0 : Int) (a1_0 : Int) (a1_1 : Int) : Option (Bool) := (webster_Cycle.f k a0 a1_0 a1_1).bind fun bt670 => (if bt670.2.2 = 0 then (carrefourlaw12_WebsterLeast.j0 k a0 bt670.1 bt670.2.2 (!bt670.2.1) a1_0 a1_1) else (carrefourlaw12_WebsterLeast.j0 k a0 bt670.1 bt670.2.2 true a1_0 a1_1))
theorem carrefourlaw12_WebsterLeast.mono_l : ∀ k, (∀ y0 y1 y2 y3 y4 y5, LeO (carrefourlaw12_WebsterLeast.j0 k y0 y1 y2 y3 y4 y5) (carrefourlaw12_WebsterLeast.j0 (k + 1) y0 y1 y2 y3 y4 y5))
  | 0 => fun _ _ _ _ _ _ r h => by simp [carrefourlaw12_WebsterLeast.j0] at h
  | k + 1 => by
    have ih0 := carrefourlaw12_WebsterLeast.mono_l k
    · intro y0 y1 y2 y3 y4 y5
      unfold carrefourlaw12_WebsterLeast.j0
      repeat' first
      | (with_reducible exact ih0 _ _ _ _ _ _)
      | (with_reducible exact carrefourlaw12_awake.mono _)
      | (with_reducible exact carrefourref02_Cmp.mono _ _ _ _ _)
      | (with_reducible exact carrefourref02_Mul.mono _ _ _ _ _)
      | (with_reducible exact carrefourref02_Of.mono _ _ _)
      | (with_reducible exact webster_Cycle.mono _ _ _ _)
      | (with_reducible exact LeO.refl _)
      | (with_reducible exact LeO.none _)
      | (with_reducible refine LeO.ite ?_ ?_)
      | (with_reducible refine LeO.bind ?_ (fun _ => ?_))
      | exact ih0 _ _ _ _ _ _
      | exact carrefourlaw12_awake.mono _
      | exact carrefourref02_Cmp.mono _ _ _ _ _
      | exact carrefourref02_Mul.mono _ _ _ _ _
      | exact carrefourref02_Of.mono _ _ _
      | exact webster_Cycle.mono _ _ _ _
      | exact LeO.none _
      | refine LeO.ite ?_ ?_
      | refine LeO.bind ?_ (fun _ => ?_)
theorem carrefourlaw12_WebsterLeast.mono : ∀ a0 a1 a2 k, LeO (carrefourlaw12_WebsterLeast.f k a0 a1 a2) (carrefourlaw12_WebsterLeast.f (k + 1) a0 a1 a2) := by
  intro a0 a1 a2 k
  have ih0 := carrefourlaw12_WebsterLeast.mono_l k
  unfold carrefourlaw12_WebsterLeast.f
  repeat' first
      | (with_reducible exact ih0 _ _ _ _ _ _)
      | (with_reducible exact carrefourlaw12_awake.mono _)
      | (with_reducible exact carrefourref02_Cmp.mono _ _ _ _ _)
      | (with_reducible exact carrefourref02_Mul.mono _ _ _ _ _)
      | (with_reducible exact carrefourref02_Of.mono _ _ _)
      | (with_reducible exact webster_Cycle.mono _ _ _ _)
      | (with_reducible exact LeO.refl _)
      | (with_reducible exact LeO.none _)
      | (with_reducible refine LeO.ite ?_ ?_)
      | (with_reducible refine LeO.bind ?_ (fun _ => ?_))
      | exact ih0 _ _ _ _ _ _
      | exact carrefourlaw12_awake.mono _
      | exact carrefourref02_Cmp.mono _ _ _ _ _
      | exact carrefourref02_Mul.mono _ _ _ _ _
      | exact carrefourref02_Of.mono _ _ _
      | exact webster_Cycle.mono _ _ _ _
      | exact LeO.none _
      | refine LeO.ite ?_ ?_
      | refine LeO.bind ?_ (fun _ => ?_)
end Go.Proofs.YtpdmiookdmncpaaDoor.X
