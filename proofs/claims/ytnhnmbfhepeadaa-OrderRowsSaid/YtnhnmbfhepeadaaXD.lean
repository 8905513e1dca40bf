/- Walks: each '.calls' says that the Go function comes to what its Lean function tells. Conditions: as each theorem's head says. -/
import Derived.Test.YtnhnmbfhepeadaaX0
namespace Go.Proofs.Ytnhnmbfhepeadaa.X
open Go.RowKit Go.Proofs.YtnhnmbfhepeadaaW.PrintWords Go.Proofs.YtnhnmbfhepeadaaW.PrintLast Go.Proofs.YtnhnmbfhepeadaaW.PrintMore
attribute [local go_sem] max2_int min2_int max_two min_two max_three min_three max_four min_four   -- for this text's walks alone
set_option linter.unusedVariables false
set_option maxHeartbeats 8000000
set_option maxRecDepth 100000
set_option linter.unusedSimpArgs false

/-! ### order_within: function 23 -/
def order_within.f (a0 : Int) : Option (Bool) := if 0 ≤ a0 then (some (decide (a0 ≤ 8))) else (some false)
/-! ### order_Count: function 8 -/
def order_Count.l0 : Nat → Int → Int → Int → Option (Int)
  | 0, _, _, _ => none
  | k + 1, x3, x8, x9 => if x9 < x8 then (order_Count.l0 k (wrap64 (x3 * (wrap64 (x9 + 1)))) x8 (wrap64 (x9 + 1))) else (some x3)
def order_Count.f (k : Nat) (a0 : Int) : Option (Int) := (order_within.f a0).bind fun t101 => (if t101 = true then (order_Count.l0 k 1 a0 0) else (some 0))
theorem order_Count.mono_l : ∀ k, (∀ y0 y1 y2, LeO (order_Count.l0 k y0 y1 y2) (order_Count.l0 (k + 1) y0 y1 y2))
  | 0 => fun _ _ _ r h => by simp [order_Count.l0] at h
  | k + 1 => by
    have ih0 := order_Count.mono_l k
    · intro y0 y1 y2
      unfold order_Count.l0
      repeat' with_reducible first | exact ih0 _ _ _ | exact LeO.refl _ | exact LeO.none _ | refine LeO.ite ?_ ?_ | refine LeO.bind ?_ (fun _ => ?_)
theorem order_Count.mono : ∀ a0 k, LeO (order_Count.f k a0) (order_Count.f (k + 1) a0) := by
  intro a0 k
  have ih0 := order_Count.mono_l k
  unfold order_Count.f
  repeat' with_reducible first | exact ih0 _ _ _ | exact LeO.refl _ | exact LeO.none _ | refine LeO.ite ?_ ?_ | refine LeO.bind ?_ (fun _ => ?_)
/-! ### carrefourref13_Same: function 11 -/
def carrefourref13_Same.l0 : Nat → List Int → List Int → Int → Option (Bool)
  | 0, _, _, _ => none
  | k + 1, x0, x1, x5 => if x5 < (x0.length : Int) then (if 0 ≤ x5 then (if x5 < (x1.length : Int) then (if (rd x0 x5) = (rd x1 x5) then (carrefourref13_Same.l0 k x0 x1 (wrap64 (x5 + 1))) else (some false)) else (none)) else (none)) else (some true)
def carrefourref13_Same.f (k : Nat) (l0 : List Int) (l1 : List Int) : Option (Bool) := if (l0.length : Int) = (l1.length : Int) then (carrefourref13_Same.l0 k l0 l1 0) else (some false)
theorem carrefourref13_Same.mono_l : ∀ k, (∀ y0 y1 y2, LeO (carrefourref13_Same.l0 k y0 y1 y2) (carrefourref13_Same.l0 (k + 1) y0 y1 y2))
  | 0 => fun _ _ _ r h => by simp [carrefourref13_Same.l0] at h
  | k + 1 => by
    have ih0 := carrefourref13_Same.mono_l k
    · intro y0 y1 y2
      unfold carrefourref13_Same.l0
      repeat' with_reducible first | exact ih0 _ _ _ | exact LeO.refl _ | exact LeO.none _ | refine LeO.ite ?_ ?_ | refine LeO.bind ?_ (fun _ => ?_)
theorem carrefourref13_Same.mono : ∀ a0 a1 k, LeO (carrefourref13_Same.f k a0 a1) (carrefourref13_Same.f (k + 1) a0 a1) := by
  intro a0 a1 k
  have ih0 := carrefourref13_Same.mono_l k
  unfold carrefourref13_Same.f
  repeat' with_reducible first | exact ih0 _ _ _ | exact LeO.refl _ | exact LeO.none _ | refine LeO.ite ?_ ?_ | refine LeO.bind ?_ (fun _ => ?_)
/-! ### order_rising: function 24 -/
def order_rising.l0 : Nat → List Int → Int → Int → Option (List Int)
  | 0, _, _, _ => none
  | k + 1, x3, x7, x8 => if x8 < x7 then (if 0 ≤ x8 then (if x8 < (x3.length : Int) then (order_rising.l0 k (x3.set (x8 : Int).toNat x8) x7 (wrap64 (x8 + 1))) else (none)) else (none)) else (some x3)
def order_rising.f (k : Nat) (a0 : Int) : Option (List Int) := if 0 ≤ a0 then (if (a0 : Int).toNat ≤ 35184372088832 then (order_rising.l0 k (List.replicate (a0 : Int).toNat 0) a0 0) else (none)) else (none)
theorem order_rising.mono_l : ∀ k, (∀ y0 y1 y2, LeO (order_rising.l0 k y0 y1 y2) (order_rising.l0 (k + 1) y0 y1 y2))
  | 0 => fun _ _ _ r h => by simp [order_rising.l0] at h
  | k + 1 => by
    have ih0 := order_rising.mono_l k
    · intro y0 y1 y2
      unfold order_rising.l0
      repeat' with_reducible first | exact ih0 _ _ _ | exact LeO.refl _ | exact LeO.none _ | refine LeO.ite ?_ ?_ | refine LeO.bind ?_ (fun _ => ?_)
theorem order_rising.mono : ∀ a0 k, LeO (order_rising.f k a0) (order_rising.f (k + 1) a0) := by
  intro a0 k
  have ih0 := order_rising.mono_l k
  unfold order_rising.f
  repeat' with_reducible first | exact ih0 _ _ _ | exact LeO.refl _ | exact LeO.none _ | refine LeO.ite ?_ ?_ | refine LeO.bind ?_ (fun _ => ?_)
/-! ### order_Nth: function 12 -/
/-- order.Nth: told by hand (it shifts a row in place). -/
def order_Nth.l0 : Nat → Int → List Int → List Int → Option (List Int)
  | 0, _, _, _ => none
  | k + 1, x1, x5, x6 => if (x5.length : Int) > 0 then ((order_Count.f k (wrap64 ((x5.length : Int) - 1))).bind fun b => (if 0 < b then (if 0 ≤ wrap64 (Int.tdiv x1 b) then (if wrap64 (Int.tdiv x1 b) < (x5.length : Int) then (if x6.length < 17592186044416 then order_Nth.l0 k (Int.tmod x1 b) (x5.eraseIdx (wrap64 (Int.tdiv x1 b)).toNat) (x6 ++ [rd x5 (wrap64 (Int.tdiv x1 b))]) else none) else none) else none) else none)) else some x6
def order_Nth.f (k : Nat) (a0 : Int) (a1 : Int) : Option (List Int) := if a1 < 0 then (some ([] : List Int)) else ((order_Count.f k a0).bind fun c => (if a1 ≥ c then (some ([] : List Int)) else ((order_rising.f k a0).bind fun l => (if 0 ≤ a0 then (if a0 ≤ 1000 then order_Nth.l0 k a1 l [] else none) else none))))
theorem order_Nth.mono_l : ∀ k, (∀ y0 y1 y2, LeO (order_Nth.l0 k y0 y1 y2) (order_Nth.l0 (k + 1) y0 y1 y2))
  | 0 => fun _ _ _ r h => by simp [order_Nth.l0] at h
  | k + 1 => by
    have ih0 := order_Nth.mono_l k
    · intro y0 y1 y2
      unfold order_Nth.l0
      repeat' with_reducible first | exact ih0 _ _ _ | exact order_Count.mono _ _ | exact LeO.refl _ | exact LeO.none _ | refine LeO.ite ?_ ?_ | refine LeO.bind ?_ (fun _ => ?_)
theorem order_Nth.mono : ∀ a0 a1 k, LeO (order_Nth.f k a0 a1) (order_Nth.f (k + 1) a0 a1) := by
  intro a0 a1 k
  have ih0 := order_Nth.mono_l k
  unfold order_Nth.f
  repeat' with_reducible first | exact ih0 _ _ _ | exact order_Count.mono _ _ | exact order_rising.mono _ _ | exact LeO.refl _ | exact LeO.none _ | refine LeO.ite ?_ ?_ | refine LeO.bind ?_ (fun _ => ?_)
/-! ### order_right: function 26 -/
/-- order.right: told by hand (it keeps an array of marks). -/
def order_right.l0 : Nat → List Int → List Bool → Int → Option Bool
  | 0, _, _, _ => none
  | k + 1, x0, s, x8 => if x8 < (x0.length : Int) then (if 0 ≤ x8 then (if (x0.length : Int) > 8 then (some false) else (if rd x0 x8 < 0 then (some false) else (if rd x0 x8 ≥ (x0.length : Int) then (some false) else (if s.getD (rd x0 x8).toNat false = true then (some false) else (order_right.l0 k x0 (s.set (rd x0 x8).toNat true) (wrap64 (x8 + 1))))))) else none) else (some true)
def order_right.f (k : Nat) (l0 : List Int) : Option Bool := order_right.l0 k l0 [false, false, false, false, false, false, false, false] 0
theorem order_right.mono_l : ∀ k, (∀ y0 y1 y2, LeO (order_right.l0 k y0 y1 y2) (order_right.l0 (k + 1) y0 y1 y2))
  | 0 => fun _ _ _ r h => by simp [order_right.l0] at h
  | k + 1 => by
    have ih0 := order_right.mono_l k
    · intro y0 y1 y2
      unfold order_right.l0
      repeat' with_reducible first | exact ih0 _ _ _ | exact LeO.refl _ | exact LeO.none _ | refine LeO.ite ?_ ?_ | refine LeO.bind ?_ (fun _ => ?_)
theorem order_right.mono : ∀ a0 k, LeO (order_right.f k a0) (order_right.f (k + 1) a0) := fun a0 k => order_right.mono_l k _ _ _
/-! ### slices_Clone_int_int: function 27 -/
/-- slices.Clone of a row that is there (not nil): told by hand. -/
def slices_Clone_int_int.f (l0 : List Int) : Option (List Int) := if l0.length < 17592186044416 then some l0 else none
/-! ### slices_Reverse_int_int: function 28 -/
/-- slices.Reverse of a cut of a row: told by hand. The block's cells are 'pre', the cut's numbers, 'post'. -/
def slices_Reverse_int_int.l0 : Nat → List Int → Int → Int → Option (List Int)
  | 0, _, _, _ => none
  | k + 1, x0, x2, x3 => if x2 < x3 then (if 0 ≤ x3 then (if x3 < (x0.length : Int) then (if 0 ≤ x2 then (if x2 < (x0.length : Int) then (slices_Reverse_int_int.l0 k ((x0.set (x2 : Int).toNat (rd x0 x3)).set (x3 : Int).toNat (rd x0 x2)) (wrap64 (x2 + 1)) (wrap64 (x3 - 1))) else (none)) else (none)) else (none)) else (none)) else (some x0)
def slices_Reverse_int_int.f (k : Nat) (l0 : List Int) : Option (List Int) := slices_Reverse_int_int.l0 k l0 0 (wrap64 ((l0.length : Int) - 1))
theorem slices_Reverse_int_int.mono_l : ∀ k, (∀ y0 y1 y2, LeO (slices_Reverse_int_int.l0 k y0 y1 y2) (slices_Reverse_int_int.l0 (k + 1) y0 y1 y2))
  | 0 => fun _ _ _ r h => by simp [slices_Reverse_int_int.l0] at h
  | k + 1 => by
    have ih0 := slices_Reverse_int_int.mono_l k
    · intro y0 y1 y2
      unfold slices_Reverse_int_int.l0
      repeat' with_reducible first | exact ih0 _ _ _ | exact LeO.refl _ | exact LeO.none _ | refine LeO.ite ?_ ?_ | refine LeO.bind ?_ (fun _ => ?_)
theorem slices_Reverse_int_int.mono : ∀ a0 k, LeO (slices_Reverse_int_int.f k a0) (slices_Reverse_int_int.f (k + 1) a0) := fun a0 k => slices_Reverse_int_int.mono_l k _ _ _
/-! ### order_Next: function 14 -/
/-- order.Next: told by hand (it turns a cut of a row in place). -/
def order_Next.l1 : Nat → Int → List Int → Int → Option (List Int × Bool)
  | 0, _, _, _ => none
  | k + 1, x4, x5, x6 => if 0 ≤ x6 then (if x6 < (x5.length : Int) then (if 0 ≤ x4 then (if x4 < (x5.length : Int) then (if rd x5 x6 < rd x5 x4 then order_Next.l1 k x4 x5 (wrap64 (x6 - 1)) else (if 0 ≤ wrap64 (x4 + 1) then (if wrap64 (x4 + 1) < (x5.length : Int) then ((slices_Reverse_int_int.f k (((x5.set x4.toNat (rd x5 x6)).set x6.toNat (rd x5 x4)).drop (wrap64 (x4 + 1)).toNat)).bind fun t => some (((x5.set x4.toNat (rd x5 x6)).set x6.toNat (rd x5 x4)).take (wrap64 (x4 + 1)).toNat ++ t, true)) else none) else none)) else none) else none) else none) else none
def order_Next.l0 : Nat → List Int → Int → Option (List Int × Bool)
  | 0, _, _ => none
  | k + 1, x0, x4 => if 0 ≤ x4 then (if x4 < (x0.length : Int) then (if 0 ≤ wrap64 (x4 + 1) then (if wrap64 (x4 + 1) < (x0.length : Int) then (if rd x0 x4 > rd x0 (wrap64 (x4 + 1)) then order_Next.l0 k x0 (wrap64 (x4 - 1)) else ((slices_Clone_int_int.f x0).bind fun t => order_Next.l1 k x4 t (wrap64 ((t.length : Int) - 1)))) else none) else none) else none) else some (([] : List Int), false)
def order_Next.f (k : Nat) (l0 : List Int) : Option (List Int × Bool) := (order_right.f k l0).bind fun t => if t = true then order_Next.l0 k l0 (wrap64 ((l0.length : Int) - 2)) else some (([] : List Int), false)
theorem order_Next.mono_l1 : ∀ k, (∀ y0 y1 y2, LeO (order_Next.l1 k y0 y1 y2) (order_Next.l1 (k + 1) y0 y1 y2))
  | 0 => fun _ _ _ r h => by simp [order_Next.l1] at h
  | k + 1 => by
    have ih0 := order_Next.mono_l1 k
    · intro y0 y1 y2
      unfold order_Next.l1
      repeat' with_reducible first | exact ih0 _ _ _ | exact slices_Reverse_int_int.mono _ _ | exact LeO.refl _ | exact LeO.none _ | refine LeO.ite ?_ ?_ | refine LeO.bind ?_ (fun _ => ?_)
theorem order_Next.mono_l : ∀ k, (∀ y0 y1, LeO (order_Next.l0 k y0 y1) (order_Next.l0 (k + 1) y0 y1))
  | 0 => fun _ _ r h => by simp [order_Next.l0] at h
  | k + 1 => by
    have ih0 := order_Next.mono_l k
    · intro y0 y1
      unfold order_Next.l0
      repeat' with_reducible first | exact ih0 _ _ | exact order_Next.mono_l1 k _ _ _ | exact LeO.refl _ | exact LeO.none _ | refine LeO.ite ?_ ?_ | refine LeO.bind ?_ (fun _ => ?_)
theorem order_Next.mono : ∀ a0 k, LeO (order_Next.f k a0) (order_Next.f (k + 1) a0) := by
  intro a0 k
  have ih0 := order_Next.mono_l k
  unfold order_Next.f
  repeat' with_reducible first | exact ih0 _ _ | exact order_right.mono _ _ | exact LeO.refl _ | exact LeO.none _ | refine LeO.ite ?_ ?_ | refine LeO.bind ?_ (fun _ => ?_)
/-! ### order_Rank: function 16 -/
mutual
def order_Rank.l0 : Nat → List Int → Int → List Int → Int → Int → Option (Int)
  | 0, _, _, _, _, _ => none
  | k + 1, x0, x3, x12, x13, x14 => if x14 < x13 then (if 0 ≤ x14 then (if x14 < (x12.length : Int) then (if 0 ≤ (wrap64 (x14 + 1)) then (if (wrap64 (x14 + 1)) ≤ (x0.length : Int) then (order_Rank.l1 k x0 x3 x14 (rd x12 x14) 0 x12 x13 x14 (x0.drop ((wrap64 (x14 + 1)) : Int).toNat) ((x0.drop ((wrap64 (x14 + 1)) : Int).toNat).length : Int) 0) else (none)) else (none)) else (none)) else (none)) else (some x3)
def order_Rank.l1 : Nat → List Int → Int → Int → Int → Int → List Int → Int → Int → List Int → Int → Int → Option (Int)
  | 0, _, _, _, _, _, _, _, _, _, _, _ => none
  | k + 1, x0, x3, x4, x5, x6, x12, x13, x14, x22, x23, x24 => if x24 < x23 then (if 0 ≤ x24 then (if x24 < (x22.length : Int) then (if (rd x22 x24) < x5 then (order_Rank.l1 k x0 x3 x4 x5 (wrap64 (x6 + 1)) x12 x13 x14 x22 x23 (wrap64 (x24 + 1))) else (order_Rank.l1 k x0 x3 x4 x5 x6 x12 x13 x14 x22 x23 (wrap64 (x24 + 1)))) else (none)) else (none)) else ((order_Count.f k (wrap64 ((wrap64 ((x0.length : Int) - x4)) - 1))).bind fun t112 => (order_Rank.l0 k x0 (wrap64 (x3 + (wrap64 (x6 * t112)))) x12 x13 (wrap64 (x14 + 1))))
end
def order_Rank.f (k : Nat) (l0 : List Int) : Option (Int) := (order_right.f k l0).bind fun t108 => (if t108 = true then (order_Rank.l0 k l0 0 l0 (l0.length : Int) 0) else (some (-1)))
theorem order_Rank.mono_l : ∀ k, (∀ y0 y1 y2 y3 y4, LeO (order_Rank.l0 k y0 y1 y2 y3 y4) (order_Rank.l0 (k + 1) y0 y1 y2 y3 y4)) ∧ (∀ y0 y1 y2 y3 y4 y5 y6 y7 y8 y9 y10, LeO (order_Rank.l1 k y0 y1 y2 y3 y4 y5 y6 y7 y8 y9 y10) (order_Rank.l1 (k + 1) y0 y1 y2 y3 y4 y5 y6 y7 y8 y9 y10))
  | 0 => ⟨fun _ _ _ _ _ r h => by simp [order_Rank.l0] at h, fun _ _ _ _ _ _ _ _ _ _ _ r h => by simp [order_Rank.l1] at h⟩
  | k + 1 => by
    obtain ⟨ih0, ih1⟩ := order_Rank.mono_l k
    refine ⟨?_, ?_⟩
    · intro y0 y1 y2 y3 y4
      unfold order_Rank.l0
      repeat' with_reducible first | exact ih0 _ _ _ _ _ | exact ih1 _ _ _ _ _ _ _ _ _ _ _ | exact order_Count.mono _ _ | exact order_right.mono _ _ | exact LeO.refl _ | exact LeO.none _ | refine LeO.ite ?_ ?_ | refine LeO.bind ?_ (fun _ => ?_)
    · intro y0 y1 y2 y3 y4 y5 y6 y7 y8 y9 y10
      unfold order_Rank.l1
      repeat' with_reducible first | exact ih0 _ _ _ _ _ | exact ih1 _ _ _ _ _ _ _ _ _ _ _ | exact order_Count.mono _ _ | exact order_right.mono _ _ | exact LeO.refl _ | exact LeO.none _ | refine LeO.ite ?_ ?_ | refine LeO.bind ?_ (fun _ => ?_)
theorem order_Rank.mono : ∀ a0 k, LeO (order_Rank.f k a0) (order_Rank.f (k + 1) a0) := by
  intro a0 k
  obtain ⟨ih0, ih1⟩ := order_Rank.mono_l k
  unfold order_Rank.f
  repeat' with_reducible first | exact ih0 _ _ _ _ _ | exact ih1 _ _ _ _ _ _ _ _ _ _ _ | exact order_Count.mono _ _ | exact order_right.mono _ _ | exact LeO.refl _ | exact LeO.none _ | refine LeO.ite ?_ ?_ | refine LeO.bind ?_ (fun _ => ?_)
/-! ### carrefourlaw13_awake: function 10 -/
def carrefourlaw13_awake.f (k : Nat)  : Option (Bool) := (order_Next.f k (([0, 2, 1] : List Int))).bind fun bt116 => ((order_Nth.f k 3 3).bind fun t120 => ((carrefourref13_Same.f k t120 (([1, 2, 0] : List Int))).bind fun t126 => (if t126 = true then ((order_Rank.f k (([2, 1, 0] : List Int))).bind fun t130 => (if t130 = 5 then (if bt116.2 = true then ((carrefourref13_Same.f k bt116.1 (([1, 0, 2] : List Int))).bind fun t134 => (if t134 = true then ((order_Count.f k 4).bind fun t135 => (some (t135 == 24))) else (some false))) else (some false)) else (some false))) else (some false))))
theorem carrefourlaw13_awake.mono : ∀ k, LeO (carrefourlaw13_awake.f k ) (carrefourlaw13_awake.f (k + 1) ) := by
  intro  k
  unfold carrefourlaw13_awake.f
  repeat' with_reducible first | exact carrefourref13_Same.mono _ _ _ | exact order_Count.mono _ _ | exact order_Next.mono _ _ | exact order_Nth.mono _ _ _ | exact order_Rank.mono _ _ | exact LeO.refl _ | exact LeO.none _ | refine LeO.ite ?_ ?_ | refine LeO.bind ?_ (fun _ => ?_)
/-! ### order_Rows: function 21 -/
/-- order.Rows: told by hand (the row that was made last lies in the rows and is read on). -/
def order_Rows.l0 : Nat → Bool → List Int → List (List Int) → Option (List (List Int))
  | 0, _, _, _ => none
  | k + 1, x0, x5, x6 => if x0 = true then ((order_Next.f k x5).bind fun t => if t.2 = true then (if x6.length < 5864062014805 then order_Rows.l0 k x0 t.1 (x6 ++ [t.1]) else none) else some x6) else some x6
def order_Rows.f (k : Nat) (b0 : Bool) (a1 : Int) : Option (List (List Int)) := (order_within.f a1).bind fun t => if t = true then ((order_rising.f k a1).bind fun p => order_Rows.l0 k b0 p [p]) else some ([] : List (List Int))
theorem order_Rows.mono_l : ∀ k, (∀ y0 y1 y2, LeO (order_Rows.l0 k y0 y1 y2) (order_Rows.l0 (k + 1) y0 y1 y2))
  | 0 => fun _ _ _ r h => by simp [order_Rows.l0] at h
  | k + 1 => by
    have ih0 := order_Rows.mono_l k
    · intro y0 y1 y2
      unfold order_Rows.l0
      repeat' with_reducible first | exact ih0 _ _ _ | exact order_Next.mono _ _ | exact LeO.refl _ | exact LeO.none _ | refine LeO.ite ?_ ?_ | refine LeO.bind ?_ (fun _ => ?_)
theorem order_Rows.mono : ∀ b0 a1 k, LeO (order_Rows.f k b0 a1) (order_Rows.f (k + 1) b0 a1) := by
  intro b0 a1 k
  have ih0 := order_Rows.mono_l k
  unfold order_Rows.f
  repeat' with_reducible first | exact ih0 _ _ _ | exact order_rising.mono _ _ | exact LeO.refl _ | exact LeO.none _ | refine LeO.ite ?_ ?_ | refine LeO.bind ?_ (fun _ => ?_)
/-! ### carrefourref13_has: function 29 -/
def carrefourref13_has.l0 : Nat → List Int → Int → Int → Option (Bool)
  | 0, _, _, _ => none
  | k + 1, x0, x1, x5 => if x5 < (x0.length : Int) then (if 0 ≤ x5 then (if (rd x0 x5) = x1 then (some true) else (carrefourref13_has.l0 k x0 x1 (wrap64 (x5 + 1)))) else (none)) else (some false)
def carrefourref13_has.f (k : Nat) (l0 : List Int) (a1 : Int) : Option (Bool) := carrefourref13_has.l0 k l0 a1 0
theorem carrefourref13_has.mono_l : ∀ k, (∀ y0 y1 y2, LeO (carrefourref13_has.l0 k y0 y1 y2) (carrefourref13_has.l0 (k + 1) y0 y1 y2))
  | 0 => fun _ _ _ r h => by simp [carrefourref13_has.l0] at h
  | k + 1 => by
    have ih0 := carrefourref13_has.mono_l k
    · intro y0 y1 y2
      unfold carrefourref13_has.l0
      repeat' with_reducible first | exact ih0 _ _ _ | exact LeO.refl _ | exact LeO.none _ | refine LeO.ite ?_ ?_ | refine LeO.bind ?_ (fun _ => ?_)
theorem carrefourref13_has.mono : ∀ a0 a1 k, LeO (carrefourref13_has.f k a0 a1) (carrefourref13_has.f (k + 1) a0 a1) := by
  intro a0 a1 k
  have ih0 := carrefourref13_has.mono_l k
  unfold carrefourref13_has.f
  repeat' with_reducible first | exact ih0 _ _ _ | exact LeO.refl _ | exact LeO.none _ | refine LeO.ite ?_ ?_ | refine LeO.bind ?_ (fun _ => ?_)
/-! ### carrefourref13_Orders: function 25 -/
mutual
def carrefourref13_Orders.j0 : Nat → Int → Bool → Option ((List (List Int)))
  | 0, _, _ => none
  | k + 1, x0, x13 => if x13 = true then (some ([] : List (List Int))) else (carrefourref13_Orders.l0 k x0 (([(([] : List Int))] : List (List Int))) 0)
def carrefourref13_Orders.l0 : Nat → Int → List (List Int) → Int → Option ((List (List Int)))
  | 0, _, _, _ => none
  | k + 1, x0, x3, x4 => if x4 < x0 then (carrefourref13_Orders.l1 k x0 x3 x4 ([] : List (List Int)) 0) else (some x3)
def carrefourref13_Orders.l1 : Nat → Int → List (List Int) → Int → List (List Int) → Int → Option ((List (List Int)))
  | 0, _, _, _, _, _ => none
  | k + 1, x0, x3, x4, x5, x6 => if x6 < (x3.length : Int) then (carrefourref13_Orders.l2 k x0 x3 x4 x5 x6 0) else (carrefourref13_Orders.l0 k x0 x5 (wrap64 (x4 + 1)))
def carrefourref13_Orders.l2 : Nat → Int → List (List Int) → Int → List (List Int) → Int → Int → Option ((List (List Int)))
  | 0, _, _, _, _, _, _ => none
  | k + 1, x0, x3, x4, x5, x6, x7 => if x7 < x0 then (if 0 ≤ x6 then (if x6 < (x3.length : Int) then ((carrefourref13_has.f k (rd_L1 x3 x6) x7).bind fun t144 => (if t144 = true then (carrefourref13_Orders.l2 k x0 x3 x4 x5 x6 (wrap64 (x7 + 1))) else ((some (([] : List Int) : List Int)).bind fun y145 => (if y145.length + (rd_L1 x3 x6).length < 17592186044416 then ((some (y145 ++ (rd_L1 x3 x6) : List Int)).bind fun y149 => (if y149.length < 17592186044416 then (if x5.length < 5864062014805 then (carrefourref13_Orders.l2 k x0 x3 x4 (x5 ++ [(y149 ++ [x7])]) x6 (wrap64 (x7 + 1))) else (none)) else (none))) else (none))))) else (none)) else (none)) else (carrefourref13_Orders.l1 k x0 x3 x4 x5 (wrap64 (x6 + 1)))
end
def carrefourref13_Orders.f (k : Nat) (a0 : Int) : Option ((List (List Int))) := if a0 < 0 then (carrefourref13_Orders.j0 k a0 true) else (carrefourref13_Orders.j0 k a0 (decide (a0 > 8)))
theorem carrefourref13_Orders.mono_l : ∀ k, (∀ y0 y1, LeO (carrefourref13_Orders.j0 k y0 y1) (carrefourref13_Orders.j0 (k + 1) y0 y1)) ∧ (∀ y0 y1 y2, LeO (carrefourref13_Orders.l0 k y0 y1 y2) (carrefourref13_Orders.l0 (k + 1) y0 y1 y2)) ∧ (∀ y0 y1 y2 y3 y4, LeO (carrefourref13_Orders.l1 k y0 y1 y2 y3 y4) (carrefourref13_Orders.l1 (k + 1) y0 y1 y2 y3 y4)) ∧ (∀ y0 y1 y2 y3 y4 y5, LeO (carrefourref13_Orders.l2 k y0 y1 y2 y3 y4 y5) (carrefourref13_Orders.l2 (k + 1) y0 y1 y2 y3 y4 y5))
  | 0 => ⟨fun _ _ r h => by simp [carrefourref13_Orders.j0] at h, fun _ _ _ r h => by simp [carrefourref13_Orders.l0] at h, fun _ _ _ _ _ r h => by simp [carrefourref13_Orders.l1] at h, fun _ _ _ _ _ _ r h => by simp [carrefourref13_Orders.l2] at h⟩
  | k + 1 => by
    obtain ⟨ih0, ih1, ih2, ih3⟩ := carrefourref13_Orders.mono_l k
    refine ⟨?_, ?_, ?_, ?_⟩
    · intro y0 y1
      unfold carrefourref13_Orders.j0
      repeat' with_reducible first | exact ih0 _ _ | exact ih1 _ _ _ | exact ih2 _ _ _ _ _ | exact ih3 _ _ _ _ _ _ | exact carrefourref13_has.mono _ _ _ | exact LeO.refl _ | exact LeO.none _ | refine LeO.ite ?_ ?_ | refine LeO.bind ?_ (fun _ => ?_)
    · intro y0 y1 y2
      unfold carrefourref13_Orders.l0
      repeat' with_reducible first | exact ih0 _ _ | exact ih1 _ _ _ | exact ih2 _ _ _ _ _ | exact ih3 _ _ _ _ _ _ | exact carrefourref13_has.mono _ _ _ | exact LeO.refl _ | exact LeO.none _ | refine LeO.ite ?_ ?_ | refine LeO.bind ?_ (fun _ => ?_)
    · intro y0 y1 y2 y3 y4
      unfold carrefourref13_Orders.l1
      repeat' with_reducible first | exact ih0 _ _ | exact ih1 _ _ _ | exact ih2 _ _ _ _ _ | exact ih3 _ _ _ _ _ _ | exact carrefourref13_has.mono _ _ _ | exact LeO.refl _ | exact LeO.none _ | refine LeO.ite ?_ ?_ | refine LeO.bind ?_ (fun _ => ?_)
    · intro y0 y1 y2 y3 y4 y5
      unfold carrefourref13_Orders.l2
      repeat' with_reducible first | exact ih0 _ _ | exact ih1 _ _ _ | exact ih2 _ _ _ _ _ | exact ih3 _ _ _ _ _ _ | exact carrefourref13_has.mono _ _ _ | exact LeO.refl _ | exact LeO.none _ | refine LeO.ite ?_ ?_ | refine LeO.bind ?_ (fun _ => ?_)
theorem carrefourref13_Orders.mono : ∀ a0 k, LeO (carrefourref13_Orders.f k a0) (carrefourref13_Orders.f (k + 1) a0) := by
  intro a0 k
  obtain ⟨ih0, ih1, ih2, ih3⟩ := carrefourref13_Orders.mono_l k
  unfold carrefourref13_Orders.f
  repeat' with_reducible first | exact ih0 _ _ | exact ih1 _ _ _ | exact ih2 _ _ _ _ _ | exact ih3 _ _ _ _ _ _ | exact carrefourref13_has.mono _ _ _ | exact LeO.refl _ | exact LeO.none _ | refine LeO.ite ?_ ?_ | refine LeO.bind ?_ (fun _ => ?_)
/-! ### carrefourref13_Rows: function 22 -/
def carrefourref13_Rows.f (k : Nat) (a0 : Bool) (a1 : Int) : Option ((List (List Int))) := (carrefourref13_Orders.f k a1).bind fun t158 => (if a0 = true then (some t158) else (if (t158.length : Int) > 1 then (if 1 ≤ (t158.length : Int) then (some (t158.take (1 : Int).toNat)) else (none)) else (some t158)))
theorem carrefourref13_Rows.mono : ∀ a0 a1 k, LeO (carrefourref13_Rows.f k a0 a1) (carrefourref13_Rows.f (k + 1) a0 a1) := by
  intro a0 a1 k
  unfold carrefourref13_Rows.f
  repeat' with_reducible first | exact carrefourref13_Orders.mono _ _ | exact LeO.refl _ | exact LeO.none _ | refine LeO.ite ?_ ?_ | refine LeO.bind ?_ (fun _ => ?_)
/-! ### carrefourlaw13_OrderRows: function 7 -/
mutual
def carrefourlaw13_OrderRows.j0 : Nat → Bool → Int → Bool → Option (Bool)
  | 0, _, _, _ => none
  | k + 1, x0, x1, x13 => if x13 = true then (some true) else ((order_Rows.f k x0 x1).bind fun t164 => ((carrefourref13_Rows.f k x0 x1).bind fun t167 => (if (t164.length : Int) = (t167.length : Int) then (carrefourlaw13_OrderRows.l0 k t164 t167 0) else (some false))))
def carrefourlaw13_OrderRows.l0 : Nat → List (List Int) → List (List Int) → Int → Option (Bool)
  | 0, _, _, _ => none
  | k + 1, x5, x6, x7 => if x7 < (x5.length : Int) then (if 0 ≤ x7 then (if x7 < (x6.length : Int) then ((carrefourref13_Same.f k (rd_L1 x5 x7) (rd_L1 x6 x7)).bind fun t172 => (if t172 = true then (carrefourlaw13_OrderRows.l0 k x5 x6 (wrap64 (x7 + 1))) else (some false))) else (none)) else (none)) else ((carrefourlaw13_awake.f k).bind fun t173 => (some t173))
end
def carrefourlaw13_OrderRows.f (k : Nat) (a0 : Bool) (a1 : Int) : Option (Bool) := if a1 > 5 then (carrefourlaw13_OrderRows.j0 k a0 a1 (decide (a1 ≤ 8))) else (carrefourlaw13_OrderRows.j0 k a0 a1 false)
theorem carrefourlaw13_OrderRows.mono_l : ∀ k, (∀ y0 y1 y2, LeO (carrefourlaw13_OrderRows.j0 k y0 y1 y2) (carrefourlaw13_OrderRows.j0 (k + 1) y0 y1 y2)) ∧ (∀ y0 y1 y2, LeO (carrefourlaw13_OrderRows.l0 k y0 y1 y2) (carrefourlaw13_OrderRows.l0 (k + 1) y0 y1 y2))
  | 0 => ⟨fun _ _ _ r h => by simp [carrefourlaw13_OrderRows.j0] at h, fun _ _ _ r h => by simp [carrefourlaw13_OrderRows.l0] at h⟩
  | k + 1 => by
    obtain ⟨ih0, ih1⟩ := carrefourlaw13_OrderRows.mono_l k
    refine ⟨?_, ?_⟩
    · intro y0 y1 y2
      unfold carrefourlaw13_OrderRows.j0
      repeat' with_reducible first | exact ih0 _ _ _ | exact ih1 _ _ _ | exact carrefourlaw13_awake.mono _ | exact carrefourref13_Rows.mono _ _ _ | exact carrefourref13_Same.mono _ _ _ | exact order_Rows.mono _ _ _ | exact LeO.refl _ | exact LeO.none _ | refine LeO.ite ?_ ?_ | refine LeO.bind ?_ (fun _ => ?_)
    · intro y0 y1 y2
      unfold carrefourlaw13_OrderRows.l0
      repeat' with_reducible first | exact ih0 _ _ _ | exact ih1 _ _ _ | exact carrefourlaw13_awake.mono _ | exact carrefourref13_Rows.mono _ _ _ | exact carrefourref13_Same.mono _ _ _ | exact order_Rows.mono _ _ _ | exact LeO.refl _ | exact LeO.none _ | refine LeO.ite ?_ ?_ | refine LeO.bind ?_ (fun _ => ?_)
theorem carrefourlaw13_OrderRows.mono : ∀ a0 a1 k, LeO (carrefourlaw13_OrderRows.f k a0 a1) (carrefourlaw13_OrderRows.f (k + 1) a0 a1) := by
  intro a0 a1 k
  obtain ⟨ih0, ih1⟩ := carrefourlaw13_OrderRows.mono_l k
  unfold carrefourlaw13_OrderRows.f
  repeat' with_reducible first | exact ih0 _ _ _ | exact ih1 _ _ _ | exact carrefourlaw13_awake.mono _ | exact carrefourref13_Rows.mono _ _ _ | exact carrefourref13_Same.mono _ _ _ | exact order_Rows.mono _ _ _ | exact LeO.refl _ | exact LeO.none _ | refine LeO.ite ?_ ?_ | refine LeO.bind ?_ (fun _ => ?_)
end Go.Proofs.Ytnhnmbfhepeadaa.X
