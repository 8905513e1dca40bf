/- What the printed functions of packages order and carrefourref13 come to: counts, rising rows, the row at a place, rows that are the same.
   Conditions: as each theorem's head says. -/
import Derived.Test.YtnhnmbfhepeadaaXD
import Derived.Test.YtnhnmbfhepeadaaP13a
namespace Go.Proofs.Ytnhnmbfhepeadaa.Pure
set_option linter.unusedVariables false
open Go.RowKit Go.Proofs.Ytnhnmbfhepeadaa.X Go.Proofs.YtnhnmbfhepeadaaW.PrintWords Go.Proofs.YtnhnmbfhepeadaaW.PrintLast Go.Proofs.YtnhnmbfhepeadaaW.PrintMore

theorem Ev.itep {α : Type} {c : Prop} [Decidable c] {A B : Nat → Option α} {r : α} (h : c) (k : Ev A r) : Ev (fun n => if c then A n else B n) r := by
  obtain ⟨K, k⟩ := k
  exact ⟨K, fun n hn => by show (if c then A n else B n) = some r; rw [if_pos h]; exact k n hn⟩
theorem Ev.iten {α : Type} {c : Prop} [Decidable c] {A B : Nat → Option α} {r : α} (h : ¬ c) (k : Ev B r) : Ev (fun n => if c then A n else B n) r := by
  obtain ⟨K, k⟩ := k
  exact ⟨K, fun n hn => by show (if c then A n else B n) = some r; rw [if_neg h]; exact k n hn⟩
theorem Ev.at_ {α : Type} {g : Nat → Option α} {r : α} (m : ∀ k, LeO (g k) (g (k + 1))) (K : Nat) (h : g K = some r) : Ev g r := by
  refine ⟨K, fun k hk => ?_⟩
  obtain ⟨d, rfl⟩ := Nat.exists_eq_add_of_le hk
  induction d with
  | zero => exact h
  | succ d ih => exact m (K + d) r (ih (by omega))
theorem w64 {x : Int} (h0 : -9223372036854775808 ≤ x) (h1 : x < 9223372036854775808) : wrap64 x = x := by
  unfold wrap64; omega

/-- How many orders there are. -/
def cnt (n : Int) : Int := if 0 ≤ n ∧ n ≤ 8 then (fac n.toNat : Int) else 0
theorem Count_ev (n : Int) : Ev (fun k => order_Count.f k n) (cnt n) := by
  by_cases h : 0 ≤ n ∧ n ≤ 8
  · obtain ⟨h0, h1⟩ := h
    have : n = 0 ∨ n = 1 ∨ n = 2 ∨ n = 3 ∨ n = 4 ∨ n = 5 ∨ n = 6 ∨ n = 7 ∨ n = 8 := by omega
    rcases this with rfl | rfl | rfl | rfl | rfl | rfl | rfl | rfl | rfl <;> exact Ev.at_ (order_Count.mono _) 20 (by decide +kernel)
  · have e : cnt n = 0 := by unfold cnt; rw [if_neg h]
    rw [e]
    refine Ev.at_ (order_Count.mono _) 0 ?_
    unfold order_Count.f order_within.f
    by_cases h0 : 0 ≤ n
    · rw [if_pos h0, Option.bind_some, if_neg (by simp; omega)]
    · rw [if_neg h0]; rfl
/-- The numbers from 0 on. -/
def up (n : Nat) : List Int := (List.range n).map fun i : Nat => (i : Int)
theorem up_length (n : Nat) : (up n).length = n := by simp [up]
theorem up_Up (n : Nat) : Up (up n) := by
  unfold Up up
  rw [List.pairwise_map]
  exact List.pairwise_lt_range.imp (fun h => by omega)
theorem up_nodup (n : Nat) : (up n).Nodup := (up_Up n).imp (fun h => by omega)
theorem rising_ev {n : Int} (h0 : 0 ≤ n) (h1 : n ≤ 8) : Ev (fun k => order_rising.f k n) (up n.toNat) := by
  have : n = 0 ∨ n = 1 ∨ n = 2 ∨ n = 3 ∨ n = 4 ∨ n = 5 ∨ n = 6 ∨ n = 7 ∨ n = 8 := by omega
  rcases this with rfl | rfl | rfl | rfl | rfl | rfl | rfl | rfl | rfl <;> exact Ev.at_ (order_rising.mono _) 20 (by decide +kernel)
theorem cnt_nat {m : Nat} (h : m ≤ 8) : cnt (m : Int) = (fac m : Int) := by
  unfold cnt; rw [if_pos (by omega), Int.toNat_natCast]
theorem rd_nat (l : List Int) (i : Nat) : rd l (i : Int) = l.getD i 0 := by unfold rd; rw [Int.toNat_natCast]
theorem Nth_l0 (m : Nat) : ∀ (k : Nat) (left acc : List Int), left.length = m → acc.length + m ≤ 8 → k < fac m → Ev (fun q => order_Nth.l0 q (k : Int) left acc) (acc ++ nth m left k) := by
  induction m with
  | zero =>
    intro k left acc hl ha hk
    refine Ev.step (f := fun _ => some acc) (fun q => ?_) (by rw [show nth 0 left k = [] from rfl, List.append_nil]; exact Ev.now _)
    simp only [order_Nth.l0]
    rw [if_neg (by omega)]
  | succ m ih =>
    intro k left acc hl ha hk
    have hp := fac_pos m
    have hi : k / fac m < left.length := by rw [hl]; exact (Nat.div_lt_iff_lt_mul hp).2 hk
    have hd : Int.tdiv (k : Int) (fac m : Int) = ((k / fac m : Nat) : Int) := rfl
    have e3 : Int.tmod (k : Int) (fac m : Int) = ((k % fac m : Nat) : Int) := rfl
    have hr := Nat.mod_lt k hp
    have en : nth (m + 1) left k = left.getD (k / fac m) 0 :: nth m (left.eraseIdx (k / fac m)) (k % fac m) := rfl
    rw [en]
    generalize k / fac m = z at *
    generalize k % fac m = y at *
    have hm8 : m ≤ 8 := by omega
    have g4 : acc.length < 17592186044416 := by omega
    have e1 : wrap64 ((left.length : Int) - 1) = (m : Int) := by rw [w64 (by omega) (by omega)]; omega
    have e2 : wrap64 (Int.tdiv (k : Int) (fac m : Int)) = (z : Int) := by rw [hd, w64 (by omega) (by omega)]
    have hlen : (left.eraseIdx z).length = m := by rw [List.length_eraseIdx, if_pos hi]; rw [hl]; rfl
    have := ih y (left.eraseIdx z) (acc ++ [left.getD z 0]) hlen (by rw [List.length_append, List.length_singleton, Nat.add_assoc, Nat.add_comm 1]; exact ha) hr
    rw [List.append_assoc] at this
    have H : Ev (fun q => (order_Count.f q (m : Int)).bind fun b => (if 0 < b then (if 0 ≤ wrap64 (Int.tdiv (k : Int) b) then (if wrap64 (Int.tdiv (k : Int) b) < (left.length : Int) then (if acc.length < 17592186044416 then order_Nth.l0 q (Int.tmod (k : Int) b) (left.eraseIdx (wrap64 (Int.tdiv (k : Int) b)).toNat) (acc ++ [rd left (wrap64 (Int.tdiv (k : Int) b))]) else none) else none) else none) else none)) (acc ++ left.getD z 0 :: nth m (left.eraseIdx z) y) := by
      have hc := Count_ev (m : Int)
      rw [cnt_nat hm8] at hc
      refine Ev.bind hc ?_
      simp only [e2, e3, Int.toNat_natCast, rd_nat]
      have g1 : 0 < (fac m : Int) := Int.natCast_pos.2 hp
      have g2 : 0 ≤ (z : Int) := Int.natCast_nonneg z
      have g3 : (z : Int) < (left.length : Int) := Int.ofNat_lt.2 hi
      exact Ev.itep g1 (Ev.itep g2 (Ev.itep g3 (Ev.itep g4 this)))
    have g5 : (left.length : Int) > 0 := Int.natCast_pos.2 (Nat.lt_of_le_of_lt (Nat.zero_le _) hi)
    refine Ev.step (fun q => ?_) H
    simp only [order_Nth.l0]
    rw [if_pos g5, e1]
/-- The order at a place: none past the last one. -/
def nthZ (n k : Int) : List Int := if 0 ≤ k ∧ k < cnt n then nth n.toNat (up n.toNat) k.toNat else []
theorem cnt_in {n : Int} (h : 0 < cnt n) : 0 ≤ n ∧ n ≤ 8 := by
  unfold cnt at h
  split at h
  · assumption
  · omega
theorem cnt_toNat {n : Int} (h0 : 0 ≤ n) (h1 : n ≤ 8) : cnt n = (fac n.toNat : Int) := by unfold cnt; rw [if_pos ⟨h0, h1⟩]
theorem Nth_ev (n k : Int) : Ev (fun q => order_Nth.f q n k) (nthZ n k) := by
  unfold order_Nth.f nthZ
  by_cases h0 : k < 0
  · rw [if_neg (by omega)]; exact Ev.itep h0 (Ev.now _)
  · refine Ev.iten h0 (Ev.bind (Count_ev n) ?_)
    by_cases h1 : k ≥ cnt n
    · rw [if_neg (by omega)]; exact Ev.itep h1 (Ev.now _)
    · rw [if_pos (by omega)]
      obtain ⟨a, b⟩ := cnt_in (n := n) (by omega)
      rw [cnt_toNat a b] at h1
      have := Nth_l0 n.toNat k.toNat (up n.toNat) [] (up_length _) (by simp; omega) (by omega)
      rw [Int.toNat_of_nonneg (by omega), List.nil_append] at this
      exact Ev.iten (by rw [cnt_toNat a b]; exact h1) (Ev.bind (rising_ev a b) (Ev.itep a (Ev.itep (by omega) this)))
/-! ### rows that are the same -/
theorem awake13_ev : Ev (fun k => carrefourlaw13_awake.f k) true := Ev.at_ carrefourlaw13_awake.mono 40 (by decide +kernel)
end Go.Proofs.Ytnhnmbfhepeadaa.Pure
