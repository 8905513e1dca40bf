/- What the printed functions of packages order and carrefourref13 come to: counts, rising rows, the row at a place, rows that are the same.
   Conditions: as each theorem's head says. -/
import Derived.Test.YtnhnmbfhepeadaaXD
import Derived.Test.YtnhnmbfhepeadaaP13a
namespace Go.Proofs.Ytnhnmbfhepeadaa.Pure
set_option linter.unusedVariables false
open Go.RowKit Go.Proofs.Ytnhnmbfhepeadaa.X Go.Proofs.YtnhnmbfhepeadaaW.PrintWords Go.Proofs.YtnhnmbfhepeadaaW.PrintLast Go.Proofs.YtnhnmbfhepeadaaW.PrintMore

theorem Ev.eq {α : Type} {x : Option α} {r : α} (h : x = some r) : Ev (fun _ => x) r := ⟨0, fun _ _ => h⟩
theorem Ev.itep {α : Type} {c : Prop} [Decidable c] {A B : Nat → Option α} {r : α} (h : c) (k : Ev A r) : Ev (fun n => if c then A n else B n) r := by
  obtain ⟨K, k⟩ := k
  exact ⟨K, fun n hn => by show (if c then A n else B n) = some r; rw [if_pos h]; exact k n hn⟩
theorem Ev.iten {α : Type} {c : Prop} [Decidable c] {A B : Nat → Option α} {r : α} (h : ¬ c) (k : Ev B r) : Ev (fun n => if c then A n else B n) r := by
  obtain ⟨K, k⟩ := k
  exact ⟨K, fun n hn => by show (if c then A n else B n) = some r; rw [if_neg h]; exact k n hn⟩
theorem Ev.bindc {α β : Type} {x : Option α} {f : Nat → α → Option β} {a : α} {r : β} (h : x = some a) (k : Ev (fun n => f n a) r) : Ev (fun n => x.bind (f n)) r :=
  Ev.bind (Ev.eq h) k
theorem Ev.at_ {α : Type} {g : Nat → Option α} {r : α} (m : ∀ k, LeO (g k) (g (k + 1))) (K : Nat) (h : g K = some r) : Ev g r := by
  refine ⟨K, fun k hk => ?_⟩
  obtain ⟨d, rfl⟩ := Nat.exists_eq_add_of_le hk
  induction d with
  | zero => exact h
  | succ d ih => exact m (K + d) r (ih (by omega))
theorem w64 {x : Int} (h0 : -9223372036854775808 ≤ x) (h1 : x < 9223372036854775808) : wrap64 x = x := by
  unfold wrap64; omega

/-- The numbers from 0 on. -/
def up (n : Nat) : List Int := (List.range n).map fun i : Nat => (i : Int)
theorem up_length (n : Nat) : (up n).length = n := by simp [up]
theorem up_mem {n : Nat} {v : Int} : v ∈ up n ↔ 0 ≤ v ∧ v < n := by
  simp only [up, List.mem_map, List.mem_range]
  constructor
  · rintro ⟨i, hi, rfl⟩; omega
  · intro h; exact ⟨v.toNat, by omega, by omega⟩
theorem up_Up (n : Nat) : Up (up n) := by
  unfold Up up
  rw [List.pairwise_map]
  exact List.pairwise_lt_range.imp (fun h => by omega)
theorem up_nodup (n : Nat) : (up n).Nodup := (up_Up n).imp (fun h => by omega)
theorem rising_ev {n : Int} (h0 : 0 ≤ n) (h1 : n ≤ 8) : Ev (fun k => order_rising.f k n) (up n.toNat) := by
  have : n = 0 ∨ n = 1 ∨ n = 2 ∨ n = 3 ∨ n = 4 ∨ n = 5 ∨ n = 6 ∨ n = 7 ∨ n = 8 := by omega
  rcases this with rfl | rfl | rfl | rfl | rfl | rfl | rfl | rfl | rfl <;> exact Ev.at_ (order_rising.mono _) 20 (by decide +kernel)
theorem fac_le8 {m : Nat} (h : m ≤ 8) : fac m ≤ 40320 := by
  have : m = 0 ∨ m = 1 ∨ m = 2 ∨ m = 3 ∨ m = 4 ∨ m = 5 ∨ m = 6 ∨ m = 7 ∨ m = 8 := by omega
  rcases this with rfl | rfl | rfl | rfl | rfl | rfl | rfl | rfl | rfl <;> decide
theorem rd_nat (l : List Int) (i : Nat) : rd l (i : Int) = l.getD i 0 := by unfold rd; rw [Int.toNat_natCast]
theorem Same_l0 (a b : List Int) (hl : a.length = b.length) (hn : a.length < 9223372036854775807) (d : Nat) : ∀ i : Nat, a.length = i + d → Ev (fun k => carrefourref13_Same.l0 k a b (i : Int)) (decide (a.drop i = b.drop i)) := by
  induction d with
  | zero =>
    intro i hi
    refine Ev.step (f := fun _ => some true) (fun k => ?_) (by rw [List.drop_eq_nil_of_le (by omega), List.drop_eq_nil_of_le (by omega)]; exact Ev.now _)
    simp only [carrefourref13_Same.l0]
    rw [if_neg (by omega)]
  | succ d ih =>
    intro i hi
    have hw : wrap64 ((i : Int) + 1) = ((i + 1 : Nat) : Int) := by rw [w64 (by omega) (by omega)]; omega
    have ea : a.drop i = a.getD i 0 :: a.drop (i + 1) := by rw [getD_get (by omega)]; exact List.drop_eq_getElem_cons (by omega)
    have eb : b.drop i = b.getD i 0 :: b.drop (i + 1) := by rw [getD_get (by omega)]; exact List.drop_eq_getElem_cons (by omega)
    have H : Ev (fun k => if a.getD i 0 = b.getD i 0 then carrefourref13_Same.l0 k a b ((i + 1 : Nat) : Int) else some false) (decide (a.drop i = b.drop i)) := by
      by_cases h : a.getD i 0 = b.getD i 0
      · have : decide (a.drop i = b.drop i) = decide (a.drop (i + 1) = b.drop (i + 1)) := by rw [ea, eb, h]; simp
        rw [this]
        exact Ev.itep h (ih (i + 1) (by omega))
      · have : decide (a.drop i = b.drop i) = false := by rw [ea, eb]; simp only [List.cons.injEq, decide_eq_false_iff_not]; exact fun e => h e.1
        rw [this]
        exact Ev.iten h (Ev.now _)
    refine Ev.step (fun k => ?_) H
    simp only [carrefourref13_Same.l0]
    rw [if_pos (by omega), if_pos (by omega), if_pos (by omega), hw, rd_nat, rd_nat]
theorem Same_ev (a b : List Int) (hn : a.length < 9223372036854775807) : Ev (fun k => carrefourref13_Same.f k a b) (decide (a = b)) := by
  unfold carrefourref13_Same.f
  by_cases h : a.length = b.length
  · exact Ev.itep (by omega) (by simpa using Same_l0 a b h hn a.length 0 (by omega))
  · have : decide (a = b) = false := decide_eq_false fun e => h (by rw [e])
    rw [this]
    exact Ev.iten (by omega) (Ev.now _)
theorem awake13_ev : Ev (fun k => carrefourlaw13_awake.f k) true := Ev.at_ carrefourlaw13_awake.mono 40 (by decide +kernel)
end Go.Proofs.Ytnhnmbfhepeadaa.Pure
