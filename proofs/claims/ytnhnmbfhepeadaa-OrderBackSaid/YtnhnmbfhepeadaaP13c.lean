/- The reference's orders, one behind the other: the row at each place.
   Conditions: as each theorem's head says. -/
import Derived.Test.YtnhnmbfhepeadaaP13b
namespace Go.Proofs.Ytnhnmbfhepeadaa.Pure
set_option linter.unusedVariables false
open Go.RowKit Go.Proofs.Ytnhnmbfhepeadaa.X Go.Proofs.YtnhnmbfhepeadaaW.PrintWords Go.Proofs.YtnhnmbfhepeadaaW.PrintLast Go.Proofs.YtnhnmbfhepeadaaW.PrintMore

theorem has_l0 (l : List Int) (v : Int) (hn : l.length < 9223372036854775807) (d : Nat) : ∀ i : Nat, l.length = i + d → Ev (fun k => carrefourref13_has.l0 k l v (i : Int)) (decide (v ∈ l.drop i)) := by
  induction d with
  | zero =>
    intro i hi
    refine Ev.step (f := fun _ => some false) (fun k => ?_) (by rw [List.drop_eq_nil_of_le (by omega)]; exact Ev.now _)
    simp only [carrefourref13_has.l0]
    rw [if_neg (by omega)]
  | succ d ih =>
    intro i hi
    have hw : wrap64 ((i : Int) + 1) = ((i + 1 : Nat) : Int) := by rw [w64 (by omega) (by omega)]; omega
    have ea : l.drop i = l.getD i 0 :: l.drop (i + 1) := by rw [getD_get (by omega)]; exact List.drop_eq_getElem_cons (by omega)
    have H : Ev (fun k => if l.getD i 0 = v then some true else carrefourref13_has.l0 k l v ((i + 1 : Nat) : Int)) (decide (v ∈ l.drop i)) := by
      by_cases h : l.getD i 0 = v
      · have : decide (v ∈ l.drop i) = true := decide_eq_true (by rw [ea, h]; exact List.mem_cons_self)
        rw [this]
        exact Ev.itep h (Ev.now _)
      · have : decide (v ∈ l.drop i) = decide (v ∈ l.drop (i + 1)) := by rw [ea]; simp only [List.mem_cons, decide_eq_decide]; exact ⟨fun e => e.resolve_left (fun e => h e.symm), .inr⟩
        rw [this]
        exact Ev.iten h (ih (i + 1) (by omega))
    refine Ev.step (fun k => ?_) H
    simp only [carrefourref13_has.l0]
    rw [if_pos (by omega), if_pos (by omega), hw, rd_nat]
theorem has_ev (l : List Int) (v : Int) (hn : l.length < 9223372036854775807) : Ev (fun k => carrefourref13_has.f k l v) (decide (v ∈ l)) := by
  have := has_l0 l v hn l.length 0 (by omega)
  unfold carrefourref13_has.f
  simpa using this
/-! ### the orders by steps -/
def free (n : Nat) (p : List Int) : List Int := (up n).filter fun w => decide (w ∉ p)
def step (n : Nat) (L : List (List Int)) : List (List Int) := L.flatMap fun p => (free n p).map fun w => p ++ [w]
def steps (n : Nat) : Nat → List (List Int) → List (List Int)
  | 0, L => L
  | m + 1, L => steps n m (step n L)
theorem up_drop {n v : Nat} (h : v < n) : (up n).drop v = (v : Int) :: (up n).drop (v + 1) := by
  have : v < (up n).length := by rw [up_length]; exact h
  rw [List.drop_eq_getElem_cons this]
  simp [up]
end Go.Proofs.Ytnhnmbfhepeadaa.Pure
