/- Fractions of package carrefourref02: what its functions come to.
   Conditions: as each theorem's head says. -/
import Derived.Test.YtcdaedhphdmnoaaDoorP02s
namespace Go.Proofs.YtcdaedhphdmnoaaDoor.Pure
set_option linter.unusedVariables false
open Go.RowKit Go.Proofs.YtcdaedhphdmnoaaDoor.X Go.Proofs.YtcdaedhphdmnoaaDoorW.PrintWords Go.Proofs.YtcdaedhphdmnoaaDoorW.PrintLast Go.Proofs.YtcdaedhphdmnoaaDoorW.PrintMore

theorem r2gcd_ev (d : Nat) : ∀ a b : Nat, b ≤ d → Ev (fun k => carrefourref02_gcd.l0 k (a : Int) (b : Int)) ((Nat.gcd a b : Nat) : Int) := by
  induction d with
  | zero =>
    intro a b hb
    obtain rfl : b = 0 := by omega
    refine Ev.step (f := fun _ => some ((Nat.gcd a 0 : Nat) : Int)) (fun k => ?_) (Ev.now _)
    simp only [carrefourref02_gcd.l0]
    rw [if_pos (show ((0 : Nat) : Int) = 0 from rfl), Nat.gcd_zero_right]
  | succ d ih =>
    intro a b hb
    by_cases h : b = 0
    · subst h
      refine Ev.step (f := fun _ => some ((Nat.gcd a 0 : Nat) : Int)) (fun k => ?_) (Ev.now _)
      simp only [carrefourref02_gcd.l0]
      rw [if_pos (show ((0 : Nat) : Int) = 0 from rfl), Nat.gcd_zero_right]
    · have hlt : a % b < b := Nat.mod_lt _ (by omega)
      have hih := ih b (a % b) (by omega)
      have e : Int.tmod (a : Int) (b : Int) = ((a % b : Nat) : Int) := by rw [Int.tmod_eq_emod_of_nonneg (by omega)]; push_cast; rfl
      have g : Nat.gcd b (a % b) = Nat.gcd a b := by rw [Nat.gcd_comm a b, Nat.gcd_rec b a, Nat.gcd_comm]
      rw [g, ← e] at hih
      refine Ev.step (fun k => ?_) hih
      simp only [carrefourref02_gcd.l0]
      rw [if_neg (by omega)]
theorem r2gcd_f (a b : Nat) : Ev (fun k => carrefourref02_gcd.f k (a : Int) (b : Int)) ((Nat.gcd a b : Nat) : Int) := r2gcd_ev b a b (Nat.le_refl _)
theorem rRight_ev {a b : Int} (ha : I64 a) (hb : I64 b) : Ev (fun k => carrefourref02_Right.f k a b) (decide (rt a b)) := by
  unfold carrefourref02_Right.f
  by_cases h : b ≥ 1
  · refine Ev.itep h (Ev.bindc (Size_f ha) ?_)
    have hb' : IntKind.u64.wrap b = (b.natAbs : Int) := by unfold I64 at hb; rw [u64w (by omega) (by omega)]; omega
    rw [ab_nat, hb']
    refine Ev.bind (r2gcd_f a.natAbs b.natAbs) ?_
    have e : (((Nat.gcd a.natAbs b.natAbs : Nat) : Int) == 1) = decide (rt a b) := by
      rw [Bool.eq_iff_iff, decide_eq_true_eq, beq_iff_eq]
      unfold rt gg
      omega
    rw [e]
    exact Ev.now _
  · rw [decide_eq_false (fun x : rt a b => h x.1)]
    exact Ev.iten h (Ev.now _)
theorem rNorm_ev {a b : Int} (ha : I64 a) (hb : I64 b) : Ev (fun k => carrefourref02_Norm.f k a b) (nm a b) := by
  unfold carrefourref02_Norm.f nm
  refine Ev.bind (rRight_ev ha hb) ?_
  by_cases h : rt a b
  · rw [if_pos h]; exact Ev.itep (by simpa using h) (Ev.now _)
  · rw [if_neg h]; exact Ev.iten (by simpa using h) (Ev.now _)
end Go.Proofs.YtcdaedhphdmnoaaDoor.Pure
