/- The pure law FracRound: rounding down leaves less than 1, rounding up adds less, and both are one just of whole numbers.
   Conditions: none beyond the kinds of the arguments. -/
import Derived.Test.YtjgnaccamakpdaaDoorP02w
namespace Go.Proofs.YtjgnaccamakpdaaDoor.Pure
set_option linter.unusedVariables false
open Go.RowKit Go.Proofs.YtjgnaccamakpdaaDoor.X Go.Proofs.YtjgnaccamakpdaaDoorW.PrintWords Go.Proofs.YtjgnaccamakpdaaDoorW.PrintLast
theorem rt_whole (z : Int) : rt z 1 := ⟨by decide, by unfold gg; exact Nat.gcd_one_right _⟩
theorem floor_bd {a b : Int} (ha : I64 a) (hb : 1 ≤ b) : I64 (a / b) := by
  rw [← flo_pos hb]
  exact flo_w ha (by omega) (by omega)
theorem FracRound (a b : Int) (h0 : (Lit.int .i64 a).wf = true) (h1 : (Lit.int .i64 b).wf = true) : ∃ k, carrefourlaw02_FracRound.f k a b = some true := by
  have ha := i64_of_wf h0; have hb := i64_of_wf h1
  have one : I64 1 := ⟨by decide, by decide⟩
  refine Ev.rounds ?_
  unfold carrefourlaw02_FracRound.f
  refine Ev.bind (Right_ev ha hb) ?_
  by_cases hr : rt a b
  · have b1 := hr.1
    have ef : floorS a b = a / b := by unfold floorS; rw [nm_of hr]
    have ec : ceilS a b = -((-a) / b) := by unfold ceilS; rw [nm_of hr]
    have fI := floor_bd ha b1
    have cI := ceil_bd ha b1
    have f1 := Int.ediv_mul_le a (b := b) (by omega)
    have c1 : a ≤ -((-a) / b) * b := by
      have := Int.ediv_mul_le (-a) (b := b) (by omega)
      rw [Int.neg_mul]; omega
    have ev1 := fFloor_ev ha hb; rw [ef] at ev1
    have ev2 := fCeil_ev ha hb; rw [ec] at ev2
    have k1 : ¬ cmpS (a / b) 1 a b > 0 := by
      unfold cmpS
      rw [nm_of (rt_whole _), nm_of hr]
      unfold sgn
      simp only [Int.mul_one]
      split
      · decide
      · rw [if_neg (by omega)]; decide
    have k2 : ¬ cmpS (-((-a) / b)) 1 a b < 0 := by
      unfold cmpS
      rw [nm_of (rt_whole _), nm_of hr]
      simp only [Int.mul_one]
      have := (sgn_ge (x := -((-a) / b) * b) (y := a)).2 c1
      omega
    refine Ev.itep (decide_eq_true hr) (Ev.bind ev1 (Ev.bind ev2 (Ev.bind (fCmp_ev fI one ha hb) (Ev.iten k1 (Ev.bind (fCmp_ev cI one ha hb) ?_)))))
    rw [decide_eq_false k2]
    by_cases hb1 : b = 1
    · subst hb1
      refine Ev.step (fun k => ?_) awake02_ev
      simp only [carrefourlaw02_FracRound.j0]
      rw [if_neg Bool.false_ne_true, if_pos trivial, if_pos (Int.ediv_one _), if_pos (by rw [Int.ediv_one]; omega)]
    · have hm : Int.tmod a b ≠ 0 := by
        intro e
        have hd := Int.dvd_of_tmod_eq_zero e
        have h2 := hr.2
        unfold gg at h2
        rw [Nat.gcd_comm, Nat.gcd_eq_left (Int.natAbs_dvd_natAbs.2 hd)] at h2
        omega
      have e1 : -((-a) / b) - a / b = 1 := by rw [ceil_eq b1, if_neg hm]; omega
      refine Ev.step (fun k => ?_) awake02_ev
      simp only [carrefourlaw02_FracRound.j0]
      rw [if_neg Bool.false_ne_true, if_neg hb1, e1, if_pos (w64 (by decide) (by decide))]
  · have e : nm a b = (0, 1) := by unfold nm; rw [if_neg hr]
    have ev1 := fFloor_ev ha hb
    have ev2 := fCeil_ev ha hb
    unfold floorS at ev1
    unfold ceilS at ev2
    rw [e] at ev1 ev2
    exact Ev.iten (by simpa using hr) (Ev.bind ev1 (Ev.itep (by decide) (Ev.bind ev2 (Ev.itep (by decide) awake02_ev))))
end Go.Proofs.YtjgnaccamakpdaaDoor.Pure
