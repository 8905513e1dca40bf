/- Fractions of package carrefourref02: sums, differences, order, roundings; and package frac's roundings.
   Conditions: as each theorem's head says. -/
import Derived.Test.YtjgnaccamakpdaaDoorP02t
namespace Go.Proofs.YtjgnaccamakpdaaDoor.Pure
set_option linter.unusedVariables false
open Go.RowKit Go.Proofs.YtjgnaccamakpdaaDoor.X Go.Proofs.YtjgnaccamakpdaaDoorW.PrintWords Go.Proofs.YtjgnaccamakpdaaDoorW.PrintLast Go.Proofs.YtjgnaccamakpdaaDoorW.PrintMore

theorem neg_mul_pos {a b : Int} (hb : 0 < b) : decide (a * b < 0) = decide (a < 0) := by
  rw [decide_eq_decide]
  constructor
  · intro h
    apply Int.not_le.1
    intro h2
    have := Int.mul_nonneg h2 (show 0 ≤ b by omega)
    omega
  · intro h; exact Int.mul_neg_of_neg_of_pos h hb
def cmpS (a b c d : Int) : Int := sgn ((nm a b).1 * (nm c d).2) ((nm c d).1 * (nm a b).2)
theorem rCmp_ev {a b c d : Int} (ha : I64 a) (hb : I64 b) (hc : I64 c) (hd : I64 d) : Ev (fun k => carrefourref02_Cmp.f k a b c d) (cmpS a b c d) := by
  obtain ⟨i1, i2, _, _⟩ := nm_spec ha hb
  obtain ⟨i4, i5, _, _⟩ := nm_spec hc hd
  unfold carrefourref02_Cmp.f cmpS
  exact Ev.bind (rNorm_ev ha hb) (Ev.bind (rNorm_ev hc hd) (Ev.bind (rCompare_ev i1 i5 i4 i2) (Ev.now _)))
theorem rFloor_pos {a b : Int} (ha : I64 a) (hb : 1 ≤ b) : Ev (fun k => carrefourref01_Floor.f k a b) (a / b, 0) := by
  have t := tdiv_bd ha (b := b) (by omega)
  have f := flo_w ha (b := b) (by omega) (by omega)
  have fp := flo_pos (a := a) hb
  have j : Ev (fun k => carrefourref01_Floor.j0 k a b false) (a / b, 0) := by
    refine Ev.step (f := fun _ => some (a / b, 0)) (fun k => ?_) (Ev.now _)
    simp only [carrefourref01_Floor.j0]
    rw [if_neg Bool.false_ne_true, if_neg (show ¬ b = 0 by omega), w64 (x := Int.tdiv a b) t.1 t.2, ← fp]
    unfold flo at f ⊢
    by_cases hm : Int.tmod a b = 0
    · rw [if_pos hm, if_pos hm]
    · rw [if_neg hm] at f ⊢
      rw [if_neg hm]
      by_cases hs : decide (a < 0) = decide (b < 0)
      · rw [if_pos hs, if_neg (by simpa using hs)]
      · rw [if_neg hs] at f
        rw [if_neg hs, if_pos (by simpa using hs), w64 f.1 f.2]
  unfold carrefourref01_Floor.f
  refine Ev.iten (by omega) ?_
  have hb1 : (b == -1) = false := by rw [beq_eq_false_iff_ne]; omega
  by_cases h : a = -9223372036854775808
  · refine Ev.itep h ?_
    rw [hb1]; exact j
  · exact Ev.iten h j
theorem ceil_eq {a b : Int} (hb : 1 ≤ b) : -((-a) / b) = if Int.tmod a b = 0 then a / b else a / b + 1 := by
  have h1 := Int.mul_ediv_add_emod a b
  have h2 := Int.emod_nonneg a (show b ≠ 0 by omega)
  have h3 := Int.emod_lt_of_pos a (show 0 < b by omega)
  have hd : Int.tmod a b = 0 ↔ a % b = 0 := by
    rw [← Int.dvd_iff_tmod_eq_zero, Int.dvd_iff_emod_eq_zero]
  have key : ∀ q : Int, a ≤ b * q → b * (q - 1) < a → -((-a) / b) = q := by
    intro q h1 h2
    rw [Int.mul_sub, Int.mul_one] at h2
    have h3 : -q ≤ (-a) / b := Int.le_ediv_of_mul_le (by omega) (by rw [Int.neg_mul, Int.mul_comm]; omega)
    have h4 : (-a) / b < -q + 1 := Int.ediv_lt_of_lt_mul (by omega) (by rw [Int.add_mul, Int.neg_mul, Int.one_mul, Int.mul_comm]; omega)
    omega
  by_cases h : Int.tmod a b = 0
  · rw [if_pos h]
    have := hd.1 h
    exact key _ (by omega) (by rw [Int.mul_sub, Int.mul_one]; omega)
  · rw [if_neg h]
    have : a % b ≠ 0 := fun e => h (hd.2 e)
    exact key _ (by rw [Int.mul_add, Int.mul_one]; omega) (by rw [Int.add_sub_cancel]; omega)
theorem ceil_bd {a b : Int} (ha : I64 a) (hb : 1 ≤ b) : I64 (-((-a) / b)) := by
  obtain ⟨a0, a1⟩ := ha
  by_cases h0 : 0 ≤ a
  · have e1 : -a ≤ (-a) / b := by
      apply Int.le_ediv_of_mul_le (by omega)
      have := Int.mul_le_mul_of_nonneg_left hb h0
      rw [Int.neg_mul]
      omega
    have e2 : (-a) / b ≤ 0 := by
      have := Int.ediv_le_ediv (show (0 : Int) < b by omega) (show -a ≤ 0 by omega)
      rwa [Int.zero_ediv] at this
    exact ⟨by omega, by omega⟩
  · have p0 : 0 ≤ (-a) / b := Int.ediv_nonneg (by omega) (by omega)
    have p1 : (-a) / b ≤ -a := Int.ediv_le_self b (by omega)
    exact ⟨by omega, by omega⟩
theorem rCeil_pos {a b : Int} (ha : I64 a) (hb : 1 ≤ b) : Ev (fun k => carrefourref01_Ceil.f k a b) (-((-a) / b), 0) := by
  have bd := ceil_bd ha hb
  unfold carrefourref01_Ceil.f
  refine Ev.bind (rFloor_pos ha hb) (Ev.itep rfl (Ev.iten (by omega) ?_))
  rw [ceil_eq hb] at bd ⊢
  by_cases h : Int.tmod a b = 0
  · rw [if_pos h, if_pos h]; exact Ev.now _
  · rw [if_neg h] at bd ⊢
    rw [if_neg h]
    simp only
    rw [w64 bd.1 bd.2]
    exact Ev.now _
theorem rCeil_ev {a b : Int} (ha : I64 a) (hb : I64 b) : Ev (fun k => carrefourref02_Ceil.f k a b) (ceilS a b) := by
  obtain ⟨i1, i2, i3, _⟩ := nm_spec ha hb
  unfold carrefourref02_Ceil.f ceilS
  exact Ev.bind (rNorm_ev ha hb) (Ev.bind (rCeil_pos i1 i3) (Ev.now _))
theorem rFloor_ev {a b : Int} (ha : I64 a) (hb : I64 b) : Ev (fun k => carrefourref02_Floor.f k a b) (floorS a b) := by
  obtain ⟨i1, i2, i3, _⟩ := nm_spec ha hb
  unfold carrefourref02_Floor.f floorS
  exact Ev.bind (rNorm_ev ha hb) (Ev.bind (rFloor_pos i1 i3) (Ev.now _))
theorem fCeil_ev {a b : Int} (ha : I64 a) (hb : I64 b) : Ev (fun k => frac_Ceil.f k a b) (ceilS a b) := by
  obtain ⟨i1, i2, i3, _⟩ := nm_spec ha hb
  unfold frac_Ceil.f ceilS
  refine Ev.bind (norm_ev ha hb) ?_
  exact Ev.bindc (Ceil_any i1 i3) (Ev.now _)
end Go.Proofs.YtjgnaccamakpdaaDoor.Pure
