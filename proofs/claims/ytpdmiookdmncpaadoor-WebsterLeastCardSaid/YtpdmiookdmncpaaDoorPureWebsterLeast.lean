/- The pure law WebsterLeast: the cycle, times what the sum leaves, is not below half the lost time more and 50, and a cycle of one less is.
   Conditions: none beyond the kinds of the arguments. -/
import Derived.Test.YtpdmiookdmncpaaDoorP12c
namespace Go.Proofs.YtpdmiookdmncpaaDoor.Pure
set_option linter.unusedVariables false
open Go.RowKit Go.Proofs.YtpdmiookdmncpaaDoor.X Go.Proofs.YtpdmiookdmncpaaDoorW.PrintWords Go.Proofs.YtpdmiookdmncpaaDoorW.PrintLast
/-- The product of a fraction in lowest terms and a number. -/
theorem mul_one_fits {p q c : Int} (hp : I64 p) (hq : I64 q) (hr : rt p q) (hf : (mulS p q c 1).2.2 = 0) :
    I64 (mulS p q c 1).1 ∧ I64 (mulS p q c 1).2.1 ∧ rt (mulS p q c 1).1 (mulS p q c 1).2.1 ∧ (mulS p q c 1).1 * q = p * c * (mulS p q c 1).2.1 := by
  have q1 := hr.1
  have hc1 : rt c 1 := ⟨by decide, by unfold gg; exact Nat.gcd_one_right _⟩
  unfold mulS at hf ⊢
  rw [nm_of hr, nm_of hc1] at hf ⊢
  simp only [Int.mul_one] at hf ⊢
  obtain ⟨f1, f2, f3, f4⟩ := lowZ_fits (by omega) hf
  have e : ((q.natAbs : Nat) : Int) = q := by omega
  rw [e] at f4
  exact ⟨f1, f2, f3, f4⟩
theorem mul_lt_iff {x y z : Int} (hz : 0 < z) : x * z < y * z ↔ x < y := ⟨fun h => Int.lt_of_mul_lt_mul_right h (by omega), fun h => Int.mul_lt_mul_of_pos_right h hz⟩
/-- How such a product is to a fraction t/u. -/
theorem cmp_prod {p q c t u : Int} (hp : I64 p) (hq : I64 q) (hr : rt p q) (ht : rt t u) (hf : (mulS p q c 1).2.2 = 0) :
    (cmpS (mulS p q c 1).1 (mulS p q c 1).2.1 t u ≥ 0 ↔ t * q ≤ p * c * u) := by
  obtain ⟨f1, f2, f3, f4⟩ := mul_one_fits hp hq hr hf
  have g1 := f3.1
  have q1 := hr.1
  unfold cmpS
  rw [nm_of f3, nm_of ht, sgn_ge]
  generalize (mulS p q c 1).1 = m at *
  generalize (mulS p q c 1).2.1 = n at *
  -- m * q = p * c * n ; t * n ≤ m * u ↔ t * q ≤ p * c * u
  have e1 : m * u * q = p * c * u * n := by
    rw [Int.mul_right_comm m u q, f4, Int.mul_right_comm]
  have e2 : t * n * q = t * q * n := Int.mul_right_comm ..
  constructor
  · intro h
    have := Int.mul_le_mul_of_nonneg_right h (show 0 ≤ q by omega)
    rw [e1, e2] at this
    exact Int.le_of_mul_le_mul_right this (by omega)
  · intro h
    have := Int.mul_le_mul_of_nonneg_right h (show 0 ≤ n by omega)
    rw [← e1, ← e2] at this
    exact Int.le_of_mul_le_mul_right this (by omega)
theorem WebsterLeast (lost a b : Int) (h0 : (Lit.int .i64 lost).wf = true) (h1 : (Lit.int .i64 a).wf = true) (h2 : (Lit.int .i64 b).wf = true) : ∃ k, carrefourlaw12_WebsterLeast.f k lost a b = some true := by
  have hl := i64_of_wf h0; have ha := i64_of_wf h1; have hb := i64_of_wf h2
  refine Ev.rounds ?_
  have aw : Ev (fun k => (carrefourlaw12_awake.f k).bind fun t => some t) true := Ev.bind awake12_ev (Ev.now _)
  have bad : ∀ e : Int, (e = 0 → a ≥ b) → Ev (fun k => carrefourlaw12_WebsterLeast.j0 k lost 0 e true a b) true := by
    intro e he
    by_cases h : e = 0
    · refine Ev.step (fun k => ?_) aw
      simp only [carrefourlaw12_WebsterLeast.j0]
      rw [if_pos trivial, if_pos h, if_pos (he h), if_pos trivial]
    · refine Ev.step (fun k => ?_) aw
      simp only [carrefourlaw12_WebsterLeast.j0]
      rw [if_pos trivial, if_neg h, if_pos trivial]
  unfold carrefourlaw12_WebsterLeast.f
  refine Ev.bind (Cycle_ev hl ha hb) ?_
  unfold cycS
  by_cases hok : okL lost a b
  · rw [if_pos hok]
    obtain ⟨l0, l1, hr, a0⟩ := hok
    have b1 := hr.1
    by_cases hge : a ≥ b
    · rw [if_pos hge]
      exact Ev.itep rfl (bad 0 (fun _ => hge))
    · rw [if_neg hge]
      by_cases hd : (dS lost a b).2.2 = 0
      · rw [if_pos hd]
        refine Ev.itep rfl ?_
        obtain ⟨t0, t1, t2, t3, t4⟩ := tS_ok l0 l1
        obtain ⟨b0, b1', b2, b3, b4⟩ := bS_ok ha hb a0 (show a < b by omega)
        obtain ⟨d1, d2, d3⟩ : I64 (dS lost a b).1 ∧ I64 (dS lost a b).2.1 ∧ rt (dS lost a b).1 (dS lost a b).2.1 := divS_fits t1 t2 b1' b2 hd
        have hb' : b < 9223372036854775808 := hb.2
        have ev1 : Ev (fun k => carrefourref02_Of.f k (wrap64 (b - a)) b) (bS a b) := by rw [w64 (by omega) (by omega)]; exact rOf_ev ⟨by omega, by omega⟩ hb
        have ev2 : Ev (fun k => carrefourref02_Of.f k (wrap64 ((wrap64 (3 * lost)) + 100)) 2) (tS lost) := by rw [w64 (x := 3 * lost) (by omega) (by omega), w64 (by omega) (by omega)]; exact rOf_ev ⟨by omega, by omega⟩ ⟨by omega, by omega⟩
        have tq := t3.1; have bq := b3.1; have dq := d3.1
        -- the numbers' signs
        have tpos : 0 < (tS lost).1 := by
          apply Int.not_le.1
          intro hle
          have : 0 < (3 * lost + 100) * (tS lost).2.1 := Int.mul_pos (by omega) (by omega)
          omega
        have bpos : 0 < (bS a b).1 := by
          apply Int.not_le.1
          intro hle
          have h1 : 0 < (b - a) * (bS a b).2.1 := Int.mul_pos (by omega) (by omega)
          have h2 : (bS a b).1 * b ≤ 0 := Int.mul_nonpos_of_nonpos_of_nonneg hle (by omega)
          omega
        -- the quotient
        have hD : (dS lost a b).1 * ((tS lost).2.1 * (bS a b).1) = (tS lost).1 * (bS a b).2.1 * (dS lost a b).2.1 := by
          have hd' := hd
          unfold dS divS at hd' ⊢
          rw [nm_of t3, nm_of b3] at hd' ⊢
          simp only at hd' ⊢
          rw [if_neg (by omega), if_neg (by omega)] at hd' ⊢
          have hp : 0 < (tS lost).2.1 * (bS a b).1 := Int.mul_pos (by omega) bpos
          obtain ⟨_, _, _, f4⟩ := lowZ_fits (by omega) hd'
          have e : ((((tS lost).2.1 * (bS a b).1).natAbs : Nat) : Int) = (tS lost).2.1 * (bS a b).1 := by omega
          rw [e] at f4
          exact f4
        obtain ⟨c, hc⟩ : ∃ c, c = ceilS (dS lost a b).1 (dS lost a b).2.1 := ⟨_, rfl⟩
        have hcd : (dS lost a b).1 ≤ c * (dS lost a b).2.1 ∧ (c - 1) * (dS lost a b).2.1 < (dS lost a b).1 := by
          rw [hc]
          unfold ceilS
          rw [nm_of d3]
          have g1 := Int.ediv_mul_le (-(dS lost a b).1) (b := (dS lost a b).2.1) (by omega)
          have g2 := Int.lt_ediv_add_one_mul_self (-(dS lost a b).1) (b := (dS lost a b).2.1) (by omega)
          rw [Int.add_mul, Int.one_mul] at g2
          simp only
          rw [Int.sub_mul, Int.one_mul, Int.neg_mul]
          omega
        have hcI : I64 c := by rw [hc]; unfold ceilS; rw [nm_of d3]; exact ceil_bd d1 dq
        have hdpos : 0 < (dS lost a b).1 := by
          apply Int.not_le.1
          intro hle
          have h1 : 0 < (tS lost).1 * (bS a b).2.1 * (dS lost a b).2.1 := Int.mul_pos (Int.mul_pos tpos (by omega)) (by omega)
          have h2 := Int.mul_nonpos_of_nonpos_of_nonneg hle (Int.le_of_lt (Int.mul_pos (show 0 < (tS lost).2.1 by omega) bpos))
          omega
        have hcpos : 1 ≤ c := by
          apply Int.not_lt.1
          intro hlt
          have := Int.mul_nonpos_of_nonpos_of_nonneg (show c ≤ 0 by omega) (show 0 ≤ (dS lost a b).2.1 by omega)
          omega
        rw [← hc]
        have hhigh : (tS lost).1 * (bS a b).2.1 ≤ (bS a b).1 * c * (tS lost).2.1 := by
          have h1 := Int.mul_le_mul_of_nonneg_right hcd.1 (Int.le_of_lt (Int.mul_pos (show 0 < (tS lost).2.1 by omega) bpos))
          rw [hD] at h1
          have e : c * (dS lost a b).2.1 * ((tS lost).2.1 * (bS a b).1) = (bS a b).1 * c * (tS lost).2.1 * (dS lost a b).2.1 := by
            simp only [Int.mul_comm, Int.mul_left_comm, Int.mul_assoc]
          rw [e] at h1
          exact Int.le_of_mul_le_mul_right h1 (by omega)
        have hlow : ¬ (tS lost).1 * (bS a b).2.1 ≤ (bS a b).1 * (c - 1) * (tS lost).2.1 := by
          have h1 := Int.mul_lt_mul_of_pos_right hcd.2 (Int.mul_pos (show 0 < (tS lost).2.1 by omega) bpos)
          rw [hD] at h1
          have e : (c - 1) * (dS lost a b).2.1 * ((tS lost).2.1 * (bS a b).1) = (bS a b).1 * (c - 1) * (tS lost).2.1 * (dS lost a b).2.1 := by
            simp only [Int.mul_comm, Int.mul_left_comm, Int.mul_assoc]
          rw [e] at h1
          intro h2
          have := Int.mul_le_mul_of_nonneg_right h2 (show 0 ≤ (dS lost a b).2.1 by omega)
          omega
        clear hc hcd hD hd
        have one : I64 1 := ⟨by decide, by decide⟩
        have ev3 : Ev (fun k => carrefourref02_Mul.f k (bS a b).1 (bS a b).2.1 c 1) (mulS (bS a b).1 (bS a b).2.1 c 1) := rMul2_ev b1' b2 hcI one
        have hcI' : I64 (c - 1) := by obtain ⟨x, y⟩ := hcI; exact ⟨by omega, by omega⟩
        have ev4 : Ev (fun k => carrefourref02_Mul.f k (bS a b).1 (bS a b).2.1 (wrap64 (c - 1)) 1) (mulS (bS a b).1 (bS a b).2.1 (c - 1) 1) := by
          rw [w64 hcI'.1 hcI'.2]
          exact rMul2_ev b1' b2 hcI' one
        refine Ev.step (fun k => by simp only [carrefourlaw12_WebsterLeast.j0]; rw [if_neg (by decide)]) (Ev.bind ev2 (Ev.bind ev1 (Ev.bind ev3 (Ev.bind ev4 (Ev.itep b0 ?_)))))
        have tail : ∀ (g : Nat → Option Bool), (∀ k, g k = (carrefourlaw12_awake.f k).bind fun t => some t) → (mulS (bS a b).1 (bS a b).2.1 (c - 1) 1).2.2 = 0 →
            Ev (fun k => (carrefourref02_Cmp.f k (mulS (bS a b).1 (bS a b).2.1 (c - 1) 1).1 (mulS (bS a b).1 (bS a b).2.1 (c - 1) 1).2.1 (tS lost).1 (tS lost).2.1).bind fun t => if t ≥ 0 then some false else g k) true := by
          intro g hg h
          obtain ⟨m1, m2, _⟩ := mul_one_fits b1' b2 b3 h
          refine Ev.bind (rCmp_ev m1 m2 t1 t2) (Ev.iten (fun hh => hlow ((cmp_prod b1' b2 b3 t3 h).1 hh)) ?_)
          have : g = fun k => (carrefourlaw12_awake.f k).bind fun t => some t := funext hg
          show Ev g true
          rw [this]; exact aw
        by_cases f1 : (mulS (bS a b).1 (bS a b).2.1 c 1).2.2 = 0
        · obtain ⟨m1, m2, _⟩ := mul_one_fits b1' b2 b3 f1
          refine Ev.itep f1 (Ev.bind (rCmp_ev m1 m2 t1 t2) (Ev.iten (fun hh => by have := (cmp_prod b1' b2 b3 t3 f1).2 hhigh; omega) ?_))
          by_cases f2 : (mulS (bS a b).1 (bS a b).2.1 (c - 1) 1).2.2 = 0
          · exact Ev.itep f2 (tail _ (fun k => rfl) f2)
          · exact Ev.iten f2 aw
        · refine Ev.iten f1 ?_
          by_cases f2 : (mulS (bS a b).1 (bS a b).2.1 (c - 1) 1).2.2 = 0
          · exact Ev.itep f2 (tail _ (fun k => rfl) f2)
          · exact Ev.iten f2 aw
      · rw [if_neg hd]
        exact Ev.iten hd (bad _ (fun h => absurd h hd))
  · rw [if_neg hok]
    exact Ev.iten (by decide) (bad 1 (fun h => absurd h (by decide)))
end Go.Proofs.YtpdmiookdmncpaaDoor.Pure
