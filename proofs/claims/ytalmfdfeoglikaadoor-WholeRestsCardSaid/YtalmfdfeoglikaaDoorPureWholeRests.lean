/- The pure law WholeRests: quotient and rest make the number again, rounding up is the opposite of rounding the opposite down, divisor and multiple make the product's size, for every input.
   Conditions: none beyond the kinds of the arguments. -/
import Derived.Test.YtalmfdfeoglikaaDoorP01g
import Derived.Test.YtalmfdfeoglikaaDoorP01d
namespace Go.Proofs.YtalmfdfeoglikaaDoor.Pure
set_option linter.unusedVariables false
open Go.RowKit Go.Proofs.YtalmfdfeoglikaaDoor.X Go.Proofs.YtalmfdfeoglikaaDoorW.PrintWords Go.Proofs.YtalmfdfeoglikaaDoorW.PrintLast
theorem rests_j2 (a b : Int) (g : Int × Int) (h : g.2 = 0 → g.1 > 0 → Int.tmod a g.1 = 0 ∧ Int.tmod b g.1 = 0) : Ev (fun k => carrefourlaw01_WholeRests.j2 k a b g.1 g.2 false) true := by
  have aw : Ev (fun k => (carrefourlaw01_awake.f k).bind fun t => some t) true := Ev.bind awake_ev (Ev.now _)
  refine Ev.step (f := fun k => (if g.2 = 0 then (if g.1 > 0 then (if g.1 = 0 then (none) else (if (Int.tmod a g.1) = 0 then (if (Int.tmod b g.1) = 0 then ((carrefourlaw01_awake.f k).bind fun t277 => (some t277)) else (some false)) else (some false))) else ((carrefourlaw01_awake.f k).bind fun t278 => (some t278))) else ((carrefourlaw01_awake.f k).bind fun t279 => (some t279)))) (fun k => ?_) ?_
  · simp only [carrefourlaw01_WholeRests.j2]
    rw [if_neg (by decide)]
  · by_cases h1 : g.2 = 0
    · refine Ev.itep h1 ?_
      by_cases h2 : g.1 > 0
      · obtain ⟨h3, h4⟩ := h h1 h2
        exact Ev.itep h2 (Ev.iten (by omega) (Ev.itep h3 (Ev.itep h4 aw)))
      · exact Ev.iten h2 aw
    · exact Ev.iten h1 aw
theorem fit_zero {n : Int} (h : (fit n).2 = 0) : I64 n ∧ (fit n).1 = n := by
  by_cases hi : I64 n
  · rw [fit_in hi]; exact ⟨hi, rfl⟩
  · rw [fit_out hi] at h; simp at h
theorem gg_dvd (a b : Int) : ((gg a b : Nat) : Int) ∣ a ∧ ((gg a b : Nat) : Int) ∣ b := by
  unfold gg
  exact ⟨Int.natAbs_dvd_natAbs.1 (by rw [Int.natAbs_natCast]; exact Nat.gcd_dvd_left _ _), Int.natAbs_dvd_natAbs.1 (by rw [Int.natAbs_natCast]; exact Nat.gcd_dvd_right _ _)⟩
theorem gg_ll (a b : Int) (ha : a ≠ 0) : gg a b * ll a b = a.natAbs * b.natAbs := by
  unfold ll
  rw [← Nat.mul_assoc]
  congr 1
  exact Nat.mul_div_cancel' (Nat.gcd_dvd_left _ _)
theorem ll_ge (a b : Int) (ha : a ≠ 0) (hb : b ≠ 0) : a.natAbs ≤ ll a b := by
  have hd : gg a b ∣ b.natAbs := Nat.gcd_dvd_right _ _
  obtain ⟨m, hm⟩ := hd
  have hm0 : m ≠ 0 := by rintro rfl; simp at hm; omega
  have : ll a b = a.natAbs * m := by
    unfold ll
    have hga : gg a b ∣ a.natAbs := Nat.gcd_dvd_left _ _
    rw [hm, ← Nat.mul_assoc, Nat.div_mul_cancel hga]
  rw [this]
  exact Nat.le_mul_of_pos_right _ (by omega)
theorem natAbs_prod (a b : Int) : ((a.natAbs * b.natAbs : Nat) : Int) = ab a * ab b := by rw [ab_nat, ab_nat]; push_cast; rfl
theorem rests_j1 {a b : Int} (ha : I64 a) (hb : I64 b) : Ev (fun k => carrefourlaw01_WholeRests.j1 k a b false) true := by
  have hj2 := rests_j2 a b (fit (gg a b : Int)) (by
    intro h1 h2
    obtain ⟨_, e⟩ := fit_zero h1
    rw [e]
    obtain ⟨d1, d2⟩ := gg_dvd a b
    exact ⟨Int.tmod_eq_zero_of_dvd d1, Int.tmod_eq_zero_of_dvd d2⟩)
  refine Ev.step (f := fun k => ((whole_Gcd.f k a b).bind fun bt271 => ((whole_Lcm.f k a b).bind fun bt273 => (if bt271.2 = 0 then (if bt273.2 = 0 then ((whole_Compare.f k bt271.1 bt273.1 a b).bind fun t275 => (if t275 = 0 then (carrefourlaw01_WholeRests.j2 k a b bt271.1 bt271.2 false) else ((whole_Compare.f k bt271.1 bt273.1 (wrap64 (-a)) b).bind fun t276 => (carrefourlaw01_WholeRests.j2 k a b bt271.1 bt271.2 (t276 != 0))))) else (carrefourlaw01_WholeRests.j2 k a b bt271.1 bt271.2 false)) else (carrefourlaw01_WholeRests.j2 k a b bt271.1 bt271.2 false))))) (fun k => ?_) ?_
  · simp only [carrefourlaw01_WholeRests.j1]
    rw [if_neg (by decide)]
  · refine Ev.bind (Gcd_ev ha hb) (Ev.bind (Lcm_ev ha hb) ?_)
    by_cases h1 : (fit (gg a b : Int)).2 = 0
    · refine Ev.itep h1 ?_
      by_cases h2 : (lcmd a b).2 = 0
      · refine Ev.itep h2 ?_
        obtain ⟨gi, ge⟩ := fit_zero h1
        by_cases hz : a = 0 ∨ b = 0
        · have hl : lcmd a b = (0, 0) := by unfold lcmd; rw [if_pos hz]
          have hab : a * b = 0 := by rcases hz with rfl | rfl <;> simp
          have hc := Compare_ev (a := (fit (gg a b : Int)).1) (b := (lcmd a b).1) (c := a) (d := b) (by rw [ge]; exact gi) (by rw [hl]; exact ⟨by decide, by decide⟩) ha hb
          rw [hl, Int.mul_zero, hab] at hc
          rw [hl]
          exact Ev.bind hc (Ev.itep (by unfold sgn; simp) hj2)
        · have hl : lcmd a b = fit (ll a b : Int) := by unfold lcmd; rw [if_neg hz]
          rw [hl] at h2
          obtain ⟨li, le⟩ := fit_zero h2
          have hx : ((gg a b : Nat) : Int) * ((ll a b : Nat) : Int) = ab a * ab b := by
            rw [← natAbs_prod, ← gg_ll a b (by omega)]; push_cast; rfl
          have hc := Compare_ev (a := (fit (gg a b : Int)).1) (b := (lcmd a b).1) (c := a) (d := b) (by rw [ge]; exact gi) (by rw [hl, le]; exact li) ha hb
          have hxy : (fit (gg a b : Int)).1 * (lcmd a b).1 = ab a * ab b := by rw [ge, hl, le, hx]
          rw [hxy] at hc
          refine Ev.bind hc ?_
          by_cases he : ab a * ab b = a * b
          · refine Ev.itep ?_ hj2
            rw [he]; unfold sgn; simp
          · refine Ev.iten ?_ ?_
            · unfold sgn; split
              · omega
              · split <;> omega
            · -- the sizes' product is the opposite's
              have hneg : a * b = -(ab a * ab b) := by
                rcases sg_spec a b with h | h | h
                · exact absurd h.2.1.symm he
                · exact h.2.1
                · exact absurd (by rw [h.2.1, h.2.2]) he
              have hmin : a ≠ -9223372036854775808 := by
                rintro rfl
                have h3 := ll_ge (-9223372036854775808) b (by omega) (by omega)
                have h4 : (-9223372036854775808 : Int).natAbs = 9223372036854775808 := by decide
                rw [h4] at h3
                have := li.2
                omega
              have hw : wrap64 (-a) = -a := w64 (by have := ha.2; omega) (by have := ha.1; omega)
              have hc2 := Compare_ev (a := (fit (gg a b : Int)).1) (b := (lcmd a b).1) (c := -a) (d := b) (by rw [ge]; exact gi) (by rw [hl, le]; exact li) ⟨by have := ha.2; omega, by have := ha.1; omega⟩ hb
              rw [hxy, Int.neg_mul, hneg, Int.neg_neg] at hc2
              simp only [hw]
              refine Ev.bind hc2 ?_
              have : (sgn (ab a * ab b) (ab a * ab b) != 0) = false := by unfold sgn; simp
              simp only [this]
              exact hj2
      · exact Ev.iten h2 hj2
    · exact Ev.iten h1 hj2
theorem rests_j0 {a b : Int} (ha : I64 a) (hb : I64 b) (q : Int × Int) (hq : whole_Floor.f a b = some q) : Ev (fun k => carrefourlaw01_WholeRests.j0 k a b q.1 q.2) true := by
  have h1 := rests_j1 ha hb
  have hn : I64 (fit (0 - a)).1 := by
    by_cases h : I64 (0 - a)
    · rw [fit_in h]; exact h
    · rw [fit_out h]; exact ⟨by decide, by decide⟩
  obtain ⟨c, hc⟩ := Ceil_some (fit (0 - a)).1 b hn
  refine Ev.step (f := fun k => (whole_Neg.f a).bind fun bt267 => ((whole_Ceil.f bt267.1 b).bind fun bt269 => (if bt267.2 = 0 then (if q.2 = 0 then (if q.1 > (-9223372036854775808) then (if bt269.2 = 0 then (carrefourlaw01_WholeRests.j1 k a b (bt269.1 != (wrap64 (-q.1)))) else (carrefourlaw01_WholeRests.j1 k a b true)) else (carrefourlaw01_WholeRests.j1 k a b false)) else (carrefourlaw01_WholeRests.j1 k a b false)) else (carrefourlaw01_WholeRests.j1 k a b false)))) (fun k => by simp only [carrefourlaw01_WholeRests.j0]) ?_
  refine Ev.bindc (Neg_f ha) (Ev.bindc hc ?_)
  by_cases g1 : (fit (0 - a)).2 = 0
  · refine Ev.itep g1 ?_
    by_cases g2 : q.2 = 0
    · refine Ev.itep g2 ?_
      by_cases g3 : q.1 > -9223372036854775808
      · refine Ev.itep g3 ?_
        obtain ⟨ni, ne⟩ := fit_zero g1
        rw [ne] at hc
        have hcq : c = (-q.1, 0) := by
          by_cases b0 : b = 0
          · subst b0
            unfold whole_Floor.f at hq
            rw [if_pos rfl] at hq
            have := Option.some.inj hq
            rw [← this] at g2
            simp at g2
          · by_cases b1 : b = -1
            · subst b1
              rw [Floor_m1 ha] at hq
              have hq := Option.some.inj hq
              rw [fit_in ni] at hq
              unfold whole_Ceil.f at hc
              rw [if_neg (by decide), if_pos rfl, Neg_f ni, fit_in (by obtain ⟨a0, a1⟩ := ha; exact ⟨by omega, by omega⟩)] at hc
              have hc := Option.some.inj hc
              rw [← hc, ← hq]
              show (0 - (0 - a), (0 : Int)) = (-(0 - a), 0)
              congr 1
              omega
            · rw [Floor_f ha b0 b1] at hq
              have hq := Option.some.inj hq
              rw [← hq] at g3 ⊢
              rw [Ceil_neg ha ni b0 b1 g3] at hc
              exact (Option.some.inj hc).symm
        rw [hcq]
        refine Ev.itep rfl ?_
        have hqi : q.1 < 9223372036854775808 := by
          by_cases b0 : b = 0
          · subst b0
            unfold whole_Floor.f at hq
            rw [if_pos rfl] at hq
            have := Option.some.inj hq
            rw [← this]; decide
          · by_cases b1 : b = -1
            · subst b1
              rw [Floor_m1 ha] at hq
              have hq := Option.some.inj hq
              rw [← hq, ne]; exact ni.2
            · rw [Floor_f ha b0 b1] at hq
              have hq := Option.some.inj hq
              rw [← hq]; exact (flo_w ha b0 b1).2
        have : ((-q.1) != (wrap64 (-q.1))) = false := by rw [w64 (by omega) (by omega)]; simp
        simp only [this]
        exact h1
      · exact Ev.iten g3 h1
    · exact Ev.iten g2 h1
  · exact Ev.iten g1 h1
theorem WholeRests : carrefourlaw01_WholeRests.Pure := by
  intro a b ha hb
  have ha := i64_of_wf ha; have hb := i64_of_wf hb
  refine Ev.rounds ?_
  unfold carrefourlaw01_WholeRests.f
  have hfs : ∃ q, whole_Floor.f a b = some q := by
    by_cases b0 : b = 0
    · exact ⟨(0, 3), by unfold whole_Floor.f; rw [if_pos b0]⟩
    · by_cases b1 : b = -1
      · subst b1; exact ⟨_, Floor_m1 ha⟩
      · exact ⟨_, Floor_f ha b0 b1⟩
  obtain ⟨q, hq⟩ := hfs
  obtain ⟨m, hm⟩ := Mod_some a b
  have h0 := rests_j0 ha hb q hq
  refine Ev.bindc hq (Ev.bindc hm ?_)
  by_cases hb1 : b ≥ 1
  · have eq : q = (a / b, 0) := by
      rw [Floor_f ha (by omega) (by omega), flo_pos hb1] at hq
      exact (Option.some.inj hq).symm
    have em : m = (a % b, 0) := by
      rw [Mod_pos ha hb1 hb.2] at hm
      exact (Option.some.inj hm).symm
    have r0 := Int.emod_nonneg a (show b ≠ 0 by omega)
    have r1 := Int.emod_lt_of_pos a (show 0 < b by omega)
    have e := Int.mul_ediv_add_emod a b
    subst eq
    subst em
    refine Ev.itep hb1 (Ev.itep rfl (Ev.itep rfl (Ev.iten (by show ¬ a % b < 0; omega) (Ev.iten (by show ¬ a % b ≥ b; omega) (Ev.itep ?_ h0)))))
    show wrap64 (a - a % b) = wrap64 (a / b * b)
    congr 1
    rw [Int.mul_comm]
    omega
  · exact Ev.iten hb1 h0
end Go.Proofs.YtalmfdfeoglikaaDoor.Pure
