/- Fractions of package carrefourref02: sums, differences, order, roundings; and package frac's roundings.
   Conditions: as each theorem's head says. -/
import Derived.Test.YtjgnaccamakpdaaDoorP02t
namespace Go.Proofs.YtjgnaccamakpdaaDoor.Pure
set_option linter.unusedVariables false
open Go.RowKit Go.Proofs.YtjgnaccamakpdaaDoor.X Go.Proofs.YtjgnaccamakpdaaDoorW.PrintWords Go.Proofs.YtjgnaccamakpdaaDoorW.PrintLast Go.Proofs.YtjgnaccamakpdaaDoorW.PrintMore

theorem neg_mul_pos {a b : Int} (hb : 0 < b) : decide (a * b < 0) = decide (a < 0) := by
  rw [decide_eq_decide]
  constructor
  · intro h
    apply Int.not_le.1
    intro h2
    have := Int.mul_nonneg h2 (show 0 ≤ b by omega)
    omega
  · intro h; exact Int.mul_neg_of_neg_of_pos h hb
theorem sgn_ge {x y : Int} : sgn x y ≥ 0 ↔ y ≤ x := by
  unfold sgn
  by_cases h : x < y
  · rw [if_pos h]; omega
  · rw [if_neg h]; split <;> omega
/-- The sum of two numbers whose sizes and signs are known, over d. -/
theorem lows_same {A B : Int} {d : Nat} (h : decide (A < 0) = decide (B < 0)) : lowF (A.natAbs + B.natAbs) d (decide (A < 0)) = lowZ (A + B) d := by
  have h' : A < 0 ↔ B < 0 := decide_eq_decide.1 h
  exact lowF_of (by omega) (fun hz => by rw [decide_eq_true_eq]; omega)
theorem lows_left {A B : Int} {d : Nat} (h : ¬ decide (A < 0) = decide (B < 0)) (hle : B.natAbs ≤ A.natAbs) : lowF (A.natAbs - B.natAbs) d (decide (A < 0)) = lowZ (A + B) d := by
  have h' : ¬ (A < 0 ↔ B < 0) := fun e => h (decide_eq_decide.2 e)
  exact lowF_of (by omega) (fun hz => by rw [decide_eq_true_eq]; omega)
theorem lows_right {A B : Int} {d : Nat} (h : ¬ decide (A < 0) = decide (B < 0)) (hle : ¬ B.natAbs ≤ A.natAbs) : lowF (B.natAbs - A.natAbs) d (decide (B < 0)) = lowZ (A + B) d := by
  have h' : ¬ (A < 0 ↔ B < 0) := fun e => h (decide_eq_decide.2 e)
  exact lowF_of (by omega) (fun hz => by rw [decide_eq_true_eq]; omega)
theorem num_of {l : List Int} {x y : Int} (h : Num l x) (e : x = y) : Num l y := e ▸ h
/-- What follows on the two numbers by parts: their sum or difference, by signs. -/
theorem plus_low {r1 r2 r3 : List Int} {X Y D : Nat} (n1 : Num r1 X) (n2 : Num r2 Y) (n3 : Num r3 D) (l1 : r1.length ≤ 22) (l2 : r2.length ≤ 22) (l3 : r3.length ≤ 40) (hD : D ≠ 0) (s : Bool) :
    ∃ u v, Ev (fun k => carrefourref01_Plus.f k r1 r2) u ∧ Ev (fun k => carrefourref02_trim.f k u) v ∧ Ev (fun k => carrefourref02_lowest.f k v r3 s) (lowF (X + Y) D s) := by
  obtain ⟨u, hu, nu, lu, _⟩ := plus_ev n1 n2 (by omega) (by omega)
  obtain ⟨v, hv, nv, lv⟩ := trim_ev nu (by omega)
  exact ⟨u, v, hu, hv, lowest_ev (num_of nv (by push_cast; rfl)) n3 (by omega) l3 s hD⟩
theorem minus_low {r1 r2 r3 : List Int} {X Y D : Nat} (n1 : Num r1 X) (n2 : Num r2 Y) (n3 : Num r3 D) (l1 : r1.length ≤ 22) (l2 : r2.length ≤ 22) (l3 : r3.length ≤ 40) (hD : D ≠ 0) (hle : Y ≤ X) (s : Bool) :
    ∃ u v, Ev (fun k => carrefourref01_Minus.f k r1 r2) u ∧ Ev (fun k => carrefourref02_trim.f k u) v ∧ Ev (fun k => carrefourref02_lowest.f k v r3 s) (lowF (X - Y) D s) := by
  obtain ⟨u, hu, nu, lu⟩ := minus_ev n1 n2 (by omega) (by omega)
  obtain ⟨v, hv, nv, lv⟩ := trim_ev nu (by omega)
  exact ⟨u, v, hu, hv, lowest_ev (num_of nv (by omega)) n3 (by omega) l3 s hD⟩
theorem rAdd_ev {a b c d : Int} (ha : I64 a) (hb : I64 b) (hc : I64 c) (hd : I64 d) : Ev (fun k => carrefourref02_Add.f k a b c d) (addS a b c d) := by
  obtain ⟨i1, i2, i3, _⟩ := nm_spec ha hb
  obtain ⟨i4, i5, i6, _⟩ := nm_spec hc hd
  unfold carrefourref02_Add.f addS
  refine Ev.bind (rNorm_ev ha hb) (Ev.bind (rNorm_ev hc hd) ?_)
  generalize nm a b = p at *
  generalize nm c d = q at *
  have n1 := nab i1; have n2 := nab i2; have n3 := nab i4; have n4 := nab i5
  have hden : 0 < p.2 * q.2 := Int.mul_pos (by omega) (by omega)
  refine Ev.bindc (few_f i1 i4) ?_
  by_cases hf : fewP p.1 p.2 q.1 q.2
  · obtain ⟨f1, f2, f3, f4⟩ := hf
    have m1 := i64_mul30 (a := p.1) (b := q.2) f1 (by omega)
    have m2 := i64_mul30 (a := q.1) (b := p.2) f2 (by omega)
    have m3 := i64_mul30 (a := p.2) (b := q.2) (by omega) (by omega)
    have := rOf_ev (n := p.1 * q.2 + q.1 * p.2) (d := p.2 * q.2) ⟨by omega, by omega⟩ ⟨by omega, by omega⟩
    rw [ofS_pos hden] at this
    refine Ev.itep (decide_eq_true ⟨f1, f2, f3, f4⟩) ?_
    rw [w64 (x := p.1 * q.2) (by omega) (by omega), w64 (x := q.1 * p.2) (by omega) (by omega), w64 (x := p.2 * q.2) (by omega) (by omega), w64 (x := p.1 * q.2 + q.1 * p.2) (by omega) (by omega)]
    exact Ev.bind this (Ev.now _)
  · refine Ev.iten (by simpa using hf) ?_
    obtain ⟨l1, r1, t1, u1, v1, w1⟩ := tt_ev p.1.natAbs q.2.natAbs (by omega) (by omega)
    obtain ⟨l2, r2, t2, u2, v2, w2⟩ := tt_ev q.1.natAbs p.2.natAbs (by omega) (by omega)
    obtain ⟨l3, r3, t3, u3, v3, w3⟩ := tt_ev p.2.natAbs q.2.natAbs (by omega) (by omega)
    refine Ev.bindc (Size_f i1) ?_
    rw [ab_nat, wrap_nat (d := p.2) (by omega) i2.2, wrap_nat (d := q.2) (by omega) i5.2]
    refine Ev.bind t1 (Ev.bind u1 (Ev.bindc (Size_f i4) ?_))
    rw [ab_nat]
    refine Ev.bind t2 (Ev.bind u2 (Ev.bind t3 (Ev.bind u3 ?_)))
    have hD : p.2.natAbs * q.2.natAbs ≠ 0 := Nat.mul_ne_zero (by omega) (by omega)
    rw [Int.natAbs_mul p.2 q.2]
    have s1 : decide (p.1 < 0) = decide (p.1 * q.2 < 0) := (neg_mul_pos (by omega)).symm
    have s2 : decide (q.1 < 0) = decide (q.1 * p.2 < 0) := (neg_mul_pos (by omega)).symm
    rw [s1, s2]
    rw [← Int.natAbs_mul] at v1 v2
    generalize p.1 * q.2 = A at *
    generalize q.1 * p.2 = B at *
    by_cases hs : decide (A < 0) = decide (B < 0)
    · refine Ev.itep (by simpa using hs) ?_
      obtain ⟨u, v, e1, e2, e3⟩ := plus_low v1 v2 v3 (by omega) (by omega) (by omega) hD (decide (A < 0))
      rw [lows_same hs] at e3
      exact Ev.bind e1 (Ev.bind e2 (Ev.bind e3 (Ev.now _)))
    · refine Ev.iten (by simpa using hs) (Ev.bind (order_ev v1 v2 (by omega) (by omega)) ?_)
      by_cases hle : B.natAbs ≤ A.natAbs
      · refine Ev.itep (sgn_ge.2 (by omega)) ?_
        obtain ⟨u, v, e1, e2, e3⟩ := minus_low v1 v2 v3 (by omega) (by omega) (by omega) hD hle (decide (A < 0))
        rw [lows_left hs hle] at e3
        exact Ev.bind e1 (Ev.bind e2 (Ev.bind e3 (Ev.now _)))
      · refine Ev.iten (fun h => hle (by have := sgn_ge.1 h; omega)) ?_
        obtain ⟨u, v, e1, e2, e3⟩ := minus_low v2 v1 v3 (by omega) (by omega) (by omega) hD (by omega) (decide (B < 0))
        rw [lows_right hs hle] at e3
        exact Ev.bind e1 (Ev.bind e2 (Ev.bind e3 (Ev.now _)))
theorem rt_neg {a b : Int} (h : rt a b) : rt (-a) b := by
  unfold rt gg at *
  rw [Int.natAbs_neg]; exact h
theorem rt_min {b : Int} (h : rt (-9223372036854775808) b) : b % 2 = 1 := by
  obtain ⟨h1, h2⟩ := h
  apply Decidable.byContradiction
  intro hc
  have d1 : 2 ∣ (-9223372036854775808 : Int).natAbs := ⟨4611686018427387904, rfl⟩
  have d2 : 2 ∣ b.natAbs := by omega
  have := Nat.dvd_gcd d1 d2
  unfold gg at h2
  rw [h2] at this
  exact absurd this (by decide)
theorem twiceAdded_ev {p q : Int × Int} (i1 : I64 p.1) (i2 : I64 p.2) (i3 : 1 ≤ p.2) (i5 : I64 q.2) (i6 : 1 ≤ q.2) : Ev (fun k => carrefourref02_twiceAdded.f k p.1 p.2 4611686018427387904 q.2) (lowZ (p.1 * q.2 - -9223372036854775808 * p.2) (p.2 * q.2).natAbs) := by
  have n1 := nab i1; have n2 := nab i2; have n4 := nab i5
  unfold carrefourref02_twiceAdded.f
  obtain ⟨l1, r1, t1, u1, v1, w1⟩ := tt_ev p.1.natAbs q.2.natAbs (by omega) (by omega)
  obtain ⟨l2, h2, nl2, ll2⟩ := times_ev 4611686018427387904 (p.2.natAbs : Int) ⟨by omega, by omega⟩ ⟨by omega, by omega⟩
  obtain ⟨m2, hm2, nm2, lm2⟩ := twice_ev nl2 (by omega)
  obtain ⟨r2, u2, v2, w2⟩ := trim_ev nm2 (by omega)
  obtain ⟨l3, r3, t3, u3, v3, w3⟩ := tt_ev p.2.natAbs q.2.natAbs (by omega) (by omega)
  refine Ev.bindc (Size_f i1) ?_
  rw [ab_nat, wrap_nat (d := p.2) (by omega) i2.2, wrap_nat (d := q.2) (by omega) i5.2, u64w (x := 4611686018427387904) (by decide) (by decide)]
  refine Ev.bind t1 (Ev.bind u1 (Ev.bind h2 (Ev.bind hm2 (Ev.bind u2 (Ev.bind t3 (Ev.bind u3 ?_))))))
  have hD : p.2.natAbs * q.2.natAbs ≠ 0 := Nat.mul_ne_zero (by omega) (by omega)
  rw [Int.natAbs_mul p.2 q.2]
  have s1 : decide (p.1 < 0) = decide (p.1 * q.2 < 0) := (neg_mul_pos (by omega)).symm
  rw [← Int.natAbs_mul] at v1
  have eY : (4611686018427387904 * (p.2.natAbs : Int) + 4611686018427387904 * (p.2.natAbs : Int)) = ((9223372036854775808 * p.2.natAbs : Nat) : Int) := by omega
  have v2' := num_of v2 eY
  have eB : (9223372036854775808 * p.2).natAbs = 9223372036854775808 * p.2.natAbs := Int.natAbs_mul _ _
  rw [← eB] at v2'
  have eZ : p.1 * q.2 - -9223372036854775808 * p.2 = p.1 * q.2 + 9223372036854775808 * p.2 := by omega
  rw [eZ]
  have hB : decide (9223372036854775808 * p.2 < 0) = false := decide_eq_false (by omega)
  have hBn : 0 ≤ 9223372036854775808 * p.2 := by omega
  clear eZ eB eY v2 nm2 nl2
  generalize 9223372036854775808 * p.2 = B at *
  generalize p.1 * q.2 = A at *
  by_cases hs : p.1 ≥ 0
  · have hA : decide (A < 0) = false := by rw [← s1]; exact decide_eq_false (by omega)
    refine Ev.itep hs ?_
    obtain ⟨u, v, e1, e2, e3⟩ := plus_low v1 v2' v3 (by omega) (by omega) (by omega) hD false
    have := lows_same (A := A) (B := B) (d := p.2.natAbs * q.2.natAbs) (hA.trans hB.symm)
    rw [hA] at this
    rw [this] at e3
    exact Ev.bind e1 (Ev.bind e2 (Ev.bind e3 (Ev.now _)))
  · have hA : decide (A < 0) = true := by rw [← s1]; exact decide_eq_true (by omega)
    have hne : ¬ decide (A < 0) = decide (B < 0) := by rw [hA, hB]; decide
    refine Ev.iten hs (Ev.bind (order_ev v1 v2' (by omega) (by omega)) ?_)
    by_cases hle : B.natAbs ≤ A.natAbs
    · refine Ev.itep (sgn_ge.2 (by omega)) ?_
      obtain ⟨u, v, e1, e2, e3⟩ := minus_low v1 v2' v3 (by omega) (by omega) (by omega) hD hle true
      have := lows_left (d := p.2.natAbs * q.2.natAbs) hne hle
      rw [hA] at this
      rw [this] at e3
      exact Ev.bind e1 (Ev.bind e2 (Ev.bind e3 (Ev.now _)))
    · refine Ev.iten (fun h => hle (by have := sgn_ge.1 h; omega)) ?_
      obtain ⟨u, v, e1, e2, e3⟩ := minus_low v2' v1 v3 (by omega) (by omega) (by omega) hD (by omega) false
      have := lows_right (d := p.2.natAbs * q.2.natAbs) hne hle
      rw [hB] at this
      rw [this] at e3
      exact Ev.bind e1 (Ev.bind e2 (Ev.bind e3 (Ev.now _)))
theorem rminus_f {a b : Int} (ha : I64 a) : carrefourref02_minus.f a b = some (if a = -9223372036854775808 then (a, b, false) else (-a, b, true)) := by
  obtain ⟨h0, h1⟩ := ha
  unfold carrefourref02_minus.f
  by_cases h : a = -9223372036854775808
  · rw [if_pos h, if_pos h]
  · rw [if_neg h, if_neg h, w64 (by omega) (by omega)]
theorem rSub_ev {a b c d : Int} (ha : I64 a) (hb : I64 b) (hc : I64 c) (hd : I64 d) : Ev (fun k => carrefourref02_Sub.f k a b c d) (subS a b c d) := by
  obtain ⟨i1, i2, i3, _⟩ := nm_spec ha hb
  obtain ⟨i4, i5, i6, i7⟩ := nm_spec hc hd
  unfold carrefourref02_Sub.f
  refine Ev.bind (rNorm_ev hc hd) ?_
  unfold subS
  generalize nm c d = q at *
  refine Ev.bindc (rminus_f i4) ?_
  by_cases hm : q.1 = -9223372036854775808
  · rw [if_pos hm]
    have hodd : q.2 % 2 = 1 := rt_min (hm ▸ i7)
    refine Ev.iten Bool.false_ne_true (Ev.iten ?_ ?_)
    · rw [Int.tmod_eq_emod_of_nonneg (by omega)]; omega
    · refine Ev.bind (rNorm_ev ha hb) ?_
      generalize nm a b = p at *
      have := twiceAdded_ev (p := p) (q := q) i1 i2 i3 i5 i6
      rw [hm]
      exact Ev.bind this (Ev.now _)
  · rw [if_neg hm]
    have hadd := rAdd_ev (a := a) (b := b) (c := -q.1) (d := q.2) ha hb ⟨by unfold I64 at i4; omega, by unfold I64 at i4; omega⟩ i5
    have e : addS a b (-q.1) q.2 = lowZ ((nm a b).1 * q.2 - q.1 * (nm a b).2) ((nm a b).2 * q.2).natAbs := by
      unfold addS
      rw [nm_of (rt_neg i7), Int.neg_mul, ← Int.sub_eq_add_neg]
    rw [e] at hadd
    exact Ev.itep rfl (Ev.bind hadd (Ev.now _))
def cmpS (a b c d : Int) : Int := sgn ((nm a b).1 * (nm c d).2) ((nm c d).1 * (nm a b).2)
theorem rCmp_ev {a b c d : Int} (ha : I64 a) (hb : I64 b) (hc : I64 c) (hd : I64 d) : Ev (fun k => carrefourref02_Cmp.f k a b c d) (cmpS a b c d) := by
  obtain ⟨i1, i2, _, _⟩ := nm_spec ha hb
  obtain ⟨i4, i5, _, _⟩ := nm_spec hc hd
  unfold carrefourref02_Cmp.f cmpS
  exact Ev.bind (rNorm_ev ha hb) (Ev.bind (rNorm_ev hc hd) (Ev.bind (rCompare_ev i1 i5 i4 i2) (Ev.now _)))
theorem rFloor_pos {a b : Int} (ha : I64 a) (hb : 1 ≤ b) : Ev (fun k => carrefourref01_Floor.f k a b) (a / b, 0) := by
  have t := tdiv_bd ha (b := b) (by omega)
  have f := flo_w ha (b := b) (by omega) (by omega)
  have fp := flo_pos (a := a) hb
  have j : Ev (fun k => carrefourref01_Floor.j0 k a b false) (a / b, 0) := by
    refine Ev.step (f := fun _ => some (a / b, 0)) (fun k => ?_) (Ev.now _)
    simp only [carrefourref01_Floor.j0]
    rw [if_neg Bool.false_ne_true, if_neg (show ¬ b = 0 by omega), w64 (x := Int.tdiv a b) t.1 t.2, ← fp]
    unfold flo at f ⊢
    by_cases hm : Int.tmod a b = 0
    · rw [if_pos hm, if_pos hm]
    · rw [if_neg hm] at f ⊢
      rw [if_neg hm]
      by_cases hs : decide (a < 0) = decide (b < 0)
      · rw [if_pos hs, if_neg (by simpa using hs)]
      · rw [if_neg hs] at f
        rw [if_neg hs, if_pos (by simpa using hs), w64 f.1 f.2]
  unfold carrefourref01_Floor.f
  refine Ev.iten (by omega) ?_
  have hb1 : (b == -1) = false := by rw [beq_eq_false_iff_ne]; omega
  by_cases h : a = -9223372036854775808
  · refine Ev.itep h ?_
    rw [hb1]; exact j
  · exact Ev.iten h j
theorem ceil_eq {a b : Int} (hb : 1 ≤ b) : -((-a) / b) = if Int.tmod a b = 0 then a / b else a / b + 1 := by
  have h1 := Int.mul_ediv_add_emod a b
  have h2 := Int.emod_nonneg a (show b ≠ 0 by omega)
  have h3 := Int.emod_lt_of_pos a (show 0 < b by omega)
  have hd : Int.tmod a b = 0 ↔ a % b = 0 := by
    rw [← Int.dvd_iff_tmod_eq_zero, Int.dvd_iff_emod_eq_zero]
  have key : ∀ q : Int, a ≤ b * q → b * (q - 1) < a → -((-a) / b) = q := by
    intro q h1 h2
    rw [Int.mul_sub, Int.mul_one] at h2
    have h3 : -q ≤ (-a) / b := Int.le_ediv_of_mul_le (by omega) (by rw [Int.neg_mul, Int.mul_comm]; omega)
    have h4 : (-a) / b < -q + 1 := Int.ediv_lt_of_lt_mul (by omega) (by rw [Int.add_mul, Int.neg_mul, Int.one_mul, Int.mul_comm]; omega)
    omega
  by_cases h : Int.tmod a b = 0
  · rw [if_pos h]
    have := hd.1 h
    exact key _ (by omega) (by rw [Int.mul_sub, Int.mul_one]; omega)
  · rw [if_neg h]
    have : a % b ≠ 0 := fun e => h (hd.2 e)
    exact key _ (by rw [Int.mul_add, Int.mul_one]; omega) (by rw [Int.add_sub_cancel]; omega)
theorem ceil_bd {a b : Int} (ha : I64 a) (hb : 1 ≤ b) : I64 (-((-a) / b)) := by
  obtain ⟨a0, a1⟩ := ha
  by_cases h0 : 0 ≤ a
  · have e1 : -a ≤ (-a) / b := by
      apply Int.le_ediv_of_mul_le (by omega)
      have := Int.mul_le_mul_of_nonneg_left hb h0
      rw [Int.neg_mul]
      omega
    have e2 : (-a) / b ≤ 0 := by
      have := Int.ediv_le_ediv (show (0 : Int) < b by omega) (show -a ≤ 0 by omega)
      rwa [Int.zero_ediv] at this
    exact ⟨by omega, by omega⟩
  · have p0 : 0 ≤ (-a) / b := Int.ediv_nonneg (by omega) (by omega)
    have p1 : (-a) / b ≤ -a := Int.ediv_le_self b (by omega)
    exact ⟨by omega, by omega⟩
theorem rCeil_pos {a b : Int} (ha : I64 a) (hb : 1 ≤ b) : Ev (fun k => carrefourref01_Ceil.f k a b) (-((-a) / b), 0) := by
  have bd := ceil_bd ha hb
  unfold carrefourref01_Ceil.f
  refine Ev.bind (rFloor_pos ha hb) (Ev.itep rfl (Ev.iten (by omega) ?_))
  rw [ceil_eq hb] at bd ⊢
  by_cases h : Int.tmod a b = 0
  · rw [if_pos h, if_pos h]; exact Ev.now _
  · rw [if_neg h] at bd ⊢
    rw [if_neg h]
    simp only
    rw [w64 bd.1 bd.2]
    exact Ev.now _
theorem rCeil_ev {a b : Int} (ha : I64 a) (hb : I64 b) : Ev (fun k => carrefourref02_Ceil.f k a b) (ceilS a b) := by
  obtain ⟨i1, i2, i3, _⟩ := nm_spec ha hb
  unfold carrefourref02_Ceil.f ceilS
  exact Ev.bind (rNorm_ev ha hb) (Ev.bind (rCeil_pos i1 i3) (Ev.now _))
theorem rFloor_ev {a b : Int} (ha : I64 a) (hb : I64 b) : Ev (fun k => carrefourref02_Floor.f k a b) (floorS a b) := by
  obtain ⟨i1, i2, i3, _⟩ := nm_spec ha hb
  unfold carrefourref02_Floor.f floorS
  exact Ev.bind (rNorm_ev ha hb) (Ev.bind (rFloor_pos i1 i3) (Ev.now _))
theorem fCeil_ev {a b : Int} (ha : I64 a) (hb : I64 b) : Ev (fun k => frac_Ceil.f k a b) (ceilS a b) := by
  obtain ⟨i1, i2, i3, _⟩ := nm_spec ha hb
  unfold frac_Ceil.f ceilS
  refine Ev.bind (norm_ev ha hb) ?_
  exact Ev.bindc (Ceil_any i1 i3) (Ev.now _)
end Go.Proofs.YtjgnaccamakpdaaDoor.Pure
