/- Fractions: what the functions of package frac come to.
   Conditions: as each theorem's head says. -/
import Derived.Test.YtfhokgkpcphmlaaGreatDoorP02b
namespace Go.Proofs.YtfhokgkpcphmlaaGreatDoor.Pure
set_option linter.unusedVariables false
open Go.RowKit Go.Proofs.YtfhokgkpcphmlaaGreatDoor.X Go.Proofs.YtfhokgkpcphmlaaGreatDoorW.PrintWords Go.Proofs.YtfhokgkpcphmlaaGreatDoorW.PrintLast Go.Proofs.YtfhokgkpcphmlaaGreatDoorW.PrintMore

/-- Which fractions are right. -/
def rt (a b : Int) : Prop := 1 ≤ b ∧ gg a b = 1
instance (a b : Int) : Decidable (rt a b) := by unfold rt; exact inferInstance
/-- A fraction as it counts. -/
def nm (a b : Int) : Int × Int := if rt a b then (a, b) else (0, 1)
theorem nm_spec {a b : Int} (ha : I64 a) (hb : I64 b) : I64 (nm a b).1 ∧ I64 (nm a b).2 ∧ 1 ≤ (nm a b).2 ∧ rt (nm a b).1 (nm a b).2 := by
  unfold nm
  by_cases h : rt a b
  · rw [if_pos h]; exact ⟨ha, hb, h.1, h⟩
  · rw [if_neg h]; exact ⟨by unfold I64; omega, by unfold I64; omega, by omega, by decide⟩
/-- The fraction of a number and a size. -/
def lowZ (z : Int) (d : Nat) : Int × Int × Int := lowF z.natAbs d (decide (z < 0))
theorem lowF_zero (d : Nat) (s t : Bool) : lowF 0 d s = lowF 0 d t := by
  unfold lowF
  rw [Nat.zero_div]
  by_cases c : d / Nat.gcd 0 d < 9223372036854775808
  · cases s <;> cases t <;> simp
  · cases s <;> cases t <;> simp
theorem lowF_of {n d : Nat} {s : Bool} {z : Int} (hn : n = z.natAbs) (hs : z ≠ 0 → (s = true ↔ z < 0)) : lowF n d s = lowZ z d := by
  unfold lowZ
  subst hn
  by_cases h : z = 0
  · subst h; exact lowF_zero _ _ _
  · have : s = decide (z < 0) := by rw [Bool.eq_iff_iff, decide_eq_true_eq]; exact hs h
    rw [this]
/-- What a fraction that fits is. -/
theorem lowZ_fits {z : Int} {d : Nat} (hd : d ≠ 0) (h : (lowZ z d).2.2 = 0) : I64 (lowZ z d).1 ∧ I64 (lowZ z d).2.1 ∧ rt (lowZ z d).1 (lowZ z d).2.1 ∧ (lowZ z d).1 * d = z * (lowZ z d).2.1 := by
  unfold lowZ lowF at h ⊢
  have hg : 0 < Nat.gcd z.natAbs d := Nat.gcd_pos_of_pos_right _ (by omega)
  obtain ⟨a, ha⟩ := Nat.gcd_dvd_left z.natAbs d
  obtain ⟨b, hb⟩ := Nat.gcd_dvd_right z.natAbs d
  have ea : z.natAbs / Nat.gcd z.natAbs d = a := by conv => lhs; lhs; rw [ha]
                                                    exact Nat.mul_div_cancel_left a hg
  have eb : d / Nat.gcd z.natAbs d = b := by conv => lhs; lhs; rw [hb]
                                             exact Nat.mul_div_cancel_left b hg
  have hcop : Nat.gcd a b = 1 := by
    have := Nat.coprime_div_gcd_div_gcd hg
    rw [ea, eb] at this
    exact this
  rw [ea, eb] at h ⊢
  have hb0 : b ≠ 0 := by rintro rfl; omega
  by_cases c : a < (if decide (z < 0) = true then 9223372036854775809 else 9223372036854775808) ∧ b < 9223372036854775808
  · rw [if_pos c]
    have hc1 := c.1
    have hgr : gg (if decide (z < 0) = true then -(a : Int) else (a : Int)) (b : Int) = 1 := by
      unfold gg
      have : (if decide (z < 0) = true then -(a : Int) else (a : Int)).natAbs = a := by split <;> omega
      rw [this, Int.natAbs_natCast, hcop]
    have hz : z = (if decide (z < 0) = true then -(z.natAbs : Int) else (z.natAbs : Int)) := by
      by_cases hs : z < 0
      · rw [if_pos (decide_eq_true hs)]; omega
      · rw [if_neg (by rw [decide_eq_false hs]; exact Bool.false_ne_true)]; omega
    have hprod : (a : Int) * d = (z.natAbs : Int) * b := by
      have : a * d = z.natAbs * b := by
        conv => lhs; rw [hb]
        conv => rhs; rw [ha]
        rw [Nat.mul_comm (Nat.gcd z.natAbs d) a, Nat.mul_assoc]
      exact_mod_cast this
    have hc2 := c.2
    refine ⟨?_, (show I64 (b : Int) from ⟨by omega, by omega⟩), ⟨(show (1 : Int) ≤ b by omega), hgr⟩, ?_⟩
    · show I64 (if decide (z < 0) = true then -(a : Int) else (a : Int))
      by_cases hs : decide (z < 0) = true
      · rw [if_pos hs] at hc1 ⊢; exact ⟨by omega, by omega⟩
      · rw [if_neg hs] at hc1 ⊢; exact ⟨by omega, by omega⟩
    · show (if decide (z < 0) = true then -(a : Int) else (a : Int)) * d = z * b
      conv => rhs; rw [hz]
      by_cases hs : decide (z < 0) = true
      · rw [if_pos hs, if_pos hs, Int.neg_mul, Int.neg_mul, hprod]
      · rw [if_neg hs, if_neg hs, hprod]
  · rw [if_neg c] at h
    exact absurd h (by decide)
theorem lowZ_err {z : Int} {d : Nat} : (lowZ z d).2.2 = 0 ∨ lowZ z d = (0, 0, 2) := by
  unfold lowZ lowF
  by_cases c : z.natAbs / Nat.gcd z.natAbs d < (if decide (z < 0) = true then 9223372036854775809 else 9223372036854775808) ∧ d / Nat.gcd z.natAbs d < 9223372036854775808
  · rw [if_pos c]; exact .inl rfl
  · rw [if_neg c]; exact .inr rfl
/-- The sign of a product. -/
theorem sign_mul {a b : Int} (h : a * b ≠ 0) : ((decide (a < 0) != decide (b < 0)) = true ↔ a * b < 0) := by
  have z1 : a ≠ 0 := by intro e; rw [e, Int.zero_mul] at h; exact h rfl
  have z2 : b ≠ 0 := by intro e; rw [e, Int.mul_zero] at h; exact h rfl
  by_cases s1 : a < 0
  · by_cases s2 : b < 0
    · have := Int.mul_pos_of_neg_of_neg s1 s2
      rw [decide_eq_true s1, decide_eq_true s2]; simp; omega
    · have := Int.mul_neg_of_neg_of_pos s1 (show 0 < b by omega)
      rw [decide_eq_true s1, decide_eq_false s2]; simp; omega
  · by_cases s2 : b < 0
    · have := Int.mul_neg_of_pos_of_neg (show 0 < a by omega) s2
      rw [decide_eq_false s1, decide_eq_true s2]; simp; omega
    · have := Int.mul_nonneg (show 0 ≤ a by omega) (show 0 ≤ b by omega)
      rw [decide_eq_false s1, decide_eq_false s2]; simp; omega
theorem sign_pos {a : Bool} {b : Int} (h : 0 < b) : (a != decide (b < 0)) = a := by rw [decide_eq_false (by omega)]; cases a <;> rfl
theorem sign_pos2 {p q : Int} (hp : 0 < p) (hq : 0 < q) : (decide (p < 0) != decide (q < 0)) = false := by rw [decide_eq_false (show ¬ p < 0 by omega), decide_eq_false (show ¬ q < 0 by omega)]; rfl
theorem bne_false' (a : Bool) : (a != false) = a := by cases a <;> rfl
/-- The sign of a quotient. -/
theorem sign_div {a b : Int} (hb : b ≠ 0) (h : (if b < 0 then -a else a) ≠ 0) : ((decide (a < 0) != decide (b < 0)) = true ↔ (if b < 0 then -a else a) < 0) := by
  by_cases s2 : b < 0
  · rw [if_pos s2] at h ⊢
    by_cases s1 : a < 0
    · rw [decide_eq_true s1, decide_eq_true s2]; simp; omega
    · rw [decide_eq_false s1, decide_eq_true s2]; simp; omega
  · rw [if_neg s2] at h ⊢
    by_cases s1 : a < 0
    · rw [decide_eq_true s1, decide_eq_false s2]; simp; omega
    · rw [decide_eq_false s1, decide_eq_false s2]; simp; omega
/-! ### the functions -/
def ofS (n d : Int) : Int × Int × Int := if d = 0 then (0, 0, 3) else lowZ (if d < 0 then -n else n) d.natAbs
def mulS (a b c d : Int) : Int × Int × Int := lowZ ((nm a b).1 * (nm c d).1) ((nm a b).2 * (nm c d).2).natAbs
def divS (a b c d : Int) : Int × Int × Int := if (nm c d).1 = 0 then (0, 0, 3) else lowZ (if (nm c d).1 < 0 then -((nm a b).1 * (nm c d).2) else (nm a b).1 * (nm c d).2) ((nm a b).2 * (nm c d).1).natAbs
theorem gcd_one_bd {a b : Int} (hb : I64 b) (h : 1 ≤ b) : (gg a b : Int) < 9223372036854775808 := by
  obtain ⟨_, h2⟩ := hb
  have : gg a b ≤ b.natAbs := Nat.gcd_le_right _ (by omega)
  omega
theorem Right_ev {a b : Int} (ha : I64 a) (hb : I64 b) : Ev (fun k => frac_Right.f k a b) (decide (rt a b)) := by
  unfold frac_Right.f
  refine Ev.bind (Gcd_ev ha hb) ?_
  by_cases h : b ≥ 1
  · refine Ev.itep h ?_
    have := gcd_one_bd (a := a) hb h
    rw [fit_in ⟨by omega, this⟩]
    refine Ev.itep rfl ?_
    have e : (((gg a b : Nat) : Int) == 1) = decide (rt a b) := by
      rw [Bool.eq_iff_iff, decide_eq_true_eq, beq_iff_eq]
      unfold rt
      omega
    show Ev (fun _ => some (((gg a b : Nat) : Int) == 1)) (decide (rt a b))
    rw [e]
    exact Ev.now _
  · rw [decide_eq_false (fun x : rt a b => h x.1)]
    exact Ev.iten h (Ev.now _)
theorem norm_ev {a b : Int} (ha : I64 a) (hb : I64 b) : Ev (fun k => frac_norm.f k a b) (nm a b) := by
  unfold frac_norm.f nm
  refine Ev.bind (Right_ev ha hb) ?_
  by_cases h : rt a b
  · rw [if_pos h]; exact Ev.itep (by simpa using h) (Ev.now _)
  · rw [if_neg h]; exact Ev.iten (by simpa using h) (Ev.now _)
theorem sized_f {a : Int} (ha : I64 a) : frac_sized.f a = some (decide (a < 0), hw a.natAbs, lw a.natAbs) := by
  unfold I64 at ha
  unfold frac_sized.f
  rw [hw_small (by omega), lw_small (by omega)]
  by_cases h : a < 0
  · rw [if_pos h, decide_eq_true h]
    have : IntKind.u64.wrap (-(IntKind.u64.wrap a)) = (a.natAbs : Int) := by
      rw [IntKind.wrap_u64, IntKind.wrap_u64]; omega
    rw [this]
  · rw [if_neg h, decide_eq_false h, u64w (by omega) (by omega)]
    have : a = (a.natAbs : Int) := by omega
    rw [← this]
theorem times_f {x y : Nat} (s t : Bool) (hx : x < 18446744073709551616) (hy : y < 18446744073709551616) : frac_signed_times.f s (hw x) (lw x) t (hw y) (lw y) = some ((s != t), hw (x * y), lw (x * y)) := by
  unfold frac_signed_times.f frac_multiply.f
  rw [lw_small hx, lw_small hy, mul64 ⟨by omega, by omega⟩ ⟨by omega, by omega⟩]
  simp only [Option.bind_some]
  unfold hw lw
  have e : (x : Int) * (y : Int) = ((x * y : Nat) : Int) := by push_cast; rfl
  rw [e]
  rfl
theorem prodM {x y : Nat} (hx : x ≤ 9223372036854775808) (hy : y ≤ 9223372036854775808) : M128 (x * y) := by
  have := Nat.mul_le_mul hx hy
  unfold M128
  omega
theorem Of_ev {n d : Int} (hn : I64 n) (hd : I64 d) : Ev (fun k => frac_Of.f k n d) (ofS n d) := by
  unfold frac_Of.f ofS
  by_cases h : d = 0
  · rw [if_pos h]; exact Ev.itep h (Ev.now _)
  · rw [if_neg h]
    have n1 := nab hn
    have n2 := nab hd
    refine Ev.iten h (Ev.bindc (sized_f hn) (Ev.bindc (sized_f hd) ?_))
    have := reduced_ev (n := n.natAbs) (d := d.natAbs) (by unfold M128; omega) (by unfold M128; omega) (by omega) (decide (n < 0)) (decide (d < 0))
    rw [lowF_of (z := if d < 0 then -n else n) (by split <;> omega) (sign_div h)] at this
    exact Ev.bind this (Ev.now _)
theorem Mul_ev' {a b c d : Int} (ha : I64 a) (hb : I64 b) (hc : I64 c) (hd : I64 d) : Ev (fun k => frac_Mul.f k a b c d) (mulS a b c d) := by
  obtain ⟨i1, i2, i3, _⟩ := nm_spec ha hb
  obtain ⟨i4, i5, i6, _⟩ := nm_spec hc hd
  unfold frac_Mul.f mulS
  refine Ev.bind (norm_ev ha hb) (Ev.bind (norm_ev hc hd) ?_)
  generalize nm a b = p at *
  generalize nm c d = q at *
  have n1 := nab i1; have n2 := nab i2; have n3 := nab i4; have n4 := nab i5
  refine Ev.bindc (sized_f i1) (Ev.bindc (sized_f i4) (Ev.bindc (times_f _ _ (by omega) (by omega)) (Ev.bindc (sized_f i2) (Ev.bindc (sized_f i5) (Ev.bindc (times_f _ _ (by omega) (by omega)) ?_)))))
  have := reduced_ev (n := p.1.natAbs * q.1.natAbs) (d := p.2.natAbs * q.2.natAbs) (prodM n1 n3) (prodM n2 n4) (Nat.mul_ne_zero (by omega) (by omega)) (decide (p.1 < 0) != decide (q.1 < 0)) (decide (p.2 < 0) != decide (q.2 < 0))
  have e : lowF (p.1.natAbs * q.1.natAbs) (p.2.natAbs * q.2.natAbs) ((decide (p.1 < 0) != decide (q.1 < 0)) != (decide (p.2 < 0) != decide (q.2 < 0))) = lowZ (p.1 * q.1) (p.2 * q.2).natAbs := by
    rw [sign_pos2 (show 0 < p.2 by omega) (show 0 < q.2 by omega), bne_false', lowF_of (z := p.1 * q.1) (Int.natAbs_mul _ _).symm sign_mul, Int.natAbs_mul]
  rw [e] at this
  exact Ev.bind this (Ev.now _)
theorem Div_ev {a b c d : Int} (ha : I64 a) (hb : I64 b) (hc : I64 c) (hd : I64 d) : Ev (fun k => frac_Div.f k a b c d) (divS a b c d) := by
  obtain ⟨i1, i2, i3, _⟩ := nm_spec ha hb
  obtain ⟨i4, i5, i6, _⟩ := nm_spec hc hd
  unfold frac_Div.f divS
  refine Ev.bind (norm_ev ha hb) (Ev.bind (norm_ev hc hd) ?_)
  generalize nm a b = p at *
  generalize nm c d = q at *
  have n1 := nab i1; have n2 := nab i2; have n3 := nab i4; have n4 := nab i5
  by_cases h0 : q.1 = 0
  · rw [if_pos h0]; exact Ev.itep h0 (Ev.now _)
  · rw [if_neg h0]
    refine Ev.iten h0 (Ev.bindc (sized_f i1) (Ev.bindc (sized_f i5) (Ev.bindc (times_f _ _ (by omega) (by omega)) (Ev.bindc (sized_f i2) (Ev.bindc (sized_f i4) (Ev.bindc (times_f _ _ (by omega) (by omega)) ?_))))))
    have := reduced_ev (n := p.1.natAbs * q.2.natAbs) (d := p.2.natAbs * q.1.natAbs) (prodM n1 n4) (prodM n2 n3) (Nat.mul_ne_zero (by omega) (by omega)) (decide (p.1 < 0) != decide (q.2 < 0)) (decide (p.2 < 0) != decide (q.1 < 0))
    have s5 : decide (p.1 * q.2 < 0) = decide (p.1 < 0) := by
      rw [decide_eq_decide]
      constructor
      · intro h
        apply Int.not_le.1
        intro h2
        have := Int.mul_nonneg h2 (show 0 ≤ q.2 by omega)
        omega
      · intro h; exact Int.mul_neg_of_neg_of_pos h (by omega)
    have s6 : (decide (p.2 < 0) != decide (q.1 < 0)) = decide (q.1 < 0) := by rw [decide_eq_false (show ¬ p.2 < 0 by omega)]; cases decide (q.1 < 0) <;> rfl
    have e : lowF (p.1.natAbs * q.2.natAbs) (p.2.natAbs * q.1.natAbs) ((decide (p.1 < 0) != decide (q.2 < 0)) != (decide (p.2 < 0) != decide (q.1 < 0))) = lowZ (if q.1 < 0 then -(p.1 * q.2) else p.1 * q.2) (p.2 * q.1).natAbs := by
      rw [sign_pos (show 0 < q.2 by omega), s6, ← s5, lowF_of (z := if q.1 < 0 then -(p.1 * q.2) else p.1 * q.2) (by rw [← Int.natAbs_mul]; split <;> omega) (sign_div h0), Int.natAbs_mul p.2]
    rw [e] at this
    exact Ev.bind this (Ev.now _)
end Go.Proofs.YtfhokgkpcphmlaaGreatDoor.Pure
