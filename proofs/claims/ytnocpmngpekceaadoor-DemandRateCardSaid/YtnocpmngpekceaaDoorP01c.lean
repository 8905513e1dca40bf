/- What the functions of packages whole and carrefourref01 come to, by numbers alone: products, quotients, comparisons, roots.
   Conditions: as each theorem's head says. -/
import Derived.Test.YtnocpmngpekceaaDoorP01b
namespace Go.Proofs.YtnocpmngpekceaaDoor.Pure
set_option linter.unusedVariables false
open Go.RowKit Go.Proofs.YtnocpmngpekceaaDoor.X Go.Proofs.YtnocpmngpekceaaDoorW.PrintWords Go.Proofs.YtnocpmngpekceaaDoorW.PrintLast Go.Proofs.YtnocpmngpekceaaDoorW.PrintMore

theorem fit_in {n : Int} (h : I64 n) : fit n = (n, 0) := by unfold I64 at h; unfold fit; rw [if_pos h]
theorem fit_out {n : Int} (h : ¬ I64 n) : fit n = (0, 2) := by unfold I64 at h; unfold fit; rw [if_neg h]
/-! ### sums -/
theorem Add_f {a b : Int} (ha : I64 a) (hb : I64 b) : whole_Add.f a b = some (fit (a + b)) := by
  obtain ⟨a0, a1⟩ := ha; obtain ⟨b0, b1⟩ := hb
  unfold whole_Add.f
  by_cases h : I64 (a + b)
  · rw [fit_in h]
    obtain ⟨h0, h1⟩ := h
    rw [w64 h0 h1]
    have : ((decide (a + b < a)) != (decide (b < 0))) = false := by
      have : decide (a + b < a) = decide (b < 0) := by rw [decide_eq_decide]; omega
      rw [this]; simp
    rw [this, if_neg (by decide)]
  · rw [fit_out h]
    have hw : (wrap64 (a + b) < a ∧ ¬ b < 0) ∨ (¬ wrap64 (a + b) < a ∧ b < 0) := by
      unfold I64 at h
      unfold wrap64
      omega
    rcases hw with ⟨h1, h2⟩ | ⟨h1, h2⟩ <;> simp [h1, h2]
/-! ### products -/
theorem sg_mul (a b : Int) : sg a b * (ab a * ab b) = a * b := by
  rcases sg_spec a b with h | h | h
  · rw [h.1, h.2.1, Int.one_mul]
  · rw [h.1, h.2.1, Int.neg_mul, Int.one_mul]
  · rw [h.1, h.2.1, Int.zero_mul]
theorem below_ev {β : Type} {a b : Int} {r : β} (F : Bool → Nat → Option β) (h : Ev (F (decide (sg a b = -1))) r) :
    Ev (fun n => if ((decide (a < 0)) != (decide (b < 0))) = true then (if a = 0 then F false n else F (b != 0) n) else F false n) r := by
  have cases3 : (((decide (a < 0)) != (decide (b < 0))) = true ∧ a = 0 ∧ decide (sg a b = -1) = false) ∨ (((decide (a < 0)) != (decide (b < 0))) = true ∧ a ≠ 0 ∧ decide (sg a b = -1) = (b != 0)) ∨ (¬ ((decide (a < 0)) != (decide (b < 0))) = true ∧ decide (sg a b = -1) = false) := by
    by_cases c : ((decide (a < 0)) != (decide (b < 0))) = true
    · by_cases z : a = 0
      · exact .inl ⟨c, z, by simp [sg, z]⟩
      · refine .inr (.inl ⟨c, z, ?_⟩)
        have c' : ¬ decide (a < 0) = decide (b < 0) := by simpa using c
        by_cases y : b = 0
        · simp [sg, y]
        · have y' : (b != 0) = true := by simpa using y
          unfold sg
          rw [if_neg (by simp [z, y]), if_neg c', y']; decide
    · refine .inr (.inr ⟨c, ?_⟩)
      have c' : decide (a < 0) = decide (b < 0) := by simpa using c
      unfold sg
      by_cases y : a = 0 ∨ b = 0
      · simp [y]
      · rw [if_neg y, if_pos c']; decide
  rcases cases3 with ⟨c, z, e⟩ | ⟨c, z, e⟩ | ⟨c, e⟩
  · rw [e] at h
    exact Ev.itep c (Ev.itep z h)
  · rw [e] at h
    exact Ev.itep c (Ev.iten z h)
  · rw [e] at h
    exact Ev.iten c h
theorem neg_ediv {P c : Int} (hc : 1 ≤ c) : (-P) / c = -((P + (c - 1)) / c) := by
  have g1 := Int.ediv_mul_le (P + (c - 1)) (b := c) (by omega)
  have g2 := Int.lt_ediv_add_one_mul_self (P + (c - 1)) (b := c) (by omega)
  generalize (P + (c - 1)) / c = q at *
  rw [Int.add_mul, Int.one_mul] at g2
  have h1 : -q ≤ (-P) / c := Int.le_ediv_of_mul_le (by omega) (by rw [Int.neg_mul]; omega)
  have h2 : (-P) / c < -q + 1 := Int.ediv_lt_of_lt_mul (by omega) (by rw [Int.add_mul, Int.neg_mul, Int.one_mul]; omega)
  omega
theorem neg_ediv2 {P c : Int} (hc : 1 ≤ c) : (-P) / c = if P / c * c = P then -(P / c) else -(P / c + 1) := by
  have g1 := Int.ediv_mul_le P (b := c) (by omega)
  have g2 := Int.lt_ediv_add_one_mul_self P (b := c) (by omega)
  generalize P / c = q at *
  rw [Int.add_mul, Int.one_mul] at g2
  split
  · rename_i h
    have h1 : -q ≤ (-P) / c := Int.le_ediv_of_mul_le (by omega) (by rw [Int.neg_mul]; omega)
    have h2 : (-P) / c < -q + 1 := Int.ediv_lt_of_lt_mul (by omega) (by rw [Int.add_mul, Int.neg_mul, Int.one_mul]; omega)
    omega
  · rename_i h
    have h1 : -(q + 1) ≤ (-P) / c := Int.le_ediv_of_mul_le (by omega) (by rw [Int.neg_mul, Int.add_mul, Int.one_mul]; omega)
    have h2 : (-P) / c < -(q + 1) + 1 := Int.ediv_lt_of_lt_mul (by omega) (by rw [Int.add_mul, Int.neg_mul, Int.one_mul, Int.add_mul, Int.one_mul]; omega)
    omega
/-- What Scale tells. -/
def scaled (a b c : Int) : Int × Int := if c < 1 then (0, 1) else fit (a * b / c)
theorem scale_end {P c s : Int} (hP : 0 ≤ P) (hP1 : P < 340282366920938463463374607431768211456) (hc : 1 ≤ c) (hc1 : c < 9223372036854775808) (hs : s = -1 ∨ s = 1 ∨ (s = 0 ∧ P = 0)) :
    Ev (fun n => whole_Scale.j0 n c s (P / 18446744073709551616) (P % 18446744073709551616)) (fit (s * (P / c))) := by
  have hw : IntKind.u64.wrap c = c := u64w (by omega) (by omega)
  by_cases h : P / 18446744073709551616 ≥ c
  · refine Ev.step (f := fun _ => some (0, 2)) (fun n => ?_) ?_
    · simp only [whole_Scale.j0]
      rw [hw, if_pos h]
    · have : 18446744073709551616 ≤ P / c := Int.le_ediv_of_mul_le (by omega) (by
        have := Int.mul_ediv_self_le (x := P) (k := 18446744073709551616) (by decide)
        omega)
      rw [fit_out (by
        unfold I64
        rcases hs with rfl | rfl | ⟨rfl, rfl⟩
        · omega
        · omega
        · omega)]
      exact Ev.now _
  · have hq : P / c < 18446744073709551616 := Int.ediv_lt_of_lt_mul (by omega) (by omega)
    have hq0 : 0 ≤ P / c := Int.ediv_nonneg hP (by omega)
    have hd := div64 (hi := P / 18446744073709551616) (lo := P % 18446744073709551616) (y := c) ⟨by omega, by omega⟩ ⟨by omega, by omega⟩ ⟨by omega, by omega⟩ (by omega)
    have e : P / 18446744073709551616 * 18446744073709551616 + P % 18446744073709551616 = P := by omega
    rw [e] at hd
    have hsd := whole_signed_ev (u := P / c) (s := s) ⟨hq0, hq⟩ (by
      rcases hs with hs | hs | ⟨hs, hs2⟩
      · exact .inl hs
      · exact .inr (.inl hs)
      · exact .inr (.inr ⟨hs, by rw [hs2]; exact Int.zero_ediv _⟩))
    refine Ev.step (f := fun n => (bits_Div64.f n (P / 18446744073709551616) (P % 18446744073709551616) c).bind fun bt114 => ((whole_signed.f n bt114.1 s).bind fun bt116 => (some (bt116.1, bt116.2)))) (fun n => ?_) (Ev.bind hd (Ev.bind hsd (Ev.now _)))
    simp only [whole_Scale.j0]
    rw [hw, if_neg h]
theorem Scale_ev {a b c : Int} (ha : I64 a) (hb : I64 b) (hc : I64 c) : Ev (fun k => whole_Scale.f k a b c) (scaled a b c) := by
  have hp := prod_bd ha hb
  unfold whole_Scale.f scaled
  by_cases h1 : c < 1
  · rw [if_pos h1]; exact Ev.itep h1 (Ev.now _)
  · rw [if_neg h1]
    refine Ev.iten h1 (Ev.bindc (product_f ha hb) (Ev.bind (whole_sign_ev a b) ?_))
    rcases sg_spec a b with h | h | h
    · rw [h.1, h.2.1]
      refine Ev.iten (by omega) ?_
      have := scale_end (c := c) (s := 1) hp.1 (by omega) (by omega) (by have := hc.2; omega) (.inr (.inl rfl))
      rw [Int.one_mul] at this
      exact this
    · rw [h.1, h.2.1, neg_ediv (by omega)]
      refine Ev.itep (by omega) ?_
      have hcw : IntKind.u64.wrap (IntKind.u64.wrap c - 1) = c - 1 := by rw [u64w (x := c) (by omega) (by have := hc.2; omega), u64w (by omega) (by have := hc.2; omega)]
      have hadd : bits_Add64.f (ab a * ab b % 18446744073709551616) (c - 1) 0 = some ((ab a * ab b % 18446744073709551616 + (c - 1) + 0) % 18446744073709551616, (ab a * ab b % 18446744073709551616 + (c - 1) + 0) / 18446744073709551616) := by
        unfold bits_Add64.f
        rw [if_pos ⟨by omega, by omega, by omega, by omega⟩]
      simp only [hcw]
      refine Ev.bindc hadd ?_
      have := scale_end (P := ab a * ab b + (c - 1)) (c := c) (s := -1) (by omega) (by have := hc.2; omega) (by omega) (by have := hc.2; omega) (.inl rfl)
      rw [Int.neg_mul, Int.one_mul] at this
      have e1 : (ab a * ab b % 18446744073709551616 + (c - 1) + 0) % 18446744073709551616 = (ab a * ab b + (c - 1)) % 18446744073709551616 := by omega
      have e2 : IntKind.u64.wrap (ab a * ab b / 18446744073709551616 + (ab a * ab b % 18446744073709551616 + (c - 1) + 0) / 18446744073709551616) = (ab a * ab b + (c - 1)) / 18446744073709551616 := by
        rw [IntKind.wrap_u64]; have := hc.2; omega
      simp only [e1, e2]
      exact this
    · rw [h.1, h.2.1]
      refine Ev.iten (by omega) ?_
      have := scale_end (c := c) (s := 0) hp.1 (by omega) (by omega) (by have := hc.2; omega) (.inr (.inr ⟨rfl, h.2.2⟩))
      rw [Int.zero_mul] at this
      rw [Int.zero_ediv]
      exact this
theorem rScale_ev {a b c : Int} (ha : I64 a) (hb : I64 b) (hc : I64 c) : Ev (fun k => carrefourref01_Scale.f k a b c) (scaled a b c) := by
  have hp := prod_bd ha hb
  unfold carrefourref01_Scale.f scaled
  by_cases h1 : c < 1
  · rw [if_pos h1]; exact Ev.itep h1 (Ev.now _)
  · rw [if_neg h1]
    obtain ⟨c0, c1⟩ := hc
    obtain ⟨t, ht, nt, lt⟩ := times_ev (ab a) (ab b) (ab_u ha) (ab_u hb)
    have hw : IntKind.u64.wrap c = c := u64w (by omega) (by omega)
    refine Ev.iten h1 (Ev.bindc (Size_f ha) (Ev.bindc (Size_f hb) (Ev.bind ht ?_)))
    rw [hw]
    by_cases h : ab a * ab b < 18446744073709551616 * c
    · have hq := quotient_fit nt (by omega) ⟨by omega, by omega⟩ (by omega) h
      refine Ev.bind hq ?_
      refine below_ev (a := a) (b := b) (fun d n => carrefourref01_Scale.j0 n c t (ab a * ab b / c) true d) ?_
      have q0 : 0 ≤ ab a * ab b / c := Int.ediv_nonneg hp.1 (by omega)
      have q1 : ab a * ab b / c < 18446744073709551616 := Int.ediv_lt_of_lt_mul (by omega) h
      have sgned : ∀ (u : Int) (d : Bool), U64 u → Ev (fun n => (carrefourref01_Signed.f n u d).bind fun bt => some (bt.1, bt.2)) (fit (if d then -u else u)) := fun u d hu => Ev.bind (Signed_ev hu (fun _ => .inr trivial)) (Ev.now _)
      by_cases hb' : sg a b = -1
      · have hab : a * b = -(ab a * ab b) := by have := sg_mul a b; rw [hb', Int.neg_mul, Int.one_mul] at this; exact this.symm
        rw [hab, neg_ediv2 (by omega), decide_eq_true hb']
        obtain ⟨t2, ht2, nt2, lt2⟩ := times_ev (ab a * ab b / c) c ⟨q0, q1⟩ ⟨by omega, by omega⟩
        have ho := order_ev nt2 nt (by omega) (by omega)
        refine Ev.step (f := fun n => (carrefourref01_Times.f n (ab a * ab b / c) c).bind fun t202 => ((carrefourref01_Order.f n t202 t).bind fun t205 => (carrefourref01_Scale.j1 n (ab a * ab b / c) true (t205 != 0)))) (fun n => ?_) (Ev.bind ht2 (Ev.bind ho ?_))
        · simp only [carrefourref01_Scale.j0]
          rw [if_pos trivial, hw, if_pos trivial]
        · by_cases he : ab a * ab b / c * c = ab a * ab b
          · rw [if_pos he, he]
            have : (sgn (ab a * ab b) (ab a * ab b) != 0) = false := by unfold sgn; simp
            rw [this]
            refine Ev.step (f := fun n => (carrefourref01_Signed.f n (ab a * ab b / c) true).bind fun bt => some (bt.1, bt.2)) (fun n => ?_) (sgned _ true ⟨q0, q1⟩)
            simp only [carrefourref01_Scale.j1]
            rw [if_neg (by decide)]
          · rw [if_neg he]
            have : (sgn (ab a * ab b / c * c) (ab a * ab b) != 0) = true := by unfold sgn; split <;> (try split) <;> first | rfl | omega
            rw [this]
            by_cases hm : ab a * ab b / c = 18446744073709551615
            · refine Ev.step (f := fun _ => some (0, 2)) (fun n => ?_) ?_
              · simp only [carrefourref01_Scale.j1]
                rw [if_pos trivial, if_pos hm]
              · rw [fit_out (by unfold I64; omega)]
                exact Ev.now _
            · have e : IntKind.u64.wrap (ab a * ab b / c + 1) = ab a * ab b / c + 1 := u64w (by omega) (by omega)
              refine Ev.step (f := fun n => (carrefourref01_Signed.f n (ab a * ab b / c + 1) true).bind fun bt => some (bt.1, bt.2)) (fun n => ?_) (sgned _ true ⟨by omega, by omega⟩)
              simp only [carrefourref01_Scale.j1]
              rw [if_pos trivial, if_neg hm, e]
      · have hab : a * b = ab a * ab b := by
          rcases sg_spec a b with h | h | h
          · exact h.2.1
          · exact absurd h.1 hb'
          · rw [h.2.1, h.2.2]
        rw [hab, decide_eq_false hb']
        refine Ev.step (f := fun n => carrefourref01_Scale.j1 n (ab a * ab b / c) false false) (fun n => ?_) (Ev.step (f := fun n => (carrefourref01_Signed.f n (ab a * ab b / c) false).bind fun bt => some (bt.1, bt.2)) (fun n => ?_) (sgned _ false ⟨q0, q1⟩))
        · simp only [carrefourref01_Scale.j0]
          rw [if_pos trivial, if_neg (by decide)]
        · simp only [carrefourref01_Scale.j1]
          rw [if_neg (by decide)]
    · obtain ⟨q, hq⟩ := quotient_over nt (by omega) ⟨by omega, by omega⟩ (by omega) h
      refine Ev.bind hq ?_
      refine below_ev (a := a) (b := b) (fun d n => carrefourref01_Scale.j0 n c t q false d) ?_
      refine Ev.step (f := fun _ => some (0, 2)) (fun n => ?_) ?_
      · simp only [carrefourref01_Scale.j0]
        rw [if_neg (by decide)]
      · have hge : 18446744073709551616 ≤ ab a * ab b / c := Int.le_ediv_of_mul_le (by omega) (by omega)
        rw [fit_out (by
          unfold I64
          rcases sg_spec a b with h | h | h
          · rw [h.2.1]; omega
          · rw [h.2.1, neg_ediv2 (by omega)]; split <;> omega
          · rw [h.2.2, Int.zero_ediv] at hge; omega)]
        exact Ev.now _
end Go.Proofs.YtnocpmngpekceaaDoor.Pure
