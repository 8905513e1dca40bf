/- What the printed functions of package whole and of math/bits come to: products of two words, their quotient, sizes and signs.
   Conditions: as each theorem's head says. -/
import Derived.Test.YtnocpmngpekceaaDoorP01a
namespace Go.Proofs.YtnocpmngpekceaaDoor.Pure
set_option linter.unusedVariables false
open Go.RowKit Go.Proofs.YtnocpmngpekceaaDoor.X Go.Proofs.YtnocpmngpekceaaDoorW.PrintWords Go.Proofs.YtnocpmngpekceaaDoorW.PrintLast Go.Proofs.YtnocpmngpekceaaDoorW.PrintMore

/-! ### Mul64 -/
theorem mul64 {a b : Int} (ha : U64 a) (hb : U64 b) : bits_Mul64.f a b = some (a * b / 18446744073709551616, a * b % 18446744073709551616) := by
  obtain ⟨a0, a1⟩ := ha
  obtain ⟨b0, b1⟩ := hb
  have h := mul64_arith a b a0 a1 b0 b1
  unfold bits_Mul64.f
  rw [and_low32 a a0 a1, and_low32 b b0 b1]
  simp only [IntKind.wrap_u64]
  rw [and_low32 _ (by omega) (by omega), h]

/-! ### sizes, signs -/
def ab (a : Int) : Int := if a < 0 then -a else a
theorem ab_bd {a : Int} (h : I64 a) : 0 ≤ ab a ∧ ab a ≤ 9223372036854775808 := by
  obtain ⟨h0, h1⟩ := h; unfold ab; split <;> omega
theorem ab_u {a : Int} (h : I64 a) : U64 (ab a) := by have := ab_bd h; exact ⟨by omega, by omega⟩
theorem whole_size_f {a : Int} (h : I64 a) : whole_size.f a = some (ab a) := by
  obtain ⟨h0, h1⟩ := h
  unfold whole_size.f ab
  simp only [IntKind.wrap_u64]
  by_cases c : a < 0
  · rw [if_pos c, if_pos c]; congr 1; omega
  · rw [if_neg c, if_neg c]; congr 1; omega
theorem Size_f {a : Int} (h : I64 a) : carrefourref01_Size.f a = some (ab a) := by
  obtain ⟨h0, h1⟩ := h
  unfold carrefourref01_Size.f ab
  simp only [IntKind.wrap_u64]
  by_cases c : a < 0
  · rw [if_pos c, if_pos c]; congr 1; omega
  · rw [if_neg c, if_neg c]; congr 1; omega
theorem product_f {a b : Int} (ha : I64 a) (hb : I64 b) : whole_product.f a b = some (ab a * ab b / 18446744073709551616, ab a * ab b % 18446744073709551616) := by
  unfold whole_product.f
  rw [whole_size_f ha, whole_size_f hb]
  simp only [Option.bind_some, mul64 (ab_u ha) (ab_u hb)]
theorem prod_bd {a b : Int} (ha : I64 a) (hb : I64 b) : 0 ≤ ab a * ab b ∧ ab a * ab b ≤ 85070591730234615865843651857942052864 := by
  have h1 := ab_bd ha; have h2 := ab_bd hb
  refine ⟨Int.mul_nonneg h1.1 h2.1, ?_⟩
  have := Int.mul_le_mul h1.2 h2.2 h2.1 (by omega : (0 : Int) ≤ 9223372036854775808)
  omega
/-- The sign of a product. -/
def sg (a b : Int) : Int := if a = 0 ∨ b = 0 then 0 else if decide (a < 0) = decide (b < 0) then 1 else -1
theorem sg_spec (a b : Int) : (sg a b = 1 ∧ a * b = ab a * ab b ∧ 0 < ab a * ab b) ∨ (sg a b = -1 ∧ a * b = -(ab a * ab b) ∧ 0 < ab a * ab b) ∨ (sg a b = 0 ∧ a * b = 0 ∧ ab a * ab b = 0) := by
  unfold sg
  by_cases h : a = 0 ∨ b = 0
  · rw [if_pos h]
    refine .inr (.inr ⟨rfl, ?_⟩)
    rcases h with rfl | rfl
    · simp [ab]
    · simp [ab]
  · rw [if_neg h]
    unfold ab
    by_cases ha : a < 0
    · by_cases hb : b < 0
      · have e : a * b = -a * -b := by rw [Int.neg_mul_neg]
        have p : 0 < -a * -b := Int.mul_pos (by omega) (by omega)
        simp only [ha, hb, if_true]
        exact .inl ⟨trivial, e, p⟩
      · have e : a * b = -(-a * b) := by rw [Int.neg_mul, Int.neg_neg]
        have p : 0 < -a * b := Int.mul_pos (by omega) (by omega)
        simp only [ha, hb, if_true, if_false, decide_true, decide_false]
        exact .inr (.inl ⟨by simp, e, p⟩)
    · by_cases hb : b < 0
      · have e : a * b = -(a * -b) := by rw [Int.mul_neg, Int.neg_neg]
        have p : 0 < a * -b := Int.mul_pos (by omega) (by omega)
        simp only [ha, hb, if_true, if_false, decide_true, decide_false]
        exact .inr (.inl ⟨by simp, e, p⟩)
      · have p : 0 < a * b := Int.mul_pos (by omega) (by omega)
        simp only [ha, hb, if_false]
        exact .inl ⟨by simp, trivial, p⟩
theorem whole_sign_ev (a b : Int) : Ev (fun k => whole_sign.f k a b) (sg a b) := by
  unfold whole_sign.f sg
  by_cases h : a = 0
  · rw [if_pos (.inl h)]
    simp only [if_pos h]
    exact Ev.step (f := fun _ => some 0) (fun k => by simp only [whole_sign.j0]; rw [if_pos trivial]) (Ev.now _)
  · simp only [if_neg h]
    by_cases h2 : b = 0
    · rw [if_pos (.inr h2)]
      exact Ev.step (f := fun _ => some 0) (fun k => by simp only [whole_sign.j0]; rw [if_pos (by simpa using h2)]) (Ev.now _)
    · rw [if_neg (by omega)]
      refine Ev.step (f := fun _ => some (if decide (a < 0) = decide (b < 0) then 1 else -1)) (fun k => ?_) (Ev.now _)
      simp only [whole_sign.j0]
      rw [if_neg (by simpa using h2)]
      by_cases h3 : decide (a < 0) = decide (b < 0)
      · rw [if_pos h3, if_neg (by simp [h3])]
      · rw [if_neg h3, if_pos (by simpa using h3)]
/-- A size and a sign, as a number: what fits. -/
def fit (n : Int) : Int × Int := if -9223372036854775808 ≤ n ∧ n < 9223372036854775808 then (n, 0) else (0, 2)
theorem whole_signed_ev {u s : Int} (hu : U64 u) (hs : s = -1 ∨ s = 1 ∨ (s = 0 ∧ u = 0)) : Ev (fun k => whole_signed.f k u s) (fit (s * u)) := by
  obtain ⟨h0, h1⟩ := hu
  unfold whole_signed.f
  have neg : ∀ (c : Bool), c = decide (u ≤ 9223372036854775808) → s = -1 → Ev (fun k => whole_signed.j0 k u c) (fit (s * u)) := by
    rintro c rfl rfl
    refine Ev.step (f := fun _ => some (fit (-1 * u))) (fun k => ?_) (Ev.now _)
    simp only [whole_signed.j0]
    unfold fit
    by_cases h : u ≤ 9223372036854775808
    · rw [if_pos (by simpa using h), if_pos (by omega), IntKind.wrap_u64]; congr 2; unfold wrap64; omega
    · rw [if_neg (by simpa using h), if_neg (by omega), if_neg (by omega)]
  have pos : s * u = u → ¬ s < 0 → Ev (fun k => whole_signed.j0 k u false) (fit (s * u)) := by
    intro e _
    rw [e]
    refine Ev.step (f := fun _ => some (fit u)) (fun k => ?_) (Ev.now _)
    simp only [whole_signed.j0]
    unfold fit
    rw [if_neg (by decide)]
    by_cases h : u ≤ 9223372036854775807
    · rw [if_pos h, if_pos (by omega), w64 (by omega) (by omega)]
    · rw [if_neg h, if_neg (by omega)]
  rcases hs with rfl | rfl | ⟨rfl, rfl⟩
  · exact Ev.itep (by omega) (neg _ rfl rfl)
  · exact Ev.iten (by omega) (pos (by omega) (by omega))
  · exact Ev.iten (by omega) (pos (by omega) (by omega))
theorem Signed_ev {u : Int} {below : Bool} (hu : U64 u) (hb : below = true → u ≠ 0 ∨ True) : Ev (fun k => carrefourref01_Signed.f k u below) (fit (if below then -u else u)) := by
  obtain ⟨h0, h1⟩ := hu
  unfold carrefourref01_Signed.f
  have all : ∀ c : Bool, (c = true → u = 9223372036854775808 ∧ below = true) → (c = false → u ≠ 9223372036854775808 ∨ below = false) → Ev (fun k => carrefourref01_Signed.j0 k u below c) (fit (if below then -u else u)) := by
    intro c hc hc'
    refine Ev.step (f := fun _ => some (fit (if below then -u else u))) (fun k => ?_) (Ev.now _)
    simp only [carrefourref01_Signed.j0]
    unfold fit
    cases c with
    | true =>
      obtain ⟨rfl, rfl⟩ := hc rfl
      decide
    | false =>
      have hc' := hc' rfl
      rw [if_neg (by decide)]
      cases below with
      | true =>
        simp only [if_true]
        by_cases h : u > 9223372036854775807
        · rw [if_pos h, if_neg (by simp at hc'; omega)]
        · rw [if_neg h, if_pos (by omega), w64 (x := u) (by omega) (by omega), w64 (by omega) (by omega)]
      | false =>
        simp only [Bool.false_eq_true, if_false]
        by_cases h : u > 9223372036854775807
        · rw [if_pos h, if_neg (by omega)]
        · rw [if_neg h, if_pos (by omega), w64 (x := u) (by omega) (by omega)]
  by_cases h : u = 9223372036854775808
  · refine Ev.itep h (all below (fun hb => ⟨h, hb⟩) (fun hb => .inr hb))
  · refine Ev.iten h (all false (fun hb => by cases hb) (fun _ => .inl h))

/-! ### Div64 -/
/-- The first digit of a long division, once it is right. -/
theorem digit_true {un y1 y0 u1 q rhat : Int} (hq : q * y1 + rhat = un) (hr0 : 0 ≤ rhat) (hu1 : 0 ≤ u1) (hy : 0 ≤ y1)
    (hc : q * y0 ≤ 4294967296 * rhat + u1) : q * (y1 * 4294967296 + y0) ≤ un * 4294967296 + u1 := by
  have e : q * (y1 * 4294967296 + y0) = q * y1 * 4294967296 + q * y0 := by rw [Int.mul_add, ← Int.mul_assoc]
  rw [e]; omega
theorem digit_big {un y1 y0 u1 q rhat : Int} (hq : q * y1 + rhat = un)
    (hc : ¬ q * y0 ≤ 4294967296 * rhat + u1) : un * 4294967296 + u1 < q * (y1 * 4294967296 + y0) := by
  have e : q * (y1 * 4294967296 + y0) = q * y1 * 4294967296 + q * y0 := by rw [Int.mul_add, ← Int.mul_assoc]
  rw [e]; omega
theorem le_of_mul {q Q y N : Int} (hy : 0 < y) (h1 : q * y ≤ N) (h2 : N < (Q + 1) * y) : q ≤ Q := by
  apply Int.not_lt.1
  intro h
  have := Int.mul_le_mul_of_nonneg_right (show Q + 1 ≤ q by omega) (Int.le_of_lt hy)
  omega
/-- What the two search loops keep: q is not below the true digit Q. -/
structure Dig (un y1 y0 u1 Q q rhat : Int) : Prop where
  eq : q * y1 + rhat = un
  r0 : 0 ≤ rhat
  r1 : rhat < 4294967296
  ge : Q ≤ q
theorem dig_next {un y1 y0 u1 Q q rhat : Int} (hy1 : 2147483648 ≤ y1) (hy0 : 0 ≤ y0) (hy0' : y0 < 4294967296) (hu1 : 0 ≤ u1) (hu1' : u1 < 4294967296)
    (hQ : Q * (y1 * 4294967296 + y0) ≤ un * 4294967296 + u1) (hQ0 : 0 ≤ Q) (hQ1 : Q < 4294967296) (d : Dig un y1 y0 u1 Q q rhat)
    (hc : q ≥ 4294967296 ∨ ¬ q * y0 ≤ 4294967296 * rhat + u1) : Q ≤ q - 1 ∧ (q - 1) * y1 + (rhat + y1) = un := by
  refine ⟨?_, by rw [Int.sub_mul, Int.one_mul]; have := d.eq; omega⟩
  rcases hc with h | h
  · omega
  · have h2 := digit_big d.eq h
    have : Q < q := by
      apply Int.lt_of_not_ge
      intro hge
      have := Int.mul_le_mul_of_nonneg_right hge (show 0 ≤ y1 * 4294967296 + y0 by omega)
      omega
    omega
theorem dig_done {un y1 y0 u1 Q q rhat : Int} (hy1 : 2147483648 ≤ y1) (hy0 : 0 ≤ y0) (hu1 : 0 ≤ u1)
    (hQ : un * 4294967296 + u1 < (Q + 1) * (y1 * 4294967296 + y0)) (d : Dig un y1 y0 u1 Q q rhat) (hc : q * y0 ≤ 4294967296 * rhat + u1) : q = Q := by
  have := le_of_mul (by omega) (digit_true d.eq d.r0 hu1 (by omega) hc) hQ
  have := d.ge
  omega
theorem dig_break {un y1 y0 u1 Q q rhat : Int} (hy1 : 2147483648 ≤ y1) (hy0 : 0 ≤ y0) (hy0' : y0 < 4294967296) (hu1 : 0 ≤ u1)
    (hQ : un * 4294967296 + u1 < (Q + 1) * (y1 * 4294967296 + y0)) (eq : q * y1 + rhat = un) (hq : q ≤ 4294967296) (hq0 : 0 ≤ q) (ge : Q ≤ q) (hr : rhat ≥ 4294967296) : q = Q := by
  have h1 : q * y0 ≤ 4294967296 * 4294967296 := Int.mul_le_mul hq (by omega) hy0 (by omega)
  have := le_of_mul (by omega) (digit_true eq (by omega) hu1 (by omega) (by omega)) hQ
  omega

/-- The first search loop. -/
theorem div_l0 {y un y1 y0 s u1 u0 Q : Int} {r : Int × Int} (hy1 : 2147483648 ≤ y1) (hy1' : y1 < 4294967296) (hy0 : 0 ≤ y0) (hy0' : y0 < 4294967296) (hu1 : 0 ≤ u1) (hu1' : u1 < 4294967296)
    (hQ : Q * (y1 * 4294967296 + y0) ≤ un * 4294967296 + u1) (hQ' : un * 4294967296 + u1 < (Q + 1) * (y1 * 4294967296 + y0)) (hQ0 : 0 ≤ Q) (hQ1 : Q < 4294967296)
    (k : Ev (fun n => bits_Div64.j2 n y s y1 y0 un u1 u0 Q) r) (d : Nat) : ∀ q rhat, q - Q ≤ (d : Int) → q ≤ 4294967297 → Dig un y1 y0 u1 Q q rhat → Ev (fun n => bits_Div64.l0 n y s y1 y0 un u1 u0 q rhat) r := by
  induction d with
  | zero =>
    intro q rhat hd hq4 dg
    have hge := dg.ge
    obtain rfl : q = Q := by omega
    have hc : q * y0 ≤ 4294967296 * rhat + u1 := by
      apply Decidable.byContradiction
      intro hc
      have := (dig_next hy1 hy0 hy0' hu1 hu1' hQ hQ0 hQ1 dg (.inr hc)).1
      omega
    have p0 : 0 ≤ q * y0 := Int.mul_nonneg hQ0 hy0
    have r0 := dg.r0; have r1 := dg.r1
    refine Ev.step (f := fun n => bits_Div64.j1 n y s y1 y0 un u1 u0 q rhat false) (fun n => ?_) (Ev.step (f := fun n => bits_Div64.j2 n y s y1 y0 un u1 u0 q) (fun n => ?_) k)
    · simp only [bits_Div64.l0]
      rw [if_neg (by omega), u64w (x := q * y0) (by omega) (by omega), u64w (x := 4294967296 * rhat) (by omega) (by omega), u64w (by omega) (by omega), decide_eq_false (by omega)]
    · simp only [bits_Div64.j1]
      rw [if_neg (by decide)]
  | succ d ih =>
    intro q rhat hd hq4 dg
    have hge := dg.ge
    have r0 := dg.r0; have r1 := dg.r1
    have hcut : (q ≥ 4294967296 ∨ ¬ q * y0 ≤ 4294967296 * rhat + u1) → Ev (fun n => bits_Div64.j1 n y s y1 y0 un u1 u0 q rhat true) r := by
      intro hc
      obtain ⟨hn, he⟩ := dig_next hy1 hy0 hy0' hu1 hu1' hQ hQ0 hQ1 dg hc
      by_cases hb : rhat + y1 ≥ 4294967296
      · have : q - 1 = Q := dig_break hy1 hy0 hy0' hu1 hQ' he (by omega) (by omega) hn hb
        refine Ev.step (f := fun n => bits_Div64.j2 n y s y1 y0 un u1 u0 Q) (fun n => ?_) k
        simp only [bits_Div64.j1]
        rw [if_pos trivial, u64w (x := rhat + y1) (by omega) (by omega), if_pos hb, u64w (by omega) (by omega), this]
      · refine Ev.step (f := fun n => bits_Div64.l0 n y s y1 y0 un u1 u0 (q - 1) (rhat + y1)) (fun n => ?_) (ih (q - 1) (rhat + y1) (by omega) (by omega) ⟨he, by omega, by omega, hn⟩)
        simp only [bits_Div64.j1]
        rw [if_pos trivial, u64w (x := rhat + y1) (by omega) (by omega), if_neg hb, u64w (x := q - 1) (by omega) (by omega)]
    by_cases h1 : q ≥ 4294967296
    · refine Ev.step (f := fun n => bits_Div64.j1 n y s y1 y0 un u1 u0 q rhat true) (fun n => ?_) (hcut (.inl h1))
      simp only [bits_Div64.l0]
      rw [if_pos h1]
    · have p0 : 0 ≤ q * y0 := Int.mul_nonneg (by omega) hy0
      have p1 : q * y0 ≤ 4294967295 * 4294967295 := Int.mul_le_mul (by omega) (by omega) hy0 (by omega)
      refine Ev.step (f := fun n => bits_Div64.j1 n y s y1 y0 un u1 u0 q rhat (decide (q * y0 > 4294967296 * rhat + u1))) (fun n => ?_) ?_
      · simp only [bits_Div64.l0]
        rw [if_neg h1, u64w (x := q * y0) (by omega) (by omega), u64w (x := 4294967296 * rhat) (by omega) (by omega), u64w (x := 4294967296 * rhat + u1) (by omega) (by omega)]
      · by_cases hc : q * y0 ≤ 4294967296 * rhat + u1
        · rw [decide_eq_false (by omega)]
          have : q = Q := dig_done hy1 hy0 hu1 hQ' dg hc
          refine Ev.step (f := fun n => bits_Div64.j2 n y s y1 y0 un u1 u0 Q) (fun n => ?_) k
          simp only [bits_Div64.j1]
          rw [if_neg (by decide), this]
        · rw [decide_eq_true (by omega)]
          exact hcut (.inr hc)

/-- The second search loop. -/
theorem div_l1 {y un y1 y0 s u1 q1 Q : Int} (hy : y = y1 * 4294967296 + y0) (hs0 : 0 ≤ s) (hq1 : 0 ≤ q1) (hq1' : q1 < 4294967296) (hy1 : 2147483648 ≤ y1) (hy1' : y1 < 4294967296) (hy0 : 0 ≤ y0) (hy0' : y0 < 4294967296) (hu1 : 0 ≤ u1) (hu1' : u1 < 4294967296)
    (hun : U64 un) (hQ : Q * (y1 * 4294967296 + y0) ≤ un * 4294967296 + u1) (hQ' : un * 4294967296 + u1 < (Q + 1) * (y1 * 4294967296 + y0)) (hQ0 : 0 ≤ Q) (hQ1 : Q < 4294967296) (d : Nat) :
    ∀ q rhat, q - Q ≤ (d : Int) → q ≤ 4294967297 → Dig un y1 y0 u1 Q q rhat → Ev (fun n => bits_Div64.l1 n y s y1 y0 u1 q1 rhat un q) (q1 * 4294967296 + Q, shr .u64 (un * 4294967296 + u1 - Q * y) s) := by
  have hrem : un * 4294967296 + u1 - Q * y < y := by rw [hy]; rw [Int.add_mul, Int.one_mul] at hQ'; omega
  have hrem0 : 0 ≤ un * 4294967296 + u1 - Q * y := by rw [hy]; omega
  have hyb : y < 18446744073709551616 := by omega
  obtain ⟨un0, un1⟩ := hun
  have fin : ∀ q, q = Q → (some (IntKind.u64.wrap ((IntKind.u64.wrap (q1 * 4294967296)) + q), shr .u64 (IntKind.u64.wrap ((IntKind.u64.wrap ((IntKind.u64.wrap (un * 4294967296)) + u1)) - (IntKind.u64.wrap (q * y)))) s) : Option (Int × Int)) = some (q1 * 4294967296 + Q, shr .u64 (un * 4294967296 + u1 - Q * y) s) := by
    rintro q rfl
    have e1 : IntKind.u64.wrap ((IntKind.u64.wrap (q1 * 4294967296)) + q) = q1 * 4294967296 + q := by
      simp only [IntKind.wrap_u64]; omega
    have e2 : IntKind.u64.wrap ((IntKind.u64.wrap ((IntKind.u64.wrap (un * 4294967296)) + u1)) - (IntKind.u64.wrap (q * y))) = un * 4294967296 + u1 - q * y := by
      simp only [IntKind.wrap_u64]
      generalize q * y = p at *
      omega
    rw [e1, e2]
  have endj : ∀ q rhat, q = Q → Ev (fun n => bits_Div64.j4 n y s y1 y0 u1 q1 rhat un q false) (q1 * 4294967296 + Q, shr .u64 (un * 4294967296 + u1 - Q * y) s) := by
    intro q rhat hq
    refine Ev.step (f := fun _ => some (q1 * 4294967296 + Q, shr .u64 (un * 4294967296 + u1 - Q * y) s)) (fun n => ?_) (Ev.now _)
    simp only [bits_Div64.j4]
    rw [if_neg (by decide), if_pos hs0, ← fin q hq]
  induction d with
  | zero =>
    intro q rhat hd hq4 dg
    have hge := dg.ge
    obtain rfl : q = Q := by omega
    have hc : q * y0 ≤ 4294967296 * rhat + u1 := by
      apply Decidable.byContradiction
      intro hc
      have := (dig_next hy1 hy0 hy0' hu1 hu1' hQ hQ0 hQ1 dg (.inr hc)).1
      omega
    have p0 : 0 ≤ q * y0 := Int.mul_nonneg hQ0 hy0
    have r0 := dg.r0; have r1 := dg.r1
    refine Ev.step (f := fun n => bits_Div64.j4 n y s y1 y0 u1 q1 rhat un q false) (fun n => ?_) (endj q rhat rfl)
    simp only [bits_Div64.l1]
    rw [if_neg (by omega), u64w (x := q * y0) (by omega) (by omega), u64w (x := 4294967296 * rhat) (by omega) (by omega), u64w (by omega) (by omega), decide_eq_false (by omega)]
  | succ d ih =>
    intro q rhat hd hq4 dg
    have hge := dg.ge
    have r0 := dg.r0; have r1 := dg.r1
    have hcut : (q ≥ 4294967296 ∨ ¬ q * y0 ≤ 4294967296 * rhat + u1) → Ev (fun n => bits_Div64.j4 n y s y1 y0 u1 q1 rhat un q true) (q1 * 4294967296 + Q, shr .u64 (un * 4294967296 + u1 - Q * y) s) := by
      intro hc
      obtain ⟨hn, he⟩ := dig_next hy1 hy0 hy0' hu1 hu1' hQ hQ0 hQ1 dg hc
      by_cases hb : rhat + y1 ≥ 4294967296
      · have : q - 1 = Q := dig_break hy1 hy0 hy0' hu1 hQ' he (by omega) (by omega) hn hb
        refine Ev.step (f := fun _ => some (q1 * 4294967296 + Q, shr .u64 (un * 4294967296 + u1 - Q * y) s)) (fun n => ?_) (Ev.now _)
        simp only [bits_Div64.j4]
        rw [if_pos trivial, u64w (x := rhat + y1) (by omega) (by omega), if_pos hb, if_pos hs0, u64w (x := q - 1) (by omega) (by omega), fin (q - 1) this]
      · refine Ev.step (f := fun n => bits_Div64.l1 n y s y1 y0 u1 q1 (rhat + y1) un (q - 1)) (fun n => ?_) (ih (q - 1) (rhat + y1) (by omega) (by omega) ⟨he, by omega, by omega, hn⟩)
        simp only [bits_Div64.j4]
        rw [if_pos trivial, u64w (x := rhat + y1) (by omega) (by omega), if_neg hb, u64w (x := q - 1) (by omega) (by omega)]
    by_cases h1 : q ≥ 4294967296
    · refine Ev.step (f := fun n => bits_Div64.j4 n y s y1 y0 u1 q1 rhat un q true) (fun n => ?_) (hcut (.inl h1))
      simp only [bits_Div64.l1]
      rw [if_pos h1]
    · have p0 : 0 ≤ q * y0 := Int.mul_nonneg (by omega) hy0
      have p1 : q * y0 ≤ 4294967295 * 4294967295 := Int.mul_le_mul (by omega) (by omega) hy0 (by omega)
      refine Ev.step (f := fun n => bits_Div64.j4 n y s y1 y0 u1 q1 rhat un q (decide (q * y0 > 4294967296 * rhat + u1))) (fun n => ?_) ?_
      · simp only [bits_Div64.l1]
        rw [if_neg h1, u64w (x := q * y0) (by omega) (by omega), u64w (x := 4294967296 * rhat) (by omega) (by omega), u64w (x := 4294967296 * rhat + u1) (by omega) (by omega)]
      · by_cases hc : q * y0 ≤ 4294967296 * rhat + u1
        · rw [decide_eq_false (by omega)]
          exact endj q rhat (dig_done hy1 hy0 hu1 hQ' dg hc)
        · rw [decide_eq_true (by omega)]
          exact hcut (.inr hc)
theorem u64_or_add {a b : Int} {n : Nat} (hn : n ≤ 64) (ha : 0 ≤ a) (hb : 0 ≤ b) (hb' : b < 2 ^ n) (hab : a * 2 ^ n < 18446744073709551616) : Go.bits .or .u64 (a * 2 ^ n) b = a * 2 ^ n + b := by
  obtain ⟨a, rfl⟩ := Int.eq_ofNat_of_zero_le ha
  obtain ⟨b, rfl⟩ := Int.eq_ofNat_of_zero_le hb
  have e : ((a : Int) * 2 ^ n) = ((2 ^ n * a : Nat) : Int) := by push_cast; rw [Int.mul_comm]
  have hb2 : b < 2 ^ n := by
    have : ((2 ^ n : Nat) : Int) = 2 ^ n := by push_cast; rfl
    omega
  have hbig : (2 : Nat) ^ n ≤ 2 ^ 64 := Nat.pow_le_pow_right (by decide) hn
  rw [e] at hab ⊢
  rw [bits_or_u64_nat _ _ (by omega) (by omega), ← Nat.two_pow_add_eq_or_of_lt hb2]
  push_cast; rfl
theorem bitLen_bd (x : Nat) (h0 : x ≠ 0) (h : x < 2 ^ 64) : 1 ≤ Lib.bitLen x ∧ Lib.bitLen x ≤ 64 ∧ 2 ^ (Lib.bitLen x - 1) ≤ x ∧ x < 2 ^ Lib.bitLen x := by
  have key : ∀ n x : Nat, x < 2 ^ n → x ≠ 0 → x < 2 ^ 64 → 1 ≤ Lib.bitLen x ∧ Lib.bitLen x ≤ n ∧ 2 ^ (Lib.bitLen x - 1) ≤ x ∧ x < 2 ^ Lib.bitLen x := by
    intro n
    induction n with
    | zero => intro x h h0; simp at h; omega
    | succ n ih =>
      intro x h h0 h64
      rw [Lib.bitLen_half x h0 h64]
      by_cases h2 : x / 2 = 0
      · have : x = 1 := by omega
        subst this
        have e0 : Lib.bitLen (1 / 2) = 0 := by decide
        rw [e0]
        exact ⟨by omega, by omega, by decide, by decide⟩
      · obtain ⟨a, b, c, d⟩ := ih (x / 2) (by rw [Nat.pow_succ] at h; omega) h2 (by omega)
        refine ⟨by omega, by omega, ?_, ?_⟩
        · have e : 1 + Lib.bitLen (x / 2) - 1 = (Lib.bitLen (x / 2) - 1) + 1 := by omega
          rw [e, Nat.pow_succ]; omega
        · rw [Nat.add_comm, Nat.pow_succ]; omega
  exact key 64 x h h0 h
theorem shl_of {a : Int} {n : Nat} (hn : n ≤ 64) : shl .u64 a (n : Int) = a * 2 ^ n % 18446744073709551616 := by
  unfold shl
  rw [IntKind.wrap_u64, Int.toNat_natCast]
  have : min n IntKind.u64.bits = n := Nat.min_eq_left (by simp [IntKind.bits]; omega)
  rw [this]
theorem shr_of {a : Int} {n : Nat} (hn : n ≤ 64) : shr .u64 a (n : Int) = a / 2 ^ n := by
  unfold shr
  rw [Int.toNat_natCast]
  have : min n IntKind.u64.bits = n := Nat.min_eq_left (by simp [IntKind.bits]; omega)
  rw [this]
theorem div64 {hi lo y : Int} (hhi : U64 hi) (hlo : U64 lo) (hy : U64 y) (h : hi < y) :
    Ev (fun k => bits_Div64.f k hi lo y) ((hi * 18446744073709551616 + lo) / y, (hi * 18446744073709551616 + lo) % y) := by
  obtain ⟨h0, h1⟩ := hhi
  obtain ⟨l0, l1⟩ := hlo
  obtain ⟨y0, y1⟩ := hy
  unfold bits_Div64.f
  refine Ev.iten (by omega) (Ev.iten (by omega) ?_)
  by_cases hz : hi = 0
  · subst hz
    refine Ev.itep rfl ?_
    rw [Int.zero_mul, Int.zero_add, Int.tdiv_eq_ediv_of_nonneg l0, Int.tmod_eq_emod_of_nonneg l0]
    have d0 : 0 ≤ lo / y := Int.ediv_nonneg l0 y0
    have d1 : lo / y ≤ lo := Int.ediv_le_self y l0
    rw [u64w d0 (by omega)]
    exact Ev.now _
  · refine Ev.iten hz ?_
    have yn : y.toNat ≠ 0 := by omega
    obtain ⟨b1, b2, b3, b4⟩ := bitLen_bd y.toNat yn (by omega)
    obtain ⟨s, hs⟩ : ∃ s : Nat, s = 64 - Lib.bitLen y.toNat := ⟨_, rfl⟩
    have hlz : bits_LeadingZeros64.f y = some (s : Int) := by
      unfold bits_LeadingZeros64.f bits_Len64.f
      rw [if_pos ⟨y0, by omega⟩]
      simp only [Option.bind_some]
      rw [w64 (by omega) (by omega), hs]
      congr 1
      omega
    refine Ev.bindc hlz ?_
    have sw : IntKind.u64.wrap (s : Int) = (s : Int) := u64w (by omega) (by omega)
    have sw2 : IntKind.u64.wrap (64 - (s : Int)) = ((64 - s : Nat) : Int) := by rw [u64w (by omega) (by omega)]; omega
    simp only [sw, sw2]
    refine Ev.itep (by omega) (Ev.itep (by omega) ?_)
    -- the divisor, shifted: its first bit is set
    have p2 : (0 : Int) < 2 ^ s := Int.pow_pos (by decide)
    have pw : (2 : Int) ^ (64 - s) * 2 ^ s = 18446744073709551616 := by
      rw [← Int.pow_add]; have : 64 - s + s = 64 := by omega
      rw [this]; rfl
    have hbl : Lib.bitLen y.toNat = 64 - s := by omega
    have c3 : (2 : Int) ^ (64 - s - 1) ≤ y := by
      rw [hbl] at b3
      have : ((2 ^ (64 - s - 1) : Nat) : Int) = 2 ^ (64 - s - 1) := by push_cast; rfl
      omega
    have c4 : y < (2 : Int) ^ (64 - s) := by
      rw [hbl] at b4
      have : ((2 ^ (64 - s) : Nat) : Int) = 2 ^ (64 - s) := by push_cast; rfl
      omega
    have pw' : (2 : Int) ^ (64 - s - 1) * 2 ^ s = 9223372036854775808 := by
      rw [← Int.pow_add]; have : 64 - s - 1 + s = 63 := by omega
      rw [this]; rfl
    have hyp : y * 2 ^ s < 18446744073709551616 := by rw [← pw]; exact Int.mul_lt_mul_of_pos_right c4 p2
    have hyq : 9223372036854775808 ≤ y * 2 ^ s := by rw [← pw']; exact Int.mul_le_mul_of_nonneg_right c3 (by omega)
    have hhy : hi * 2 ^ s + 2 ^ s ≤ y * 2 ^ s := by
      have := Int.mul_le_mul_of_nonneg_right (show hi + 1 ≤ y by omega) (Int.le_of_lt p2)
      rwa [Int.add_mul, Int.one_mul] at this
    have hh0 : 0 ≤ hi * 2 ^ s := Int.mul_nonneg h0 (by omega)
    have lsplit : lo / 2 ^ (64 - s) < 2 ^ s := by
      apply Int.ediv_lt_of_lt_mul (Int.pow_pos (by decide))
      rw [Int.mul_comm, pw]; exact l1
    have lq0 : 0 ≤ lo / 2 ^ (64 - s) := Int.ediv_nonneg l0 (Int.le_of_lt (Int.pow_pos (by decide)))
    have eY : shl .u64 y (s : Int) = y * 2 ^ s := by rw [shl_of (by omega), Int.emod_eq_of_lt (by omega) hyp]
    have eH : shl .u64 hi (s : Int) = hi * 2 ^ s := by rw [shl_of (by omega), Int.emod_eq_of_lt hh0 (by omega)]
    have eL : shr .u64 lo ((64 - s : Nat) : Int) = lo / 2 ^ (64 - s) := shr_of (by omega)
    have eM : shl .u64 lo (s : Int) = lo * 2 ^ s % 18446744073709551616 := shl_of (by omega)
    have eU : Go.bits .or .u64 (shl .u64 hi (s : Int)) (shr .u64 lo ((64 - s : Nat) : Int)) = hi * 2 ^ s + lo / 2 ^ (64 - s) := by
      rw [eH, eL]; exact u64_or_add (by omega) h0 lq0 lsplit (by omega)
    -- the whole number, shifted
    have eN : (hi * 2 ^ s + lo / 2 ^ (64 - s)) * 18446744073709551616 + lo * 2 ^ s % 18446744073709551616 = (hi * 18446744073709551616 + lo) * 2 ^ s := by
      have e1 : lo * 2 ^ s / 18446744073709551616 = lo / 2 ^ (64 - s) := by
        rw [← pw, Int.mul_ediv_mul_of_pos_left _ _ p2]
      have e2 := Int.mul_ediv_add_emod (lo * 2 ^ s) 18446744073709551616
      rw [e1] at e2
      rw [Int.add_mul, Int.add_mul, ← e2, Int.mul_right_comm hi]
      omega
    rw [eU, eY, eM]
    have hal : ∀ z : Int, U64 z → Go.bits .and .u64 z 4294967295 = z % 4294967296 := fun z hz => and_low32 z hz.1 hz.2
    generalize hYe : y * 2 ^ s = Y at *
    generalize hUe : hi * 2 ^ s + lo / 2 ^ (64 - s) = U at *
    generalize hMe : lo * 2 ^ s % 18446744073709551616 = M at *
    have hM0 : 0 ≤ M := by rw [← hMe]; exact Int.emod_nonneg _ (by decide)
    have hM1 : M < 18446744073709551616 := by rw [← hMe]; exact Int.emod_lt_of_pos _ (by decide)
    have hU0 : 0 ≤ U := by omega
    have hUY : U < Y := by omega
    rw [hal Y ⟨by omega, by omega⟩, hal M ⟨by omega, by omega⟩]
    refine Ev.iten (by omega) ?_
    -- the digits
    have hYs : Y = Y / 4294967296 * 4294967296 + Y % 4294967296 := by omega
    obtain ⟨Q1, hQ1e⟩ : ∃ Q1, Q1 = (U * 4294967296 + M / 4294967296) / Y := ⟨_, rfl⟩
    have hN1 : 0 ≤ U * 4294967296 + M / 4294967296 := by omega
    have q1a : Q1 * Y ≤ U * 4294967296 + M / 4294967296 := by rw [hQ1e]; exact Int.ediv_mul_le _ (by omega)
    have q1b : U * 4294967296 + M / 4294967296 < (Q1 + 1) * Y := by rw [hQ1e]; exact Int.lt_ediv_add_one_mul_self _ (by omega)
    have q1c : 0 ≤ Q1 := by rw [hQ1e]; exact Int.ediv_nonneg hN1 (by omega)
    have q1d : Q1 < 4294967296 := by
      rw [hQ1e]
      apply Int.ediv_lt_of_lt_mul (by omega)
      omega
    obtain ⟨R1, hR1e⟩ : ∃ R1, R1 = U * 4294967296 + M / 4294967296 - Q1 * Y := ⟨_, rfl⟩
    have r1a : 0 ≤ R1 := by omega
    have r1b : R1 < Y := by rw [Int.add_mul, Int.one_mul] at q1b; omega
    obtain ⟨Q2, hQ2e⟩ : ∃ Q2, Q2 = (R1 * 4294967296 + M % 4294967296) / Y := ⟨_, rfl⟩
    have hN2 : 0 ≤ R1 * 4294967296 + M % 4294967296 := by omega
    have q2a : Q2 * Y ≤ R1 * 4294967296 + M % 4294967296 := by rw [hQ2e]; exact Int.ediv_mul_le _ (by omega)
    have q2b : R1 * 4294967296 + M % 4294967296 < (Q2 + 1) * Y := by rw [hQ2e]; exact Int.lt_ediv_add_one_mul_self _ (by omega)
    have q2c : 0 ≤ Q2 := by rw [hQ2e]; exact Int.ediv_nonneg hN2 (by omega)
    have q2d : Q2 < 4294967296 := by
      rw [hQ2e]
      apply Int.ediv_lt_of_lt_mul (by omega)
      omega
    -- first guesses
    have guess : ∀ X : Int, 0 ≤ X → X < Y → X / (Y / 4294967296) ≤ 4294967297 ∧ 0 ≤ X / (Y / 4294967296) ∧ X / (Y / 4294967296) * (Y / 4294967296) ≤ X ∧ X - X / (Y / 4294967296) * (Y / 4294967296) < Y / 4294967296 := by
      intro X hX0 hX1
      have g1 := Int.ediv_mul_le X (b := Y / 4294967296) (by omega)
      have g2 := Int.lt_ediv_add_one_mul_self X (b := Y / 4294967296) (by omega)
      rw [Int.add_mul, Int.one_mul] at g2
      refine ⟨?_, Int.ediv_nonneg hX0 (by omega), g1, by omega⟩
      have : X / (Y / 4294967296) < 4294967298 := by
        apply Int.ediv_lt_of_lt_mul (by omega)
        omega
      omega
    have dig : ∀ (X u Q : Int), 0 ≤ X → X < Y → 0 ≤ u → u < 4294967296 → 0 ≤ Q → Q * Y ≤ X * 4294967296 + u → Dig X (Y / 4294967296) (Y % 4294967296) u Q (X / (Y / 4294967296)) (X - X / (Y / 4294967296) * (Y / 4294967296)) := by
      intro X u Q hX0 hX1 hu0 hu1 hQ0 hQ
      obtain ⟨g1, g2, g3, g4⟩ := guess X hX0 hX1
      refine ⟨by omega, by omega, by omega, ?_⟩
      -- Q * y1 ≤ X
      have a1 : Q * (Y / 4294967296) ≤ X := by
        have e : Q * Y = Q * (Y / 4294967296) * 4294967296 + Q * (Y % 4294967296) := by
          have : Q * (Y / 4294967296 * 4294967296 + Y % 4294967296) = Q * (Y / 4294967296) * 4294967296 + Q * (Y % 4294967296) := by rw [Int.mul_add, ← Int.mul_assoc]
          rw [← hYs] at this; exact this
        have n0 : 0 ≤ Q * (Y % 4294967296) := Int.mul_nonneg hQ0 (by omega)
        rw [e] at hQ
        omega
      exact Int.le_ediv_of_mul_le (by omega) a1
    obtain ⟨gU1, gU2, gU3, gU4⟩ := guess U hU0 hUY
    obtain ⟨gR1, gR2, gR3, gR4⟩ := guess R1 r1a r1b
    have res : ((hi * 18446744073709551616 + lo) / y, (hi * 18446744073709551616 + lo) % y) = (Q1 * 4294967296 + Q2, shr .u64 (R1 * 4294967296 + M % 4294967296 - Q2 * Y) (s : Int)) := by
      have eT : U * 18446744073709551616 + M = (Q1 * 4294967296 + Q2) * Y + (R1 * 4294967296 + M % 4294967296 - Q2 * Y) := by
        rw [Int.add_mul, Int.mul_right_comm]; omega
      have rb : R1 * 4294967296 + M % 4294967296 - Q2 * Y < Y := by rw [Int.add_mul, Int.one_mul] at q2b; omega
      have dq : (U * 18446744073709551616 + M) / Y = Q1 * 4294967296 + Q2 := by
        rw [eT, Int.add_comm, Int.add_mul_ediv_right _ _ (by omega), Int.ediv_eq_zero_of_lt (by omega) rb, Int.zero_add]
      have dm : (U * 18446744073709551616 + M) % Y = R1 * 4294967296 + M % 4294967296 - Q2 * Y := by
        rw [eT, Int.add_comm, Int.add_mul_emod_self_right, Int.emod_eq_of_lt (by omega) rb]
      rw [eN] at dq dm
      have dq' : (hi * 18446744073709551616 + lo) * 2 ^ s / (y * 2 ^ s) = Q1 * 4294967296 + Q2 := by rw [hYe]; exact dq
      rw [Int.mul_ediv_mul_of_pos_left _ _ p2] at dq'
      have dm' : (hi * 18446744073709551616 + lo) % y * 2 ^ s = R1 * 4294967296 + M % 4294967296 - Q2 * Y := by
        rw [Int.mul_comm ((hi * 18446744073709551616 + lo) % y), ← Int.mul_emod_mul_of_pos _ _ p2, Int.mul_comm _ (hi * 18446744073709551616 + lo), Int.mul_comm _ y, hYe]; exact dm
      rw [dq', ← dm', shr_of (by omega), Int.mul_ediv_cancel _ (by omega)]
    rw [res]
    have e1 : IntKind.u64.wrap (Int.tdiv U (Y / 4294967296)) = U / (Y / 4294967296) := by
      rw [Int.tdiv_eq_ediv_of_nonneg hU0, u64w gU2 (by omega)]
    have e2 : IntKind.u64.wrap (U - IntKind.u64.wrap (U / (Y / 4294967296) * (Y / 4294967296))) = U - U / (Y / 4294967296) * (Y / 4294967296) := by
      have : 0 ≤ U / (Y / 4294967296) * (Y / 4294967296) := Int.mul_nonneg gU2 (by omega)
      rw [u64w this (by omega), u64w (by omega) (by omega)]
    rw [e1, e2]
    refine div_l0 (y1 := Y / 4294967296) (y0 := Y % 4294967296) (u1 := M / 4294967296) (un := U) (Q := Q1) (by omega) (by omega) (by omega) (by omega) (by omega) (by omega) (by rw [← hYs]; exact q1a) (by rw [← hYs]; exact q1b) q1c q1d ?_ 4294967297 _ _ (by omega) (by omega) (dig U _ Q1 hU0 hUY (by omega) (by omega) q1c q1a)
    have e3 : IntKind.u64.wrap (IntKind.u64.wrap (IntKind.u64.wrap (U * 4294967296) + M / 4294967296) - IntKind.u64.wrap (Q1 * Y)) = R1 := by
      simp only [IntKind.wrap_u64]
      rw [hR1e]
      generalize Q1 * Y = p at *
      omega
    have e4 : IntKind.u64.wrap (Int.tdiv R1 (Y / 4294967296)) = R1 / (Y / 4294967296) := by
      rw [Int.tdiv_eq_ediv_of_nonneg r1a, u64w gR2 (by omega)]
    have e5 : IntKind.u64.wrap (R1 - IntKind.u64.wrap (R1 / (Y / 4294967296) * (Y / 4294967296))) = R1 - R1 / (Y / 4294967296) * (Y / 4294967296) := by
      have : 0 ≤ R1 / (Y / 4294967296) * (Y / 4294967296) := Int.mul_nonneg gR2 (by omega)
      rw [u64w this (by omega), u64w (by omega) (by omega)]
    refine Ev.step (fun n => ?_) (div_l1 (y := Y) (un := R1) (s := (s : Int)) (u1 := M % 4294967296) (q1 := Q1) (Q := Q2) hYs (by omega) q1c q1d (by omega) (by omega) (by omega) (by omega) (by omega) (by omega) ⟨r1a, by omega⟩ (by rw [← hYs]; exact q2a) (by rw [← hYs]; exact q2b) q2c q2d 4294967297 _ _ (by omega) (by omega) (dig R1 _ Q2 r1a r1b (by omega) (by omega) q2c q2a))
    simp only [bits_Div64.j2]
    rw [if_neg (by omega), e3, e4, e5]
end Go.Proofs.YtnocpmngpekceaaDoor.Pure
