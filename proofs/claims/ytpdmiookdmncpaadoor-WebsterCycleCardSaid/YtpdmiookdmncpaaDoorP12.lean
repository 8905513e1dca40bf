/- Which cycles are allowed: what package webster and the document's answer come to, by numbers alone.
   Conditions: as each theorem's head says. -/
import Derived.Test.YtpdmiookdmncpaaDoorP01g
namespace Go.Proofs.YtpdmiookdmncpaaDoor.Pure
set_option linter.unusedVariables false
open Go.RowKit Go.Proofs.YtpdmiookdmncpaaDoor.X Go.Proofs.YtpdmiookdmncpaaDoorW.PrintWords Go.Proofs.YtpdmiookdmncpaaDoorW.PrintLast Go.Proofs.YtpdmiookdmncpaaDoorW.PrintMore

theorem tdiv_pos {a b : Int} (ha : 0 ≤ a) : Int.tdiv a b = a / b := Int.tdiv_eq_ediv_of_nonneg ha
theorem Ceil_pos {a b : Int} (ha : 0 ≤ a) (ha' : a < 9223372036854775807) (hb : 1 ≤ b) : whole_Ceil.f a b = some ((a + (b - 1)) / b, 0) := by
  unfold whole_Ceil.f
  have hq0 : 0 ≤ a / b := Int.ediv_nonneg ha (by omega)
  have hq1 : a / b ≤ a := Int.ediv_le_self b ha
  have e := Int.mul_ediv_add_emod a b
  have r0 := Int.emod_nonneg a (show b ≠ 0 by omega)
  have r1 := Int.emod_lt_of_pos a (show 0 < b by omega)
  have key : ∀ q : Int, b * (q - 1) < a → a ≤ b * q → (a + (b - 1)) / b = q := by
    intro q h1 h2
    have h3 : q ≤ (a + (b - 1)) / b := Int.le_ediv_of_mul_le (by omega) (by rw [Int.mul_comm]; rw [Int.mul_sub, Int.mul_one] at h1; omega)
    have h4 : (a + (b - 1)) / b < q + 1 := Int.ediv_lt_of_lt_mul (by omega) (by rw [Int.mul_comm, Int.mul_add, Int.mul_one]; omega)
    omega
  rw [if_neg (by omega), if_neg (by omega), Int.tdiv_eq_ediv_of_nonneg ha, Int.tmod_eq_emod_of_nonneg ha, w64 (x := a / b) (by omega) (by omega)]
  by_cases hm : a % b = 0
  · rw [if_pos hm, key (a / b) (by rw [Int.mul_sub, Int.mul_one]; omega) (by omega)]
  · rw [if_neg hm]
    have h1 : ((decide (a % b < 0)) == (decide (b < 0))) = true := by
      rw [decide_eq_false (by omega), decide_eq_false (by omega)]; rfl
    rw [if_pos h1, w64 (by omega) (by omega), key (a / b + 1) (by rw [Int.add_sub_cancel]; omega) (by rw [Int.mul_add, Int.mul_one]; omega)]

/-- May a network have cycles? -/
def cyc (mn mx st : Int) : Prop := 1 ≤ mn ∧ mn ≤ mx ∧ mx ≤ 6000 ∧ 1 ≤ st
instance (mn mx st : Int) : Decidable (cyc mn mx st) := by unfold cyc; exact inferInstance
/-- The cycle that is told for c. -/
structure Nxt (mn mx st c r : Int) : Prop where
  at_ : ∃ i : Nat, r = mn + i * st
  le : r ≤ mx
  low : r = mn ∨ r - st < c
  high : r ≥ c ∨ st > mx - r
theorem Nxt.uniq {mn mx st c r s : Int} (hst : 1 ≤ st) (h : Nxt mn mx st c r) (k : Nxt mn mx st c s) : r = s := by
  have half : ∀ r s, Nxt mn mx st c r → Nxt mn mx st c s → ¬ r < s := by
    intro r s h k hlt
    obtain ⟨i, hi⟩ := h.at_
    obtain ⟨j, hj⟩ := k.at_
    have hij : i < j := by
      apply Nat.lt_of_not_le
      intro hle
      have := Int.mul_le_mul_of_nonneg_right (show (j : Int) ≤ (i : Int) by omega) (show 0 ≤ st by omega)
      omega
    have hge : ((i : Int) + 1) * st ≤ (j : Int) * st := Int.mul_le_mul_of_nonneg_right (by omega) (by omega)
    rw [Int.add_mul, Int.one_mul] at hge
    have h0 : 0 ≤ (i : Int) * st := Int.mul_nonneg (by omega) (by omega)
    have hh := h.high; have kl := k.low; have kle := k.le
    omega
  have h1 := half r s h k
  have h2 := half s r k h
  omega
theorem right_f (mn mx st pn pd : Int) (l5 : List (S55)) (l6 : List (S120)) (wo wi : Int) : webster_right.f mn mx st pn pd l5 l6 wo wi = some (decide (cyc mn mx st)) := by
  have key : ∀ b : Bool, (b = true ↔ (1 ≤ mn ∧ mn ≤ mx ∧ mx ≤ 6000 ∧ 1 ≤ st)) → some b = some (decide (cyc mn mx st)) := by
    intro b hb
    congr 1
    rw [Bool.eq_iff_iff, decide_eq_true_eq]
    exact hb
  unfold webster_right.f
  (repeat' split) <;> apply key <;> simp <;> omega
/-- How many steps there are. -/
def steps (mn mx st : Int) : Int := (mx - mn) / st
theorem steps_bd {mn mx st : Int} (h : cyc mn mx st) : 0 ≤ steps mn mx st ∧ steps mn mx st ≤ 6000 ∧ 0 ≤ steps mn mx st * st ∧ steps mn mx st * st ≤ mx - mn ∧ mx - mn < steps mn mx st * st + st := by
  obtain ⟨h1, h2, h3, h4⟩ := h
  have a1 : 0 ≤ (mx - mn) / st := Int.ediv_nonneg (by omega) (by omega)
  have a2 : (mx - mn) / st ≤ mx - mn := Int.ediv_le_self st (by omega)
  have a3 := Int.ediv_mul_le (mx - mn) (b := st) (by omega)
  have a4 := Int.lt_ediv_add_one_mul_self (mx - mn) (b := st) (by omega)
  rw [Int.add_mul, Int.one_mul] at a4
  unfold steps
  exact ⟨a1, by omega, Int.mul_nonneg a1 (by omega), a3, a4⟩
theorem Count_f (mn mx st pn pd : Int) (l5 : List (S55)) (l6 : List (S120)) (wo wi : Int) : webster_Count.f mn mx st pn pd l5 l6 wo wi = some (if cyc mn mx st then steps mn mx st + 1 else 0) := by
  unfold webster_Count.f
  rw [right_f]
  simp only [Option.bind_some]
  by_cases h : cyc mn mx st
  · obtain ⟨b0, b1, _⟩ := steps_bd h
    have h' := h
    obtain ⟨h1, h2, h3, h4⟩ := h'
    rw [if_pos (by simpa using h), if_neg (by omega), if_pos h, w64 (x := mx - mn) (by omega) (by omega), Int.tdiv_eq_ediv_of_nonneg (by omega)]
    unfold steps at b0 b1 ⊢
    rw [w64 (x := (mx - mn) / st) (by omega) (by omega), w64 (by omega) (by omega)]
  · rw [if_neg (by simpa using h), if_neg h]
theorem Allowed_f (mn mx st pn pd : Int) (l5 : List (S55)) (l6 : List (S120)) (wo wi c : Int) (hc : I64 c) (h : cyc mn mx st) : ∃ r, webster_Allowed.f mn mx st pn pd l5 l6 wo wi c = some (r, decide (r ≥ c)) ∧ Nxt mn mx st c r := by
  obtain ⟨b0, b1, b2, b3, b4⟩ := steps_bd h
  have h' := h
  obtain ⟨h1, h2, h3, h4⟩ := h'
  unfold webster_Allowed.f
  rw [right_f, Count_f]
  simp only [Option.bind_some]
  rw [if_pos (by simpa using h), if_pos h]
  have e1 : steps mn mx st + 1 - 1 = steps mn mx st := by omega
  generalize steps mn mx st = T at *
  have e2 : wrap64 (mn + wrap64 (wrap64 (T + 1 - 1) * st)) = mn + T * st := by
    rw [e1, w64 (x := T) (by omega) (by omega), w64 (x := T * st) (by omega) (by omega), w64 (by omega) (by omega)]
  by_cases c1 : c ≤ mn
  · exact ⟨mn, by rw [if_pos c1, decide_eq_true (by omega)], ⟨⟨0, by simp⟩, by omega, .inl rfl, .inl (by omega)⟩⟩
  · rw [if_neg c1, e2]
    by_cases c2 : c > mn + T * st
    · exact ⟨mn + T * st, by rw [if_pos c2, decide_eq_false (by omega)], ⟨⟨T.toNat, by rw [Int.toNat_of_nonneg b0]⟩, by omega, .inr (by omega), .inr (by omega)⟩⟩
    · rw [if_neg c2, w64 (x := c - mn) (by omega) (by omega), Ceil_pos (by omega) (by omega) h4]
      simp only [Option.bind_some]
      have m0 : 0 ≤ (c - mn + (st - 1)) / st := Int.ediv_nonneg (by omega) (by omega)
      have m1 := Int.ediv_mul_le (c - mn + (st - 1)) (b := st) (by omega)
      have m2 := Int.lt_ediv_add_one_mul_self (c - mn + (st - 1)) (b := st) (by omega)
      rw [Int.add_mul, Int.one_mul] at m2
      generalize (c - mn + (st - 1)) / st = m at *
      have mT : m ≤ T := by
        apply Int.not_lt.1
        intro hlt
        have := Int.mul_le_mul_of_nonneg_right (show T + 1 ≤ m by omega) (show 0 ≤ st by omega)
        rw [Int.add_mul, Int.one_mul] at this
        omega
      have mT2 := Int.mul_le_mul_of_nonneg_right mT (show 0 ≤ st by omega)
      have m3 : 0 ≤ m * st := Int.mul_nonneg m0 (by omega)
      refine ⟨mn + m * st, ?_, ⟨⟨m.toNat, by rw [Int.toNat_of_nonneg m0]⟩, by omega, .inr (by omega), .inl (by omega)⟩⟩
      rw [w64 (x := m * st) (by omega) (by omega), w64 (by omega) (by omega), decide_eq_true (by omega)]
theorem Allowed_no (mn mx st pn pd : Int) (l5 : List (S55)) (l6 : List (S120)) (wo wi c : Int) (h : ¬ cyc mn mx st) : webster_Allowed.f mn mx st pn pd l5 l6 wo wi c = some (0, false) := by
  unfold webster_Allowed.f
  rw [right_f]
  simp only [Option.bind_some]
  rw [if_neg (by simpa using h)]
theorem awake12_ev : Ev (fun k => carrefourlaw12_awake.f k) true := Ev.of carrefourlaw12_awake.mono (k := 300) (by decide +kernel)
end Go.Proofs.YtpdmiookdmncpaaDoor.Pure
