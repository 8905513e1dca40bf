/- What the functions of packages whole and carrefourref01 come to, by numbers alone: products, quotients, comparisons, roots.
   Conditions: as each theorem's head says. -/
import Derived.Test.YtjgnaccamakpdaaDoorP01b
namespace Go.Proofs.YtjgnaccamakpdaaDoor.Pure
set_option linter.unusedVariables false
open Go.RowKit Go.Proofs.YtjgnaccamakpdaaDoor.X Go.Proofs.YtjgnaccamakpdaaDoorW.PrintWords Go.Proofs.YtjgnaccamakpdaaDoorW.PrintLast Go.Proofs.YtjgnaccamakpdaaDoorW.PrintMore

theorem fit_in {n : Int} (h : I64 n) : fit n = (n, 0) := by unfold I64 at h; unfold fit; rw [if_pos h]
theorem fit_out {n : Int} (h : ¬ I64 n) : fit n = (0, 2) := by unfold I64 at h; unfold fit; rw [if_neg h]
theorem Sub_f {a b : Int} (ha : I64 a) (hb : I64 b) : whole_Sub.f a b = some (fit (a - b)) := by
  obtain ⟨a0, a1⟩ := ha; obtain ⟨b0, b1⟩ := hb
  unfold whole_Sub.f
  by_cases h : I64 (a - b)
  · rw [fit_in h]
    obtain ⟨h0, h1⟩ := h
    rw [w64 h0 h1]
    have : ((decide (a - b > a)) != (decide (b < 0))) = false := by
      have : decide (a - b > a) = decide (b < 0) := by rw [decide_eq_decide]; omega
      rw [this]; simp
    rw [this, if_neg (by decide)]
  · rw [fit_out h]
    have hw : (wrap64 (a - b) > a ∧ ¬ b < 0) ∨ (¬ wrap64 (a - b) > a ∧ b < 0) := by
      unfold I64 at h
      unfold wrap64
      omega
    rcases hw with ⟨h1, h2⟩ | ⟨h1, h2⟩ <;> simp [h1, h2]
theorem Neg_f {a : Int} (ha : I64 a) : whole_Neg.f a = some (fit (0 - a)) := by
  unfold whole_Neg.f
  rw [Sub_f ⟨by omega, by omega⟩ ha]
  rfl
/-! ### products -/
theorem sg_cases (a b : Int) : sg a b = -1 ∨ sg a b = 1 ∨ (sg a b = 0 ∧ ab a * ab b = 0) := by
  rcases sg_spec a b with h | h | h
  · exact .inr (.inl h.1)
  · exact .inl h.1
  · exact .inr (.inr ⟨h.1, h.2.2⟩)
theorem sg_mul (a b : Int) : sg a b * (ab a * ab b) = a * b := by
  rcases sg_spec a b with h | h | h
  · rw [h.1, h.2.1, Int.one_mul]
  · rw [h.1, h.2.1, Int.neg_mul, Int.one_mul]
  · rw [h.1, h.2.1, Int.zero_mul]
theorem below_ev {β : Type} {a b : Int} {r : β} (F : Bool → Nat → Option β) (h : Ev (F (decide (sg a b = -1))) r) :
    Ev (fun n => if ((decide (a < 0)) != (decide (b < 0))) = true then (if a = 0 then F false n else F (b != 0) n) else F false n) r := by
  have cases3 : (((decide (a < 0)) != (decide (b < 0))) = true ∧ a = 0 ∧ decide (sg a b = -1) = false) ∨ (((decide (a < 0)) != (decide (b < 0))) = true ∧ a ≠ 0 ∧ decide (sg a b = -1) = (b != 0)) ∨ (¬ ((decide (a < 0)) != (decide (b < 0))) = true ∧ decide (sg a b = -1) = false) := by
    by_cases c : ((decide (a < 0)) != (decide (b < 0))) = true
    · by_cases z : a = 0
      · exact .inl ⟨c, z, by simp [sg, z]⟩
      · refine .inr (.inl ⟨c, z, ?_⟩)
        have c' : ¬ decide (a < 0) = decide (b < 0) := by simpa using c
        by_cases y : b = 0
        · simp [sg, y]
        · have y' : (b != 0) = true := by simpa using y
          unfold sg
          rw [if_neg (by simp [z, y]), if_neg c', y']; decide
    · refine .inr (.inr ⟨c, ?_⟩)
      have c' : decide (a < 0) = decide (b < 0) := by simpa using c
      unfold sg
      by_cases y : a = 0 ∨ b = 0
      · simp [y]
      · rw [if_neg y, if_pos c']; decide
  rcases cases3 with ⟨c, z, e⟩ | ⟨c, z, e⟩ | ⟨c, e⟩
  · rw [e] at h
    exact Ev.itep c (Ev.itep z h)
  · rw [e] at h
    exact Ev.itep c (Ev.iten z h)
  · rw [e] at h
    exact Ev.iten c h
theorem below_val {a b : Int} : (if (decide (sg a b = -1)) = true then -(ab a * ab b) else ab a * ab b) = a * b := by
  rcases sg_spec a b with h | h | h
  · rw [h.1, h.2.1]; rfl
  · rw [h.1, h.2.1]; rfl
  · rw [h.1, h.2.1, h.2.2]; rfl
/-! ### Scale -/
theorem neg_ediv {P c : Int} (hc : 1 ≤ c) : (-P) / c = -((P + (c - 1)) / c) := by
  have g1 := Int.ediv_mul_le (P + (c - 1)) (b := c) (by omega)
  have g2 := Int.lt_ediv_add_one_mul_self (P + (c - 1)) (b := c) (by omega)
  generalize (P + (c - 1)) / c = q at *
  rw [Int.add_mul, Int.one_mul] at g2
  have h1 : -q ≤ (-P) / c := Int.le_ediv_of_mul_le (by omega) (by rw [Int.neg_mul]; omega)
  have h2 : (-P) / c < -q + 1 := Int.ediv_lt_of_lt_mul (by omega) (by rw [Int.add_mul, Int.neg_mul, Int.one_mul]; omega)
  omega
theorem neg_ediv2 {P c : Int} (hc : 1 ≤ c) : (-P) / c = if P / c * c = P then -(P / c) else -(P / c + 1) := by
  have g1 := Int.ediv_mul_le P (b := c) (by omega)
  have g2 := Int.lt_ediv_add_one_mul_self P (b := c) (by omega)
  generalize P / c = q at *
  rw [Int.add_mul, Int.one_mul] at g2
  split
  · rename_i h
    have h1 : -q ≤ (-P) / c := Int.le_ediv_of_mul_le (by omega) (by rw [Int.neg_mul]; omega)
    have h2 : (-P) / c < -q + 1 := Int.ediv_lt_of_lt_mul (by omega) (by rw [Int.add_mul, Int.neg_mul, Int.one_mul]; omega)
    omega
  · rename_i h
    have h1 : -(q + 1) ≤ (-P) / c := Int.le_ediv_of_mul_le (by omega) (by rw [Int.neg_mul, Int.add_mul, Int.one_mul]; omega)
    have h2 : (-P) / c < -(q + 1) + 1 := Int.ediv_lt_of_lt_mul (by omega) (by rw [Int.add_mul, Int.neg_mul, Int.one_mul, Int.add_mul, Int.one_mul]; omega)
    omega
/-- What Scale tells. -/
def scaled (a b c : Int) : Int × Int := if c < 1 then (0, 1) else fit (a * b / c)
end Go.Proofs.YtjgnaccamakpdaaDoor.Pure
