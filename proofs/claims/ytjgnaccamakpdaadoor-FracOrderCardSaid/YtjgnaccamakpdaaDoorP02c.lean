/- Fractions: what the functions of package frac come to.
   Conditions: as each theorem's head says. -/
import Derived.Test.YtjgnaccamakpdaaDoorP02b
namespace Go.Proofs.YtjgnaccamakpdaaDoor.Pure
set_option linter.unusedVariables false
open Go.RowKit Go.Proofs.YtjgnaccamakpdaaDoor.X Go.Proofs.YtjgnaccamakpdaaDoorW.PrintWords Go.Proofs.YtjgnaccamakpdaaDoorW.PrintLast Go.Proofs.YtjgnaccamakpdaaDoorW.PrintMore

/-- Which fractions are right. -/
def rt (a b : Int) : Prop := 1 ≤ b ∧ gg a b = 1
instance (a b : Int) : Decidable (rt a b) := by unfold rt; exact inferInstance
/-- A fraction as it counts. -/
def nm (a b : Int) : Int × Int := if rt a b then (a, b) else (0, 1)
theorem nm_spec {a b : Int} (ha : I64 a) (hb : I64 b) : I64 (nm a b).1 ∧ I64 (nm a b).2 ∧ 1 ≤ (nm a b).2 ∧ rt (nm a b).1 (nm a b).2 := by
  unfold nm
  by_cases h : rt a b
  · rw [if_pos h]; exact ⟨ha, hb, h.1, h⟩
  · rw [if_neg h]; exact ⟨by unfold I64; omega, by unfold I64; omega, by omega, by decide⟩
theorem nm_of {a b : Int} (h : rt a b) : nm a b = (a, b) := if_pos h
/-- The fraction of a number and a size. -/
def lowZ (z : Int) (d : Nat) : Int × Int × Int := lowF z.natAbs d (decide (z < 0))
theorem lowF_zero (d : Nat) (s t : Bool) : lowF 0 d s = lowF 0 d t := by
  unfold lowF
  rw [Nat.zero_div]
  by_cases c : d / Nat.gcd 0 d < 9223372036854775808
  · cases s <;> cases t <;> simp
  · cases s <;> cases t <;> simp
theorem lowF_of {n d : Nat} {s : Bool} {z : Int} (hn : n = z.natAbs) (hs : z ≠ 0 → (s = true ↔ z < 0)) : lowF n d s = lowZ z d := by
  unfold lowZ
  subst hn
  by_cases h : z = 0
  · subst h; exact lowF_zero _ _ _
  · have : s = decide (z < 0) := by rw [Bool.eq_iff_iff, decide_eq_true_eq]; exact hs h
    rw [this]
theorem sign_pos {a : Bool} {b : Int} (h : 0 < b) : (a != decide (b < 0)) = a := by rw [decide_eq_false (by omega)]; cases a <;> rfl
theorem sign_pos2 {p q : Int} (hp : 0 < p) (hq : 0 < q) : (decide (p < 0) != decide (q < 0)) = false := by rw [decide_eq_false (show ¬ p < 0 by omega), decide_eq_false (show ¬ q < 0 by omega)]; rfl
theorem bne_false' (a : Bool) : (a != false) = a := by cases a <;> rfl
def addS (a b c d : Int) : Int × Int × Int := lowZ ((nm a b).1 * (nm c d).2 + (nm c d).1 * (nm a b).2) ((nm a b).2 * (nm c d).2).natAbs
def ceilS (a b : Int) : Int := -((-(nm a b).1) / (nm a b).2)
def floorS (a b : Int) : Int := (nm a b).1 / (nm a b).2
theorem gcd_one_bd {a b : Int} (hb : I64 b) (h : 1 ≤ b) : (gg a b : Int) < 9223372036854775808 := by
  obtain ⟨_, h2⟩ := hb
  have : gg a b ≤ b.natAbs := Nat.gcd_le_right _ (by omega)
  omega
theorem Right_ev {a b : Int} (ha : I64 a) (hb : I64 b) : Ev (fun k => frac_Right.f k a b) (decide (rt a b)) := by
  unfold frac_Right.f
  refine Ev.bind (Gcd_ev ha hb) ?_
  by_cases h : b ≥ 1
  · refine Ev.itep h ?_
    have := gcd_one_bd (a := a) hb h
    rw [fit_in ⟨by omega, this⟩]
    refine Ev.itep rfl ?_
    have e : (((gg a b : Nat) : Int) == 1) = decide (rt a b) := by
      rw [Bool.eq_iff_iff, decide_eq_true_eq, beq_iff_eq]
      unfold rt
      omega
    show Ev (fun _ => some (((gg a b : Nat) : Int) == 1)) (decide (rt a b))
    rw [e]
    exact Ev.now _
  · rw [decide_eq_false (fun x : rt a b => h x.1)]
    exact Ev.iten h (Ev.now _)
theorem norm_ev {a b : Int} (ha : I64 a) (hb : I64 b) : Ev (fun k => frac_norm.f k a b) (nm a b) := by
  unfold frac_norm.f nm
  refine Ev.bind (Right_ev ha hb) ?_
  by_cases h : rt a b
  · rw [if_pos h]; exact Ev.itep (by simpa using h) (Ev.now _)
  · rw [if_neg h]; exact Ev.iten (by simpa using h) (Ev.now _)
theorem sized_f {a : Int} (ha : I64 a) : frac_sized.f a = some (decide (a < 0), hw a.natAbs, lw a.natAbs) := by
  unfold I64 at ha
  unfold frac_sized.f
  rw [hw_small (by omega), lw_small (by omega)]
  by_cases h : a < 0
  · rw [if_pos h, decide_eq_true h]
    have : IntKind.u64.wrap (-(IntKind.u64.wrap a)) = (a.natAbs : Int) := by
      rw [IntKind.wrap_u64, IntKind.wrap_u64]; omega
    rw [this]
  · rw [if_neg h, decide_eq_false h, u64w (by omega) (by omega)]
    have : a = (a.natAbs : Int) := by omega
    rw [← this]
theorem times_f {x y : Nat} (s t : Bool) (hx : x < 18446744073709551616) (hy : y < 18446744073709551616) : frac_signed_times.f s (hw x) (lw x) t (hw y) (lw y) = some ((s != t), hw (x * y), lw (x * y)) := by
  unfold frac_signed_times.f frac_multiply.f
  rw [lw_small hx, lw_small hy, mul64 ⟨by omega, by omega⟩ ⟨by omega, by omega⟩]
  simp only [Option.bind_some]
  unfold hw lw
  have e : (x : Int) * (y : Int) = ((x * y : Nat) : Int) := by push_cast; rfl
  rw [e]
  rfl
theorem prodM {x y : Nat} (hx : x ≤ 9223372036854775808) (hy : y ≤ 9223372036854775808) : M128 (x * y) := by
  have := Nat.mul_le_mul hx hy
  unfold M128
  omega
theorem Ceil_any {a b : Int} (ha : I64 a) (hb : 1 ≤ b) : whole_Ceil.f a b = some (-((-a) / b), 0) := by
  unfold I64 at ha
  unfold whole_Ceil.f
  rw [if_neg (by omega), if_neg (by omega)]
  have hneg := Int.mul_ediv_add_emod (-a) b
  have r0 := Int.emod_nonneg (-a) (show b ≠ 0 by omega)
  have r1 := Int.emod_lt_of_pos (-a) (show 0 < b by omega)
  have key : ∀ q : Int, a ≤ b * q → b * (q - 1) < a → -((-a) / b) = q := by
    intro q h1 h2
    rw [Int.mul_sub, Int.mul_one] at h2
    have h3 : -q ≤ (-a) / b := Int.le_ediv_of_mul_le (by omega) (by rw [Int.neg_mul, Int.mul_comm]; omega)
    have h4 : (-a) / b < -q + 1 := Int.ediv_lt_of_lt_mul (by omega) (by rw [Int.add_mul, Int.neg_mul, Int.one_mul, Int.mul_comm]; omega)
    omega
  have ht := Int.mul_tdiv_add_tmod a b
  have htb : -9223372036854775808 ≤ Int.tdiv a b ∧ Int.tdiv a b < 9223372036854775807 ∨ b = 1 := by
    by_cases hb1 : b = 1
    · exact .inr hb1
    · left
      by_cases h0 : 0 ≤ a
      · rw [Int.tdiv_eq_ediv_of_nonneg h0]
        have p0 : 0 ≤ a / b := Int.ediv_nonneg h0 (by omega)
        have : a / b < 4611686018427387905 := Int.ediv_lt_of_lt_mul (by omega) (by
          have : (4611686018427387905 : Int) * 2 ≤ 4611686018427387905 * b := Int.mul_le_mul_of_nonneg_left (by omega) (by omega)
          omega)
        omega
      · have e : Int.tdiv a b = -((-a) / b) := by
          have : a = -(-a) := by omega
          conv => lhs; rw [this]
          rw [Int.neg_tdiv, Int.tdiv_eq_ediv_of_nonneg (by omega)]
        have p0 : 0 ≤ (-a) / b := Int.ediv_nonneg (by omega) (by omega)
        have p1 : (-a) / b ≤ -a := Int.ediv_le_self b (by omega)
        omega
  by_cases hm : Int.tmod a b = 0
  · rw [if_pos hm]
    rw [hm, Int.add_zero] at ht
    have : -((-a) / b) = Int.tdiv a b := key _ (by omega) (by rw [Int.mul_sub, Int.mul_one]; omega)
    rw [this]
    rcases htb with h | h
    · rw [w64 (by omega) (by omega)]
    · subst h; rw [Int.tdiv_one, w64 (by omega) (by omega)]
  · rw [if_neg hm]
    rcases htb with h | h
    · by_cases hs : a < 0
      · have hneg' : Int.tmod a b < 0 := (tmod_sign hm).2 hs
        have hgt : -b < Int.tmod a b := by
          have := Int.lt_tmod_of_pos a (show 0 < b by omega)
          omega
        rw [if_neg (by rw [decide_eq_true hneg', decide_eq_false (show ¬ b < 0 by omega)]; decide), w64 (by omega) (by omega)]
        rw [key (Int.tdiv a b) (by omega) (by rw [Int.mul_sub, Int.mul_one]; omega)]
      · have hge : 0 ≤ Int.tmod a b := Int.tmod_nonneg _ (by omega)
        have hlt := Int.tmod_lt_of_pos a (show 0 < b by omega)
        rw [if_pos (by rw [decide_eq_false (show ¬ Int.tmod a b < 0 by omega), decide_eq_false (show ¬ b < 0 by omega)]; decide), w64 (x := Int.tdiv a b) (by omega) (by omega), w64 (by omega) (by omega)]
        rw [key (Int.tdiv a b + 1) (by rw [Int.mul_add, Int.mul_one]; omega) (by rw [Int.add_sub_cancel]; omega)]
    · subst h; rw [Int.tmod_one] at hm; exact absurd rfl hm
end Go.Proofs.YtjgnaccamakpdaaDoor.Pure
