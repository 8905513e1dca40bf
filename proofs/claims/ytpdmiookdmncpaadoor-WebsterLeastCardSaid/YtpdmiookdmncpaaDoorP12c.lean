/- The cycle that the formula asks for: what package webster and the document's answer come to.
   Conditions: as each theorem's head says. -/
import Derived.Test.YtpdmiookdmncpaaDoorP02u
import Derived.Test.YtpdmiookdmncpaaDoorP12
namespace Go.Proofs.YtpdmiookdmncpaaDoor.Pure
set_option linter.unusedVariables false
open Go.RowKit Go.Proofs.YtpdmiookdmncpaaDoor.X Go.Proofs.YtpdmiookdmncpaaDoorW.PrintWords Go.Proofs.YtpdmiookdmncpaaDoorW.PrintLast Go.Proofs.YtpdmiookdmncpaaDoorW.PrintMore

/-- May a cycle be asked for? -/
def okL (lost a b : Int) : Prop := 0 ≤ lost ∧ lost ≤ 600000 ∧ rt a b ∧ 0 ≤ a
instance (lost a b : Int) : Decidable (okL lost a b) := by unfold okL; exact inferInstance
def tS (lost : Int) : Int × Int × Int := ofS (3 * lost + 100) 2
def bS (a b : Int) : Int × Int × Int := ofS (b - a) b
def dS (lost a b : Int) : Int × Int × Int := divS (tS lost).1 (tS lost).2.1 (bS a b).1 (bS a b).2.1
def cycS (lost a b : Int) : Int × Bool × Int :=
  if okL lost a b then (if a ≥ b then (0, false, 0) else if (dS lost a b).2.2 = 0 then (ceilS (dS lost a b).1 (dS lost a b).2.1, true, 0) else (0, false, (dS lost a b).2.2)) else (0, false, 1)
theorem tS_ok {lost : Int} (h0 : 0 ≤ lost) (h1 : lost ≤ 600000) : (tS lost).2.2 = 0 ∧ I64 (tS lost).1 ∧ I64 (tS lost).2.1 ∧ rt (tS lost).1 (tS lost).2.1 ∧ (tS lost).1 * 2 = (3 * lost + 100) * (tS lost).2.1 := by
  unfold tS
  rw [ofS_pos (by decide)]
  have hs : (lowZ (3 * lost + 100) (2 : Int).natAbs).2.2 = 0 := lowZ_small (by decide) (by omega) (by decide)
  obtain ⟨f1, f2, f3, f4⟩ := lowZ_fits (by decide) hs
  exact ⟨hs, f1, f2, f3, f4⟩
theorem bS_ok {a b : Int} (ha : I64 a) (hb : I64 b) (h0 : 0 ≤ a) (hlt : a < b) : (bS a b).2.2 = 0 ∧ I64 (bS a b).1 ∧ I64 (bS a b).2.1 ∧ rt (bS a b).1 (bS a b).2.1 ∧ (bS a b).1 * b = (b - a) * (bS a b).2.1 := by
  unfold bS I64 at *
  rw [ofS_pos (by omega)]
  have hs : (lowZ (b - a) b.natAbs).2.2 = 0 := lowZ_small (by omega) (by omega) (by omega)
  obtain ⟨f1, f2, f3, f4⟩ := lowZ_fits (by omega) hs
  have e : ((b.natAbs : Nat) : Int) = b := by omega
  rw [e] at f4
  exact ⟨hs, f1, f2, f3, f4⟩
theorem divS_fits {a b c d : Int} (ha : I64 a) (hb : I64 b) (hc : I64 c) (hd : I64 d) (h : (divS a b c d).2.2 = 0) : I64 (divS a b c d).1 ∧ I64 (divS a b c d).2.1 ∧ rt (divS a b c d).1 (divS a b c d).2.1 := by
  obtain ⟨i1, i2, i3, _⟩ := nm_spec ha hb
  obtain ⟨i4, i5, i6, _⟩ := nm_spec hc hd
  unfold divS at h ⊢
  by_cases h0 : (nm c d).1 = 0
  · rw [if_pos h0] at h; exact absurd h (by decide)
  · rw [if_neg h0] at h ⊢
    obtain ⟨f1, f2, f3, _⟩ := lowZ_fits (by have := Int.mul_ne_zero (show (nm a b).2 ≠ 0 by omega) h0; omega) h
    exact ⟨f1, f2, f3⟩
theorem nm_one : nm 1 1 = (1, 1) := nm_of (by decide)
theorem Cycle_ev {lost a b : Int} (hl : I64 lost) (ha : I64 a) (hb : I64 b) : Ev (fun k => webster_Cycle.f k lost a b) (cycS lost a b) := by
  have no : Ev (fun k => webster_Cycle.j0 k lost true a b) (0, false, 1) := Ev.step (f := fun _ => some (0, false, 1)) (fun k => by simp only [webster_Cycle.j0]; rw [if_pos trivial]) (Ev.now _)
  unfold webster_Cycle.f cycS
  by_cases h1 : lost < 0
  · rw [if_neg (fun h => by have := h.1; omega)]; exact Ev.itep h1 no
  by_cases h2 : lost > 600000
  · rw [if_neg (fun h => by have := h.2.1; omega)]; exact Ev.iten h1 (Ev.itep h2 no)
  refine Ev.iten h1 (Ev.iten h2 (Ev.bind (Right_ev ha hb) ?_))
  by_cases h3 : rt a b
  · refine Ev.itep (decide_eq_true h3) ?_
    by_cases h4 : a < 0
    · rw [if_neg (fun h => by have := h.2.2.2; omega), decide_eq_true h4]; exact no
    · rw [if_pos ⟨by omega, by omega, h3, by omega⟩, decide_eq_false h4]
      have b1 := h3.1
      obtain ⟨t0, t1, t2, t3, _⟩ := tS_ok (lost := lost) (by omega) (by omega)
      by_cases h5 : a ≥ b
      · rw [if_pos h5]
        refine Ev.step (f := fun _ => some (0, false, 0)) (fun k => ?_) (Ev.now _)
        simp only [webster_Cycle.j0]
        rw [if_neg Bool.false_ne_true, if_pos h5]
      · rw [if_neg h5]
        obtain ⟨b0, b1', b2, b3, _⟩ := bS_ok ha hb (by omega) (show a < b by omega)
        have hb' : b < 9223372036854775808 := hb.2
        have ev1 : Ev (fun k => frac_Of.f k (wrap64 (b - a)) b) (bS a b) := by rw [w64 (by omega) (by omega)]; exact Of_ev ⟨by omega, by omega⟩ hb
        have ev2 : Ev (fun k => frac_Of.f k (wrap64 ((wrap64 (3 * lost)) + 100)) 2) (tS lost) := by rw [w64 (x := 3 * lost) (by omega) (by omega), w64 (by omega) (by omega)]; exact Of_ev ⟨by omega, by omega⟩ ⟨by omega, by omega⟩
        have ev3 : Ev (fun k => frac_Div.f k (tS lost).1 (tS lost).2.1 (bS a b).1 (bS a b).2.1) (dS lost a b) := Div_ev t1 t2 b1' b2
        refine Ev.step (fun k => by simp only [webster_Cycle.j0]; rw [if_neg Bool.false_ne_true, if_neg h5]) (Ev.bind ev1 (Ev.itep b0 (Ev.bind ev2 (Ev.itep t0 (Ev.bind ev3 ?_)))))
        by_cases h6 : (dS lost a b).2.2 = 0
        · rw [if_pos h6]
          obtain ⟨d1, d2, d3⟩ := divS_fits t1 t2 b1' b2 h6
          exact Ev.itep h6 (Ev.bind (fCeil_ev d1 d2) (Ev.now _))
        · rw [if_neg h6]; exact Ev.iten h6 (Ev.now _)
  · rw [if_neg (fun h => h3 h.2.2.1)]; exact Ev.iten (by simpa using h3) no
theorem subS_one {a b : Int} (h : rt a b) : subS 1 1 a b = ofS (b - a) b := by
  unfold subS
  rw [nm_one, nm_of h, ofS_pos h.1, Int.one_mul, Int.mul_one]
theorem cmpS_one {a b : Int} (h : rt a b) : cmpS a b 1 1 ≥ 0 ↔ a ≥ b := by
  unfold cmpS
  rw [nm_one, nm_of h, sgn_ge, Int.one_mul, Int.mul_one]
theorem rCycle_ev {lost a b : Int} (hl : I64 lost) (ha : I64 a) (hb : I64 b) : Ev (fun k => carrefourref12_Cycle.f k lost a b) (cycS lost a b) := by
  have no : Ev (fun k => carrefourref12_Cycle.j0 k lost true a b 1 1) (0, false, 1) := Ev.step (f := fun _ => some (0, false, 1)) (fun k => by simp only [carrefourref12_Cycle.j0]; rw [if_pos trivial]) (Ev.now _)
  have one : I64 1 := ⟨by decide, by decide⟩
  unfold carrefourref12_Cycle.f cycS
  by_cases h1 : lost < 0
  · rw [if_neg (fun h => by have := h.1; omega)]; exact Ev.itep h1 no
  by_cases h2 : lost > 600000
  · rw [if_neg (fun h => by have := h.2.1; omega)]; exact Ev.iten h1 (Ev.itep h2 no)
  refine Ev.iten h1 (Ev.iten h2 (Ev.bind (rRight_ev ha hb) ?_))
  by_cases h3 : rt a b
  · refine Ev.itep (decide_eq_true h3) ?_
    by_cases h4 : a < 0
    · rw [if_neg (fun h => by have := h.2.2.2; omega), decide_eq_true h4]; exact no
    · rw [if_pos ⟨by omega, by omega, h3, by omega⟩, decide_eq_false h4]
      have b1 := h3.1
      obtain ⟨t0, t1, t2, t3, _⟩ := tS_ok (lost := lost) (by omega) (by omega)
      refine Ev.step (fun k => by simp only [carrefourref12_Cycle.j0]; rw [if_neg Bool.false_ne_true]) (Ev.bind (rCmp_ev ha hb one one) ?_)
      by_cases h5 : a ≥ b
      · rw [if_pos h5]
        exact Ev.itep ((cmpS_one h3).2 h5) (Ev.now _)
      · rw [if_neg h5]
        obtain ⟨b0, b1', b2, b3, _⟩ := bS_ok ha hb (by omega) (show a < b by omega)
        have hb' : b < 9223372036854775808 := hb.2
        have ev1 : Ev (fun k => carrefourref02_Sub.f k 1 1 a b) (bS a b) := by have := rSub_ev one one ha hb; rw [subS_one h3] at this; exact this
        have ev2 : Ev (fun k => carrefourref02_Of.f k (wrap64 ((wrap64 (3 * lost)) + 100)) 2) (tS lost) := by rw [w64 (x := 3 * lost) (by omega) (by omega), w64 (by omega) (by omega)]; exact rOf_ev ⟨by omega, by omega⟩ ⟨by omega, by omega⟩
        have ev3 : Ev (fun k => carrefourref02_Div.f k (tS lost).1 (tS lost).2.1 (bS a b).1 (bS a b).2.1) (dS lost a b) := rDiv_ev t1 t2 b1' b2
        refine Ev.iten (fun h => h5 ((cmpS_one h3).1 h)) (Ev.bind ev2 (Ev.bind ev1 (Ev.itep b0 (Ev.bind ev3 ?_))))
        by_cases h6 : (dS lost a b).2.2 = 0
        · rw [if_pos h6]
          obtain ⟨d1, d2, d3⟩ := divS_fits t1 t2 b1' b2 h6
          exact Ev.itep h6 (Ev.bind (rCeil_ev d1 d2) (Ev.now _))
        · rw [if_neg h6]; exact Ev.iten h6 (Ev.now _)
  · rw [if_neg (fun h => h3 h.2.2.1)]; exact Ev.iten (by simpa using h3) no
end Go.Proofs.YtpdmiookdmncpaaDoor.Pure
