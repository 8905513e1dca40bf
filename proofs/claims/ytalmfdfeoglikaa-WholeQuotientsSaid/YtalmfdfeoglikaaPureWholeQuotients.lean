/- The pure law WholeQuotients: quotients rounded down and up, and rests, are what the document tells, for every input.
   Conditions: none beyond the kinds of the arguments. -/
import Derived.Test.YtalmfdfeoglikaaP01c
namespace Go.Proofs.Ytalmfdfeoglikaa.Pure
set_option linter.unusedVariables false
open Go.RowKit Go.Proofs.Ytalmfdfeoglikaa.X Go.Proofs.YtalmfdfeoglikaaW.PrintWords Go.Proofs.YtalmfdfeoglikaaW.PrintLast
theorem tmod_sign {a b : Int} (h : Int.tmod a b ≠ 0) : Int.tmod a b < 0 ↔ a < 0 := by
  by_cases ha : 0 ≤ a
  · have := Int.tmod_nonneg b ha
    omega
  · have h1 : Int.tmod (-a) b = -Int.tmod a b := Int.neg_tmod ..
    have h2 := Int.tmod_nonneg b (show 0 ≤ -a by omega)
    omega
theorem tdiv_bd {a b : Int} (ha : I64 a) (hb : b ≠ -1) : I64 (Int.tdiv a b) := by
  obtain ⟨a0, a1⟩ := ha
  have h := Int.natAbs_tdiv_le_natAbs a b
  refine ⟨by omega, ?_⟩
  apply Decidable.byContradiction
  intro hc
  have e1 : Int.tdiv a b = 9223372036854775808 := by omega
  have e2 : a = -9223372036854775808 := by omega
  subst e2
  have e3 := Int.mul_tdiv_add_tmod (-9223372036854775808) b
  rw [e1] at e3
  have hlt : (Int.tmod (-9223372036854775808) b) ≤ 0 := by
    have h1 : Int.tmod (-(9223372036854775808)) b = -Int.tmod 9223372036854775808 b := Int.neg_tmod ..
    have h2 := Int.tmod_nonneg b (show (0 : Int) ≤ 9223372036854775808 by omega)
    omega
  have hb0 : b ≠ 0 := by rintro rfl; simp at e1
  have hge : (Int.tmod (-9223372036854775808) b).natAbs < b.natAbs := by
    rw [Int.natAbs_tmod]
    exact Nat.mod_lt _ (by omega)
  omega
theorem Floor_both {a b : Int} (ha : I64 a) (hb : I64 b) : ∃ r, whole_Floor.f a b = some r ∧ Ev (fun k => carrefourref01_Floor.f k a b) r ∧ (r.2 = 0 → r.1 = if Int.tmod a b = 0 then Int.tdiv a b else if decide (a < 0) = decide (b < 0) then Int.tdiv a b else Int.tdiv a b - 1) ∧ (b = 0 → r = (0, 3)) ∧ (b = -1 → r = fit (0 - a)) ∧ (b ≠ 0 → b ≠ -1 → r.2 = 0) := by
  unfold whole_Floor.f carrefourref01_Floor.f
  by_cases h0 : b = 0
  · subst h0
    exact ⟨(0, 3), by simp, Ev.itep rfl (Ev.now _), fun h => by simp at h, fun _ => rfl, fun h => by simp at h, fun h => absurd rfl h⟩
  · simp only [if_neg h0]
    by_cases h1 : b = -1
    · subst h1
      have et : Int.tdiv a (-1) = -a := by rw [Int.tdiv_neg, Int.tdiv_one]
      have em : Int.tmod a (-1) = 0 := by rw [Int.tmod_neg, Int.tmod_one]
      have hn : ((whole_Neg.f a).bind fun bt => some (bt.1, bt.2)) = some (fit (0 - a)) := by rw [Neg_f ha]; rfl
      refine ⟨fit (0 - a), by rw [if_pos rfl]; exact hn, ?_, ?_, fun h => by omega, fun _ => rfl, fun _ h => absurd rfl h⟩
      · by_cases hm : a = -9223372036854775808
        · subst hm
          refine Ev.itep rfl (Ev.step (f := fun _ => some (0, 2)) (fun n => ?_) (Ev.now _))
          simp only [carrefourref01_Floor.j0]
          rw [if_pos (by decide)]
        · have hf : I64 (0 - a) := by obtain ⟨a0, a1⟩ := ha; exact ⟨by omega, by omega⟩
          refine Ev.iten hm (Ev.step (f := fun _ => some (fit (0 - a))) (fun n => ?_) (Ev.now _))
          simp only [carrefourref01_Floor.j0]
          rw [if_neg (by decide), if_neg h0, em, if_pos rfl, et, fit_in hf]
          obtain ⟨f0, f1⟩ := hf
          rw [w64 (by omega) (by omega)]
          congr 2
          omega
      · intro hr
        rw [em, if_pos rfl, et]
        by_cases hf : I64 (0 - a)
        · rw [fit_in hf]; show 0 - a = -a; omega
        · rw [fit_out hf] at hr; simp at hr
    · obtain ⟨t0, t1⟩ := tdiv_bd ha h1
      have hj : ∀ c : Bool, c = false → Ev (fun k => carrefourref01_Floor.j0 k a b c) (if Int.tmod a b = 0 then (Int.tdiv a b, 0) else if decide (a < 0) = decide (b < 0) then (Int.tdiv a b, 0) else (wrap64 (Int.tdiv a b - 1), 0)) := by
        rintro c rfl
        refine Ev.step (f := fun _ => some (if Int.tmod a b = 0 then (Int.tdiv a b, 0) else if decide (a < 0) = decide (b < 0) then (Int.tdiv a b, 0) else (wrap64 (Int.tdiv a b - 1), 0))) (fun n => ?_) (Ev.now _)
        simp only [carrefourref01_Floor.j0]
        rw [if_neg (by decide), if_neg h0, w64 (x := Int.tdiv a b) t0 t1]
        by_cases hm : Int.tmod a b = 0
        · rw [if_pos hm, if_pos hm]
        · rw [if_neg hm, if_neg hm]
          by_cases hs : decide (a < 0) = decide (b < 0)
          · rw [if_pos hs, if_neg (by simp [hs])]
          · rw [if_neg hs, if_pos (by simpa using hs)]
      have hw : ¬ (Int.tmod a b = 0) → ¬ decide (a < 0) = decide (b < 0) → wrap64 (Int.tdiv a b - 1) = Int.tdiv a b - 1 := by
        intro hm hs
        apply w64 _ (by omega)
        apply Decidable.byContradiction
        intro hc
        have e1 : Int.tdiv a b = -9223372036854775808 := by omega
        have h := Int.natAbs_tdiv_le_natAbs a b
        have e2 : a = -9223372036854775808 := by obtain ⟨a0, a1⟩ := ha; omega
        subst e2
        have e3 := Int.mul_tdiv_add_tmod (-9223372036854775808) b
        rw [e1] at e3
        have hb2 : b ≠ 1 := by rintro rfl; exact hm (by simp)
        have : (Int.tmod (-9223372036854775808) b).natAbs < b.natAbs := by
          rw [Int.natAbs_tmod]
          exact Nat.mod_lt _ (by omega)
        omega
      refine ⟨if Int.tmod a b = 0 then (Int.tdiv a b, 0) else if decide (a < 0) = decide (b < 0) then (Int.tdiv a b, 0) else (wrap64 (Int.tdiv a b - 1), 0), ?_, ?_, ?_, fun h => absurd h h0, fun h => absurd h h1, ?_⟩
      · rw [if_neg h1, w64 (x := Int.tdiv a b) t0 t1]
        by_cases hm : Int.tmod a b = 0
        · rw [if_pos hm, if_pos hm]
        · rw [if_neg hm, if_neg hm]
          have e : decide (Int.tmod a b < 0) = decide (a < 0) := by rw [decide_eq_decide]; exact tmod_sign hm
          rw [e]
          by_cases hs : decide (a < 0) = decide (b < 0)
          · rw [if_pos hs, if_neg (by simp [hs])]
          · rw [if_neg hs, if_pos (by simpa using hs)]
      · by_cases hm : a = -9223372036854775808
        · exact Ev.itep hm (hj _ (by simpa using h1))
        · exact Ev.iten hm (hj _ rfl)
      · intro _
        by_cases hm : Int.tmod a b = 0
        · simp only [if_pos hm]
        · simp only [if_neg hm]
          by_cases hs : decide (a < 0) = decide (b < 0)
          · simp only [if_pos hs]
          · simp only [if_neg hs]; exact hw hm hs
      · intro _ _
        by_cases hm : Int.tmod a b = 0
        · simp only [if_pos hm]
        · simp only [if_neg hm]
          by_cases hs : decide (a < 0) = decide (b < 0)
          · simp only [if_pos hs]
          · simp only [if_neg hs]
theorem Ceil_both {a b : Int} (ha : I64 a) (hb : I64 b) : ∃ r, whole_Ceil.f a b = some r ∧ Ev (fun k => carrefourref01_Ceil.f k a b) r := by
  obtain ⟨r, _, hr, hv, hz, h1, hk⟩ := Floor_both ha hb
  unfold whole_Ceil.f carrefourref01_Ceil.f
  by_cases h0 : b = 0
  · subst h0
    refine ⟨(0, 3), by simp, ?_⟩
    have := hz rfl
    subst this
    exact Ev.bind hr (Ev.iten (by simp) (Ev.now _))
  · simp only [if_neg h0]
    by_cases hm1 : b = -1
    · subst hm1
      have e := h1 rfl
      have em : Int.tmod a (-1) = 0 := by rw [Int.tmod_neg, Int.tmod_one]
      refine ⟨fit (0 - a), by rw [if_pos rfl, Neg_f ha]; rfl, Ev.bind hr ?_⟩
      rw [e]
      by_cases hf : (fit (0 - a)).2 = 0
      · refine Ev.itep hf ?_
        simp only [em, if_true]
        exact Ev.now _
      · exact Ev.iten hf (Ev.now _)
    · have h2 := hk h0 hm1
      have hv := hv h2
      obtain ⟨t0, t1⟩ := tdiv_bd ha hm1
      rw [if_neg hm1, w64 (x := Int.tdiv a b) t0 t1]
      by_cases hm : Int.tmod a b = 0
      · refine ⟨(Int.tdiv a b, 0), by rw [if_pos hm], Ev.bind hr (Ev.itep h2 ?_)⟩
        rw [if_pos hm] at hv
        simp only [hm, hv, h2, if_true]
        exact Ev.now _
      · rw [if_neg hm] at hv
        have e : decide (Int.tmod a b < 0) = decide (a < 0) := by rw [decide_eq_decide]; exact tmod_sign hm
        rw [if_neg hm, e]
        by_cases hs : decide (a < 0) = decide (b < 0)
        · rw [if_pos hs] at hv
          refine ⟨(wrap64 (Int.tdiv a b + 1), 0), by rw [if_pos (by simp [hs])], Ev.bind hr (Ev.itep h2 ?_)⟩
          simp only [if_neg hm, hv, h2]
          exact Ev.now _
        · rw [if_neg hs] at hv
          refine ⟨(Int.tdiv a b, 0), by rw [if_neg (by simpa using hs)], Ev.bind hr (Ev.itep h2 ?_)⟩
          simp only [if_neg hm, hv, h2]
          rw [Int.sub_add_cancel, w64 t0 t1]
          exact Ev.now _
theorem Mod_both {a b : Int} : ∃ r, whole_Mod.f a b = some r ∧ carrefourref01_Mod.f a b = some r := by
  unfold whole_Mod.f carrefourref01_Mod.f
  by_cases h : b < 1
  · exact ⟨(0, 1), by rw [if_pos h], by rw [if_pos h]⟩
  · rw [if_neg h, if_neg (by omega)]
    by_cases hm : Int.tmod a b < 0
    · exact ⟨_, by rw [if_pos hm], by rw [if_pos hm]⟩
    · exact ⟨_, by rw [if_neg hm], by rw [if_neg hm]⟩
theorem WholeQuotients : carrefourlaw01_WholeQuotients.Pure := by
  intro a b ha hb
  have ha := i64_of_wf ha; have hb := i64_of_wf hb
  obtain ⟨r, h1, h2, _⟩ := Floor_both ha hb
  obtain ⟨s, h3, h4⟩ := Ceil_both ha hb
  obtain ⟨t, h5, h6⟩ := Mod_both (a := a) (b := b)
  refine Ev.rounds ?_
  unfold carrefourlaw01_WholeQuotients.f
  exact Ev.bindc h1 (Ev.bind h2 (Ev.bindc h3 (Ev.bind h4 (Ev.bindc h5 (Ev.bindc h6
    (Ev.bindc (same_true _) (Ev.itep rfl (Ev.bindc (same_true _) (Ev.itep rfl (Ev.bindc (same_true _) (Ev.itep rfl (Ev.bind awake_ev (Ev.now _)))))))))))))
end Go.Proofs.Ytalmfdfeoglikaa.Pure
