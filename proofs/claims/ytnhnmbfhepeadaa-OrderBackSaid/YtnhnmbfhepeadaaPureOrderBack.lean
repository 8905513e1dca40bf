/- The pure law OrderBack: place and order undo one another, and the next one's place is one more.
   Conditions: none beyond the kinds of the arguments. -/
import Derived.Test.YtnhnmbfhepeadaaP13f
namespace Go.Proofs.Ytnhnmbfhepeadaa.Pure
set_option linter.unusedVariables false
open Go.RowKit Go.Proofs.Ytnhnmbfhepeadaa.X Go.Proofs.YtnhnmbfhepeadaaW.PrintWords Go.Proofs.YtnhnmbfhepeadaaW.PrintLast
theorem OrderBack (n k : Int) (h0 : (Lit.int .i64 n).wf = true) (h1 : (Lit.int .i64 k).wf = true) : ∃ q, carrefourlaw13_OrderBack.f q n k = some true := by
  suffices h : Ev (fun q => carrefourlaw13_OrderBack.f q n k) true by obtain ⟨K, h⟩ := h; exact ⟨K, h K (Nat.le_refl _)⟩
  unfold carrefourlaw13_OrderBack.f
  have aw : Ev (fun q => (carrefourlaw13_awake.f q).bind fun t => some t) true := Ev.bind awake13_ev (Ev.now _)
  refine Ev.bind (Nth_ev n k) ?_
  have out : ¬ (0 ≤ k ∧ k < cnt n) → Ev (fun q => carrefourlaw13_OrderBack.j0 q n k (nthZ n k) true) true := by
    intro h
    have e : nthZ n k = [] := by unfold nthZ; rw [if_neg h]
    rw [e]
    refine Ev.step (fun q => ?_) aw
    simp only [carrefourlaw13_OrderBack.j0]
    rw [if_pos trivial, if_pos (by simp)]
  by_cases a : k < 0
  · exact Ev.itep a (out (by omega))
  · refine Ev.iten a (Ev.bind (Count_ev n) ?_)
    by_cases b : k ≥ cnt n
    · rw [decide_eq_true b]; exact out (by omega)
    · rw [decide_eq_false b]
      obtain ⟨n0, n8⟩ := cnt_in (n := n) (by omega)
      have hc := cnt_toNat n0 n8
      obtain ⟨m, rfl⟩ := Int.eq_ofNat_of_zero_le n0
      obtain ⟨u, rfl⟩ := Int.eq_ofNat_of_zero_le (Int.not_lt.1 a)
      rw [Int.toNat_natCast] at hc
      have hs := nth_spec m (up m) u (up_Up _) (up_length _) (by omega)
      have e : nthZ (m : Int) (u : Int) = nth m (up m) u := by unfold nthZ; rw [if_pos (by omega), Int.toNat_natCast, Int.toNat_natCast]
      have hl : (nth m (up m) u).length = m := by rw [hs.1.length_eq, up_length]
      have hr : rtB (nth m (up m) u) = true := rtB_iff.2 ⟨by omega, by rw [hl]; exact hs.1⟩
      have hf := fac_le8 (m := m) (by omega)
      rw [e]
      generalize nth m (up m) u = p at *
      subst hl
      obtain ⟨hp, hk⟩ := hs
      have ek : rankZ p = (u : Int) := by unfold rankZ; rw [if_pos hr, hk]
      have j2 : Ev (fun q => carrefourlaw13_OrderBack.j2 q p false) true := by
        have hr2 := turn_right hr
        have t1 : turnZ p = turn p := by unfold turnZ; rw [if_pos hr]
        have t2 : turnZ (turn p) = p := by unfold turnZ; rw [if_pos hr2, turn_turn hr]
        have H : Ev (fun q => (order_Turned.f q p).bind fun t157 => ((order_Turned.f q t157).bind fun t160 => ((carrefourref13_Same.f q t160 p).bind fun t163 => (if t163 = true then ((carrefourlaw13_awake.f q).bind fun t164 => (some t164)) else (some false))))) true := by
          refine Ev.bind (Turned_ev p) ?_
          rw [t1]
          refine Ev.bind (Turned_ev (turn p)) ?_
          rw [t2]
          exact Ev.bind (Same_ev p p (by omega)) (Ev.itep (decide_eq_true rfl) aw)
        refine Ev.step (fun q => ?_) H
        simp only [carrefourlaw13_OrderBack.j2]
        rw [if_neg (by decide)]
      have j1 : Ev (fun q => carrefourlaw13_OrderBack.j1 q (p.length : Int) (u : Int) p false) true := by
        have hw : wrap64 ((fac p.length : Int) - 1) = ((fac p.length : Nat) : Int) - 1 := w64 (by omega) (by omega)
        have hd : decide ((u : Int) < (fac p.length : Int) - 1) = decide (u + 1 < fac p.length) := by rw [decide_eq_decide]; omega
        have H : Ev (fun q => (order_Next.f q p).bind fun bt151 => ((order_Count.f q (p.length : Int)).bind fun t155 => (if (bt151.2 != (decide ((u : Int) < (wrap64 (t155 - 1))))) = true then (carrefourlaw13_OrderBack.j2 q p true) else (if bt151.2 = true then ((order_Rank.f q bt151.1).bind fun t156 => (carrefourlaw13_OrderBack.j2 q p (t156 != (wrap64 ((u : Int) + 1))))) else (carrefourlaw13_OrderBack.j2 q p false))))) true := by
          refine Ev.bind (Next_ev p) (Ev.bind (Count_ev _) ?_)
          rw [hc, hw, hd]
          clear hw hd
          by_cases hlt : u + 1 < fac p.length
          · have en : nextZ p = (nth p.length (up p.length) (u + 1), true) := by unfold nextZ; rw [if_pos ⟨hr, by omega⟩, hk]
            have hs2 := nth_spec p.length (up p.length) (u + 1) (up_Up _) (up_length _) hlt
            have hl2 : (nth p.length (up p.length) (u + 1)).length = p.length := by rw [hs2.1.length_eq, up_length]
            have hr2 : rtB (nth p.length (up p.length) (u + 1)) = true := rtB_iff.2 ⟨by omega, by rw [hl2]; exact hs2.1⟩
            have ek2 : rankZ (nth p.length (up p.length) (u + 1)) = ((u + 1 : Nat) : Int) := by unfold rankZ; rw [if_pos hr2, hs2.2]
            rw [en, decide_eq_true hlt]
            refine Ev.iten (by simp) (Ev.itep rfl (Ev.bind (Rank_ev _) ?_))
            have hw2 : wrap64 ((u : Int) + 1) = ((u + 1 : Nat) : Int) := by clear ek ek2 hk; rw [w64 (by omega) (by omega)]; rfl
            show Ev (fun q => carrefourlaw13_OrderBack.j2 q p (rankZ (nth p.length (up p.length) (u + 1)) != wrap64 ((u : Int) + 1))) true
            rw [ek2, hw2, bne_self_eq_false]
            exact j2
          · have en : nextZ p = ([], false) := by unfold nextZ; rw [if_neg (by omega)]
            rw [en, decide_eq_false hlt]
            exact Ev.iten (by decide) (Ev.iten (by decide) j2)
        refine Ev.step (fun q => ?_) H
        simp only [carrefourlaw13_OrderBack.j1]
        rw [if_neg (by decide)]
      have H : Ev (fun q => (carrefourref13_Right.f q p).bind fun t149 => (if t149 = true then (if (p.length : Int) = (p.length : Int) then ((order_Rank.f q p).bind fun t150 => (carrefourlaw13_OrderBack.j1 q (p.length : Int) (u : Int) p (t150 != (u : Int)))) else (carrefourlaw13_OrderBack.j1 q (p.length : Int) (u : Int) p true)) else (carrefourlaw13_OrderBack.j1 q (p.length : Int) (u : Int) p true))) true := by
        refine Ev.bind (Right_ev p) (Ev.itep hr (Ev.itep rfl (Ev.bind (Rank_ev p) ?_)))
        rw [ek, bne_self_eq_false]
        exact j1
      refine Ev.step (fun q => ?_) H
      simp only [carrefourlaw13_OrderBack.j0]
      rw [if_neg (by decide)]
end Go.Proofs.Ytnhnmbfhepeadaa.Pure
