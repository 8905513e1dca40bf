/- The pure law WebsterNext: an allowed cycle is allowed itself, lies between the bounds, a number of steps above the least one, and none allowed is nearer.
   Conditions: none beyond the kinds of the arguments. -/
import Derived.Test.YtpdmiookdmncpaaDoorP12
namespace Go.Proofs.YtpdmiookdmncpaaDoor.Pure
set_option linter.unusedVariables false
open Go.RowKit Go.Proofs.YtpdmiookdmncpaaDoor.X Go.Proofs.YtpdmiookdmncpaaDoorW.PrintWords Go.Proofs.YtpdmiookdmncpaaDoorW.PrintLast
theorem WebsterNext (mn mx st pn pd : Int) (l5 : List (S55)) (l6 : List (S120)) (wo wi c : Int) {p3 p4 p5 p6 p7 p8 : Prop} (h0 : (Lit.int .i64 mn).wf = true) (h1 : (Lit.int .i64 mx).wf = true) (h2 : (Lit.int .i64 st).wf = true) (h3 : p3) (h4 : p4) (h5 : p5) (h6 : p6) (h7 : p7) (h8 : p8) (hc : (Lit.int .i64 c).wf = true) :
    ∃ k, carrefourlaw12_WebsterNext.f k mn mx st pn pd l5 l6 wo wi c = some true := by
  have hc := i64_of_wf hc; have h2 := i64_of_wf h2
  refine Ev.rounds ?_
  unfold carrefourlaw12_WebsterNext.f
  have aw : Ev (fun k => (carrefourlaw12_awake.f k).bind fun t => some t) true := Ev.bind awake12_ev (Ev.now _)
  by_cases h : cyc mn mx st
  · obtain ⟨r, hr, nr⟩ := Allowed_f mn mx st pn pd l5 l6 wo wi c hc h
    have h' := h
    obtain ⟨c1, c2, c3, c4⟩ := h'
    obtain ⟨i, hi⟩ := nr.at_
    have hi0 : 0 ≤ (i : Int) * st := Int.mul_nonneg (by omega) (by omega)
    have hle := nr.le
    obtain ⟨s, hs, ns⟩ := Allowed_f mn mx st pn pd l5 l6 wo wi r ⟨by omega, by omega⟩ h
    have nself : Nxt mn mx st r r := ⟨⟨i, hi⟩, hle, .inr (by omega), .inl (by omega)⟩
    obtain rfl := ns.uniq c4 nself
    have hm : Int.tmod (wrap64 (s - mn)) st = 0 := by
      rw [w64 (by omega) (by omega), hi]
      have : mn + (i : Int) * st - mn = (i : Int) * st := by omega
      rw [this, Int.tmod_eq_emod_of_nonneg hi0, Int.mul_emod_left]
    refine Ev.bindc hr (Ev.bindc (Cycles_f ..) (Ev.itep (by simpa using h) (Ev.bindc hs (Ev.itep rfl (Ev.itep (by simp) (Ev.iten (by dsimp only; omega) (Ev.iten (by dsimp only; omega) (Ev.iten (by omega) (Ev.itep hm ?_)))))))))
    have e : (decide (s ≥ c) != decide (s ≥ c)) = false := by simp
    simp only [e]
    have low := nr.low; have high := nr.high
    by_cases hge : s ≥ c
    · rw [decide_eq_true hge]
      refine Ev.step (f := fun k => if s = mn then ((carrefourlaw12_awake.f k).bind fun t719 => (some t719)) else (if (wrap64 (s - st)) < c then ((carrefourlaw12_awake.f k).bind fun t720 => (some t720)) else (some false))) (fun k => ?_) ?_
      · simp only [carrefourlaw12_WebsterNext.j0]
        rw [if_neg (by decide), if_pos trivial]
      · by_cases hm2 : s = mn
        · exact Ev.itep hm2 aw
        · refine Ev.iten hm2 (Ev.itep ?_ aw)
          rw [w64 (by have := h2.2; omega) (by omega)]
          omega
    · rw [decide_eq_false hge]
      refine Ev.step (f := fun k => if st > wrap64 (mx - s) then ((carrefourlaw12_awake.f k).bind fun t721 => (some t721)) else (some false)) (fun k => ?_) ?_
      · simp only [carrefourlaw12_WebsterNext.j0]
        rw [if_neg (by decide), if_neg (by decide)]
      · refine Ev.itep ?_ aw
        rw [w64 (by omega) (by omega)]
        omega
  · refine Ev.bindc (Allowed_no mn mx st pn pd l5 l6 wo wi c h) (Ev.bindc (Cycles_f ..) (Ev.iten (by simpa using h) (Ev.itep rfl (Ev.iten (by decide) ?_))))
    have := Count_f mn mx st pn pd l5 l6 wo wi
    rw [if_neg h] at this
    exact Ev.bindc this (Ev.itep rfl aw)
end Go.Proofs.YtpdmiookdmncpaaDoor.Pure
