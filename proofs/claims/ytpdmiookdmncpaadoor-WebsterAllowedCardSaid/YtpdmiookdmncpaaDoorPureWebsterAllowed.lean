/- The pure law WebsterAllowed: which cycle is allowed, and how many are, is what the document tells, for any network's bounds.
   Conditions: none beyond the kinds of the arguments. -/
import Derived.Test.YtpdmiookdmncpaaDoorP12
namespace Go.Proofs.YtpdmiookdmncpaaDoor.Pure
set_option linter.unusedVariables false
open Go.RowKit Go.Proofs.YtpdmiookdmncpaaDoor.X Go.Proofs.YtpdmiookdmncpaaDoorW.PrintWords Go.Proofs.YtpdmiookdmncpaaDoorW.PrintLast
theorem WebsterAllowed (mn mx st pn pd : Int) (l5 : List (S55)) (l6 : List (S120)) (wo wi c : Int) {p0 p1 p2 p3 p4 p5 p6 p7 p8 : Prop} (h0 : p0) (h1 : p1) (h2 : p2) (h3 : p3) (h4 : p4) (h5 : p5) (h6 : p6) (h7 : p7) (h8 : p8) (hc : (Lit.int .i64 c).wf = true) :
    ∃ k, carrefourlaw12_WebsterAllowed.f k mn mx st pn pd l5 l6 wo wi c = some true := by
  have hc := i64_of_wf hc
  refine Ev.rounds ?_
  unfold carrefourlaw12_WebsterAllowed.f
  have aw : Ev (fun k => (carrefourlaw12_awake.f k).bind fun t => some t) true := Ev.bind awake12_ev (Ev.now _)
  have cnt : ∀ p : Int × Bool, Ev (fun k => (webster_Count.f mn mx st pn pd l5 l6 wo wi).bind fun t651 => ((carrefourref12_Count.f k mn mx st pn pd l5 l6 wo wi).bind fun t652 => (if t651 = t652 then ((carrefourlaw12_awake.f k).bind fun t653 => (some t653)) else (some false)))) true := fun _ =>
    Ev.bindc (Count_f ..) (Ev.bind (rCount_ev ..) (Ev.itep rfl aw))
  by_cases h : cyc mn mx st
  · obtain ⟨r, hr, nr⟩ := Allowed_f mn mx st pn pd l5 l6 wo wi c hc h
    obtain ⟨s, hs, ns⟩ := rAllowed_loop (pn := pn) (pd := pd) (l5 := l5) (l6 := l6) (wo := wo) (wi := wi) (c := c) h (mx - mn).toNat 0 mn (by simp) h.2.1 (.inl rfl) (by have := h.2.1; omega)
    obtain rfl := nr.uniq h.2.2.2 ns
    have hs' : Ev (fun k => carrefourref12_Allowed.f k mn mx st pn pd l5 l6 wo wi c) (r, decide (r ≥ c)) := by
      unfold carrefourref12_Allowed.f
      exact Ev.bindc (Cycles_f ..) (Ev.itep (by simpa using h) hs)
    exact Ev.bindc hr (Ev.bind hs' (Ev.itep rfl (Ev.itep (by simp) (cnt (r, true)))))
  · have hs' : Ev (fun k => carrefourref12_Allowed.f k mn mx st pn pd l5 l6 wo wi c) (0, false) := by
      unfold carrefourref12_Allowed.f
      exact Ev.bindc (Cycles_f ..) (Ev.iten (by simpa using h) (Ev.now _))
    exact Ev.bindc (Allowed_no mn mx st pn pd l5 l6 wo wi c h) (Ev.bind hs' (Ev.itep rfl (Ev.itep (by simp) (cnt (0, true)))))
end Go.Proofs.YtpdmiookdmncpaaDoor.Pure
