/- The pure law FracOf: the fraction of any two numbers is the document's answer's, or there is none; and which fractions are right.
   Conditions: none beyond the kinds of the arguments. -/
import Derived.Test.YtjgnaccamakpdaaDoorP02w
namespace Go.Proofs.YtjgnaccamakpdaaDoor.Pure
set_option linter.unusedVariables false
open Go.RowKit Go.Proofs.YtjgnaccamakpdaaDoor.X Go.Proofs.YtjgnaccamakpdaaDoorW.PrintWords Go.Proofs.YtjgnaccamakpdaaDoorW.PrintLast
theorem ofS_fits {n d : Int} (h : (ofS n d).2.2 = 0) : I64 (ofS n d).1 ∧ I64 (ofS n d).2.1 ∧ rt (ofS n d).1 (ofS n d).2.1 := by
  unfold ofS at h ⊢
  by_cases h0 : d = 0
  · rw [if_pos h0] at h; exact absurd h (by decide)
  · rw [if_neg h0] at h ⊢
    obtain ⟨f1, f2, f3, _⟩ := lowZ_fits (by omega) h
    exact ⟨f1, f2, f3⟩
theorem FracOf (n d : Int) (h0 : (Lit.int .i64 n).wf = true) (h1 : (Lit.int .i64 d).wf = true) : ∃ k, carrefourlaw02_FracOf.f k n d = some true := by
  have h0 := i64_of_wf h0; have h1 := i64_of_wf h1
  refine Ev.rounds ?_
  unfold carrefourlaw02_FracOf.f
  refine Ev.bind (Of_ev h0 h1) (Ev.bind (rOf_ev h0 h1) (Ev.bindc (same_f _ _) (Ev.itep (decide_eq_true rfl) (Ev.bind (Right_ev h0 h1) (Ev.bind (rRight_ev h0 h1) (Ev.itep (by simp) ?_))))))
  by_cases h : (ofS n d).2.2 = 0
  · obtain ⟨f1, f2, f3⟩ := ofS_fits h
    exact Ev.itep h (Ev.bind (Right_ev f1 f2) (Ev.itep (decide_eq_true f3) awake02_ev))
  · exact Ev.iten h awake02_ev
end Go.Proofs.YtjgnaccamakpdaaDoor.Pure
