/- The pure law WebsterCycle: the cycle that the formula asks for is the document's answer's, for every lost time and every sum.
   Conditions: none beyond the kinds of the arguments. -/
import Derived.Test.YtpdmiookdmncpaaDoorP12c
namespace Go.Proofs.YtpdmiookdmncpaaDoor.Pure
set_option linter.unusedVariables false
open Go.RowKit Go.Proofs.YtpdmiookdmncpaaDoor.X Go.Proofs.YtpdmiookdmncpaaDoorW.PrintWords Go.Proofs.YtpdmiookdmncpaaDoorW.PrintLast
theorem WebsterCycle (lost a b : Int) (h0 : (Lit.int .i64 lost).wf = true) (h1 : (Lit.int .i64 a).wf = true) (h2 : (Lit.int .i64 b).wf = true) : ∃ k, carrefourlaw12_WebsterCycle.f k lost a b = some true := by
  have h0 := i64_of_wf h0; have h1 := i64_of_wf h1; have h2 := i64_of_wf h2
  refine Ev.rounds ?_
  unfold carrefourlaw12_WebsterCycle.f
  refine Ev.bind (Cycle_ev h0 h1 h2) (Ev.bind (rCycle_ev h0 h1 h2) (Ev.itep rfl (Ev.itep (by simp) (Ev.itep rfl (Ev.bind awake12_ev (Ev.now _))))))
end Go.Proofs.YtpdmiookdmncpaaDoor.Pure
