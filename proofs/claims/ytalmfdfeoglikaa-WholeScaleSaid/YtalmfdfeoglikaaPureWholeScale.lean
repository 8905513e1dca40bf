/- The pure law WholeScale: the product by a third number, rounded down, is what the document's own long division tells, for every input.
   Conditions: none beyond the kinds of the arguments. -/
import Derived.Test.YtalmfdfeoglikaaP01c
namespace Go.Proofs.Ytalmfdfeoglikaa.Pure
open Go.RowKit Go.Proofs.Ytalmfdfeoglikaa.X Go.Proofs.YtalmfdfeoglikaaW.PrintWords Go.Proofs.YtalmfdfeoglikaaW.PrintLast
theorem WholeScale : carrefourlaw01_WholeScale.Pure := by
  intro a b c ha hb hc
  have ha := i64_of_wf ha; have hb := i64_of_wf hb; have hc := i64_of_wf hc
  refine Ev.rounds ?_
  unfold carrefourlaw01_WholeScale.f
  exact Ev.bind (Scale_ev ha hb hc) (Ev.bind (rScale_ev ha hb hc) (Ev.bindc (same_true _) (Ev.itep rfl (Ev.bind awake_ev (Ev.now _)))))
end Go.Proofs.Ytalmfdfeoglikaa.Pure
