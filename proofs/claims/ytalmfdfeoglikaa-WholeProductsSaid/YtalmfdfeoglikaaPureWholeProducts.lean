/- The pure law WholeProducts: the product of any two numbers is what the document tells, or it does not fit, for every input.
   Conditions: none beyond the kinds of the arguments. -/
import Derived.Test.YtalmfdfeoglikaaP01c
namespace Go.Proofs.Ytalmfdfeoglikaa.Pure
open Go.RowKit Go.Proofs.Ytalmfdfeoglikaa.X Go.Proofs.YtalmfdfeoglikaaW.PrintWords Go.Proofs.YtalmfdfeoglikaaW.PrintLast
theorem WholeProducts : carrefourlaw01_WholeProducts.Pure := by
  intro a b ha hb
  have ha := i64_of_wf ha; have hb := i64_of_wf hb
  refine Ev.rounds ?_
  unfold carrefourlaw01_WholeProducts.f
  exact Ev.bind (Mul_ev ha hb) (Ev.bind (rMul_ev ha hb) (Ev.bindc (same_true _) (Ev.itep rfl (Ev.bind awake_ev (Ev.now _)))))
end Go.Proofs.Ytalmfdfeoglikaa.Pure
