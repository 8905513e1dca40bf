/- The pure law FracProducts: any product and any quotient of two is the document's answer's, or there is none.
   Conditions: none beyond the kinds of the arguments. -/
import Derived.Test.YtjgnaccamakpdaaDoorP02w
namespace Go.Proofs.YtjgnaccamakpdaaDoor.Pure
set_option linter.unusedVariables false
open Go.RowKit Go.Proofs.YtjgnaccamakpdaaDoor.X Go.Proofs.YtjgnaccamakpdaaDoorW.PrintWords Go.Proofs.YtjgnaccamakpdaaDoorW.PrintLast
theorem FracProducts (a b c d : Int) (h0 : (Lit.int .i64 a).wf = true) (h1 : (Lit.int .i64 b).wf = true) (h2 : (Lit.int .i64 c).wf = true) (h3 : (Lit.int .i64 d).wf = true) : ∃ k, carrefourlaw02_FracProducts.f k a b c d = some true := by
  have h0 := i64_of_wf h0; have h1 := i64_of_wf h1; have h2 := i64_of_wf h2; have h3 := i64_of_wf h3
  refine Ev.rounds ?_
  unfold carrefourlaw02_FracProducts.f
  exact Ev.bind (Mul_ev' h0 h1 h2 h3) (Ev.bind (rMul2_ev h0 h1 h2 h3) (Ev.bind (Div_ev h0 h1 h2 h3) (Ev.bind (rDiv_ev h0 h1 h2 h3) (Ev.bindc (same_f _ _) (Ev.itep (decide_eq_true rfl) (Ev.bindc (same_f _ _) (Ev.itep (decide_eq_true rfl) awake02_ev)))))))
end Go.Proofs.YtjgnaccamakpdaaDoor.Pure
