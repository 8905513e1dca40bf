/- The pure law FracOrder: how any two fractions are to one another, what they are rounded, and as text, is what the document tells.
   Conditions: none beyond the kinds of the arguments. -/
import Derived.Test.YtjgnaccamakpdaaDoorP02y
namespace Go.Proofs.YtjgnaccamakpdaaDoor.Pure
set_option linter.unusedVariables false
open Go.RowKit Go.Proofs.YtjgnaccamakpdaaDoor.X Go.Proofs.YtjgnaccamakpdaaDoorW.PrintWords Go.Proofs.YtjgnaccamakpdaaDoorW.PrintLast
theorem sgn_swap (x y : Int) : sgn x y = wrap64 (-sgn y x) := by
  unfold sgn
  by_cases h : x < y
  · rw [if_pos h, if_neg (by omega), if_pos (by omega), w64 (by omega) (by omega)]
  · rw [if_neg h]
    by_cases h2 : x > y
    · rw [if_pos h2, if_pos (by omega), w64 (by omega) (by omega)]; rfl
    · rw [if_neg h2, if_neg (by omega), if_neg (by omega), w64 (by omega) (by omega)]; rfl
theorem FracOrder (a b c d : Int) (h0 : (Lit.int .i64 a).wf = true) (h1 : (Lit.int .i64 b).wf = true) (h2 : (Lit.int .i64 c).wf = true) (h3 : (Lit.int .i64 d).wf = true) : ∃ k, carrefourlaw02_FracOrder.f k a b c d = some true := by
  have h0 := i64_of_wf h0; have h1 := i64_of_wf h1; have h2 := i64_of_wf h2; have h3 := i64_of_wf h3
  refine Ev.rounds ?_
  unfold carrefourlaw02_FracOrder.f
  exact Ev.bind (fCmp_ev h0 h1 h2 h3) (Ev.bind (rCmp_ev h0 h1 h2 h3) (Ev.itep rfl (Ev.bind (fCmp_ev h2 h3 h0 h1) (Ev.itep (sgn_swap _ _) (Ev.bind (fFloor_ev h0 h1) (Ev.bind (rFloor_ev h0 h1) (Ev.itep rfl (Ev.bind (fCeil_ev h0 h1) (Ev.bind (rCeil_ev h0 h1) (Ev.itep rfl (Ev.bind (Print_ev h0 h1) (Ev.bind (rPrint_ev h0 h1) (Ev.itep rfl awake02_ev)))))))))))))
end Go.Proofs.YtjgnaccamakpdaaDoor.Pure
