/- The pure law WholeSums: sums, differences and opposites are what the document tells, or do not fit, for every input.
   Conditions: none beyond the kinds of the arguments. -/
import Derived.Test.YtalmfdfeoglikaaP01c
namespace Go.Proofs.Ytalmfdfeoglikaa.Pure
open Go.RowKit Go.Proofs.Ytalmfdfeoglikaa.X Go.Proofs.YtalmfdfeoglikaaW.PrintWords Go.Proofs.YtalmfdfeoglikaaW.PrintLast
theorem WholeSums : carrefourlaw01_WholeSums.Pure := by
  intro a b ha hb
  have ha := i64_of_wf ha; have hb := i64_of_wf hb
  have h0 : I64 0 := ⟨by omega, by omega⟩
  refine Ev.rounds ?_
  unfold carrefourlaw01_WholeSums.f
  exact Ev.bindc (Add_f ha hb) (Ev.bindc (rAdd_f ha hb) (Ev.bindc (Sub_f ha hb) (Ev.bindc (rSub_f ha hb) (Ev.bindc (Neg_f ha) (Ev.bindc (rSub_f h0 ha)
    (Ev.bindc (same_true _) (Ev.itep rfl (Ev.bindc (same_true _) (Ev.itep rfl (Ev.bindc (same_true _) (Ev.itep rfl (Ev.bind awake_ev (Ev.now _)))))))))))))
end Go.Proofs.Ytalmfdfeoglikaa.Pure
