/- The pure law WholeDivisors: the greatest common divisor, by halves, and the least common multiple are what the document tells, or do not fit, for every input.
   Conditions: none beyond the kinds of the arguments. -/
import Derived.Test.YtalmfdfeoglikaaDoorP01g
namespace Go.Proofs.YtalmfdfeoglikaaDoor.Pure
open Go.RowKit Go.Proofs.YtalmfdfeoglikaaDoor.X Go.Proofs.YtalmfdfeoglikaaDoorW.PrintWords Go.Proofs.YtalmfdfeoglikaaDoorW.PrintLast
theorem WholeDivisors : carrefourlaw01_WholeDivisors.Pure := by
  intro a b ha hb
  have ha := i64_of_wf ha; have hb := i64_of_wf hb
  refine Ev.rounds ?_
  unfold carrefourlaw01_WholeDivisors.f
  exact Ev.bind (Gcd_ev ha hb) (Ev.bind (rGcd_ev ha hb) (Ev.bind (Lcm_ev ha hb) (Ev.bind (rLcm_ev ha hb)
    (Ev.bindc (same_true _) (Ev.itep rfl (Ev.bindc (same_true _) (Ev.itep rfl (Ev.bind awake_ev (Ev.now _)))))))))
end Go.Proofs.YtalmfdfeoglikaaDoor.Pure
