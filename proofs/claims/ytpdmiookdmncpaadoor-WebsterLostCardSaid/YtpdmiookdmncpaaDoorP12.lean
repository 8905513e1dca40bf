/- Which cycles are allowed: what package webster and the document's answer come to, by numbers alone.
   Conditions: as each theorem's head says. -/
import Derived.Test.YtpdmiookdmncpaaDoorP01g
namespace Go.Proofs.YtpdmiookdmncpaaDoor.Pure
set_option linter.unusedVariables false
open Go.RowKit Go.Proofs.YtpdmiookdmncpaaDoor.X Go.Proofs.YtpdmiookdmncpaaDoorW.PrintWords Go.Proofs.YtpdmiookdmncpaaDoorW.PrintLast Go.Proofs.YtpdmiookdmncpaaDoorW.PrintMore

/-- May a network have cycles? -/
def cyc (mn mx st : Int) : Prop := 1 ≤ mn ∧ mn ≤ mx ∧ mx ≤ 6000 ∧ 1 ≤ st
instance (mn mx st : Int) : Decidable (cyc mn mx st) := by unfold cyc; exact inferInstance
theorem awake12_ev : Ev (fun k => carrefourlaw12_awake.f k) true := Ev.of carrefourlaw12_awake.mono (k := 300) (by decide +kernel)
end Go.Proofs.YtpdmiookdmncpaaDoor.Pure
