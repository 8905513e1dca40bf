/- Comparing products, and roots: what whole.Compare, whole.Sqrt and the document's come to.
   Conditions: as each theorem's head says. -/
import Derived.Test.YtfhokgkpcphmlaaGreatDoorP01c
namespace Go.Proofs.YtfhokgkpcphmlaaGreatDoor.Pure
set_option linter.unusedVariables false
open Go.RowKit Go.Proofs.YtfhokgkpcphmlaaGreatDoor.X Go.Proofs.YtfhokgkpcphmlaaGreatDoorW.PrintWords Go.Proofs.YtfhokgkpcphmlaaGreatDoorW.PrintLast Go.Proofs.YtfhokgkpcphmlaaGreatDoorW.PrintMore
end Go.Proofs.YtfhokgkpcphmlaaGreatDoor.Pure
