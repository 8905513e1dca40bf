/- Comparing products, and roots: what whole.Compare, whole.Sqrt and the document's come to.
   Conditions: as each theorem's head says. -/
import Derived.Test.YtcdaedhphdmnoaaGreatDoorP01c
namespace Go.Proofs.YtcdaedhphdmnoaaGreatDoor.Pure
set_option linter.unusedVariables false
open Go.RowKit Go.Proofs.YtcdaedhphdmnoaaGreatDoor.X Go.Proofs.YtcdaedhphdmnoaaGreatDoorW.PrintWords Go.Proofs.YtcdaedhphdmnoaaGreatDoorW.PrintLast Go.Proofs.YtcdaedhphdmnoaaGreatDoorW.PrintMore
end Go.Proofs.YtcdaedhphdmnoaaGreatDoor.Pure
