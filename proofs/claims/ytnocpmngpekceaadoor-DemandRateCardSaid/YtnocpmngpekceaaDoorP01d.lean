/- Comparing products, and roots: what whole.Compare, whole.Sqrt and the document's come to.
   Conditions: as each theorem's head says. -/
import Derived.Test.YtnocpmngpekceaaDoorP01c
namespace Go.Proofs.YtnocpmngpekceaaDoor.Pure
set_option linter.unusedVariables false
open Go.RowKit Go.Proofs.YtnocpmngpekceaaDoor.X Go.Proofs.YtnocpmngpekceaaDoorW.PrintWords Go.Proofs.YtnocpmngpekceaaDoorW.PrintLast Go.Proofs.YtnocpmngpekceaaDoorW.PrintMore
end Go.Proofs.YtnocpmngpekceaaDoor.Pure
