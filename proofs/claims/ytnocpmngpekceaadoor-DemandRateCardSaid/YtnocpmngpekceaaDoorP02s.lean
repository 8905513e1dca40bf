/- Quotients of rows of parts, and fractions in lowest terms: what the functions of package carrefourref02 come to.
   Conditions: as each theorem's head says. -/
import Derived.Test.YtnocpmngpekceaaDoorP02r
namespace Go.Proofs.YtnocpmngpekceaaDoor.Pure
set_option linter.unusedVariables false
open Go.RowKit Go.Proofs.YtnocpmngpekceaaDoor.X Go.Proofs.YtnocpmngpekceaaDoorW.PrintWords Go.Proofs.YtnocpmngpekceaaDoorW.PrintLast Go.Proofs.YtnocpmngpekceaaDoorW.PrintMore

end Go.Proofs.YtnocpmngpekceaaDoor.Pure
