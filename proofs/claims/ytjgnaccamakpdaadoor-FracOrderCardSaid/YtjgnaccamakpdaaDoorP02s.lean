/- Quotients of rows of parts, and fractions in lowest terms: what the functions of package carrefourref02 come to.
   Conditions: as each theorem's head says. -/
import Derived.Test.YtjgnaccamakpdaaDoorP02r
namespace Go.Proofs.YtjgnaccamakpdaaDoor.Pure
set_option linter.unusedVariables false
open Go.RowKit Go.Proofs.YtjgnaccamakpdaaDoor.X Go.Proofs.YtjgnaccamakpdaaDoorW.PrintWords Go.Proofs.YtjgnaccamakpdaaDoorW.PrintLast Go.Proofs.YtjgnaccamakpdaaDoorW.PrintMore
end Go.Proofs.YtjgnaccamakpdaaDoor.Pure
