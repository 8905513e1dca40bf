/- What the functions of packages whole and carrefourref01 come to, by numbers alone: products, quotients, comparisons, roots.
   Conditions: as each theorem's head says. -/
import Derived.Test.YtpdmiookdmncpaaDoorP01b
namespace Go.Proofs.YtpdmiookdmncpaaDoor.Pure
set_option linter.unusedVariables false
open Go.RowKit Go.Proofs.YtpdmiookdmncpaaDoor.X Go.Proofs.YtpdmiookdmncpaaDoorW.PrintWords Go.Proofs.YtpdmiookdmncpaaDoorW.PrintLast Go.Proofs.YtpdmiookdmncpaaDoorW.PrintMore
end Go.Proofs.YtpdmiookdmncpaaDoor.Pure
