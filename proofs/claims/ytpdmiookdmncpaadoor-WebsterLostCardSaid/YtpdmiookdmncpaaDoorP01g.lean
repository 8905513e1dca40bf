/- Greatest common divisors, least common multiples, quotients: what the functions of packages whole and carrefourref01 come to.
   Conditions: as each theorem's head says. -/
import Derived.Test.YtpdmiookdmncpaaDoorP01c
import Derived.Test.YtpdmiookdmncpaaDoorG0
namespace Go.Proofs.YtpdmiookdmncpaaDoor.Pure
set_option linter.unusedVariables false
open Go.RowKit Go.Proofs.YtpdmiookdmncpaaDoor.X Go.Proofs.YtpdmiookdmncpaaDoorW.PrintWords Go.Proofs.YtpdmiookdmncpaaDoorW.PrintLast Go.Proofs.YtpdmiookdmncpaaDoorW.PrintMore
end Go.Proofs.YtpdmiookdmncpaaDoor.Pure
