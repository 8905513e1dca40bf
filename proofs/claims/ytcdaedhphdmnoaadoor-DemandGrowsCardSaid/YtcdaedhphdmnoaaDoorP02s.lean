/- Quotients of rows of parts, and fractions in lowest terms: what the functions of package carrefourref02 come to.
   Conditions: as each theorem's head says. -/
import Derived.Test.YtcdaedhphdmnoaaDoorP02r
namespace Go.Proofs.YtcdaedhphdmnoaaDoor.Pure
set_option linter.unusedVariables false
open Go.RowKit Go.Proofs.YtcdaedhphdmnoaaDoor.X Go.Proofs.YtcdaedhphdmnoaaDoorW.PrintWords Go.Proofs.YtcdaedhphdmnoaaDoorW.PrintLast Go.Proofs.YtcdaedhphdmnoaaDoorW.PrintMore

end Go.Proofs.YtcdaedhphdmnoaaDoor.Pure
