/- The walks of functions of the program, laid by a program of this session over the translation: each '.calls' says that the Go function comes to what its Lean function tells. Conditions: as each theorem's head says. -/
import Derived.Test.YtalmfdfeoglikaaDoorX0
import Derived.Test.YtalmfdfeoglikaaDoorX1
import Derived.Test.YtalmfdfeoglikaaDoorX2
import Derived.Test.YtalmfdfeoglikaaDoorX3
import Derived.Test.YtalmfdfeoglikaaDoorX4
import Derived.Test.YtalmfdfeoglikaaDoorX5
import Derived.Test.YtalmfdfeoglikaaDoorX6
import Derived.Test.YtalmfdfeoglikaaDoorX7
import Derived.Test.YtalmfdfeoglikaaDoorX8
namespace Go.Proofs.YtalmfdfeoglikaaDoor.X
open Go.RowKit Go.Proofs.YtalmfdfeoglikaaDoorW.PrintWords Go.Proofs.YtalmfdfeoglikaaDoorW.PrintLast Go.Proofs.YtalmfdfeoglikaaDoorW.PrintMore
attribute [local go_sem] max2_int min2_int max_two min_two max_three min_three max_four min_four   -- for this text's walks alone
set_option linter.unusedVariables false
set_option linter.unusedSimpArgs false

end Go.Proofs.YtalmfdfeoglikaaDoor.X
