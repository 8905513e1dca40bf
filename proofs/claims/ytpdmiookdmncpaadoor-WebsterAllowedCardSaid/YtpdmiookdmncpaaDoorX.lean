/- The walks of functions of the program, laid by a program of this session over the translation: each '.calls' says that the Go function comes to what its Lean function tells. Conditions: as each theorem's head says. -/
import Derived.Test.YtpdmiookdmncpaaDoorX0
import Derived.Test.YtpdmiookdmncpaaDoorX1
import Derived.Test.YtpdmiookdmncpaaDoorX2
import Derived.Test.YtpdmiookdmncpaaDoorX3
import Derived.Test.YtpdmiookdmncpaaDoorX4
import Derived.Test.YtpdmiookdmncpaaDoorX5
import Derived.Test.YtpdmiookdmncpaaDoorX6
import Derived.Test.YtpdmiookdmncpaaDoorX7
import Derived.Test.YtpdmiookdmncpaaDoorX8
import Derived.Test.YtpdmiookdmncpaaDoorX9
import Derived.Test.YtpdmiookdmncpaaDoorX10
import Derived.Test.YtpdmiookdmncpaaDoorX11
import Derived.Test.YtpdmiookdmncpaaDoorX12
namespace Go.Proofs.YtpdmiookdmncpaaDoor.X
open Go.RowKit Go.Proofs.YtpdmiookdmncpaaDoorW.PrintWords Go.Proofs.YtpdmiookdmncpaaDoorW.PrintLast Go.Proofs.YtpdmiookdmncpaaDoorW.PrintMore
attribute [local go_sem] max2_int min2_int max_two min_two max_three min_three max_four min_four   -- for this text's walks alone
set_option linter.unusedVariables false
set_option linter.unusedSimpArgs false

end Go.Proofs.YtpdmiookdmncpaaDoor.X
