/- The walks of functions of the program, laid by a program of this session over the translation: each '.calls' says that the Go function comes to what its Lean function tells. Conditions: as each theorem's head says. -/
import Derived.Test.YtalmfdfeoglikaaProg
import Derived.Below
import Derived.Deep.Draws
import Derived.Deep.AppendLies
import Derived.Maps.AppendAt
import Derived.OwnWalk
import Derived.Laws.BytesArg
import Derived.Laws.MakeOwn
import Derived.Laws.OwnMore
import Derived.Deep.OwnRows
import Derived.Tactics
import Derived.Lib.ConvBytes
import Derived.Laws.Slices
import Derived.WalkKit
import Derived.KernelRfl
import Derived.RowKit3
import Derived.Deep.LoopGhost
import Derived.Deep.QuietTactic
import Derived.BigQuiet
import Derived.WideLaws
import Derived.Deep.DeepCutAuto
import Derived.Deep.CutBlock
import Derived.Deep.RegionHeld3
import Derived.Laws.Rows
import Derived.Lib.AppendStr
import Derived.ArgAppend
import Derived.Laws.IdiomCopy
import Derived.OrdersHeld
import Derived.Laws.BitsLemmas
import Derived.RowKit
import Derived.Test.YtalmfdfeoglikaaXBase
import Derived.Test.YtalmfdfeoglikaaWWords
import Derived.Test.YtalmfdfeoglikaaWLast
import Derived.Test.YtalmfdfeoglikaaWTab
import Derived.Test.YtalmfdfeoglikaaWFour
import Derived.Test.YtalmfdfeoglikaaWQPut
import Derived.Test.YtalmfdfeoglikaaWApart
import Derived.Test.YtalmfdfeoglikaaWArr
import Derived.Test.YtalmfdfeoglikaaWZeros
import Derived.Test.YtalmfdfeoglikaaWFoot
import Derived.Test.YtalmfdfeoglikaaWKept
import Derived.Test.YtalmfdfeoglikaaWShare
import Derived.Test.YtalmfdfeoglikaaWN
import Derived.Test.YtalmfdfeoglikaaWFootNe
import Derived.Test.YtalmfdfeoglikaaWAt
import Derived.Test.YtalmfdfeoglikaaWEqStruct
import Derived.Test.YtalmfdfeoglikaaWRepsOne
import Derived.Test.YtalmfdfeoglikaaWInv
import Derived.Test.YtalmfdfeoglikaaWInvWords
import Derived.Test.YtalmfdfeoglikaaWGuard
import Derived.Test.YtalmfdfeoglikaaWNEv
import Derived.Test.YtalmfdfeoglikaaWMore
namespace Go.Proofs.Ytalmfdfeoglikaa.X
open Go.RowKit Go.Proofs.YtalmfdfeoglikaaW.PrintWords Go.Proofs.YtalmfdfeoglikaaW.PrintLast Go.Proofs.YtalmfdfeoglikaaW.PrintMore
attribute [local go_sem] max2_int min2_int max_two min_two max_three min_three max_four min_four   -- for this text's walks alone
set_option linter.unusedVariables false
set_option linter.unusedSimpArgs false



def errW : Option Int → Value
  | none => .nilIface
  | some c => .iface 0 (.int .i64 c)
theorem errW_none : errW none = .nilIface := rfl
theorem errW_some (c : Int) : errW (some c) = .iface 0 (.int .i64 c) := rfl

theorem info35 : (Try.prog.info? 35).map (fun i => (i.zero, i.size, i.bytes)) = some (some (.int .u64 0), 1, 8) := by kernel_rfl
-- the values' own types

end Go.Proofs.Ytalmfdfeoglikaa.X
