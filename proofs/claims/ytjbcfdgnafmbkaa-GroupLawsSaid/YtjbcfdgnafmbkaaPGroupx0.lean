/- Lean functions that answer as the Go functions do, and the walks that show it: written by a program of this session. -/
import Derived.Test.YtjbcfdgnafmbkaaProg
import Derived.Below
import Derived.Deep.Draws
import Derived.Deep.AppendLies
import Derived.Maps.AppendAt
import Derived.OwnWalk
import Derived.Laws.BytesArg
import Derived.Laws.MakeOwn
import Derived.Laws.OwnMore
import Derived.Deep.OwnRows
import Derived.Tactics
import Derived.Lib.ConvBytes
import Derived.Laws.Slices
import Derived.WalkKit
import Derived.KernelRfl
import Derived.RowKit3
import Derived.Deep.LoopGhost
import Derived.Deep.QuietTactic
import Derived.BigQuiet
import Derived.WideLaws
import Derived.Deep.DeepCutAuto
import Derived.Deep.CutBlock
import Derived.Deep.RegionHeld3
import Derived.Laws.Rows
import Derived.Lib.AppendStr
import Derived.ArgAppend
import Derived.Laws.IdiomCopy
import Derived.OrdersHeld
import Derived.Laws.BitsLemmas
import Derived.RowKit
import Derived.Test.YtjbcfdgnafmbkaaExtGroup
import Derived.Test.YtjbcfdgnafmbkaaWWords
import Derived.Test.YtjbcfdgnafmbkaaWLast
import Derived.Test.YtjbcfdgnafmbkaaWTab
import Derived.Test.YtjbcfdgnafmbkaaWFour
import Derived.Test.YtjbcfdgnafmbkaaWQPut
import Derived.Test.YtjbcfdgnafmbkaaWApart
import Derived.Test.YtjbcfdgnafmbkaaWArr
import Derived.Test.YtjbcfdgnafmbkaaWZeros
import Derived.Test.YtjbcfdgnafmbkaaWFoot
import Derived.Test.YtjbcfdgnafmbkaaWKept
import Derived.Test.YtjbcfdgnafmbkaaWShare
import Derived.Test.YtjbcfdgnafmbkaaWN
import Derived.Test.YtjbcfdgnafmbkaaWFootNe
import Derived.Test.YtjbcfdgnafmbkaaWAt
import Derived.Test.YtjbcfdgnafmbkaaWEqStruct
import Derived.Test.YtjbcfdgnafmbkaaWRepsOne
import Derived.Test.YtjbcfdgnafmbkaaWInv
import Derived.Test.YtjbcfdgnafmbkaaWInvWords
import Derived.Test.YtjbcfdgnafmbkaaWGuard
import Derived.Test.YtjbcfdgnafmbkaaWNEv
import Derived.Test.YtjbcfdgnafmbkaaWMore
namespace Go.Proofs.Ytjbcfdgnafmbkaa.PGroup
open Go.RowKit Go.Proofs.YtjbcfdgnafmbkaaW.PrintWords Go.Proofs.YtjbcfdgnafmbkaaW.PrintLast Go.Proofs.YtjbcfdgnafmbkaaW.PrintMore
attribute [local go_sem] max2_int min2_int max_two min_two max_three min_three max_four min_four   -- for this text's walks alone
set_option linter.unusedVariables false
set_option linter.unusedSimpArgs false



def errW : Option Int → Value
  | none => .nilIface
  | some c => .iface 0 (.int .i64 c)
theorem errW_none : errW none = .nilIface := rfl
theorem errW_some (c : Int) : errW (some c) = .iface 0 (.int .i64 c) := rfl

-- the values' own types

end Go.Proofs.Ytjbcfdgnafmbkaa.PGroup
