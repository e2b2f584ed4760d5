/- Lean functions that answer as the Go functions do, and the walks that show it: written by a program of this session. -/
import Derived.Test.YtjbcfdgnafmbkaaDoorProg
import Derived.Below
import Derived.Deep.Draws
import Derived.Deep.AppendLies
import Derived.Maps.AppendAt
import Derived.OwnWalk
import Derived.Laws.BytesArg
import Derived.Laws.MakeOwn
import Derived.Laws.OwnMore
import Derived.Deep.OwnRows
import Derived.Tactics
import Derived.Lib.ConvBytes
import Derived.Laws.Slices
import Derived.WalkKit
import Derived.KernelRfl
import Derived.RowKit3
import Derived.Deep.LoopGhost
import Derived.Deep.QuietTactic
import Derived.BigQuiet
import Derived.WideLaws
import Derived.Deep.DeepCutAuto
import Derived.Deep.CutBlock
import Derived.Deep.RegionHeld3
import Derived.Laws.Rows
import Derived.Lib.AppendStr
import Derived.ArgAppend
import Derived.Laws.IdiomCopy
import Derived.OrdersHeld
import Derived.Laws.BitsLemmas
import Derived.RowKit
import Derived.Test.YtjbcfdgnafmbkaaDoorExtGroup
import Derived.Test.YtjbcfdgnafmbkaaDoorWWords
import Derived.Test.YtjbcfdgnafmbkaaDoorWLast
import Derived.Test.YtjbcfdgnafmbkaaDoorWTab
import Derived.Test.YtjbcfdgnafmbkaaDoorWFour
import Derived.Test.YtjbcfdgnafmbkaaDoorWQPut
import Derived.Test.YtjbcfdgnafmbkaaDoorWApart
import Derived.Test.YtjbcfdgnafmbkaaDoorWArr
import Derived.Test.YtjbcfdgnafmbkaaDoorWZeros
import Derived.Test.YtjbcfdgnafmbkaaDoorWFoot
import Derived.Test.YtjbcfdgnafmbkaaDoorWKept
import Derived.Test.YtjbcfdgnafmbkaaDoorWShare
import Derived.Test.YtjbcfdgnafmbkaaDoorWN
import Derived.Test.YtjbcfdgnafmbkaaDoorWFootNe
import Derived.Test.YtjbcfdgnafmbkaaDoorWAt
import Derived.Test.YtjbcfdgnafmbkaaDoorWEqStruct
import Derived.Test.YtjbcfdgnafmbkaaDoorWRepsOne
import Derived.Test.YtjbcfdgnafmbkaaDoorWInv
import Derived.Test.YtjbcfdgnafmbkaaDoorWInvWords
import Derived.Test.YtjbcfdgnafmbkaaDoorWGuard
import Derived.Test.YtjbcfdgnafmbkaaDoorWNEv
import Derived.Test.YtjbcfdgnafmbkaaDoorWMore
namespace Go.Proofs.YtjbcfdgnafmbkaaDoor.PGroup
open Go.RowKit Go.Proofs.YtjbcfdgnafmbkaaDoorW.PrintWords Go.Proofs.YtjbcfdgnafmbkaaDoorW.PrintLast Go.Proofs.YtjbcfdgnafmbkaaDoorW.PrintMore
attribute [local go_sem] max2_int min2_int max_two min_two max_three min_three max_four min_four   -- for this text's walks alone
set_option linter.unusedVariables false
set_option linter.unusedSimpArgs false



def errW : Option Int → Value
  | none => .nilIface
  | some c => .iface 0 (.int .i64 c)
theorem errW_none : errW none = .nilIface := rfl
theorem errW_some (c : Int) : errW (some c) = .iface 0 (.int .i64 c) := rfl

theorem info5 : (Tryd.prog.info? 5).map (fun i => (i.zero, i.size, i.bytes)) = some (some (.int .u8 0), 1, 1) := by kernel_rfl
-- the values' own types

end Go.Proofs.YtjbcfdgnafmbkaaDoor.PGroup
