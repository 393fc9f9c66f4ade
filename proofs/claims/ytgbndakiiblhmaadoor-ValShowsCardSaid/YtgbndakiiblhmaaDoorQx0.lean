-- WRITTEN BY this session's program wip/ext.py, in print.py's manner
import Derived.Test.YtgbndakiiblhmaaDoorProg
import Derived.Below
import Derived.Deep.Draws
import Derived.Deep.AppendLies
import Derived.Maps.AppendAt
import Derived.OwnWalk
import Derived.Laws.BytesArg
import Derived.Laws.MakeOwn
import Derived.Laws.OwnMore
import Derived.Deep.OwnRows
import Derived.Tactics
import Derived.Lib.ConvBytes
import Derived.Laws.Slices
import Derived.WalkKit
import Derived.KernelRfl
import Derived.RowKit3
import Derived.Deep.LoopGhost
import Derived.Deep.QuietTactic
import Derived.BigQuiet
import Derived.WideLaws
import Derived.Deep.DeepCutAuto
import Derived.Deep.CutBlock
import Derived.Deep.RegionHeld3
import Derived.Laws.Rows
import Derived.Lib.AppendStr
import Derived.ArgAppend
import Derived.Laws.IdiomCopy
import Derived.OrdersHeld
import Derived.Laws.BitsLemmas
import Derived.RowKit
import Derived.Lib.AppendIntMem
import Derived.Lib.SliceRun
import Derived.Lib.OthersKept
import Derived.BigCall
import Derived.Test.YtgbndakiiblhmaaDoorShelf
import Derived.Test.YtgbndakiiblhmaaDoorWWords
import Derived.Test.YtgbndakiiblhmaaDoorWLast
import Derived.Test.YtgbndakiiblhmaaDoorWTab
import Derived.Test.YtgbndakiiblhmaaDoorWFour
import Derived.Test.YtgbndakiiblhmaaDoorWQPut
import Derived.Test.YtgbndakiiblhmaaDoorWApart
import Derived.Test.YtgbndakiiblhmaaDoorWArr
import Derived.Test.YtgbndakiiblhmaaDoorWZeros
import Derived.Test.YtgbndakiiblhmaaDoorWFoot
import Derived.Test.YtgbndakiiblhmaaDoorWKept
import Derived.Test.YtgbndakiiblhmaaDoorWShare
import Derived.Test.YtgbndakiiblhmaaDoorWN
import Derived.Test.YtgbndakiiblhmaaDoorWFootNe
import Derived.Test.YtgbndakiiblhmaaDoorWAt
import Derived.Test.YtgbndakiiblhmaaDoorWEqStruct
import Derived.Test.YtgbndakiiblhmaaDoorWRepsOne
import Derived.Test.YtgbndakiiblhmaaDoorWInv
import Derived.Test.YtgbndakiiblhmaaDoorWInvWords
import Derived.Test.YtgbndakiiblhmaaDoorWGuard
import Derived.Test.YtgbndakiiblhmaaDoorWNEv
import Derived.Test.YtgbndakiiblhmaaDoorWMore
namespace Go.Proofs.YtgbndakiiblhmaaDoor.Q
open Go.RowKit Go.Proofs.YtgbndakiiblhmaaDoorW.PrintWords Go.Proofs.YtgbndakiiblhmaaDoorW.PrintLast Go.Proofs.YtgbndakiiblhmaaDoorW.PrintMore
attribute [local go_sem] max2_int min2_int max_two min_two max_three min_three max_four min_four   -- for this text's walks alone
set_option linter.unusedVariables false
set_option linter.unusedSimpArgs false



def errW : Option Int → Value
  | none => .nilIface
  | some c => .iface 0 (.int .i64 c)
theorem errW_none : errW none = .nilIface := rfl
theorem errW_some (c : Int) : errW (some c) = .iface 0 (.int .i64 c) := rfl

-- the values' own types

end Go.Proofs.YtgbndakiiblhmaaDoor.Q
