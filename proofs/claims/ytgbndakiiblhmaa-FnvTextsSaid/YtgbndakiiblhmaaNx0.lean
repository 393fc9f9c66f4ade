-- WRITTEN BY this session's program wip/ext.py, in print.py's manner
import Derived.Test.YtgbndakiiblhmaaProg
import Derived.Below
import Derived.Deep.Draws
import Derived.Deep.AppendLies
import Derived.Maps.AppendAt
import Derived.OwnWalk
import Derived.Laws.BytesArg
import Derived.Laws.MakeOwn
import Derived.Laws.OwnMore
import Derived.Deep.OwnRows
import Derived.Tactics
import Derived.Lib.ConvBytes
import Derived.Laws.Slices
import Derived.WalkKit
import Derived.KernelRfl
import Derived.RowKit3
import Derived.Deep.LoopGhost
import Derived.Deep.QuietTactic
import Derived.BigQuiet
import Derived.WideLaws
import Derived.Deep.DeepCutAuto
import Derived.Deep.CutBlock
import Derived.Deep.RegionHeld3
import Derived.Laws.Rows
import Derived.Lib.AppendStr
import Derived.ArgAppend
import Derived.Laws.IdiomCopy
import Derived.OrdersHeld
import Derived.Laws.BitsLemmas
import Derived.RowKit
import Derived.Lib.SlBytesConst
import Derived.Lib.SliceRun
import Derived.RangeFuncBox
import Derived.RangeFuncLeaves
import Derived.Shelf.Abstract
import Derived.OwnWalkIn
import Derived.TacticsInMore
import Derived.LoopNIn
import Derived.LoopIn
import Derived.Test.YtgbndakiiblhmaaShelf
import Derived.Test.YtgbndakiiblhmaaWWords
import Derived.Test.YtgbndakiiblhmaaWLast
import Derived.Test.YtgbndakiiblhmaaWTab
import Derived.Test.YtgbndakiiblhmaaWFour
import Derived.Test.YtgbndakiiblhmaaWQPut
import Derived.Test.YtgbndakiiblhmaaWApart
import Derived.Test.YtgbndakiiblhmaaWArr
import Derived.Test.YtgbndakiiblhmaaWZeros
import Derived.Test.YtgbndakiiblhmaaWFoot
import Derived.Test.YtgbndakiiblhmaaWKept
import Derived.Test.YtgbndakiiblhmaaWShare
import Derived.Test.YtgbndakiiblhmaaWN
import Derived.Test.YtgbndakiiblhmaaWFootNe
import Derived.Test.YtgbndakiiblhmaaWAt
import Derived.Test.YtgbndakiiblhmaaWEqStruct
import Derived.Test.YtgbndakiiblhmaaWRepsOne
import Derived.Test.YtgbndakiiblhmaaWInv
import Derived.Test.YtgbndakiiblhmaaWInvWords
import Derived.Test.YtgbndakiiblhmaaWGuard
import Derived.Test.YtgbndakiiblhmaaWNEv
import Derived.Test.YtgbndakiiblhmaaWMore
namespace Go.Proofs.Ytgbndakiiblhmaa.N
open Go.RowKit Go.Proofs.YtgbndakiiblhmaaW.PrintWords Go.Proofs.YtgbndakiiblhmaaW.PrintLast Go.Proofs.YtgbndakiiblhmaaW.PrintMore
attribute [local go_sem] max2_int min2_int max_two min_two max_three min_three max_four min_four   -- for this text's walks alone
set_option linter.unusedVariables false
set_option linter.unusedSimpArgs false



def errW : Option Int → Value
  | none => .nilIface
  | some c => .iface 0 (.int .i64 c)
theorem errW_none : errW none = .nilIface := rfl
theorem errW_some (c : Int) : errW (some c) = .iface 0 (.int .i64 c) := rfl

theorem info5 : (Try.prog.info? 5).map (fun i => (i.zero, i.size, i.bytes)) = some (some (.int .u8 0), 1, 1) := by kernel_rfl
-- the values' own types

end Go.Proofs.Ytgbndakiiblhmaa.N
