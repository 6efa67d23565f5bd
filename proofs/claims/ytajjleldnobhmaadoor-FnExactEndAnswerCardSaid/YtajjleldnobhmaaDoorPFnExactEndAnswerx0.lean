-- WRITTEN BY a turned print (wip/tools of the prover's repo)
import Derived.Test.YtajjleldnobhmaaDoorProg
import Derived.Test.YtajjleldnobhmaaDoorLm3
import Derived.Below
import Derived.Deep.Draws
import Derived.Deep.AppendLies
import Derived.Maps.AppendAt
import Derived.OwnWalk
import Derived.Laws.BytesArg
import Derived.Laws.MakeOwn
import Derived.Laws.OwnMore
import Derived.Deep.OwnRows
import Derived.Tactics
import Derived.Lib.ConvBytes
import Derived.Laws.Slices
import Derived.WalkKit
import Derived.KernelRfl
import Derived.RowKit3
import Derived.Deep.LoopGhost
import Derived.Deep.QuietTactic
import Derived.BigQuiet
import Derived.WideLaws
import Derived.Deep.DeepCutAuto
import Derived.Deep.CutBlock
import Derived.Deep.RegionHeld3
import Derived.Laws.Rows
import Derived.Lib.AppendStr
import Derived.ArgAppend
import Derived.Laws.IdiomCopy
import Derived.OrdersHeld
import Derived.Laws.BitsLemmas
import Derived.RowKit
import Derived.Deep.RegionLaw
import Derived.Shelf.Small.Strs
import Derived.Shelf.Strings.Search1
import Derived.Shelf.Lay
import Derived.Shelf.Strconv.Itoa4
import Derived.Shelf.Strconv.Itoa3
import Derived.Lib.AppendIntMem
import Derived.Lib.LaidTab
import Derived.Laws.IdiomStrings
import Derived.Test.YtajjleldnobhmaaDoorWWords
import Derived.Test.YtajjleldnobhmaaDoorWLast
import Derived.Test.YtajjleldnobhmaaDoorWTab
import Derived.Test.YtajjleldnobhmaaDoorWFour
import Derived.Test.YtajjleldnobhmaaDoorWQPut
import Derived.Test.YtajjleldnobhmaaDoorWApart
import Derived.Test.YtajjleldnobhmaaDoorWArr
import Derived.Test.YtajjleldnobhmaaDoorWZeros
import Derived.Test.YtajjleldnobhmaaDoorWFoot
import Derived.Test.YtajjleldnobhmaaDoorWKept
import Derived.Test.YtajjleldnobhmaaDoorWShare
import Derived.Test.YtajjleldnobhmaaDoorWN
import Derived.Test.YtajjleldnobhmaaDoorWFootNe
import Derived.Test.YtajjleldnobhmaaDoorWAt
import Derived.Test.YtajjleldnobhmaaDoorWEqStruct
import Derived.Test.YtajjleldnobhmaaDoorWRepsOne
import Derived.Test.YtajjleldnobhmaaDoorWInv
import Derived.Test.YtajjleldnobhmaaDoorWInvWords
import Derived.Test.YtajjleldnobhmaaDoorWGuard
import Derived.Test.YtajjleldnobhmaaDoorWNEv
import Derived.Test.YtajjleldnobhmaaDoorWMore
namespace Go.Proofs.YtajjleldnobhmaaDoor.PFnExactEndAnswer
open Go.RowKit Go.Proofs.YtajjleldnobhmaaDoorW.PrintWords Go.Proofs.YtajjleldnobhmaaDoorW.PrintLast Go.Proofs.YtajjleldnobhmaaDoorW.PrintMore Go.Proofs.YtajjleldnobhmaaDoor.Lm
attribute [local go_sem] max2_int min2_int max_two min_two max_three min_three max_four min_four   -- for this text's walks alone
set_option linter.unusedVariables false
set_option linter.unusedSimpArgs false



def errW : Option Int → Value
  | none => .nilIface
  | some c => .iface 0 (.int .i64 c)
theorem errW_none : errW none = .nilIface := rfl
theorem errW_some (c : Int) : errW (some c) = .iface 0 (.int .i64 c) := rfl

theorem info5 : (Tryd.prog.info? 5).map (fun i => (i.zero, i.size, i.bytes)) = some (some (.int .u8 0), 1, 1) := by kernel_rfl
-- the values' own types

end Go.Proofs.YtajjleldnobhmaaDoor.PFnExactEndAnswer
