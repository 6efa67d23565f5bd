-- WRITTEN BY a turned print (wip/tools of the prover's repo)
import Derived.Test.YtajjleldnobhmaaProg
import Derived.Test.YtajjleldnobhmaaLm3
import Derived.Below
import Derived.Deep.Draws
import Derived.Deep.AppendLies
import Derived.Maps.AppendAt
import Derived.OwnWalk
import Derived.Laws.BytesArg
import Derived.Laws.MakeOwn
import Derived.Laws.OwnMore
import Derived.Deep.OwnRows
import Derived.Tactics
import Derived.Lib.ConvBytes
import Derived.Laws.Slices
import Derived.WalkKit
import Derived.KernelRfl
import Derived.RowKit3
import Derived.Deep.LoopGhost
import Derived.Deep.QuietTactic
import Derived.BigQuiet
import Derived.WideLaws
import Derived.Deep.DeepCutAuto
import Derived.Deep.CutBlock
import Derived.Deep.RegionHeld3
import Derived.Laws.Rows
import Derived.Lib.AppendStr
import Derived.ArgAppend
import Derived.Laws.IdiomCopy
import Derived.OrdersHeld
import Derived.Laws.BitsLemmas
import Derived.RowKit
import Derived.Deep.RegionLaw
import Derived.Shelf.Small.Strs
import Derived.Shelf.Strings.Search1
import Derived.Test.YtajjleldnobhmaaWWords
import Derived.Test.YtajjleldnobhmaaWLast
import Derived.Test.YtajjleldnobhmaaWTab
import Derived.Test.YtajjleldnobhmaaWFour
import Derived.Test.YtajjleldnobhmaaWQPut
import Derived.Test.YtajjleldnobhmaaWApart
import Derived.Test.YtajjleldnobhmaaWArr
import Derived.Test.YtajjleldnobhmaaWZeros
import Derived.Test.YtajjleldnobhmaaWFoot
import Derived.Test.YtajjleldnobhmaaWKept
import Derived.Test.YtajjleldnobhmaaWShare
import Derived.Test.YtajjleldnobhmaaWN
import Derived.Test.YtajjleldnobhmaaWFootNe
import Derived.Test.YtajjleldnobhmaaWAt
import Derived.Test.YtajjleldnobhmaaWEqStruct
import Derived.Test.YtajjleldnobhmaaWRepsOne
import Derived.Test.YtajjleldnobhmaaWInv
import Derived.Test.YtajjleldnobhmaaWInvWords
import Derived.Test.YtajjleldnobhmaaWGuard
import Derived.Test.YtajjleldnobhmaaWNEv
import Derived.Test.YtajjleldnobhmaaWMore
namespace Go.Proofs.Ytajjleldnobhmaa.PFnWordBack
open Go.RowKit Go.Proofs.YtajjleldnobhmaaW.PrintWords Go.Proofs.YtajjleldnobhmaaW.PrintLast Go.Proofs.YtajjleldnobhmaaW.PrintMore Go.Proofs.Ytajjleldnobhmaa.Lm
attribute [local go_sem] max2_int min2_int max_two min_two max_three min_three max_four min_four   -- for this text's walks alone
set_option linter.unusedVariables false
set_option linter.unusedSimpArgs false



def errW : Option Int → Value
  | none => .nilIface
  | some c => .iface 0 (.int .i64 c)
theorem errW_none : errW none = .nilIface := rfl
theorem errW_some (c : Int) : errW (some c) = .iface 0 (.int .i64 c) := rfl

theorem info3 : (Try.prog.info? 3).map (fun i => (i.zero, i.size, i.bytes)) = some (some (.int .i64 0), 1, 8) := by kernel_rfl
theorem info5 : (Try.prog.info? 5).map (fun i => (i.zero, i.size, i.bytes)) = some (some (.int .u8 0), 1, 1) := by kernel_rfl
-- the values' own types

end Go.Proofs.Ytajjleldnobhmaa.PFnWordBack
