-- WRITTEN BY a turned print (wip/tools of the prover's repo)
import Derived.Test.YtiafobkkngngoaaProg
import Derived.Test.YtiafobkkngngoaaLm3
import Derived.Below
import Derived.Deep.Draws
import Derived.Deep.AppendLies
import Derived.Maps.AppendAt
import Derived.OwnWalk
import Derived.Laws.BytesArg
import Derived.Laws.MakeOwn
import Derived.Laws.OwnMore
import Derived.Deep.OwnRows
import Derived.Tactics
import Derived.Lib.ConvBytes
import Derived.Laws.Slices
import Derived.WalkKit
import Derived.KernelRfl
import Derived.RowKit3
import Derived.Deep.LoopGhost
import Derived.Deep.QuietTactic
import Derived.BigQuiet
import Derived.WideLaws
import Derived.Deep.DeepCutAuto
import Derived.Deep.CutBlock
import Derived.Deep.RegionHeld3
import Derived.Laws.Rows
import Derived.Lib.AppendStr
import Derived.ArgAppend
import Derived.Laws.IdiomCopy
import Derived.OrdersHeld
import Derived.Laws.BitsLemmas
import Derived.RowKit
import Derived.Deep.RegionLaw
import Derived.Shelf.Small.Strs
import Derived.Shelf.Strings.Search1
import Derived.Test.YtiafobkkngngoaaWWords
import Derived.Test.YtiafobkkngngoaaWLast
import Derived.Test.YtiafobkkngngoaaWTab
import Derived.Test.YtiafobkkngngoaaWFour
import Derived.Test.YtiafobkkngngoaaWQPut
import Derived.Test.YtiafobkkngngoaaWApart
import Derived.Test.YtiafobkkngngoaaWArr
import Derived.Test.YtiafobkkngngoaaWZeros
import Derived.Test.YtiafobkkngngoaaWFoot
import Derived.Test.YtiafobkkngngoaaWKept
import Derived.Test.YtiafobkkngngoaaWShare
import Derived.Test.YtiafobkkngngoaaWN
import Derived.Test.YtiafobkkngngoaaWFootNe
import Derived.Test.YtiafobkkngngoaaWAt
import Derived.Test.YtiafobkkngngoaaWEqStruct
import Derived.Test.YtiafobkkngngoaaWRepsOne
import Derived.Test.YtiafobkkngngoaaWInv
import Derived.Test.YtiafobkkngngoaaWInvWords
import Derived.Test.YtiafobkkngngoaaWGuard
import Derived.Test.YtiafobkkngngoaaWNEv
import Derived.Test.YtiafobkkngngoaaWMore
namespace Go.Proofs.Ytiafobkkngngoaa.PFnPackOnes
open Go.RowKit Go.Proofs.YtiafobkkngngoaaW.PrintWords Go.Proofs.YtiafobkkngngoaaW.PrintLast Go.Proofs.YtiafobkkngngoaaW.PrintMore Go.Proofs.Ytiafobkkngngoaa.Lm
attribute [local go_sem] max2_int min2_int max_two min_two max_three min_three max_four min_four   -- for this text's walks alone
set_option linter.unusedVariables false
set_option linter.unusedSimpArgs false



def errW : Option Int → Value
  | none => .nilIface
  | some c => .iface 0 (.int .i64 c)
theorem errW_none : errW none = .nilIface := rfl
theorem errW_some (c : Int) : errW (some c) = .iface 0 (.int .i64 c) := rfl

theorem info3 : (Try.prog.info? 3).map (fun i => (i.zero, i.size, i.bytes)) = some (some (.int .i64 0), 1, 8) := by kernel_rfl
theorem info5 : (Try.prog.info? 5).map (fun i => (i.zero, i.size, i.bytes)) = some (some (.int .u8 0), 1, 1) := by kernel_rfl
-- the values' own types

end Go.Proofs.Ytiafobkkngngoaa.PFnPackOnes
