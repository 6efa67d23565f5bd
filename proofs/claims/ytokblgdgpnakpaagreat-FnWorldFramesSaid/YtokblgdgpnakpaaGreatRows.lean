/-
  No cell of these rows narrows 'for every input' (looked for: loops, veiled, ifaces, maps, wideKeys, modest, calm, conditions, laid).
  DERIVED. THE GIVEN ROWS OF THIS SEAT. 3 by the template 'for every input the law returns true; each argument reads behind the call as it read before'; 0 by the template 'total and deterministic' (their statements: YtokblgdgpnakpaaGreatTotals.lean).
  GIVEN WITH THE SEED: the statements are not yours to turn. If you find one false, say at which input.
  Laid BY PROGRAM, IN A SANDBOX (cutbox-rows.mjs): the forced cells as the released guide's own fill.sh prints them over the translation 7fbf11124450016e… (all of the seat's roots in one cut). By AI agents, Wed Nov 11 2026. No macro, syntax, notation, axiom, sorry.
-/
import Derived.Test.YtokblgdgpnakpaaGreatChecked
import GoSem.Claim
import GoSem.ClaimJoined
import GoSem.ClaimMapViews
import Derived.JoinedTies
import Derived.KernelRfl
namespace Go.Proofs.YtokblgdgpnakpaaGreat
/- THE CELL 'sum', in the pinned program and in every row, IS THE sha256 OF THE DUMP (.gsa) THAT YtokblgdgpnakpaaGreatProg.lean LOADS. Nothing in Lean hashes anything: it is a label: what it is worth is what the hold of that sum in a sandbox is worth. -/
noncomputable def Tryz.pinned : Pinned := { name := "ytokblgdgpnakpaagreat", sum := "7fbf11124450016e39382d8d1c849a5048e72fa2bc98cffd63a4d56a9fdea603", checked := Tryz.checked }
namespace Rows
def none {H : Type} : Left H := { results := [], args := [] }

/-- 'laws.FnEndLeave': WHATEVER THE INPUT: true; the input reads as it did. -/
def fnEndLeaveSpec : ChangeSpec := { name := "fnEndLeave", fn := fun _ => fun
  | [d] => { results := [.lit (.bool true)], args := [d] }
  | _ => none }
def fnEndLeaveRow : OpenClaim := { program := "ytokblgdgpnakpaagreat", sum := "7fbf11124450016e39382d8d1c849a5048e72fa2bc98cffd63a4d56a9fdea603", func := "loop.example/lamson/laws.FnEndLeave", spec := "fnEndLeave", inPlace := ["internal/bytealg.IndexByteString"], unfollowed := true, recurses := true, apart := false }
def FnEndLeaveSaid : Prop := fnEndLeaveRow.holds Tryz.pinned (OpenSpec.ofChange fnEndLeaveSpec)

/-- ITS FALSE NEIGHBOUR: 'it returns false'. Refute it at one input. -/
def fnEndLeaveWrong : ChangeSpec := { name := "fnEndLeave", fn := fun _ => fun
  | [d] => { results := [.lit (.bool false)], args := [d] }
  | _ => none }
def FnEndLeaveWrongFalsely : Prop := fnEndLeaveRow.holds Tryz.pinned (OpenSpec.ofChange fnEndLeaveWrong)

/-- 'laws.FnEndLess': WHATEVER THE INPUT: true; the input reads as it did. -/
def fnEndLessSpec : ChangeSpec := { name := "fnEndLess", fn := fun _ => fun
  | [d] => { results := [.lit (.bool true)], args := [d] }
  | _ => none }
def fnEndLessRow : OpenClaim := { program := "ytokblgdgpnakpaagreat", sum := "7fbf11124450016e39382d8d1c849a5048e72fa2bc98cffd63a4d56a9fdea603", func := "loop.example/lamson/laws.FnEndLess", spec := "fnEndLess", inPlace := ["internal/bytealg.IndexByteString"], unfollowed := true, recurses := true, apart := false }
def FnEndLessSaid : Prop := fnEndLessRow.holds Tryz.pinned (OpenSpec.ofChange fnEndLessSpec)

/-- ITS FALSE NEIGHBOUR: 'it returns false'. Refute it at one input. -/
def fnEndLessWrong : ChangeSpec := { name := "fnEndLess", fn := fun _ => fun
  | [d] => { results := [.lit (.bool false)], args := [d] }
  | _ => none }
def FnEndLessWrongFalsely : Prop := fnEndLessRow.holds Tryz.pinned (OpenSpec.ofChange fnEndLessWrong)

/-- 'laws.FnWorldFrames': WHATEVER THE INPUT: true; the input reads as it did. -/
def fnWorldFramesSpec : ChangeSpec := { name := "fnWorldFrames", fn := fun _ => fun
  | [d] => { results := [.lit (.bool true)], args := [d] }
  | _ => none }
def fnWorldFramesRow : OpenClaim := { program := "ytokblgdgpnakpaagreat", sum := "7fbf11124450016e39382d8d1c849a5048e72fa2bc98cffd63a4d56a9fdea603", func := "loop.example/lamson/laws.FnWorldFrames", spec := "fnWorldFrames", inPlace := ["internal/bytealg.IndexByteString"], unfollowed := true, recurses := true, apart := false }
def FnWorldFramesSaid : Prop := fnWorldFramesRow.holds Tryz.pinned (OpenSpec.ofChange fnWorldFramesSpec)

/-- ITS FALSE NEIGHBOUR: 'it returns false'. Refute it at one input. -/
def fnWorldFramesWrong : ChangeSpec := { name := "fnWorldFrames", fn := fun _ => fun
  | [d] => { results := [.lit (.bool false)], args := [d] }
  | _ => none }
def FnWorldFramesWrongFalsely : Prop := fnWorldFramesRow.holds Tryz.pinned (OpenSpec.ofChange fnWorldFramesWrong)

/- THE SECOND FORM. 'bulk': how many values and letters a reading holds, each counted each time it is reached (what is shared counts as often as it is met; a slice's spare places count too). A statement '..UptoSaid' is the law's where the arguments, and the package variables that the reading takes, are together of bulk at most 1048576: NARROWER than '..Said'. Prove '..Said' where nothing that the law and all that it calls make is longer than what came in: it says more and counts as full. Else prove '..UptoSaid'. A law counts once. -/
mutual
def uptoBulk {H : Type} : DataW H → Nat
  | .lit (.string bytes) => bytes.length + 1
  | .lit _ => 1
  | .nil => 1
  | .ptr d => uptoBulk d + 1
  | .slice elems spare => uptoBulkAll elems + uptoBulkAll spare + 1
  | .agg parts => uptoBulkAll parts + 1
  | .iface _ d => uptoBulk d + 1
  | .map entries => uptoBulkEntries entries + 1
  | .held _ => 1
def uptoBulkAll {H : Type} : List (DataW H) → Nat
  | [] => 0
  | d :: r => uptoBulk d + uptoBulkAll r
def uptoBulkEntries {H : Type} : List (Lit × DataW H) → Nat
  | [] => 0
  | x :: r => uptoBulkEntry x + uptoBulkEntries r
def uptoBulkEntry {H : Type} : Lit × DataW H → Nat
  | (.string bytes, d) => bytes.length + uptoBulk d + 1
  | (_, d) => uptoBulk d + 1
 end
def uptoSmall : (H : Type) → List (DataW H) → Bool := fun _ ds => decide (uptoBulkAll ds ≤ 1048576)
def OpenSpec.upto (s : _root_.Go.ChangeSpec) : _root_.Go.OpenSpec := { _root_.Go.OpenSpec.ofChange s with cond := some uptoSmall }

/-- 'laws.FnEndLeave', WHERE WHAT IT READS IS OF BULK AT MOST 1048576: true; the input reads as it did. -/
def fnEndLeaveUptoRow : OpenClaim := { program := "ytokblgdgpnakpaagreat", sum := "7fbf11124450016e39382d8d1c849a5048e72fa2bc98cffd63a4d56a9fdea603", func := "loop.example/lamson/laws.FnEndLeave", spec := "fnEndLeave", inPlace := ["internal/bytealg.IndexByteString"], unfollowed := true, recurses := true, apart := false, narrowed := true }
def FnEndLeaveUptoSaid : Prop := fnEndLeaveUptoRow.holds Tryz.pinned (OpenSpec.upto fnEndLeaveSpec)

/-- 'laws.FnEndLess', WHERE WHAT IT READS IS OF BULK AT MOST 1048576: true; the input reads as it did. -/
def fnEndLessUptoRow : OpenClaim := { program := "ytokblgdgpnakpaagreat", sum := "7fbf11124450016e39382d8d1c849a5048e72fa2bc98cffd63a4d56a9fdea603", func := "loop.example/lamson/laws.FnEndLess", spec := "fnEndLess", inPlace := ["internal/bytealg.IndexByteString"], unfollowed := true, recurses := true, apart := false, narrowed := true }
def FnEndLessUptoSaid : Prop := fnEndLessUptoRow.holds Tryz.pinned (OpenSpec.upto fnEndLessSpec)

/-- 'laws.FnWorldFrames', WHERE WHAT IT READS IS OF BULK AT MOST 1048576: true; the input reads as it did. -/
def fnWorldFramesUptoRow : OpenClaim := { program := "ytokblgdgpnakpaagreat", sum := "7fbf11124450016e39382d8d1c849a5048e72fa2bc98cffd63a4d56a9fdea603", func := "loop.example/lamson/laws.FnWorldFrames", spec := "fnWorldFrames", inPlace := ["internal/bytealg.IndexByteString"], unfollowed := true, recurses := true, apart := false, narrowed := true }
def FnWorldFramesUptoSaid : Prop := fnWorldFramesUptoRow.holds Tryz.pinned (OpenSpec.upto fnWorldFramesSpec)

end Rows
end Go.Proofs.YtokblgdgpnakpaaGreat
