/-
  No cell of these rows narrows 'for every input' (looked for: loops, veiled, ifaces, maps, wideKeys, modest, calm, conditions, laid).
  DERIVED. THE GIVEN ROWS OF THIS SEAT. 8 by the template 'for every input the law returns true; each argument reads behind the call as it read before'; 0 by the template 'total and deterministic' (their statements: YtlpibelofcabhaaTotals.lean).
  GIVEN WITH THE SEED: the statements are not yours to turn. If you find one false, say at which input.
  Laid BY PROGRAM, IN A SANDBOX (cutbox-rows.mjs): the forced cells as the released guide's own fill.sh prints them over the translation d722a61eb20ddf20… (all of the seat's roots in one cut). By AI agents, Wed Nov 11 2026. No macro, syntax, notation, axiom, sorry.
-/
import Derived.Test.YtlpibelofcabhaaChecked
import GoSem.Claim
import GoSem.ClaimJoined
import GoSem.ClaimMapViews
import Derived.JoinedTies
import Derived.KernelRfl
namespace Go.Proofs.Ytlpibelofcabhaa
/- THE CELL 'sum', in the pinned program and in every row, IS THE sha256 OF THE DUMP (.gsa) THAT YtlpibelofcabhaaProg.lean LOADS. Nothing in Lean hashes anything: it is a label: what it is worth is what the hold of that sum in a sandbox is worth. -/
noncomputable def Try.pinned : Pinned := { name := "ytlpibelofcabhaa", sum := "d722a61eb20ddf20f96c87a106d58e8520fef276e86b7bc1aea4fa4bebc01095", checked := Try.checked }
namespace Rows
def none {H : Type} : Left H := { results := [], args := [] }

/-- 'laws.FnHeadBack': WHATEVER THE INPUT: true; the input reads as it did. -/
def fnHeadBackSpec : ChangeSpec := { name := "fnHeadBack", fn := fun _ => fun
  | [d] => { results := [.lit (.bool true)], args := [d] }
  | _ => none }
def fnHeadBackRow : OpenClaim := { program := "ytlpibelofcabhaa", sum := "d722a61eb20ddf20f96c87a106d58e8520fef276e86b7bc1aea4fa4bebc01095", func := "loop.example/lamson/laws.FnHeadBack", spec := "fnHeadBack", inPlace := ["internal/bytealg.IndexByteString"], unfollowed := true, recurses := true, apart := false }
def FnHeadBackSaid : Prop := fnHeadBackRow.holds Try.pinned (OpenSpec.ofChange fnHeadBackSpec)

/-- ITS FALSE NEIGHBOUR: 'it returns false'. Refute it at one input. -/
def fnHeadBackWrong : ChangeSpec := { name := "fnHeadBack", fn := fun _ => fun
  | [d] => { results := [.lit (.bool false)], args := [d] }
  | _ => none }
def FnHeadBackWrongFalsely : Prop := fnHeadBackRow.holds Try.pinned (OpenSpec.ofChange fnHeadBackWrong)

/-- 'laws.FnExactEndNew': WHATEVER THE INPUT: true; the input reads as it did. -/
def fnExactEndNewSpec : ChangeSpec := { name := "fnExactEndNew", fn := fun _ => fun
  | [d] => { results := [.lit (.bool true)], args := [d] }
  | _ => none }
def fnExactEndNewRow : OpenClaim := { program := "ytlpibelofcabhaa", sum := "d722a61eb20ddf20f96c87a106d58e8520fef276e86b7bc1aea4fa4bebc01095", func := "loop.example/lamson/laws.FnExactEndNew", spec := "fnExactEndNew", apart := false }
def FnExactEndNewSaid : Prop := fnExactEndNewRow.holds Try.pinned (OpenSpec.ofChange fnExactEndNewSpec)

/-- ITS FALSE NEIGHBOUR: 'it returns false'. Refute it at one input. -/
def fnExactEndNewWrong : ChangeSpec := { name := "fnExactEndNew", fn := fun _ => fun
  | [d] => { results := [.lit (.bool false)], args := [d] }
  | _ => none }
def FnExactEndNewWrongFalsely : Prop := fnExactEndNewRow.holds Try.pinned (OpenSpec.ofChange fnExactEndNewWrong)

/-- 'laws.FnExactWorldNew': WHATEVER THE INPUT: true; the input reads as it did. -/
def fnExactWorldNewSpec : ChangeSpec := { name := "fnExactWorldNew", fn := fun _ => fun
  | [] => { results := [.lit (.bool true)], args := [] }
  | _ => none }
def fnExactWorldNewRow : OpenClaim := { program := "ytlpibelofcabhaa", sum := "d722a61eb20ddf20f96c87a106d58e8520fef276e86b7bc1aea4fa4bebc01095", func := "loop.example/lamson/laws.FnExactWorldNew", spec := "fnExactWorldNew", apart := false }
def FnExactWorldNewSaid : Prop := fnExactWorldNewRow.holds Try.pinned (OpenSpec.ofChange fnExactWorldNewSpec)

/-- ITS FALSE NEIGHBOUR: 'it returns false'. Refute it at one input. -/
def fnExactWorldNewWrong : ChangeSpec := { name := "fnExactWorldNew", fn := fun _ => fun
  | [] => { results := [.lit (.bool false)], args := [] }
  | _ => none }
def FnExactWorldNewWrongFalsely : Prop := fnExactWorldNewRow.holds Try.pinned (OpenSpec.ofChange fnExactWorldNewWrong)

/-- 'laws.FnEndNew': WHATEVER THE INPUT: true; the input reads as it did. -/
def fnEndNewSpec : ChangeSpec := { name := "fnEndNew", fn := fun _ => fun
  | [d] => { results := [.lit (.bool true)], args := [d] }
  | _ => none }
def fnEndNewRow : OpenClaim := { program := "ytlpibelofcabhaa", sum := "d722a61eb20ddf20f96c87a106d58e8520fef276e86b7bc1aea4fa4bebc01095", func := "loop.example/lamson/laws.FnEndNew", spec := "fnEndNew", inPlace := ["internal/bytealg.IndexByteString", "internal/abi.NoEscape"], unfollowed := true, recurses := true, apart := false }
def FnEndNewSaid : Prop := fnEndNewRow.holds Try.pinned (OpenSpec.ofChange fnEndNewSpec)

/-- ITS FALSE NEIGHBOUR: 'it returns false'. Refute it at one input. -/
def fnEndNewWrong : ChangeSpec := { name := "fnEndNew", fn := fun _ => fun
  | [d] => { results := [.lit (.bool false)], args := [d] }
  | _ => none }
def FnEndNewWrongFalsely : Prop := fnEndNewRow.holds Try.pinned (OpenSpec.ofChange fnEndNewWrong)

/-- 'laws.FnExactEndOk': WHATEVER THE INPUT: true; the input reads as it did. -/
def fnExactEndOkSpec : ChangeSpec := { name := "fnExactEndOk", fn := fun _ => fun
  | [d] => { results := [.lit (.bool true)], args := [d] }
  | _ => none }
def fnExactEndOkRow : OpenClaim := { program := "ytlpibelofcabhaa", sum := "d722a61eb20ddf20f96c87a106d58e8520fef276e86b7bc1aea4fa4bebc01095", func := "loop.example/lamson/laws.FnExactEndOk", spec := "fnExactEndOk", inPlace := ["internal/bytealg.IndexByteString"], unfollowed := true, recurses := true, apart := false }
def FnExactEndOkSaid : Prop := fnExactEndOkRow.holds Try.pinned (OpenSpec.ofChange fnExactEndOkSpec)

/-- ITS FALSE NEIGHBOUR: 'it returns false'. Refute it at one input. -/
def fnExactEndOkWrong : ChangeSpec := { name := "fnExactEndOk", fn := fun _ => fun
  | [d] => { results := [.lit (.bool false)], args := [d] }
  | _ => none }
def FnExactEndOkWrongFalsely : Prop := fnExactEndOkRow.holds Try.pinned (OpenSpec.ofChange fnExactEndOkWrong)

/-- 'laws.FnExactWorldOk': WHATEVER THE INPUT: true; the input reads as it did. -/
def fnExactWorldOkSpec : ChangeSpec := { name := "fnExactWorldOk", fn := fun _ => fun
  | [d] => { results := [.lit (.bool true)], args := [d] }
  | _ => none }
def fnExactWorldOkRow : OpenClaim := { program := "ytlpibelofcabhaa", sum := "d722a61eb20ddf20f96c87a106d58e8520fef276e86b7bc1aea4fa4bebc01095", func := "loop.example/lamson/laws.FnExactWorldOk", spec := "fnExactWorldOk", inPlace := ["internal/bytealg.IndexByteString"], unfollowed := true, recurses := true, apart := false }
def FnExactWorldOkSaid : Prop := fnExactWorldOkRow.holds Try.pinned (OpenSpec.ofChange fnExactWorldOkSpec)

/-- ITS FALSE NEIGHBOUR: 'it returns false'. Refute it at one input. -/
def fnExactWorldOkWrong : ChangeSpec := { name := "fnExactWorldOk", fn := fun _ => fun
  | [d] => { results := [.lit (.bool false)], args := [d] }
  | _ => none }
def FnExactWorldOkWrongFalsely : Prop := fnExactWorldOkRow.holds Try.pinned (OpenSpec.ofChange fnExactWorldOkWrong)

/-- 'laws.FnExactWorldFrames': WHATEVER THE INPUT: true; the input reads as it did. -/
def fnExactWorldFramesSpec : ChangeSpec := { name := "fnExactWorldFrames", fn := fun _ => fun
  | [d1, d2] => { results := [.lit (.bool true)], args := [d1, d2] }
  | _ => none }
def fnExactWorldFramesRow : OpenClaim := { program := "ytlpibelofcabhaa", sum := "d722a61eb20ddf20f96c87a106d58e8520fef276e86b7bc1aea4fa4bebc01095", func := "loop.example/lamson/laws.FnExactWorldFrames", spec := "fnExactWorldFrames", inPlace := ["internal/bytealg.IndexByteString"], unfollowed := true, recurses := true, apart := false }
def FnExactWorldFramesSaid : Prop := fnExactWorldFramesRow.holds Try.pinned (OpenSpec.ofChange fnExactWorldFramesSpec)

/-- ITS FALSE NEIGHBOUR: 'it returns false'. Refute it at one input. -/
def fnExactWorldFramesWrong : ChangeSpec := { name := "fnExactWorldFrames", fn := fun _ => fun
  | [d1, d2] => { results := [.lit (.bool false)], args := [d1, d2] }
  | _ => none }
def FnExactWorldFramesWrongFalsely : Prop := fnExactWorldFramesRow.holds Try.pinned (OpenSpec.ofChange fnExactWorldFramesWrong)

/-- 'laws.FnExactEndLeave': WHATEVER THE INPUT: true; the input reads as it did. -/
def fnExactEndLeaveSpec : ChangeSpec := { name := "fnExactEndLeave", fn := fun _ => fun
  | [d1, d2] => { results := [.lit (.bool true)], args := [d1, d2] }
  | _ => none }
def fnExactEndLeaveRow : OpenClaim := { program := "ytlpibelofcabhaa", sum := "d722a61eb20ddf20f96c87a106d58e8520fef276e86b7bc1aea4fa4bebc01095", func := "loop.example/lamson/laws.FnExactEndLeave", spec := "fnExactEndLeave", inPlace := ["internal/bytealg.IndexByteString"], unfollowed := true, recurses := true, apart := false }
def FnExactEndLeaveSaid : Prop := fnExactEndLeaveRow.holds Try.pinned (OpenSpec.ofChange fnExactEndLeaveSpec)

/-- ITS FALSE NEIGHBOUR: 'it returns false'. Refute it at one input. -/
def fnExactEndLeaveWrong : ChangeSpec := { name := "fnExactEndLeave", fn := fun _ => fun
  | [d1, d2] => { results := [.lit (.bool false)], args := [d1, d2] }
  | _ => none }
def FnExactEndLeaveWrongFalsely : Prop := fnExactEndLeaveRow.holds Try.pinned (OpenSpec.ofChange fnExactEndLeaveWrong)

/- THE SECOND FORM. 'bulk': how many values and letters a reading holds, each counted each time it is reached (what is shared counts as often as it is met; a slice's spare places count too). A statement '..UptoSaid' is the law's where the arguments, and the package variables that the reading takes, are together of bulk at most 1048576: NARROWER than '..Said'. Prove '..Said' where nothing that the law and all that it calls make is longer than what came in: it says more and counts as full. Else prove '..UptoSaid'. A law counts once. -/
mutual
def uptoBulk {H : Type} : DataW H → Nat
  | .lit (.string bytes) => bytes.length + 1
  | .lit _ => 1
  | .nil => 1
  | .ptr d => uptoBulk d + 1
  | .slice elems spare => uptoBulkAll elems + uptoBulkAll spare + 1
  | .agg parts => uptoBulkAll parts + 1
  | .iface _ d => uptoBulk d + 1
  | .map entries => uptoBulkEntries entries + 1
  | .held _ => 1
def uptoBulkAll {H : Type} : List (DataW H) → Nat
  | [] => 0
  | d :: r => uptoBulk d + uptoBulkAll r
def uptoBulkEntries {H : Type} : List (Lit × DataW H) → Nat
  | [] => 0
  | x :: r => uptoBulkEntry x + uptoBulkEntries r
def uptoBulkEntry {H : Type} : Lit × DataW H → Nat
  | (.string bytes, d) => bytes.length + uptoBulk d + 1
  | (_, d) => uptoBulk d + 1
 end
def uptoSmall : (H : Type) → List (DataW H) → Bool := fun _ ds => decide (uptoBulkAll ds ≤ 1048576)
def OpenSpec.upto (s : _root_.Go.ChangeSpec) : _root_.Go.OpenSpec := { _root_.Go.OpenSpec.ofChange s with cond := some uptoSmall }

/-- 'laws.FnHeadBack', WHERE WHAT IT READS IS OF BULK AT MOST 1048576: true; the input reads as it did. -/
def fnHeadBackUptoRow : OpenClaim := { program := "ytlpibelofcabhaa", sum := "d722a61eb20ddf20f96c87a106d58e8520fef276e86b7bc1aea4fa4bebc01095", func := "loop.example/lamson/laws.FnHeadBack", spec := "fnHeadBack", inPlace := ["internal/bytealg.IndexByteString"], unfollowed := true, recurses := true, apart := false, narrowed := true }
def FnHeadBackUptoSaid : Prop := fnHeadBackUptoRow.holds Try.pinned (OpenSpec.upto fnHeadBackSpec)

/-- 'laws.FnExactEndNew', WHERE WHAT IT READS IS OF BULK AT MOST 1048576: true; the input reads as it did. -/
def fnExactEndNewUptoRow : OpenClaim := { program := "ytlpibelofcabhaa", sum := "d722a61eb20ddf20f96c87a106d58e8520fef276e86b7bc1aea4fa4bebc01095", func := "loop.example/lamson/laws.FnExactEndNew", spec := "fnExactEndNew", apart := false, narrowed := true }
def FnExactEndNewUptoSaid : Prop := fnExactEndNewUptoRow.holds Try.pinned (OpenSpec.upto fnExactEndNewSpec)

/-- 'laws.FnExactWorldNew', WHERE WHAT IT READS IS OF BULK AT MOST 1048576: true; the input reads as it did. -/
def fnExactWorldNewUptoRow : OpenClaim := { program := "ytlpibelofcabhaa", sum := "d722a61eb20ddf20f96c87a106d58e8520fef276e86b7bc1aea4fa4bebc01095", func := "loop.example/lamson/laws.FnExactWorldNew", spec := "fnExactWorldNew", apart := false, narrowed := true }
def FnExactWorldNewUptoSaid : Prop := fnExactWorldNewUptoRow.holds Try.pinned (OpenSpec.upto fnExactWorldNewSpec)

/-- 'laws.FnEndNew', WHERE WHAT IT READS IS OF BULK AT MOST 1048576: true; the input reads as it did. -/
def fnEndNewUptoRow : OpenClaim := { program := "ytlpibelofcabhaa", sum := "d722a61eb20ddf20f96c87a106d58e8520fef276e86b7bc1aea4fa4bebc01095", func := "loop.example/lamson/laws.FnEndNew", spec := "fnEndNew", inPlace := ["internal/bytealg.IndexByteString", "internal/abi.NoEscape"], unfollowed := true, recurses := true, apart := false, narrowed := true }
def FnEndNewUptoSaid : Prop := fnEndNewUptoRow.holds Try.pinned (OpenSpec.upto fnEndNewSpec)

/-- 'laws.FnExactEndOk', WHERE WHAT IT READS IS OF BULK AT MOST 1048576: true; the input reads as it did. -/
def fnExactEndOkUptoRow : OpenClaim := { program := "ytlpibelofcabhaa", sum := "d722a61eb20ddf20f96c87a106d58e8520fef276e86b7bc1aea4fa4bebc01095", func := "loop.example/lamson/laws.FnExactEndOk", spec := "fnExactEndOk", inPlace := ["internal/bytealg.IndexByteString"], unfollowed := true, recurses := true, apart := false, narrowed := true }
def FnExactEndOkUptoSaid : Prop := fnExactEndOkUptoRow.holds Try.pinned (OpenSpec.upto fnExactEndOkSpec)

/-- 'laws.FnExactWorldOk', WHERE WHAT IT READS IS OF BULK AT MOST 1048576: true; the input reads as it did. -/
def fnExactWorldOkUptoRow : OpenClaim := { program := "ytlpibelofcabhaa", sum := "d722a61eb20ddf20f96c87a106d58e8520fef276e86b7bc1aea4fa4bebc01095", func := "loop.example/lamson/laws.FnExactWorldOk", spec := "fnExactWorldOk", inPlace := ["internal/bytealg.IndexByteString"], unfollowed := true, recurses := true, apart := false, narrowed := true }
def FnExactWorldOkUptoSaid : Prop := fnExactWorldOkUptoRow.holds Try.pinned (OpenSpec.upto fnExactWorldOkSpec)

/-- 'laws.FnExactWorldFrames', WHERE WHAT IT READS IS OF BULK AT MOST 1048576: true; the input reads as it did. -/
def fnExactWorldFramesUptoRow : OpenClaim := { program := "ytlpibelofcabhaa", sum := "d722a61eb20ddf20f96c87a106d58e8520fef276e86b7bc1aea4fa4bebc01095", func := "loop.example/lamson/laws.FnExactWorldFrames", spec := "fnExactWorldFrames", inPlace := ["internal/bytealg.IndexByteString"], unfollowed := true, recurses := true, apart := false, narrowed := true }
def FnExactWorldFramesUptoSaid : Prop := fnExactWorldFramesUptoRow.holds Try.pinned (OpenSpec.upto fnExactWorldFramesSpec)

/-- 'laws.FnExactEndLeave', WHERE WHAT IT READS IS OF BULK AT MOST 1048576: true; the input reads as it did. -/
def fnExactEndLeaveUptoRow : OpenClaim := { program := "ytlpibelofcabhaa", sum := "d722a61eb20ddf20f96c87a106d58e8520fef276e86b7bc1aea4fa4bebc01095", func := "loop.example/lamson/laws.FnExactEndLeave", spec := "fnExactEndLeave", inPlace := ["internal/bytealg.IndexByteString"], unfollowed := true, recurses := true, apart := false, narrowed := true }
def FnExactEndLeaveUptoSaid : Prop := fnExactEndLeaveUptoRow.holds Try.pinned (OpenSpec.upto fnExactEndLeaveSpec)

end Rows
end Go.Proofs.Ytlpibelofcabhaa
