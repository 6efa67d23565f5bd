/-
  No cell of these rows narrows 'for every input' (looked for: loops, veiled, ifaces, maps, wideKeys, modest, calm, conditions, laid).
  DERIVED. THE GIVEN ROWS OF THIS SEAT. 12 by the template 'for every input the law returns true; each argument reads behind the call as it read before'; 0 by the template 'total and deterministic' (their statements: YtiafobkkngngoaaTotals.lean).
  GIVEN WITH THE SEED: the statements are not yours to turn. If you find one false, say at which input.
  Laid BY PROGRAM, IN A SANDBOX (cutbox-rows.mjs): the forced cells as the released guide's own fill.sh prints them over the translation 98f77da738aa10bf… (all of the seat's roots in one cut). By AI agents, Wed Nov 11 2026. No macro, syntax, notation, axiom, sorry.
-/
import Derived.Test.YtiafobkkngngoaaChecked
import GoSem.Claim
import GoSem.ClaimJoined
import GoSem.ClaimMapViews
import Derived.JoinedTies
import Derived.KernelRfl
namespace Go.Proofs.Ytiafobkkngngoaa
/- THE CELL 'sum', in the pinned program and in every row, IS THE sha256 OF THE DUMP (.gsa) THAT YtiafobkkngngoaaProg.lean LOADS. Nothing in Lean hashes anything: it is a label: what it is worth is what the hold of that sum in a sandbox is worth. -/
noncomputable def Try.pinned : Pinned := { name := "ytiafobkkngngoaa", sum := "98f77da738aa10bfdac40f0192ebe29d2a5d44711b7a780e81013443c5b2d419", checked := Try.checked }
namespace Rows
def none {H : Type} : Left H := { results := [], args := [] }

/-- 'laws.FnFlowMore': WHATEVER THE INPUT: true; the input reads as it did. -/
def fnFlowMoreSpec : ChangeSpec := { name := "fnFlowMore", fn := fun _ => fun
  | [d] => { results := [.lit (.bool true)], args := [d] }
  | _ => none }
def fnFlowMoreRow : OpenClaim := { program := "ytiafobkkngngoaa", sum := "98f77da738aa10bfdac40f0192ebe29d2a5d44711b7a780e81013443c5b2d419", func := "loop.example/lamson/laws.FnFlowMore", spec := "fnFlowMore", apart := false }
def FnFlowMoreSaid : Prop := fnFlowMoreRow.holds Try.pinned (OpenSpec.ofChange fnFlowMoreSpec)

/-- ITS FALSE NEIGHBOUR: 'it returns false'. Refute it at one input. -/
def fnFlowMoreWrong : ChangeSpec := { name := "fnFlowMore", fn := fun _ => fun
  | [d] => { results := [.lit (.bool false)], args := [d] }
  | _ => none }
def FnFlowMoreWrongFalsely : Prop := fnFlowMoreRow.holds Try.pinned (OpenSpec.ofChange fnFlowMoreWrong)

/-- 'laws.FnFlowGot': WHATEVER THE INPUT: true; the input reads as it did. -/
def fnFlowGotSpec : ChangeSpec := { name := "fnFlowGot", fn := fun _ => fun
  | [d] => { results := [.lit (.bool true)], args := [d] }
  | _ => none }
def fnFlowGotRow : OpenClaim := { program := "ytiafobkkngngoaa", sum := "98f77da738aa10bfdac40f0192ebe29d2a5d44711b7a780e81013443c5b2d419", func := "loop.example/lamson/laws.FnFlowGot", spec := "fnFlowGot", apart := false }
def FnFlowGotSaid : Prop := fnFlowGotRow.holds Try.pinned (OpenSpec.ofChange fnFlowGotSpec)

/-- ITS FALSE NEIGHBOUR: 'it returns false'. Refute it at one input. -/
def fnFlowGotWrong : ChangeSpec := { name := "fnFlowGot", fn := fun _ => fun
  | [d] => { results := [.lit (.bool false)], args := [d] }
  | _ => none }
def FnFlowGotWrongFalsely : Prop := fnFlowGotRow.holds Try.pinned (OpenSpec.ofChange fnFlowGotWrong)

/-- 'laws.FnExactWordPack': WHATEVER THE INPUT: true; the input reads as it did. -/
def fnExactWordPackSpec : ChangeSpec := { name := "fnExactWordPack", fn := fun _ => fun
  | [d] => { results := [.lit (.bool true)], args := [d] }
  | _ => none }
def fnExactWordPackRow : OpenClaim := { program := "ytiafobkkngngoaa", sum := "98f77da738aa10bfdac40f0192ebe29d2a5d44711b7a780e81013443c5b2d419", func := "loop.example/lamson/laws.FnExactWordPack", spec := "fnExactWordPack", inPlace := ["internal/bytealg.IndexByteString"], apart := false }
def FnExactWordPackSaid : Prop := fnExactWordPackRow.holds Try.pinned (OpenSpec.ofChange fnExactWordPackSpec)

/-- ITS FALSE NEIGHBOUR: 'it returns false'. Refute it at one input. -/
def fnExactWordPackWrong : ChangeSpec := { name := "fnExactWordPack", fn := fun _ => fun
  | [d] => { results := [.lit (.bool false)], args := [d] }
  | _ => none }
def FnExactWordPackWrongFalsely : Prop := fnExactWordPackRow.holds Try.pinned (OpenSpec.ofChange fnExactWordPackWrong)

/-- 'laws.FnExactWordUnpack': WHATEVER THE INPUT: true; the input reads as it did. -/
def fnExactWordUnpackSpec : ChangeSpec := { name := "fnExactWordUnpack", fn := fun _ => fun
  | [d] => { results := [.lit (.bool true)], args := [d] }
  | _ => none }
def fnExactWordUnpackRow : OpenClaim := { program := "ytiafobkkngngoaa", sum := "98f77da738aa10bfdac40f0192ebe29d2a5d44711b7a780e81013443c5b2d419", func := "loop.example/lamson/laws.FnExactWordUnpack", spec := "fnExactWordUnpack", inPlace := ["internal/bytealg.IndexByteString"], apart := false }
def FnExactWordUnpackSaid : Prop := fnExactWordUnpackRow.holds Try.pinned (OpenSpec.ofChange fnExactWordUnpackSpec)

/-- ITS FALSE NEIGHBOUR: 'it returns false'. Refute it at one input. -/
def fnExactWordUnpackWrong : ChangeSpec := { name := "fnExactWordUnpack", fn := fun _ => fun
  | [d] => { results := [.lit (.bool false)], args := [d] }
  | _ => none }
def FnExactWordUnpackWrongFalsely : Prop := fnExactWordUnpackRow.holds Try.pinned (OpenSpec.ofChange fnExactWordUnpackWrong)

/-- 'laws.FnPackBegins': WHATEVER THE INPUT: true; the input reads as it did. -/
def fnPackBeginsSpec : ChangeSpec := { name := "fnPackBegins", fn := fun _ => fun
  | [d1, d2] => { results := [.lit (.bool true)], args := [d1, d2] }
  | _ => none }
def fnPackBeginsRow : OpenClaim := { program := "ytiafobkkngngoaa", sum := "98f77da738aa10bfdac40f0192ebe29d2a5d44711b7a780e81013443c5b2d419", func := "loop.example/lamson/laws.FnPackBegins", spec := "fnPackBegins", inPlace := ["internal/bytealg.IndexByteString"], apart := false }
def FnPackBeginsSaid : Prop := fnPackBeginsRow.holds Try.pinned (OpenSpec.ofChange fnPackBeginsSpec)

/-- ITS FALSE NEIGHBOUR: 'it returns false'. Refute it at one input. -/
def fnPackBeginsWrong : ChangeSpec := { name := "fnPackBegins", fn := fun _ => fun
  | [d1, d2] => { results := [.lit (.bool false)], args := [d1, d2] }
  | _ => none }
def FnPackBeginsWrongFalsely : Prop := fnPackBeginsRow.holds Try.pinned (OpenSpec.ofChange fnPackBeginsWrong)

/-- 'laws.FnPackLong': WHATEVER THE INPUT: true; the input reads as it did. -/
def fnPackLongSpec : ChangeSpec := { name := "fnPackLong", fn := fun _ => fun
  | [d1, d2] => { results := [.lit (.bool true)], args := [d1, d2] }
  | _ => none }
def fnPackLongRow : OpenClaim := { program := "ytiafobkkngngoaa", sum := "98f77da738aa10bfdac40f0192ebe29d2a5d44711b7a780e81013443c5b2d419", func := "loop.example/lamson/laws.FnPackLong", spec := "fnPackLong", inPlace := ["internal/bytealg.IndexByteString"], apart := false }
def FnPackLongSaid : Prop := fnPackLongRow.holds Try.pinned (OpenSpec.ofChange fnPackLongSpec)

/-- ITS FALSE NEIGHBOUR: 'it returns false'. Refute it at one input. -/
def fnPackLongWrong : ChangeSpec := { name := "fnPackLong", fn := fun _ => fun
  | [d1, d2] => { results := [.lit (.bool false)], args := [d1, d2] }
  | _ => none }
def FnPackLongWrongFalsely : Prop := fnPackLongRow.holds Try.pinned (OpenSpec.ofChange fnPackLongWrong)

/-- 'laws.FnExactWordWrite': WHATEVER THE INPUT: true; the input reads as it did. -/
def fnExactWordWriteSpec : ChangeSpec := { name := "fnExactWordWrite", fn := fun _ => fun
  | [d] => { results := [.lit (.bool true)], args := [d] }
  | _ => none }
def fnExactWordWriteRow : OpenClaim := { program := "ytiafobkkngngoaa", sum := "98f77da738aa10bfdac40f0192ebe29d2a5d44711b7a780e81013443c5b2d419", func := "loop.example/lamson/laws.FnExactWordWrite", spec := "fnExactWordWrite", inPlace := ["internal/bytealg.IndexByteString"], apart := false }
def FnExactWordWriteSaid : Prop := fnExactWordWriteRow.holds Try.pinned (OpenSpec.ofChange fnExactWordWriteSpec)

/-- ITS FALSE NEIGHBOUR: 'it returns false'. Refute it at one input. -/
def fnExactWordWriteWrong : ChangeSpec := { name := "fnExactWordWrite", fn := fun _ => fun
  | [d] => { results := [.lit (.bool false)], args := [d] }
  | _ => none }
def FnExactWordWriteWrongFalsely : Prop := fnExactWordWriteRow.holds Try.pinned (OpenSpec.ofChange fnExactWordWriteWrong)

/-- 'laws.FnPackOne': WHATEVER THE INPUT: true; the input reads as it did. -/
def fnPackOneSpec : ChangeSpec := { name := "fnPackOne", fn := fun _ => fun
  | [d1, d2] => { results := [.lit (.bool true)], args := [d1, d2] }
  | _ => none }
def fnPackOneRow : OpenClaim := { program := "ytiafobkkngngoaa", sum := "98f77da738aa10bfdac40f0192ebe29d2a5d44711b7a780e81013443c5b2d419", func := "loop.example/lamson/laws.FnPackOne", spec := "fnPackOne", inPlace := ["internal/bytealg.IndexByteString"], apart := false }
def FnPackOneSaid : Prop := fnPackOneRow.holds Try.pinned (OpenSpec.ofChange fnPackOneSpec)

/-- ITS FALSE NEIGHBOUR: 'it returns false'. Refute it at one input. -/
def fnPackOneWrong : ChangeSpec := { name := "fnPackOne", fn := fun _ => fun
  | [d1, d2] => { results := [.lit (.bool false)], args := [d1, d2] }
  | _ => none }
def FnPackOneWrongFalsely : Prop := fnPackOneRow.holds Try.pinned (OpenSpec.ofChange fnPackOneWrong)

/-- 'laws.FnPackBack': WHATEVER THE INPUT: true; the input reads as it did. -/
def fnPackBackSpec : ChangeSpec := { name := "fnPackBack", fn := fun _ => fun
  | [d] => { results := [.lit (.bool true)], args := [d] }
  | _ => none }
def fnPackBackRow : OpenClaim := { program := "ytiafobkkngngoaa", sum := "98f77da738aa10bfdac40f0192ebe29d2a5d44711b7a780e81013443c5b2d419", func := "loop.example/lamson/laws.FnPackBack", spec := "fnPackBack", inPlace := ["internal/bytealg.IndexByteString"], apart := false }
def FnPackBackSaid : Prop := fnPackBackRow.holds Try.pinned (OpenSpec.ofChange fnPackBackSpec)

/-- ITS FALSE NEIGHBOUR: 'it returns false'. Refute it at one input. -/
def fnPackBackWrong : ChangeSpec := { name := "fnPackBack", fn := fun _ => fun
  | [d] => { results := [.lit (.bool false)], args := [d] }
  | _ => none }
def FnPackBackWrongFalsely : Prop := fnPackBackRow.holds Try.pinned (OpenSpec.ofChange fnPackBackWrong)

/-- 'laws.FnPackOnes': WHATEVER THE INPUT: true; the input reads as it did. -/
def fnPackOnesSpec : ChangeSpec := { name := "fnPackOnes", fn := fun _ => fun
  | [d] => { results := [.lit (.bool true)], args := [d] }
  | _ => none }
def fnPackOnesRow : OpenClaim := { program := "ytiafobkkngngoaa", sum := "98f77da738aa10bfdac40f0192ebe29d2a5d44711b7a780e81013443c5b2d419", func := "loop.example/lamson/laws.FnPackOnes", spec := "fnPackOnes", inPlace := ["internal/bytealg.IndexByteString"], apart := false }
def FnPackOnesSaid : Prop := fnPackOnesRow.holds Try.pinned (OpenSpec.ofChange fnPackOnesSpec)

/-- ITS FALSE NEIGHBOUR: 'it returns false'. Refute it at one input. -/
def fnPackOnesWrong : ChangeSpec := { name := "fnPackOnes", fn := fun _ => fun
  | [d] => { results := [.lit (.bool false)], args := [d] }
  | _ => none }
def FnPackOnesWrongFalsely : Prop := fnPackOnesRow.holds Try.pinned (OpenSpec.ofChange fnPackOnesWrong)

/-- 'laws.FnWordShort': WHATEVER THE INPUT: true; the input reads as it did. -/
def fnWordShortSpec : ChangeSpec := { name := "fnWordShort", fn := fun _ => fun
  | [d] => { results := [.lit (.bool true)], args := [d] }
  | _ => none }
def fnWordShortRow : OpenClaim := { program := "ytiafobkkngngoaa", sum := "98f77da738aa10bfdac40f0192ebe29d2a5d44711b7a780e81013443c5b2d419", func := "loop.example/lamson/laws.FnWordShort", spec := "fnWordShort", inPlace := ["internal/bytealg.IndexByteString"], apart := false }
def FnWordShortSaid : Prop := fnWordShortRow.holds Try.pinned (OpenSpec.ofChange fnWordShortSpec)

/-- ITS FALSE NEIGHBOUR: 'it returns false'. Refute it at one input. -/
def fnWordShortWrong : ChangeSpec := { name := "fnWordShort", fn := fun _ => fun
  | [d] => { results := [.lit (.bool false)], args := [d] }
  | _ => none }
def FnWordShortWrongFalsely : Prop := fnWordShortRow.holds Try.pinned (OpenSpec.ofChange fnWordShortWrong)

/-- 'laws.FnPackStrict': WHATEVER THE INPUT: true; the input reads as it did. -/
def fnPackStrictSpec : ChangeSpec := { name := "fnPackStrict", fn := fun _ => fun
  | [d] => { results := [.lit (.bool true)], args := [d] }
  | _ => none }
def fnPackStrictRow : OpenClaim := { program := "ytiafobkkngngoaa", sum := "98f77da738aa10bfdac40f0192ebe29d2a5d44711b7a780e81013443c5b2d419", func := "loop.example/lamson/laws.FnPackStrict", spec := "fnPackStrict", inPlace := ["internal/bytealg.IndexByteString"], apart := false }
def FnPackStrictSaid : Prop := fnPackStrictRow.holds Try.pinned (OpenSpec.ofChange fnPackStrictSpec)

/-- ITS FALSE NEIGHBOUR: 'it returns false'. Refute it at one input. -/
def fnPackStrictWrong : ChangeSpec := { name := "fnPackStrict", fn := fun _ => fun
  | [d] => { results := [.lit (.bool false)], args := [d] }
  | _ => none }
def FnPackStrictWrongFalsely : Prop := fnPackStrictRow.holds Try.pinned (OpenSpec.ofChange fnPackStrictWrong)

/- THE SECOND FORM. 'bulk': how many values and letters a reading holds, each counted each time it is reached (what is shared counts as often as it is met; a slice's spare places count too). A statement '..UptoSaid' is the law's where the arguments, and the package variables that the reading takes, are together of bulk at most 1048576: NARROWER than '..Said'. Prove '..Said' where nothing that the law and all that it calls make is longer than what came in: it says more and counts as full. Else prove '..UptoSaid'. A law counts once. -/
mutual
def uptoBulk {H : Type} : DataW H → Nat
  | .lit (.string bytes) => bytes.length + 1
  | .lit _ => 1
  | .nil => 1
  | .ptr d => uptoBulk d + 1
  | .slice elems spare => uptoBulkAll elems + uptoBulkAll spare + 1
  | .agg parts => uptoBulkAll parts + 1
  | .iface _ d => uptoBulk d + 1
  | .map entries => uptoBulkEntries entries + 1
  | .held _ => 1
def uptoBulkAll {H : Type} : List (DataW H) → Nat
  | [] => 0
  | d :: r => uptoBulk d + uptoBulkAll r
def uptoBulkEntries {H : Type} : List (Lit × DataW H) → Nat
  | [] => 0
  | x :: r => uptoBulkEntry x + uptoBulkEntries r
def uptoBulkEntry {H : Type} : Lit × DataW H → Nat
  | (.string bytes, d) => bytes.length + uptoBulk d + 1
  | (_, d) => uptoBulk d + 1
 end
def uptoSmall : (H : Type) → List (DataW H) → Bool := fun _ ds => decide (uptoBulkAll ds ≤ 1048576)
def OpenSpec.upto (s : _root_.Go.ChangeSpec) : _root_.Go.OpenSpec := { _root_.Go.OpenSpec.ofChange s with cond := some uptoSmall }

/-- 'laws.FnFlowMore', WHERE WHAT IT READS IS OF BULK AT MOST 1048576: true; the input reads as it did. -/
def fnFlowMoreUptoRow : OpenClaim := { program := "ytiafobkkngngoaa", sum := "98f77da738aa10bfdac40f0192ebe29d2a5d44711b7a780e81013443c5b2d419", func := "loop.example/lamson/laws.FnFlowMore", spec := "fnFlowMore", apart := false, narrowed := true }
def FnFlowMoreUptoSaid : Prop := fnFlowMoreUptoRow.holds Try.pinned (OpenSpec.upto fnFlowMoreSpec)

/-- 'laws.FnFlowGot', WHERE WHAT IT READS IS OF BULK AT MOST 1048576: true; the input reads as it did. -/
def fnFlowGotUptoRow : OpenClaim := { program := "ytiafobkkngngoaa", sum := "98f77da738aa10bfdac40f0192ebe29d2a5d44711b7a780e81013443c5b2d419", func := "loop.example/lamson/laws.FnFlowGot", spec := "fnFlowGot", apart := false, narrowed := true }
def FnFlowGotUptoSaid : Prop := fnFlowGotUptoRow.holds Try.pinned (OpenSpec.upto fnFlowGotSpec)

/-- 'laws.FnExactWordPack', WHERE WHAT IT READS IS OF BULK AT MOST 1048576: true; the input reads as it did. -/
def fnExactWordPackUptoRow : OpenClaim := { program := "ytiafobkkngngoaa", sum := "98f77da738aa10bfdac40f0192ebe29d2a5d44711b7a780e81013443c5b2d419", func := "loop.example/lamson/laws.FnExactWordPack", spec := "fnExactWordPack", inPlace := ["internal/bytealg.IndexByteString"], apart := false, narrowed := true }
def FnExactWordPackUptoSaid : Prop := fnExactWordPackUptoRow.holds Try.pinned (OpenSpec.upto fnExactWordPackSpec)

/-- 'laws.FnExactWordUnpack', WHERE WHAT IT READS IS OF BULK AT MOST 1048576: true; the input reads as it did. -/
def fnExactWordUnpackUptoRow : OpenClaim := { program := "ytiafobkkngngoaa", sum := "98f77da738aa10bfdac40f0192ebe29d2a5d44711b7a780e81013443c5b2d419", func := "loop.example/lamson/laws.FnExactWordUnpack", spec := "fnExactWordUnpack", inPlace := ["internal/bytealg.IndexByteString"], apart := false, narrowed := true }
def FnExactWordUnpackUptoSaid : Prop := fnExactWordUnpackUptoRow.holds Try.pinned (OpenSpec.upto fnExactWordUnpackSpec)

/-- 'laws.FnPackBegins', WHERE WHAT IT READS IS OF BULK AT MOST 1048576: true; the input reads as it did. -/
def fnPackBeginsUptoRow : OpenClaim := { program := "ytiafobkkngngoaa", sum := "98f77da738aa10bfdac40f0192ebe29d2a5d44711b7a780e81013443c5b2d419", func := "loop.example/lamson/laws.FnPackBegins", spec := "fnPackBegins", inPlace := ["internal/bytealg.IndexByteString"], apart := false, narrowed := true }
def FnPackBeginsUptoSaid : Prop := fnPackBeginsUptoRow.holds Try.pinned (OpenSpec.upto fnPackBeginsSpec)

/-- 'laws.FnPackLong', WHERE WHAT IT READS IS OF BULK AT MOST 1048576: true; the input reads as it did. -/
def fnPackLongUptoRow : OpenClaim := { program := "ytiafobkkngngoaa", sum := "98f77da738aa10bfdac40f0192ebe29d2a5d44711b7a780e81013443c5b2d419", func := "loop.example/lamson/laws.FnPackLong", spec := "fnPackLong", inPlace := ["internal/bytealg.IndexByteString"], apart := false, narrowed := true }
def FnPackLongUptoSaid : Prop := fnPackLongUptoRow.holds Try.pinned (OpenSpec.upto fnPackLongSpec)

/-- 'laws.FnExactWordWrite', WHERE WHAT IT READS IS OF BULK AT MOST 1048576: true; the input reads as it did. -/
def fnExactWordWriteUptoRow : OpenClaim := { program := "ytiafobkkngngoaa", sum := "98f77da738aa10bfdac40f0192ebe29d2a5d44711b7a780e81013443c5b2d419", func := "loop.example/lamson/laws.FnExactWordWrite", spec := "fnExactWordWrite", inPlace := ["internal/bytealg.IndexByteString"], apart := false, narrowed := true }
def FnExactWordWriteUptoSaid : Prop := fnExactWordWriteUptoRow.holds Try.pinned (OpenSpec.upto fnExactWordWriteSpec)

/-- 'laws.FnPackOne', WHERE WHAT IT READS IS OF BULK AT MOST 1048576: true; the input reads as it did. -/
def fnPackOneUptoRow : OpenClaim := { program := "ytiafobkkngngoaa", sum := "98f77da738aa10bfdac40f0192ebe29d2a5d44711b7a780e81013443c5b2d419", func := "loop.example/lamson/laws.FnPackOne", spec := "fnPackOne", inPlace := ["internal/bytealg.IndexByteString"], apart := false, narrowed := true }
def FnPackOneUptoSaid : Prop := fnPackOneUptoRow.holds Try.pinned (OpenSpec.upto fnPackOneSpec)

/-- 'laws.FnPackBack', WHERE WHAT IT READS IS OF BULK AT MOST 1048576: true; the input reads as it did. -/
def fnPackBackUptoRow : OpenClaim := { program := "ytiafobkkngngoaa", sum := "98f77da738aa10bfdac40f0192ebe29d2a5d44711b7a780e81013443c5b2d419", func := "loop.example/lamson/laws.FnPackBack", spec := "fnPackBack", inPlace := ["internal/bytealg.IndexByteString"], apart := false, narrowed := true }
def FnPackBackUptoSaid : Prop := fnPackBackUptoRow.holds Try.pinned (OpenSpec.upto fnPackBackSpec)

/-- 'laws.FnPackOnes', WHERE WHAT IT READS IS OF BULK AT MOST 1048576: true; the input reads as it did. -/
def fnPackOnesUptoRow : OpenClaim := { program := "ytiafobkkngngoaa", sum := "98f77da738aa10bfdac40f0192ebe29d2a5d44711b7a780e81013443c5b2d419", func := "loop.example/lamson/laws.FnPackOnes", spec := "fnPackOnes", inPlace := ["internal/bytealg.IndexByteString"], apart := false, narrowed := true }
def FnPackOnesUptoSaid : Prop := fnPackOnesUptoRow.holds Try.pinned (OpenSpec.upto fnPackOnesSpec)

/-- 'laws.FnWordShort', WHERE WHAT IT READS IS OF BULK AT MOST 1048576: true; the input reads as it did. -/
def fnWordShortUptoRow : OpenClaim := { program := "ytiafobkkngngoaa", sum := "98f77da738aa10bfdac40f0192ebe29d2a5d44711b7a780e81013443c5b2d419", func := "loop.example/lamson/laws.FnWordShort", spec := "fnWordShort", inPlace := ["internal/bytealg.IndexByteString"], apart := false, narrowed := true }
def FnWordShortUptoSaid : Prop := fnWordShortUptoRow.holds Try.pinned (OpenSpec.upto fnWordShortSpec)

/-- 'laws.FnPackStrict', WHERE WHAT IT READS IS OF BULK AT MOST 1048576: true; the input reads as it did. -/
def fnPackStrictUptoRow : OpenClaim := { program := "ytiafobkkngngoaa", sum := "98f77da738aa10bfdac40f0192ebe29d2a5d44711b7a780e81013443c5b2d419", func := "loop.example/lamson/laws.FnPackStrict", spec := "fnPackStrict", inPlace := ["internal/bytealg.IndexByteString"], apart := false, narrowed := true }
def FnPackStrictUptoSaid : Prop := fnPackStrictUptoRow.holds Try.pinned (OpenSpec.upto fnPackStrictSpec)

end Rows
end Go.Proofs.Ytiafobkkngngoaa
