/-
  No cell of these rows narrows 'for every input' (looked for: loops, veiled, ifaces, maps, wideKeys, modest, calm, conditions, laid).
  DERIVED. THE GIVEN ROWS OF THIS SEAT. 6 by the template 'for every input the law returns true; each argument reads behind the call as it read before'; 0 by the template 'total and deterministic' (their statements: YtajjleldnobhmaaTotals.lean).
  GIVEN WITH THE SEED: the statements are not yours to turn. If you find one false, say at which input.
  Laid BY PROGRAM, IN A SANDBOX (cutbox-rows.mjs): the forced cells as the released guide's own fill.sh prints them over the translation ebdabe83f221c2d0… (all of the seat's roots in one cut). By AI agents, Wed Nov 11 2026. No macro, syntax, notation, axiom, sorry.
-/
import Derived.Test.YtajjleldnobhmaaChecked
import GoSem.Claim
import GoSem.ClaimJoined
import GoSem.ClaimMapViews
import Derived.JoinedTies
import Derived.KernelRfl
namespace Go.Proofs.Ytajjleldnobhmaa
/- THE CELL 'sum', in the pinned program and in every row, IS THE sha256 OF THE DUMP (.gsa) THAT YtajjleldnobhmaaProg.lean LOADS. Nothing in Lean hashes anything: it is a label: what it is worth is what the hold of that sum in a sandbox is worth. -/
noncomputable def Try.pinned : Pinned := { name := "ytajjleldnobhmaa", sum := "ebdabe83f221c2d0b30337904eac196b9c4a163aac985f9b61ab7e451ca629fe", checked := Try.checked }
namespace Rows
def none {H : Type} : Left H := { results := [], args := [] }

/-- 'laws.FnExactWordRead': WHATEVER THE INPUT: true; the input reads as it did. -/
def fnExactWordReadSpec : ChangeSpec := { name := "fnExactWordRead", fn := fun _ => fun
  | [d] => { results := [.lit (.bool true)], args := [d] }
  | _ => none }
def fnExactWordReadRow : OpenClaim := { program := "ytajjleldnobhmaa", sum := "ebdabe83f221c2d0b30337904eac196b9c4a163aac985f9b61ab7e451ca629fe", func := "loop.example/lamson/laws.FnExactWordRead", spec := "fnExactWordRead", inPlace := ["internal/bytealg.IndexByteString"], apart := false }
def FnExactWordReadSaid : Prop := fnExactWordReadRow.holds Try.pinned (OpenSpec.ofChange fnExactWordReadSpec)

/-- ITS FALSE NEIGHBOUR: 'it returns false'. Refute it at one input. -/
def fnExactWordReadWrong : ChangeSpec := { name := "fnExactWordRead", fn := fun _ => fun
  | [d] => { results := [.lit (.bool false)], args := [d] }
  | _ => none }
def FnExactWordReadWrongFalsely : Prop := fnExactWordReadRow.holds Try.pinned (OpenSpec.ofChange fnExactWordReadWrong)

/-- 'laws.FnWordBack': WHATEVER THE INPUT: true; the input reads as it did. -/
def fnWordBackSpec : ChangeSpec := { name := "fnWordBack", fn := fun _ => fun
  | [d1, d2] => { results := [.lit (.bool true)], args := [d1, d2] }
  | _ => none }
def fnWordBackRow : OpenClaim := { program := "ytajjleldnobhmaa", sum := "ebdabe83f221c2d0b30337904eac196b9c4a163aac985f9b61ab7e451ca629fe", func := "loop.example/lamson/laws.FnWordBack", spec := "fnWordBack", inPlace := ["internal/bytealg.IndexByteString"], apart := false }
def FnWordBackSaid : Prop := fnWordBackRow.holds Try.pinned (OpenSpec.ofChange fnWordBackSpec)

/-- ITS FALSE NEIGHBOUR: 'it returns false'. Refute it at one input. -/
def fnWordBackWrong : ChangeSpec := { name := "fnWordBack", fn := fun _ => fun
  | [d1, d2] => { results := [.lit (.bool false)], args := [d1, d2] }
  | _ => none }
def FnWordBackWrongFalsely : Prop := fnWordBackRow.holds Try.pinned (OpenSpec.ofChange fnWordBackWrong)

/-- 'laws.FnWordEither': WHATEVER THE INPUT: true; the input reads as it did. -/
def fnWordEitherSpec : ChangeSpec := { name := "fnWordEither", fn := fun _ => fun
  | [d] => { results := [.lit (.bool true)], args := [d] }
  | _ => none }
def fnWordEitherRow : OpenClaim := { program := "ytajjleldnobhmaa", sum := "ebdabe83f221c2d0b30337904eac196b9c4a163aac985f9b61ab7e451ca629fe", func := "loop.example/lamson/laws.FnWordEither", spec := "fnWordEither", inPlace := ["internal/bytealg.IndexByteString"], apart := false }
def FnWordEitherSaid : Prop := fnWordEitherRow.holds Try.pinned (OpenSpec.ofChange fnWordEitherSpec)

/-- ITS FALSE NEIGHBOUR: 'it returns false'. Refute it at one input. -/
def fnWordEitherWrong : ChangeSpec := { name := "fnWordEither", fn := fun _ => fun
  | [d] => { results := [.lit (.bool false)], args := [d] }
  | _ => none }
def FnWordEitherWrongFalsely : Prop := fnWordEitherRow.holds Try.pinned (OpenSpec.ofChange fnWordEitherWrong)

/-- 'laws.FnWordLack': WHATEVER THE INPUT: true; the input reads as it did. -/
def fnWordLackSpec : ChangeSpec := { name := "fnWordLack", fn := fun _ => fun
  | [d1, d2] => { results := [.lit (.bool true)], args := [d1, d2] }
  | _ => none }
def fnWordLackRow : OpenClaim := { program := "ytajjleldnobhmaa", sum := "ebdabe83f221c2d0b30337904eac196b9c4a163aac985f9b61ab7e451ca629fe", func := "loop.example/lamson/laws.FnWordLack", spec := "fnWordLack", inPlace := ["internal/bytealg.IndexByteString"], apart := false }
def FnWordLackSaid : Prop := fnWordLackRow.holds Try.pinned (OpenSpec.ofChange fnWordLackSpec)

/-- ITS FALSE NEIGHBOUR: 'it returns false'. Refute it at one input. -/
def fnWordLackWrong : ChangeSpec := { name := "fnWordLack", fn := fun _ => fun
  | [d1, d2] => { results := [.lit (.bool false)], args := [d1, d2] }
  | _ => none }
def FnWordLackWrongFalsely : Prop := fnWordLackRow.holds Try.pinned (OpenSpec.ofChange fnWordLackWrong)

/-- 'laws.FnWordTwo': WHATEVER THE INPUT: true; the input reads as it did. -/
def fnWordTwoSpec : ChangeSpec := { name := "fnWordTwo", fn := fun _ => fun
  | [d1, d2] => { results := [.lit (.bool true)], args := [d1, d2] }
  | _ => none }
def fnWordTwoRow : OpenClaim := { program := "ytajjleldnobhmaa", sum := "ebdabe83f221c2d0b30337904eac196b9c4a163aac985f9b61ab7e451ca629fe", func := "loop.example/lamson/laws.FnWordTwo", spec := "fnWordTwo", inPlace := ["internal/bytealg.IndexByteString"], apart := false }
def FnWordTwoSaid : Prop := fnWordTwoRow.holds Try.pinned (OpenSpec.ofChange fnWordTwoSpec)

/-- ITS FALSE NEIGHBOUR: 'it returns false'. Refute it at one input. -/
def fnWordTwoWrong : ChangeSpec := { name := "fnWordTwo", fn := fun _ => fun
  | [d1, d2] => { results := [.lit (.bool false)], args := [d1, d2] }
  | _ => none }
def FnWordTwoWrongFalsely : Prop := fnWordTwoRow.holds Try.pinned (OpenSpec.ofChange fnWordTwoWrong)

/-- 'laws.FnWordRead': WHATEVER THE INPUT: true; the input reads as it did. -/
def fnWordReadSpec : ChangeSpec := { name := "fnWordRead", fn := fun _ => fun
  | [d] => { results := [.lit (.bool true)], args := [d] }
  | _ => none }
def fnWordReadRow : OpenClaim := { program := "ytajjleldnobhmaa", sum := "ebdabe83f221c2d0b30337904eac196b9c4a163aac985f9b61ab7e451ca629fe", func := "loop.example/lamson/laws.FnWordRead", spec := "fnWordRead", inPlace := ["internal/bytealg.IndexByteString"], apart := false }
def FnWordReadSaid : Prop := fnWordReadRow.holds Try.pinned (OpenSpec.ofChange fnWordReadSpec)

/-- ITS FALSE NEIGHBOUR: 'it returns false'. Refute it at one input. -/
def fnWordReadWrong : ChangeSpec := { name := "fnWordRead", fn := fun _ => fun
  | [d] => { results := [.lit (.bool false)], args := [d] }
  | _ => none }
def FnWordReadWrongFalsely : Prop := fnWordReadRow.holds Try.pinned (OpenSpec.ofChange fnWordReadWrong)

/- THE SECOND FORM. 'bulk': how many values and letters a reading holds, each counted each time it is reached (what is shared counts as often as it is met; a slice's spare places count too). A statement '..UptoSaid' is the law's where the arguments, and the package variables that the reading takes, are together of bulk at most 1048576: NARROWER than '..Said'. Prove '..Said' where nothing that the law and all that it calls make is longer than what came in: it says more and counts as full. Else prove '..UptoSaid'. A law counts once. -/
mutual
def uptoBulk {H : Type} : DataW H → Nat
  | .lit (.string bytes) => bytes.length + 1
  | .lit _ => 1
  | .nil => 1
  | .ptr d => uptoBulk d + 1
  | .slice elems spare => uptoBulkAll elems + uptoBulkAll spare + 1
  | .agg parts => uptoBulkAll parts + 1
  | .iface _ d => uptoBulk d + 1
  | .map entries => uptoBulkEntries entries + 1
  | .held _ => 1
def uptoBulkAll {H : Type} : List (DataW H) → Nat
  | [] => 0
  | d :: r => uptoBulk d + uptoBulkAll r
def uptoBulkEntries {H : Type} : List (Lit × DataW H) → Nat
  | [] => 0
  | x :: r => uptoBulkEntry x + uptoBulkEntries r
def uptoBulkEntry {H : Type} : Lit × DataW H → Nat
  | (.string bytes, d) => bytes.length + uptoBulk d + 1
  | (_, d) => uptoBulk d + 1
 end
def uptoSmall : (H : Type) → List (DataW H) → Bool := fun _ ds => decide (uptoBulkAll ds ≤ 1048576)
def OpenSpec.upto (s : _root_.Go.ChangeSpec) : _root_.Go.OpenSpec := { _root_.Go.OpenSpec.ofChange s with cond := some uptoSmall }

/-- 'laws.FnExactWordRead', WHERE WHAT IT READS IS OF BULK AT MOST 1048576: true; the input reads as it did. -/
def fnExactWordReadUptoRow : OpenClaim := { program := "ytajjleldnobhmaa", sum := "ebdabe83f221c2d0b30337904eac196b9c4a163aac985f9b61ab7e451ca629fe", func := "loop.example/lamson/laws.FnExactWordRead", spec := "fnExactWordRead", inPlace := ["internal/bytealg.IndexByteString"], apart := false, narrowed := true }
def FnExactWordReadUptoSaid : Prop := fnExactWordReadUptoRow.holds Try.pinned (OpenSpec.upto fnExactWordReadSpec)

/-- 'laws.FnWordBack', WHERE WHAT IT READS IS OF BULK AT MOST 1048576: true; the input reads as it did. -/
def fnWordBackUptoRow : OpenClaim := { program := "ytajjleldnobhmaa", sum := "ebdabe83f221c2d0b30337904eac196b9c4a163aac985f9b61ab7e451ca629fe", func := "loop.example/lamson/laws.FnWordBack", spec := "fnWordBack", inPlace := ["internal/bytealg.IndexByteString"], apart := false, narrowed := true }
def FnWordBackUptoSaid : Prop := fnWordBackUptoRow.holds Try.pinned (OpenSpec.upto fnWordBackSpec)

/-- 'laws.FnWordEither', WHERE WHAT IT READS IS OF BULK AT MOST 1048576: true; the input reads as it did. -/
def fnWordEitherUptoRow : OpenClaim := { program := "ytajjleldnobhmaa", sum := "ebdabe83f221c2d0b30337904eac196b9c4a163aac985f9b61ab7e451ca629fe", func := "loop.example/lamson/laws.FnWordEither", spec := "fnWordEither", inPlace := ["internal/bytealg.IndexByteString"], apart := false, narrowed := true }
def FnWordEitherUptoSaid : Prop := fnWordEitherUptoRow.holds Try.pinned (OpenSpec.upto fnWordEitherSpec)

/-- 'laws.FnWordLack', WHERE WHAT IT READS IS OF BULK AT MOST 1048576: true; the input reads as it did. -/
def fnWordLackUptoRow : OpenClaim := { program := "ytajjleldnobhmaa", sum := "ebdabe83f221c2d0b30337904eac196b9c4a163aac985f9b61ab7e451ca629fe", func := "loop.example/lamson/laws.FnWordLack", spec := "fnWordLack", inPlace := ["internal/bytealg.IndexByteString"], apart := false, narrowed := true }
def FnWordLackUptoSaid : Prop := fnWordLackUptoRow.holds Try.pinned (OpenSpec.upto fnWordLackSpec)

/-- 'laws.FnWordTwo', WHERE WHAT IT READS IS OF BULK AT MOST 1048576: true; the input reads as it did. -/
def fnWordTwoUptoRow : OpenClaim := { program := "ytajjleldnobhmaa", sum := "ebdabe83f221c2d0b30337904eac196b9c4a163aac985f9b61ab7e451ca629fe", func := "loop.example/lamson/laws.FnWordTwo", spec := "fnWordTwo", inPlace := ["internal/bytealg.IndexByteString"], apart := false, narrowed := true }
def FnWordTwoUptoSaid : Prop := fnWordTwoUptoRow.holds Try.pinned (OpenSpec.upto fnWordTwoSpec)

/-- 'laws.FnWordRead', WHERE WHAT IT READS IS OF BULK AT MOST 1048576: true; the input reads as it did. -/
def fnWordReadUptoRow : OpenClaim := { program := "ytajjleldnobhmaa", sum := "ebdabe83f221c2d0b30337904eac196b9c4a163aac985f9b61ab7e451ca629fe", func := "loop.example/lamson/laws.FnWordRead", spec := "fnWordRead", inPlace := ["internal/bytealg.IndexByteString"], apart := false, narrowed := true }
def FnWordReadUptoSaid : Prop := fnWordReadUptoRow.holds Try.pinned (OpenSpec.upto fnWordReadSpec)

end Rows
end Go.Proofs.Ytajjleldnobhmaa
