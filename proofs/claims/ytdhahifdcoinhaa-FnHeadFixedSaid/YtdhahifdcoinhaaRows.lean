/-
  No cell of these rows narrows 'for every input' (looked for: loops, veiled, ifaces, maps, wideKeys, modest, calm, conditions, laid).
  DERIVED. THE GIVEN ROWS OF THIS SEAT. 12 by the template 'for every input the law returns true; each argument reads behind the call as it read before'; 0 by the template 'total and deterministic' (their statements: YtdhahifdcoinhaaTotals.lean).
  GIVEN WITH THE SEED: the statements are not yours to turn. If you find one false, say at which input.
  Laid BY PROGRAM, IN A SANDBOX (cutbox-rows.mjs): the forced cells as the released guide's own fill.sh prints them over the translation 7ff7f72ad47b0ec5… (all of the seat's roots in one cut). By AI agents, Wed Nov 11 2026. No macro, syntax, notation, axiom, sorry.
-/
import Derived.Test.YtdhahifdcoinhaaChecked
import GoSem.Claim
import GoSem.ClaimJoined
import GoSem.ClaimMapViews
import Derived.JoinedTies
import Derived.KernelRfl
namespace Go.Proofs.Ytdhahifdcoinhaa
/- THE CELL 'sum', in the pinned program and in every row, IS THE sha256 OF THE DUMP (.gsa) THAT YtdhahifdcoinhaaProg.lean LOADS. Nothing in Lean hashes anything: it is a label: what it is worth is what the hold of that sum in a sandbox is worth. -/
noncomputable def Try.pinned : Pinned := { name := "ytdhahifdcoinhaa", sum := "7ff7f72ad47b0ec53831375e68a0d84e5a6d5bc5520a3c4e8f8a10c2ae523930", checked := Try.checked }
namespace Rows
def none {H : Type} : Left H := { results := [], args := [] }

/-- 'laws.FnLimitTwice': WHATEVER THE INPUT: true; the input reads as it did. -/
def fnLimitTwiceSpec : ChangeSpec := { name := "fnLimitTwice", fn := fun _ => fun
  | [d1, d2] => { results := [.lit (.bool true)], args := [d1, d2] }
  | _ => none }
def fnLimitTwiceRow : OpenClaim := { program := "ytdhahifdcoinhaa", sum := "7ff7f72ad47b0ec53831375e68a0d84e5a6d5bc5520a3c4e8f8a10c2ae523930", func := "loop.example/lamson/laws.FnLimitTwice", spec := "fnLimitTwice", inPlace := ["internal/bytealg.IndexByteString"], unfollowed := true, recurses := true, apart := false }
def FnLimitTwiceSaid : Prop := fnLimitTwiceRow.holds Try.pinned (OpenSpec.ofChange fnLimitTwiceSpec)

/-- ITS FALSE NEIGHBOUR: 'it returns false'. Refute it at one input. -/
def fnLimitTwiceWrong : ChangeSpec := { name := "fnLimitTwice", fn := fun _ => fun
  | [d1, d2] => { results := [.lit (.bool false)], args := [d1, d2] }
  | _ => none }
def FnLimitTwiceWrongFalsely : Prop := fnLimitTwiceRow.holds Try.pinned (OpenSpec.ofChange fnLimitTwiceWrong)

/-- 'laws.FnTableLimit': WHATEVER THE INPUT: true; the input reads as it did. -/
def fnTableLimitSpec : ChangeSpec := { name := "fnTableLimit", fn := fun _ => fun
  | [d] => { results := [.lit (.bool true)], args := [d] }
  | _ => none }
def fnTableLimitRow : OpenClaim := { program := "ytdhahifdcoinhaa", sum := "7ff7f72ad47b0ec53831375e68a0d84e5a6d5bc5520a3c4e8f8a10c2ae523930", func := "loop.example/lamson/laws.FnTableLimit", spec := "fnTableLimit", inPlace := ["internal/bytealg.IndexByteString"], unfollowed := true, recurses := true, apart := false }
def FnTableLimitSaid : Prop := fnTableLimitRow.holds Try.pinned (OpenSpec.ofChange fnTableLimitSpec)

/-- ITS FALSE NEIGHBOUR: 'it returns false'. Refute it at one input. -/
def fnTableLimitWrong : ChangeSpec := { name := "fnTableLimit", fn := fun _ => fun
  | [d] => { results := [.lit (.bool false)], args := [d] }
  | _ => none }
def FnTableLimitWrongFalsely : Prop := fnTableLimitRow.holds Try.pinned (OpenSpec.ofChange fnTableLimitWrong)

/-- 'laws.FnExactTableLimit': WHATEVER THE INPUT: true; the input reads as it did. -/
def fnExactTableLimitSpec : ChangeSpec := { name := "fnExactTableLimit", fn := fun _ => fun
  | [d1, d2] => { results := [.lit (.bool true)], args := [d1, d2] }
  | _ => none }
def fnExactTableLimitRow : OpenClaim := { program := "ytdhahifdcoinhaa", sum := "7ff7f72ad47b0ec53831375e68a0d84e5a6d5bc5520a3c4e8f8a10c2ae523930", func := "loop.example/lamson/laws.FnExactTableLimit", spec := "fnExactTableLimit", inPlace := ["internal/bytealg.IndexByteString"], unfollowed := true, recurses := true, apart := false }
def FnExactTableLimitSaid : Prop := fnExactTableLimitRow.holds Try.pinned (OpenSpec.ofChange fnExactTableLimitSpec)

/-- ITS FALSE NEIGHBOUR: 'it returns false'. Refute it at one input. -/
def fnExactTableLimitWrong : ChangeSpec := { name := "fnExactTableLimit", fn := fun _ => fun
  | [d1, d2] => { results := [.lit (.bool false)], args := [d1, d2] }
  | _ => none }
def FnExactTableLimitWrongFalsely : Prop := fnExactTableLimitRow.holds Try.pinned (OpenSpec.ofChange fnExactTableLimitWrong)

/-- 'laws.FnAddTwo': WHATEVER THE INPUT: true; the input reads as it did. -/
def fnAddTwoSpec : ChangeSpec := { name := "fnAddTwo", fn := fun _ => fun
  | [d1, d2] => { results := [.lit (.bool true)], args := [d1, d2] }
  | _ => none }
def fnAddTwoRow : OpenClaim := { program := "ytdhahifdcoinhaa", sum := "7ff7f72ad47b0ec53831375e68a0d84e5a6d5bc5520a3c4e8f8a10c2ae523930", func := "loop.example/lamson/laws.FnAddTwo", spec := "fnAddTwo", inPlace := ["internal/bytealg.IndexByteString"], unfollowed := true, recurses := true, apart := false }
def FnAddTwoSaid : Prop := fnAddTwoRow.holds Try.pinned (OpenSpec.ofChange fnAddTwoSpec)

/-- ITS FALSE NEIGHBOUR: 'it returns false'. Refute it at one input. -/
def fnAddTwoWrong : ChangeSpec := { name := "fnAddTwo", fn := fun _ => fun
  | [d1, d2] => { results := [.lit (.bool false)], args := [d1, d2] }
  | _ => none }
def FnAddTwoWrongFalsely : Prop := fnAddTwoRow.holds Try.pinned (OpenSpec.ofChange fnAddTwoWrong)

/-- 'laws.FnLimitNone': WHATEVER THE INPUT: true; the input reads as it did. -/
def fnLimitNoneSpec : ChangeSpec := { name := "fnLimitNone", fn := fun _ => fun
  | [d] => { results := [.lit (.bool true)], args := [d] }
  | _ => none }
def fnLimitNoneRow : OpenClaim := { program := "ytdhahifdcoinhaa", sum := "7ff7f72ad47b0ec53831375e68a0d84e5a6d5bc5520a3c4e8f8a10c2ae523930", func := "loop.example/lamson/laws.FnLimitNone", spec := "fnLimitNone", inPlace := ["internal/bytealg.IndexByteString"], unfollowed := true, recurses := true, apart := false }
def FnLimitNoneSaid : Prop := fnLimitNoneRow.holds Try.pinned (OpenSpec.ofChange fnLimitNoneSpec)

/-- ITS FALSE NEIGHBOUR: 'it returns false'. Refute it at one input. -/
def fnLimitNoneWrong : ChangeSpec := { name := "fnLimitNone", fn := fun _ => fun
  | [d] => { results := [.lit (.bool false)], args := [d] }
  | _ => none }
def FnLimitNoneWrongFalsely : Prop := fnLimitNoneRow.holds Try.pinned (OpenSpec.ofChange fnLimitNoneWrong)

/-- 'laws.FnTableAdd': WHATEVER THE INPUT: true; the input reads as it did. -/
def fnTableAddSpec : ChangeSpec := { name := "fnTableAdd", fn := fun _ => fun
  | [d] => { results := [.lit (.bool true)], args := [d] }
  | _ => none }
def fnTableAddRow : OpenClaim := { program := "ytdhahifdcoinhaa", sum := "7ff7f72ad47b0ec53831375e68a0d84e5a6d5bc5520a3c4e8f8a10c2ae523930", func := "loop.example/lamson/laws.FnTableAdd", spec := "fnTableAdd", inPlace := ["internal/bytealg.IndexByteString"], unfollowed := true, recurses := true, apart := false }
def FnTableAddSaid : Prop := fnTableAddRow.holds Try.pinned (OpenSpec.ofChange fnTableAddSpec)

/-- ITS FALSE NEIGHBOUR: 'it returns false'. Refute it at one input. -/
def fnTableAddWrong : ChangeSpec := { name := "fnTableAdd", fn := fun _ => fun
  | [d] => { results := [.lit (.bool false)], args := [d] }
  | _ => none }
def FnTableAddWrongFalsely : Prop := fnTableAddRow.holds Try.pinned (OpenSpec.ofChange fnTableAddWrong)

/-- 'laws.FnAddFind': WHATEVER THE INPUT: true; the input reads as it did. -/
def fnAddFindSpec : ChangeSpec := { name := "fnAddFind", fn := fun _ => fun
  | [d] => { results := [.lit (.bool true)], args := [d] }
  | _ => none }
def fnAddFindRow : OpenClaim := { program := "ytdhahifdcoinhaa", sum := "7ff7f72ad47b0ec53831375e68a0d84e5a6d5bc5520a3c4e8f8a10c2ae523930", func := "loop.example/lamson/laws.FnAddFind", spec := "fnAddFind", inPlace := ["internal/bytealg.IndexByteString"], unfollowed := true, recurses := true, apart := false }
def FnAddFindSaid : Prop := fnAddFindRow.holds Try.pinned (OpenSpec.ofChange fnAddFindSpec)

/-- ITS FALSE NEIGHBOUR: 'it returns false'. Refute it at one input. -/
def fnAddFindWrong : ChangeSpec := { name := "fnAddFind", fn := fun _ => fun
  | [d] => { results := [.lit (.bool false)], args := [d] }
  | _ => none }
def FnAddFindWrongFalsely : Prop := fnAddFindRow.holds Try.pinned (OpenSpec.ofChange fnAddFindWrong)

/-- 'laws.FnExactTableAdd': WHATEVER THE INPUT: true; the input reads as it did. -/
def fnExactTableAddSpec : ChangeSpec := { name := "fnExactTableAdd", fn := fun _ => fun
  | [d1, d2] => { results := [.lit (.bool true)], args := [d1, d2] }
  | _ => none }
def fnExactTableAddRow : OpenClaim := { program := "ytdhahifdcoinhaa", sum := "7ff7f72ad47b0ec53831375e68a0d84e5a6d5bc5520a3c4e8f8a10c2ae523930", func := "loop.example/lamson/laws.FnExactTableAdd", spec := "fnExactTableAdd", inPlace := ["internal/bytealg.IndexByteString"], unfollowed := true, recurses := true, apart := false }
def FnExactTableAddSaid : Prop := fnExactTableAddRow.holds Try.pinned (OpenSpec.ofChange fnExactTableAddSpec)

/-- ITS FALSE NEIGHBOUR: 'it returns false'. Refute it at one input. -/
def fnExactTableAddWrong : ChangeSpec := { name := "fnExactTableAdd", fn := fun _ => fun
  | [d1, d2] => { results := [.lit (.bool false)], args := [d1, d2] }
  | _ => none }
def FnExactTableAddWrongFalsely : Prop := fnExactTableAddRow.holds Try.pinned (OpenSpec.ofChange fnExactTableAddWrong)

/-- 'laws.FnHeadCut': WHATEVER THE INPUT: true; the input reads as it did. -/
def fnHeadCutSpec : ChangeSpec := { name := "fnHeadCut", fn := fun _ => fun
  | [d1, d2] => { results := [.lit (.bool true)], args := [d1, d2] }
  | _ => none }
def fnHeadCutRow : OpenClaim := { program := "ytdhahifdcoinhaa", sum := "7ff7f72ad47b0ec53831375e68a0d84e5a6d5bc5520a3c4e8f8a10c2ae523930", func := "loop.example/lamson/laws.FnHeadCut", spec := "fnHeadCut", inPlace := ["internal/bytealg.IndexByteString"], unfollowed := true, recurses := true, apart := false }
def FnHeadCutSaid : Prop := fnHeadCutRow.holds Try.pinned (OpenSpec.ofChange fnHeadCutSpec)

/-- ITS FALSE NEIGHBOUR: 'it returns false'. Refute it at one input. -/
def fnHeadCutWrong : ChangeSpec := { name := "fnHeadCut", fn := fun _ => fun
  | [d1, d2] => { results := [.lit (.bool false)], args := [d1, d2] }
  | _ => none }
def FnHeadCutWrongFalsely : Prop := fnHeadCutRow.holds Try.pinned (OpenSpec.ofChange fnHeadCutWrong)

/-- 'laws.FnHeadFixed': WHATEVER THE INPUT: true; the input reads as it did. -/
def fnHeadFixedSpec : ChangeSpec := { name := "fnHeadFixed", fn := fun _ => fun
  | [d1, d2] => { results := [.lit (.bool true)], args := [d1, d2] }
  | _ => none }
def fnHeadFixedRow : OpenClaim := { program := "ytdhahifdcoinhaa", sum := "7ff7f72ad47b0ec53831375e68a0d84e5a6d5bc5520a3c4e8f8a10c2ae523930", func := "loop.example/lamson/laws.FnHeadFixed", spec := "fnHeadFixed", inPlace := ["internal/bytealg.IndexByteString"], unfollowed := true, recurses := true, apart := false }
def FnHeadFixedSaid : Prop := fnHeadFixedRow.holds Try.pinned (OpenSpec.ofChange fnHeadFixedSpec)

/-- ITS FALSE NEIGHBOUR: 'it returns false'. Refute it at one input. -/
def fnHeadFixedWrong : ChangeSpec := { name := "fnHeadFixed", fn := fun _ => fun
  | [d1, d2] => { results := [.lit (.bool false)], args := [d1, d2] }
  | _ => none }
def FnHeadFixedWrongFalsely : Prop := fnHeadFixedRow.holds Try.pinned (OpenSpec.ofChange fnHeadFixedWrong)

/-- 'laws.FnHeadAgain': WHATEVER THE INPUT: true; the input reads as it did. -/
def fnHeadAgainSpec : ChangeSpec := { name := "fnHeadAgain", fn := fun _ => fun
  | [d] => { results := [.lit (.bool true)], args := [d] }
  | _ => none }
def fnHeadAgainRow : OpenClaim := { program := "ytdhahifdcoinhaa", sum := "7ff7f72ad47b0ec53831375e68a0d84e5a6d5bc5520a3c4e8f8a10c2ae523930", func := "loop.example/lamson/laws.FnHeadAgain", spec := "fnHeadAgain", inPlace := ["internal/bytealg.IndexByteString"], unfollowed := true, recurses := true, apart := false }
def FnHeadAgainSaid : Prop := fnHeadAgainRow.holds Try.pinned (OpenSpec.ofChange fnHeadAgainSpec)

/-- ITS FALSE NEIGHBOUR: 'it returns false'. Refute it at one input. -/
def fnHeadAgainWrong : ChangeSpec := { name := "fnHeadAgain", fn := fun _ => fun
  | [d] => { results := [.lit (.bool false)], args := [d] }
  | _ => none }
def FnHeadAgainWrongFalsely : Prop := fnHeadAgainRow.holds Try.pinned (OpenSpec.ofChange fnHeadAgainWrong)

/-- 'laws.FnExactHeadWrite': WHATEVER THE INPUT: true; the input reads as it did. -/
def fnExactHeadWriteSpec : ChangeSpec := { name := "fnExactHeadWrite", fn := fun _ => fun
  | [d1, d2] => { results := [.lit (.bool true)], args := [d1, d2] }
  | _ => none }
def fnExactHeadWriteRow : OpenClaim := { program := "ytdhahifdcoinhaa", sum := "7ff7f72ad47b0ec53831375e68a0d84e5a6d5bc5520a3c4e8f8a10c2ae523930", func := "loop.example/lamson/laws.FnExactHeadWrite", spec := "fnExactHeadWrite", inPlace := ["internal/bytealg.IndexByteString"], unfollowed := true, recurses := true, apart := false }
def FnExactHeadWriteSaid : Prop := fnExactHeadWriteRow.holds Try.pinned (OpenSpec.ofChange fnExactHeadWriteSpec)

/-- ITS FALSE NEIGHBOUR: 'it returns false'. Refute it at one input. -/
def fnExactHeadWriteWrong : ChangeSpec := { name := "fnExactHeadWrite", fn := fun _ => fun
  | [d1, d2] => { results := [.lit (.bool false)], args := [d1, d2] }
  | _ => none }
def FnExactHeadWriteWrongFalsely : Prop := fnExactHeadWriteRow.holds Try.pinned (OpenSpec.ofChange fnExactHeadWriteWrong)

/- THE SECOND FORM. 'bulk': how many values and letters a reading holds, each counted each time it is reached (what is shared counts as often as it is met; a slice's spare places count too). A statement '..UptoSaid' is the law's where the arguments, and the package variables that the reading takes, are together of bulk at most 1048576: NARROWER than '..Said'. Prove '..Said' where nothing that the law and all that it calls make is longer than what came in: it says more and counts as full. Else prove '..UptoSaid'. A law counts once. -/
mutual
def uptoBulk {H : Type} : DataW H → Nat
  | .lit (.string bytes) => bytes.length + 1
  | .lit _ => 1
  | .nil => 1
  | .ptr d => uptoBulk d + 1
  | .slice elems spare => uptoBulkAll elems + uptoBulkAll spare + 1
  | .agg parts => uptoBulkAll parts + 1
  | .iface _ d => uptoBulk d + 1
  | .map entries => uptoBulkEntries entries + 1
  | .held _ => 1
def uptoBulkAll {H : Type} : List (DataW H) → Nat
  | [] => 0
  | d :: r => uptoBulk d + uptoBulkAll r
def uptoBulkEntries {H : Type} : List (Lit × DataW H) → Nat
  | [] => 0
  | x :: r => uptoBulkEntry x + uptoBulkEntries r
def uptoBulkEntry {H : Type} : Lit × DataW H → Nat
  | (.string bytes, d) => bytes.length + uptoBulk d + 1
  | (_, d) => uptoBulk d + 1
 end
def uptoSmall : (H : Type) → List (DataW H) → Bool := fun _ ds => decide (uptoBulkAll ds ≤ 1048576)
def OpenSpec.upto (s : _root_.Go.ChangeSpec) : _root_.Go.OpenSpec := { _root_.Go.OpenSpec.ofChange s with cond := some uptoSmall }

/-- 'laws.FnLimitTwice', WHERE WHAT IT READS IS OF BULK AT MOST 1048576: true; the input reads as it did. -/
def fnLimitTwiceUptoRow : OpenClaim := { program := "ytdhahifdcoinhaa", sum := "7ff7f72ad47b0ec53831375e68a0d84e5a6d5bc5520a3c4e8f8a10c2ae523930", func := "loop.example/lamson/laws.FnLimitTwice", spec := "fnLimitTwice", inPlace := ["internal/bytealg.IndexByteString"], unfollowed := true, recurses := true, apart := false, narrowed := true }
def FnLimitTwiceUptoSaid : Prop := fnLimitTwiceUptoRow.holds Try.pinned (OpenSpec.upto fnLimitTwiceSpec)

/-- 'laws.FnTableLimit', WHERE WHAT IT READS IS OF BULK AT MOST 1048576: true; the input reads as it did. -/
def fnTableLimitUptoRow : OpenClaim := { program := "ytdhahifdcoinhaa", sum := "7ff7f72ad47b0ec53831375e68a0d84e5a6d5bc5520a3c4e8f8a10c2ae523930", func := "loop.example/lamson/laws.FnTableLimit", spec := "fnTableLimit", inPlace := ["internal/bytealg.IndexByteString"], unfollowed := true, recurses := true, apart := false, narrowed := true }
def FnTableLimitUptoSaid : Prop := fnTableLimitUptoRow.holds Try.pinned (OpenSpec.upto fnTableLimitSpec)

/-- 'laws.FnExactTableLimit', WHERE WHAT IT READS IS OF BULK AT MOST 1048576: true; the input reads as it did. -/
def fnExactTableLimitUptoRow : OpenClaim := { program := "ytdhahifdcoinhaa", sum := "7ff7f72ad47b0ec53831375e68a0d84e5a6d5bc5520a3c4e8f8a10c2ae523930", func := "loop.example/lamson/laws.FnExactTableLimit", spec := "fnExactTableLimit", inPlace := ["internal/bytealg.IndexByteString"], unfollowed := true, recurses := true, apart := false, narrowed := true }
def FnExactTableLimitUptoSaid : Prop := fnExactTableLimitUptoRow.holds Try.pinned (OpenSpec.upto fnExactTableLimitSpec)

/-- 'laws.FnAddTwo', WHERE WHAT IT READS IS OF BULK AT MOST 1048576: true; the input reads as it did. -/
def fnAddTwoUptoRow : OpenClaim := { program := "ytdhahifdcoinhaa", sum := "7ff7f72ad47b0ec53831375e68a0d84e5a6d5bc5520a3c4e8f8a10c2ae523930", func := "loop.example/lamson/laws.FnAddTwo", spec := "fnAddTwo", inPlace := ["internal/bytealg.IndexByteString"], unfollowed := true, recurses := true, apart := false, narrowed := true }
def FnAddTwoUptoSaid : Prop := fnAddTwoUptoRow.holds Try.pinned (OpenSpec.upto fnAddTwoSpec)

/-- 'laws.FnLimitNone', WHERE WHAT IT READS IS OF BULK AT MOST 1048576: true; the input reads as it did. -/
def fnLimitNoneUptoRow : OpenClaim := { program := "ytdhahifdcoinhaa", sum := "7ff7f72ad47b0ec53831375e68a0d84e5a6d5bc5520a3c4e8f8a10c2ae523930", func := "loop.example/lamson/laws.FnLimitNone", spec := "fnLimitNone", inPlace := ["internal/bytealg.IndexByteString"], unfollowed := true, recurses := true, apart := false, narrowed := true }
def FnLimitNoneUptoSaid : Prop := fnLimitNoneUptoRow.holds Try.pinned (OpenSpec.upto fnLimitNoneSpec)

/-- 'laws.FnTableAdd', WHERE WHAT IT READS IS OF BULK AT MOST 1048576: true; the input reads as it did. -/
def fnTableAddUptoRow : OpenClaim := { program := "ytdhahifdcoinhaa", sum := "7ff7f72ad47b0ec53831375e68a0d84e5a6d5bc5520a3c4e8f8a10c2ae523930", func := "loop.example/lamson/laws.FnTableAdd", spec := "fnTableAdd", inPlace := ["internal/bytealg.IndexByteString"], unfollowed := true, recurses := true, apart := false, narrowed := true }
def FnTableAddUptoSaid : Prop := fnTableAddUptoRow.holds Try.pinned (OpenSpec.upto fnTableAddSpec)

/-- 'laws.FnAddFind', WHERE WHAT IT READS IS OF BULK AT MOST 1048576: true; the input reads as it did. -/
def fnAddFindUptoRow : OpenClaim := { program := "ytdhahifdcoinhaa", sum := "7ff7f72ad47b0ec53831375e68a0d84e5a6d5bc5520a3c4e8f8a10c2ae523930", func := "loop.example/lamson/laws.FnAddFind", spec := "fnAddFind", inPlace := ["internal/bytealg.IndexByteString"], unfollowed := true, recurses := true, apart := false, narrowed := true }
def FnAddFindUptoSaid : Prop := fnAddFindUptoRow.holds Try.pinned (OpenSpec.upto fnAddFindSpec)

/-- 'laws.FnExactTableAdd', WHERE WHAT IT READS IS OF BULK AT MOST 1048576: true; the input reads as it did. -/
def fnExactTableAddUptoRow : OpenClaim := { program := "ytdhahifdcoinhaa", sum := "7ff7f72ad47b0ec53831375e68a0d84e5a6d5bc5520a3c4e8f8a10c2ae523930", func := "loop.example/lamson/laws.FnExactTableAdd", spec := "fnExactTableAdd", inPlace := ["internal/bytealg.IndexByteString"], unfollowed := true, recurses := true, apart := false, narrowed := true }
def FnExactTableAddUptoSaid : Prop := fnExactTableAddUptoRow.holds Try.pinned (OpenSpec.upto fnExactTableAddSpec)

/-- 'laws.FnHeadCut', WHERE WHAT IT READS IS OF BULK AT MOST 1048576: true; the input reads as it did. -/
def fnHeadCutUptoRow : OpenClaim := { program := "ytdhahifdcoinhaa", sum := "7ff7f72ad47b0ec53831375e68a0d84e5a6d5bc5520a3c4e8f8a10c2ae523930", func := "loop.example/lamson/laws.FnHeadCut", spec := "fnHeadCut", inPlace := ["internal/bytealg.IndexByteString"], unfollowed := true, recurses := true, apart := false, narrowed := true }
def FnHeadCutUptoSaid : Prop := fnHeadCutUptoRow.holds Try.pinned (OpenSpec.upto fnHeadCutSpec)

/-- 'laws.FnHeadFixed', WHERE WHAT IT READS IS OF BULK AT MOST 1048576: true; the input reads as it did. -/
def fnHeadFixedUptoRow : OpenClaim := { program := "ytdhahifdcoinhaa", sum := "7ff7f72ad47b0ec53831375e68a0d84e5a6d5bc5520a3c4e8f8a10c2ae523930", func := "loop.example/lamson/laws.FnHeadFixed", spec := "fnHeadFixed", inPlace := ["internal/bytealg.IndexByteString"], unfollowed := true, recurses := true, apart := false, narrowed := true }
def FnHeadFixedUptoSaid : Prop := fnHeadFixedUptoRow.holds Try.pinned (OpenSpec.upto fnHeadFixedSpec)

/-- 'laws.FnHeadAgain', WHERE WHAT IT READS IS OF BULK AT MOST 1048576: true; the input reads as it did. -/
def fnHeadAgainUptoRow : OpenClaim := { program := "ytdhahifdcoinhaa", sum := "7ff7f72ad47b0ec53831375e68a0d84e5a6d5bc5520a3c4e8f8a10c2ae523930", func := "loop.example/lamson/laws.FnHeadAgain", spec := "fnHeadAgain", inPlace := ["internal/bytealg.IndexByteString"], unfollowed := true, recurses := true, apart := false, narrowed := true }
def FnHeadAgainUptoSaid : Prop := fnHeadAgainUptoRow.holds Try.pinned (OpenSpec.upto fnHeadAgainSpec)

/-- 'laws.FnExactHeadWrite', WHERE WHAT IT READS IS OF BULK AT MOST 1048576: true; the input reads as it did. -/
def fnExactHeadWriteUptoRow : OpenClaim := { program := "ytdhahifdcoinhaa", sum := "7ff7f72ad47b0ec53831375e68a0d84e5a6d5bc5520a3c4e8f8a10c2ae523930", func := "loop.example/lamson/laws.FnExactHeadWrite", spec := "fnExactHeadWrite", inPlace := ["internal/bytealg.IndexByteString"], unfollowed := true, recurses := true, apart := false, narrowed := true }
def FnExactHeadWriteUptoSaid : Prop := fnExactHeadWriteUptoRow.holds Try.pinned (OpenSpec.upto fnExactHeadWriteSpec)

end Rows
end Go.Proofs.Ytdhahifdcoinhaa
