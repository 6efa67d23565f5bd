/- Plain words on bits, signs and packed words, and laws of them: no program in sight. -/
import Derived.Test.YtlpibelofcabhaaDoorWMore
import Derived.Laws.BitsLemmas
import Derived.Laws.BytesArg
import Derived.Lib.Bytealg
import Derived.IntWalk
namespace Go.Proofs.YtlpibelofcabhaaDoor.Lm
set_option linter.unusedSimpArgs false
set_option linter.unusedVariables false
open Go.RowKit Go.Proofs.YtlpibelofcabhaaDoorW.PrintWords Go.Proofs.YtlpibelofcabhaaDoorW.PrintLast Go.Proofs.YtlpibelofcabhaaDoorW.PrintMore
def bitAt (n : Int) (i : Nat) : Int := (n / 2 ^ i) % 2
def bitsL (n : Int) : Nat → List Int
  | 0 => []
  | m + 1 => bitAt n m :: bitsL n m
def numL (l : List Int) : Int := l.foldl (fun n b => 2 * n + b) 0
def signs : List UInt8 := [101, 116, 97, 111, 105, 110, 115, 114, 104, 108, 48, 49, 50, 51, 52, 53, 54, 55, 56, 57, 100, 99, 117, 109, 102, 112, 103, 119, 121, 98, 118, 107, 120, 106, 113, 122, 58, 47, 45]
def place (c : Int) : Int := Lib.indexByte signs c.toNat.toUInt8
def signBits (p : Int) : List Int := if p < 24 then bitsL p 5 else bitsL (96 + p - 24) 7
def packBits (a : ByteArray) : Nat → List Int
  | 0 => []
  | j + 1 => packBits a j ++ signBits (place (bt a j))
def padBits (l : List Int) : List Int := l ++ List.replicate ((8 - l.length % 8) % 8) 1
def bytesL (l : List Int) : Nat → List Int
  | 0 => []
  | m + 1 => bytesL l m ++ [numL ((l.drop (8 * m)).take 8)]
def packB (a : ByteArray) : ByteArray := strOfNums (bytesL (padBits (packBits a a.size)) ((padBits (packBits a a.size)).length / 8))
def packOk (a : ByteArray) : Prop := a.size ≤ 16 ∧ ∀ i : Nat, i < a.size → 0 ≤ place (bt a i) ∧ place (bt a i) < 39
instance (a : ByteArray) : Decidable (packOk a) := by unfold packOk; infer_instance
/-! ### unpacking -/
end Go.Proofs.YtlpibelofcabhaaDoor.Lm
