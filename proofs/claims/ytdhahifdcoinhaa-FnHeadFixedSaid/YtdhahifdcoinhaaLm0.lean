/- Plain words on bits, signs and packed words, and laws of them: no program in sight. -/
import Derived.Test.YtdhahifdcoinhaaWMore
import Derived.Laws.BitsLemmas
import Derived.Laws.BytesArg
import Derived.Lib.Bytealg
import Derived.IntWalk
namespace Go.Proofs.Ytdhahifdcoinhaa.Lm
set_option linter.unusedSimpArgs false
set_option linter.unusedVariables false
open Go.RowKit Go.Proofs.YtdhahifdcoinhaaW.PrintWords Go.Proofs.YtdhahifdcoinhaaW.PrintLast Go.Proofs.YtdhahifdcoinhaaW.PrintMore
def bitAt (n : Int) (i : Nat) : Int := (n / 2 ^ i) % 2
/-- The lowest m bits of n, the highest first. -/
def bitsL (n : Int) : Nat → List Int
  | 0 => []
  | m + 1 => bitAt n m :: bitsL n m
theorem bitsL_length (n : Int) (m : Nat) : (bitsL n m).length = m := by induction m with
  | zero => rfl
  | succ m ih => simp [bitsL, ih]
theorem wraps_i64 (n : Int) (h₀ : 0 ≤ n) (h₁ : n < 2 ^ 63) : IntKind.i64.wrap n = n := by rw [IntKind.wrap_i64]; omega
theorem bit_spelled (n : Int) (i : Nat) (h0 : 0 ≤ n) (h1 : n < 1000) : IntKind.u8.wrap (Go.bits .and .i64 (n / 2 ^ i) 1) = bitAt n i := by
  unfold bitAt
  have h2 : 0 ≤ n / 2 ^ i := Int.ediv_nonneg h0 (by have := Int.pow_pos (n := 2) (m := i) (by omega); omega)
  have h3 : n / 2 ^ i ≤ n := Int.ediv_le_self _ h0
  have := bits_mask .i64 63 (by decide) wraps_i64 1 (by decide) (n / 2 ^ i) h2 (by omega)
  rw [show ((2 : Int) ^ 1 - 1) = 1 by decide, show ((2 : Int) ^ 1) = 2 by decide] at this
  rw [this, IntKind.wrap_u8]
  omega
/-- The number of bits, the highest first. -/
def numL (l : List Int) : Int := l.foldl (fun n b => 2 * n + b) 0
theorem numL_snoc (l : List Int) (b : Int) : numL (l ++ [b]) = 2 * numL l + b := by simp [numL]
theorem or_spelled (x b : Int) (h0 : 0 ≤ x) (h1 : x < 10000) (hb : b = 0 ∨ b = 1) : Go.bits .or .i64 (x * 2) b = 2 * x + b := by
  rw [bits_join .i64 63 (by decide) wraps_i64 1 (x * 2) b (by omega) (by omega) (by omega) (by omega) (by omega) (by omega)]
  omega
theorem numL_take (l : List Int) (j : Nat) (hj : j < l.length) : numL (l.take (j + 1)) = 2 * numL (l.take j) + rd l j := by
  rw [List.take_succ_eq_append_getElem hj, numL_snoc]
  simp [rd, List.getD_eq_getElem?_getD, List.getElem?_eq_getElem hj]
theorem rd_01 (l : List Int) (h01 : ∀ x ∈ l, x = 0 ∨ x = 1) (j : Nat) (hj : j < l.length) : rd l j = 0 ∨ rd l j = 1 := by
  have : rd l j = l[j] := by simp [rd, List.getD_eq_getElem?_getD, List.getElem?_eq_getElem hj]
  rw [this]; exact h01 _ (List.getElem_mem hj)
theorem numL_range (l : List Int) (h01 : ∀ x ∈ l, x = 0 ∨ x = 1) (j : Nat) (hj : j ≤ l.length) : 0 ≤ numL (l.take j) ∧ numL (l.take j) < 2 ^ j := by
  induction j with
  | zero => simp [numL]
  | succ j ih =>
    have h1 := ih (by omega)
    have h2 := rd_01 l h01 j (by omega)
    rw [numL_take l j (by omega), Int.pow_succ]
    omega
theorem pow8 (j : Nat) (hj : j ≤ 8) : (2 : Int) ^ j ≤ 256 := by
  have : j = 0 ∨ j = 1 ∨ j = 2 ∨ j = 3 ∨ j = 4 ∨ j = 5 ∨ j = 6 ∨ j = 7 ∨ j = 8 := by omega
  rcases this with h | h | h | h | h | h | h | h | h <;> subst h <;> decide
def signs : List UInt8 := [101, 116, 97, 111, 105, 110, 115, 114, 104, 108, 48, 49, 50, 51, 52, 53, 54, 55, 56, 57, 100, 99, 117, 109, 102, 112, 103, 119, 121, 98, 118, 107, 120, 106, 113, 122, 58, 47, 45]
/-- The place of a sign; -1, if it is none. -/
def place (c : Int) : Int := Lib.indexByte signs c.toNat.toUInt8
def signBits (p : Int) : List Int := if p < 24 then bitsL p 5 else bitsL (96 + p - 24) 7
def packBits (a : ByteArray) : Nat → List Int
  | 0 => []
  | j + 1 => packBits a j ++ signBits (place (bt a j))
def padBits (l : List Int) : List Int := l ++ List.replicate ((8 - l.length % 8) % 8) 1
def bytesL (l : List Int) : Nat → List Int
  | 0 => []
  | m + 1 => bytesL l m ++ [numL ((l.drop (8 * m)).take 8)]
def packB (a : ByteArray) : ByteArray := strOfNums (bytesL (padBits (packBits a a.size)) ((padBits (packBits a a.size)).length / 8))
def packOk (a : ByteArray) : Prop := a.size ≤ 16 ∧ ∀ i : Nat, i < a.size → 0 ≤ place (bt a i) ∧ place (bt a i) < 39
instance (a : ByteArray) : Decidable (packOk a) := by unfold packOk; infer_instance
theorem signBits_len (p : Int) : (signBits p).length ≤ 7 := by unfold signBits; split <;> simp [bitsL_length]
theorem packBits_len (a : ByteArray) (j : Nat) : (packBits a j).length ≤ 7 * j := by
  induction j with
  | zero => simp [packBits]
  | succ j ih => simp only [packBits, List.length_append]; have := signBits_len (place (bt a j)); omega
theorem bytesL_len (l : List Int) (m : Nat) : (bytesL l m).length = m := by
  induction m with
  | zero => rfl
  | succ m ih => simp [bytesL, ih]
theorem pad_step (l : List Int) (h : l.length % 8 ≠ 0) : padBits (l ++ [1]) = padBits l := by
  unfold padBits
  have e : (8 - l.length % 8) % 8 = (8 - (l ++ [1]).length % 8) % 8 + 1 := by simp; omega
  rw [e, List.replicate_succ, List.append_assoc, List.singleton_append]
theorem pad_done (l : List Int) (h : l.length % 8 = 0) : padBits l = l := by
  unfold padBits; rw [h]; simp
theorem bitsL_one : bitsL 1 (1 : Int).toNat = [1] := by decide
theorem bits01 (n : Int) (m : Nat) : ∀ x ∈ bitsL n m, x = 0 ∨ x = 1 := by
  induction m with
  | zero => intro x hx; cases hx
  | succ m ih =>
    intro x hx
    simp only [bitsL, List.mem_cons] at hx
    rcases hx with rfl | hx
    · unfold bitAt; omega
    · exact ih x hx
theorem pack01 (a : ByteArray) (j : Nat) : ∀ x ∈ packBits a j, x = 0 ∨ x = 1 := by
  induction j with
  | zero => intro x hx; cases hx
  | succ j ih =>
    intro x hx
    simp only [packBits, List.mem_append] at hx
    rcases hx with hx | hx
    · exact ih x hx
    · unfold signBits at hx
      split at hx
      · exact bits01 _ _ x hx
      · exact bits01 _ _ x hx
theorem padBits_len (l : List Int) : (padBits l).length % 8 = 0 ∧ l.length ≤ (padBits l).length ∧ (padBits l).length < l.length + 8 := by
  unfold padBits; simp; omega
/-! ### unpacking -/
/-- The bits of the first bytes. -/
def bitsB (b : ByteArray) : Nat → List Int
  | 0 => []
  | n + 1 => bitsB b n ++ bitsL (bt b n) 8
/-- Signs' places out of bits, as far as they go; and the bits that are left. -/
def decF : Nat → List Int → List Int × List Int
  | 0, l => ([], l)
  | f + 1, l =>
    if l.length < 5 then ([], l)
    else if numL (l.take 5) < 24 then (numL (l.take 5) :: (decF f (l.drop 5)).1, (decF f (l.drop 5)).2)
    else if l.length < 7 then ([], l)
    else if numL (l.take 7) - 72 ≥ 39 then ([], l)
    else ((numL (l.take 7) - 72) :: (decF f (l.drop 7)).1, (decF f (l.drop 7)).2)
/-- The sign at a place. -/
def signAt (p : Int) : Int := bt (⟨#[101, 116, 97, 111, 105, 110, 115, 114, 104, 108, 48, 49, 50, 51, 52, 53, 54, 55, 56, 57, 100, 99, 117, 109, 102, 112, 103, 119, 121, 98, 118, 107, 120, 106, 113, 122, 58, 47, 45]⟩ : ByteArray) p
/-- The signs that bytes begin with. -/
def upW (b : ByteArray) : ByteArray := strOfNums ((decF 30 (bitsB b b.size)).1.map signAt)
end Go.Proofs.Ytdhahifdcoinhaa.Lm
