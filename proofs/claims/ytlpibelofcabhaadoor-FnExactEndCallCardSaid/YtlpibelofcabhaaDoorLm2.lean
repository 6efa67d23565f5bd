/- Plain laws of bytes, bits and packed words: no program in sight. -/
import Derived.Test.YtlpibelofcabhaaDoorLm1
namespace Go.Proofs.YtlpibelofcabhaaDoor.Lm
set_option linter.unusedSimpArgs false
set_option linter.unusedVariables false
open Go.RowKit Go.Proofs.YtlpibelofcabhaaDoorW.PrintWords Go.Proofs.YtlpibelofcabhaaDoorW.PrintLast Go.Proofs.YtlpibelofcabhaaDoorW.PrintMore
theorem ba_ext {a b : ByteArray} (h : a.data.toList = b.data.toList) : a = b := by
  cases a; cases b
  congr 1
  exact Array.toList_inj.1 h
theorem toList_data (a : ByteArray) : a.toList = a.data.toList := by
  have key : ∀ (n i : Nat) (r : List UInt8), n = a.size - i → i ≤ a.size → ByteArray.toList.loop a i r = r.reverse ++ a.data.toList.drop i := by
    intro n
    induction n with
    | zero =>
      intro i r hn hi
      unfold ByteArray.toList.loop
      rw [if_neg (by omega), List.drop_of_length_le (by have : a.data.toList.length = a.size := by rw [Array.length_toList]; rfl
                                                        omega)]
      simp
    | succ n ih =>
      intro i r hn hi
      unfold ByteArray.toList.loop
      rw [if_pos (by omega), ih (i + 1) _ (by omega) (by omega)]
      have hl : i < a.data.toList.length := by rw [Array.length_toList]; change i < a.size; omega
      rw [List.drop_eq_getElem_cons hl]
      simp [ByteArray.get!, Array.getElem!_eq_getD, Array.getD, show i < a.size by omega]
  have := key (a.size - 0) 0 [] rfl (by omega)
  simpa [ByteArray.toList] using this
theorem toList_inj {a b : ByteArray} : a.toList = b.toList ↔ a = b := by
  constructor
  · intro h; rw [toList_data, toList_data] at h; exact ba_ext h
  · rintro rfl; rfl
theorem ba_size_nil : (⟨#[]⟩ : ByteArray).size = 0 := rfl
theorem ba_size_append (a b : ByteArray) : (a ++ b).size = a.size + b.size := by simp
theorem son_size (xs : List Int) : (strOfNums xs).size = xs.length := strOfNums_size xs
/-! ### the places of signs -/
theorem place_byte : ∀ c : Fin 256, -1 ≤ place (c.val : Int) ∧ place (c.val : Int) < 39 := by decide +kernel
theorem place_range (c : Int) (h0 : 0 ≤ c) (h1 : c < 256) : -1 ≤ place c ∧ place c < 39 := by
  obtain ⟨n, rfl⟩ := Int.eq_ofNat_of_zero_le h0
  exact place_byte ⟨n, by omega⟩
theorem bt_byte (a : ByteArray) (i : Int) : 0 ≤ bt a i ∧ bt a i < 256 := by have := bt_range a i; omega
def wordOk (a : ByteArray) : Bool := decide (packOk a)
theorem packOk_iff (a : ByteArray) : packOk a ↔ a.size ≤ 16 ∧ ∀ i : Nat, i < a.size → 0 ≤ place (bt a i) := by
  unfold packOk
  constructor
  · rintro ⟨h1, h2⟩; exact ⟨h1, fun i hi => (h2 i hi).1⟩
  · rintro ⟨h1, h2⟩; exact ⟨h1, fun i hi => ⟨h2 i hi, (place_range _ (bt_byte a i).1 (bt_byte a i).2).2⟩⟩
def wrB (a : ByteArray) : ByteArray := if (packB a).size < a.size then strOfNums [128 + ((packB a).size : Int)] ++ packB a else strOfNums [(a.size : Int)] ++ a
def wr (a : ByteArray) : ByteArray := if wordOk a = true then wrB a else ⟨#[]⟩
end Go.Proofs.YtlpibelofcabhaaDoor.Lm
