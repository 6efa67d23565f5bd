/- Plain laws of bytes, bits and packed words: no program in sight. -/
import Derived.Test.YtiafobkkngngoaaLm1
namespace Go.Proofs.Ytiafobkkngngoaa.Lm
set_option linter.unusedSimpArgs false
set_option linter.unusedVariables false
open Go.RowKit Go.Proofs.YtiafobkkngngoaaW.PrintWords Go.Proofs.YtiafobkkngngoaaW.PrintLast Go.Proofs.YtiafobkkngngoaaW.PrintMore

theorem ba_ext {a b : ByteArray} (h : a.data.toList = b.data.toList) : a = b := by
  cases a; cases b
  congr 1
  exact Array.toList_inj.1 h
theorem toList_data (a : ByteArray) : a.toList = a.data.toList := by
  have key : ∀ (n i : Nat) (r : List UInt8), n = a.size - i → i ≤ a.size → ByteArray.toList.loop a i r = r.reverse ++ a.data.toList.drop i := by
    intro n
    induction n with
    | zero =>
      intro i r hn hi
      unfold ByteArray.toList.loop
      rw [if_neg (by omega), List.drop_of_length_le (by have : a.data.toList.length = a.size := by rw [Array.length_toList]; rfl
                                                        omega)]
      simp
    | succ n ih =>
      intro i r hn hi
      unfold ByteArray.toList.loop
      rw [if_pos (by omega), ih (i + 1) _ (by omega) (by omega)]
      have hl : i < a.data.toList.length := by rw [Array.length_toList]; change i < a.size; omega
      rw [List.drop_eq_getElem_cons hl]
      simp [ByteArray.get!, Array.getElem!_eq_getD, Array.getD, show i < a.size by omega]
  have := key (a.size - 0) 0 [] rfl (by omega)
  simpa [ByteArray.toList] using this
theorem toList_inj {a b : ByteArray} : a.toList = b.toList ↔ a = b := by
  constructor
  · intro h; rw [toList_data, toList_data] at h; exact ba_ext h
  · rintro rfl; rfl
theorem son_append (xs ys : List Int) : strOfNums (xs ++ ys) = strOfNums xs ++ strOfNums ys := by
  apply ba_ext; simp [strOfNums]
theorem son_nil : strOfNums [] = ⟨#[]⟩ := rfl
theorem ba_append_nil (a : ByteArray) : (⟨#[]⟩ : ByteArray) ++ a = a := by apply ba_ext; simp
theorem ba_nil_append (a : ByteArray) : a ++ (⟨#[]⟩ : ByteArray) = a := by apply ba_ext; simp
theorem ba_size_nil : (⟨#[]⟩ : ByteArray).size = 0 := rfl
theorem ba_size_append (a b : ByteArray) : (a ++ b).size = a.size + b.size := by simp
theorem bytesOf_son {xs : List Int} (h : Bytes xs) : bytesOf (strOfNums xs) = xs := by
  unfold bytesOf strOfNums
  rw [List.map_map]
  conv => rhs; rw [← List.map_id xs]
  apply List.map_congr_left
  intro x hx
  have := h x hx
  simp
  omega
theorem son_bytesOf (a : ByteArray) : strOfNums (bytesOf a) = a := by
  apply ba_ext
  simp [strOfNums, bytesOf, List.map_map, Function.comp_def]
theorem bytes_bytesOf (a : ByteArray) : Bytes (bytesOf a) := by
  intro x hx
  simp only [bytesOf, List.mem_map] at hx
  obtain ⟨b, _, rfl⟩ := hx
  have := b.toNat_lt
  omega
theorem son_inj {xs ys : List Int} (hx : Bytes xs) (hy : Bytes ys) (h : strOfNums xs = strOfNums ys) : xs = ys := by
  rw [← bytesOf_son hx, ← bytesOf_son hy, h]
theorem bt_bytesOf (a : ByteArray) (i : Nat) : bt a i = (bytesOf a).getD i 0 := by
  have := rd_bytesOf a i
  unfold rd at this
  rw [← this]; simp
theorem bt_son {xs : List Int} (h : Bytes xs) (i : Nat) : bt (strOfNums xs) i = xs.getD i 0 := by rw [bt_bytesOf, bytesOf_son h]
theorem son_size (xs : List Int) : (strOfNums xs).size = xs.length := strOfNums_size xs
theorem ba_eq_of_bt {a b : ByteArray} (hs : a.size = b.size) (h : ∀ i : Nat, i < a.size → bt a i = bt b i) : a = b := by
  rw [← son_bytesOf a, ← son_bytesOf b]
  congr 1
  apply List.ext_getElem
  · rw [bytesOf_length, bytesOf_length, hs]
  · intro i h1 h2
    have := h i (by rw [bytesOf_length] at h1; exact h1)
    rw [bt_bytesOf, bt_bytesOf] at this
    simpa [List.getD_eq_getElem?_getD, List.getElem?_eq_getElem h1, List.getElem?_eq_getElem h2] using this

/-! ### the places of signs -/
theorem place_byte : ∀ c : Fin 256, -1 ≤ place (c.val : Int) ∧ place (c.val : Int) < 39 := by decide +kernel
theorem place_range (c : Int) (h0 : 0 ≤ c) (h1 : c < 256) : -1 ≤ place c ∧ place c < 39 := by
  obtain ⟨n, rfl⟩ := Int.eq_ofNat_of_zero_le h0
  exact place_byte ⟨n, by omega⟩
theorem bt_byte (a : ByteArray) (i : Int) : 0 ≤ bt a i ∧ bt a i < 256 := by have := bt_range a i; omega
/-- Is it a word? -/
def wordOk (a : ByteArray) : Bool := decide (packOk a)
theorem packOk_iff (a : ByteArray) : packOk a ↔ a.size ≤ 16 ∧ ∀ i : Nat, i < a.size → 0 ≤ place (bt a i) := by
  unfold packOk
  constructor
  · rintro ⟨h1, h2⟩; exact ⟨h1, fun i hi => (h2 i hi).1⟩
  · rintro ⟨h1, h2⟩; exact ⟨h1, fun i hi => ⟨h2 i hi, (place_range _ (bt_byte a i).1 (bt_byte a i).2).2⟩⟩
/-- What a word is packed as; nothing, if it is none. -/
def pk (a : ByteArray) : ByteArray := if wordOk a = true then packB a else ⟨#[]⟩
end Go.Proofs.Ytiafobkkngngoaa.Lm
