/- Plain laws of bytes, bits and packed words: no program in sight. -/
import Derived.Test.YtdhahifdcoinhaaLm1
namespace Go.Proofs.Ytdhahifdcoinhaa.Lm
set_option linter.unusedSimpArgs false
set_option linter.unusedVariables false
open Go.RowKit Go.Proofs.YtdhahifdcoinhaaW.PrintWords Go.Proofs.YtdhahifdcoinhaaW.PrintLast Go.Proofs.YtdhahifdcoinhaaW.PrintMore

theorem ba_ext {a b : ByteArray} (h : a.data.toList = b.data.toList) : a = b := by
  cases a; cases b
  congr 1
  exact Array.toList_inj.1 h
theorem toList_data (a : ByteArray) : a.toList = a.data.toList := by
  have key : ∀ (n i : Nat) (r : List UInt8), n = a.size - i → i ≤ a.size → ByteArray.toList.loop a i r = r.reverse ++ a.data.toList.drop i := by
    intro n
    induction n with
    | zero =>
      intro i r hn hi
      unfold ByteArray.toList.loop
      rw [if_neg (by omega), List.drop_of_length_le (by have : a.data.toList.length = a.size := by rw [Array.length_toList]; rfl
                                                        omega)]
      simp
    | succ n ih =>
      intro i r hn hi
      unfold ByteArray.toList.loop
      rw [if_pos (by omega), ih (i + 1) _ (by omega) (by omega)]
      have hl : i < a.data.toList.length := by rw [Array.length_toList]; change i < a.size; omega
      rw [List.drop_eq_getElem_cons hl]
      simp [ByteArray.get!, Array.getElem!_eq_getD, Array.getD, show i < a.size by omega]
  have := key (a.size - 0) 0 [] rfl (by omega)
  simpa [ByteArray.toList] using this
theorem toList_inj {a b : ByteArray} : a.toList = b.toList ↔ a = b := by
  constructor
  · intro h; rw [toList_data, toList_data] at h; exact ba_ext h
  · rintro rfl; rfl
theorem son_append (xs ys : List Int) : strOfNums (xs ++ ys) = strOfNums xs ++ strOfNums ys := by
  apply ba_ext; simp [strOfNums]
theorem son_nil : strOfNums [] = ⟨#[]⟩ := rfl
theorem ba_append_nil (a : ByteArray) : (⟨#[]⟩ : ByteArray) ++ a = a := by apply ba_ext; simp
theorem ba_nil_append (a : ByteArray) : a ++ (⟨#[]⟩ : ByteArray) = a := by apply ba_ext; simp
theorem ba_size_nil : (⟨#[]⟩ : ByteArray).size = 0 := rfl
theorem ba_size_append (a b : ByteArray) : (a ++ b).size = a.size + b.size := by simp
theorem bytesOf_son {xs : List Int} (h : Bytes xs) : bytesOf (strOfNums xs) = xs := by
  unfold bytesOf strOfNums
  rw [List.map_map]
  conv => rhs; rw [← List.map_id xs]
  apply List.map_congr_left
  intro x hx
  have := h x hx
  simp
  omega
theorem son_bytesOf (a : ByteArray) : strOfNums (bytesOf a) = a := by
  apply ba_ext
  simp [strOfNums, bytesOf, List.map_map, Function.comp_def]
theorem bytes_bytesOf (a : ByteArray) : Bytes (bytesOf a) := by
  intro x hx
  simp only [bytesOf, List.mem_map] at hx
  obtain ⟨b, _, rfl⟩ := hx
  have := b.toNat_lt
  omega
theorem son_inj {xs ys : List Int} (hx : Bytes xs) (hy : Bytes ys) (h : strOfNums xs = strOfNums ys) : xs = ys := by
  rw [← bytesOf_son hx, ← bytesOf_son hy, h]
theorem bt_bytesOf (a : ByteArray) (i : Nat) : bt a i = (bytesOf a).getD i 0 := by
  have := rd_bytesOf a i
  unfold rd at this
  rw [← this]; simp
theorem bt_son {xs : List Int} (h : Bytes xs) (i : Nat) : bt (strOfNums xs) i = xs.getD i 0 := by rw [bt_bytesOf, bytesOf_son h]
theorem son_size (xs : List Int) : (strOfNums xs).size = xs.length := strOfNums_size xs
theorem ba_eq_of_bt {a b : ByteArray} (hs : a.size = b.size) (h : ∀ i : Nat, i < a.size → bt a i = bt b i) : a = b := by
  rw [← son_bytesOf a, ← son_bytesOf b]
  congr 1
  apply List.ext_getElem
  · rw [bytesOf_length, bytesOf_length, hs]
  · intro i h1 h2
    have := h i (by rw [bytesOf_length] at h1; exact h1)
    rw [bt_bytesOf, bt_bytesOf] at this
    simpa [List.getD_eq_getElem?_getD, List.getElem?_eq_getElem h1, List.getElem?_eq_getElem h2] using this

/-! ### the places of signs -/
theorem place_byte : ∀ c : Fin 256, -1 ≤ place (c.val : Int) ∧ place (c.val : Int) < 39 := by decide +kernel
theorem place_range (c : Int) (h0 : 0 ≤ c) (h1 : c < 256) : -1 ≤ place c ∧ place c < 39 := by
  obtain ⟨n, rfl⟩ := Int.eq_ofNat_of_zero_le h0
  exact place_byte ⟨n, by omega⟩
theorem bt_byte (a : ByteArray) (i : Int) : 0 ≤ bt a i ∧ bt a i < 256 := by have := bt_range a i; omega
/-- Is it a word? -/
def wordOk (a : ByteArray) : Bool := decide (packOk a)
theorem packOk_iff (a : ByteArray) : packOk a ↔ a.size ≤ 16 ∧ ∀ i : Nat, i < a.size → 0 ≤ place (bt a i) := by
  unfold packOk
  constructor
  · rintro ⟨h1, h2⟩; exact ⟨h1, fun i hi => (h2 i hi).1⟩
  · rintro ⟨h1, h2⟩; exact ⟨h1, fun i hi => ⟨h2 i hi, (place_range _ (bt_byte a i).1 (bt_byte a i).2).2⟩⟩
/-- What a word is packed as; nothing, if it is none. -/
def pk (a : ByteArray) : ByteArray := if wordOk a = true then packB a else ⟨#[]⟩
theorem son_extract (xs : List Int) (n : Nat) : (strOfNums xs).extract 0 n = strOfNums (xs.take n) := by
  apply ba_ext
  simp [strOfNums, List.map_take]
theorem bytesL_take (l : List Int) (n m : Nat) (h : n ≤ m) : (bytesL l m).take n = bytesL l n := by
  induction m with
  | zero => have : n = 0 := by omega
            subst this; rfl
  | succ m ih =>
    by_cases e : n = m + 1
    · subst e; rw [List.take_of_length_le (by rw [bytesL_len]; omega)]
    · rw [bytesL, List.take_append_of_le_length (by rw [bytesL_len]; omega), ih (by omega)]
theorem bytesL_congr {l l' : List Int} (m : Nat) (h : l.take (8 * m) = l'.take (8 * m)) : bytesL l m = bytesL l' m := by
  induction m with
  | zero => rfl
  | succ m ih =>
    have h1 : l.take (8 * m) = l'.take (8 * m) := by
      have := congrArg (List.take (8 * m)) h
      rw [List.take_take, List.take_take, Nat.min_eq_left (by omega)] at this
      exact this
    have h2 : (l.drop (8 * m)).take 8 = (l'.drop (8 * m)).take 8 := by
      have := congrArg (List.drop (8 * m)) h
      rw [List.drop_take, List.drop_take, show 8 * (m + 1) - 8 * m = 8 by omega] at this
      exact this
    rw [bytesL, bytesL, ih h1, h2]
theorem packBits_prefix (a : ByteArray) (j n : Nat) (h : j ≤ n) : ∃ r, packBits a n = packBits a j ++ r := by
  induction n with
  | zero => have : j = 0 := by omega
            subst this; exact ⟨[], by simp⟩
  | succ n ih =>
    by_cases e : j = n + 1
    · subst e; exact ⟨[], by simp⟩
    · obtain ⟨r, hr⟩ := ih (by omega)
      exact ⟨r ++ signBits (place (bt a n)), by rw [packBits, hr, List.append_assoc]⟩
theorem bytesOf_extract (a : ByteArray) (i j : Nat) : bytesOf (a.extract i j) = ((bytesOf a).take j).drop i := by
  unfold bytesOf
  simp [List.map_take, List.map_drop, List.drop_take]
theorem bt_extract (a : ByteArray) (j i : Nat) (h : i < j) : bt (a.extract 0 j) i = bt a i := by
  rw [bt_bytesOf, bt_bytesOf, bytesOf_extract, List.drop_zero]
  simp [List.getD_eq_getElem?_getD, List.getElem?_take, h]
theorem packBits_congr {a b : ByteArray} (j : Nat) (h : ∀ i : Nat, i < j → bt a i = bt b i) : packBits a j = packBits b j := by
  induction j with
  | zero => rfl
  | succ j ih => rw [packBits, packBits, ih (fun i hi => h i (by omega)), h j (by omega)]
theorem packBits_extract (a : ByteArray) (j : Nat) : packBits (a.extract 0 j) j = packBits a j := packBits_congr j (fun i hi => bt_extract a j i hi)
theorem extract_size (a : ByteArray) (j : Nat) (h : j ≤ a.size) : (a.extract 0 j).size = j := by simp; omega
theorem packOk_extract {a : ByteArray} (hp : packOk a) (j : Nat) (h : j ≤ a.size) : packOk (a.extract 0 j) := by
  refine ⟨by rw [extract_size a j h]; have := hp.1; omega, fun i hi => ?_⟩
  rw [extract_size a j h] at hi
  rw [bt_extract a j i hi]
  exact hp.2 i (by omega)
theorem packB_size (a : ByteArray) : (packB a).size = (padBits (packBits a a.size)).length / 8 := by unfold packB; rw [son_size, bytesL_len]
theorem padBits_take (l : List Int) (n : Nat) (h : n ≤ l.length) : (padBits l).take n = l.take n := by
  unfold padBits; rw [List.take_append_of_le_length h]
theorem pk_of {a : ByteArray} (hp : packOk a) : pk a = packB a := by unfold pk wordOk; rw [if_pos (by simpa using hp)]
theorem pack_begins {a : ByteArray} (hp : packOk a) (j : Nat) (h : j ≤ a.size) :
    (packB (a.extract 0 j)).size ≤ (packB a).size ∧ (packB a).extract 0 ((packB (a.extract 0 j)).size - 1) = (packB (a.extract 0 j)).extract 0 ((packB (a.extract 0 j)).size - 1) := by
  obtain ⟨r, hr⟩ := packBits_prefix a j a.size h
  have e0 : packBits (a.extract 0 j) (a.extract 0 j).size = packBits a j := by rw [extract_size a j h, packBits_extract]
  have h1 := padBits_len (packBits a j)
  have h2 := padBits_len (packBits a a.size)
  have hl : (packBits a j).length ≤ (packBits a a.size).length := by rw [hr]; simp
  have es : (packB (a.extract 0 j)).size = (padBits (packBits a j)).length / 8 := by rw [packB_size, e0]
  have hle : (packB (a.extract 0 j)).size ≤ (packB a).size := by rw [es, packB_size]; omega
  refine ⟨hle, ?_⟩
  rw [es]
  rw [es, packB_size] at hle
  unfold packB
  rw [e0, son_extract, son_extract, bytesL_take _ _ _ (by omega), bytesL_take _ _ _ (by omega)]
  congr 1
  apply bytesL_congr
  rw [padBits_take _ _ (by omega), padBits_take _ _ (by omega), hr, List.take_append_of_le_length (by omega)]
theorem packB_small {a : ByteArray} (hp : packOk a) : (packB a).size ≤ 14 := by
  rw [packB_size]
  have h1 := padBits_len (packBits a a.size)
  have h2 := packBits_len a a.size
  have := hp.1
  omega
/-- What an ok word is written as. -/
def wrB (a : ByteArray) : ByteArray := if (packB a).size < a.size then strOfNums [128 + ((packB a).size : Int)] ++ packB a else strOfNums [(a.size : Int)] ++ a
/-- What a word is written as; nothing, if it is none. -/
def wr (a : ByteArray) : ByteArray := if wordOk a = true then wrB a else ⟨#[]⟩
theorem ok_of {a : ByteArray} (h : wordOk a = true) : packOk a := by simpa [wordOk] using h
theorem wordOk_of {a : ByteArray} (h : packOk a) : wordOk a = true := by simpa [wordOk] using h
theorem wr_of {a : ByteArray} (hp : packOk a) : wr a = wrB a := by unfold wr; rw [if_pos (wordOk_of hp)]
end Go.Proofs.Ytdhahifdcoinhaa.Lm
