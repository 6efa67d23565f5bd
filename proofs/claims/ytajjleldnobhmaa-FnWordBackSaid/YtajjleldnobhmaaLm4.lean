/- Plain laws of unpacking: what is unpacked packs as it was, and back. No program in sight. -/
import Derived.Test.YtajjleldnobhmaaLm3
namespace Go.Proofs.Ytajjleldnobhmaa.Lm
set_option linter.unusedSimpArgs false
set_option linter.unusedVariables false
open Go.RowKit Go.Proofs.YtajjleldnobhmaaW.PrintWords Go.Proofs.YtajjleldnobhmaaW.PrintLast Go.Proofs.YtajjleldnobhmaaW.PrintMore

/-- What bytes are unpacked to. -/
def unp (b : ByteArray) : ByteArray × Bool := if b.size > 16 then (⟨#[]⟩, false) else if wordOk (upW b) = true ∧ packB (upW b) = b then (upW b, true) else (⟨#[]⟩, false)
theorem place_signAt_all : ∀ p : Fin 39, place (signAt (p.val : Int)) = (p.val : Int) := by decide +kernel
theorem place_signAt (p : Int) (h0 : 0 ≤ p) (h1 : p < 39) : place (signAt p) = p := by
  obtain ⟨n, rfl⟩ := Int.eq_ofNat_of_zero_le h0
  exact place_signAt_all ⟨n, by omega⟩
theorem signs_bytes (o : List Int) : Bytes (o.map signAt) := by
  intro x hx
  obtain ⟨p, _, rfl⟩ := List.mem_map.1 hx
  exact bt_byte _ _
theorem places_map (o : List Int) (ho : ∀ p ∈ o, 0 ≤ p ∧ p < 39) : places (strOfNums (o.map signAt)) o.length = o := by
  apply List.ext_getElem
  · rw [places_len]
  · intro i h1 h2
    have hg := places_get (strOfNums (o.map signAt)) o.length i h2
    rw [bt_son (signs_bytes o)] at hg
    rw [List.getD_eq_getElem?_getD, List.getElem?_eq_getElem h1, List.getD_eq_getElem?_getD, List.getElem?_map, List.getElem?_eq_getElem h2] at hg
    simp only [Option.getD_some, Option.map_some] at hg
    rw [hg]
    exact place_signAt _ (ho _ (List.getElem_mem h2)).1 (ho _ (List.getElem_mem h2)).2
theorem map_ok (o : List Int) (ho : ∀ p ∈ o, 0 ≤ p ∧ p < 39) : packOk (strOfNums (o.map signAt)) ↔ o.length ≤ 16 := by
  rw [packOk_iff, son_size, List.length_map]
  constructor
  · exact fun h => h.1
  · intro h
    refine ⟨h, fun i hi => ?_⟩
    rw [bt_son (signs_bytes o), List.getD_eq_getElem?_getD, List.getElem?_map, List.getElem?_eq_getElem hi]
    simp only [Option.getD_some, Option.map_some]
    have := ho _ (List.getElem_mem hi)
    rw [place_signAt _ this.1 this.2]
    exact this.1
def AllOnes (r : List Int) : Prop := ∀ x ∈ r, x = 1
theorem ones_rep {r : List Int} (h : AllOnes r) : r = List.replicate r.length 1 := List.eq_replicate_iff.2 ⟨rfl, h⟩
theorem up_iff (b : ByteArray) :
    (wordOk (upW b) = true ∧ packB (upW b) = b) ↔ (AllOnes (decF 30 (bitsB b b.size)).2 ∧ (decF 30 (bitsB b b.size)).2.length < 8 ∧ (decF 30 (bitsB b b.size)).1.length ≤ 16) := by
  obtain ⟨e, ho⟩ := dec_enc 30 (bitsB b b.size) (bitsB_bits b _)
  have hl := bitsB_len b b.size
  have hbb := bytes_bits b
  unfold upW
  generalize hB : bitsB b b.size = B at *
  generalize hd : decF 30 B = d at *
  obtain ⟨o, r⟩ := d
  dsimp only at *
  have hpl := places_map o ho
  have hsz : (strOfNums (o.map signAt)).size = o.length := by rw [son_size, List.length_map]
  have hpk : packBits (strOfNums (o.map signAt)) (strOfNums (o.map signAt)).size = enc o := by rw [packBits_enc, hsz, hpl]
  have hbits : bitsB (packB (strOfNums (o.map signAt))) (packB (strOfNums (o.map signAt))).size = padBits (enc o) := by rw [bits_packB, hpk]
  have hw : wordOk (strOfNums (o.map signAt)) = true ↔ o.length ≤ 16 := by unfold wordOk; rw [decide_eq_true_iff, map_ok o ho]
  constructor
  · rintro ⟨h1, h2⟩
    rw [h2, hB] at hbits
    rw [e] at hbits
    unfold padBits at hbits
    have hr := List.append_cancel_left hbits
    refine ⟨?_, ?_, hw.1 h1⟩
    · rw [hr]; intro x hx; exact (List.mem_replicate.1 hx).2
    · rw [hr, List.length_replicate]; omega
  · rintro ⟨h1, h2, h3⟩
    refine ⟨hw.2 h3, ?_⟩
    have hr := ones_rep h1
    have hlen : (enc o).length + r.length = 8 * b.size := by rw [← hl, e, List.length_append]
    have hP : padBits (enc o) = B := by
      unfold padBits
      rw [e, hr]
      congr 2
      omega
    unfold packB
    rw [hpk, hP, hl, show 8 * b.size / 8 = b.size by omega, hbb]
theorem up_pack {a : ByteArray} (hp : packOk a) : unp (packB a) = (a, true) := by
  have h14 := packB_small hp
  have hd := dec_pack hp 30 (by have := hp.1; omega)
  have hu : upW (packB a) = a := by unfold upW; rw [bits_packB, hd]; exact places_signs hp
  unfold unp
  rw [if_neg (by omega), if_pos (by rw [hu]; exact ⟨wordOk_of hp, rfl⟩), hu]
theorem up_true {b w : ByteArray} (h : unp b = (w, true)) : packOk w ∧ packB w = b ∧ b.size ≤ 16 := by
  unfold unp at h
  split at h
  · cases h
  · split at h
    · rename_i h1 h2
      simp only [Prod.mk.injEq, and_true] at h
      rw [← h]
      exact ⟨ok_of h2.1, h2.2, by omega⟩
    · cases h
theorem up_false {b w : ByteArray} {t : Bool} (h : unp b = (w, t)) (ht : t = false) : w = ⟨#[]⟩ := by
  unfold unp at h
  split at h
  · simp only [Prod.mk.injEq] at h; exact h.1.symm
  · split at h
    · simp only [Prod.mk.injEq] at h; rw [ht] at h; exact absurd h.2 (by decide)
    · simp only [Prod.mk.injEq] at h; exact h.1.symm
theorem ones_stuck5 (j : Nat) (h : 5 ≤ j) : (List.replicate j (1 : Int)).take 5 = [1, 1, 1, 1, 1] := by
  rw [List.take_replicate, Nat.min_eq_left h]; rfl
theorem ones_stuck7 (j : Nat) (h : 7 ≤ j) : (List.replicate j (1 : Int)).take 7 = [1, 1, 1, 1, 1, 1, 1] := by
  rw [List.take_replicate, Nat.min_eq_left h]; rfl
theorem dec_ones_all (j g : Nat) : decF g (List.replicate j 1) = ([], List.replicate j 1) := by
  cases g with
  | zero => rfl
  | succ g =>
    rw [decF]
    by_cases h5 : j < 5
    · rw [if_pos (by simpa using h5)]
    · rw [if_neg (by simpa using h5), ones_stuck5 j (by omega), if_neg (by decide)]
      by_cases h7 : j < 7
      · rw [if_pos (by simpa using h7)]
      · rw [if_neg (by simpa using h7), ones_stuck7 j (by omega), if_pos (by decide)]
theorem bits255 : bitsL 255 8 = List.replicate 8 1 := by decide
theorem bitsB_congr {a b : ByteArray} (n : Nat) (h : ∀ i : Nat, i < n → bt a i = bt b i) : bitsB a n = bitsB b n := by
  induction n with
  | zero => rfl
  | succ n ih => rw [bitsB, bitsB, ih (fun i hi => h i (by omega)), h n (by omega)]
theorem bt_app' (a b : ByteArray) (i : Nat) : bt (a ++ b) i = if i < a.size then bt a i else bt b ((i - a.size : Nat) : Int) := by
  have e : bytesOf (a ++ b) = bytesOf a ++ bytesOf b := by unfold bytesOf; simp
  rw [bt_bytesOf, e, List.getD_eq_getElem?_getD]
  split
  · rename_i h
    rw [List.getElem?_append_left (by rw [bytesOf_length]; exact h), bt_bytesOf, List.getD_eq_getElem?_getD]
  · rename_i h
    rw [List.getElem?_append_right (by rw [bytesOf_length]; omega), bytesOf_length, bt_bytesOf, List.getD_eq_getElem?_getD]
theorem up_ones {a : ByteArray} (hp : packOk a) : (unp (packB a ++ (⟨#[255]⟩ : ByteArray))).2 = false := by
  have h14 := packB_small hp
  have hsz : (packB a ++ (⟨#[255]⟩ : ByteArray)).size = (packB a).size + 1 := by rw [ba_size_append]; rfl
  have hB : bitsB (packB a ++ (⟨#[255]⟩ : ByteArray)) ((packB a).size + 1) = enc (places a a.size) ++ List.replicate ((8 - (packBits a a.size).length % 8) % 8 + 8) 1 := by
    rw [bitsB, bitsB_congr (a := packB a ++ (⟨#[255]⟩ : ByteArray)) (b := packB a) _ (fun i hi => by rw [bt_app', if_pos hi]), bits_packB, bt_app', if_neg (by omega), show (packB a).size - (packB a).size = 0 by omega]
    rw [show bt (⟨#[255]⟩ : ByteArray) ((0 : Nat) : Int) = 255 by decide, bits255]
    unfold padBits
    rw [packBits_enc, List.append_assoc, List.replicate_append_replicate]
  have hd := dec_of_enc (places a a.size) 30 (List.replicate ((8 - (packBits a a.size).length % 8) % 8 + 8) 1) (places_ok hp _ (Nat.le_refl _)) (by rw [places_len]; have := hp.1; omega) (fun g => dec_ones_all _ g)
  unfold unp
  rw [if_neg (by omega), if_neg]
  rw [up_iff, hsz, hB, hd]
  dsimp only
  rw [List.length_replicate]
  omega
end Go.Proofs.Ytajjleldnobhmaa.Lm
