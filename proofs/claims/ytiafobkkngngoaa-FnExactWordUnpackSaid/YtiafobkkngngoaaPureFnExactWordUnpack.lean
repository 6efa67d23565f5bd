/- The plain law of FnExactWordUnpack: for every input that fits, what the printed functions reckon is true. No condition but the row's own. -/
import Derived.Test.YtiafobkkngngoaaLm0
import Derived.Test.YtiafobkkngngoaaLm1
import Derived.Test.YtiafobkkngngoaaLm2
import Derived.Test.YtiafobkkngngoaaLm3
import Derived.Test.YtiafobkkngngoaaLm4
import Derived.Test.YtiafobkkngngoaaPFnExactWordUnpackx4
namespace Go.Proofs.Ytiafobkkngngoaa.Pure
open Go.RowKit Go.Proofs.Ytiafobkkngngoaa.PFnExactWordUnpack Go.Proofs.YtiafobkkngngoaaW.PrintWords Go.Proofs.YtiafobkkngngoaaW.PrintLast Go.Proofs.YtiafobkkngngoaaW.PrintMore Go.Proofs.Ytiafobkkngngoaa.Lm
set_option linter.unusedVariables false
set_option linter.unusedSimpArgs false

theorem IndexByte_eq (c : Int) : strings_IndexByte.f (⟨#[101, 116, 97, 111, 105, 110, 115, 114, 104, 108, 48, 49, 50, 51, 52, 53, 54, 55, 56, 57, 100, 99, 117, 109, 102, 112, 103, 119, 121, 98, 118, 107, 120, 106, 113, 122, 58, 47, 45]⟩ : ByteArray) c = some (place c) := rfl
theorem impl_WordOk_l0 (a : ByteArray) (hs : a.size ≤ 1000000000) (d : Nat) : ∀ i : Nat, a.size - i = d → i ≤ a.size →
    Ev (fun k => impl_WordOk.l0 k a (a.size : Int) i) (decide (a.size ≤ 16 ∧ ∀ j : Nat, j < a.size → i ≤ j → 0 ≤ place (bt a j))) := by
  induction d with
  | zero =>
    intro i hd hi
    have e : i = a.size := by omega
    refine Ev.step (fun k => by rw [impl_WordOk.l0]) ?_
    refine Ev.neg (by omega) ?_
    have : (decide (a.size ≤ 16 ∧ ∀ j : Nat, j < a.size → i ≤ j → 0 ≤ place (bt a j))) = decide ((a.size : Int) ≤ 16) := by
      rw [decide_eq_decide]
      constructor
      · rintro ⟨h, _⟩; omega
      · intro h; exact ⟨by omega, fun j h1 h2 => by omega⟩
    rw [this]
    exact Ev.now _
  | succ d ih =>
    intro i hd hi
    have hb := bt_byte a i
    refine Ev.step (fun k => by rw [impl_WordOk.l0]) ?_
    refine EvQ.ev (EvQ.pos (by omega) (EvQ.pos (by omega) (EvQ.pos (by omega) ?_)))
    rw [IndexByte_eq]
    simp only [Option.bind_some]
    refine EvQ.ite (fun h => EvQ.now ?_) (fun h => ?_)
    · symm
      rw [decide_eq_false_iff_not]
      rintro ⟨_, h2⟩
      have := h2 i (by omega) (by omega)
      omega
    · rw [w64_0 _ (by omega) (by omega), show ((i : Int) + 1) = ((i + 1 : Nat) : Int) by omega]
      refine EvQ.of_ev (ih (i + 1) (by omega) (by omega)) ?_
      rw [decide_eq_decide]
      constructor
      · rintro ⟨h1, h2⟩
        refine ⟨h1, fun j h3 h4 => ?_⟩
        by_cases e : j = i
        · subst e; omega
        · exact h2 j h3 (by omega)
      · rintro ⟨h1, h2⟩
        exact ⟨h1, fun j h3 h4 => h2 j h3 (by omega)⟩
theorem impl_WordOk_ev (a : ByteArray) (hs : a.size ≤ 1000000000) : Ev (fun k => impl_WordOk.f k a) (wordOk a) := by
  unfold impl_WordOk.f
  have h := impl_WordOk_l0 a hs a.size 0 (by omega) (by omega)
  have e : wordOk a = (decide (a.size ≤ 16 ∧ ∀ j : Nat, j < a.size → 0 ≤ j → 0 ≤ place (bt a j))) := by
    unfold wordOk
    rw [decide_eq_decide, packOk_iff]
    simp
  rw [e]
  exact h

theorem impl_WordPack_ev (a : ByteArray) (hs : a.size ≤ 1000000000) : Ev (fun k => impl_WordPack.f k a) (pk a) := by
  unfold impl_WordPack.f
  refine EvQ.ev (EvQ.bindE (impl_WordOk_ev a hs) ?_)
  unfold pk
  refine EvQ.ite (fun h => ?_) (fun h => EvQ.now (by rw [if_neg h]))
  have hp : packOk a := by simpa [wordOk] using h
  refine EvQ.pos hp (EvQ.now (by rw [if_pos h]))

theorem upW_size (b : ByteArray) (h : b.size ≤ 16) : (upW b).size ≤ 100 := by
  obtain ⟨e, ho⟩ := dec_enc 30 (bitsB b b.size) (bitsB_bits b _)
  have hl := bitsB_len b b.size
  have : ∀ o : List Int, 5 * o.length ≤ (enc o).length := by
    intro o
    induction o with
    | nil => simp [enc]
    | cons p o ih =>
      rw [enc_cons, List.length_append, List.length_cons]
      have : 5 ≤ (signBits p).length := by unfold signBits; split <;> simp [bitsL_length]
      omega
  have h2 := this (decF 30 (bitsB b b.size)).1
  have h3 := congrArg List.length e
  rw [List.length_append] at h3
  unfold upW
  rw [son_size, List.length_map]
  omega
theorem impl_WordUnpack_ev (b : ByteArray) : Ev (fun k => impl_WordUnpack.f k b) (unp b) := by
  unfold impl_WordUnpack.f unp
  refine EvQ.ev (EvQ.ite (fun h => EvQ.now (by rw [if_pos h])) (fun h => ?_))
  have hs := upW_size b (by omega)
  rw [if_neg h]
  refine EvQ.bindE (impl_WordOk_ev (upW b) (by omega)) ?_
  by_cases hok : wordOk (upW b) = true
  · refine EvQ.pos hok (EvQ.bindE (impl_WordPack_ev (upW b) (by omega)) ?_)
    rw [pk_of (ok_of hok)]
    refine EvQ.ite (fun h2 => EvQ.now (by rw [if_pos ⟨hok, h2⟩])) (fun h2 => EvQ.now (by rw [if_neg (fun h3 => h2 h3.2)]))
  · refine EvQ.neg hok (EvQ.now (by rw [if_neg (fun h3 => hok h3.1)]))

theorem l2Bits_8 : ∀ c : Fin 256, spec_l2Bits.f 10 (c.val : Int) 8 = some (bitsL (c.val : Int) 8) := by decide +kernel
theorem l2Bits_ev8 (c : Int) (h0 : 0 ≤ c) (h1 : c < 256) : Ev (fun k => spec_l2Bits.f k c 8) (bitsL c 8) := by
  obtain ⟨n, rfl⟩ := Int.eq_ofNat_of_zero_le h0
  exact Ev.of (fun k => spec_l2Bits.mono _ _ k) (l2Bits_8 ⟨n, by omega⟩)

theorem l2Num_l0 (l : List Int) (h01 : ∀ x ∈ l, x = 0 ∨ x = 1) (hl : l.length ≤ 8) (d : Nat) : ∀ i : Nat, l.length - i = d → i ≤ l.length →
    Ev (fun k => spec_l2Num.l0 k l (numL (l.take i)) i) (numL l) := by
  induction d with
  | zero =>
    intro i hd hi
    have e : i = l.length := by omega
    refine Ev.step (fun k => by rw [spec_l2Num.l0]) ?_
    refine Ev.neg (by omega) ?_
    rw [e, List.take_length]
    exact Ev.now _
  | succ d ih =>
    intro i hd hi
    have hr := numL_range l h01 i (by omega)
    have hp := pow8 i (by omega)
    have h2 := rd_01 l h01 i (by omega)
    have ht := numL_take l i (by omega)
    refine Ev.step (fun k => by rw [spec_l2Num.l0]) ?_
    refine EvQ.ev (EvQ.pos (by omega) (EvQ.pos (by omega) ?_))
    rw [w64_0 _ (by omega) (by omega : (i : Int) + 1 < _), w64_0 (2 * _) (by omega) (by omega), w64_0 _ (by omega) (by omega), ← ht, show ((i : Int) + 1) = ((i + 1 : Nat) : Int) by omega]
    exact EvQ.of_ev (ih (i + 1) (by omega) (by omega)) rfl
theorem l2Num_ev (l : List Int) (h01 : ∀ x ∈ l, x = 0 ∨ x = 1) (hl : l.length ≤ 8) : Ev (fun k => spec_l2Num.f k l) (numL l) := by
  unfold spec_l2Num.f
  exact l2Num_l0 l h01 hl l.length 0 (by omega) (by omega)

theorem son_cons (x : Int) (l : List Int) : strOfNums (x :: l) = strOfNums [x] ++ strOfNums l := son_append [x] l
def fin2 (s : ByteArray) (r : List Int) (ones : Bool) : ByteArray × Bool := (s, ones && (decide (r.length < 8) && decide (s.size ≤ 16)))
theorem l2Unpack_l2 (r : List Int) (hr : r.length ≤ 1000) (s : ByteArray) (d : Nat) : ∀ (i : Nat) (ones : Bool), r.length - i = d → i ≤ r.length →
    Ev (fun k => spec_l2Unpack.l2 k r s ones i) (fin2 s r (ones && (r.drop i).all (· == 1))) := by
  induction d with
  | zero =>
    intro i ones hd hi
    have e : i = r.length := by omega
    refine Ev.step (fun k => by rw [spec_l2Unpack.l2]) ?_
    refine Ev.neg (by omega) ?_
    rw [e, List.drop_length]
    unfold fin2
    cases ones with
    | true =>
      refine EvQ.ev (EvQ.pos rfl (EvQ.ite (fun h => EvQ.now ?_) (fun h => EvQ.now ?_)))
      · rw [decide_eq_true (show r.length < 8 by omega)]; simp; omega
      · rw [decide_eq_false (show ¬ r.length < 8 by omega)]; simp
    | false => exact EvQ.ev (EvQ.neg (by decide) (EvQ.now (by simp)))
  | succ d ih =>
    intro i ones hd hi
    refine Ev.step (fun k => by rw [spec_l2Unpack.l2]) ?_
    have hi2 : i < r.length := by omega
    have e1 : (r.drop i).all (· == 1) = (rd r i == 1 && (r.drop (i + 1)).all (· == 1)) := by
      rw [List.drop_eq_getElem_cons hi2, List.all_cons]
      have : rd r i = r[i] := by simp [rd, List.getD_eq_getElem?_getD, List.getElem?_eq_getElem hi2]
      rw [this]
    rw [e1]
    have e2 : wrap64 ((i : Int) + 1) = ((i + 1 : Nat) : Int) := by rw [w64_0 _ (by omega) (by omega)]; omega
    simp only [e2]
    refine EvQ.ev (EvQ.pos (by omega) ?_)
    cases ones with
    | true =>
      refine EvQ.pos rfl (EvQ.pos (by omega) (EvQ.of_ev (ih (i + 1) _ (by omega) (by omega)) ?_))
      simp
    | false =>
      refine EvQ.neg (by decide) (EvQ.of_ev (ih (i + 1) _ (by omega) (by omega)) ?_)
      simp
theorem l2Unpack_j2 (r : List Int) (hr : r.length ≤ 1000) (s : ByteArray) : Ev (fun k => spec_l2Unpack.j2 k r s) (fin2 s r (r.all (· == 1))) := by
  refine Ev.step (fun k => by rw [spec_l2Unpack.j2]) ?_
  have := l2Unpack_l2 r hr s r.length 0 true (by omega) (by omega)
  rw [Bool.true_and, List.drop_zero] at this
  exact this
theorem sb_eq (p : Int) : spec_l1Byte.f (wrap64 (bt (⟨#[101, 116, 97, 111, 105, 110, 115, 114, 104, 108, 48, 49, 50, 51, 52, 53, 54, 55, 56, 57, 100, 99, 117, 109, 102, 112, 103, 119, 121, 98, 118, 107, 120, 106, 113, 122, 58, 47, 45]⟩ : ByteArray) p)) = some (strOfNums [signAt p]) := by
  have hb := bt_byte (⟨#[101, 116, 97, 111, 105, 110, 115, 114, 104, 108, 48, 49, 50, 51, 52, 53, 54, 55, 56, 57, 100, 99, 117, 109, 102, 112, 103, 119, 121, 98, 118, 107, 120, 106, 113, 122, 58, 47, 45]⟩ : ByteArray) p
  unfold spec_l1Byte.f
  rw [w64_0 _ hb.1 (by omega), Int.emod_eq_of_lt hb.1 hb.2]
  rfl
theorem l2Unpack_l1 (f : Nat) : ∀ (R : List Int) (s : ByteArray), Bits R → R.length < 5 * f + 5 → s.size + R.length ≤ 900 →
    Ev (fun k => spec_l2Unpack.l1 k R s) (fin2 (s ++ strOfNums ((decF f R).1.map signAt)) (decF f R).2 ((decF f R).2.all (· == 1))) := by
  induction f with
  | zero =>
    intro R s hb hl hs
    refine Ev.step (fun k => by rw [spec_l2Unpack.l1]) (Ev.neg (by omega) ?_)
    have := l2Unpack_j2 R (by omega) s
    rw [decF]
    simp only [List.map_nil, son_nil, ba_nil_append]
    exact this
  | succ f ih =>
    intro R s hb hl hs
    refine Ev.step (fun k => by rw [spec_l2Unpack.l1]) ?_
    rw [decF]
    by_cases h5 : R.length < 5
    · rw [if_pos h5]
      simp only [List.map_nil, son_nil, ba_nil_append]
      exact Ev.neg (by omega) (l2Unpack_j2 R (by omega) s)
    · rw [if_neg h5]
      have hn5 := numL_lt _ (hb.take 5)
      have hp5 := pow8 (R.take 5).length (by rw [List.length_take]; omega)
      refine EvQ.ev (EvQ.pos (by omega) (EvQ.pos (by omega) (EvQ.bindE (l2Num_ev _ (hb.take 5) (by rw [List.length_take]; omega)) ?_)))
      by_cases h24 : numL (R.take 5) < 24
      · rw [if_pos h24]
        refine EvQ.neg (by omega) (EvQ.neg (by omega) (EvQ.pos (by omega) (EvQ.pos (by omega) ?_)))
        rw [sb_eq]
        simp only [Option.bind_some]
        refine EvQ.pos (by rw [son_size]; simp; omega) ?_
        have := ih (R.drop 5) (s ++ strOfNums [signAt (numL (R.take 5))]) (hb.drop 5) (by rw [List.length_drop]; omega) (by rw [ba_size_append, son_size, List.length_drop]; simp; omega)
        refine EvQ.of_ev this ?_
        try dsimp only
        rw [List.map_cons, son_cons _ (List.map signAt (decF f (R.drop 5)).1), ByteArray.append_assoc]
      · rw [if_neg h24]
        refine EvQ.pos (by omega) ?_
        by_cases h7 : R.length < 7
        · rw [if_pos h7]
          simp only [List.map_nil, son_nil, ba_nil_append]
          exact EvQ.pos (by omega) (EvQ.of_ev (l2Unpack_j2 R (by omega) s) rfl)
        · rw [if_neg h7]
          have hn7 := num7 R hb (by omega)
          have hr7 := numL_lt _ (hb.take 7)
          have hp7 := pow8 (R.take 7).length (by rw [List.length_take]; omega)
          refine EvQ.neg (by omega) (EvQ.pos (by omega) (EvQ.bindE (l2Num_ev _ (hb.take 7) (by rw [List.length_take]; omega)) ?_))
          have e7 : wrap64 (wrap64 (numL (R.take 7) - 96) + 24) = numL (R.take 7) - 72 := by
            rw [w64 (numL (R.take 7) - 96) (by omega) (by omega), w64 _ (by omega) (by omega)]; omega
          simp only [e7]
          by_cases h39 : numL (R.take 7) - 72 ≥ 39
          · rw [if_pos h39]
            simp only [List.map_nil, son_nil, ba_nil_append]
            exact EvQ.pos h39 (EvQ.of_ev (l2Unpack_j2 R (by omega) s) rfl)
          · rw [if_neg h39]
            refine EvQ.neg h39 (EvQ.pos (by omega) (EvQ.pos (by omega) ?_))
            rw [sb_eq]
            simp only [Option.bind_some]
            refine EvQ.pos (by rw [son_size]; simp; omega) ?_
            have := ih (R.drop 7) (s ++ strOfNums [signAt (numL (R.take 7) - 72)]) (hb.drop 7) (by rw [List.length_drop]; omega) (by rw [ba_size_append, son_size, List.length_drop]; simp; omega)
            refine EvQ.of_ev this ?_
            try dsimp only
            rw [List.map_cons, son_cons _ (List.map signAt (decF f (R.drop 7)).1), ByteArray.append_assoc]
theorem l2Unpack_l0 (b : ByteArray) (hs : b.size ≤ 16) (d : Nat) : ∀ i : Nat, b.size - i = d → i ≤ b.size →
    Ev (fun k => spec_l2Unpack.l0 k b (bitsB b i) i) (fin2 (upW b) (decF 30 (bitsB b b.size)).2 ((decF 30 (bitsB b b.size)).2.all (· == 1))) := by
  induction d with
  | zero =>
    intro i hd hi
    have e : i = b.size := by omega
    refine Ev.step (fun k => by rw [spec_l2Unpack.l0]) (Ev.neg (by omega) ?_)
    rw [e]
    have := l2Unpack_l1 30 (bitsB b b.size) (⟨#[]⟩ : ByteArray) (bitsB_bits b _) (by rw [bitsB_len]; omega) (by rw [bitsB_len, ba_size_nil]; omega)
    rw [ba_append_nil] at this
    exact this
  | succ d ih =>
    intro i hd hi
    have hb := bt_byte b i
    have e2 : wrap64 ((i : Int) + 1) = ((i + 1 : Nat) : Int) := by rw [w64_0 _ (by omega) (by omega)]; omega
    refine Ev.step (fun k => by rw [spec_l2Unpack.l0]) ?_
    simp only [e2]
    rw [w64_0 (bt b i) hb.1 (by omega)]
    refine EvQ.ev (EvQ.pos (by omega) (EvQ.pos (by omega) (EvQ.bindE (l2Bits_ev8 _ hb.1 hb.2) (EvQ.pos (by rw [bitsB_len, bitsL_length]; omega) (EvQ.of_ev (ih (i + 1) (by omega) (by omega)) rfl)))))
theorem spec_WordUnpack_ev (b : ByteArray) : Ev (fun k => spec_WordUnpack.f k b) (unp b) := by
  unfold spec_WordUnpack.f unp
  refine EvQ.ev (EvQ.ite (fun h => EvQ.now (by rw [if_pos (by omega)])) (fun h => ?_))
  rw [if_neg (by omega)]
  unfold spec_l2Unpack.f
  refine EvQ.bindE (l2Unpack_l0 b (by omega) b.size 0 (by omega) (by omega)) ?_
  unfold fin2
  try dsimp only
  have hi := up_iff b
  have hsz : (upW b).size = (decF 30 (bitsB b b.size)).1.length := by unfold upW; rw [son_size, List.length_map]
  have e : (((decF 30 (bitsB b b.size)).2.all (· == 1)) && (decide ((decF 30 (bitsB b b.size)).2.length < 8) && decide ((upW b).size ≤ 16))) = true ↔ (wordOk (upW b) = true ∧ packB (upW b) = b) := by
    rw [hi, hsz, Bool.and_eq_true, Bool.and_eq_true, decide_eq_true_iff, decide_eq_true_iff, List.all_eq_true]
    unfold AllOnes
    simp
  refine EvQ.ite (fun h2 => EvQ.now ?_) (fun h2 => EvQ.now ?_)
  · rw [if_pos (e.1 h2)]
  · rw [if_neg (fun h3 => h2 (e.2 h3))]

theorem FnExactWordUnpack : laws_FnExactWordUnpack.Pure := by
  intro a _
  apply EvQ.tt
  unfold laws_FnExactWordUnpack.f
  refine EvQ.ite (fun _ => EvQ.now rfl) (fun h => ?_)
  refine EvQ.bindE (spec_WordUnpack_ev a) (EvQ.bindE (impl_WordUnpack_ev a) (EvQ.pos rfl (EvQ.neg (by simp) (EvQ.now rfl))))

end Go.Proofs.Ytiafobkkngngoaa.Pure
