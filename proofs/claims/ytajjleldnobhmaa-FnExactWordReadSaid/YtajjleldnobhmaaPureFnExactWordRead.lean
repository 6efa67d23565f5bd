/- The plain law of FnExactWordRead: for every input that fits, what the printed functions reckon is true. No condition but the row's own. -/
import Derived.Test.YtajjleldnobhmaaLm0
import Derived.Test.YtajjleldnobhmaaLm1
import Derived.Test.YtajjleldnobhmaaLm2
import Derived.Test.YtajjleldnobhmaaLm3
import Derived.Test.YtajjleldnobhmaaLm4
import Derived.Test.YtajjleldnobhmaaLm5
import Derived.Test.YtajjleldnobhmaaPFnExactWordReadx6
namespace Go.Proofs.Ytajjleldnobhmaa.Pure
open Go.RowKit Go.Proofs.Ytajjleldnobhmaa.PFnExactWordRead Go.Proofs.YtajjleldnobhmaaW.PrintWords Go.Proofs.YtajjleldnobhmaaW.PrintLast Go.Proofs.YtajjleldnobhmaaW.PrintMore Go.Proofs.Ytajjleldnobhmaa.Lm
set_option linter.unusedVariables false
set_option linter.unusedSimpArgs false

theorem l2Sign_all : ∀ c : Fin 256, spec_l2Sign.f 50 (c.val : Int) = some (place (c.val : Int)) := by decide +kernel
theorem l2Sign_ev (c : Int) (h0 : 0 ≤ c) (h1 : c < 256) : Ev (fun k => spec_l2Sign.f k c) (place c) := by
  obtain ⟨n, rfl⟩ := Int.eq_ofNat_of_zero_le h0
  exact Ev.of (fun k => spec_l2Sign.mono _ k) (l2Sign_all ⟨n, by omega⟩)

theorem spec_WordOk_l0 (a : ByteArray) (hs : a.size ≤ 1000000000) (d : Nat) : ∀ i : Nat, a.size - i = d → i ≤ a.size →
    Ev (fun k => spec_WordOk.l0 k a i) (decide (a.size ≤ 16 ∧ ∀ j : Nat, j < a.size → i ≤ j → 0 ≤ place (bt a j))) := by
  induction d with
  | zero =>
    intro i hd hi
    have e : i = a.size := by omega
    refine Ev.step (fun k => by rw [spec_WordOk.l0]) ?_
    refine Ev.neg (by omega) ?_
    have : (decide (a.size ≤ 16 ∧ ∀ j : Nat, j < a.size → i ≤ j → 0 ≤ place (bt a j))) = decide ((a.size : Int) ≤ 16) := by
      rw [decide_eq_decide]
      constructor
      · rintro ⟨h, _⟩; omega
      · intro h; exact ⟨by omega, fun j h1 h2 => by omega⟩
    rw [this]
    exact Ev.now _
  | succ d ih =>
    intro i hd hi
    have hb := bt_byte a i
    refine Ev.step (fun k => by rw [spec_WordOk.l0]) ?_
    refine EvQ.ev (EvQ.pos (by omega) (EvQ.pos (by omega) (EvQ.bindE (l2Sign_ev _ hb.1 hb.2) ?_)))
    refine EvQ.ite (fun h => EvQ.now ?_) (fun h => ?_)
    · symm
      rw [decide_eq_false_iff_not]
      rintro ⟨_, h2⟩
      have := h2 i (by omega) (by omega)
      omega
    · rw [w64_0 _ (by omega) (by omega), show ((i : Int) + 1) = ((i + 1 : Nat) : Int) by omega]
      refine EvQ.of_ev (ih (i + 1) (by omega) (by omega)) ?_
      rw [decide_eq_decide]
      constructor
      · rintro ⟨h1, h2⟩
        refine ⟨h1, fun j h3 h4 => ?_⟩
        by_cases e : j = i
        · subst e; omega
        · exact h2 j h3 (by omega)
      · rintro ⟨h1, h2⟩
        exact ⟨h1, fun j h3 h4 => h2 j h3 (by omega)⟩
theorem spec_WordOk_ev (a : ByteArray) (hs : a.size ≤ 1000000000) : Ev (fun k => spec_WordOk.f k a) (wordOk a) := by
  unfold spec_WordOk.f
  have h := spec_WordOk_l0 a hs a.size 0 (by omega) (by omega)
  have e : wordOk a = (decide (a.size ≤ 16 ∧ ∀ j : Nat, j < a.size → 0 ≤ j → 0 ≤ place (bt a j))) := by
    unfold wordOk
    rw [decide_eq_decide, packOk_iff]
    simp
  rw [e]
  exact h

theorem IndexByte_eq (c : Int) : strings_IndexByte.f (⟨#[101, 116, 97, 111, 105, 110, 115, 114, 104, 108, 48, 49, 50, 51, 52, 53, 54, 55, 56, 57, 100, 99, 117, 109, 102, 112, 103, 119, 121, 98, 118, 107, 120, 106, 113, 122, 58, 47, 45]⟩ : ByteArray) c = some (place c) := rfl
theorem impl_WordOk_l0 (a : ByteArray) (hs : a.size ≤ 1000000000) (d : Nat) : ∀ i : Nat, a.size - i = d → i ≤ a.size →
    Ev (fun k => impl_WordOk.l0 k a (a.size : Int) i) (decide (a.size ≤ 16 ∧ ∀ j : Nat, j < a.size → i ≤ j → 0 ≤ place (bt a j))) := by
  induction d with
  | zero =>
    intro i hd hi
    have e : i = a.size := by omega
    refine Ev.step (fun k => by rw [impl_WordOk.l0]) ?_
    refine Ev.neg (by omega) ?_
    have : (decide (a.size ≤ 16 ∧ ∀ j : Nat, j < a.size → i ≤ j → 0 ≤ place (bt a j))) = decide ((a.size : Int) ≤ 16) := by
      rw [decide_eq_decide]
      constructor
      · rintro ⟨h, _⟩; omega
      · intro h; exact ⟨by omega, fun j h1 h2 => by omega⟩
    rw [this]
    exact Ev.now _
  | succ d ih =>
    intro i hd hi
    have hb := bt_byte a i
    refine Ev.step (fun k => by rw [impl_WordOk.l0]) ?_
    refine EvQ.ev (EvQ.pos (by omega) (EvQ.pos (by omega) (EvQ.pos (by omega) ?_)))
    rw [IndexByte_eq]
    simp only [Option.bind_some]
    refine EvQ.ite (fun h => EvQ.now ?_) (fun h => ?_)
    · symm
      rw [decide_eq_false_iff_not]
      rintro ⟨_, h2⟩
      have := h2 i (by omega) (by omega)
      omega
    · rw [w64_0 _ (by omega) (by omega), show ((i : Int) + 1) = ((i + 1 : Nat) : Int) by omega]
      refine EvQ.of_ev (ih (i + 1) (by omega) (by omega)) ?_
      rw [decide_eq_decide]
      constructor
      · rintro ⟨h1, h2⟩
        refine ⟨h1, fun j h3 h4 => ?_⟩
        by_cases e : j = i
        · subst e; omega
        · exact h2 j h3 (by omega)
      · rintro ⟨h1, h2⟩
        exact ⟨h1, fun j h3 h4 => h2 j h3 (by omega)⟩
theorem impl_WordOk_ev (a : ByteArray) (hs : a.size ≤ 1000000000) : Ev (fun k => impl_WordOk.f k a) (wordOk a) := by
  unfold impl_WordOk.f
  have h := impl_WordOk_l0 a hs a.size 0 (by omega) (by omega)
  have e : wordOk a = (decide (a.size ≤ 16 ∧ ∀ j : Nat, j < a.size → 0 ≤ j → 0 ≤ place (bt a j))) := by
    unfold wordOk
    rw [decide_eq_decide, packOk_iff]
    simp
  rw [e]
  exact h

theorem impl_WordPack_ev (a : ByteArray) (hs : a.size ≤ 1000000000) : Ev (fun k => impl_WordPack.f k a) (pk a) := by
  unfold impl_WordPack.f
  refine EvQ.ev (EvQ.bindE (impl_WordOk_ev a hs) ?_)
  unfold pk
  refine EvQ.ite (fun h => ?_) (fun h => EvQ.now (by rw [if_neg h]))
  have hp : packOk a := by simpa [wordOk] using h
  refine EvQ.pos hp (EvQ.now (by rw [if_pos h]))

theorem upW_size (b : ByteArray) (h : b.size ≤ 16) : (upW b).size ≤ 100 := by
  obtain ⟨e, ho⟩ := dec_enc 30 (bitsB b b.size) (bitsB_bits b _)
  have hl := bitsB_len b b.size
  have : ∀ o : List Int, 5 * o.length ≤ (enc o).length := by
    intro o
    induction o with
    | nil => simp [enc]
    | cons p o ih =>
      rw [enc_cons, List.length_append, List.length_cons]
      have : 5 ≤ (signBits p).length := by unfold signBits; split <;> simp [bitsL_length]
      omega
  have h2 := this (decF 30 (bitsB b b.size)).1
  have h3 := congrArg List.length e
  rw [List.length_append] at h3
  unfold upW
  rw [son_size, List.length_map]
  omega
theorem impl_WordUnpack_ev (b : ByteArray) : Ev (fun k => impl_WordUnpack.f k b) (unp b) := by
  unfold impl_WordUnpack.f unp
  refine EvQ.ev (EvQ.ite (fun h => EvQ.now (by rw [if_pos h])) (fun h => ?_))
  have hs := upW_size b (by omega)
  rw [if_neg h]
  refine EvQ.bindE (impl_WordOk_ev (upW b) (by omega)) ?_
  by_cases hok : wordOk (upW b) = true
  · refine EvQ.pos hok (EvQ.bindE (impl_WordPack_ev (upW b) (by omega)) ?_)
    rw [pk_of (ok_of hok)]
    refine EvQ.ite (fun h2 => EvQ.now (by rw [if_pos ⟨hok, h2⟩])) (fun h2 => EvQ.now (by rw [if_neg (fun h3 => h2 h3.2)]))
  · refine EvQ.neg hok (EvQ.now (by rw [if_neg (fun h3 => hok h3.1)]))

theorem l2Bits_8 : ∀ c : Fin 256, spec_l2Bits.f 10 (c.val : Int) 8 = some (bitsL (c.val : Int) 8) := by decide +kernel
theorem l2Bits_ev8 (c : Int) (h0 : 0 ≤ c) (h1 : c < 256) : Ev (fun k => spec_l2Bits.f k c 8) (bitsL c 8) := by
  obtain ⟨n, rfl⟩ := Int.eq_ofNat_of_zero_le h0
  exact Ev.of (fun k => spec_l2Bits.mono _ _ k) (l2Bits_8 ⟨n, by omega⟩)

theorem l2Num_l0 (l : List Int) (h01 : ∀ x ∈ l, x = 0 ∨ x = 1) (hl : l.length ≤ 8) (d : Nat) : ∀ i : Nat, l.length - i = d → i ≤ l.length →
    Ev (fun k => spec_l2Num.l0 k l (numL (l.take i)) i) (numL l) := by
  induction d with
  | zero =>
    intro i hd hi
    have e : i = l.length := by omega
    refine Ev.step (fun k => by rw [spec_l2Num.l0]) ?_
    refine Ev.neg (by omega) ?_
    rw [e, List.take_length]
    exact Ev.now _
  | succ d ih =>
    intro i hd hi
    have hr := numL_range l h01 i (by omega)
    have hp := pow8 i (by omega)
    have h2 := rd_01 l h01 i (by omega)
    have ht := numL_take l i (by omega)
    refine Ev.step (fun k => by rw [spec_l2Num.l0]) ?_
    refine EvQ.ev (EvQ.pos (by omega) (EvQ.pos (by omega) ?_))
    rw [w64_0 _ (by omega) (by omega : (i : Int) + 1 < _), w64_0 (2 * _) (by omega) (by omega), w64_0 _ (by omega) (by omega), ← ht, show ((i : Int) + 1) = ((i + 1 : Nat) : Int) by omega]
    exact EvQ.of_ev (ih (i + 1) (by omega) (by omega)) rfl
theorem l2Num_ev (l : List Int) (h01 : ∀ x ∈ l, x = 0 ∨ x = 1) (hl : l.length ≤ 8) : Ev (fun k => spec_l2Num.f k l) (numL l) := by
  unfold spec_l2Num.f
  exact l2Num_l0 l h01 hl l.length 0 (by omega) (by omega)

theorem son_cons (x : Int) (l : List Int) : strOfNums (x :: l) = strOfNums [x] ++ strOfNums l := son_append [x] l
def fin2 (s : ByteArray) (r : List Int) (ones : Bool) : ByteArray × Bool := (s, ones && (decide (r.length < 8) && decide (s.size ≤ 16)))
theorem l2Unpack_l2 (r : List Int) (hr : r.length ≤ 1000) (s : ByteArray) (d : Nat) : ∀ (i : Nat) (ones : Bool), r.length - i = d → i ≤ r.length →
    Ev (fun k => spec_l2Unpack.l2 k r s ones i) (fin2 s r (ones && (r.drop i).all (· == 1))) := by
  induction d with
  | zero =>
    intro i ones hd hi
    have e : i = r.length := by omega
    refine Ev.step (fun k => by rw [spec_l2Unpack.l2]) ?_
    refine Ev.neg (by omega) ?_
    rw [e, List.drop_length]
    unfold fin2
    cases ones with
    | true =>
      refine EvQ.ev (EvQ.pos rfl (EvQ.ite (fun h => EvQ.now ?_) (fun h => EvQ.now ?_)))
      · rw [decide_eq_true (show r.length < 8 by omega)]; simp; omega
      · rw [decide_eq_false (show ¬ r.length < 8 by omega)]; simp
    | false => exact EvQ.ev (EvQ.neg (by decide) (EvQ.now (by simp)))
  | succ d ih =>
    intro i ones hd hi
    refine Ev.step (fun k => by rw [spec_l2Unpack.l2]) ?_
    have hi2 : i < r.length := by omega
    have e1 : (r.drop i).all (· == 1) = (rd r i == 1 && (r.drop (i + 1)).all (· == 1)) := by
      rw [List.drop_eq_getElem_cons hi2, List.all_cons]
      have : rd r i = r[i] := by simp [rd, List.getD_eq_getElem?_getD, List.getElem?_eq_getElem hi2]
      rw [this]
    rw [e1]
    have e2 : wrap64 ((i : Int) + 1) = ((i + 1 : Nat) : Int) := by rw [w64_0 _ (by omega) (by omega)]; omega
    simp only [e2]
    refine EvQ.ev (EvQ.pos (by omega) ?_)
    cases ones with
    | true =>
      refine EvQ.pos rfl (EvQ.pos (by omega) (EvQ.of_ev (ih (i + 1) _ (by omega) (by omega)) ?_))
      simp
    | false =>
      refine EvQ.neg (by decide) (EvQ.of_ev (ih (i + 1) _ (by omega) (by omega)) ?_)
      simp
theorem l2Unpack_j2 (r : List Int) (hr : r.length ≤ 1000) (s : ByteArray) : Ev (fun k => spec_l2Unpack.j2 k r s) (fin2 s r (r.all (· == 1))) := by
  refine Ev.step (fun k => by rw [spec_l2Unpack.j2]) ?_
  have := l2Unpack_l2 r hr s r.length 0 true (by omega) (by omega)
  rw [Bool.true_and, List.drop_zero] at this
  exact this
theorem sb_eq (p : Int) : spec_l1Byte.f (wrap64 (bt (⟨#[101, 116, 97, 111, 105, 110, 115, 114, 104, 108, 48, 49, 50, 51, 52, 53, 54, 55, 56, 57, 100, 99, 117, 109, 102, 112, 103, 119, 121, 98, 118, 107, 120, 106, 113, 122, 58, 47, 45]⟩ : ByteArray) p)) = some (strOfNums [signAt p]) := by
  have hb := bt_byte (⟨#[101, 116, 97, 111, 105, 110, 115, 114, 104, 108, 48, 49, 50, 51, 52, 53, 54, 55, 56, 57, 100, 99, 117, 109, 102, 112, 103, 119, 121, 98, 118, 107, 120, 106, 113, 122, 58, 47, 45]⟩ : ByteArray) p
  unfold spec_l1Byte.f
  rw [w64_0 _ hb.1 (by omega), Int.emod_eq_of_lt hb.1 hb.2]
  rfl
theorem l2Unpack_l1 (f : Nat) : ∀ (R : List Int) (s : ByteArray), Bits R → R.length < 5 * f + 5 → s.size + R.length ≤ 900 →
    Ev (fun k => spec_l2Unpack.l1 k R s) (fin2 (s ++ strOfNums ((decF f R).1.map signAt)) (decF f R).2 ((decF f R).2.all (· == 1))) := by
  induction f with
  | zero =>
    intro R s hb hl hs
    refine Ev.step (fun k => by rw [spec_l2Unpack.l1]) (Ev.neg (by omega) ?_)
    have := l2Unpack_j2 R (by omega) s
    rw [decF]
    simp only [List.map_nil, son_nil, ba_nil_append]
    exact this
  | succ f ih =>
    intro R s hb hl hs
    refine Ev.step (fun k => by rw [spec_l2Unpack.l1]) ?_
    rw [decF]
    by_cases h5 : R.length < 5
    · rw [if_pos h5]
      simp only [List.map_nil, son_nil, ba_nil_append]
      exact Ev.neg (by omega) (l2Unpack_j2 R (by omega) s)
    · rw [if_neg h5]
      have hn5 := numL_lt _ (hb.take 5)
      have hp5 := pow8 (R.take 5).length (by rw [List.length_take]; omega)
      refine EvQ.ev (EvQ.pos (by omega) (EvQ.pos (by omega) (EvQ.bindE (l2Num_ev _ (hb.take 5) (by rw [List.length_take]; omega)) ?_)))
      by_cases h24 : numL (R.take 5) < 24
      · rw [if_pos h24]
        refine EvQ.neg (by omega) (EvQ.neg (by omega) (EvQ.pos (by omega) (EvQ.pos (by omega) ?_)))
        rw [sb_eq]
        simp only [Option.bind_some]
        refine EvQ.pos (by rw [son_size]; simp; omega) ?_
        have := ih (R.drop 5) (s ++ strOfNums [signAt (numL (R.take 5))]) (hb.drop 5) (by rw [List.length_drop]; omega) (by rw [ba_size_append, son_size, List.length_drop]; simp; omega)
        refine EvQ.of_ev this ?_
        try dsimp only
        rw [List.map_cons, son_cons _ (List.map signAt (decF f (R.drop 5)).1), ByteArray.append_assoc]
      · rw [if_neg h24]
        refine EvQ.pos (by omega) ?_
        by_cases h7 : R.length < 7
        · rw [if_pos h7]
          simp only [List.map_nil, son_nil, ba_nil_append]
          exact EvQ.pos (by omega) (EvQ.of_ev (l2Unpack_j2 R (by omega) s) rfl)
        · rw [if_neg h7]
          have hn7 := num7 R hb (by omega)
          have hr7 := numL_lt _ (hb.take 7)
          have hp7 := pow8 (R.take 7).length (by rw [List.length_take]; omega)
          refine EvQ.neg (by omega) (EvQ.pos (by omega) (EvQ.bindE (l2Num_ev _ (hb.take 7) (by rw [List.length_take]; omega)) ?_))
          have e7 : wrap64 (wrap64 (numL (R.take 7) - 96) + 24) = numL (R.take 7) - 72 := by
            rw [w64 (numL (R.take 7) - 96) (by omega) (by omega), w64 _ (by omega) (by omega)]; omega
          simp only [e7]
          by_cases h39 : numL (R.take 7) - 72 ≥ 39
          · rw [if_pos h39]
            simp only [List.map_nil, son_nil, ba_nil_append]
            exact EvQ.pos h39 (EvQ.of_ev (l2Unpack_j2 R (by omega) s) rfl)
          · rw [if_neg h39]
            refine EvQ.neg h39 (EvQ.pos (by omega) (EvQ.pos (by omega) ?_))
            rw [sb_eq]
            simp only [Option.bind_some]
            refine EvQ.pos (by rw [son_size]; simp; omega) ?_
            have := ih (R.drop 7) (s ++ strOfNums [signAt (numL (R.take 7) - 72)]) (hb.drop 7) (by rw [List.length_drop]; omega) (by rw [ba_size_append, son_size, List.length_drop]; simp; omega)
            refine EvQ.of_ev this ?_
            try dsimp only
            rw [List.map_cons, son_cons _ (List.map signAt (decF f (R.drop 7)).1), ByteArray.append_assoc]
theorem l2Unpack_l0 (b : ByteArray) (hs : b.size ≤ 16) (d : Nat) : ∀ i : Nat, b.size - i = d → i ≤ b.size →
    Ev (fun k => spec_l2Unpack.l0 k b (bitsB b i) i) (fin2 (upW b) (decF 30 (bitsB b b.size)).2 ((decF 30 (bitsB b b.size)).2.all (· == 1))) := by
  induction d with
  | zero =>
    intro i hd hi
    have e : i = b.size := by omega
    refine Ev.step (fun k => by rw [spec_l2Unpack.l0]) (Ev.neg (by omega) ?_)
    rw [e]
    have := l2Unpack_l1 30 (bitsB b b.size) (⟨#[]⟩ : ByteArray) (bitsB_bits b _) (by rw [bitsB_len]; omega) (by rw [bitsB_len, ba_size_nil]; omega)
    rw [ba_append_nil] at this
    exact this
  | succ d ih =>
    intro i hd hi
    have hb := bt_byte b i
    have e2 : wrap64 ((i : Int) + 1) = ((i + 1 : Nat) : Int) := by rw [w64_0 _ (by omega) (by omega)]; omega
    refine Ev.step (fun k => by rw [spec_l2Unpack.l0]) ?_
    simp only [e2]
    rw [w64_0 (bt b i) hb.1 (by omega)]
    refine EvQ.ev (EvQ.pos (by omega) (EvQ.pos (by omega) (EvQ.bindE (l2Bits_ev8 _ hb.1 hb.2) (EvQ.pos (by rw [bitsB_len, bitsL_length]; omega) (EvQ.of_ev (ih (i + 1) (by omega) (by omega)) rfl)))))
theorem spec_WordUnpack_ev (b : ByteArray) : Ev (fun k => spec_WordUnpack.f k b) (unp b) := by
  unfold spec_WordUnpack.f unp
  refine EvQ.ev (EvQ.ite (fun h => EvQ.now (by rw [if_pos (by omega)])) (fun h => ?_))
  rw [if_neg (by omega)]
  unfold spec_l2Unpack.f
  refine EvQ.bindE (l2Unpack_l0 b (by omega) b.size 0 (by omega) (by omega)) ?_
  unfold fin2
  try dsimp only
  have hi := up_iff b
  have hsz : (upW b).size = (decF 30 (bitsB b b.size)).1.length := by unfold upW; rw [son_size, List.length_map]
  have e : (((decF 30 (bitsB b b.size)).2.all (· == 1)) && (decide ((decF 30 (bitsB b b.size)).2.length < 8) && decide ((upW b).size ≤ 16))) = true ↔ (wordOk (upW b) = true ∧ packB (upW b) = b) := by
    rw [hi, hsz, Bool.and_eq_true, Bool.and_eq_true, decide_eq_true_iff, decide_eq_true_iff, List.all_eq_true]
    unfold AllOnes
    simp
  refine EvQ.ite (fun h2 => EvQ.now ?_) (fun h2 => EvQ.now ?_)
  · rw [if_pos (e.1 h2)]
  · rw [if_neg (fun h3 => h2 (e.2 h3))]

theorem and7_all : ∀ c : Fin 256, Go.bits .and .i64 (wrap64 (c.val : Int)) (wrap64 ((shl .i64 1 7) - 1)) = (c.val : Int) % 128 ∧ shr .i64 (wrap64 (c.val : Int)) 7 = (c.val : Int) / 128 := by decide +kernel
theorem and7 (c : Int) (h0 : 0 ≤ c) (h1 : c < 256) : Go.bits .and .i64 (wrap64 c) (wrap64 ((shl .i64 1 7) - 1)) = c % 128 ∧ shr .i64 (wrap64 c) 7 = c / 128 := by
  obtain ⟨n, rfl⟩ := Int.eq_ofNat_of_zero_le h0
  exact and7_all ⟨n, by omega⟩
theorem shl7_all : ∀ c : Fin 256, ∀ i : Fin 3, 0 ≤ shl .i64 (Go.bits .and .i64 (wrap64 (c.val : Int)) 127) (7 * (i.val : Int)) ∧ shl .i64 (Go.bits .and .i64 (wrap64 (c.val : Int)) 127) (7 * (i.val : Int)) ≤ 3000000 := by decide +kernel
theorem shl7 (c : Int) (h0 : 0 ≤ c) (h1 : c < 256) (i : Nat) (hi : i < 3) : 0 ≤ shl .i64 (Go.bits .and .i64 (wrap64 c) 127) (7 * (i : Int)) ∧ shl .i64 (Go.bits .and .i64 (wrap64 c) 127) (7 * (i : Int)) ≤ 3000000 := by
  obtain ⟨n, rfl⟩ := Int.eq_ofNat_of_zero_le h0
  exact shl7_all ⟨n, by omega⟩ ⟨i, hi⟩
theorem NumWrite_l0_ev (d : Nat) : ∀ (n : Int) (l : List Int), 0 ≤ n → n < 128 ^ (d + 1) → l.length ≤ 10 - d → d ≤ 10 → EvQ (fun k => impl_NumWrite.l0 k n l) (fun _ => True) := by
  induction d with
  | zero =>
    intro n l h0 h1 hl hd
    refine EvQ.step (fun k => by rw [impl_NumWrite.l0]) (EvQ.neg (by omega) (EvQ.pos (by omega) (EvQ.now trivial)))
  | succ d ih =>
    intro n l h0 h1 hl hd
    refine EvQ.step (fun k => by rw [impl_NumWrite.l0]) (EvQ.ite (fun h => EvQ.pos (by omega) ?_) (fun h => EvQ.pos (by omega) (EvQ.now trivial)))
    refine ih _ _ (by omega) ?_ (by simp only [List.length_append, List.length_singleton]; omega) (by omega)
    have : (128 : Int) ^ (d + 1 + 1) = 128 ^ (d + 1) * 128 := by rw [Int.pow_succ]
    omega
theorem NumWrite_any (n h : Int) (h0 : 0 ≤ n) : EvQ (fun k => impl_NumWrite.f k n 7 h) (fun _ => True) := by
  have hin : ∀ a c e : Int, impl_in.f a c e = some (decide (c ≤ a ∧ a ≤ e)) := by
    intro a c e; unfold impl_in.f; by_cases hc : c ≤ a
    · rw [if_pos hc]; simp [hc]
    · rw [if_neg hc]; simp [hc]
  have hj : ∀ t, n ≤ 9999 ∨ t = true → EvQ (fun k => impl_NumWrite.j0 k n 7 h t) (fun _ => True) := by
    intro t ht
    refine EvQ.step (fun k => by rw [impl_NumWrite.j0]) (EvQ.ite (fun _ => EvQ.now trivial) (fun hf => EvQ.pos (by decide) ?_))
    have hn : n ≤ 9999 := by rcases ht with h9 | h9; exact h9; exact absurd h9 hf
    rw [show wrap64 ((shl .i64 1 7) - 1) = 127 by decide +kernel]
    refine EvQ.ite (fun _ => EvQ.now trivial) (fun h3 => ?_)
    rw [w64 _ (by omega) (by omega)]
    exact NumWrite_l0_ev 2 _ _ (by omega) (by omega) (by simp) (by omega)
  unfold impl_NumWrite.f
  simp only [hin, Option.bind_some]
  refine EvQ.ite (fun h1 => ?_) (fun _ => hj _ (Or.inr rfl))
  simp only [decide_eq_true_eq] at h1
  refine EvQ.pos (by decide) (EvQ.pos (by decide +kernel) (hj _ (Or.inl (by omega))))
theorem NumWrite7w_all : ∀ c : Fin 127, ∀ h : Fin 2, impl_NumWrite.f 20 (c.val : Int) 7 (h.val : Int) = some (strOfNums [128 * (h.val : Int) + (c.val : Int)]) := by decide +kernel
theorem NumWrite7w (c h : Int) (h0 : 0 ≤ c) (h1 : c < 127) (h2 : 0 ≤ h) (h3 : h ≤ 1) : Ev (fun k => impl_NumWrite.f k c 7 h) (strOfNums [128 * h + c]) := by
  obtain ⟨n, rfl⟩ := Int.eq_ofNat_of_zero_le h0
  obtain ⟨m, rfl⟩ := Int.eq_ofNat_of_zero_le h2
  exact Ev.of (fun k => impl_NumWrite.mono _ _ _ k) (NumWrite7w_all ⟨n, by omega⟩ ⟨m, by omega⟩)
theorem NumRead_l0_ev (b : ByteArray) (hs : b.size ≤ 1000000000) (hb : 0 < b.size) (d : Nat) : ∀ (i : Nat) (x8 : Int), 3 - i = d → i ≤ 3 → i < b.size → 127 ≤ x8 → x8 ≤ 127 + 3000000 * i →
    EvQ (fun k => impl_NumRead.l0 k b 7 x8 (1 + i) (7 * i)) (fun r => r.2.2 = true → r.1 > 16) := by
  induction d with
  | zero =>
    intro i x8 hd hi hib h0 h1
    refine EvQ.step (fun k => by rw [impl_NumRead.l0]) (EvQ.ite (fun _ => ?_) (fun _ => ?_))
    · exact EvQ.step (fun k => by rw [impl_NumRead.j2]) (EvQ.pos rfl (EvQ.now (by simp)))
    · rw [decide_eq_true (by omega)]
      exact EvQ.step (fun k => by rw [impl_NumRead.j2]) (EvQ.pos rfl (EvQ.now (by simp)))
  | succ d ih =>
    intro i x8 hd hi hib h0 h1
    refine EvQ.step (fun k => by rw [impl_NumRead.l0]) (EvQ.ite (fun _ => ?_) (fun hne => ?_))
    · exact EvQ.step (fun k => by rw [impl_NumRead.j2]) (EvQ.pos rfl (EvQ.now (by simp)))
    · rw [decide_eq_false (by omega)]
      have hc := bt_byte b (1 + i)
      have hv := shl7 _ hc.1 hc.2 i (by omega)
      have e1 : wrap64 (1 + (i : Int) + 1) = 1 + ((i + 1 : Nat) : Int) := by rw [w64 _ (by omega) (by omega)]; omega
      have e2 : wrap64 (1 + ((i + 1 : Nat) : Int) - 1) = 1 + (i : Int) := by rw [w64 _ (by omega) (by omega)]; omega
      have e3 : wrap64 (7 * (i : Int) + 7) = 7 * ((i + 1 : Nat) : Int) := by rw [w64 _ (by omega) (by omega)]; omega
      have e4 : wrap64 (x8 + shl .i64 (Go.bits .and .i64 (wrap64 (bt b (1 + i))) 127) (7 * (i : Int))) = x8 + shl .i64 (Go.bits .and .i64 (wrap64 (bt b (1 + i))) 127) (7 * (i : Int)) := w64 _ (by omega) (by omega)
      refine EvQ.step (fun k => by rw [impl_NumRead.j2]) ?_
      simp only [e1, e2, e3, e4]
      refine EvQ.neg (by decide) (EvQ.pos (by omega) (EvQ.pos (by omega) (EvQ.pos (by omega) (EvQ.pos (by omega) (EvQ.pos (by omega) (EvQ.ite (fun _ => ?_) (fun h9 => ?_)))))))
      · refine EvQ.pos (by omega) (EvQ.pos (by decide) (EvQ.bind (NumWrite_any _ _ (by omega)) ?_))
        intro t _
        refine EvQ.pos (by omega) (EvQ.pos (by omega) (EvQ.ite (fun _ => EvQ.now ?_) (fun _ => EvQ.now (by simp))))
        intro _
        dsimp only
        omega
      · by_cases hl : i + 1 < b.size
        · exact ih (i + 1) _ (by omega) (by omega) hl (by omega) (by omega)
        · refine EvQ.step (fun k => by rw [impl_NumRead.l0]) (EvQ.pos (by omega) ?_)
          exact EvQ.step (fun k => by rw [impl_NumRead.j2]) (EvQ.pos rfl (EvQ.now (by simp)))
theorem NumRead7_ev (b : ByteArray) (hs : b.size ≤ 1000000000) : EvQ (fun k => impl_NumRead.f k b 7) (numHead b) := by
  unfold impl_NumRead.f
  refine EvQ.ite (fun h => ?_) (fun h => ?_)
  · refine EvQ.step (fun k => by rw [impl_NumRead.j0]) (EvQ.pos rfl (EvQ.now ⟨fun _ => rfl, fun h9 => ?_⟩))
    have := (toList_nil_size b).1 h
    omega
  · have hb : 0 < b.size := Nat.pos_of_ne_zero (fun h0 => h ((toList_nil_size b).2 h0))
    have hc := bt_byte b 0
    rw [show impl_in.f 7 3 7 = some true by decide]
    simp only [Option.bind_some]
    refine EvQ.step (fun k => by rw [impl_NumRead.j0]) (EvQ.neg (by decide) (EvQ.pos (by decide) (EvQ.pos (by omega) ?_)))
    rw [(and7 _ hc.1 hc.2).1, (and7 _ hc.1 hc.2).2, show wrap64 ((shl .i64 1 7) - 1) = 127 by decide +kernel]
    refine EvQ.ite (fun h1 => ?_) (fun h1 => ?_)
    · refine (NumRead_l0_ev b hs hb 3 0 _ rfl (by omega) (by omega) (by omega) (by omega)).mono ?_
      intro r hr
      exact ⟨fun _ => by omega, fun _ => ⟨fun h9 => by omega, fun _ => hr⟩⟩
    · refine EvQ.bindE (NumWrite7w _ _ (by omega) (by omega) (by omega) (by omega)) (EvQ.pos (by decide) (EvQ.pos (by omega) (EvQ.pos ?_ (EvQ.now ?_))))
      · rw [extract_one b hb, show 128 * (bt b 0 / 128) + bt b 0 % 128 = bt b 0 by omega]
      · exact ⟨fun _ => by omega, fun _ => ⟨fun _ => rfl, fun _ => by omega⟩⟩

theorem l1Read_step (b : ByteArray) (hs : b.size ≤ 1000000000) (x8 x9 : Int) (i : Nat) (h0 : 127 ≤ x8) (h1 : x8 ≤ 1000000000000) (h2 : 0 ≤ x9) (h3 : x9 ≤ 10000000) (hi : 1 ≤ i) (hi2 : i ≤ 4)
    (h : i ≤ 3 → ∀ y : Int, 127 ≤ y → y ≤ x8 + 1280000000 → EvQ (fun k => spec_l1Read.l0 k b y (128 * x9) ((i + 1 : Nat) : Int)) (fun r => r.2.2 = true → r.1 > 16)) :
    EvQ (fun k => spec_l1Read.l0 k b x8 x9 i) (fun r => r.2.2 = true → r.1 > 16) := by
  refine EvQ.step (fun k => by rw [spec_l1Read.l0]) (EvQ.ite (fun hlt => ?_) (fun _ => EvQ.step (fun k => by rw [spec_l1Read.j1]) (EvQ.neg (by decide) (EvQ.now (by simp)))))
  by_cases h9 : i ≤ 3
  · have hc := bt_byte b i
    have ht := tmod_range (wrap64 (bt b i)) 128 (by rw [w64_0 _ (by omega) (by omega)]; omega) (by omega)
    have hm0 := Int.mul_nonneg h2 ht.1
    have hm1 : x9 * Int.tmod (wrap64 (bt b i)) 128 ≤ 10000000 * 128 := Int.mul_le_mul h3 (by omega) ht.1 (by omega)
    have e1 : wrap64 (x8 + wrap64 (x9 * Int.tmod (wrap64 (bt b i)) 128)) = x8 + x9 * Int.tmod (wrap64 (bt b i)) 128 := by
      rw [w64_0 (x9 * _) (by omega) (by omega), w64_0 _ (by omega) (by omega)]
    have e2 : wrap64 (128 * x9) = 128 * x9 := w64_0 _ (by omega) (by omega)
    have e3 : wrap64 ((i : Int) + 1) = ((i + 1 : Nat) : Int) := by rw [w64_0 _ (by omega) (by omega)]; omega
    rw [decide_eq_true (by omega)]
    refine EvQ.step (fun k => by rw [spec_l1Read.j1]) ?_
    simp only [e1, e2, e3]
    have hfin : EvQ (fun _ => some (x8 + x9 * Int.tmod (wrap64 (bt b i)) 128, ((i + 1 : Nat) : Int), true)) (fun r => r.2.2 = true → r.1 > 16) := EvQ.now (by intro _; dsimp only; omega)
    refine EvQ.pos (by trivial) (EvQ.pos (by omega) (EvQ.pos hlt (EvQ.ite (fun _ => EvQ.ite (fun _ => EvQ.ite (fun _ => EvQ.now (by simp)) (fun _ => EvQ.ite (fun _ => EvQ.now (by simp)) (fun _ => hfin))) (fun _ => EvQ.ite (fun _ => EvQ.now (by simp)) (fun _ => hfin))) (fun _ => ?_))))
    exact h h9 _ (by omega) (by omega)
  · rw [decide_eq_false (by omega)]
    exact EvQ.step (fun k => by rw [spec_l1Read.j1]) (EvQ.neg (by decide) (EvQ.now (by simp)))
theorem l1Top7 : Ev (fun k => spec_l1Top.f k 7) 128 := Ev.of (fun k => spec_l1Top.mono _ k) (show spec_l1Top.f 20 7 = some 128 by decide +kernel)
theorem tmod7_all : ∀ c : Fin 256, Int.tmod (wrap64 (c.val : Int)) (wrap64 ((wrap64 (128 - 1)) + 1)) = (c.val : Int) % 128 := by decide +kernel
theorem tmod7 (c : Int) (h0 : 0 ≤ c) (h1 : c < 256) : Int.tmod (wrap64 c) (wrap64 ((wrap64 (128 - 1)) + 1)) = c % 128 := by
  obtain ⟨n, rfl⟩ := Int.eq_ofNat_of_zero_le h0
  exact tmod7_all ⟨n, by omega⟩
theorem l1Read7_ev (b : ByteArray) (hs : b.size ≤ 1000000000) : EvQ (fun k => spec_l1Read.f k b 7) (numHead b) := by
  unfold spec_l1Read.f
  refine EvQ.ite (fun h => ?_) (fun h => ?_)
  · refine EvQ.now ⟨fun _ => rfl, fun h9 => ?_⟩
    have := (toList_nil_size b).1 h
    omega
  · have hb : 0 < b.size := Nat.pos_of_ne_zero (fun h0 => h ((toList_nil_size b).2 h0))
    have hc := bt_byte b 0
    refine EvQ.bindE l1Top7 (EvQ.pos (by omega) (EvQ.neg (by decide +kernel) ?_))
    rw [tmod7 _ hc.1 hc.2, show wrap64 (128 - 1) = 127 by decide +kernel]
    refine EvQ.ite (fun h1 => EvQ.now ⟨fun _ => by omega, fun _ => ⟨fun _ => rfl, fun _ => by omega⟩⟩) (fun h1 => ?_)
    have hq : EvQ (fun k => spec_l1Read.l0 k b (bt b 0 % 128) 1 ((1 : Nat) : Int)) (fun r => r.2.2 = true → r.1 > 16) := by
      refine l1Read_step b hs _ 1 1 (by omega) (by omega) (by omega) (by omega) (by omega) (by omega) (fun _ y hy hy1 => ?_)
      refine l1Read_step b hs _ _ 2 (by omega) (by omega) (by omega) (by omega) (by omega) (by omega) (fun _ y hy hy1 => ?_)
      refine l1Read_step b hs _ _ 3 (by omega) (by omega) (by omega) (by omega) (by omega) (by omega) (fun _ y hy hy1 => ?_)
      exact l1Read_step b hs _ _ 4 (by omega) (by omega) (by omega) (by omega) (by omega) (by omega) (fun h9 => absurd h9 (by omega))
    refine hq.mono ?_
    intro r hr
    exact ⟨fun _ => by omega, fun _ => ⟨fun h9 => by omega, fun _ => hr⟩⟩

theorem impl_WordRead_ev (b : ByteArray) (hs : b.size ≤ 1000000000) : Ev (fun k => impl_WordRead.f k b) (rdW b) := by
  refine EvQ.ev ?_
  unfold impl_WordRead.f
  refine EvQ.bind (NumRead7_ev b hs) ?_
  rintro ⟨n, u, t⟩ hr
  have hc := bt_byte b 0
  have hout : ∀ s, rdW b = (⟨#[]⟩, 0, false) → EvQ (fun k => impl_WordRead.j0 k b n u s true) (fun x => x = rdW b) := by
    intro s h
    exact EvQ.step (fun k => by rw [impl_WordRead.j0]) (EvQ.pos rfl (EvQ.now h.symm))
  by_cases h0 : b.size = 0
  · have := hr.1 h0
    dsimp only at this ⊢
    rw [this]
    refine EvQ.neg (by decide) (hout _ ?_)
    unfold rdW; rw [if_pos h0]
  · by_cases h1 : bt b 0 % 128 < 127
    · have := (hr.2 (by omega)).1 h1
      simp only [Prod.mk.injEq] at this
      obtain ⟨rfl, rfl, rfl⟩ := this
      dsimp only
      refine EvQ.pos rfl ?_
      by_cases h2 : bt b 0 % 128 > 16
      · refine EvQ.pos h2 (hout _ ?_)
        unfold rdW; rw [if_neg h0, if_pos (Or.inl h2)]
      · refine EvQ.neg h2 ?_
        rw [w64_0 (1 + bt b 0 % 128) (by omega) (by omega)]
        by_cases h3 : 1 + bt b 0 % 128 > b.size
        · rw [decide_eq_true h3]
          refine hout _ ?_
          unfold rdW; rw [if_neg h0, if_pos (Or.inr h3)]
        · rw [decide_eq_false h3]
          have hbs := body_size b (by omega)
          refine EvQ.step (fun k => by rw [impl_WordRead.j0]) ?_
          simp only [w64_0 (1 + bt b 0 % 128) (by omega) (by omega)]
          refine EvQ.neg (by decide) (EvQ.pos (by omega) (EvQ.pos (by omega) (EvQ.pos (by omega) (EvQ.pos (by omega) ?_))))
          have hbd : b.extract (1 : Int).toNat (1 + bt b 0 % 128).toNat = body b := rfl
          rw [hbd]
          unfold rdW
          rw [if_neg h0, if_neg (by omega)]
          refine EvQ.ite (fun h4 => ?_) (fun h4 => ?_)
          · rw [if_pos h4]
            refine EvQ.bindE (impl_WordUnpack_ev _) ?_
            rcases hu : unp (body b) with ⟨x, t⟩
            cases t with
            | false => exact EvQ.neg (by simp) (EvQ.now (by simp))
            | true =>
              obtain ⟨q1, q2, q3⟩ := up_true hu
              have := q1.1
              exact EvQ.pos rfl (EvQ.bindE (impl_WordOk_ev x (by omega)) (EvQ.pos (wordOk_of q1) (EvQ.now (by simp))))
          · rw [if_neg h4]
            refine EvQ.pos (by trivial) (EvQ.bindE (impl_WordOk_ev _ (by omega)) (EvQ.ite (fun h5 => EvQ.now ?_) (fun h5 => EvQ.now ?_)))
            · rw [if_pos h5]
            · rw [if_neg h5]
    · have h2 : bt b 0 % 128 = 127 := by omega
      have h3 := (hr.2 (by omega)).2 h2
      dsimp only at h3 ⊢
      have hx : rdW b = (⟨#[]⟩, 0, false) := by unfold rdW; rw [if_neg h0, if_pos (Or.inl (by omega))]
      exact EvQ.ite (fun h4 => EvQ.pos (h3 h4) (hout _ hx)) (fun _ => hout _ hx)

theorem spec_WordRead_ev (b : ByteArray) (hs : b.size ≤ 1000000000) : Ev (fun k => spec_WordRead.f k b) (rdW b) := by
  refine EvQ.ev ?_
  unfold spec_WordRead.f
  refine EvQ.bindE (a := rdW b) (EvQ.ev ?_) (EvQ.now rfl)
  unfold spec_l2Read.f
  refine EvQ.bind (l1Read7_ev b hs) ?_
  rintro ⟨n, u, t⟩ hr
  have hc := bt_byte b 0
  have hout : rdW b = (⟨#[]⟩, 0, false) → EvQ (fun k => spec_l2Read.j0 k b n u true) (fun x => x = rdW b) := by
    intro h
    exact EvQ.step (fun k => by rw [spec_l2Read.j0]) (EvQ.pos rfl (EvQ.now h.symm))
  by_cases h0 : b.size = 0
  · have := hr.1 h0
    dsimp only at this ⊢
    rw [this]
    refine EvQ.neg (by decide) (hout ?_)
    unfold rdW; rw [if_pos h0]
  · by_cases h1 : bt b 0 % 128 < 127
    · have := (hr.2 (by omega)).1 h1
      simp only [Prod.mk.injEq] at this
      obtain ⟨rfl, rfl, rfl⟩ := this
      dsimp only
      refine EvQ.pos rfl ?_
      by_cases h2 : bt b 0 % 128 > 16
      · refine EvQ.pos h2 (hout ?_)
        unfold rdW; rw [if_neg h0, if_pos (Or.inl h2)]
      · refine EvQ.neg h2 ?_
        rw [w64_0 (1 + bt b 0 % 128) (by omega) (by omega)]
        by_cases h3 : 1 + bt b 0 % 128 > b.size
        · rw [decide_eq_true h3]
          refine hout ?_
          unfold rdW; rw [if_neg h0, if_pos (Or.inr h3)]
        · rw [decide_eq_false h3]
          have hbs := body_size b (by omega)
          refine EvQ.step (fun k => by rw [spec_l2Read.j0]) ?_
          simp only [w64_0 (1 + bt b 0 % 128) (by omega) (by omega)]
          refine EvQ.neg (by decide) (EvQ.pos (by omega) (EvQ.pos (by omega) (EvQ.pos (by omega) (EvQ.pos (by omega) ?_))))
          have hbd : b.extract (1 : Int).toNat (1 + bt b 0 % 128).toNat = body b := rfl
          rw [hbd]
          unfold rdW
          rw [if_neg h0, if_neg (by omega)]
          refine EvQ.ite (fun h4 => ?_) (fun h4 => ?_)
          · rw [if_pos h4]
            refine EvQ.bindE (spec_WordUnpack_ev _) (EvQ.ite (fun h5 => EvQ.now ?_) (fun h5 => EvQ.now ?_))
            · rw [if_pos h5]
            · rw [if_neg h5]
          · rw [if_neg h4]
            refine EvQ.bindE (spec_WordOk_ev _ (by omega)) (EvQ.ite (fun h5 => EvQ.now ?_) (fun h5 => EvQ.now ?_))
            · rw [if_pos h5]
            · rw [if_neg h5]
    · have h2 : bt b 0 % 128 = 127 := by omega
      have h3 := (hr.2 (by omega)).2 h2
      dsimp only at h3 ⊢
      have hx : rdW b = (⟨#[]⟩, 0, false) := by unfold rdW; rw [if_neg h0, if_pos (Or.inl (by omega))]
      exact EvQ.ite (fun h4 => EvQ.pos (h3 h4) (hout hx)) (fun _ => hout hx)

theorem FnExactWordRead : laws_FnExactWordRead.Pure := by
  intro a
  intros
  apply EvQ.tt
  unfold laws_FnExactWordRead.f
  refine EvQ.ite (fun _ => EvQ.now rfl) (fun h => ?_)
  exact EvQ.bindE (spec_WordRead_ev a (by omega)) (EvQ.bindE (impl_WordRead_ev a (by omega)) (EvQ.pos rfl (EvQ.pos rfl (EvQ.neg (by simp) (EvQ.now rfl)))))

end Go.Proofs.Ytajjleldnobhmaa.Pure
