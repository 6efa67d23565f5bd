/- The plain law of FnWordBack: for every input that fits, what the printed functions reckon is true. No condition but the row's own. -/
import Derived.Test.YtajjleldnobhmaaLm0
import Derived.Test.YtajjleldnobhmaaLm1
import Derived.Test.YtajjleldnobhmaaLm2
import Derived.Test.YtajjleldnobhmaaLm3
import Derived.Test.YtajjleldnobhmaaLm4
import Derived.Test.YtajjleldnobhmaaLm5
import Derived.Test.YtajjleldnobhmaaPFnWordBackx7
namespace Go.Proofs.Ytajjleldnobhmaa.Pure
open Go.RowKit Go.Proofs.Ytajjleldnobhmaa.PFnWordBack Go.Proofs.YtajjleldnobhmaaW.PrintWords Go.Proofs.YtajjleldnobhmaaW.PrintLast Go.Proofs.YtajjleldnobhmaaW.PrintMore Go.Proofs.Ytajjleldnobhmaa.Lm
set_option linter.unusedVariables false
set_option linter.unusedSimpArgs false

theorem pick_ev (l : List Int) (p n : Int) (hl : Bytes l) (hll : l.length ≤ 2000) (hp : 0 ≤ p) (hp1 : p ≤ 1000000000) (hn : 1 ≤ n) :
    EvQ (fun k => spec_l6Rd_pick.f k l p n) (fun r => 0 ≤ r.1 ∧ r.1 < n ∧ r.2 = p + 1) := by
  have e1 : wrap64 (p + 1) = p + 1 := w64_0 _ (by omega) (by omega)
  have e2 : wrap64 (p + 1 - 1) = p := by rw [show p + 1 - 1 = p by omega]; exact w64_0 _ (by omega) (by omega)
  unfold spec_l6Rd_pick.f
  simp only [e1]
  refine EvQ.neg (by omega) ?_
  refine EvQ.step (fun k => by rw [spec_l6Rd_pick.j0]) ?_
  simp only [e2]
  by_cases h0 : (l.length : Int) = 0
  · refine EvQ.pos (by simpa using h0) (EvQ.now ⟨by omega, by omega, rfl⟩)
  · refine EvQ.neg (by simpa using h0) ?_
    by_cases h1 : p < (l.length : Int)
    · refine EvQ.pos h1 (EvQ.pos hp (EvQ.neg (by omega) (EvQ.now ?_)))
      have hb := rd_bytes hl p
      rw [w64_0 (rd l p) hb.1 (by omega)]
      have := tmod_range (rd l p) n hb.1 (by omega)
      exact ⟨this.1, this.2, rfl⟩
    · have hlen : 0 < (l.length : Int) := by omega
      have hm1 := tmod_range p (l.length : Int) hp hlen
      have e7 : wrap64 (p * 7) = p * 7 := w64_0 _ (by omega) (by omega)
      have e3 : wrap64 (p * 7 + 3) = p * 7 + 3 := w64_0 _ (by omega) (by omega)
      have hm2 := tmod_range (p * 7 + 3) (l.length : Int) (by omega) hlen
      refine EvQ.neg h1 (EvQ.neg h0 ?_)
      simp only [e7, e3]
      refine EvQ.pos hm1.1 (EvQ.pos hm1.2 (EvQ.pos hm2.1 (EvQ.pos hm2.2 (EvQ.neg (by omega) (EvQ.now ?_)))))
      have ha := rd_bytes hl (Int.tmod p (l.length : Int))
      have hb := rd_bytes hl (Int.tmod (p * 7 + 3) (l.length : Int))
      have hd := tdiv_range p (l.length : Int) hp hlen
      generalize rd l (Int.tmod p (l.length : Int)) = a at *
      generalize rd l (Int.tmod (p * 7 + 3) (l.length : Int)) = b at *
      generalize Int.tdiv p (l.length : Int) = d at *
      rw [w64_0 a ha.1 (by omega), w64_0 b hb.1 (by omega), w64_0 d hd.1 (by omega), w64_0 (a * 131) (by omega) (by omega), w64_0 (b * 1117) (by omega) (by omega),
        w64_0 (p * 29) (by omega) (by omega), w64_0 (d * 53) (by omega) (by omega), w64_0 (a * 131 + b * 1117) (by omega) (by omega),
        w64_0 (a * 131 + b * 1117 + p * 29) (by omega) (by omega), w64_0 (a * 131 + b * 1117 + p * 29 + d * 53) (by omega) (by omega)]
      have hx : 0 ≤ a * 131 + b * 1117 + p * 29 + d * 53 := by omega
      have hx1 : a * 131 + b * 1117 + p * 29 + d * 53 < 2 ^ 62 := by omega
      generalize a * 131 + b * 1117 + p * 29 + d * 53 = x at *
      have hy := tdiv_range x 64 hx (by omega)
      rw [w64_0 (Int.tdiv x 64) hy.1 (by omega)]
      have := tmod_range _ n (xor_i64_nonneg x (Int.tdiv x 64) hx hx1 hy.1 (by omega)) (by omega)
      exact ⟨this.1, this.2, rfl⟩

theorem open_ev (l : List Int) (hl : Bytes l) :
    EvQ (fun _ => spec_l6Open.f l) (fun r => Bytes r.1 ∧ r.1.length ≤ 2000 ∧ r.2 = 0) := by
  unfold spec_l6Open.f
  refine EvQ.ite (fun h => EvQ.pos (by omega) (EvQ.now ⟨hl.take _, by simp; omega, rfl⟩)) (fun h => EvQ.now ⟨hl, (by omega : l.length ≤ 2000), rfl⟩)

theorem l6Many_e_all : ∀ c : Fin 4, spec_l6Many.f 10 (⟨#[101]⟩ : ByteArray) (15 + (c.val : Int)) = some (strOfNums (List.replicate (15 + c.val) 101)) := by decide +kernel
theorem l6Many_e (c : Int) (h0 : 0 ≤ c) (h1 : c < 4) : Ev (fun k => spec_l6Many.f k (⟨#[101]⟩ : ByteArray) (15 + c)) (strOfNums (List.replicate (15 + c.toNat) 101)) := by
  obtain ⟨n, rfl⟩ := Int.eq_ofNat_of_zero_le h0
  exact Ev.of (fun k => spec_l6Many.mono _ _ k) (l6Many_e_all ⟨n, by omega⟩)

theorem l71Word_l0 (l : List Int) (hl : Bytes l) (hll : l.length ≤ 2000) (n : Nat) : ∀ (s : ByteArray) (p : Int), s.size + n ≤ 16 → 0 ≤ p → p + 3 * n ≤ 900000000 →
    EvQ (fun k => spec_l71Word.l0 k s n l p) (fun r => r.1.size ≤ 18 ∧ p ≤ r.2 ∧ r.2 ≤ p + 3 * n + 2) := by
  induction n with
  | zero =>
    intro s p hs hp hp1
    refine EvQ.step (fun k => by rw [spec_l71Word.l0]) ?_
    refine EvQ.neg (by omega) (EvQ.bind (pick_ev l p 24 hl hll hp (by omega) (by omega)) ?_)
    rintro ⟨a, q⟩ ⟨ha, ha1, rfl⟩
    dsimp only at *
    refine EvQ.ite (fun h => EvQ.pos (by omega) (EvQ.now ?_)) (fun h => EvQ.ite (fun h1 => ?_) (fun h1 => EvQ.now ?_))
    · refine ⟨?_, ?_, ?_⟩ <;> dsimp only
      · have : (s ++ (⟨#[65]⟩ : ByteArray)).size = s.size + 1 := by rw [ba_size_append]; rfl
        omega
      · omega
      · omega
    · refine EvQ.bind (pick_ev l _ 4 hl hll (by omega) (by omega) (by omega)) ?_
      rintro ⟨b, q⟩ ⟨hb, hb1, rfl⟩
      dsimp only at *
      rw [w64_0 (15 + b) (by omega) (by omega)]
      refine EvQ.bindE (l6Many_e b hb hb1) (EvQ.now ?_)
      refine ⟨?_, ?_, ?_⟩ <;> dsimp only
      · rw [son_size, List.length_replicate]; omega
      · omega
      · omega
    · refine ⟨?_, ?_, ?_⟩ <;> (try dsimp only) <;> omega
  | succ n ih =>
    intro s p hs hp hp1
    refine EvQ.step (fun k => by rw [spec_l71Word.l0]) ?_
    have e1 : wrap64 (((n + 1 : Nat) : Int) - 1) = (n : Int) := by rw [w64_0 _ (by omega) (by omega)]; omega
    simp only [e1]
    refine EvQ.pos (by omega) (EvQ.bind (pick_ev l p 24 hl hll hp (by omega) (by omega)) ?_)
    rintro ⟨a, q⟩ ⟨ha, ha1, rfl⟩
    refine EvQ.bind (pick_ev l _ 4 hl hll (by dsimp only; omega) (by dsimp only; omega) (by omega)) ?_
    rintro ⟨b, q⟩ ⟨hb, hb1, rfl⟩
    dsimp only at *
    have hsz : ∀ c : Int, (s ++ strOfNums [wrap64 (bt (⟨#[101, 116, 97, 111, 105, 110, 115, 114, 104, 108, 48, 49, 50, 51, 52, 53, 54, 55, 56, 57, 100, 99, 117, 109, 102, 112, 103, 119, 121, 98, 118, 107, 120, 106, 113, 122, 58, 47, 45]⟩ : ByteArray) c) % 256]).size = s.size + 1 := fun c => by
      rw [ba_size_append, son_size]; rfl
    refine EvQ.ite (fun h => ?_) (fun h => ?_)
    · refine EvQ.bind (pick_ev l _ 39 hl hll (by omega) (by omega) (by omega)) ?_
      rintro ⟨c, q⟩ ⟨hc, hc1, rfl⟩
      dsimp only at *
      unfold spec_l1Byte.f
      simp only [Option.bind_some]
      refine EvQ.pos hc (EvQ.pos hc1 (EvQ.pos (by rw [son_size]; simp; omega) (EvQ.mono (ih _ _ (by rw [hsz]; omega) (by omega) (by omega)) ?_)))
      rintro ⟨s', q⟩ ⟨h1, h2, h3⟩
      dsimp only at *
      refine ⟨h1, ?_, ?_⟩ <;> omega
    · unfold spec_l1Byte.f
      simp only [Option.bind_some]
      refine EvQ.pos ha (EvQ.pos (by omega) (EvQ.pos (by rw [son_size]; simp; omega) (EvQ.mono (ih _ _ (by rw [hsz]; omega) (by omega) (by omega)) ?_)))
      rintro ⟨s', q⟩ ⟨h1, h2, h3⟩
      dsimp only at *
      refine ⟨h1, ?_, ?_⟩ <;> omega
theorem l71Word_ev (l : List Int) (p : Int) (hl : Bytes l) (hll : l.length ≤ 2000) (hp : 0 ≤ p) (hp1 : p ≤ 800000000) :
    EvQ (fun k => spec_l71Word.f k l p) (fun r => r.1.size ≤ 18 ∧ p ≤ r.2 ∧ r.2 ≤ p + 60) := by
  unfold spec_l71Word.f
  refine EvQ.bind (pick_ev l p 9 hl hll hp (by omega) (by omega)) ?_
  rintro ⟨a, q⟩ ⟨ha, ha1, rfl⟩
  refine EvQ.bind (pick_ev l _ 6 hl hll (by dsimp only; omega) (by dsimp only; omega) (by omega)) ?_
  rintro ⟨b, q⟩ ⟨hb, hb1, rfl⟩
  dsimp only at *
  have hd := tdiv_range b 5 hb (by omega)
  have hd2 : Int.tdiv b 5 ≤ 1 := by rw [Int.tdiv_eq_ediv_of_nonneg hb]; omega
  generalize Int.tdiv b 5 = d at *
  rw [w64_0 d (by omega) (by omega), w64_0 (d * 8) (by omega) (by omega), w64_0 (a + d * 8) (by omega) (by omega)]
  obtain ⟨n, hn⟩ := Int.eq_ofNat_of_zero_le (show 0 ≤ a + d * 8 by omega)
  rw [hn]
  refine EvQ.mono (l71Word_l0 l hl hll n (⟨#[]⟩ : ByteArray) (p + 1 + 1) (by rw [ba_size_nil]; omega) (by omega) (by omega)) ?_
  rintro ⟨s', q⟩ ⟨h1, h2, h3⟩
  dsimp only at *
  refine ⟨h1, ?_, ?_⟩ <;> (try dsimp only) <;> omega

theorem drawWordWrite_ev (l : List Int) (hl : Bytes l) : EvQ (fun k => spec_DrawWordWrite.f k l) (fun r => r.size ≤ 18) := by
  unfold spec_DrawWordWrite.f
  refine EvQ.bind (open_ev l hl) ?_
  rintro ⟨m, p⟩ ⟨hm, hm1, rfl⟩
  refine EvQ.bind (l71Word_ev m 0 hm hm1 (by omega) (by omega)) ?_
  rintro ⟨s, q⟩ ⟨h1, h2, h3⟩
  exact EvQ.now h1

theorem l2Sign_all : ∀ c : Fin 256, spec_l2Sign.f 50 (c.val : Int) = some (place (c.val : Int)) := by decide +kernel
theorem l2Sign_ev (c : Int) (h0 : 0 ≤ c) (h1 : c < 256) : Ev (fun k => spec_l2Sign.f k c) (place c) := by
  obtain ⟨n, rfl⟩ := Int.eq_ofNat_of_zero_le h0
  exact Ev.of (fun k => spec_l2Sign.mono _ k) (l2Sign_all ⟨n, by omega⟩)

theorem spec_WordOk_l0 (a : ByteArray) (hs : a.size ≤ 1000000000) (d : Nat) : ∀ i : Nat, a.size - i = d → i ≤ a.size →
    Ev (fun k => spec_WordOk.l0 k a i) (decide (a.size ≤ 16 ∧ ∀ j : Nat, j < a.size → i ≤ j → 0 ≤ place (bt a j))) := by
  induction d with
  | zero =>
    intro i hd hi
    have e : i = a.size := by omega
    refine Ev.step (fun k => by rw [spec_WordOk.l0]) ?_
    refine Ev.neg (by omega) ?_
    have : (decide (a.size ≤ 16 ∧ ∀ j : Nat, j < a.size → i ≤ j → 0 ≤ place (bt a j))) = decide ((a.size : Int) ≤ 16) := by
      rw [decide_eq_decide]
      constructor
      · rintro ⟨h, _⟩; omega
      · intro h; exact ⟨by omega, fun j h1 h2 => by omega⟩
    rw [this]
    exact Ev.now _
  | succ d ih =>
    intro i hd hi
    have hb := bt_byte a i
    refine Ev.step (fun k => by rw [spec_WordOk.l0]) ?_
    refine EvQ.ev (EvQ.pos (by omega) (EvQ.pos (by omega) (EvQ.bindE (l2Sign_ev _ hb.1 hb.2) ?_)))
    refine EvQ.ite (fun h => EvQ.now ?_) (fun h => ?_)
    · symm
      rw [decide_eq_false_iff_not]
      rintro ⟨_, h2⟩
      have := h2 i (by omega) (by omega)
      omega
    · rw [w64_0 _ (by omega) (by omega), show ((i : Int) + 1) = ((i + 1 : Nat) : Int) by omega]
      refine EvQ.of_ev (ih (i + 1) (by omega) (by omega)) ?_
      rw [decide_eq_decide]
      constructor
      · rintro ⟨h1, h2⟩
        refine ⟨h1, fun j h3 h4 => ?_⟩
        by_cases e : j = i
        · subst e; omega
        · exact h2 j h3 (by omega)
      · rintro ⟨h1, h2⟩
        exact ⟨h1, fun j h3 h4 => h2 j h3 (by omega)⟩
theorem spec_WordOk_ev (a : ByteArray) (hs : a.size ≤ 1000000000) : Ev (fun k => spec_WordOk.f k a) (wordOk a) := by
  unfold spec_WordOk.f
  have h := spec_WordOk_l0 a hs a.size 0 (by omega) (by omega)
  have e : wordOk a = (decide (a.size ≤ 16 ∧ ∀ j : Nat, j < a.size → 0 ≤ j → 0 ≤ place (bt a j))) := by
    unfold wordOk
    rw [decide_eq_decide, packOk_iff]
    simp
  rw [e]
  exact h

theorem IndexByte_eq (c : Int) : strings_IndexByte.f (⟨#[101, 116, 97, 111, 105, 110, 115, 114, 104, 108, 48, 49, 50, 51, 52, 53, 54, 55, 56, 57, 100, 99, 117, 109, 102, 112, 103, 119, 121, 98, 118, 107, 120, 106, 113, 122, 58, 47, 45]⟩ : ByteArray) c = some (place c) := rfl
theorem impl_WordOk_l0 (a : ByteArray) (hs : a.size ≤ 1000000000) (d : Nat) : ∀ i : Nat, a.size - i = d → i ≤ a.size →
    Ev (fun k => impl_WordOk.l0 k a (a.size : Int) i) (decide (a.size ≤ 16 ∧ ∀ j : Nat, j < a.size → i ≤ j → 0 ≤ place (bt a j))) := by
  induction d with
  | zero =>
    intro i hd hi
    have e : i = a.size := by omega
    refine Ev.step (fun k => by rw [impl_WordOk.l0]) ?_
    refine Ev.neg (by omega) ?_
    have : (decide (a.size ≤ 16 ∧ ∀ j : Nat, j < a.size → i ≤ j → 0 ≤ place (bt a j))) = decide ((a.size : Int) ≤ 16) := by
      rw [decide_eq_decide]
      constructor
      · rintro ⟨h, _⟩; omega
      · intro h; exact ⟨by omega, fun j h1 h2 => by omega⟩
    rw [this]
    exact Ev.now _
  | succ d ih =>
    intro i hd hi
    have hb := bt_byte a i
    refine Ev.step (fun k => by rw [impl_WordOk.l0]) ?_
    refine EvQ.ev (EvQ.pos (by omega) (EvQ.pos (by omega) (EvQ.pos (by omega) ?_)))
    rw [IndexByte_eq]
    simp only [Option.bind_some]
    refine EvQ.ite (fun h => EvQ.now ?_) (fun h => ?_)
    · symm
      rw [decide_eq_false_iff_not]
      rintro ⟨_, h2⟩
      have := h2 i (by omega) (by omega)
      omega
    · rw [w64_0 _ (by omega) (by omega), show ((i : Int) + 1) = ((i + 1 : Nat) : Int) by omega]
      refine EvQ.of_ev (ih (i + 1) (by omega) (by omega)) ?_
      rw [decide_eq_decide]
      constructor
      · rintro ⟨h1, h2⟩
        refine ⟨h1, fun j h3 h4 => ?_⟩
        by_cases e : j = i
        · subst e; omega
        · exact h2 j h3 (by omega)
      · rintro ⟨h1, h2⟩
        exact ⟨h1, fun j h3 h4 => h2 j h3 (by omega)⟩
theorem impl_WordOk_ev (a : ByteArray) (hs : a.size ≤ 1000000000) : Ev (fun k => impl_WordOk.f k a) (wordOk a) := by
  unfold impl_WordOk.f
  have h := impl_WordOk_l0 a hs a.size 0 (by omega) (by omega)
  have e : wordOk a = (decide (a.size ≤ 16 ∧ ∀ j : Nat, j < a.size → 0 ≤ j → 0 ≤ place (bt a j))) := by
    unfold wordOk
    rw [decide_eq_decide, packOk_iff]
    simp
  rw [e]
  exact h

theorem impl_WordPack_ev (a : ByteArray) (hs : a.size ≤ 1000000000) : Ev (fun k => impl_WordPack.f k a) (pk a) := by
  unfold impl_WordPack.f
  refine EvQ.ev (EvQ.bindE (impl_WordOk_ev a hs) ?_)
  unfold pk
  refine EvQ.ite (fun h => ?_) (fun h => EvQ.now (by rw [if_neg h]))
  have hp : packOk a := by simpa [wordOk] using h
  refine EvQ.pos hp (EvQ.now (by rw [if_pos h]))

theorem upW_size (b : ByteArray) (h : b.size ≤ 16) : (upW b).size ≤ 100 := by
  obtain ⟨e, ho⟩ := dec_enc 30 (bitsB b b.size) (bitsB_bits b _)
  have hl := bitsB_len b b.size
  have : ∀ o : List Int, 5 * o.length ≤ (enc o).length := by
    intro o
    induction o with
    | nil => simp [enc]
    | cons p o ih =>
      rw [enc_cons, List.length_append, List.length_cons]
      have : 5 ≤ (signBits p).length := by unfold signBits; split <;> simp [bitsL_length]
      omega
  have h2 := this (decF 30 (bitsB b b.size)).1
  have h3 := congrArg List.length e
  rw [List.length_append] at h3
  unfold upW
  rw [son_size, List.length_map]
  omega
theorem impl_WordUnpack_ev (b : ByteArray) : Ev (fun k => impl_WordUnpack.f k b) (unp b) := by
  unfold impl_WordUnpack.f unp
  refine EvQ.ev (EvQ.ite (fun h => EvQ.now (by rw [if_pos h])) (fun h => ?_))
  have hs := upW_size b (by omega)
  rw [if_neg h]
  refine EvQ.bindE (impl_WordOk_ev (upW b) (by omega)) ?_
  by_cases hok : wordOk (upW b) = true
  · refine EvQ.pos hok (EvQ.bindE (impl_WordPack_ev (upW b) (by omega)) ?_)
    rw [pk_of (ok_of hok)]
    refine EvQ.ite (fun h2 => EvQ.now (by rw [if_pos ⟨hok, h2⟩])) (fun h2 => EvQ.now (by rw [if_neg (fun h3 => h2 h3.2)]))
  · refine EvQ.neg hok (EvQ.now (by rw [if_neg (fun h3 => hok h3.1)]))

theorem l2Bits_5 : ∀ c : Fin 32, spec_l2Bits.f 10 (c.val : Int) 5 = some (bitsL (c.val : Int) 5) := by decide +kernel
theorem l2Bits_7 : ∀ c : Fin 128, spec_l2Bits.f 10 (c.val : Int) 7 = some (bitsL (c.val : Int) 7) := by decide +kernel
theorem l2Bits_ev5 (c : Int) (h0 : 0 ≤ c) (h1 : c < 32) : Ev (fun k => spec_l2Bits.f k c 5) (bitsL c 5) := by
  obtain ⟨n, rfl⟩ := Int.eq_ofNat_of_zero_le h0
  exact Ev.of (fun k => spec_l2Bits.mono _ _ k) (l2Bits_5 ⟨n, by omega⟩)
theorem l2Bits_ev7 (c : Int) (h0 : 0 ≤ c) (h1 : c < 128) : Ev (fun k => spec_l2Bits.f k c 7) (bitsL c 7) := by
  obtain ⟨n, rfl⟩ := Int.eq_ofNat_of_zero_le h0
  exact Ev.of (fun k => spec_l2Bits.mono _ _ k) (l2Bits_7 ⟨n, by omega⟩)

theorem l2Num_l0 (l : List Int) (h01 : ∀ x ∈ l, x = 0 ∨ x = 1) (hl : l.length ≤ 8) (d : Nat) : ∀ i : Nat, l.length - i = d → i ≤ l.length →
    Ev (fun k => spec_l2Num.l0 k l (numL (l.take i)) i) (numL l) := by
  induction d with
  | zero =>
    intro i hd hi
    have e : i = l.length := by omega
    refine Ev.step (fun k => by rw [spec_l2Num.l0]) ?_
    refine Ev.neg (by omega) ?_
    rw [e, List.take_length]
    exact Ev.now _
  | succ d ih =>
    intro i hd hi
    have hr := numL_range l h01 i (by omega)
    have hp := pow8 i (by omega)
    have h2 := rd_01 l h01 i (by omega)
    have ht := numL_take l i (by omega)
    refine Ev.step (fun k => by rw [spec_l2Num.l0]) ?_
    refine EvQ.ev (EvQ.pos (by omega) (EvQ.pos (by omega) ?_))
    rw [w64_0 _ (by omega) (by omega : (i : Int) + 1 < _), w64_0 (2 * _) (by omega) (by omega), w64_0 _ (by omega) (by omega), ← ht, show ((i : Int) + 1) = ((i + 1 : Nat) : Int) by omega]
    exact EvQ.of_ev (ih (i + 1) (by omega) (by omega)) rfl
theorem l2Num_ev (l : List Int) (h01 : ∀ x ∈ l, x = 0 ∨ x = 1) (hl : l.length ≤ 8) : Ev (fun k => spec_l2Num.f k l) (numL l) := by
  unfold spec_l2Num.f
  exact l2Num_l0 l h01 hl l.length 0 (by omega) (by omega)

theorem l2Pack_l2 (l : List Int) (h01 : ∀ x ∈ l, x = 0 ∨ x = 1) (hl : l.length ≤ 1000) (h8 : l.length % 8 = 0) (d : Nat) : ∀ m : Nat, l.length / 8 - m = d → m ≤ l.length / 8 →
    Ev (fun k => spec_l2Pack.l2 k l (strOfNums (bytesL l m)) (8 * (m : Int))) (strOfNums (bytesL l (l.length / 8))) := by
  induction d with
  | zero =>
    intro m hd hm
    have e : m = l.length / 8 := by omega
    refine Ev.step (fun k => by rw [spec_l2Pack.l2]) ?_
    refine Ev.neg (by omega) ?_
    rw [e]
    exact Ev.now _
  | succ d ih =>
    intro m hd hm
    have e8 : wrap64 (8 * (m : Int) + 8) = 8 * (m : Int) + 8 := w64_0 _ (by omega) (by omega)
    have es : (l.take (8 * (m : Int) + 8).toNat).drop (8 * (m : Int)).toNat = (l.drop (8 * m)).take 8 := by
      rw [show (8 * (m : Int) + 8).toNat = 8 * m + 8 by omega, show (8 * (m : Int)).toNat = 8 * m by omega, List.drop_take]
      congr 1; omega
    have hs01 : ∀ x ∈ (l.drop (8 * m)).take 8, x = 0 ∨ x = 1 := fun x hx => h01 x (List.mem_of_mem_drop (List.mem_of_mem_take hx))
    have hsl : ((l.drop (8 * m)).take 8).length = 8 := by rw [List.length_take, List.length_drop]; omega
    have hr := numL_range _ hs01 8 (by omega)
    rw [show ((l.drop (8 * m)).take 8).take 8 = (l.drop (8 * m)).take 8 by rw [List.take_take]; rfl] at hr
    refine Ev.step (fun k => by rw [spec_l2Pack.l2]) ?_
    simp only [e8, es]
    refine EvQ.ev (EvQ.pos (by omega) (EvQ.pos (by omega) (EvQ.pos (by omega) (EvQ.pos (by omega) (EvQ.bindE (l2Num_ev _ hs01 (by omega)) ?_)))))
    unfold spec_l1Byte.f
    simp only [Option.bind_some]
    rw [Int.emod_eq_of_lt hr.1 (by omega)]
    refine EvQ.pos (by rw [son_size, son_size, bytesL_len]; simp; omega) ?_
    rw [← son_append]
    have := ih (m + 1) (by omega) (by omega)
    rw [show 8 * ((m + 1 : Nat) : Int) = 8 * (m : Int) + 8 by omega] at this
    exact EvQ.of_ev this rfl
theorem l2Pack_l1 (d : Nat) : ∀ (l : List Int), (∀ x ∈ l, x = 0 ∨ x = 1) → l.length + d ≤ 900 → (8 - l.length % 8) % 8 = d →
    Ev (fun k => spec_l2Pack.l1 k l) (strOfNums (bytesL (padBits l) ((padBits l).length / 8))) := by
  induction d with
  | zero =>
    intro l h01 hl hd
    refine Ev.step (fun k => by rw [spec_l2Pack.l1]) ?_
    rw [pad_done l (by omega)]
    refine Ev.neg (by omega) ?_
    exact l2Pack_l2 l h01 (by omega) (by omega) _ 0 rfl (by omega)
  | succ d ih =>
    intro l h01 hl hd
    refine Ev.step (fun k => by rw [spec_l2Pack.l1]) ?_
    rw [← pad_step l (by omega)]
    refine Ev.pos (by omega) (Ev.pos (by omega) ?_)
    refine ih (l ++ [1]) ?_ (by simp; omega) (by simp; omega)
    intro x hx
    simp at hx
    rcases hx with hx | hx
    · exact h01 x hx
    · exact .inr hx
theorem l2Pack_l0 (a : ByteArray) (hp : packOk a) (d : Nat) : ∀ i : Nat, a.size - i = d → i ≤ a.size →
    Ev (fun k => spec_l2Pack.l0 k a (packBits a i) i) (packB a) := by
  have hsz := hp.1
  induction d with
  | zero =>
    intro i hd hi
    have e : i = a.size := by omega
    refine Ev.step (fun k => by rw [spec_l2Pack.l0]) ?_
    refine Ev.neg (by omega) ?_
    rw [e]
    have hl := packBits_len a a.size
    exact l2Pack_l1 _ _ (pack01 a _) (by omega) rfl
  | succ d ih =>
    intro i hd hi
    have hb := bt_byte a i
    have hpl := hp.2 i (by omega)
    have hl := packBits_len a i
    have hih := ih (i + 1) (by omega) (by omega)
    rw [packBits] at hih
    unfold signBits at hih
    refine Ev.step (fun k => by rw [spec_l2Pack.l0]) ?_
    refine EvQ.ev (EvQ.pos (by omega) (EvQ.pos (by omega) (EvQ.bindE (l2Sign_ev _ hb.1 hb.2) ?_)))
    rw [w64_0 _ (by omega) (by omega : (i : Int) + 1 < _), show ((i : Int) + 1) = ((i + 1 : Nat) : Int) by omega]
    refine EvQ.ite (fun h => ?_) (fun h => ?_)
    · rw [if_pos h] at hih
      refine EvQ.bindE (l2Bits_ev5 _ hpl.1 (by omega)) ?_
      refine EvQ.pos (by rw [bitsL_length]; omega) (EvQ.of_ev hih rfl)
    · rw [if_neg h] at hih
      rw [w64_0 (96 + _) (by omega) (by omega), w64_0 _ (by omega) (by omega)]
      refine EvQ.bindE (l2Bits_ev7 _ (by omega) (by omega)) ?_
      refine EvQ.pos (by rw [bitsL_length]; omega) (EvQ.of_ev hih rfl)
theorem l2Pack_ev (a : ByteArray) (hp : packOk a) : Ev (fun k => spec_l2Pack.f k a) (packB a) := by
  unfold spec_l2Pack.f
  exact l2Pack_l0 a hp a.size 0 (by omega) (by omega)

theorem NumWrite7_all : ∀ c : Fin 17, ∀ h : Fin 2, impl_NumWrite.f 20 (c.val : Int) 7 (h.val : Int) = some (strOfNums [128 * (h.val : Int) + (c.val : Int)]) := by decide +kernel
theorem NumWrite7_ev (c h : Int) (h0 : 0 ≤ c) (h1 : c ≤ 16) (h2 : 0 ≤ h) (h3 : h ≤ 1) : Ev (fun k => impl_NumWrite.f k c 7 h) (strOfNums [128 * h + c]) := by
  obtain ⟨n, rfl⟩ := Int.eq_ofNat_of_zero_le h0
  obtain ⟨m, rfl⟩ := Int.eq_ofNat_of_zero_le h2
  exact Ev.of (fun k => impl_NumWrite.mono _ _ _ k) (NumWrite7_all ⟨n, by omega⟩ ⟨m, by omega⟩)

theorem l1Write7_all : ∀ c : Fin 17, ∀ h : Fin 2, spec_l1Write.f 20 (c.val : Int) 7 (h.val : Int) = some (strOfNums [128 * (h.val : Int) + (c.val : Int)]) := by decide +kernel
theorem l1Write7_ev (c h : Int) (h0 : 0 ≤ c) (h1 : c ≤ 16) (h2 : 0 ≤ h) (h3 : h ≤ 1) : Ev (fun k => spec_l1Write.f k c 7 h) (strOfNums [128 * h + c]) := by
  obtain ⟨n, rfl⟩ := Int.eq_ofNat_of_zero_le h0
  obtain ⟨m, rfl⟩ := Int.eq_ofNat_of_zero_le h2
  exact Ev.of (fun k => spec_l1Write.mono _ _ _ k) (l1Write7_all ⟨n, by omega⟩ ⟨m, by omega⟩)

theorem impl_WordWrite_ev (a : ByteArray) (hs : a.size ≤ 1000000000) : Ev (fun k => impl_WordWrite.f k a) (wr a) := by
  unfold impl_WordWrite.f
  refine EvQ.ev (EvQ.bindE (impl_WordOk_ev a hs) (EvQ.ite (fun h => ?_) (fun h => EvQ.now (by unfold wr; rw [if_neg h]))))
  have hp := ok_of h
  have h14 := packB_small hp
  have h16 := hp.1
  refine EvQ.bindE (impl_WordPack_ev a hs) ?_
  rw [pk_of hp, wr_of hp]
  unfold wrB
  refine EvQ.ite (fun hlt => ?_) (fun hlt => ?_)
  · refine EvQ.bindE (NumWrite7_ev _ 1 (by omega) (by omega) (by omega) (by omega)) (EvQ.pos (by rw [son_size]; simp; omega) (EvQ.now ?_))
    rw [if_pos (by omega)]; rfl
  · refine EvQ.bindE (NumWrite7_ev _ 0 (by omega) (by omega) (by omega) (by omega)) (EvQ.pos (by rw [son_size]; simp; omega) (EvQ.now ?_))
    rw [if_neg (by omega)]
    simp

theorem l2Write_ev (a : ByteArray) (hp : packOk a) : Ev (fun k => spec_l2Write.f k a) (wrB a) := by
  have h14 := packB_small hp
  have h16 := hp.1
  unfold spec_l2Write.f
  refine EvQ.ev (EvQ.bindE (l2Pack_ev a hp) ?_)
  unfold wrB
  refine EvQ.ite (fun hlt => ?_) (fun hlt => ?_)
  · refine EvQ.bindE (l1Write7_ev _ 1 (by omega) (by omega) (by omega) (by omega)) (EvQ.pos (by rw [son_size]; simp; omega) (EvQ.now ?_))
    rw [if_pos (by omega)]; rfl
  · refine EvQ.bindE (l1Write7_ev _ 0 (by omega) (by omega) (by omega) (by omega)) (EvQ.pos (by rw [son_size]; simp; omega) (EvQ.now ?_))
    rw [if_neg (by omega)]
    simp
theorem spec_WordWrite_ev (a : ByteArray) (hs : a.size ≤ 1000000000) : Ev (fun k => spec_WordWrite.f k a) (wr a) := by
  unfold spec_WordWrite.f
  refine EvQ.ev (EvQ.bindE (spec_WordOk_ev a hs) (EvQ.ite (fun h => ?_) (fun h => EvQ.now (by unfold wr; rw [if_neg h]))))
  have hp := ok_of h
  refine EvQ.bindE (l2Write_ev a hp) (EvQ.now ?_)
  rw [wr_of hp]

theorem wr_size (a : ByteArray) : (wr a).size ≤ 17 := by
  unfold wr; split
  · rename_i h; exact wrB_small (ok_of h)
  · rw [ba_size_nil]; omega
theorem wrB_nonempty (a : ByteArray) : ((wrB a).toList == ([] : List UInt8)) = false := by
  rw [toList_nil_iff, decide_eq_false]
  have := wrB_pos a
  omega
theorem wr_bad {a : ByteArray} (h : ¬ wordOk a = true) : wr a = ⟨#[]⟩ := by unfold wr; rw [if_neg h]
theorem nil_empty : ((⟨#[]⟩ : ByteArray).toList == ([] : List UInt8)) = true := by rw [toList_nil_iff]; rfl

theorem and7_all : ∀ c : Fin 256, Go.bits .and .i64 (wrap64 (c.val : Int)) (wrap64 ((shl .i64 1 7) - 1)) = (c.val : Int) % 128 ∧ shr .i64 (wrap64 (c.val : Int)) 7 = (c.val : Int) / 128 := by decide +kernel
theorem and7 (c : Int) (h0 : 0 ≤ c) (h1 : c < 256) : Go.bits .and .i64 (wrap64 c) (wrap64 ((shl .i64 1 7) - 1)) = c % 128 ∧ shr .i64 (wrap64 c) 7 = c / 128 := by
  obtain ⟨n, rfl⟩ := Int.eq_ofNat_of_zero_le h0
  exact and7_all ⟨n, by omega⟩
theorem shl7_all : ∀ c : Fin 256, ∀ i : Fin 3, 0 ≤ shl .i64 (Go.bits .and .i64 (wrap64 (c.val : Int)) 127) (7 * (i.val : Int)) ∧ shl .i64 (Go.bits .and .i64 (wrap64 (c.val : Int)) 127) (7 * (i.val : Int)) ≤ 3000000 := by decide +kernel
theorem shl7 (c : Int) (h0 : 0 ≤ c) (h1 : c < 256) (i : Nat) (hi : i < 3) : 0 ≤ shl .i64 (Go.bits .and .i64 (wrap64 c) 127) (7 * (i : Int)) ∧ shl .i64 (Go.bits .and .i64 (wrap64 c) 127) (7 * (i : Int)) ≤ 3000000 := by
  obtain ⟨n, rfl⟩ := Int.eq_ofNat_of_zero_le h0
  exact shl7_all ⟨n, by omega⟩ ⟨i, hi⟩
theorem NumWrite_l0_ev (d : Nat) : ∀ (n : Int) (l : List Int), 0 ≤ n → n < 128 ^ (d + 1) → l.length ≤ 10 - d → d ≤ 10 → EvQ (fun k => impl_NumWrite.l0 k n l) (fun _ => True) := by
  induction d with
  | zero =>
    intro n l h0 h1 hl hd
    refine EvQ.step (fun k => by rw [impl_NumWrite.l0]) (EvQ.neg (by omega) (EvQ.pos (by omega) (EvQ.now trivial)))
  | succ d ih =>
    intro n l h0 h1 hl hd
    refine EvQ.step (fun k => by rw [impl_NumWrite.l0]) (EvQ.ite (fun h => EvQ.pos (by omega) ?_) (fun h => EvQ.pos (by omega) (EvQ.now trivial)))
    refine ih _ _ (by omega) ?_ (by simp only [List.length_append, List.length_singleton]; omega) (by omega)
    have : (128 : Int) ^ (d + 1 + 1) = 128 ^ (d + 1) * 128 := by rw [Int.pow_succ]
    omega
theorem NumWrite_any (n h : Int) (h0 : 0 ≤ n) : EvQ (fun k => impl_NumWrite.f k n 7 h) (fun _ => True) := by
  have hin : ∀ a c e : Int, impl_in.f a c e = some (decide (c ≤ a ∧ a ≤ e)) := by
    intro a c e; unfold impl_in.f; by_cases hc : c ≤ a
    · rw [if_pos hc]; simp [hc]
    · rw [if_neg hc]; simp [hc]
  have hj : ∀ t, n ≤ 9999 ∨ t = true → EvQ (fun k => impl_NumWrite.j0 k n 7 h t) (fun _ => True) := by
    intro t ht
    refine EvQ.step (fun k => by rw [impl_NumWrite.j0]) (EvQ.ite (fun _ => EvQ.now trivial) (fun hf => EvQ.pos (by decide) ?_))
    have hn : n ≤ 9999 := by rcases ht with h9 | h9; exact h9; exact absurd h9 hf
    rw [show wrap64 ((shl .i64 1 7) - 1) = 127 by decide +kernel]
    refine EvQ.ite (fun _ => EvQ.now trivial) (fun h3 => ?_)
    rw [w64 _ (by omega) (by omega)]
    exact NumWrite_l0_ev 2 _ _ (by omega) (by omega) (by simp) (by omega)
  unfold impl_NumWrite.f
  simp only [hin, Option.bind_some]
  refine EvQ.ite (fun h1 => ?_) (fun _ => hj _ (Or.inr rfl))
  simp only [decide_eq_true_eq] at h1
  refine EvQ.pos (by decide) (EvQ.pos (by decide +kernel) (hj _ (Or.inl (by omega))))
theorem NumWrite7w_all : ∀ c : Fin 127, ∀ h : Fin 2, impl_NumWrite.f 20 (c.val : Int) 7 (h.val : Int) = some (strOfNums [128 * (h.val : Int) + (c.val : Int)]) := by decide +kernel
theorem NumWrite7w (c h : Int) (h0 : 0 ≤ c) (h1 : c < 127) (h2 : 0 ≤ h) (h3 : h ≤ 1) : Ev (fun k => impl_NumWrite.f k c 7 h) (strOfNums [128 * h + c]) := by
  obtain ⟨n, rfl⟩ := Int.eq_ofNat_of_zero_le h0
  obtain ⟨m, rfl⟩ := Int.eq_ofNat_of_zero_le h2
  exact Ev.of (fun k => impl_NumWrite.mono _ _ _ k) (NumWrite7w_all ⟨n, by omega⟩ ⟨m, by omega⟩)
theorem NumRead_l0_ev (b : ByteArray) (hs : b.size ≤ 1000000000) (hb : 0 < b.size) (d : Nat) : ∀ (i : Nat) (x8 : Int), 3 - i = d → i ≤ 3 → i < b.size → 127 ≤ x8 → x8 ≤ 127 + 3000000 * i →
    EvQ (fun k => impl_NumRead.l0 k b 7 x8 (1 + i) (7 * i)) (fun r => r.2.2 = true → r.1 > 16) := by
  induction d with
  | zero =>
    intro i x8 hd hi hib h0 h1
    refine EvQ.step (fun k => by rw [impl_NumRead.l0]) (EvQ.ite (fun _ => ?_) (fun _ => ?_))
    · exact EvQ.step (fun k => by rw [impl_NumRead.j2]) (EvQ.pos rfl (EvQ.now (by simp)))
    · rw [decide_eq_true (by omega)]
      exact EvQ.step (fun k => by rw [impl_NumRead.j2]) (EvQ.pos rfl (EvQ.now (by simp)))
  | succ d ih =>
    intro i x8 hd hi hib h0 h1
    refine EvQ.step (fun k => by rw [impl_NumRead.l0]) (EvQ.ite (fun _ => ?_) (fun hne => ?_))
    · exact EvQ.step (fun k => by rw [impl_NumRead.j2]) (EvQ.pos rfl (EvQ.now (by simp)))
    · rw [decide_eq_false (by omega)]
      have hc := bt_byte b (1 + i)
      have hv := shl7 _ hc.1 hc.2 i (by omega)
      have e1 : wrap64 (1 + (i : Int) + 1) = 1 + ((i + 1 : Nat) : Int) := by rw [w64 _ (by omega) (by omega)]; omega
      have e2 : wrap64 (1 + ((i + 1 : Nat) : Int) - 1) = 1 + (i : Int) := by rw [w64 _ (by omega) (by omega)]; omega
      have e3 : wrap64 (7 * (i : Int) + 7) = 7 * ((i + 1 : Nat) : Int) := by rw [w64 _ (by omega) (by omega)]; omega
      have e4 : wrap64 (x8 + shl .i64 (Go.bits .and .i64 (wrap64 (bt b (1 + i))) 127) (7 * (i : Int))) = x8 + shl .i64 (Go.bits .and .i64 (wrap64 (bt b (1 + i))) 127) (7 * (i : Int)) := w64 _ (by omega) (by omega)
      refine EvQ.step (fun k => by rw [impl_NumRead.j2]) ?_
      simp only [e1, e2, e3, e4]
      refine EvQ.neg (by decide) (EvQ.pos (by omega) (EvQ.pos (by omega) (EvQ.pos (by omega) (EvQ.pos (by omega) (EvQ.pos (by omega) (EvQ.ite (fun _ => ?_) (fun h9 => ?_)))))))
      · refine EvQ.pos (by omega) (EvQ.pos (by decide) (EvQ.bind (NumWrite_any _ _ (by omega)) ?_))
        intro t _
        refine EvQ.pos (by omega) (EvQ.pos (by omega) (EvQ.ite (fun _ => EvQ.now ?_) (fun _ => EvQ.now (by simp))))
        intro _
        dsimp only
        omega
      · by_cases hl : i + 1 < b.size
        · exact ih (i + 1) _ (by omega) (by omega) hl (by omega) (by omega)
        · refine EvQ.step (fun k => by rw [impl_NumRead.l0]) (EvQ.pos (by omega) ?_)
          exact EvQ.step (fun k => by rw [impl_NumRead.j2]) (EvQ.pos rfl (EvQ.now (by simp)))
theorem NumRead7_ev (b : ByteArray) (hs : b.size ≤ 1000000000) : EvQ (fun k => impl_NumRead.f k b 7) (numHead b) := by
  unfold impl_NumRead.f
  refine EvQ.ite (fun h => ?_) (fun h => ?_)
  · refine EvQ.step (fun k => by rw [impl_NumRead.j0]) (EvQ.pos rfl (EvQ.now ⟨fun _ => rfl, fun h9 => ?_⟩))
    have := (toList_nil_size b).1 h
    omega
  · have hb : 0 < b.size := Nat.pos_of_ne_zero (fun h0 => h ((toList_nil_size b).2 h0))
    have hc := bt_byte b 0
    rw [show impl_in.f 7 3 7 = some true by decide]
    simp only [Option.bind_some]
    refine EvQ.step (fun k => by rw [impl_NumRead.j0]) (EvQ.neg (by decide) (EvQ.pos (by decide) (EvQ.pos (by omega) ?_)))
    rw [(and7 _ hc.1 hc.2).1, (and7 _ hc.1 hc.2).2, show wrap64 ((shl .i64 1 7) - 1) = 127 by decide +kernel]
    refine EvQ.ite (fun h1 => ?_) (fun h1 => ?_)
    · refine (NumRead_l0_ev b hs hb 3 0 _ rfl (by omega) (by omega) (by omega) (by omega)).mono ?_
      intro r hr
      exact ⟨fun _ => by omega, fun _ => ⟨fun h9 => by omega, fun _ => hr⟩⟩
    · refine EvQ.bindE (NumWrite7w _ _ (by omega) (by omega) (by omega) (by omega)) (EvQ.pos (by decide) (EvQ.pos (by omega) (EvQ.pos ?_ (EvQ.now ?_))))
      · rw [extract_one b hb, show 128 * (bt b 0 / 128) + bt b 0 % 128 = bt b 0 by omega]
      · exact ⟨fun _ => by omega, fun _ => ⟨fun _ => rfl, fun _ => by omega⟩⟩

theorem impl_WordRead_ev (b : ByteArray) (hs : b.size ≤ 1000000000) : Ev (fun k => impl_WordRead.f k b) (rdW b) := by
  refine EvQ.ev ?_
  unfold impl_WordRead.f
  refine EvQ.bind (NumRead7_ev b hs) ?_
  rintro ⟨n, u, t⟩ hr
  have hc := bt_byte b 0
  have hout : ∀ s, rdW b = (⟨#[]⟩, 0, false) → EvQ (fun k => impl_WordRead.j0 k b n u s true) (fun x => x = rdW b) := by
    intro s h
    exact EvQ.step (fun k => by rw [impl_WordRead.j0]) (EvQ.pos rfl (EvQ.now h.symm))
  by_cases h0 : b.size = 0
  · have := hr.1 h0
    dsimp only at this ⊢
    rw [this]
    refine EvQ.neg (by decide) (hout _ ?_)
    unfold rdW; rw [if_pos h0]
  · by_cases h1 : bt b 0 % 128 < 127
    · have := (hr.2 (by omega)).1 h1
      simp only [Prod.mk.injEq] at this
      obtain ⟨rfl, rfl, rfl⟩ := this
      dsimp only
      refine EvQ.pos rfl ?_
      by_cases h2 : bt b 0 % 128 > 16
      · refine EvQ.pos h2 (hout _ ?_)
        unfold rdW; rw [if_neg h0, if_pos (Or.inl h2)]
      · refine EvQ.neg h2 ?_
        rw [w64_0 (1 + bt b 0 % 128) (by omega) (by omega)]
        by_cases h3 : 1 + bt b 0 % 128 > b.size
        · rw [decide_eq_true h3]
          refine hout _ ?_
          unfold rdW; rw [if_neg h0, if_pos (Or.inr h3)]
        · rw [decide_eq_false h3]
          have hbs := body_size b (by omega)
          refine EvQ.step (fun k => by rw [impl_WordRead.j0]) ?_
          simp only [w64_0 (1 + bt b 0 % 128) (by omega) (by omega)]
          refine EvQ.neg (by decide) (EvQ.pos (by omega) (EvQ.pos (by omega) (EvQ.pos (by omega) (EvQ.pos (by omega) ?_))))
          have hbd : b.extract (1 : Int).toNat (1 + bt b 0 % 128).toNat = body b := rfl
          rw [hbd]
          unfold rdW
          rw [if_neg h0, if_neg (by omega)]
          refine EvQ.ite (fun h4 => ?_) (fun h4 => ?_)
          · rw [if_pos h4]
            refine EvQ.bindE (impl_WordUnpack_ev _) ?_
            rcases hu : unp (body b) with ⟨x, t⟩
            cases t with
            | false => exact EvQ.neg (by simp) (EvQ.now (by simp))
            | true =>
              obtain ⟨q1, q2, q3⟩ := up_true hu
              have := q1.1
              exact EvQ.pos rfl (EvQ.bindE (impl_WordOk_ev x (by omega)) (EvQ.pos (wordOk_of q1) (EvQ.now (by simp))))
          · rw [if_neg h4]
            refine EvQ.pos (by trivial) (EvQ.bindE (impl_WordOk_ev _ (by omega)) (EvQ.ite (fun h5 => EvQ.now ?_) (fun h5 => EvQ.now ?_)))
            · rw [if_pos h5]
            · rw [if_neg h5]
    · have h2 : bt b 0 % 128 = 127 := by omega
      have h3 := (hr.2 (by omega)).2 h2
      dsimp only at h3 ⊢
      have hx : rdW b = (⟨#[]⟩, 0, false) := by unfold rdW; rw [if_neg h0, if_pos (Or.inl (by omega))]
      exact EvQ.ite (fun h4 => EvQ.pos (h3 h4) (hout _ hx)) (fun _ => hout _ hx)

theorem FnWordBack : laws_FnWordBack.Pure := by
  intro l0 l1 _ _ hw0 hm1 _ _
  have hl := bytes_of_wf hw0
  apply EvQ.tt
  unfold laws_FnWordBack.f
  have hj0 : EvQ (fun k => laws_FnWordBack.j0 k l0 l1 true) (fun x => x = true) := EvQ.step (fun k => by rw [laws_FnWordBack.j0]) (EvQ.pos rfl (EvQ.now rfl))
  refine EvQ.ite (fun _ => hj0) (fun _ => ?_)
  by_cases h1 : (l1.length : Int) > 1048576
  · rw [decide_eq_true h1]; exact hj0
  rw [decide_eq_false h1]
  refine EvQ.step (fun k => by rw [laws_FnWordBack.j0]) (EvQ.neg (by decide) (EvQ.bind (drawWordWrite_ev l0 hl) ?_))
  intro a ha
  refine EvQ.bindE (impl_WordWrite_ev a (by omega)) (EvQ.bindE (spec_WordWrite_ev a (by omega)) (EvQ.pos rfl ?_))
  by_cases hok : wordOk a = true
  · have hp := ok_of hok
    have h17 := wrB_small hp
    rw [wr_of hp, wrB_nonempty]
    refine EvQ.step (fun k => by rw [laws_FnWordBack.j1]) (EvQ.neg (by decide) (EvQ.bindE (impl_WordRead_ev _ (by omega)) ?_))
    have e1 : (0 : Int) ≤ (l1.length : Int) % 5 := by omega
    have e2 : (l1.length : Int) % 5 ≤ (l1.length : Int) := by omega
    refine EvQ.pos e1 ?_
    refine EvQ.pos e2 ?_
    have hs : (strOfNums (l1.take ((l1.length : Int) % 5).toNat)).size ≤ 5 := by rw [son_size, List.length_take]; omega
    refine EvQ.pos (by omega) (EvQ.bindE (impl_WordRead_ev _ (by rw [ba_size_append]; omega)) ?_)
    rw [rd_wr hp, rd_wr0 hp]
    exact EvQ.pos rfl (EvQ.pos rfl (EvQ.pos rfl (EvQ.pos rfl (EvQ.pos rfl (EvQ.now (by simp))))))
  · rw [wr_bad hok, nil_empty]
    refine EvQ.step (fun k => by rw [laws_FnWordBack.j1]) (EvQ.pos rfl (EvQ.bindE (spec_WordWrite_ev a (by omega)) (EvQ.now ?_)))
    rw [wr_bad hok]; exact beq_self_eq_true _

end Go.Proofs.Ytajjleldnobhmaa.Pure
