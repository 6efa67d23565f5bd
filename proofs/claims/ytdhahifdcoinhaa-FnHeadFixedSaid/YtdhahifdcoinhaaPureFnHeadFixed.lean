/- The plain law of FnHeadFixed: for every input that fits, what the printed functions reckon is true. No condition but the row's own. -/
import Derived.Test.YtdhahifdcoinhaaLm0
import Derived.Test.YtdhahifdcoinhaaLm1
import Derived.Test.YtdhahifdcoinhaaLm2
import Derived.Test.YtdhahifdcoinhaaLm3
import Derived.Test.YtdhahifdcoinhaaPFnHeadFixedx11
namespace Go.Proofs.Ytdhahifdcoinhaa.Pure
open Go.RowKit Go.Proofs.Ytdhahifdcoinhaa.PFnHeadFixed Go.Proofs.YtdhahifdcoinhaaW.PrintWords Go.Proofs.YtdhahifdcoinhaaW.PrintLast Go.Proofs.YtdhahifdcoinhaaW.PrintMore Go.Proofs.Ytdhahifdcoinhaa.Lm
set_option linter.unusedVariables false
set_option linter.unusedSimpArgs false

theorem pick_ev (l : List Int) (p n : Int) (hl : Bytes l) (hll : l.length ≤ 2000) (hp : 0 ≤ p) (hp1 : p ≤ 1000000000) (hn : 1 ≤ n) :
    EvQ (fun k => spec_l6Rd_pick.f k l p n) (fun r => 0 ≤ r.1 ∧ r.1 < n ∧ r.2 = p + 1) := by
  have e1 : wrap64 (p + 1) = p + 1 := w64_0 _ (by omega) (by omega)
  have e2 : wrap64 (p + 1 - 1) = p := by rw [show p + 1 - 1 = p by omega]; exact w64_0 _ (by omega) (by omega)
  unfold spec_l6Rd_pick.f
  simp only [e1]
  refine EvQ.neg (by omega) ?_
  refine EvQ.step (fun k => by rw [spec_l6Rd_pick.j0]) ?_
  simp only [e2]
  by_cases h0 : (l.length : Int) = 0
  · refine EvQ.pos (by simpa using h0) (EvQ.now ⟨by omega, by omega, rfl⟩)
  · refine EvQ.neg (by simpa using h0) ?_
    by_cases h1 : p < (l.length : Int)
    · refine EvQ.pos h1 (EvQ.pos hp (EvQ.neg (by omega) (EvQ.now ?_)))
      have hb := rd_bytes hl p
      rw [w64_0 (rd l p) hb.1 (by omega)]
      have := tmod_range (rd l p) n hb.1 (by omega)
      exact ⟨this.1, this.2, rfl⟩
    · have hlen : 0 < (l.length : Int) := by omega
      have hm1 := tmod_range p (l.length : Int) hp hlen
      have e7 : wrap64 (p * 7) = p * 7 := w64_0 _ (by omega) (by omega)
      have e3 : wrap64 (p * 7 + 3) = p * 7 + 3 := w64_0 _ (by omega) (by omega)
      have hm2 := tmod_range (p * 7 + 3) (l.length : Int) (by omega) hlen
      refine EvQ.neg h1 (EvQ.neg h0 ?_)
      simp only [e7, e3]
      refine EvQ.pos hm1.1 (EvQ.pos hm1.2 (EvQ.pos hm2.1 (EvQ.pos hm2.2 (EvQ.neg (by omega) (EvQ.now ?_)))))
      have ha := rd_bytes hl (Int.tmod p (l.length : Int))
      have hb := rd_bytes hl (Int.tmod (p * 7 + 3) (l.length : Int))
      have hd := tdiv_range p (l.length : Int) hp hlen
      generalize rd l (Int.tmod p (l.length : Int)) = a at *
      generalize rd l (Int.tmod (p * 7 + 3) (l.length : Int)) = b at *
      generalize Int.tdiv p (l.length : Int) = d at *
      rw [w64_0 a ha.1 (by omega), w64_0 b hb.1 (by omega), w64_0 d hd.1 (by omega), w64_0 (a * 131) (by omega) (by omega), w64_0 (b * 1117) (by omega) (by omega),
        w64_0 (p * 29) (by omega) (by omega), w64_0 (d * 53) (by omega) (by omega), w64_0 (a * 131 + b * 1117) (by omega) (by omega),
        w64_0 (a * 131 + b * 1117 + p * 29) (by omega) (by omega), w64_0 (a * 131 + b * 1117 + p * 29 + d * 53) (by omega) (by omega)]
      have hx : 0 ≤ a * 131 + b * 1117 + p * 29 + d * 53 := by omega
      have hx1 : a * 131 + b * 1117 + p * 29 + d * 53 < 2 ^ 62 := by omega
      generalize a * 131 + b * 1117 + p * 29 + d * 53 = x at *
      have hy := tdiv_range x 64 hx (by omega)
      rw [w64_0 (Int.tdiv x 64) hy.1 (by omega)]
      have := tmod_range _ n (xor_i64_nonneg x (Int.tdiv x 64) hx hx1 hy.1 (by omega)) (by omega)
      exact ⟨this.1, this.2, rfl⟩

theorem open_ev (l : List Int) (hl : Bytes l) :
    EvQ (fun _ => spec_l6Open.f l) (fun r => Bytes r.1 ∧ r.1.length ≤ 2000 ∧ r.2 = 0) := by
  unfold spec_l6Open.f
  refine EvQ.ite (fun h => EvQ.pos (by omega) (EvQ.now ⟨hl.take _, by simp; omega, rfl⟩)) (fun h => EvQ.now ⟨hl, (by omega : l.length ≤ 2000), rfl⟩)

theorem l6Many_e_all : ∀ c : Fin 4, spec_l6Many.f 10 (⟨#[101]⟩ : ByteArray) (15 + (c.val : Int)) = some (strOfNums (List.replicate (15 + c.val) 101)) := by decide +kernel
theorem l6Many_e (c : Int) (h0 : 0 ≤ c) (h1 : c < 4) : Ev (fun k => spec_l6Many.f k (⟨#[101]⟩ : ByteArray) (15 + c)) (strOfNums (List.replicate (15 + c.toNat) 101)) := by
  obtain ⟨n, rfl⟩ := Int.eq_ofNat_of_zero_le h0
  exact Ev.of (fun k => spec_l6Many.mono _ _ k) (l6Many_e_all ⟨n, by omega⟩)

theorem l71Word_l0 (l : List Int) (hl : Bytes l) (hll : l.length ≤ 2000) (n : Nat) : ∀ (s : ByteArray) (p : Int), s.size + n ≤ 16 → 0 ≤ p → p + 3 * n ≤ 900000000 →
    EvQ (fun k => spec_l71Word.l0 k s n l p) (fun r => r.1.size ≤ 18 ∧ p ≤ r.2 ∧ r.2 ≤ p + 3 * n + 2) := by
  induction n with
  | zero =>
    intro s p hs hp hp1
    refine EvQ.step (fun k => by rw [spec_l71Word.l0]) ?_
    refine EvQ.neg (by omega) (EvQ.bind (pick_ev l p 24 hl hll hp (by omega) (by omega)) ?_)
    rintro ⟨a, q⟩ ⟨ha, ha1, rfl⟩
    dsimp only at *
    refine EvQ.ite (fun h => EvQ.pos (by omega) (EvQ.now ?_)) (fun h => EvQ.ite (fun h1 => ?_) (fun h1 => EvQ.now ?_))
    · refine ⟨?_, ?_, ?_⟩ <;> dsimp only
      · have : (s ++ (⟨#[65]⟩ : ByteArray)).size = s.size + 1 := by rw [ba_size_append]; rfl
        omega
      · omega
      · omega
    · refine EvQ.bind (pick_ev l _ 4 hl hll (by omega) (by omega) (by omega)) ?_
      rintro ⟨b, q⟩ ⟨hb, hb1, rfl⟩
      dsimp only at *
      rw [w64_0 (15 + b) (by omega) (by omega)]
      refine EvQ.bindE (l6Many_e b hb hb1) (EvQ.now ?_)
      refine ⟨?_, ?_, ?_⟩ <;> dsimp only
      · rw [son_size, List.length_replicate]; omega
      · omega
      · omega
    · refine ⟨?_, ?_, ?_⟩ <;> (try dsimp only) <;> omega
  | succ n ih =>
    intro s p hs hp hp1
    refine EvQ.step (fun k => by rw [spec_l71Word.l0]) ?_
    have e1 : wrap64 (((n + 1 : Nat) : Int) - 1) = (n : Int) := by rw [w64_0 _ (by omega) (by omega)]; omega
    simp only [e1]
    refine EvQ.pos (by omega) (EvQ.bind (pick_ev l p 24 hl hll hp (by omega) (by omega)) ?_)
    rintro ⟨a, q⟩ ⟨ha, ha1, rfl⟩
    refine EvQ.bind (pick_ev l _ 4 hl hll (by dsimp only; omega) (by dsimp only; omega) (by omega)) ?_
    rintro ⟨b, q⟩ ⟨hb, hb1, rfl⟩
    dsimp only at *
    have hsz : ∀ c : Int, (s ++ strOfNums [wrap64 (bt (⟨#[101, 116, 97, 111, 105, 110, 115, 114, 104, 108, 48, 49, 50, 51, 52, 53, 54, 55, 56, 57, 100, 99, 117, 109, 102, 112, 103, 119, 121, 98, 118, 107, 120, 106, 113, 122, 58, 47, 45]⟩ : ByteArray) c) % 256]).size = s.size + 1 := fun c => by
      rw [ba_size_append, son_size]; rfl
    refine EvQ.ite (fun h => ?_) (fun h => ?_)
    · refine EvQ.bind (pick_ev l _ 39 hl hll (by omega) (by omega) (by omega)) ?_
      rintro ⟨c, q⟩ ⟨hc, hc1, rfl⟩
      dsimp only at *
      unfold spec_l1Byte.f
      simp only [Option.bind_some]
      refine EvQ.pos hc (EvQ.pos hc1 (EvQ.pos (by rw [son_size]; simp; omega) (EvQ.mono (ih _ _ (by rw [hsz]; omega) (by omega) (by omega)) ?_)))
      rintro ⟨s', q⟩ ⟨h1, h2, h3⟩
      dsimp only at *
      refine ⟨h1, ?_, ?_⟩ <;> omega
    · unfold spec_l1Byte.f
      simp only [Option.bind_some]
      refine EvQ.pos ha (EvQ.pos (by omega) (EvQ.pos (by rw [son_size]; simp; omega) (EvQ.mono (ih _ _ (by rw [hsz]; omega) (by omega) (by omega)) ?_)))
      rintro ⟨s', q⟩ ⟨h1, h2, h3⟩
      dsimp only at *
      refine ⟨h1, ?_, ?_⟩ <;> omega
theorem l71Word_ev (l : List Int) (p : Int) (hl : Bytes l) (hll : l.length ≤ 2000) (hp : 0 ≤ p) (hp1 : p ≤ 800000000) :
    EvQ (fun k => spec_l71Word.f k l p) (fun r => r.1.size ≤ 18 ∧ p ≤ r.2 ∧ r.2 ≤ p + 60) := by
  unfold spec_l71Word.f
  refine EvQ.bind (pick_ev l p 9 hl hll hp (by omega) (by omega)) ?_
  rintro ⟨a, q⟩ ⟨ha, ha1, rfl⟩
  refine EvQ.bind (pick_ev l _ 6 hl hll (by dsimp only; omega) (by dsimp only; omega) (by omega)) ?_
  rintro ⟨b, q⟩ ⟨hb, hb1, rfl⟩
  dsimp only at *
  have hd := tdiv_range b 5 hb (by omega)
  have hd2 : Int.tdiv b 5 ≤ 1 := by rw [Int.tdiv_eq_ediv_of_nonneg hb]; omega
  generalize Int.tdiv b 5 = d at *
  rw [w64_0 d (by omega) (by omega), w64_0 (d * 8) (by omega) (by omega), w64_0 (a + d * 8) (by omega) (by omega)]
  obtain ⟨n, hn⟩ := Int.eq_ofNat_of_zero_le (show 0 ≤ a + d * 8 by omega)
  rw [hn]
  refine EvQ.mono (l71Word_l0 l hl hll n (⟨#[]⟩ : ByteArray) (p + 1 + 1) (by rw [ba_size_nil]; omega) (by omega) (by omega)) ?_
  rintro ⟨s', q⟩ ⟨h1, h2, h3⟩
  dsimp only at *
  refine ⟨h1, ?_, ?_⟩ <;> (try dsimp only) <;> omega

theorem l2Sign_all : ∀ c : Fin 256, spec_l2Sign.f 50 (c.val : Int) = some (place (c.val : Int)) := by decide +kernel
theorem l2Sign_ev (c : Int) (h0 : 0 ≤ c) (h1 : c < 256) : Ev (fun k => spec_l2Sign.f k c) (place c) := by
  obtain ⟨n, rfl⟩ := Int.eq_ofNat_of_zero_le h0
  exact Ev.of (fun k => spec_l2Sign.mono _ k) (l2Sign_all ⟨n, by omega⟩)

theorem spec_WordOk_l0 (a : ByteArray) (hs : a.size ≤ 1000000000) (d : Nat) : ∀ i : Nat, a.size - i = d → i ≤ a.size →
    Ev (fun k => spec_WordOk.l0 k a i) (decide (a.size ≤ 16 ∧ ∀ j : Nat, j < a.size → i ≤ j → 0 ≤ place (bt a j))) := by
  induction d with
  | zero =>
    intro i hd hi
    have e : i = a.size := by omega
    refine Ev.step (fun k => by rw [spec_WordOk.l0]) ?_
    refine Ev.neg (by omega) ?_
    have : (decide (a.size ≤ 16 ∧ ∀ j : Nat, j < a.size → i ≤ j → 0 ≤ place (bt a j))) = decide ((a.size : Int) ≤ 16) := by
      rw [decide_eq_decide]
      constructor
      · rintro ⟨h, _⟩; omega
      · intro h; exact ⟨by omega, fun j h1 h2 => by omega⟩
    rw [this]
    exact Ev.now _
  | succ d ih =>
    intro i hd hi
    have hb := bt_byte a i
    refine Ev.step (fun k => by rw [spec_WordOk.l0]) ?_
    refine EvQ.ev (EvQ.pos (by omega) (EvQ.pos (by omega) (EvQ.bindE (l2Sign_ev _ hb.1 hb.2) ?_)))
    refine EvQ.ite (fun h => EvQ.now ?_) (fun h => ?_)
    · symm
      rw [decide_eq_false_iff_not]
      rintro ⟨_, h2⟩
      have := h2 i (by omega) (by omega)
      omega
    · rw [w64_0 _ (by omega) (by omega), show ((i : Int) + 1) = ((i + 1 : Nat) : Int) by omega]
      refine EvQ.of_ev (ih (i + 1) (by omega) (by omega)) ?_
      rw [decide_eq_decide]
      constructor
      · rintro ⟨h1, h2⟩
        refine ⟨h1, fun j h3 h4 => ?_⟩
        by_cases e : j = i
        · subst e; omega
        · exact h2 j h3 (by omega)
      · rintro ⟨h1, h2⟩
        exact ⟨h1, fun j h3 h4 => h2 j h3 (by omega)⟩
theorem spec_WordOk_ev (a : ByteArray) (hs : a.size ≤ 1000000000) : Ev (fun k => spec_WordOk.f k a) (wordOk a) := by
  unfold spec_WordOk.f
  have h := spec_WordOk_l0 a hs a.size 0 (by omega) (by omega)
  have e : wordOk a = (decide (a.size ≤ 16 ∧ ∀ j : Nat, j < a.size → 0 ≤ j → 0 ≤ place (bt a j))) := by
    unfold wordOk
    rw [decide_eq_decide, packOk_iff]
    simp
  rw [e]
  exact h

theorem IndexByte_eq (c : Int) : strings_IndexByte.f (⟨#[101, 116, 97, 111, 105, 110, 115, 114, 104, 108, 48, 49, 50, 51, 52, 53, 54, 55, 56, 57, 100, 99, 117, 109, 102, 112, 103, 119, 121, 98, 118, 107, 120, 106, 113, 122, 58, 47, 45]⟩ : ByteArray) c = some (place c) := rfl
theorem impl_WordOk_l0 (a : ByteArray) (hs : a.size ≤ 1000000000) (d : Nat) : ∀ i : Nat, a.size - i = d → i ≤ a.size →
    Ev (fun k => impl_WordOk.l0 k a (a.size : Int) i) (decide (a.size ≤ 16 ∧ ∀ j : Nat, j < a.size → i ≤ j → 0 ≤ place (bt a j))) := by
  induction d with
  | zero =>
    intro i hd hi
    have e : i = a.size := by omega
    refine Ev.step (fun k => by rw [impl_WordOk.l0]) ?_
    refine Ev.neg (by omega) ?_
    have : (decide (a.size ≤ 16 ∧ ∀ j : Nat, j < a.size → i ≤ j → 0 ≤ place (bt a j))) = decide ((a.size : Int) ≤ 16) := by
      rw [decide_eq_decide]
      constructor
      · rintro ⟨h, _⟩; omega
      · intro h; exact ⟨by omega, fun j h1 h2 => by omega⟩
    rw [this]
    exact Ev.now _
  | succ d ih =>
    intro i hd hi
    have hb := bt_byte a i
    refine Ev.step (fun k => by rw [impl_WordOk.l0]) ?_
    refine EvQ.ev (EvQ.pos (by omega) (EvQ.pos (by omega) (EvQ.pos (by omega) ?_)))
    rw [IndexByte_eq]
    simp only [Option.bind_some]
    refine EvQ.ite (fun h => EvQ.now ?_) (fun h => ?_)
    · symm
      rw [decide_eq_false_iff_not]
      rintro ⟨_, h2⟩
      have := h2 i (by omega) (by omega)
      omega
    · rw [w64_0 _ (by omega) (by omega), show ((i : Int) + 1) = ((i + 1 : Nat) : Int) by omega]
      refine EvQ.of_ev (ih (i + 1) (by omega) (by omega)) ?_
      rw [decide_eq_decide]
      constructor
      · rintro ⟨h1, h2⟩
        refine ⟨h1, fun j h3 h4 => ?_⟩
        by_cases e : j = i
        · subst e; omega
        · exact h2 j h3 (by omega)
      · rintro ⟨h1, h2⟩
        exact ⟨h1, fun j h3 h4 => h2 j h3 (by omega)⟩
theorem impl_WordOk_ev (a : ByteArray) (hs : a.size ≤ 1000000000) : Ev (fun k => impl_WordOk.f k a) (wordOk a) := by
  unfold impl_WordOk.f
  have h := impl_WordOk_l0 a hs a.size 0 (by omega) (by omega)
  have e : wordOk a = (decide (a.size ≤ 16 ∧ ∀ j : Nat, j < a.size → 0 ≤ j → 0 ≤ place (bt a j))) := by
    unfold wordOk
    rw [decide_eq_decide, packOk_iff]
    simp
  rw [e]
  exact h

theorem impl_WordPack_ev (a : ByteArray) (hs : a.size ≤ 1000000000) : Ev (fun k => impl_WordPack.f k a) (pk a) := by
  unfold impl_WordPack.f
  refine EvQ.ev (EvQ.bindE (impl_WordOk_ev a hs) ?_)
  unfold pk
  refine EvQ.ite (fun h => ?_) (fun h => EvQ.now (by rw [if_neg h]))
  have hp : packOk a := by simpa [wordOk] using h
  refine EvQ.pos hp (EvQ.now (by rw [if_pos h]))

theorem l2Bits_5 : ∀ c : Fin 32, spec_l2Bits.f 10 (c.val : Int) 5 = some (bitsL (c.val : Int) 5) := by decide +kernel
theorem l2Bits_7 : ∀ c : Fin 128, spec_l2Bits.f 10 (c.val : Int) 7 = some (bitsL (c.val : Int) 7) := by decide +kernel
theorem l2Bits_ev5 (c : Int) (h0 : 0 ≤ c) (h1 : c < 32) : Ev (fun k => spec_l2Bits.f k c 5) (bitsL c 5) := by
  obtain ⟨n, rfl⟩ := Int.eq_ofNat_of_zero_le h0
  exact Ev.of (fun k => spec_l2Bits.mono _ _ k) (l2Bits_5 ⟨n, by omega⟩)
theorem l2Bits_ev7 (c : Int) (h0 : 0 ≤ c) (h1 : c < 128) : Ev (fun k => spec_l2Bits.f k c 7) (bitsL c 7) := by
  obtain ⟨n, rfl⟩ := Int.eq_ofNat_of_zero_le h0
  exact Ev.of (fun k => spec_l2Bits.mono _ _ k) (l2Bits_7 ⟨n, by omega⟩)

theorem l2Num_l0 (l : List Int) (h01 : ∀ x ∈ l, x = 0 ∨ x = 1) (hl : l.length ≤ 8) (d : Nat) : ∀ i : Nat, l.length - i = d → i ≤ l.length →
    Ev (fun k => spec_l2Num.l0 k l (numL (l.take i)) i) (numL l) := by
  induction d with
  | zero =>
    intro i hd hi
    have e : i = l.length := by omega
    refine Ev.step (fun k => by rw [spec_l2Num.l0]) ?_
    refine Ev.neg (by omega) ?_
    rw [e, List.take_length]
    exact Ev.now _
  | succ d ih =>
    intro i hd hi
    have hr := numL_range l h01 i (by omega)
    have hp := pow8 i (by omega)
    have h2 := rd_01 l h01 i (by omega)
    have ht := numL_take l i (by omega)
    refine Ev.step (fun k => by rw [spec_l2Num.l0]) ?_
    refine EvQ.ev (EvQ.pos (by omega) (EvQ.pos (by omega) ?_))
    rw [w64_0 _ (by omega) (by omega : (i : Int) + 1 < _), w64_0 (2 * _) (by omega) (by omega), w64_0 _ (by omega) (by omega), ← ht, show ((i : Int) + 1) = ((i + 1 : Nat) : Int) by omega]
    exact EvQ.of_ev (ih (i + 1) (by omega) (by omega)) rfl
theorem l2Num_ev (l : List Int) (h01 : ∀ x ∈ l, x = 0 ∨ x = 1) (hl : l.length ≤ 8) : Ev (fun k => spec_l2Num.f k l) (numL l) := by
  unfold spec_l2Num.f
  exact l2Num_l0 l h01 hl l.length 0 (by omega) (by omega)

theorem l2Pack_l2 (l : List Int) (h01 : ∀ x ∈ l, x = 0 ∨ x = 1) (hl : l.length ≤ 1000) (h8 : l.length % 8 = 0) (d : Nat) : ∀ m : Nat, l.length / 8 - m = d → m ≤ l.length / 8 →
    Ev (fun k => spec_l2Pack.l2 k l (strOfNums (bytesL l m)) (8 * (m : Int))) (strOfNums (bytesL l (l.length / 8))) := by
  induction d with
  | zero =>
    intro m hd hm
    have e : m = l.length / 8 := by omega
    refine Ev.step (fun k => by rw [spec_l2Pack.l2]) ?_
    refine Ev.neg (by omega) ?_
    rw [e]
    exact Ev.now _
  | succ d ih =>
    intro m hd hm
    have e8 : wrap64 (8 * (m : Int) + 8) = 8 * (m : Int) + 8 := w64_0 _ (by omega) (by omega)
    have es : (l.take (8 * (m : Int) + 8).toNat).drop (8 * (m : Int)).toNat = (l.drop (8 * m)).take 8 := by
      rw [show (8 * (m : Int) + 8).toNat = 8 * m + 8 by omega, show (8 * (m : Int)).toNat = 8 * m by omega, List.drop_take]
      congr 1; omega
    have hs01 : ∀ x ∈ (l.drop (8 * m)).take 8, x = 0 ∨ x = 1 := fun x hx => h01 x (List.mem_of_mem_drop (List.mem_of_mem_take hx))
    have hsl : ((l.drop (8 * m)).take 8).length = 8 := by rw [List.length_take, List.length_drop]; omega
    have hr := numL_range _ hs01 8 (by omega)
    rw [show ((l.drop (8 * m)).take 8).take 8 = (l.drop (8 * m)).take 8 by rw [List.take_take]; rfl] at hr
    refine Ev.step (fun k => by rw [spec_l2Pack.l2]) ?_
    simp only [e8, es]
    refine EvQ.ev (EvQ.pos (by omega) (EvQ.pos (by omega) (EvQ.pos (by omega) (EvQ.pos (by omega) (EvQ.bindE (l2Num_ev _ hs01 (by omega)) ?_)))))
    unfold spec_l1Byte.f
    simp only [Option.bind_some]
    rw [Int.emod_eq_of_lt hr.1 (by omega)]
    refine EvQ.pos (by rw [son_size, son_size, bytesL_len]; simp; omega) ?_
    rw [← son_append]
    have := ih (m + 1) (by omega) (by omega)
    rw [show 8 * ((m + 1 : Nat) : Int) = 8 * (m : Int) + 8 by omega] at this
    exact EvQ.of_ev this rfl
theorem l2Pack_l1 (d : Nat) : ∀ (l : List Int), (∀ x ∈ l, x = 0 ∨ x = 1) → l.length + d ≤ 900 → (8 - l.length % 8) % 8 = d →
    Ev (fun k => spec_l2Pack.l1 k l) (strOfNums (bytesL (padBits l) ((padBits l).length / 8))) := by
  induction d with
  | zero =>
    intro l h01 hl hd
    refine Ev.step (fun k => by rw [spec_l2Pack.l1]) ?_
    rw [pad_done l (by omega)]
    refine Ev.neg (by omega) ?_
    exact l2Pack_l2 l h01 (by omega) (by omega) _ 0 rfl (by omega)
  | succ d ih =>
    intro l h01 hl hd
    refine Ev.step (fun k => by rw [spec_l2Pack.l1]) ?_
    rw [← pad_step l (by omega)]
    refine Ev.pos (by omega) (Ev.pos (by omega) ?_)
    refine ih (l ++ [1]) ?_ (by simp; omega) (by simp; omega)
    intro x hx
    simp at hx
    rcases hx with hx | hx
    · exact h01 x hx
    · exact .inr hx
theorem l2Pack_l0 (a : ByteArray) (hp : packOk a) (d : Nat) : ∀ i : Nat, a.size - i = d → i ≤ a.size →
    Ev (fun k => spec_l2Pack.l0 k a (packBits a i) i) (packB a) := by
  have hsz := hp.1
  induction d with
  | zero =>
    intro i hd hi
    have e : i = a.size := by omega
    refine Ev.step (fun k => by rw [spec_l2Pack.l0]) ?_
    refine Ev.neg (by omega) ?_
    rw [e]
    have hl := packBits_len a a.size
    exact l2Pack_l1 _ _ (pack01 a _) (by omega) rfl
  | succ d ih =>
    intro i hd hi
    have hb := bt_byte a i
    have hpl := hp.2 i (by omega)
    have hl := packBits_len a i
    have hih := ih (i + 1) (by omega) (by omega)
    rw [packBits] at hih
    unfold signBits at hih
    refine Ev.step (fun k => by rw [spec_l2Pack.l0]) ?_
    refine EvQ.ev (EvQ.pos (by omega) (EvQ.pos (by omega) (EvQ.bindE (l2Sign_ev _ hb.1 hb.2) ?_)))
    rw [w64_0 _ (by omega) (by omega : (i : Int) + 1 < _), show ((i : Int) + 1) = ((i + 1 : Nat) : Int) by omega]
    refine EvQ.ite (fun h => ?_) (fun h => ?_)
    · rw [if_pos h] at hih
      refine EvQ.bindE (l2Bits_ev5 _ hpl.1 (by omega)) ?_
      refine EvQ.pos (by rw [bitsL_length]; omega) (EvQ.of_ev hih rfl)
    · rw [if_neg h] at hih
      rw [w64_0 (96 + _) (by omega) (by omega), w64_0 _ (by omega) (by omega)]
      refine EvQ.bindE (l2Bits_ev7 _ (by omega) (by omega)) ?_
      refine EvQ.pos (by rw [bitsL_length]; omega) (EvQ.of_ev hih rfl)
theorem l2Pack_ev (a : ByteArray) (hp : packOk a) : Ev (fun k => spec_l2Pack.f k a) (packB a) := by
  unfold spec_l2Pack.f
  exact l2Pack_l0 a hp a.size 0 (by omega) (by omega)

theorem NumWrite7_all : ∀ c : Fin 17, ∀ h : Fin 2, impl_NumWrite.f 20 (c.val : Int) 7 (h.val : Int) = some (strOfNums [128 * (h.val : Int) + (c.val : Int)]) := by decide +kernel
theorem NumWrite7_ev (c h : Int) (h0 : 0 ≤ c) (h1 : c ≤ 16) (h2 : 0 ≤ h) (h3 : h ≤ 1) : Ev (fun k => impl_NumWrite.f k c 7 h) (strOfNums [128 * h + c]) := by
  obtain ⟨n, rfl⟩ := Int.eq_ofNat_of_zero_le h0
  obtain ⟨m, rfl⟩ := Int.eq_ofNat_of_zero_le h2
  exact Ev.of (fun k => impl_NumWrite.mono _ _ _ k) (NumWrite7_all ⟨n, by omega⟩ ⟨m, by omega⟩)

theorem l1Write7_all : ∀ c : Fin 17, ∀ h : Fin 2, spec_l1Write.f 20 (c.val : Int) 7 (h.val : Int) = some (strOfNums [128 * (h.val : Int) + (c.val : Int)]) := by decide +kernel
theorem l1Write7_ev (c h : Int) (h0 : 0 ≤ c) (h1 : c ≤ 16) (h2 : 0 ≤ h) (h3 : h ≤ 1) : Ev (fun k => spec_l1Write.f k c 7 h) (strOfNums [128 * h + c]) := by
  obtain ⟨n, rfl⟩ := Int.eq_ofNat_of_zero_le h0
  obtain ⟨m, rfl⟩ := Int.eq_ofNat_of_zero_le h2
  exact Ev.of (fun k => spec_l1Write.mono _ _ _ k) (l1Write7_all ⟨n, by omega⟩ ⟨m, by omega⟩)

theorem impl_WordWrite_ev (a : ByteArray) (hs : a.size ≤ 1000000000) : Ev (fun k => impl_WordWrite.f k a) (wr a) := by
  unfold impl_WordWrite.f
  refine EvQ.ev (EvQ.bindE (impl_WordOk_ev a hs) (EvQ.ite (fun h => ?_) (fun h => EvQ.now (by unfold wr; rw [if_neg h]))))
  have hp := ok_of h
  have h14 := packB_small hp
  have h16 := hp.1
  refine EvQ.bindE (impl_WordPack_ev a hs) ?_
  rw [pk_of hp, wr_of hp]
  unfold wrB
  refine EvQ.ite (fun hlt => ?_) (fun hlt => ?_)
  · refine EvQ.bindE (NumWrite7_ev _ 1 (by omega) (by omega) (by omega) (by omega)) (EvQ.pos (by rw [son_size]; simp; omega) (EvQ.now ?_))
    rw [if_pos (by omega)]; rfl
  · refine EvQ.bindE (NumWrite7_ev _ 0 (by omega) (by omega) (by omega) (by omega)) (EvQ.pos (by rw [son_size]; simp; omega) (EvQ.now ?_))
    rw [if_neg (by omega)]
    simp

theorem l2Write_ev (a : ByteArray) (hp : packOk a) : Ev (fun k => spec_l2Write.f k a) (wrB a) := by
  have h14 := packB_small hp
  have h16 := hp.1
  unfold spec_l2Write.f
  refine EvQ.ev (EvQ.bindE (l2Pack_ev a hp) ?_)
  unfold wrB
  refine EvQ.ite (fun hlt => ?_) (fun hlt => ?_)
  · refine EvQ.bindE (l1Write7_ev _ 1 (by omega) (by omega) (by omega) (by omega)) (EvQ.pos (by rw [son_size]; simp; omega) (EvQ.now ?_))
    rw [if_pos (by omega)]; rfl
  · refine EvQ.bindE (l1Write7_ev _ 0 (by omega) (by omega) (by omega) (by omega)) (EvQ.pos (by rw [son_size]; simp; omega) (EvQ.now ?_))
    rw [if_neg (by omega)]
    simp

/-- How large a field is. -/
def one (x : S36) : Int := (x.f0.size : Int) + (x.f1.size : Int) + 4
/-- How large fields are together. -/
def tsize : List S36 → Int
  | [] => 0
  | x :: l => one x + tsize l
def fieldOk (x : S36) : Bool := wordOk x.f0 && wordOk x.f1 && decide (x.f0.size ≠ 0)
def fieldsOk (l : List S36) : Bool := l.all (fun x => fieldOk x && !x.f2)
def tableOk (l : List S36) (m : Int) : Bool := decide (0 ≤ m ∧ m ≤ 64) && fieldsOk l && decide (tsize l ≤ m)
/-- The first fields, as many as fit. -/
def fitF : List S36 → Int → List S36
  | [], _ => []
  | x :: l, m => if one x ≤ m then x :: fitF l (m - one x) else []
/-- A size that no sum of which is too large. -/
def Small1 (x : S36) : Prop := x.f0.size ≤ 4000000 ∧ x.f1.size ≤ 4000000
def Small (l : List S36) : Prop := l.length ≤ 4000000 ∧ ∀ x ∈ l, Small1 x
theorem one_pos (x : S36) : 4 ≤ one x := by unfold one; omega
theorem tsize_nonneg (l : List S36) : 0 ≤ tsize l := by
  induction l with
  | nil => exact Int.le_refl 0
  | cons x l ih => unfold tsize; have := one_pos x; omega
theorem tsize_len (l : List S36) : 4 * (l.length : Int) ≤ tsize l := by
  induction l with
  | nil => simp [tsize]
  | cons x l ih => unfold tsize; have := one_pos x; simp only [List.length_cons]; omega
theorem Small1.one {x : S36} (h : Small1 x) : one x ≤ 8000004 := by unfold Small1 at h; unfold Pure.one; omega
theorem Small.tail {x : S36} {l : List S36} (h : Small (x :: l)) : Small l := ⟨by have := h.1; simp at this; omega, fun y hy => h.2 y (List.mem_cons_of_mem _ hy)⟩
theorem Small.head {x : S36} {l : List S36} (h : Small (x :: l)) : Small1 x := h.2 x List.mem_cons_self
theorem Small.sub {l l' : List S36} (h : Small l) (h1 : l'.length ≤ l.length) (h2 : ∀ x ∈ l', x ∈ l) : Small l' := ⟨by have := h.1; omega, fun y hy => h.2 y (h2 y hy)⟩
theorem Small.take {l : List S36} (h : Small l) (n : Nat) : Small (l.take n) := h.sub (by simp; omega) (fun x hx => List.mem_of_mem_take hx)
theorem Small.drop {l : List S36} (h : Small l) (n : Nat) : Small (l.drop n) := h.sub (by simp) (fun x hx => List.mem_of_mem_drop hx)
theorem Small.nil : Small [] := ⟨by simp, fun x hx => by cases hx⟩
theorem tsize_bound {l : List S36} (h : ∀ x ∈ l, Small1 x) : tsize l ≤ 8000004 * (l.length : Int) := by
  induction l with
  | nil => simp [tsize]
  | cons x l ih =>
    have h1 := (h x List.mem_cons_self).one
    have h2 := ih (fun y hy => h y (List.mem_cons_of_mem _ hy))
    unfold tsize
    simp only [List.length_cons]
    omega
theorem Small.size {l : List S36} (h : Small l) : 0 ≤ tsize l ∧ tsize l ≤ 32000016000000 := by
  have := tsize_bound h.2
  have := h.1
  exact ⟨tsize_nonneg l, by omega⟩
theorem fieldOk_small {x : S36} (h : fieldOk x = true) : x.f0.size ≤ 16 ∧ x.f1.size ≤ 16 ∧ 1 ≤ x.f0.size ∧ packOk x.f0 ∧ packOk x.f1 := by
  unfold fieldOk at h
  simp only [Bool.and_eq_true, decide_eq_true_eq] at h
  have h1 := ok_of h.1.1
  have h2 := ok_of h.1.2
  exact ⟨h1.1, h2.1, by omega, h1, h2⟩
theorem fieldOk_small1 {x : S36} (h : fieldOk x = true) : Small1 x := by have := fieldOk_small h; unfold Small1; omega
theorem tableOk_iff (l : List S36) (m : Int) : tableOk l m = true ↔ 0 ≤ m ∧ m ≤ 64 ∧ fieldsOk l = true ∧ tsize l ≤ m := by
  unfold tableOk
  simp only [Bool.and_eq_true, decide_eq_true_eq]
  constructor
  · rintro ⟨⟨⟨h1, h2⟩, h3⟩, h4⟩; exact ⟨h1, h2, h3, h4⟩
  · rintro ⟨h1, h2, h3, h4⟩; exact ⟨⟨⟨h1, h2⟩, h3⟩, h4⟩
theorem fieldsOk_iff (l : List S36) : fieldsOk l = true ↔ ∀ x ∈ l, fieldOk x = true ∧ x.f2 = false := by
  unfold fieldsOk
  rw [List.all_eq_true]
  simp [Bool.and_eq_true]
theorem tableOk_small {l : List S36} {m : Int} (h : tableOk l m = true) : Small l ∧ l.length ≤ 16 := by
  obtain ⟨h1, h2, h3, h4⟩ := (tableOk_iff l m).1 h
  have h5 := tsize_len l
  exact ⟨⟨by omega, fun x hx => fieldOk_small1 ((fieldsOk_iff l).1 h3 x hx).1⟩, by omega⟩
theorem fitF_pos (x : S36) (l : List S36) (m : Int) (h : one x ≤ m) : fitF (x :: l) m = x :: fitF l (m - one x) := by conv => lhs; unfold fitF; rw [if_pos h]
theorem fitF_neg (x : S36) (l : List S36) (m : Int) (h : ¬ one x ≤ m) : fitF (x :: l) m = [] := by conv => lhs; unfold fitF; rw [if_neg h]
theorem fitF_all (l : List S36) : ∀ m : Int, tsize l ≤ m → fitF l m = l := by
  induction l with
  | nil => intro m _; rfl
  | cons x l ih =>
    intro m h
    unfold tsize at h
    have := tsize_nonneg l
    unfold fitF
    rw [if_pos (by omega), ih _ (by omega)]
theorem fitF_less (l : List S36) : ∀ m : Int, 0 ≤ m → m < tsize l → l ≠ [] ∧ fitF l m = fitF l.dropLast m := by
  induction l with
  | nil => intro m h0 h; simp [tsize] at h; omega
  | cons x l ih =>
    intro m h0 h
    refine ⟨by simp, ?_⟩
    unfold tsize at h
    cases l with
    | nil => simp only [tsize] at h; simp only [List.dropLast_singleton, fitF]; rw [if_neg (by omega)]
    | cons y l =>
      rw [List.dropLast_cons_cons]
      unfold fitF
      by_cases hx : one x ≤ m
      · rw [if_pos hx, if_pos hx, (ih (m - one x) (by omega) (by omega)).2]
      · rw [if_neg hx, if_neg hx]
theorem fitF_size (l : List S36) : ∀ m : Int, 0 ≤ m → tsize (fitF l m) ≤ m := by
  induction l with
  | nil => intro m h; simpa [fitF, tsize] using h
  | cons x l ih =>
    intro m h
    unfold fitF
    by_cases hx : one x ≤ m
    · rw [if_pos hx]; unfold tsize; have := ih (m - one x) (by omega); omega
    · rw [if_neg hx]; simpa [tsize] using h
theorem fitF_take (l : List S36) : ∀ m : Int, fitF l m = l.take (fitF l m).length := by
  induction l with
  | nil => intro m; rfl
  | cons x l ih =>
    intro m
    unfold fitF
    by_cases hx : one x ≤ m
    · rw [if_pos hx, List.length_cons, List.take_succ_cons, ← ih]
    · rw [if_neg hx]; rfl
theorem fitF_len (l : List S36) (m : Int) : (fitF l m).length ≤ l.length := by
  rw [fitF_take l m, List.length_take]; omega
theorem fitF_mem {l : List S36} {m : Int} {x : S36} (h : x ∈ fitF l m) : x ∈ l := by
  rw [fitF_take l m] at h
  exact List.mem_of_mem_take h
theorem fitF_fitF (l : List S36) : ∀ a b : Int, a ≤ b → fitF (fitF l b) a = fitF l a := by
  induction l with
  | nil => intro a b _; rfl
  | cons x l ih =>
    intro a b h
    by_cases hb : one x ≤ b
    · rw [fitF_pos x l b hb]
      by_cases ha : one x ≤ a
      · rw [fitF_pos x _ a ha, fitF_pos x _ a ha, ih _ _ (by omega)]
      · rw [fitF_neg x _ a ha, fitF_neg x _ a ha]
    · rw [fitF_neg x l b hb, fitF_neg x l a (by omega)]
      rfl
theorem fitF_next (l : List S36) : ∀ m : Int, (h : (fitF l m).length < l.length) → m < tsize (fitF l m) + one (l[(fitF l m).length]'h) := by
  induction l with
  | nil => intro m h; simp at h
  | cons x l ih =>
    intro m h
    by_cases hx : one x ≤ m
    · have e : fitF (x :: l) m = x :: fitF l (m - one x) := by conv => lhs; unfold fitF; rw [if_pos hx]
      have h' : (fitF l (m - one x)).length < l.length := by rw [e] at h; simpa using h
      have := ih (m - one x) h'
      simp only [e, List.length_cons, List.getElem_cons_succ, tsize]
      omega
    · have e : fitF (x :: l) m = [] := by conv => lhs; unfold fitF; rw [if_neg hx]
      simp only [e, List.length_nil, List.getElem_cons_zero, tsize]
      omega
theorem fitF_ok {l : List S36} {m : Int} (h0 : 0 ≤ m) (h1 : m ≤ 64) (h : fieldsOk l = true) : tableOk (fitF l m) m = true := by
  rw [tableOk_iff]
  refine ⟨h0, h1, ?_, fitF_size l m h0⟩
  rw [fieldsOk_iff] at h ⊢
  exact fun x hx => h x (fitF_mem hx)
theorem rdT_get (l : List S36) (i : Nat) (h : i < l.length) : rd_T36 l (i : Int) = l[i] := by
  unfold rd_T36
  rw [Int.toNat_natCast, List.getD_eq_getElem?_getD, List.getElem?_eq_getElem h]
  rfl
theorem drop_rd (l : List S36) (i : Nat) (h : i < l.length) : l.drop i = rd_T36 l (i : Int) :: l.drop (i + 1) := by
  rw [rdT_get l i h, List.drop_eq_getElem_cons h]
theorem field_ext {x y : S36} (h0 : x.f0 = y.f0) (h1 : x.f1 = y.f1) (h2 : x.f2 = y.f2) : x = y := by
  cases x; cases y; cases h0; cases h1; cases h2; rfl

theorem l3One_eq (x : S36) (h : Small1 x) : spec_l3One.f x.f0 x.f1 x.f2 = some (one x) := by
  unfold Small1 at h
  unfold spec_l3One.f one
  rw [w64_0 ((x.f0.size : Int) + (x.f1.size : Int)) (by omega) (by omega), w64_0 _ (by omega) (by omega)]
theorem l3Size_l0 (l : List S36) (hl : Small l) (d : Nat) : ∀ (i : Nat) (a : Int), l.length - i = d → i ≤ l.length → 0 ≤ a → a ≤ 8000004 * (i : Int) →
    Ev (fun k => spec_l3Size.l0 k l a i) (a + tsize (l.drop i)) := by
  have hlen := hl.1
  induction d with
  | zero =>
    intro i a hd hi ha ha1
    have e : i = l.length := by omega
    subst e
    refine Ev.step (fun k => by rw [spec_l3Size.l0]) (Ev.neg (by omega) ?_)
    rw [List.drop_length]
    simp only [tsize, Int.add_zero]
    exact Ev.now _
  | succ d ih =>
    intro i a hd hi ha ha1
    have hj : i < l.length := by omega
    have hs : Small1 (rd_T36 l (i : Int)) := by rw [rdT_get l i hj]; exact hl.2 _ (List.getElem_mem hj)
    have h1 := hs.one
    have h2 := one_pos (rd_T36 l (i : Int))
    refine Ev.step (fun k => by rw [spec_l3Size.l0]) (EvQ.ev (EvQ.pos (by omega) (EvQ.pos (by omega) ?_)))
    rw [l3One_eq _ hs]
    simp only [Option.bind_some]
    rw [w64_0 _ (by omega) (by omega), w64_0 _ (by omega) (by omega), show ((i : Int) + 1) = ((i + 1 : Nat) : Int) by omega, drop_rd l i hj]
    refine EvQ.of_ev (ih (i + 1) _ (by omega) (by omega) (by omega) (by omega)) ?_
    simp only [tsize]
    omega
theorem l3Size_ev (l : List S36) (hl : Small l) : Ev (fun k => spec_l3Size.f k l) (tsize l) := by
  unfold spec_l3Size.f
  have h := l3Size_l0 l hl l.length 0 0 (by omega) (by omega) (by omega) (by omega)
  rw [List.drop_zero, Int.zero_add] at h
  exact h
theorem l3Fit_l0 (n : Nat) : ∀ (l l2 : List S36) (m : Int), l.length = n → Small l → 0 ≤ m → Ev (fun k => spec_l3Fit.l0 k l l2 m) (fitF l m, m) := by
  induction n with
  | zero =>
    intro l l2 m hn hl h0
    have e : l = [] := List.eq_nil_of_length_eq_zero hn
    subst e
    refine Ev.step (fun k => by rw [spec_l3Fit.l0]) (EvQ.ev (EvQ.bindE (l3Size_ev [] hl) (EvQ.neg (c := tsize [] > m) (show ¬ (0 : Int) > m by omega) (EvQ.now (Q := fun x => x = (fitF [] m, m)) rfl))))
  | succ n ih =>
    intro l l2 m hn hl h0
    have hlen := hl.1
    refine Ev.step (fun k => by rw [spec_l3Fit.l0]) (EvQ.ev (EvQ.bindE (l3Size_ev l hl) (EvQ.ite (fun h => ?_) (fun h => EvQ.now ?_))))
    · have e1 : wrap64 ((l.length : Int) - 1) = (n : Int) := by rw [w64 _ (by omega) (by omega)]; omega
      simp only [e1]
      refine EvQ.pos (by omega) (EvQ.pos (by omega) ?_)
      obtain ⟨h1, h2⟩ := fitF_less l m h0 (by omega)
      rw [Int.toNat_natCast, h2, List.dropLast_eq_take, hn]
      exact EvQ.of_ev (ih _ l2 m (by simp; omega) (hl.take _) h0) rfl
    · rw [fitF_all l m (by omega)]
theorem l3Fit_ev (l : List S36) (m : Int) (hl : Small l) (h0 : 0 ≤ m) : Ev (fun k => spec_l3Fit.f k l m) (fitF l m, m) := by
  have := hl.1
  unfold spec_l3Fit.f
  simp only [Option.bind_some]
  refine Ev.pos (by simp; omega) ?_
  rw [List.nil_append]
  exact l3Fit_l0 l.length l l m rfl hl h0

theorem in_eq (a b c : Int) : impl_in.f a b c = some (decide (b ≤ a ∧ a ≤ c)) := by
  unfold impl_in.f
  by_cases h : b ≤ a <;> simp [h]
theorem tsz_l0 (l : List S36) (hl : Small l) (d : Nat) : ∀ (i : Nat) (a : Int), l.length - i = d → i ≤ l.length → 0 ≤ a → a ≤ 8000004 * (i : Int) →
    Ev (fun k => impl_Table_size.l0 k a l (l.length : Int) i) (a + tsize (l.drop i)) := by
  have hlen := hl.1
  induction d with
  | zero =>
    intro i a hd hi ha ha1
    have e : i = l.length := by omega
    subst e
    refine Ev.step (fun k => by rw [impl_Table_size.l0]) (Ev.neg (by omega) ?_)
    rw [List.drop_length]
    simp only [tsize, Int.add_zero]
    exact Ev.now _
  | succ d ih =>
    intro i a hd hi ha ha1
    have hj : i < l.length := by omega
    have hs : Small1 (rd_T36 l (i : Int)) := by rw [rdT_get l i hj]; exact hl.2 _ (List.getElem_mem hj)
    have h1 := hs.one
    have h2 := one_pos (rd_T36 l (i : Int))
    have h3 := hs
    unfold Small1 at h3
    refine Ev.step (fun k => by rw [impl_Table_size.l0]) (EvQ.ev (EvQ.pos (by omega) (EvQ.pos (by omega) (EvQ.pos (by omega) ?_))))
    rw [w64_0 (((rd_T36 l (i : Int)).f0.size : Int) + ((rd_T36 l (i : Int)).f1.size : Int)) (by omega) (by omega), w64_0 (((rd_T36 l (i : Int)).f0.size : Int) + ((rd_T36 l (i : Int)).f1.size : Int) + 4) (by omega) (by omega)]
    rw [show ((rd_T36 l (i : Int)).f0.size : Int) + ((rd_T36 l (i : Int)).f1.size : Int) + 4 = one (rd_T36 l (i : Int)) from rfl]
    rw [w64_0 _ (by omega) (by omega), w64_0 _ (by omega) (by omega), show ((i : Int) + 1) = ((i + 1 : Nat) : Int) by omega, drop_rd l i hj]
    refine EvQ.of_ev (ih (i + 1) _ (by omega) (by omega) (by omega) (by omega)) ?_
    simp only [tsize]
    omega
theorem tsz_ev (l : List S36) (m : Int) (hl : Small l) : Ev (fun k => impl_Table_size.f k l m) (tsize l) := by
  unfold impl_Table_size.f
  have h := tsz_l0 l hl l.length 0 0 (by omega) (by omega) (by omega) (by omega)
  rw [List.drop_zero, Int.zero_add] at h
  exact h
theorem toList_ne_nil (a : ByteArray) : (a.toList != ([] : List UInt8)) = decide (a.size ≠ 0) := by
  unfold bne
  rw [toList_nil_iff]
  by_cases h : a.size = 0 <;> simp [h]
theorem impl_FieldOk_ev (x : S36) (h : Small1 x) : Ev (fun k => impl_FieldOk.f k x.f0 x.f1 x.f2) (fieldOk x) := by
  unfold Small1 at h
  unfold impl_FieldOk.f fieldOk
  refine EvQ.ev (EvQ.bindE (impl_WordOk_ev x.f0 (by omega)) ?_)
  refine EvQ.ite (fun h1 => ?_) (fun h1 => EvQ.now (by simp [h1]))
  refine EvQ.bindE (impl_WordOk_ev x.f1 (by omega)) ?_
  refine EvQ.ite (fun h2 => EvQ.now (by rw [h1, h2, toList_ne_nil]; rfl)) (fun h2 => EvQ.now (by simp [h2]))
theorem impl_TableOk_1_ev (x : S36) (h : Small1 x) : Ev (fun k => impl_TableOk_1.f k x.f0 x.f1 x.f2) (!(fieldOk x && !x.f2)) := by
  unfold impl_TableOk_1.f
  refine EvQ.ev (EvQ.bindE (impl_FieldOk_ev x h) ?_)
  refine EvQ.ite (fun h1 => EvQ.now (by simp [h1])) (fun h1 => EvQ.now (by simp [h1]))
/-- The first place from i on at which p says yes; -1, if there is none. -/
def firstAt (p : S36 → Bool) : List S36 → Int → Int
  | [], _ => -1
  | x :: l, i => if p x then i else firstAt p l (i + 1)
theorem firstAt_any (p : S36 → Bool) (l : List S36) : ∀ i : Int, 0 ≤ i → decide (0 ≤ firstAt p l i) = l.any p := by
  induction l with
  | nil => intro i _; rfl
  | cons x l ih =>
    intro i hi
    unfold firstAt
    by_cases h : p x = true
    · rw [if_pos h, List.any_cons, h]; simpa using hi
    · rw [if_neg h, List.any_cons, ih _ (by omega)]; simp [h]
theorem idxFrom_ev (p : Nat → S36 → Option Bool) (q : S36 → Bool) (l : List S36) (h : ∀ x ∈ l, Ev (fun k => p k x) (q x)) : ∀ i : Int, Ev (fun k => idxFrom (p k) l i) (firstAt q l i) := by
  induction l with
  | nil => intro i; unfold idxFrom firstAt; exact Ev.now _
  | cons x l ih =>
    intro i
    unfold idxFrom firstAt
    refine EvQ.ev (EvQ.bindE (h x List.mem_cons_self) (EvQ.ite (fun h1 => EvQ.now (by rw [if_pos h1])) (fun h1 => ?_)))
    rw [if_neg h1]
    exact EvQ.of_ev (ih (fun y hy => h y (List.mem_cons_of_mem _ hy)) (i + 1)) rfl
theorem contains_ev (g : Nat) (q : S36 → Bool) (l : List S36) (hk : ContainsFunc_Field.known g) (hl : l.length ≤ 1000000000) (h : ∀ x ∈ l, Ev (fun k => ContainsFunc_Field.p k g x) (q x)) :
    Ev (fun k => ContainsFunc_Field.f k l g) (l.any q) := by
  unfold ContainsFunc_Field.f
  refine Ev.pos ⟨hl, hk⟩ (EvQ.ev (EvQ.bindE (idxFrom_ev (fun k => ContainsFunc_Field.p k g) q l h 0) (EvQ.now (firstAt_any q l 0 (by omega)))))
theorem any_not_all (p : S36 → Bool) (l : List S36) : l.any (fun x => !p x) = !l.all p := by
  induction l with
  | nil => rfl
  | cons x l ih => rw [List.any_cons, List.all_cons, ih]; cases p x <;> rfl
theorem impl_TableOk_ev (l : List S36) (m : Int) (hl : Small l) : Ev (fun k => impl_TableOk.f k l m) (tableOk l m) := by
  have hlen := hl.1
  unfold impl_TableOk.f tableOk
  rw [in_eq]
  simp only [Option.bind_some]
  refine EvQ.ev (EvQ.ite (fun h1 => ?_) (fun h1 => EvQ.now (by rw [decide_eq_false (fun h => h1 (decide_eq_true h))]; rfl)))
  have hc := contains_ev 54 (fun x => !(fieldOk x && !x.f2)) l (by unfold ContainsFunc_Field.known; simp) (by omega) (fun x hx => by
    have := impl_TableOk_1_ev x (hl.2 x hx)
    unfold ContainsFunc_Field.p
    simpa using this)
  rw [any_not_all (fun x => fieldOk x && !x.f2)] at hc
  refine EvQ.bindE hc (EvQ.ite (fun h2 => EvQ.now ?_) (fun h2 => EvQ.bindE (tsz_ev l m hl) (EvQ.now ?_)))
  · rw [h1]
    have h3 : fieldsOk l = false := by unfold fieldsOk; simpa using h2
    rw [h3]; rfl
  · rw [h1]
    have h3 : fieldsOk l = true := by unfold fieldsOk; simpa using h2
    rw [h3]; rfl
theorem clone_eq (l : List S36) (m : Int) (hl : Small l) : impl_Table_clone.f l m = some (l, m) := by
  have := hl.1
  unfold impl_Table_clone.f impl_cloneFields.f
  rw [if_pos (by omega)]
  rfl
theorem fit_l0 (n : Nat) : ∀ (l : List S36) (m : Int), l.length = n → Small l → 0 ≤ m → Ev (fun k => impl_Table_fit.l0 k l m) (fitF l m, m) := by
  induction n with
  | zero =>
    intro l m hn hl h0
    have e : l = [] := List.eq_nil_of_length_eq_zero hn
    subst e
    refine Ev.step (fun k => by rw [impl_Table_fit.l0]) (EvQ.ev (EvQ.bindE (tsz_ev [] m hl) (EvQ.neg (c := tsize [] > m) (show ¬ (0 : Int) > m by omega) ?_)))
    rw [clone_eq [] m hl]
    exact EvQ.now rfl
  | succ n ih =>
    intro l m hn hl h0
    have hlen := hl.1
    refine Ev.step (fun k => by rw [impl_Table_fit.l0]) (EvQ.ev (EvQ.bindE (tsz_ev l m hl) (EvQ.ite (fun h => ?_) (fun h => ?_))))
    · have e1 : wrap64 ((l.length : Int) - 1) = (n : Int) := by rw [w64 _ (by omega) (by omega)]; omega
      simp only [e1]
      refine EvQ.pos (by omega) (EvQ.pos (by omega) ?_)
      obtain ⟨h1, h2⟩ := fitF_less l m h0 (by omega)
      rw [Int.toNat_natCast, h2, List.dropLast_eq_take, hn]
      exact EvQ.of_ev (ih _ m (by simp; omega) (hl.take _) h0) rfl
    · rw [clone_eq l m hl, fitF_all l m (by omega)]
      exact EvQ.now rfl
theorem fit_ev (l : List S36) (m : Int) (hl : Small l) (h0 : 0 ≤ m) : Ev (fun k => impl_Table_fit.f k l m) (fitF l m, m) := by
  unfold impl_Table_fit.f
  rw [clone_eq l m hl]
  simp only [Option.bind_some]
  exact fit_l0 l.length l m rfl hl h0

theorem l6In_eq (a b c : Int) : spec_l6In.f a b c = some (decide (b ≤ a ∧ a ≤ c)) := by
  unfold spec_l6In.f
  by_cases h : a ≥ b
  · rw [if_pos h]; simp only [show b ≤ a from h, true_and]
  · rw [if_neg h]; simp only [show ¬ b ≤ a from h, false_and, decide_false]
theorem spec_FieldOk_ev (x : S36) (h : Small1 x) : Ev (fun k => spec_FieldOk.f k x.f0 x.f1 x.f2) (fieldOk x) := by
  unfold Small1 at h
  unfold spec_FieldOk.f fieldOk
  refine EvQ.ev (EvQ.bindE (spec_WordOk_ev x.f0 (by omega)) ?_)
  refine EvQ.ite (fun h1 => ?_) (fun h1 => EvQ.now (by simp [h1]))
  have e := toList_nil_iff x.f0
  refine EvQ.ite (fun h2 => EvQ.now ?_) (fun h2 => EvQ.bindE (spec_WordOk_ev x.f1 (by omega)) (EvQ.now ?_))
  · rw [h2] at e
    have : x.f0.size = 0 := by simpa using e
    simp [this]
  · have : ¬ x.f0.size = 0 := by
      intro h3
      rw [decide_eq_true h3] at e
      exact h2 (by simpa using e)
    rw [h1]
    simp [this]
theorem spec_TableOk_l0 (l : List S36) (m : Int) (hl : Small l) (d : Nat) : ∀ i : Nat, l.length - i = d → i ≤ l.length →
    Ev (fun k => spec_TableOk.l0 k i l m) (fieldsOk (l.drop i) && decide (0 ≤ m ∧ m ≤ 64) && decide (tsize l ≤ m)) := by
  have hlen := hl.1
  induction d with
  | zero =>
    intro i hd hi
    have e : i = l.length := by omega
    subst e
    refine Ev.step (fun k => by rw [spec_TableOk.l0]) (Ev.neg (by omega) ?_)
    rw [l6In_eq, List.drop_length]
    simp only [Option.bind_some]
    refine EvQ.ev (EvQ.ite (fun h1 => EvQ.bindE (l3Size_ev l hl) (EvQ.now ?_)) (fun h1 => EvQ.now ?_))
    · rw [h1]; rfl
    · rw [decide_eq_false (fun h => h1 (decide_eq_true h))]; simp
  | succ d ih =>
    intro i hd hi
    have hj : i < l.length := by omega
    have hs : Small1 (rd_T36 l (i : Int)) := by rw [rdT_get l i hj]; exact hl.2 _ (List.getElem_mem hj)
    refine Ev.step (fun k => by rw [spec_TableOk.l0]) (EvQ.ev (EvQ.pos (by omega) (EvQ.pos (by omega) (EvQ.bindE (spec_FieldOk_ev _ hs) ?_))))
    have e : fieldsOk (l.drop i) = ((fieldOk (rd_T36 l (i : Int)) && !(rd_T36 l (i : Int)).f2) && fieldsOk (l.drop (i + 1))) := by rw [drop_rd l i hj]; rfl
    rw [e]
    refine EvQ.ite (fun h1 => EvQ.ite (fun h2 => EvQ.now (by simp [h2])) (fun h2 => ?_)) (fun h1 => EvQ.now (by simp [h1]))
    rw [w64_0 _ (by omega) (by omega), show ((i : Int) + 1) = ((i + 1 : Nat) : Int) by omega]
    refine EvQ.of_ev (ih (i + 1) (by omega) (by omega)) ?_
    have h3 : (rd_T36 l (i : Int)).f2 = false := by simpa using h2
    rw [h1, h3]; rfl
theorem spec_TableOk_ev (l : List S36) (m : Int) (hl : Small l) : Ev (fun k => spec_TableOk.f k l m) (tableOk l m) := by
  unfold spec_TableOk.f
  have h := spec_TableOk_l0 l m hl l.length 0 (by omega) (by omega)
  have e : tableOk l m = (fieldsOk (l.drop 0) && decide (0 ≤ m ∧ m ≤ 64) && decide (tsize l ≤ m)) := by
    unfold tableOk
    rw [List.drop_zero, Bool.and_comm (decide (0 ≤ m ∧ m ≤ 64))]
  rw [e]
  exact h

theorem lkFields_l0 (l r : List S36) (hlen : l.length ≤ 4000000) (he : l.length = r.length) (d : Nat) : ∀ i : Nat, l.length - i = d → i ≤ l.length →
    EvQ (fun k => laws_lkFields.l0 k l r i) (fun b => b = true ↔ l.drop i = r.drop i) := by
  induction d with
  | zero =>
    intro i hd hi
    have e : i = l.length := by omega
    subst e
    refine EvQ.step (fun k => by rw [laws_lkFields.l0]) (EvQ.neg (by omega) (EvQ.now ?_))
    rw [List.drop_length, he, List.drop_length]
    simp
  | succ d ih =>
    intro i hd hi
    have hj : i < l.length := by omega
    refine EvQ.step (fun k => by rw [laws_lkFields.l0]) (EvQ.pos (by omega) (EvQ.pos (by omega) (EvQ.pos (by omega) ?_)))
    rw [drop_rd l i hj, drop_rd r i (by omega)]
    generalize rd_T36 l (i : Int) = x
    generalize rd_T36 r (i : Int) = y
    refine EvQ.ite (fun h1 => EvQ.now ?_) (fun h1 => ?_)
    · refine ⟨(fun h => by cases h), fun h => ?_⟩
      exfalso
      obtain ⟨rfl, _⟩ := List.cons.inj h
      simp at h1
    · have hxy : x = y := by
        simp only [Bool.or_eq_true, Bool.not_eq_true', beq_eq_false_iff_ne, ne_eq, not_or, Decidable.not_not, toList_inj] at h1
        exact field_ext h1.1 h1.2.1 h1.2.2
      subst hxy
      rw [w64_0 _ (by omega) (by omega), show ((i : Int) + 1) = ((i + 1 : Nat) : Int) by omega]
      refine (ih (i + 1) (by omega) (by omega)).mono fun b hb => ?_
      rw [hb]
      simp
theorem lkFields_ev (l r : List S36) (hlen : l.length ≤ 4000000) : EvQ (fun k => laws_lkFields.f k l r) (fun b => b = true ↔ l = r) := by
  unfold laws_lkFields.f
  refine EvQ.ite (fun h => ?_) (fun h => EvQ.now ⟨(fun h1 => by cases h1), fun h1 => absurd (by rw [h1]) h⟩)
  have h1 := lkFields_l0 l r hlen (by omega) l.length 0 (by omega) (by omega)
  exact h1
theorem lkFields_same (l : List S36) (hlen : l.length ≤ 4000000) : Ev (fun k => laws_lkFields.f k l l) true := EvQ.ev ((lkFields_ev l l hlen).mono fun b hb => hb.2 rfl)
theorem lkTable_same (l : List S36) (m : Int) (hlen : l.length ≤ 4000000) : Ev (fun k => laws_lkTable.f k l m l m) true := by
  unfold laws_lkTable.f
  exact Ev.pos rfl (EvQ.ev (EvQ.bindE (lkFields_same l hlen) (EvQ.now rfl)))

theorem of_ev (m : List Int) (p : Int) (xs : List ByteArray) (hm : Bytes m) (hm1 : m.length ≤ 2000) (hp : 0 ≤ p) (hp1 : p ≤ 1000000000) (hx : 1 ≤ xs.length) :
    EvQ (fun k => spec_l6Rd_of.f k m p xs) (fun r => r.1 ∈ xs ∧ r.2 = p + 1) := by
  unfold spec_l6Rd_of.f
  refine EvQ.bind (pick_ev m p (xs.length : Int) hm hm1 hp hp1 (by omega)) ?_
  rintro ⟨c, q⟩ ⟨hc, hc1, rfl⟩
  dsimp only at *
  refine EvQ.pos hc (EvQ.pos hc1 (EvQ.now ⟨?_, rfl⟩))
  unfold rdOf
  rw [List.getD_eq_getElem?_getD, List.getElem?_eq_getElem (by omega : c.toNat < xs.length)]
  exact List.getElem_mem _
theorem of_small (m : List Int) (p : Int) (xs : List ByteArray) (hm : Bytes m) (hm1 : m.length ≤ 2000) (hp : 0 ≤ p) (hp1 : p ≤ 1000000000) (hx : 1 ≤ xs.length) (hs : ∀ x ∈ xs, x.size ≤ 18) :
    EvQ (fun k => spec_l6Rd_of.f k m p xs) (fun r => r.1.size ≤ 18 ∧ r.2 = p + 1) := (of_ev m p xs hm hm1 hp hp1 hx).mono fun r h => ⟨hs _ h.1, h.2⟩
theorem l71Field_ev (m : List Int) (p : Int) (hm : Bytes m) (hm1 : m.length ≤ 2000) (hp : 0 ≤ p) (hp1 : p ≤ 700000000) :
    EvQ (fun k => spec_l71Field.f k m p) (fun r => r.1.size ≤ 18 ∧ r.2.1.size ≤ 18 ∧ p ≤ r.2.2.2 ∧ r.2.2.2 ≤ p + 70) := by
  unfold spec_l71Field.f
  refine EvQ.bind (of_small m p _ hm hm1 hp (by omega) (by simp) (by decide)) ?_
  rintro ⟨a, q⟩ ⟨ha, rfl⟩
  dsimp only at *
  refine EvQ.bind (of_small m _ _ hm hm1 (by omega) (by omega) (by simp) (by decide)) ?_
  rintro ⟨b, q⟩ ⟨hb, rfl⟩
  dsimp only at *
  refine EvQ.bind (pick_ev m _ 8 hm hm1 (by omega) (by omega) (by omega)) ?_
  rintro ⟨c, q⟩ ⟨hc, hc1, rfl⟩
  dsimp only at *
  refine EvQ.bind (pick_ev m _ 24 hm hm1 (by omega) (by omega) (by omega)) ?_
  rintro ⟨d, q⟩ ⟨hd, hd1, rfl⟩
  dsimp only at *
  refine EvQ.ite (fun h => ?_) (fun h => EvQ.ite (fun h => ?_) (fun h => EvQ.now ⟨ha, hb, by dsimp only; omega, by dsimp only; omega⟩))
  · refine EvQ.bind (of_small m _ _ hm hm1 (by omega) (by omega) (by simp) (by decide)) ?_
    rintro ⟨e, q⟩ ⟨he, rfl⟩
    exact EvQ.now ⟨he, hb, by dsimp only; omega, by dsimp only; omega⟩
  · refine EvQ.bind (l71Word_ev m _ hm hm1 (by omega) (by omega)) ?_
    rintro ⟨e, q⟩ ⟨he, h1, h2⟩
    dsimp only at *
    exact EvQ.now ⟨ha, he, by dsimp only; omega, by dsimp only; omega⟩
theorem l3Add_ev (l : List S36) (m : Int) (x : S36) (hl : Small (x :: l)) (h0 : 0 ≤ m) : Ev (fun k => spec_l3Add.f k l m x.f0 x.f1 x.f2) (fitF ((⟨x.f0, x.f1, false⟩ : S36) :: l) m, m) := by
  have hs : Small ((⟨x.f0, x.f1, false⟩ : S36) :: l) := ⟨hl.1, fun y hy => by
    rcases List.mem_cons.1 hy with h | h
    · subst h; exact hl.head
    · exact hl.2 y (List.mem_cons_of_mem _ h)⟩
  have hlen := hl.1
  simp only [List.length_cons] at hlen
  unfold spec_l3Add.f
  simp only [Option.bind_some]
  refine Ev.pos (by simp only [List.length_singleton]; omega) ?_
  exact EvQ.ev (EvQ.bindE (l3Fit_ev _ m hs h0) (EvQ.now rfl))
/-- Fields that are no longer than drawn ones are. -/
def Drawn (l : List S36) : Prop := ∀ x ∈ l, x.f0.size ≤ 18 ∧ x.f1.size ≤ 18
theorem Drawn.small {l : List S36} (h : Drawn l) (hl : l.length ≤ 4000000) : Small l := ⟨hl, fun x hx => by have := h x hx; unfold Small1; omega⟩
theorem l71Table_l0 (m : List Int) (hm : Bytes m) (hm1 : m.length ≤ 2000) (n : Nat) : ∀ (p : Int) (l : List S36) (mx : Int), 0 ≤ p → p + 100 * n ≤ 600000000 → Drawn l → l.length + n ≤ 100 → 0 ≤ mx → mx ≤ 64 →
    EvQ (fun k => spec_l71Table.l0 k n m p l mx) (fun r => Drawn r.1 ∧ r.1.length ≤ 103 ∧ -1 ≤ r.2.1 ∧ r.2.1 ≤ 65 ∧ p ≤ r.2.2 ∧ r.2.2 ≤ p + 100 * n + 300) := by
  induction n with
  | zero =>
    intro p l mx hp hp1 hd hl h0 h1
    refine EvQ.step (fun k => by rw [spec_l71Table.l0]) (EvQ.neg (by omega) (EvQ.bind (pick_ev m p 24 hm hm1 hp (by omega) (by omega)) ?_))
    rintro ⟨a, q⟩ ⟨ha, ha1, rfl⟩
    dsimp only at *
    refine EvQ.ite (fun h => ?_) (fun h => EvQ.ite (fun h => ?_) (fun h => EvQ.now ⟨hd, by dsimp only; omega, by dsimp only; omega, by dsimp only; omega, by dsimp only; omega, by dsimp only; omega⟩))
    · simp only [Option.bind_some]
      refine EvQ.bind (pick_ev m _ 3 hm hm1 (by omega) (by omega) (by omega)) ?_
      rintro ⟨b, q⟩ ⟨hb, hb1, rfl⟩
      dsimp only at *
      refine EvQ.pos hb (EvQ.pos (by simpa using hb1) (EvQ.now ?_))
      have hr : -1 ≤ rd ([(-1), 65, 3] : List Int) b ∧ rd ([(-1), 65, 3] : List Int) b ≤ 65 := by
        obtain ⟨c, rfl⟩ := Int.eq_ofNat_of_zero_le hb
        have hc : c = 0 ∨ c = 1 ∨ c = 2 := by omega
        rcases hc with rfl | rfl | rfl <;> decide
      exact ⟨hd, by dsimp only; omega, hr.1, hr.2, by dsimp only; omega, by dsimp only; omega⟩
    · refine EvQ.bind (l71Field_ev m _ hm hm1 (by omega) (by omega)) ?_
      rintro ⟨a0, a1, a2, q0⟩ ⟨b0, b1, b2, b3⟩
      dsimp only at *
      refine EvQ.bind (l71Field_ev m _ hm hm1 (by omega) (by omega)) ?_
      rintro ⟨c0, c1, c2, q1⟩ ⟨d0, d1, d2, d3⟩
      dsimp only at *
      refine EvQ.bind (l71Field_ev m _ hm hm1 (by omega) (by omega)) ?_
      rintro ⟨e0, e1, e2, q2⟩ ⟨f0, f1, f2, f3⟩
      dsimp only at *
      simp only [Option.bind_some]
      refine EvQ.pos (by simp only [List.length_cons, List.length_nil]; omega) (EvQ.now ⟨?_, ?_, ?_, ?_, ?_, ?_⟩)
      · intro x hx
        rcases List.mem_append.1 hx with h | h
        · exact hd x h
        · simp only [List.mem_cons, List.not_mem_nil, or_false] at h
          rcases h with rfl | rfl | rfl <;> exact ⟨by assumption, by assumption⟩
      · simp only [List.length_append, List.length_cons, List.length_nil]; omega
      · dsimp only; omega
      · dsimp only; omega
      · dsimp only; omega
      · dsimp only; omega
  | succ n ih =>
    intro p l mx hp hp1 hd hl h0 h1
    have e1 : wrap64 (((n + 1 : Nat) : Int) - 1) = (n : Int) := by rw [w64_0 _ (by omega) (by omega)]; omega
    refine EvQ.step (fun k => by rw [spec_l71Table.l0]) ?_
    simp only [e1]
    refine EvQ.pos (by omega) (EvQ.bind (l71Field_ev m p hm hm1 hp (by omega)) ?_)
    rintro ⟨a0, a1, a2, q0⟩ ⟨b0, b1, b2, b3⟩
    dsimp only at *
    have hs : Small1 (⟨a0, a1, a2⟩ : S36) := by unfold Small1; dsimp only; omega
    have hsl : Small ((⟨a0, a1, a2⟩ : S36) :: l) := ⟨by simp only [List.length_cons]; omega, fun y hy => by
      rcases List.mem_cons.1 hy with h | h
      · subst h; exact hs
      · have := hd y h; unfold Small1; omega⟩
    refine EvQ.bindE (spec_FieldOk_ev (⟨a0, a1, a2⟩ : S36) hs) (EvQ.ite (fun h => ?_) (fun h => ?_))
    · refine EvQ.bindE (l3Add_ev l mx (⟨a0, a1, a2⟩ : S36) hsl h0) ?_
      have hlen := fitF_len ((⟨a0, a1, false⟩ : S36) :: l) mx
      simp only [List.length_cons] at hlen
      refine (ih q0 _ mx (by omega) (by omega) (fun x hx => ?_) (by dsimp only; omega) h0 h1).mono ?_
      · rcases List.mem_cons.1 (fitF_mem hx) with h | h
        · subst h; exact ⟨b0, b1⟩
        · exact hd x h
      · rintro ⟨r0, r1, r2⟩ ⟨g0, g1, g2, g3, g4, g5⟩
        dsimp only at *
        exact ⟨g0, g1, g2, g3, by omega, by omega⟩
    · refine (ih q0 l mx (by omega) (by omega) hd (by omega) h0 h1).mono ?_
      rintro ⟨r0, r1, r2⟩ ⟨g0, g1, g2, g3, g4, g5⟩
      dsimp only at *
      exact ⟨g0, g1, g2, g3, by omega, by omega⟩
theorem l71Table_ev (m : List Int) (p : Int) (hm : Bytes m) (hm1 : m.length ≤ 2000) (hp : 0 ≤ p) (hp1 : p ≤ 500000000) :
    EvQ (fun k => spec_l71Table.f k m p) (fun r => Drawn r.1 ∧ r.1.length ≤ 103 ∧ -1 ≤ r.2.1 ∧ r.2.1 ≤ 65 ∧ p ≤ r.2.2 ∧ r.2.2 ≤ p + 1000) := by
  unfold spec_l71Table.f
  simp only [Option.bind_some]
  refine EvQ.bind (pick_ev m p 5 hm hm1 hp (by omega) (by omega)) ?_
  rintro ⟨a, q⟩ ⟨ha, ha1, rfl⟩
  dsimp only at *
  refine EvQ.pos ha (EvQ.pos (by simpa using ha1) (EvQ.bind (pick_ev m _ 7 hm hm1 (by omega) (by omega) (by omega)) ?_))
  rintro ⟨b, q⟩ ⟨hb, hb1, rfl⟩
  dsimp only at *
  have hr : 0 ≤ rd ([64, 64, 40, 20, 0] : List Int) a ∧ rd ([64, 64, 40, 20, 0] : List Int) a ≤ 64 := by
    obtain ⟨c, rfl⟩ := Int.eq_ofNat_of_zero_le ha
    have hc : c = 0 ∨ c = 1 ∨ c = 2 ∨ c = 3 ∨ c = 4 := by omega
    rcases hc with rfl | rfl | rfl | rfl | rfl <;> decide
  obtain ⟨n, rfl⟩ := Int.eq_ofNat_of_zero_le hb
  refine (l71Table_l0 m hm hm1 n (p + 1 + 1) [] _ (by omega) (by omega) (fun x hx => by cases hx) (by simp; omega) hr.1 hr.2).mono ?_
  rintro ⟨r0, r1, r2⟩ ⟨g0, g1, g2, g3, g4, g5⟩
  dsimp only at *
  exact ⟨g0, g1, g2, g3, by omega, by omega⟩
theorem pk1 : True := trivial

/-- The field as a table keeps it. -/
def keep (x : S36) : S36 := ⟨x.f0, x.f1, false⟩
/-- What a table comes to, to which a field is added. -/
def tadd (l : List S36) (m : Int) (x : S36) : List S36 × Int := if tableOk l m = true ∧ fieldOk x = true then (fitF (keep x :: l) m, m) else ([], 0)
theorem keep_one (x : S36) : one (keep x) = one x := rfl
theorem keep_ok (x : S36) : fieldOk (keep x) = fieldOk x := rfl
theorem small_cons {x : S36} {l : List S36} (h : Small1 x) (hl : Small l) (hn : l.length ≤ 3999999) : Small (x :: l) := ⟨by simp only [List.length_cons]; omega, fun y hy => by
  rcases List.mem_cons.1 hy with h1 | h1
  · subst h1; exact h
  · exact hl.2 y h1⟩
theorem impl_add_ev (l : List S36) (m : Int) (x : S36) (hl : Small (x :: l)) (h0 : 0 ≤ m) : Ev (fun k => impl_Table_add.f k l m x.f0 x.f1 x.f2) (fitF (x :: l) m, m) := by
  have hlen := hl.1
  simp only [List.length_cons] at hlen
  unfold impl_Table_add.f Concat_Field.f
  have e : ([[(⟨x.f0, x.f1, x.f2⟩ : S36)], l] : List (List S36)).flatten = x :: l := by simp
  rw [e, if_pos ⟨by simp only [List.length_cons]; omega, by simp only [List.length_cons, List.length_nil]; omega⟩]
  simp only [Option.bind_some]
  exact EvQ.ev (EvQ.bindE (fit_ev _ m hl h0) (EvQ.now rfl))
theorem fieldsOk_cons {l : List S36} {x : S36} (h : fieldOk x = true) (hl : fieldsOk l = true) : fieldsOk (keep x :: l) = true := by
  rw [fieldsOk_iff] at hl ⊢
  intro y hy
  rcases List.mem_cons.1 hy with h1 | h1
  · subst h1; exact ⟨h, rfl⟩
  · exact hl y h1
theorem tadd_small {l : List S36} (m : Int) {x : S36} (hl : Small l) (hn : l.length ≤ 3999999) (hx : Small1 x) : Small (tadd l m x).1 ∧ (tadd l m x).1.length ≤ l.length + 1 := by
  unfold tadd
  have h := fitF_len (keep x :: l) m
  simp only [List.length_cons] at h
  split
  · exact ⟨(small_cons (x := keep x) hx hl hn).sub (fitF_len _ _) (fun y hy => fitF_mem hy), h⟩
  · exact ⟨Small.nil, by simp⟩
theorem tadd_eq {l : List S36} {m : Int} {x : S36} (h1 : tableOk l m = true) (h2 : fieldOk x = true) : tadd l m x = (fitF (keep x :: l) m, m) := by unfold tadd; rw [if_pos ⟨h1, h2⟩]
theorem tadd_ok {l : List S36} {m : Int} {x : S36} (h1 : tableOk l m = true) (h2 : fieldOk x = true) : tableOk (fitF (keep x :: l) m) m = true := by
  obtain ⟨a, b, c, d⟩ := (tableOk_iff l m).1 h1
  exact fitF_ok a b (fieldsOk_cons h2 c)

/-- The fields of each table. -/
def fixedL : List S36 := [(⟨(⟨#[58, 112, 97, 116, 104]⟩ : ByteArray), (⟨#[]⟩ : ByteArray), false⟩ : S36), (⟨(⟨#[58, 115, 116, 97, 116, 117, 115]⟩ : ByteArray), (⟨#[48]⟩ : ByteArray), false⟩ : S36), (⟨(⟨#[58, 115, 116, 97, 116, 117, 115]⟩ : ByteArray), (⟨#[49, 50]⟩ : ByteArray), false⟩ : S36), (⟨(⟨#[107, 105, 110, 100]⟩ : ByteArray), (⟨#[116, 101, 120, 116]⟩ : ByteArray), false⟩ : S36), (⟨(⟨#[115, 105, 122, 101]⟩ : ByteArray), (⟨#[]⟩ : ByteArray), false⟩ : S36), (⟨(⟨#[116, 101]⟩ : ByteArray), (⟨#[116, 114, 97, 105, 108, 101, 114, 115]⟩ : ByteArray), false⟩ : S36)]
theorem fixedL_len : fixedL.length = 6 := rfl
theorem fixed_eq : impl_TableFixed.f = some fixedL := rfl
def same2 (a b : ByteArray) (x : S36) : Bool := x.f0.toList == a.toList && x.f1.toList == b.toList
def same1 (a : ByteArray) (x : S36) : Bool := x.f0.toList == a.toList
theorem same2_iff (a b : ByteArray) (x : S36) : same2 a b x = true ↔ x.f0 = a ∧ x.f1 = b := by
  unfold same2
  simp only [Bool.and_eq_true, beq_iff_eq, toList_inj]
theorem same1_iff (a : ByteArray) (x : S36) : same1 a x = true ↔ x.f0 = a := by
  unfold same1
  simp only [beq_iff_eq, toList_inj]
theorem idx_total (q : S36 → Bool) (l : List S36) : ∀ i : Int, idxFrom (fun x => some (q x)) l i = some (firstAt q l i) := by
  induction l with
  | nil => intro i; rfl
  | cons x l ih =>
    intro i
    unfold idxFrom firstAt
    simp only [Option.bind_some]
    by_cases h : q x = true
    · rw [if_pos h, if_pos h]
    · rw [if_neg h, if_neg h, ih]
theorem firstAt_range (q : S36 → Bool) (l : List S36) : ∀ i : Int, 0 ≤ i → -1 ≤ firstAt q l i ∧ firstAt q l i < i + l.length ∧ (0 ≤ firstAt q l i → i ≤ firstAt q l i) := by
  induction l with
  | nil => intro i hi; unfold firstAt; simp; omega
  | cons x l ih =>
    intro i hi
    unfold firstAt
    by_cases h : q x = true
    · rw [if_pos h]; simp only [List.length_cons]; omega
    · rw [if_neg h]
      obtain ⟨h1, h2, h3⟩ := ih (i + 1) (by omega)
      simp only [List.length_cons]
      refine ⟨h1, by omega, fun h4 => ?_⟩
      have := h3 h4
      omega
theorem firstAt_le (q : S36 → Bool) (l : List S36) (x : S36) (h : q x = true) : ∀ (r : List S36) (i : Int), firstAt q (l ++ x :: r) i ≤ i + l.length ∧ (0 ≤ i → 0 ≤ firstAt q (l ++ x :: r) i) := by
  induction l with
  | nil => intro r i; rw [List.nil_append]; unfold firstAt; rw [if_pos h]; simp
  | cons y l ih =>
    intro r i
    rw [List.cons_append]
    unfold firstAt
    by_cases hy : q y = true
    · rw [if_pos hy]; simp only [List.length_cons]; omega
    · rw [if_neg hy]
      obtain ⟨h1, h2⟩ := ih r (i + 1)
      simp only [List.length_cons]
      exact ⟨by omega, fun h3 => h2 (by omega)⟩
/-- The first place of a field, or of its name. -/
def tfind (l : List S36) (a b : ByteArray) : Int × Bool :=
  if 0 ≤ firstAt (same2 a b) (fixedL ++ l) 0 then (firstAt (same2 a b) (fixedL ++ l) 0 + 1, true) else (firstAt (same1 a) (fixedL ++ l) 0 + 1, false)
theorem impl_find_eq (l : List S36) (m : Int) (a b : ByteArray) (c : Bool) (hl : l.length ≤ 4000000) : impl_Table_find.f l m a b c = some (tfind l a b) := by
  have hall : impl_Table_all.f l m = some (fixedL ++ l) := by
    unfold impl_Table_all.f
    rw [fixed_eq]
    simp only [Option.bind_some]
    unfold Concat_Field.f
    have e : ([fixedL, l] : List (List S36)).flatten = fixedL ++ l := by simp
    rw [e, if_pos ⟨by rw [List.length_append, fixedL_len]; omega, by simp only [List.length_cons, List.length_nil]; omega⟩]
    rfl
  unfold impl_Table_find.f tfind
  rw [hall]
  simp only [Option.bind_some]
  have hlen : (fixedL ++ l).length ≤ 1000000000 := by rw [List.length_append, fixedL_len]; omega
  rw [if_pos hlen]
  have h2 := idx_total (same2 a b) (fixedL ++ l) 0
  have h1 := idx_total (same1 a) (fixedL ++ l) 0
  have r2 := firstAt_range (same2 a b) (fixedL ++ l) 0 (by omega)
  have r1 := firstAt_range (same1 a) (fixedL ++ l) 0 (by omega)
  unfold same2 at h2 r2 ⊢
  unfold same1 at h1 r1 ⊢
  rw [h2]
  simp only [Option.bind_some]
  by_cases h : firstAt (fun x => x.f0.toList == a.toList && x.f1.toList == b.toList) (fixedL ++ l) 0 ≥ 0
  · rw [if_pos h, if_pos h, w64 _ (by omega) (by omega)]
  · rw [if_neg h, if_neg h, h1]
    simp only [Option.bind_some]
    rw [w64 _ (by omega) (by omega)]

theorem wrB_small {a : ByteArray} (hp : packOk a) : (wrB a).size ≤ 17 := by
  have h14 := packB_small hp
  have h16 := hp.1
  unfold wrB; split <;> (rw [ba_size_append, son_size]; simp only [List.length_cons, List.length_nil]; omega)

theorem head_size1 (c : Int) (a : ByteArray) : (strOfNums [c] ++ a).size = 1 + a.size := by rw [ba_size_append, son_size]; simp
theorem ba_assoc' (a b c : ByteArray) : a ++ b ++ c = a ++ (b ++ c) := by apply ba_ext; simp
/-- A place in bytes, with so many bits. -/
def numB (c bits : Int) : ByteArray := if bits = 4 then (if c < 15 then strOfNums [16 + c] else strOfNums [31, c - 15]) else if bits = 6 then strOfNums [64 + c] else strOfNums [128 + c]
def namedB (x : S36) (p bits : Int) : ByteArray := numB p bits ++ (if p = 0 then wrB x.f0 else ⟨#[]⟩) ++ wrB x.f1
/-- A field in bytes by a table, and the table behind it. -/
def hw1 (l : List S36) (m : Int) (x : S36) : List S36 × ByteArray :=
  if x.f2 = true then (l, namedB x (tfind l x.f0 x.f1).1 4)
  else if (tfind l x.f0 x.f1).2 = true then (l, numB (tfind l x.f0 x.f1).1 7)
  else (fitF (keep x :: l) m, namedB x (tfind l x.f0 x.f1).1 6)
def hwL : List S36 → Int → List S36 → List S36 × ByteArray
  | l, _, [] => (l, ⟨#[]⟩)
  | l, m, x :: h => ((hwL (hw1 l m x).1 m h).1, (hw1 l m x).2 ++ (hwL (hw1 l m x).1 m h).2)
def headOk (h : List S36) : Bool := h.all fieldOk && decide (h.length ≤ 6)
def hw (l : List S36) (m : Int) (h : List S36) : List S36 × Int × ByteArray := if tableOk l m = true ∧ headOk h = true then ((hwL l m h).1, m, (hwL l m h).2) else ([], 0, ⟨#[]⟩)
theorem headOk_iff (h : List S36) : headOk h = true ↔ (∀ x ∈ h, fieldOk x = true) ∧ h.length ≤ 6 := by
  unfold headOk
  simp only [Bool.and_eq_true, decide_eq_true_eq, List.all_eq_true]
theorem numB_size (c bits : Int) : (numB c bits).size ≤ 2 ∧ 1 ≤ (numB c bits).size := by
  unfold numB
  repeat' split
  all_goals rw [son_size]; simp
theorem tfind_range (l : List S36) (a b : ByteArray) : 0 ≤ (tfind l a b).1 ∧ (tfind l a b).1 ≤ 6 + (l.length : Int) ∧ ((tfind l a b).2 = true → 1 ≤ (tfind l a b).1) := by
  have r2 := firstAt_range (same2 a b) (fixedL ++ l) 0 (by omega)
  have r1 := firstAt_range (same1 a) (fixedL ++ l) 0 (by omega)
  rw [List.length_append, fixedL_len] at r1 r2
  unfold tfind
  split
  · exact ⟨by dsimp only; omega, by dsimp only; omega, fun _ => by dsimp only; omega⟩
  · exact ⟨by dsimp only; omega, by dsimp only; omega, fun h => by cases h⟩
theorem namedB_size (x : S36) (p bits : Int) (h : fieldOk x = true) : (namedB x p bits).size ≤ 36 := by
  have h1 := fieldOk_small h
  have h2 := wrB_small h1.2.2.2.1
  have h3 := wrB_small h1.2.2.2.2
  have h4 := numB_size p bits
  unfold namedB
  rw [ba_size_append, ba_size_append]
  split
  · omega
  · rw [ba_size_nil]; omega
theorem hw1_size (l : List S36) (m : Int) (x : S36) (h : fieldOk x = true) : (hw1 l m x).2.size ≤ 36 := by
  have h4 := numB_size (tfind l x.f0 x.f1).1 7
  unfold hw1
  repeat' split
  · exact namedB_size x _ 4 h
  · dsimp only; omega
  · exact namedB_size x _ 6 h
theorem hw1_ok {l : List S36} {m : Int} {x : S36} (hl : tableOk l m = true) (h : fieldOk x = true) : tableOk (hw1 l m x).1 m = true := by
  unfold hw1
  repeat' split
  · exact hl
  · exact hl
  · exact tadd_ok hl h
theorem hwL_ok (h : List S36) (m : Int) : ∀ l : List S36, tableOk l m = true → (∀ x ∈ h, fieldOk x = true) → tableOk (hwL l m h).1 m = true ∧ (hwL l m h).2.size ≤ 36 * h.length := by
  induction h with
  | nil => intro l hl _; exact ⟨hl, by rw [hwL, ba_size_nil]; exact Nat.zero_le _⟩
  | cons x h ih =>
    intro l hl hx
    have h1 := hx x List.mem_cons_self
    obtain ⟨h2, h3⟩ := ih (hw1 l m x).1 (hw1_ok hl h1) (fun y hy => hx y (List.mem_cons_of_mem _ hy))
    have h4 := hw1_size l m x h1
    unfold hwL
    refine ⟨h2, ?_⟩
    rw [ba_size_append]
    simp only [List.length_cons]
    omega
theorem hwL_append (h1 h2 : List S36) (m : Int) : ∀ l : List S36, hwL l m (h1 ++ h2) = ((hwL (hwL l m h1).1 m h2).1, (hwL l m h1).2 ++ (hwL (hwL l m h1).1 m h2).2) := by
  induction h1 with
  | nil => intro l; simp only [List.nil_append, hwL, ba_append_nil]
  | cons x h1 ih =>
    intro l
    simp only [List.cons_append, hwL]
    rw [ih (hw1 l m x).1, ba_assoc']

theorem NumB4_all : ∀ c : Fin 24, impl_NumWrite.f 20 (c.val : Int) 4 1 = some (numB (c.val : Int) 4) := by decide +kernel
theorem NumB6_all : ∀ c : Fin 24, impl_NumWrite.f 20 (c.val : Int) 6 1 = some (numB (c.val : Int) 6) := by decide +kernel
theorem NumB7_all : ∀ c : Fin 24, impl_NumWrite.f 20 (c.val : Int) 7 1 = some (numB (c.val : Int) 7) := by decide +kernel
theorem NumB_ev (c bits : Int) (h0 : 0 ≤ c) (h1 : c ≤ 23) (hb : bits = 4 ∨ bits = 6 ∨ bits = 7) : Ev (fun k => impl_NumWrite.f k c bits 1) (numB c bits) := by
  obtain ⟨n, rfl⟩ := Int.eq_ofNat_of_zero_le h0
  rcases hb with rfl | rfl | rfl
  · exact Ev.of (fun k => impl_NumWrite.mono _ _ _ k) (NumB4_all ⟨n, by omega⟩)
  · exact Ev.of (fun k => impl_NumWrite.mono _ _ _ k) (NumB6_all ⟨n, by omega⟩)
  · exact Ev.of (fun k => impl_NumWrite.mono _ _ _ k) (NumB7_all ⟨n, by omega⟩)
theorem WordWrite_ok {a : ByteArray} (hp : packOk a) : Ev (fun k => impl_WordWrite.f k a) (wrB a) := by
  have h := impl_WordWrite_ev a (by have := hp.1; omega)
  rwa [wr_of hp] at h
theorem named_ev (x : S36) (p bits : Int) (hx : fieldOk x = true) (h0 : 0 ≤ p) (h1 : p ≤ 23) (hb : bits = 4 ∨ bits = 6 ∨ bits = 7) : Ev (fun k => impl_named.f k x.f0 x.f1 x.f2 p bits) (namedB x p bits) := by
  obtain ⟨_, _, _, p0, p1⟩ := fieldOk_small hx
  have s0 := wrB_small p0
  have s1 := wrB_small p1
  have s2 := numB_size p bits
  unfold impl_named.f namedB
  refine EvQ.ev (EvQ.bindE (NumB_ev p bits h0 h1 hb) (EvQ.ite (fun h => ?_) (fun h => ?_)))
  · refine EvQ.bindE (WordWrite_ok p0) (EvQ.pos (by omega) (EvQ.bindE (WordWrite_ok p1) (EvQ.pos (by rw [ba_size_append]; omega) (EvQ.now ?_))))
    rw [if_pos h]
  · refine EvQ.bindE (WordWrite_ok p1) (EvQ.pos (by omega) (EvQ.now ?_))
    rw [if_neg h, ba_nil_append]
theorem impl_HeadOk_1_ev (x : S36) (h : Small1 x) : Ev (fun k => impl_HeadOk_1.f k x.f0 x.f1 x.f2) (!fieldOk x) := by
  unfold impl_HeadOk_1.f
  exact EvQ.ev (EvQ.bindE (impl_FieldOk_ev x h) (EvQ.now rfl))
theorem impl_HeadOk_ev (h : List S36) (hs : ∀ x ∈ h, Small1 x) : Ev (fun k => impl_HeadOk.f k h) (headOk h) := by
  unfold impl_HeadOk.f headOk
  refine EvQ.ev (EvQ.ite (fun h1 => ?_) (fun h1 => EvQ.now ?_))
  · have hc := contains_ev 81 (fun x => !fieldOk x) h (by unfold ContainsFunc_Field.known; simp) (by omega) (fun x hx => by
      have := impl_HeadOk_1_ev x (hs x hx)
      unfold ContainsFunc_Field.p
      simpa using this)
    rw [any_not_all fieldOk] at hc
    refine EvQ.bindE hc (EvQ.now ?_)
    rw [decide_eq_true (by omega : h.length ≤ 6)]
    simp
  · rw [decide_eq_false (by omega : ¬ h.length ≤ 6)]
    simp
theorem write_l0 (h : List S36) (m : Int) (hh : h.length ≤ 100) (hx : ∀ x ∈ h, fieldOk x = true) (d : Nat) : ∀ (i : Nat) (out : ByteArray) (l : List S36), h.length - i = d → i ≤ h.length → tableOk l m = true → out.size ≤ 36 * i →
    Ev (fun k => impl_Table_write.l0 k out h (h.length : Int) i l m) ((hwL l m (h.drop i)).1, m, out ++ (hwL l m (h.drop i)).2) := by
  induction d with
  | zero =>
    intro i out l hd hi hl ho
    refine Ev.step (fun k => by rw [impl_Table_write.l0]) (EvQ.ev (EvQ.neg (by omega) ?_))
    rw [clone_eq l m (tableOk_small hl).1, List.drop_eq_nil_of_le (by omega)]
    simp only [Option.bind_some]
    exact EvQ.now (by simp only [hwL, ba_nil_append])
  | succ d ih =>
    intro i out l hd hi hl ho
    have hj : i < h.length := by omega
    have ew : wrap64 ((i : Int) + 1) = ((i + 1 : Nat) : Int) := by rw [w64_0 _ (by omega) (by omega)]; omega
    rw [drop_rd h i hj]
    have hmem : rd_T36 h (i : Int) ∈ h := by rw [rdT_get h i hj]; exact List.getElem_mem hj
    refine Ev.step (fun k => by rw [impl_Table_write.l0]) (EvQ.ev (EvQ.pos (by omega) (EvQ.pos (by omega) (EvQ.pos (by omega) ?_))))
    simp only [ew]
    generalize rd_T36 h (i : Int) = x at *
    have hxo := hx x hmem
    have hsm := tableOk_small hl
    have hr := tfind_range l x.f0 x.f1
    have hsz := hw1_size l m x hxo
    have hok := hw1_ok hl hxo
    rw [impl_find_eq l m _ _ _ hsm.1.1]
    simp only [Option.bind_some, hwL]
    have hfin : ∀ (b : ByteArray) (l2 : List S36), hw1 l m x = (l2, b) → EvQ (fun k => impl_Table_write.l0 k (out ++ b) h (h.length : Int) ((i + 1 : Nat) : Int) l2 m) (fun r => r = ((hwL (hw1 l m x).1 m (h.drop (i + 1))).1, m, out ++ ((hw1 l m x).2 ++ (hwL (hw1 l m x).1 m (h.drop (i + 1))).2))) := by
      intro b l2 e
      rw [e] at hsz hok ⊢
      refine EvQ.of_ev (ih (i + 1) (out ++ b) l2 (by omega) (by omega) hok (by rw [ba_size_append]; dsimp only at hsz; omega)) ?_
      rw [ba_assoc']
    refine EvQ.ite (fun h2 => ?_) (fun h2 => EvQ.ite (fun h3 => ?_) (fun h3 => ?_))
    · have e : hw1 l m x = (l, namedB x (tfind l x.f0 x.f1).1 4) := by unfold hw1; rw [if_pos h2]
      have hs4 := namedB_size x (tfind l x.f0 x.f1).1 4 hxo
      exact EvQ.bindE (named_ev x _ 4 hxo hr.1 (by omega) (.inl rfl)) (EvQ.pos (by omega) (hfin _ _ e))
    · have e : hw1 l m x = (l, numB (tfind l x.f0 x.f1).1 7) := by unfold hw1; rw [if_neg h2, if_pos h3]
      have hs4 := numB_size (tfind l x.f0 x.f1).1 7
      exact EvQ.bindE (NumB_ev _ 7 hr.1 (by omega) (.inr (.inr rfl))) (EvQ.pos (by omega) (hfin _ _ e))
    · have e : hw1 l m x = (fitF (keep x :: l) m, namedB x (tfind l x.f0 x.f1).1 6) := by unfold hw1; rw [if_neg h2, if_neg h3]
      have hs4 := namedB_size x (tfind l x.f0 x.f1).1 6 hxo
      have hkx : keep x = x := by unfold keep; exact field_ext rfl rfl (by simpa using h2)
      have ha := impl_add_ev l m x (small_cons (fieldOk_small1 hxo) hsm.1 (by omega)) ((tableOk_iff l m).1 hl).1
      rw [← hkx] at ha
      rw [hkx] at ha
      refine EvQ.bindE (named_ev x _ 6 hxo hr.1 (by omega) (.inr (.inl rfl))) (EvQ.pos (by omega) (EvQ.bindE ha ?_))
      rw [hkx] at e
      exact hfin _ _ e
theorem impl_HeadWrite_ev (l : List S36) (m : Int) (h : List S36) (hl : Small l) (hs : ∀ x ∈ h, Small1 x) : Ev (fun k => impl_HeadWrite.f k l m h) (hw l m h) := by
  unfold impl_HeadWrite.f hw
  refine EvQ.ev (EvQ.bindE (impl_TableOk_ev l m hl) (EvQ.ite (fun h1 => ?_) (fun h1 => EvQ.now (by rw [if_neg (fun h => h1 h.1)]))))
  refine EvQ.bindE (impl_HeadOk_ev h hs) (EvQ.ite (fun h2 => ?_) (fun h2 => EvQ.now (by rw [if_neg (fun h => h2 h.2)])))
  rw [if_pos ⟨h1, h2⟩]
  obtain ⟨h3, h4⟩ := (headOk_iff h).1 h2
  have hw := write_l0 h m (by omega) h3 h.length 0 (⟨#[]⟩ : ByteArray) l (by omega) (by omega) h1 (by rw [ba_size_nil]; omega)
  rw [List.drop_zero, ba_append_nil] at hw
  exact EvQ.bindE hw (EvQ.now rfl)

theorem l1B4_all : ∀ c : Fin 24, spec_l1Write.f 20 (c.val : Int) 4 1 = some (numB (c.val : Int) 4) := by decide +kernel
theorem l1B6_all : ∀ c : Fin 24, spec_l1Write.f 20 (c.val : Int) 6 1 = some (numB (c.val : Int) 6) := by decide +kernel
theorem l1B7_all : ∀ c : Fin 24, spec_l1Write.f 20 (c.val : Int) 7 1 = some (numB (c.val : Int) 7) := by decide +kernel
theorem l1B_ev (c bits : Int) (h0 : 0 ≤ c) (h1 : c ≤ 23) (hb : bits = 4 ∨ bits = 6 ∨ bits = 7) : Ev (fun k => spec_l1Write.f k c bits 1) (numB c bits) := by
  obtain ⟨n, rfl⟩ := Int.eq_ofNat_of_zero_le h0
  rcases hb with rfl | rfl | rfl
  · exact Ev.of (fun k => spec_l1Write.mono _ _ _ k) (l1B4_all ⟨n, by omega⟩)
  · exact Ev.of (fun k => spec_l1Write.mono _ _ _ k) (l1B6_all ⟨n, by omega⟩)
  · exact Ev.of (fun k => spec_l1Write.mono _ _ _ k) (l1B7_all ⟨n, by omega⟩)
theorem l11Name_ev (x : S36) (p bits : Int) (hx : fieldOk x = true) (h0 : 0 ≤ p) (h1 : p ≤ 23) (hb : bits = 4 ∨ bits = 6 ∨ bits = 7) :
    Ev (fun k => spec_l11Name.f k p bits 1 x.f0 x.f1 x.f2) (numB p bits ++ (if p = 0 then wrB x.f0 else ⟨#[]⟩)) := by
  obtain ⟨_, _, _, p0, p1⟩ := fieldOk_small hx
  have s0 := wrB_small p0
  have s2 := numB_size p bits
  unfold spec_l11Name.f
  refine EvQ.ev (EvQ.ite (fun h => ?_) (fun h => ?_))
  · rw [if_neg (by omega), ba_nil_append]
    exact EvQ.bindE (l1B_ev p bits h0 h1 hb) (EvQ.now rfl)
  · have e : p = 0 := by omega
    subst e
    rw [if_pos rfl]
    exact EvQ.bindE (l1B_ev 0 bits h0 h1 hb) (EvQ.bindE (l2Write_ev x.f0 p0) (EvQ.pos (by omega) (EvQ.now rfl)))
theorem firstAt_cons (q : S36 → Bool) (x : S36) (l : List S36) (i : Int) : firstAt q (x :: l) i = if q x = true then i else firstAt q l (i + 1) := rfl
theorem firstAt_append (q : S36 → Bool) (l r : List S36) : ∀ i : Int, 0 ≤ i → firstAt q (l ++ r) i = if 0 ≤ firstAt q l i then firstAt q l i else firstAt q r (i + l.length) := by
  induction l with
  | nil => intro i hi; rw [List.nil_append]; unfold firstAt; rw [if_neg (by omega)]; simp [firstAt]
  | cons x l ih =>
    intro i hi
    rw [List.cons_append, firstAt_cons, firstAt_cons]
    by_cases h : q x = true
    · rw [if_pos h, if_pos h, if_pos hi]
    · rw [if_neg h, if_neg h, ih (i + 1) (by omega)]
      simp only [List.length_cons]
      rw [show i + 1 + (l.length : Int) = i + ((l.length + 1 : Nat) : Int) by omega]
theorem l3Find_l1 (l : List S36) (a b : ByteArray) (c : Bool) (nm : Int) (hl : l.length ≤ 5000000) (d : Nat) : ∀ i : Nat, l.length - i = d → i ≤ l.length →
    Ev (fun k => spec_l3Find.l1 k l nm i a b c) (if 0 ≤ firstAt (same2 a b) (l.drop i) i then (firstAt (same2 a b) (l.drop i) i + 1, true) else (nm, false)) := by
  induction d with
  | zero =>
    intro i hd hi
    refine Ev.step (fun k => by rw [spec_l3Find.l1]) (EvQ.ev (EvQ.neg (by omega) (EvQ.now ?_)))
    rw [List.drop_eq_nil_of_le (by omega)]
    rfl
  | succ d ih =>
    intro i hd hi
    have hj : i < l.length := by omega
    have ew : wrap64 ((i : Int) + 1) = ((i + 1 : Nat) : Int) := by rw [w64_0 _ (by omega) (by omega)]; omega
    rw [drop_rd l i hj]
    refine Ev.step (fun k => by rw [spec_l3Find.l1]) (EvQ.ev (EvQ.pos (by omega) (EvQ.pos (by omega) ?_)))
    simp only [ew]
    generalize rd_T36 l (i : Int) = x
    rw [firstAt_cons]
    have hgo : same2 a b x = false → EvQ (fun k => spec_l3Find.l1 k l nm ((i + 1 : Nat) : Int) a b c) (fun r => r = if 0 ≤ (if same2 a b x = true then (i : Int) else firstAt (same2 a b) (l.drop (i + 1)) ((i : Int) + 1)) then ((if same2 a b x = true then (i : Int) else firstAt (same2 a b) (l.drop (i + 1)) ((i : Int) + 1)) + 1, true) else (nm, false)) := by
      intro h
      simp only [h, Bool.false_eq_true, if_false]
      exact EvQ.of_ev (ih (i + 1) (by omega) (by omega)) (by rw [show (((i + 1 : Nat) : Int)) = (i : Int) + 1 by omega])
    refine EvQ.ite (fun h1 => EvQ.ite (fun h2 => EvQ.now ?_) (fun h2 => hgo ?_)) (fun h1 => hgo ?_)
    · rw [toList_inj] at h1 h2
      rw [if_pos ((same2_iff a b x).2 ⟨h1, h2⟩), if_pos (by omega)]
      rw [show ((i + 1 : Nat) : Int) = (i : Int) + 1 by omega]
    · rw [toList_inj] at h1 h2
      cases hs : same2 a b x with
      | false => rfl
      | true => exact absurd ((same2_iff a b x).1 hs).2 h2
    · rw [toList_inj] at h1
      cases hs : same2 a b x with
      | false => rfl
      | true => exact absurd ((same2_iff a b x).1 hs).1 h1
theorem firstAt_shift (q : S36 → Bool) (l : List S36) : ∀ i : Int, 0 ≤ i → firstAt q l i = if 0 ≤ firstAt q l 0 then firstAt q l 0 + i else -1 := by
  induction l with
  | nil => intro i _; rfl
  | cons x l ih =>
    intro i hi
    unfold firstAt
    by_cases h : q x = true
    · rw [if_pos h, if_pos h]; simp
    · rw [if_neg h, if_neg h, ih (i + 1) (by omega), ih (0 + 1) (by omega)]
      have hr := (firstAt_range q l 0 (by omega)).1
      by_cases h0 : 0 ≤ firstAt q l 0
      · rw [if_pos h0, if_pos h0, if_pos (by omega)]; omega
      · rw [if_neg h0, if_neg h0, if_neg (by omega)]
theorem l3Find_l0 (l : List S36) (a b : ByteArray) (c : Bool) (hl : l.length ≤ 5000000) (n : Nat) : ∀ nm : Int, n ≤ l.length → nm = firstAt (same1 a) (l.drop n) n + 1 →
    Ev (fun k => spec_l3Find.l0 k l nm ((n : Int) - 1) a b c) (if 0 ≤ firstAt (same2 a b) l 0 then (firstAt (same2 a b) l 0 + 1, true) else (firstAt (same1 a) l 0 + 1, false)) := by
  induction n with
  | zero =>
    intro nm hn hnm
    refine Ev.step (fun k => by rw [spec_l3Find.l0]) (EvQ.ev (EvQ.neg (by omega) ?_))
    have h := l3Find_l1 l a b c nm hl l.length 0 (by omega) (by omega)
    rw [List.drop_zero] at h hnm
    rw [hnm] at h ⊢
    exact EvQ.of_ev h rfl
  | succ n ih =>
    intro nm hn hnm
    have hj : n < l.length := by omega
    have e1 : ((n + 1 : Nat) : Int) - 1 = (n : Int) := by omega
    have e2 : wrap64 ((n : Int) - 1) = (n : Int) - 1 := w64 _ (by omega) (by omega)
    have e3 : wrap64 ((n : Int) + 1) = (n : Int) + 1 := w64 _ (by omega) (by omega)
    rw [e1]
    refine Ev.step (fun k => by rw [spec_l3Find.l0]) (EvQ.ev (EvQ.pos (by omega) (EvQ.pos (by omega) (EvQ.pos (by omega) ?_))))
    simp only [e2, e3]
    have hdr := drop_rd l n hj
    refine EvQ.ite (fun h1 => EvQ.of_ev (ih _ (by omega) ?_) rfl) (fun h1 => EvQ.of_ev (ih _ (by omega) ?_) rfl)
    · rw [toList_inj] at h1
      rw [hdr]
      unfold firstAt
      rw [if_pos ((same1_iff a _).2 h1)]
    · rw [toList_inj] at h1
      rw [hdr]
      unfold firstAt
      rw [if_neg (fun h => h1 ((same1_iff a _).1 h)), hnm]
      rw [show ((n + 1 : Nat) : Int) = (n : Int) + 1 by omega]
theorem l3Find_ev (l : List S36) (m : Int) (a b : ByteArray) (c : Bool) (hl : l.length ≤ 4000000) : Ev (fun k => spec_l3Find.f k l m a b c) (tfind l a b) := by
  have hall : spec_l3All.f l m = some (fixedL ++ l) := by
    unfold spec_l3All.f
    rw [show spec_TableFixed.f = some fixedL from rfl]
    simp only [Option.bind_some]
    rw [if_pos (by rw [fixedL_len]; omega)]
  unfold spec_l3Find.f
  rw [hall]
  simp only [Option.bind_some]
  rw [w64 _ (by rw [List.length_append, fixedL_len]; omega) (by rw [List.length_append, fixedL_len]; omega)]
  exact l3Find_l0 (fixedL ++ l) a b c (by rw [List.length_append, fixedL_len]; omega) (fixedL ++ l).length 0 (Nat.le_refl _) (by rw [List.drop_length]; rfl)
theorem l11Write_ev (l : List S36) (m : Int) (x : S36) (hl : tableOk l m = true) (hx : fieldOk x = true) : Ev (fun k => spec_l11Write.f k l m x.f0 x.f1 x.f2) ((hw1 l m x).1, m, (hw1 l m x).2) := by
  have hsm := tableOk_small hl
  have hr := tfind_range l x.f0 x.f1
  obtain ⟨_, _, _, p0, p1⟩ := fieldOk_small hx
  have s0 := wrB_small p0
  have s1 := wrB_small p1
  have s2 := numB_size (tfind l x.f0 x.f1).1 4
  have s3 := numB_size (tfind l x.f0 x.f1).1 6
  have hsz : ∀ b : Int, (numB (tfind l x.f0 x.f1).1 b ++ (if (tfind l x.f0 x.f1).1 = 0 then wrB x.f0 else ⟨#[]⟩)).size ≤ 19 := by
    intro b
    have s4 := numB_size (tfind l x.f0 x.f1).1 b
    rw [ba_size_append]
    split
    · omega
    · rw [ba_size_nil]; omega
  unfold spec_l11Write.f
  refine EvQ.ev (EvQ.bindE (l3Find_ev l m _ _ _ hsm.1.1) (EvQ.ite (fun h2 => ?_) (fun h2 => EvQ.ite (fun h3 => ?_) (fun h3 => ?_))))
  · have e : hw1 l m x = (l, namedB x (tfind l x.f0 x.f1).1 4) := by unfold hw1; rw [if_pos h2]
    rw [e]
    exact EvQ.bindE (l11Name_ev x _ 4 hx hr.1 (by omega) (.inl rfl)) (EvQ.bindE (l2Write_ev x.f1 p1) (EvQ.pos (by have := hsz 4; omega) (EvQ.now rfl)))
  · have e : hw1 l m x = (l, numB (tfind l x.f0 x.f1).1 7) := by unfold hw1; rw [if_neg h2, if_pos h3]
    rw [e]
    exact EvQ.bindE (l1B_ev _ 7 hr.1 (by omega) (.inr (.inr rfl))) (EvQ.now rfl)
  · have e : hw1 l m x = (fitF (keep x :: l) m, namedB x (tfind l x.f0 x.f1).1 6) := by unfold hw1; rw [if_neg h2, if_neg h3]
    rw [e]
    exact EvQ.bindE (l3Add_ev l m x (small_cons (fieldOk_small1 hx) hsm.1 (by omega)) ((tableOk_iff l m).1 hl).1) (EvQ.bindE (l11Name_ev x _ 6 hx hr.1 (by omega) (.inr (.inl rfl))) (EvQ.bindE (l2Write_ev x.f1 p1) (EvQ.pos (by have := hsz 6; omega) (EvQ.now rfl))))
theorem l11All_l0 (h : List S36) (m : Int) (hh : h.length ≤ 100) (hx : ∀ x ∈ h, fieldOk x = true) (d : Nat) : ∀ (i : Nat) (out : ByteArray) (l : List S36), h.length - i = d → i ≤ h.length → tableOk l m = true → out.size ≤ 36 * i →
    Ev (fun k => spec_l11All.l0 k h out i l m) ((hwL l m (h.drop i)).1, m, out ++ (hwL l m (h.drop i)).2) := by
  induction d with
  | zero =>
    intro i out l hd hi hl ho
    refine Ev.step (fun k => by rw [spec_l11All.l0]) (EvQ.ev (EvQ.neg (by omega) ?_))
    rw [List.drop_eq_nil_of_le (by omega)]
    exact EvQ.now (by simp only [hwL, ba_nil_append])
  | succ d ih =>
    intro i out l hd hi hl ho
    have hj : i < h.length := by omega
    have ew : wrap64 ((i : Int) + 1) = ((i + 1 : Nat) : Int) := by rw [w64_0 _ (by omega) (by omega)]; omega
    rw [drop_rd h i hj]
    have hmem : rd_T36 h (i : Int) ∈ h := by rw [rdT_get h i hj]; exact List.getElem_mem hj
    refine Ev.step (fun k => by rw [spec_l11All.l0]) (EvQ.ev (EvQ.pos (by omega) (EvQ.pos (by omega) ?_)))
    simp only [ew]
    generalize rd_T36 h (i : Int) = x at *
    have hxo := hx x hmem
    have hsz := hw1_size l m x hxo
    have hok := hw1_ok hl hxo
    refine EvQ.bindE (l11Write_ev l m x hl hxo) (EvQ.pos (by dsimp only; omega) ?_)
    refine EvQ.of_ev (ih (i + 1) (out ++ (hw1 l m x).2) _ (by omega) (by omega) hok (by rw [ba_size_append]; omega)) ?_
    simp only [hwL]
    rw [ba_assoc']
theorem spec_HeadOk_l0 (h : List S36) (hh : h.length ≤ 5000000) (hs : ∀ x ∈ h, Small1 x) (d : Nat) : ∀ i : Nat, h.length - i = d → i ≤ h.length → Ev (fun k => spec_HeadOk.l0 k h i) ((h.drop i).all fieldOk && decide (h.length ≤ 6)) := by
  induction d with
  | zero =>
    intro i hd hi
    refine Ev.step (fun k => by rw [spec_HeadOk.l0]) (EvQ.ev (EvQ.neg (by omega) (EvQ.now ?_)))
    rw [List.drop_eq_nil_of_le (by omega)]
    simp only [List.all_nil, Bool.true_and, decide_eq_decide]
    omega
  | succ d ih =>
    intro i hd hi
    have hj : i < h.length := by omega
    have ew : wrap64 ((i : Int) + 1) = ((i + 1 : Nat) : Int) := by rw [w64_0 _ (by omega) (by omega)]; omega
    rw [drop_rd h i hj]
    have hmem : rd_T36 h (i : Int) ∈ h := by rw [rdT_get h i hj]; exact List.getElem_mem hj
    refine Ev.step (fun k => by rw [spec_HeadOk.l0]) (EvQ.ev (EvQ.pos (by omega) (EvQ.pos (by omega) ?_)))
    simp only [ew]
    generalize rd_T36 h (i : Int) = x at *
    refine EvQ.bindE (spec_FieldOk_ev x (hs x hmem)) (EvQ.ite (fun h1 => ?_) (fun h1 => EvQ.now (by simp [h1])))
    refine EvQ.of_ev (ih (i + 1) (by omega) (by omega)) ?_
    rw [List.all_cons, h1, Bool.true_and]
theorem spec_HeadOk_ev (h : List S36) (hh : h.length ≤ 5000000) (hs : ∀ x ∈ h, Small1 x) : Ev (fun k => spec_HeadOk.f k h) (headOk h) := by
  unfold spec_HeadOk.f headOk
  have h1 := spec_HeadOk_l0 h hh hs h.length 0 (by omega) (by omega)
  rwa [List.drop_zero] at h1
theorem spec_HeadWrite_ev (l : List S36) (m : Int) (h : List S36) (hl : Small l) (hh : h.length ≤ 5000000) (hs : ∀ x ∈ h, Small1 x) : Ev (fun k => spec_HeadWrite.f k l m h) (hw l m h) := by
  have hlen := hl.1
  unfold spec_HeadWrite.f hw
  refine EvQ.ev (EvQ.bindE (spec_TableOk_ev l m hl) (EvQ.ite (fun h1 => ?_) (fun h1 => EvQ.now (by rw [if_neg (fun h => h1 h.1)]))))
  refine EvQ.bindE (spec_HeadOk_ev h hh hs) (EvQ.ite (fun h2 => ?_) (fun h2 => EvQ.now (by rw [if_neg (fun h => h2 h.2)])))
  rw [if_pos ⟨h1, h2⟩]
  obtain ⟨h3, h4⟩ := (headOk_iff h).1 h2
  simp only [Option.bind_some]
  refine EvQ.pos (by simp only [List.length_nil]; omega) ?_
  rw [List.nil_append]
  have hw := l11All_l0 h m (by omega) h3 h.length 0 (⟨#[]⟩ : ByteArray) l (by omega) (by omega) h1 (by rw [ba_size_nil]; omega)
  rw [List.drop_zero, ba_append_nil] at hw
  have hA : Ev (fun k => spec_l11All.f k l m h) ((hwL l m h).1, m, (hwL l m h).2) := by unfold spec_l11All.f; exact hw
  exact EvQ.bindE hA (EvQ.now rfl)

theorem l71Head_l1 (m : List Int) (p : Int) (d : Nat) : ∀ h : List S36, 7 - h.length = d → Drawn h → h.length ≤ 100 → EvQ (fun k => spec_l71Head.l1 k h m p) (fun r => Drawn r.1 ∧ r.1.length ≤ 100 ∧ r.2 = p) := by
  induction d with
  | zero =>
    intro h hd hh hl
    exact EvQ.step (fun k => by rw [spec_l71Head.l1]) (EvQ.neg (by omega) (EvQ.now ⟨hh, hl, rfl⟩))
  | succ d ih =>
    intro h hd hh hl
    refine EvQ.step (fun k => by rw [spec_l71Head.l1]) (EvQ.pos (by omega) (EvQ.pos (by omega) ?_))
    refine ih _ (by simp; omega) (fun x hx => ?_) (by simp; omega)
    rcases List.mem_append.1 hx with h1 | h1
    · exact hh x h1
    · rw [List.mem_singleton] at h1
      subst h1
      exact ⟨by decide, by decide⟩
theorem l71Head_l0 (m : List Int) (hm : Bytes m) (hm1 : m.length ≤ 2000) (n : Nat) : ∀ (p : Int) (h : List S36), 0 ≤ p → p + 100 * n ≤ 600000000 → Drawn h → h.length + n ≤ 50 →
    EvQ (fun k => spec_l71Head.l0 k h n m p) (fun r => Drawn r.1 ∧ r.1.length ≤ 100 ∧ 0 ≤ r.2 ∧ r.2 ≤ p + 100 * n + 10) := by
  induction n with
  | zero =>
    intro p h hp hp1 hd hl
    refine EvQ.step (fun k => by rw [spec_l71Head.l0]) (EvQ.neg (by omega) (EvQ.bind (pick_ev m p 24 hm hm1 hp (by omega) (by omega)) ?_))
    rintro ⟨a, q⟩ ⟨ha, ha1, rfl⟩
    dsimp only at *
    refine EvQ.ite (fun h1 => ?_) (fun h1 => EvQ.now ⟨hd, by dsimp only; omega, by dsimp only; omega, by dsimp only; omega⟩)
    refine (l71Head_l1 m (p + 1) _ h rfl hd (by omega)).mono ?_
    rintro ⟨r, q⟩ ⟨h2, h3, rfl⟩
    exact ⟨h2, h3, by dsimp only; omega, by dsimp only; omega⟩
  | succ n ih =>
    intro p h hp hp1 hd hl
    have e1 : wrap64 (((n + 1 : Nat) : Int) - 1) = (n : Int) := by rw [w64_0 _ (by omega) (by omega)]; omega
    refine EvQ.step (fun k => by rw [spec_l71Head.l0]) ?_
    simp only [e1]
    refine EvQ.pos (by omega) (EvQ.bind (l71Field_ev m p hm hm1 hp (by omega)) ?_)
    rintro ⟨a0, a1, a2, q0⟩ ⟨b0, b1, b2, b3⟩
    dsimp only at *
    refine EvQ.pos (by omega) ((ih q0 _ (by omega) (by omega) (fun x hx => ?_) (by simp; omega)).mono ?_)
    · rcases List.mem_append.1 hx with h1 | h1
      · exact hd x h1
      · rw [List.mem_singleton] at h1
        subst h1
        exact ⟨b0, b1⟩
    · rintro ⟨r0, r1⟩ ⟨g0, g1, g2, g3⟩
      dsimp only at *
      exact ⟨g0, g1, g2, by omega⟩
theorem drawHeadWrite_ev (l : List Int) (hl : Bytes l) : EvQ (fun k => spec_DrawHeadWrite.f k l) (fun r => Small r.1 ∧ r.1.length ≤ 103 ∧ Drawn r.2.2 ∧ r.2.2.length ≤ 100) := by
  unfold spec_DrawHeadWrite.f
  refine EvQ.bind (open_ev l hl) ?_
  rintro ⟨m, p⟩ ⟨hm, hm1, rfl⟩
  refine EvQ.bind (l71Table_ev m 0 hm hm1 (by omega) (by omega)) ?_
  rintro ⟨t, mx, q⟩ ⟨g0, g1, g2, g3, g4, g5⟩
  dsimp only at *
  have hh : EvQ (fun k => spec_l71Head.f k m q) (fun r => Drawn r.1 ∧ r.1.length ≤ 100) := by
    unfold spec_l71Head.f
    refine EvQ.bind (pick_ev m q 6 hm hm1 (by omega) (by omega) (by omega)) ?_
    rintro ⟨a, q1⟩ ⟨ha, ha1, rfl⟩
    dsimp only at *
    obtain ⟨n, rfl⟩ := Int.eq_ofNat_of_zero_le ha
    refine (l71Head_l0 m hm hm1 n (q + 1) [] (by omega) (by omega) (fun x hx => by cases hx) (by simp; omega)).mono ?_
    rintro ⟨r0, r1⟩ ⟨h0, h1, h2, h3⟩
    exact ⟨h0, h1⟩
  refine EvQ.bind hh ?_
  rintro ⟨h, q1⟩ ⟨h0, h1⟩
  exact EvQ.now ⟨g0.small (by omega), g1, h0, h1⟩

theorem hw_small (l : List S36) (m : Int) (h : List S36) : (hw l m h).1.length ≤ 4000000 ∧ (hw l m h).2.2.size ≤ 300 := by
  unfold hw
  split
  · rename_i h1
    obtain ⟨h3, h4⟩ := (headOk_iff h).1 h1.2
    obtain ⟨h5, h6⟩ := hwL_ok h m l h1.1 h3
    have := (tableOk_small h5).2
    exact ⟨by dsimp only; omega, by dsimp only; omega⟩
  · exact ⟨by simp, by dsimp only; rw [ba_size_nil]; omega⟩

theorem firstAt_pre (q : S36 → Bool) (p : List S36) (x : S36) (r : List S36) (hx : q x = true) : ∀ i : Int, (∀ y ∈ p, q y = false) → firstAt q (p ++ x :: r) i = i + p.length := by
  induction p with
  | nil => intro i _; rw [List.nil_append]; unfold firstAt; rw [if_pos hx]; simp
  | cons y p ih =>
    intro i h
    rw [List.cons_append]
    unfold firstAt
    rw [if_neg (by rw [h y List.mem_cons_self]; decide), ih (i + 1) (fun z hz => h z (List.mem_cons_of_mem _ hz)), List.length_cons]
    omega
def fx (c : Fin 6) : S36 := fixedL[c.val]'(by show c.val < 6; exact c.isLt)
theorem fx_pre : ∀ c : Fin 6, ∀ y ∈ fixedL.take c.val, ¬ (y.f0 = (fx c).f0 ∧ y.f1 = (fx c).f1) := by decide +kernel
theorem fx_plain : ∀ c : Fin 6, (fx c).f2 = false := by decide +kernel
theorem fx_ok : ∀ c : Fin 6, fieldOk (fx c) = true := by decide +kernel
theorem fx_drop (c : Fin 6) : fixedL.drop c.val = fx c :: fixedL.drop (c.val + 1) := List.drop_eq_getElem_cons (by show c.val < 6; exact c.isLt)
theorem fx_find (c : Fin 6) (l : List S36) : tfind l (fx c).f0 (fx c).f1 = ((c.val : Int) + 1, true) := by
  have hl : (fixedL.take c.val).length = c.val := by rw [List.length_take, fixedL_len]; have := c.isLt; omega
  have e : fixedL ++ l = fixedL.take c.val ++ fx c :: (fixedL.drop (c.val + 1) ++ l) := by
    rw [← List.cons_append, ← fx_drop, ← List.append_assoc, List.take_append_drop]
  have h := firstAt_pre (same2 (fx c).f0 (fx c).f1) (fixedL.take c.val) (fx c) (fixedL.drop (c.val + 1) ++ l) ((same2_iff _ _ _).2 ⟨rfl, rfl⟩) 0 (fun y hy => by
    rw [Bool.eq_false_iff]
    exact fun h => fx_pre c y hy ((same2_iff _ _ _).1 h))
  rw [← e, hl] at h
  unfold tfind
  rw [h, if_pos (by omega)]
  simp
theorem fx_write (c : Fin 6) (l : List S36) (m : Int) (hl : tableOk l m = true) : hw l m [fx c] = (l, m, strOfNums [128 + ((c.val : Int) + 1)]) := by
  have e : hw1 l m (fx c) = (l, numB ((c.val : Int) + 1) 7) := by unfold hw1; rw [if_neg (by rw [fx_plain]; decide), fx_find, if_pos rfl]
  have e2 : numB ((c.val : Int) + 1) 7 = strOfNums [128 + ((c.val : Int) + 1)] := by unfold numB; rw [if_neg (by decide), if_neg (by decide)]
  unfold hw
  rw [if_pos ⟨hl, (headOk_iff _).2 ⟨fun x hx => by rw [List.mem_singleton] at hx; subst hx; exact fx_ok c, by simp⟩⟩]
  unfold hwL
  rw [e, e2]
  unfold hwL
  have e3 : ∀ a : ByteArray, a ++ (⟨#[]⟩ : ByteArray) = a := fun a => by apply ba_ext; simp
  simp only [e3]
theorem FnHeadFixed : laws_FnHeadFixed.Pure := by
  intro l0 l1 _ _ hw0 hm1 _ hw1
  have hl := bytes_of_wf hw0
  apply EvQ.tt
  unfold laws_FnHeadFixed.f
  have hj0 : EvQ (fun k => laws_FnHeadFixed.j0 k l0 l1 true) (fun x => x = true) := EvQ.step (fun k => by rw [laws_FnHeadFixed.j0]) (EvQ.pos rfl (EvQ.now rfl))
  refine EvQ.ite (fun _ => hj0) (fun _ => ?_)
  by_cases h1 : (l1.length : Int) > 1048576
  · rw [decide_eq_true h1]; exact hj0
  rw [decide_eq_false h1]
  refine EvQ.step (fun k => by rw [laws_FnHeadFixed.j0]) (EvQ.neg (by decide) (EvQ.bind (drawHeadWrite_ev l0 hl) ?_))
  rintro ⟨t, m, h⟩ ⟨g0, g1, g2, g3⟩
  dsimp only at *
  have hs : ∀ x ∈ h, Small1 x := fun x hx => by have := g2 x hx; unfold Small1; omega
  have hwl := hw_small t m h
  refine EvQ.bindE (spec_HeadWrite_ev t m h g0 (by omega) hs) (EvQ.bindE (impl_HeadWrite_ev t m h g0 hs) (EvQ.pos rfl (EvQ.bindE (lkTable_same _ _ hwl.1) (EvQ.pos rfl (EvQ.bindE (spec_TableOk_ev t m g0) ?_)))))
  have hj1 : EvQ (fun k => laws_FnHeadFixed.j1 k l1 (hw t m h).2.2 (hw t m h).2.2 true t m (hw t m h).1 (hw t m h).2.1 (hw t m h).1 (hw t m h).2.1) (fun x => x = true) := by
    refine EvQ.step (fun k => by rw [laws_FnHeadFixed.j1]) ?_
    refine EvQ.pos rfl (EvQ.pos rfl ?_)
    exact EvQ.bindE (lkTable_same _ (hw t m h).2.1 hwl.1) (EvQ.now (Q := fun x => x = true) rfl)
  cases hh : tableOk t m with
  | false => exact hj1
  | true =>
    refine EvQ.step (fun k => by rw [laws_FnHeadFixed.j1]) (EvQ.neg (by decide) ?_)
    have hb := Int.emod_nonneg (l1.length : Int) (show (6 : Int) ≠ 0 by omega)
    have hb1 := Int.emod_lt_of_pos (l1.length : Int) (show 0 < (6 : Int) by omega)
    generalize (l1.length : Int) % 6 = b at *
    obtain ⟨c, rfl⟩ := Int.eq_ofNat_of_zero_le hb
    obtain ⟨c, rfl⟩ : ∃ d : Fin 6, d.val = c := ⟨⟨c, by omega⟩, rfl⟩
    have e1 : (fixedL.take ((c.val : Int) + 1).toNat).drop ((c.val : Int)).toNat = [fx c] := by
      rw [show ((c.val : Int) + 1).toNat = c.val + 1 by omega, Int.toNat_natCast, List.drop_take, fx_drop]
      simp
    simp only [fixed_eq, Option.bind_some]
    refine EvQ.pos (by rw [fixedL_len]; omega) ?_
    simp only [e1]
    have i1 := impl_HeadWrite_ev t m [fx c] g0 (fun x hx => by rw [List.mem_singleton] at hx; subst hx; exact fieldOk_small1 (fx_ok c))
    rw [fx_write c t m hh] at i1
    have hbt : bt (strOfNums [128 + ((c.val : Int) + 1)]) 0 = 128 + ((c.val : Int) + 1) := bt_son (xs := [128 + ((c.val : Int) + 1)]) (fun x hx => by rw [List.mem_singleton] at hx; subst hx; omega) 0
    exact EvQ.bindE i1 (EvQ.pos (by rw [son_size]; rfl) (EvQ.pos (by rw [son_size]; simp) (EvQ.pos (by dsimp only; rw [hbt, w64_0 _ (by omega) (by omega)]; omega) (EvQ.bindE (lkTable_same t m (tableOk_small hh).1.1) (EvQ.now rfl)))))

end Go.Proofs.Ytdhahifdcoinhaa.Pure
