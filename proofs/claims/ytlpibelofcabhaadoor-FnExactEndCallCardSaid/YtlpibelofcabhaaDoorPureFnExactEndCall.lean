/- The plain law of FnExactEndCall: for every input that fits, what the printed functions reckon is true. No condition but the row's own. -/
import Derived.Test.YtlpibelofcabhaaDoorLm0
import Derived.Test.YtlpibelofcabhaaDoorLm1
import Derived.Test.YtlpibelofcabhaaDoorLm2
import Derived.Test.YtlpibelofcabhaaDoorLm3
import Derived.Test.YtlpibelofcabhaaDoorPFnExactEndCallx17
namespace Go.Proofs.YtlpibelofcabhaaDoor.Pure
open Go.RowKit Go.Proofs.YtlpibelofcabhaaDoor.PFnExactEndCall Go.Proofs.YtlpibelofcabhaaDoorW.PrintWords Go.Proofs.YtlpibelofcabhaaDoorW.PrintLast Go.Proofs.YtlpibelofcabhaaDoorW.PrintMore Go.Proofs.YtlpibelofcabhaaDoor.Lm
set_option linter.unusedVariables false
set_option linter.unusedSimpArgs false

theorem l2Sign_all : ∀ c : Fin 256, spec_l2Sign.f 50 (c.val : Int) = some (place (c.val : Int)) := by decide +kernel
theorem l2Sign_ev (c : Int) (h0 : 0 ≤ c) (h1 : c < 256) : Ev (fun k => spec_l2Sign.f k c) (place c) := by
 obtain ⟨n, rfl⟩ := Int.eq_ofNat_of_zero_le h0
 exact Ev.of (fun k => spec_l2Sign.mono _ k) (l2Sign_all ⟨n, by omega⟩)
theorem spec_WordOk_l0 (a : ByteArray) (hs : a.size ≤ 1000000000) (d : Nat) : ∀ i : Nat, a.size - i = d → i ≤ a.size →
  Ev (fun k => spec_WordOk.l0 k a i) (decide (a.size ≤ 16 ∧ ∀ j : Nat, j < a.size → i ≤ j → 0 ≤ place (bt a j))) := by
 induction d with
 | zero =>
  intro i hd hi
  have e : i = a.size := by omega
  refine Ev.step (fun k => by rw [spec_WordOk.l0]) ?_
  refine Ev.neg (by omega) ?_
  have : (decide (a.size ≤ 16 ∧ ∀ j : Nat, j < a.size → i ≤ j → 0 ≤ place (bt a j))) = decide ((a.size : Int) ≤ 16) := by
   rw [decide_eq_decide]
   constructor
   ·rintro ⟨h, _⟩; omega
   ·intro h; exact ⟨by omega, fun j h1 h2 => by omega⟩
  rw [this]
  exact Ev.now _
 | succ d ih =>
  intro i hd hi
  have hb := bt_byte a i
  refine Ev.step (fun k => by rw [spec_WordOk.l0]) ?_
  refine EvQ.ev (EvQ.pos (by omega) (EvQ.pos (by omega) (EvQ.bindE (l2Sign_ev _ hb.1 hb.2) ?_)))
  refine EvQ.ite (fun h => EvQ.now ?_) (fun h => ?_)
  ·symm
   rw [decide_eq_false_iff_not]
   rintro ⟨_, h2⟩
   have := h2 i (by omega) (by omega)
   omega
  ·rw [w64_0 _ (by omega) (by omega), show ((i : Int) + 1) = ((i + 1 : Nat) : Int) by omega]
   refine EvQ.of_ev (ih (i + 1) (by omega) (by omega)) ?_
   rw [decide_eq_decide]
   constructor
   ·rintro ⟨h1, h2⟩
    refine ⟨h1, fun j h3 h4 => ?_⟩
    by_cases e : j = i
    ·subst e; omega
    ·exact h2 j h3 (by omega)
   ·rintro ⟨h1, h2⟩
    exact ⟨h1, fun j h3 h4 => h2 j h3 (by omega)⟩
theorem spec_WordOk_ev (a : ByteArray) (hs : a.size ≤ 1000000000) : Ev (fun k => spec_WordOk.f k a) (wordOk a) := by
 unfold spec_WordOk.f
 have h := spec_WordOk_l0 a hs a.size 0 (by omega) (by omega)
 have e : wordOk a = (decide (a.size ≤ 16 ∧ ∀ j : Nat, j < a.size → 0 ≤ j → 0 ≤ place (bt a j))) := by
  unfold wordOk
  rw [decide_eq_decide, packOk_iff]
  simp
 rw [e]
 exact h
theorem IndexByte_eq (c : Int) : strings_IndexByte.f (⟨#[101, 116, 97, 111, 105, 110, 115, 114, 104, 108, 48, 49, 50, 51, 52, 53, 54, 55, 56, 57, 100, 99, 117, 109, 102, 112, 103, 119, 121, 98, 118, 107, 120, 106, 113, 122, 58, 47, 45]⟩ : ByteArray) c = some (place c) := rfl
theorem impl_WordOk_l0 (a : ByteArray) (hs : a.size ≤ 1000000000) (d : Nat) : ∀ i : Nat, a.size - i = d → i ≤ a.size →
  Ev (fun k => impl_WordOk.l0 k a (a.size : Int) i) (decide (a.size ≤ 16 ∧ ∀ j : Nat, j < a.size → i ≤ j → 0 ≤ place (bt a j))) := by
 induction d with
 | zero =>
  intro i hd hi
  have e : i = a.size := by omega
  refine Ev.step (fun k => by rw [impl_WordOk.l0]) ?_
  refine Ev.neg (by omega) ?_
  have : (decide (a.size ≤ 16 ∧ ∀ j : Nat, j < a.size → i ≤ j → 0 ≤ place (bt a j))) = decide ((a.size : Int) ≤ 16) := by
   rw [decide_eq_decide]
   constructor
   ·rintro ⟨h, _⟩; omega
   ·intro h; exact ⟨by omega, fun j h1 h2 => by omega⟩
  rw [this]
  exact Ev.now _
 | succ d ih =>
  intro i hd hi
  have hb := bt_byte a i
  refine Ev.step (fun k => by rw [impl_WordOk.l0]) ?_
  refine EvQ.ev (EvQ.pos (by omega) (EvQ.pos (by omega) (EvQ.pos (by omega) ?_)))
  rw [IndexByte_eq]
  simp only [Option.bind_some]
  refine EvQ.ite (fun h => EvQ.now ?_) (fun h => ?_)
  ·symm
   rw [decide_eq_false_iff_not]
   rintro ⟨_, h2⟩
   have := h2 i (by omega) (by omega)
   omega
  ·rw [w64_0 _ (by omega) (by omega), show ((i : Int) + 1) = ((i + 1 : Nat) : Int) by omega]
   refine EvQ.of_ev (ih (i + 1) (by omega) (by omega)) ?_
   rw [decide_eq_decide]
   constructor
   ·rintro ⟨h1, h2⟩
    refine ⟨h1, fun j h3 h4 => ?_⟩
    by_cases e : j = i
    ·subst e; omega
    ·exact h2 j h3 (by omega)
   ·rintro ⟨h1, h2⟩
    exact ⟨h1, fun j h3 h4 => h2 j h3 (by omega)⟩
theorem impl_WordOk_ev (a : ByteArray) (hs : a.size ≤ 1000000000) : Ev (fun k => impl_WordOk.f k a) (wordOk a) := by
 unfold impl_WordOk.f
 have h := impl_WordOk_l0 a hs a.size 0 (by omega) (by omega)
 have e : wordOk a = (decide (a.size ≤ 16 ∧ ∀ j : Nat, j < a.size → 0 ≤ j → 0 ≤ place (bt a j))) := by
  unfold wordOk
  rw [decide_eq_decide, packOk_iff]
  simp
 rw [e]
 exact h
def one (x : S61) : Int := (x.f0.size : Int) + (x.f1.size : Int) + 4
def tsize : List S61 → Int
 | [] => 0
 | x :: l => one x + tsize l
def fieldOk (x : S61) : Bool := wordOk x.f0 && wordOk x.f1 && decide (x.f0.size ≠ 0)
def fieldsOk (l : List S61) : Bool := l.all (fun x => fieldOk x && !x.f2)
def tableOk (l : List S61) (m : Int) : Bool := decide (0 ≤ m ∧ m ≤ 64) && fieldsOk l && decide (tsize l ≤ m)
def fitF : List S61 → Int → List S61
 | [], _ => []
 | x :: l, m => if one x ≤ m then x :: fitF l (m - one x) else []
def Small1 (x : S61) : Prop := x.f0.size ≤ 4000000 ∧ x.f1.size ≤ 4000000
def Small (l : List S61) : Prop := l.length ≤ 4000000 ∧ ∀ x ∈ l, Small1 x
theorem one_pos (x : S61) : 4 ≤ one x := by unfold one; omega
theorem tsize_nonneg (l : List S61) : 0 ≤ tsize l := by
 induction l with
 | nil => exact Int.le_refl 0
 | cons x l ih => unfold tsize; have := one_pos x; omega
theorem Small1.one {x : S61} (h : Small1 x) : one x ≤ 8000004 := by unfold Small1 at h; unfold Pure.one; omega
theorem Small.sub {l l' : List S61} (h : Small l) (h1 : l'.length ≤ l.length) (h2 : ∀ x ∈ l', x ∈ l) : Small l' := ⟨by have := h.1; omega, fun y hy => h.2 y (h2 y hy)⟩
theorem Small.take {l : List S61} (h : Small l) (n : Nat) : Small (l.take n) := h.sub (by simp; omega) (fun x hx => List.mem_of_mem_take hx)
theorem Small.drop {l : List S61} (h : Small l) (n : Nat) : Small (l.drop n) := h.sub (by simp) (fun x hx => List.mem_of_mem_drop hx)
theorem Small.nil : Small [] := ⟨by simp, fun x hx => by cases hx⟩
theorem tsize_bound {l : List S61} (h : ∀ x ∈ l, Small1 x) : tsize l ≤ 8000004 * (l.length : Int) := by
 induction l with
 | nil => simp [tsize]
 | cons x l ih =>
  have h1 := (h x List.mem_cons_self).one
  have h2 := ih (fun y hy => h y (List.mem_cons_of_mem _ hy))
  unfold tsize
  simp only [List.length_cons]
  omega
theorem Small.size {l : List S61} (h : Small l) : 0 ≤ tsize l ∧ tsize l ≤ 32000016000000 := by
 have := tsize_bound h.2
 have := h.1
 exact ⟨tsize_nonneg l, by omega⟩
theorem rdT_get (l : List S61) (i : Nat) (h : i < l.length) : rd_T61 l (i : Int) = l[i] := by
 unfold rd_T61
 rw [Int.toNat_natCast, List.getD_eq_getElem?_getD, List.getElem?_eq_getElem h]
 rfl
theorem drop_rd (l : List S61) (i : Nat) (h : i < l.length) : l.drop i = rd_T61 l (i : Int) :: l.drop (i + 1) := by
 rw [rdT_get l i h, List.drop_eq_getElem_cons h]
theorem in_eq (a b c : Int) : impl_in.f a b c = some (decide (b ≤ a ∧ a ≤ c)) := by
 unfold impl_in.f
 by_cases h : b ≤ a <;> simp [h]
theorem tsz_l0 (l : List S61) (hl : Small l) (d : Nat) : ∀ (i : Nat) (a : Int), l.length - i = d → i ≤ l.length → 0 ≤ a → a ≤ 8000004 * (i : Int) →
  Ev (fun k => impl_Table_size.l0 k a l (l.length : Int) i) (a + tsize (l.drop i)) := by
 have hlen := hl.1
 induction d with
 | zero =>
  intro i a hd hi ha ha1
  have e : i = l.length := by omega
  subst e
  refine Ev.step (fun k => by rw [impl_Table_size.l0]) (Ev.neg (by omega) ?_)
  rw [List.drop_length]
  simp only [tsize, Int.add_zero]
  exact Ev.now _
 | succ d ih =>
  intro i a hd hi ha ha1
  have hj : i < l.length := by omega
  have hs : Small1 (rd_T61 l (i : Int)) := by rw [rdT_get l i hj]; exact hl.2 _ (List.getElem_mem hj)
  have h1 := hs.one
  have h2 := one_pos (rd_T61 l (i : Int))
  have h3 := hs
  unfold Small1 at h3
  refine Ev.step (fun k => by rw [impl_Table_size.l0]) (EvQ.ev (EvQ.pos (by omega) (EvQ.pos (by omega) (EvQ.pos (by omega) ?_))))
  rw [w64_0 (((rd_T61 l (i : Int)).f0.size : Int) + ((rd_T61 l (i : Int)).f1.size : Int)) (by omega) (by omega), w64_0 (((rd_T61 l (i : Int)).f0.size : Int) + ((rd_T61 l (i : Int)).f1.size : Int) + 4) (by omega) (by omega)]
  rw [show ((rd_T61 l (i : Int)).f0.size : Int) + ((rd_T61 l (i : Int)).f1.size : Int) + 4 = one (rd_T61 l (i : Int)) from rfl]
  rw [w64_0 _ (by omega) (by omega), w64_0 _ (by omega) (by omega), show ((i : Int) + 1) = ((i + 1 : Nat) : Int) by omega, drop_rd l i hj]
  refine EvQ.of_ev (ih (i + 1) _ (by omega) (by omega) (by omega) (by omega)) ?_
  simp only [tsize]
  omega
theorem tsz_ev (l : List S61) (m : Int) (hl : Small l) : Ev (fun k => impl_Table_size.f k l m) (tsize l) := by
 unfold impl_Table_size.f
 have h := tsz_l0 l hl l.length 0 0 (by omega) (by omega) (by omega) (by omega)
 rw [List.drop_zero, Int.zero_add] at h
 exact h
theorem toList_ne_nil (a : ByteArray) : (a.toList != ([] : List UInt8)) = decide (a.size ≠ 0) := by
 unfold bne
 rw [toList_nil_iff]
 by_cases h : a.size = 0 <;> simp [h]
theorem impl_FieldOk_ev (x : S61) (h : Small1 x) : Ev (fun k => impl_FieldOk.f k x.f0 x.f1 x.f2) (fieldOk x) := by
 unfold Small1 at h
 unfold impl_FieldOk.f fieldOk
 refine EvQ.ev (EvQ.bindE (impl_WordOk_ev x.f0 (by omega)) ?_)
 refine EvQ.ite (fun h1 => ?_) (fun h1 => EvQ.now (by simp [h1]))
 refine EvQ.bindE (impl_WordOk_ev x.f1 (by omega)) ?_
 refine EvQ.ite (fun h2 => EvQ.now (by rw [h1, h2, toList_ne_nil]; rfl)) (fun h2 => EvQ.now (by simp [h2]))
theorem impl_TableOk_1_ev (x : S61) (h : Small1 x) : Ev (fun k => impl_TableOk_1.f k x.f0 x.f1 x.f2) (!(fieldOk x && !x.f2)) := by
 unfold impl_TableOk_1.f
 refine EvQ.ev (EvQ.bindE (impl_FieldOk_ev x h) ?_)
 refine EvQ.ite (fun h1 => EvQ.now (by simp [h1])) (fun h1 => EvQ.now (by simp [h1]))
def firstAt (p : S61 → Bool) : List S61 → Int → Int
 | [], _ => -1
 | x :: l, i => if p x then i else firstAt p l (i + 1)
theorem firstAt_any (p : S61 → Bool) (l : List S61) : ∀ i : Int, 0 ≤ i → decide (0 ≤ firstAt p l i) = l.any p := by
 induction l with
 | nil => intro i _; rfl
 | cons x l ih =>
  intro i hi
  unfold firstAt
  by_cases h : p x = true
  ·rw [if_pos h, List.any_cons, h]; simpa using hi
  ·rw [if_neg h, List.any_cons, ih _ (by omega)]; simp [h]
theorem idxFrom_ev (p : Nat → S61 → Option Bool) (q : S61 → Bool) (l : List S61) (h : ∀ x ∈ l, Ev (fun k => p k x) (q x)) : ∀ i : Int, Ev (fun k => idxFrom (p k) l i) (firstAt q l i) := by
 induction l with
 | nil => intro i; unfold idxFrom firstAt; exact Ev.now _
 | cons x l ih =>
  intro i
  unfold idxFrom firstAt
  refine EvQ.ev (EvQ.bindE (h x List.mem_cons_self) (EvQ.ite (fun h1 => EvQ.now (by rw [if_pos h1])) (fun h1 => ?_)))
  rw [if_neg h1]
  exact EvQ.of_ev (ih (fun y hy => h y (List.mem_cons_of_mem _ hy)) (i + 1)) rfl
theorem contains_ev (g : Nat) (q : S61 → Bool) (l : List S61) (hk : ContainsFunc_Field.known g) (hl : l.length ≤ 1000000000) (h : ∀ x ∈ l, Ev (fun k => ContainsFunc_Field.p k g x) (q x)) :
  Ev (fun k => ContainsFunc_Field.f k l g) (l.any q) := by
 unfold ContainsFunc_Field.f
 refine Ev.pos ⟨hl, hk⟩ (EvQ.ev (EvQ.bindE (idxFrom_ev (fun k => ContainsFunc_Field.p k g) q l h 0) (EvQ.now (firstAt_any q l 0 (by omega)))))
theorem any_not_all (p : S61 → Bool) (l : List S61) : l.any (fun x => !p x) = !l.all p := by
 induction l with
 | nil => rfl
 | cons x l ih => rw [List.any_cons, List.all_cons, ih]; cases p x <;> rfl
theorem impl_TableOk_ev (l : List S61) (m : Int) (hl : Small l) : Ev (fun k => impl_TableOk.f k l m) (tableOk l m) := by
 have hlen := hl.1
 unfold impl_TableOk.f tableOk
 rw [in_eq]
 simp only [Option.bind_some]
 refine EvQ.ev (EvQ.ite (fun h1 => ?_) (fun h1 => EvQ.now (by rw [decide_eq_false (fun h => h1 (decide_eq_true h))]; rfl)))
 have hc := contains_ev 79 (fun x => !(fieldOk x && !x.f2)) l (by unfold ContainsFunc_Field.known; simp) (by omega) (fun x hx => by
  have := impl_TableOk_1_ev x (hl.2 x hx)
  unfold ContainsFunc_Field.p
  simpa using this)
 rw [any_not_all (fun x => fieldOk x && !x.f2)] at hc
 refine EvQ.bindE hc (EvQ.ite (fun h2 => EvQ.now ?_) (fun h2 => EvQ.bindE (tsz_ev l m hl) (EvQ.now ?_)))
 ·rw [h1]
  have h3 : fieldsOk l = false := by unfold fieldsOk; simpa using h2
  rw [h3]; rfl
 ·rw [h1]
  have h3 : fieldsOk l = true := by unfold fieldsOk; simpa using h2
  rw [h3]; rfl
theorem l3One_eq (x : S61) (h : Small1 x) : spec_l3One.f x.f0 x.f1 x.f2 = some (one x) := by
 unfold Small1 at h
 unfold spec_l3One.f one
 rw [w64_0 ((x.f0.size : Int) + (x.f1.size : Int)) (by omega) (by omega), w64_0 _ (by omega) (by omega)]
theorem l3Size_l0 (l : List S61) (hl : Small l) (d : Nat) : ∀ (i : Nat) (a : Int), l.length - i = d → i ≤ l.length → 0 ≤ a → a ≤ 8000004 * (i : Int) →
  Ev (fun k => spec_l3Size.l0 k l a i) (a + tsize (l.drop i)) := by
 have hlen := hl.1
 induction d with
 | zero =>
  intro i a hd hi ha ha1
  have e : i = l.length := by omega
  subst e
  refine Ev.step (fun k => by rw [spec_l3Size.l0]) (Ev.neg (by omega) ?_)
  rw [List.drop_length]
  simp only [tsize, Int.add_zero]
  exact Ev.now _
 | succ d ih =>
  intro i a hd hi ha ha1
  have hj : i < l.length := by omega
  have hs : Small1 (rd_T61 l (i : Int)) := by rw [rdT_get l i hj]; exact hl.2 _ (List.getElem_mem hj)
  have h1 := hs.one
  have h2 := one_pos (rd_T61 l (i : Int))
  refine Ev.step (fun k => by rw [spec_l3Size.l0]) (EvQ.ev (EvQ.pos (by omega) (EvQ.pos (by omega) ?_)))
  rw [l3One_eq _ hs]
  simp only [Option.bind_some]
  rw [w64_0 _ (by omega) (by omega), w64_0 _ (by omega) (by omega), show ((i : Int) + 1) = ((i + 1 : Nat) : Int) by omega, drop_rd l i hj]
  refine EvQ.of_ev (ih (i + 1) _ (by omega) (by omega) (by omega) (by omega)) ?_
  simp only [tsize]
  omega
theorem l3Size_ev (l : List S61) (hl : Small l) : Ev (fun k => spec_l3Size.f k l) (tsize l) := by
 unfold spec_l3Size.f
 have h := l3Size_l0 l hl l.length 0 0 (by omega) (by omega) (by omega) (by omega)
 rw [List.drop_zero, Int.zero_add] at h
 exact h
theorem l6In_eq (a b c : Int) : spec_l6In.f a b c = some (decide (b ≤ a ∧ a ≤ c)) := by
 unfold spec_l6In.f
 by_cases h : a ≥ b
 ·rw [if_pos h]; simp only [show b ≤ a from h, true_and]
 ·rw [if_neg h]; simp only [show ¬ b ≤ a from h, false_and, decide_false]
theorem spec_FieldOk_ev (x : S61) (h : Small1 x) : Ev (fun k => spec_FieldOk.f k x.f0 x.f1 x.f2) (fieldOk x) := by
 unfold Small1 at h
 unfold spec_FieldOk.f fieldOk
 refine EvQ.ev (EvQ.bindE (spec_WordOk_ev x.f0 (by omega)) ?_)
 refine EvQ.ite (fun h1 => ?_) (fun h1 => EvQ.now (by simp [h1]))
 have e := toList_nil_iff x.f0
 refine EvQ.ite (fun h2 => EvQ.now ?_) (fun h2 => EvQ.bindE (spec_WordOk_ev x.f1 (by omega)) (EvQ.now ?_))
 ·rw [h2] at e
  have : x.f0.size = 0 := by simpa using e
  simp [this]
 ·have : ¬ x.f0.size = 0 := by
   intro h3
   rw [decide_eq_true h3] at e
   exact h2 (by simpa using e)
  rw [h1]
  simp [this]
theorem spec_TableOk_l0 (l : List S61) (m : Int) (hl : Small l) (d : Nat) : ∀ i : Nat, l.length - i = d → i ≤ l.length →
  Ev (fun k => spec_TableOk.l0 k i l m) (fieldsOk (l.drop i) && decide (0 ≤ m ∧ m ≤ 64) && decide (tsize l ≤ m)) := by
 have hlen := hl.1
 induction d with
 | zero =>
  intro i hd hi
  have e : i = l.length := by omega
  subst e
  refine Ev.step (fun k => by rw [spec_TableOk.l0]) (Ev.neg (by omega) ?_)
  rw [l6In_eq, List.drop_length]
  simp only [Option.bind_some]
  refine EvQ.ev (EvQ.ite (fun h1 => EvQ.bindE (l3Size_ev l hl) (EvQ.now ?_)) (fun h1 => EvQ.now ?_))
  ·rw [h1]; rfl
  ·rw [decide_eq_false (fun h => h1 (decide_eq_true h))]; simp
 | succ d ih =>
  intro i hd hi
  have hj : i < l.length := by omega
  have hs : Small1 (rd_T61 l (i : Int)) := by rw [rdT_get l i hj]; exact hl.2 _ (List.getElem_mem hj)
  refine Ev.step (fun k => by rw [spec_TableOk.l0]) (EvQ.ev (EvQ.pos (by omega) (EvQ.pos (by omega) (EvQ.bindE (spec_FieldOk_ev _ hs) ?_))))
  have e : fieldsOk (l.drop i) = ((fieldOk (rd_T61 l (i : Int)) && !(rd_T61 l (i : Int)).f2) && fieldsOk (l.drop (i + 1))) := by rw [drop_rd l i hj]; rfl
  rw [e]
  refine EvQ.ite (fun h1 => EvQ.ite (fun h2 => EvQ.now (by simp [h2])) (fun h2 => ?_)) (fun h1 => EvQ.now (by simp [h1]))
  rw [w64_0 _ (by omega) (by omega), show ((i : Int) + 1) = ((i + 1 : Nat) : Int) by omega]
  refine EvQ.of_ev (ih (i + 1) (by omega) (by omega)) ?_
  have h3 : (rd_T61 l (i : Int)).f2 = false := by simpa using h2
  rw [h1, h3]; rfl
theorem spec_TableOk_ev (l : List S61) (m : Int) (hl : Small l) : Ev (fun k => spec_TableOk.f k l m) (tableOk l m) := by
 unfold spec_TableOk.f
 have h := spec_TableOk_l0 l m hl l.length 0 (by omega) (by omega)
 have e : tableOk l m = (fieldsOk (l.drop 0) && decide (0 ≤ m ∧ m ≤ 64) && decide (tsize l ≤ m)) := by
  unfold tableOk
  rw [List.drop_zero, Bool.and_comm (decide (0 ≤ m ∧ m ≤ 64))]
 rw [e]
 exact h
def headOk (h : List S61) : Bool := h.all fieldOk && decide (h.length ≤ 6)
theorem spec_HeadOk_l0 (h : List S61) (hh : h.length ≤ 5000000) (hs : ∀ x ∈ h, Small1 x) (d : Nat) : ∀ i : Nat, h.length - i = d → i ≤ h.length → Ev (fun k => spec_HeadOk.l0 k h i) ((h.drop i).all fieldOk && decide (h.length ≤ 6)) := by
 induction d with
 | zero =>
  intro i hd hi
  refine Ev.step (fun k => by rw [spec_HeadOk.l0]) (EvQ.ev (EvQ.neg (by omega) (EvQ.now ?_)))
  rw [List.drop_eq_nil_of_le (by omega)]
  simp only [List.all_nil, Bool.true_and, decide_eq_decide]
  omega
 | succ d ih =>
  intro i hd hi
  have hj : i < h.length := by omega
  have ew : wrap64 ((i : Int) + 1) = ((i + 1 : Nat) : Int) := by rw [w64_0 _ (by omega) (by omega)]; omega
  rw [drop_rd h i hj]
  have hmem : rd_T61 h (i : Int) ∈ h := by rw [rdT_get h i hj]; exact List.getElem_mem hj
  refine Ev.step (fun k => by rw [spec_HeadOk.l0]) (EvQ.ev (EvQ.pos (by omega) (EvQ.pos (by omega) ?_)))
  simp only [ew]
  generalize rd_T61 h (i : Int) = x at *
  refine EvQ.bindE (spec_FieldOk_ev x (hs x hmem)) (EvQ.ite (fun h1 => ?_) (fun h1 => EvQ.now (by simp [h1])))
  refine EvQ.of_ev (ih (i + 1) (by omega) (by omega)) ?_
  rw [List.all_cons, h1, Bool.true_and]
theorem spec_HeadOk_ev (h : List S61) (hh : h.length ≤ 5000000) (hs : ∀ x ∈ h, Small1 x) : Ev (fun k => spec_HeadOk.f k h) (headOk h) := by
 unfold spec_HeadOk.f headOk
 have h1 := spec_HeadOk_l0 h hh hs h.length 0 (by omega) (by omega)
 rwa [List.drop_zero] at h1
theorem impl_HeadOk_1_ev (x : S61) (h : Small1 x) : Ev (fun k => impl_HeadOk_1.f k x.f0 x.f1 x.f2) (!fieldOk x) := by
 unfold impl_HeadOk_1.f
 exact EvQ.ev (EvQ.bindE (impl_FieldOk_ev x h) (EvQ.now rfl))
theorem impl_HeadOk_ev (h : List S61) (hs : ∀ x ∈ h, Small1 x) : Ev (fun k => impl_HeadOk.f k h) (headOk h) := by
 unfold impl_HeadOk.f headOk
 refine EvQ.ev (EvQ.ite (fun h1 => ?_) (fun h1 => EvQ.now ?_))
 ·have hc := contains_ev 86 (fun x => !fieldOk x) h (by unfold ContainsFunc_Field.known; simp) (by omega) (fun x hx => by
   have := impl_HeadOk_1_ev x (hs x hx)
   unfold ContainsFunc_Field.p
   simpa using this)
  rw [any_not_all fieldOk] at hc
  refine EvQ.bindE hc (EvQ.now ?_)
  rw [decide_eq_true (by omega : h.length ≤ 6)]
  simp
 ·rw [decide_eq_false (by omega : ¬ h.length ≤ 6)]
  simp
def firstAt_Frame (p : S79 → Bool) : List S79 → Int → Int
 | [], _ => -1
 | x :: l, i => if p x then i else firstAt_Frame p l (i + 1)
theorem firstAt_any_Frame (p : S79 → Bool) (l : List S79) : ∀ i : Int, 0 ≤ i → decide (0 ≤ firstAt_Frame p l i) = l.any p := by
 induction l with
 | nil => intro i _; rfl
 | cons x l ih =>
  intro i hi
  unfold firstAt_Frame
  by_cases h : p x = true
  ·rw [if_pos h, List.any_cons, h]; simpa using hi
  ·rw [if_neg h, List.any_cons, ih _ (by omega)]; simp [h]
theorem idxFrom_ev_Frame (p : Nat → S79 → Option Bool) (q : S79 → Bool) (l : List S79) (h : ∀ x ∈ l, Ev (fun k => p k x) (q x)) : ∀ i : Int, Ev (fun k => idxFrom_Frame (p k) l i) (firstAt_Frame q l i) := by
 induction l with
 | nil => intro i; unfold idxFrom_Frame firstAt_Frame; exact Ev.now _
 | cons x l ih =>
  intro i
  unfold idxFrom_Frame firstAt_Frame
  refine EvQ.ev (EvQ.bindE (h x List.mem_cons_self) (EvQ.ite (fun h1 => EvQ.now (by rw [if_pos h1])) (fun h1 => ?_)))
  rw [if_neg h1]
  exact EvQ.of_ev (ih (fun y hy => h y (List.mem_cons_of_mem _ hy)) (i + 1)) rfl
theorem contains_ev_Frame (g : Nat) (q : S79 → Bool) (l : List S79) (hk : ContainsFunc_Frame.known g) (hl : l.length ≤ 1000000000) (h : ∀ x ∈ l, Ev (fun k => ContainsFunc_Frame.p k g x) (q x)) :
  Ev (fun k => ContainsFunc_Frame.f k l g) (l.any q) := by
 unfold ContainsFunc_Frame.f
 refine Ev.pos ⟨hl, hk⟩ (EvQ.ev (EvQ.bindE (idxFrom_ev_Frame (fun k => ContainsFunc_Frame.p k g) q l h 0) (EvQ.now (firstAt_any_Frame q l 0 (by omega)))))
theorem any_not_all_Frame (p : S79 → Bool) (l : List S79) : l.any (fun x => !p x) = !l.all p := by
 induction l with
 | nil => rfl
 | cons x l ih => rw [List.any_cons, List.all_cons, ih]; cases p x <;> rfl
theorem Ev.eq {α : Type} {r : α} {o : Option α} (h : o = some r) : Ev (fun _ => o) r := ⟨0, fun _ _ => h⟩
theorem Ev.and {g f : Nat → Option Bool} {b c : Bool} (h : Ev g b) (k : b = true → Ev f c) : Ev (fun n => (g n).bind fun t => if t = true then f n else some false) (b && c) := by
 refine EvQ.ev (EvQ.bindE h (EvQ.ite (fun h1 => EvQ.of_ev (k h1) (by rw [h1]; rfl)) (fun h1 => EvQ.now ?_)))
 cases b
 ·rfl
 ·exact absurd rfl h1
theorem Ev.one {g : Nat → Option Bool} {b : Bool} (h : Ev g b) : Ev (fun n => (g n).bind fun t => some t) b := EvQ.ev (EvQ.bindE h (EvQ.now rfl))
def inr (a b c : Int) : Bool := decide (b ≤ a ∧ a ≤ c)
def idOk (n : Int) : Bool := inr n 1 7 && (Int.tmod n 2 == 1)
def flowOk (s r : Int) : Bool := inr s 0 31 && inr r 0 31
theorem isStream_eq (n : Int) : impl_isStream.f n = some (idOk n) := by
 unfold impl_isStream.f idOk inr
 rw [in_eq]
 simp only [Option.bind_some]
 by_cases h : 1 ≤ n ∧ n ≤ 7 <;> simp [h]
theorem l12Stream_eq (n : Int) : spec_l12Stream.f n = some (idOk n) := by
 unfold spec_l12Stream.f idOk inr
 rw [l6In_eq]
 simp only [Option.bind_some]
 by_cases h : 1 ≤ n ∧ n ≤ 7 <;> simp [h]
theorem flow_eq (s r : Int) : impl_FlowOk.f s r = some (flowOk s r) := by
 unfold impl_FlowOk.f flowOk inr
 simp only [in_eq, Option.bind_some]
 by_cases h : 0 ≤ s ∧ s ≤ 31 <;> simp [h]
theorem sflow_eq (s r : Int) : spec_FlowOk.f s r = some (flowOk s r) := by
 unfold spec_FlowOk.f flowOk inr
 simp only [l6In_eq, Option.bind_some]
 by_cases h : 0 ≤ s ∧ s ≤ 31 <;> simp [h]
def frameOk (x : S79) : Bool :=
 if x.f0 = 8 then (decide (x.f2 = 0) || idOk x.f2) && (!x.f1 && (decide ((x.f3.size : Int) = 1) && inr (wrap64 (bt x.f3 0)) 1 31))
 else idOk x.f2 && (if x.f0 = 0 ∨ x.f0 = 1 then decide ((x.f3.size : Int) ≤ 200) else decide (x.f0 = 3) && ((x.f3.toList == ([] : List UInt8)) && !x.f1))
theorem frame_eq (x : S79) : impl_FrameOk.f x.f0 x.f1 x.f2 x.f3 = some (frameOk x) := by
 unfold impl_FrameOk.f frameOk
 simp only [in_eq, isStream_eq, Option.bind_some]
 by_cases h8 : x.f0 = 8
 ·rw [if_pos h8, if_pos h8]
  cases h1 : x.f1 <;> by_cases hs : (x.f3.size : Int) = 1 <;> by_cases h0 : x.f2 = 0 <;> cases hi : idOk x.f2 <;> simp [hs, h0, hi, inr]
 ·rw [if_neg h8, if_neg h8]
  cases hi : idOk x.f2
  ·simp
  ·by_cases h0 : x.f0 = 0
   ·simp [h0]
   ·by_cases h1 : x.f0 = 1
    ·simp [h1]
    ·by_cases h3 : x.f0 = 3
     ·by_cases hl : x.f3.toList = ([] : List UInt8) <;> simp [h3, hl]
     ·simp [h0, h1, h3]
theorem sframe_ev (x : S79) : Ev (fun k => spec_FrameOk.f k x.f0 x.f1 x.f2 x.f3) (frameOk x) := by
 refine ⟨1, fun k hk => ?_⟩
 obtain ⟨k, rfl⟩ : ∃ m, k = m + 1 := ⟨k - 1, by omega⟩
 unfold spec_FrameOk.f frameOk
 simp only [spec_FrameOk.j0, l6In_eq, l12Stream_eq, Option.bind_some]
 by_cases h8 : x.f0 = 8
 ·rw [if_pos h8, if_neg (by omega)]
  cases h1 : x.f1 <;> by_cases hs : (x.f3.size : Int) = 1 <;> by_cases h0 : x.f2 = 0 <;> cases hi : idOk x.f2 <;> simp [hs, h0, h8, hi, inr]
 ·rw [if_neg h8]
  cases hi : idOk x.f2
  ·by_cases h0 : x.f0 = 0
   ·simp [h0]
   ·by_cases h1 : x.f0 = 1
    ·simp [h1]
    ·by_cases h3 : x.f0 = 3 <;> simp [h0, h1, h3, h8]
  ·by_cases h0 : x.f0 = 0
   ·simp [h0]
   ·by_cases h1 : x.f0 = 1
    ·simp [h1]
    ·by_cases h3 : x.f0 = 3
     ·by_cases hl : x.f3.toList = ([] : List UInt8) <;> cases h1 : x.f1 <;> simp [h3, hl]
     ·simp [h0, h1, h3, h8]
theorem EndOk_1_eq (x : S79) : impl_EndOk_1.f x.f0 x.f1 x.f2 x.f3 = some (!frameOk x) := by
 unfold impl_EndOk_1.f
 rw [frame_eq]
 rfl
def SmS (x : S58) : Prop := Small x.f2 ∧ x.f3.size ≤ 4000000 ∧ Small x.f7 ∧ x.f8.size ≤ 4000000
def streamOk (x : S58) : Bool := inr x.f1 1 3 && (headOk x.f2 && (headOk x.f7 && (wordOk x.f3 && (wordOk x.f8 && (inr x.f6 0 (x.f3.size : Int) && flowOk x.f10.f0 x.f10.f1)))))
theorem stream_ev (x : S58) (h : SmS x) : Ev (fun k => impl_streamOk.f k x.f0 x.f1 x.f2 x.f3 x.f4 x.f5 x.f6 x.f7 x.f8 x.f9 x.f10.f0 x.f10.f1) (streamOk x) := by
 obtain ⟨h2, h3, h7, h8⟩ := h
 unfold impl_streamOk.f streamOk
 exact Ev.and (Ev.eq (in_eq _ _ _)) fun _ => Ev.and (impl_HeadOk_ev x.f2 h2.2) fun _ => Ev.and (impl_HeadOk_ev x.f7 h7.2) fun _ => Ev.and (impl_WordOk_ev x.f3 (by omega)) fun _ => Ev.and (impl_WordOk_ev x.f8 (by omega)) fun _ => Ev.and (Ev.eq (in_eq _ _ _)) fun _ => Ev.one (Ev.eq (flow_eq _ _))
theorem sstream_ev (x : S58) (h : SmS x) : Ev (fun k => spec_l21Stream.f k x.f0 x.f1 x.f2 x.f3 x.f4 x.f5 x.f6 x.f7 x.f8 x.f9 x.f10.f0 x.f10.f1) (idOk x.f0 && streamOk x) := by
 obtain ⟨h2, h3, h7, h8⟩ := h
 have l2 := h2.1
 have l7 := h7.1
 unfold spec_l21Stream.f streamOk
 exact Ev.and (Ev.eq (l12Stream_eq _)) fun _ => Ev.and (Ev.eq (l6In_eq _ _ _)) fun _ => Ev.and (spec_HeadOk_ev x.f2 (by omega) h2.2) fun _ => Ev.and (spec_HeadOk_ev x.f7 (by omega) h7.2) fun _ => Ev.and (spec_WordOk_ev x.f3 (by omega)) fun _ => Ev.and (spec_WordOk_ev x.f8 (by omega)) fun _ => Ev.and (Ev.eq (l6In_eq _ _ _)) fun _ => Ev.one (Ev.eq (sflow_eq _ _))
theorem rdS_get (l : List S58) (i : Nat) (h : i < l.length) : rd_T58 l (i : Int) = l[i] := by
 unfold rd_T58
 rw [Int.toNat_natCast, List.getD_eq_getElem?_getD, List.getElem?_eq_getElem h]
 rfl
theorem rdF_get (l : List S79) (i : Nat) (h : i < l.length) : rd_T79 l (i : Int) = l[i] := by
 unfold rd_T79
 rw [Int.toNat_natCast, List.getD_eq_getElem?_getD, List.getElem?_eq_getElem h]
 rfl
def stepOk (ans : Bool) (l : List S58) (i : Nat) : Bool :=
 idOk (rd_T58 l i).f0 && ((decide (i = 0) || decide ((rd_T58 l ((i : Int) - 1)).f0 < (rd_T58 l i).f0)) && ((ans || decide ((rd_T58 l i).f0 = 2 * (i : Int) + 1)) && streamOk (rd_T58 l i)))
def loopOk (ans : Bool) (l : List S58) : Nat → Nat → Bool
 | 0, _ => true
 | d + 1, i => stepOk ans l i && loopOk ans l d (i + 1)
def restOk (l1 : List S61) (m1 : Int) (l3 : List S61) (m3 : Int) (c : ByteArray) (s r : Int) (w : List S79) : Bool :=
 decide ((w.length : Int) ≤ 60) && (w.all frameOk && (decide ((c.size : Int) ≤ 600) && (tableOk l1 m1 && (tableOk l3 m3 && flowOk s r))))
def endOk (ans : Bool) (l1 : List S61) (m1 : Int) (l3 : List S61) (m3 : Int) (c : ByteArray) (l : List S58) (s r : Int) (w : List S79) : Bool := loopOk ans l l.length 0 && restOk l1 m1 l3 m3 c s r w
def SmE (l1 l3 : List S61) (c : ByteArray) (l : List S58) (w : List S79) : Prop :=
 Small l1 ∧ Small l3 ∧ c.size ≤ 4000000 ∧ (l.length ≤ 4000000 ∧ ∀ x ∈ l, SmS x) ∧ (w.length ≤ 4000000 ∧ ∀ x ∈ w, x.f3.size ≤ 4000000)
theorem irest_ev (l1 : List S61) (m1 : Int) (l3 : List S61) (m3 : Int) (c : ByteArray) (s r : Int) (w : List S79) (h1 : Small l1) (h3 : Small l3) :
  Ev (fun k => if (w.length : Int) ≤ 60 then ((ContainsFunc_Frame.f k w 54).bind fun t175 => (if t175 = true then (some false) else (if (c.size : Int) ≤ 600 then ((impl_TableOk.f k l1 m1).bind fun t176 => (if t176 = true then ((impl_TableOk.f k l3 m3).bind fun t177 => (if t177 = true then ((impl_FlowOk.f s r).bind fun t178 => (some t178)) else (some false))) else (some false))) else (some false)))) else (some false)) (restOk l1 m1 l3 m3 c s r w) := by
 unfold restOk
 refine EvQ.ev (EvQ.ite (fun h60 => ?_) (fun h60 => EvQ.now (by rw [decide_eq_false h60]; rfl)))
 have hc := contains_ev_Frame 54 (fun x => !frameOk x) w (by unfold ContainsFunc_Frame.known; simp) (by omega) (fun x hx => by
  unfold ContainsFunc_Frame.p
  exact Ev.eq (by rw [if_pos rfl]; exact EndOk_1_eq x))
 rw [any_not_all_Frame frameOk] at hc
 rw [decide_eq_true h60, Bool.true_and]
 refine EvQ.bindE hc (EvQ.ite (fun ha => EvQ.now ?_) (fun ha => ?_))
 ·cases hw : w.all frameOk
  ·rfl
  ·rw [hw] at ha; simp at ha
 ·have hw : w.all frameOk = true := by simpa using ha
  rw [hw, Bool.true_and]
  refine EvQ.ite (fun h6 => ?_) (fun h6 => EvQ.now (by rw [decide_eq_false h6]; rfl))
  rw [decide_eq_true h6, Bool.true_and]
  exact EvQ.of_ev (Ev.and (impl_TableOk_ev l1 m1 h1) fun _ => Ev.and (impl_TableOk_ev l3 m3 h3) fun _ => Ev.one (Ev.eq (flow_eq _ _))) rfl
theorem iend_l0 (ans : Bool) (l1 : List S61) (m1 : Int) (l3 : List S61) (m3 : Int) (c : ByteArray) (l : List S58) (s r : Int) (w : List S79) (bad : Bool) (h : SmE l1 l3 c l w) (d : Nat) : ∀ i : Nat, l.length - i = d → i ≤ l.length →
  Ev (fun k => impl_EndOk.l0 k l (l.length : Int) i ans l1 m1 l3 m3 c l s r w bad) (loopOk ans l d i && restOk l1 m1 l3 m3 c s r w) := by
 obtain ⟨h1, h3, hc, ⟨hl, hs⟩, hw⟩ := h
 induction d with
 | zero =>
  intro i hd hi
  refine Ev.step (fun k => by rw [impl_EndOk.l0]) (Ev.neg (by omega) ?_)
  unfold loopOk
  rw [Bool.true_and]
  exact irest_ev l1 m1 l3 m3 c s r w h1 h3
 | succ d ih =>
  intro i hd hi
  have hj : i < l.length := by omega
  have hmem : SmS (rd_T58 l (i : Int)) := by rw [rdS_get l i hj]; exact hs _ (List.getElem_mem hj)
  refine Ev.step (fun k => by rw [impl_EndOk.l0]) (EvQ.ev (EvQ.pos (by omega) (EvQ.pos (by omega) (EvQ.pos (by omega) ?_))))
  have e1 : wrap64 ((i : Int) - 1) = (i : Int) - 1 := w64 _ (by omega) (by omega)
  have e2 : wrap64 ((wrap64 (2 * (i : Int))) + 1) = 2 * (i : Int) + 1 := by rw [w64 (2 * (i : Int)) (by omega) (by omega), w64 _ (by omega) (by omega)]
  have e3 : wrap64 ((i : Int) + 1) = ((i + 1 : Nat) : Int) := by rw [w64 _ (by omega) (by omega)]; omega
  rw [isStream_eq]
  simp only [Option.bind_some, e1, e2, e3]
  have hT := Ev.and (stream_ev _ hmem) (fun _ => ih (i + 1) (by omega) (by omega))
  simp only [loopOk, stepOk]
  generalize rd_T58 l (i : Int) = x at *
  generalize rd_T58 l ((i : Int) - 1) = y at *
  refine EvQ.ite (fun hid => ?_) (fun hid => EvQ.now (by rw [Bool.not_eq_true] at hid; simp [hid]))
  have hS : EvQ (fun k => if ans = true then ((impl_streamOk.f k x.f0 x.f1 x.f2 x.f3 x.f4 x.f5 x.f6 x.f7 x.f8 x.f9 x.f10.f0 x.f10.f1).bind fun t => if t = true then impl_EndOk.l0 k l (l.length : Int) ((i + 1 : Nat) : Int) ans l1 m1 l3 m3 c l s r w bad else some false) else (if x.f0 = 2 * (i : Int) + 1 then ((impl_streamOk.f k x.f0 x.f1 x.f2 x.f3 x.f4 x.f5 x.f6 x.f7 x.f8 x.f9 x.f10.f0 x.f10.f1).bind fun t => if t = true then impl_EndOk.l0 k l (l.length : Int) ((i + 1 : Nat) : Int) ans l1 m1 l3 m3 c l s r w bad else some false) else some false)) (fun b => b = ((ans || decide (x.f0 = 2 * (i : Int) + 1)) && (streamOk x && (loopOk ans l d (i + 1) && restOk l1 m1 l3 m3 c s r w)))) := by
   refine EvQ.ite (fun ha => EvQ.of_ev hT (by rw [ha]; simp)) (fun ha => ?_)
   rw [Bool.not_eq_true] at ha
   exact EvQ.ite (fun hb => EvQ.of_ev hT (by rw [decide_eq_true hb]; simp)) (fun hb => EvQ.now (by rw [decide_eq_false hb, ha]; simp))
  by_cases h0 : i = 0
  ·subst h0
   refine EvQ.neg (by omega) ?_
   refine hS.mono (fun b hb => ?_)
   rw [hb, hid]; simp [Bool.and_assoc]
  ·refine EvQ.pos (by omega) (EvQ.pos (by omega) (EvQ.pos (by omega) ?_))
   refine EvQ.ite (fun hle => EvQ.now (by rw [decide_eq_false (by omega : ¬ y.f0 < x.f0), decide_eq_false h0]; simp)) (fun hle => ?_)
   refine hS.mono (fun b hb => ?_)
   rw [hb, hid, decide_eq_true (by omega : y.f0 < x.f0)]; simp [Bool.and_assoc]
theorem iend_ev (ans : Bool) (l1 : List S61) (m1 : Int) (l3 : List S61) (m3 : Int) (c : ByteArray) (l : List S58) (s r : Int) (w : List S79) (bad : Bool) (h : SmE l1 l3 c l w) :
  Ev (fun k => impl_EndOk.f k ans l1 m1 l3 m3 c l s r w bad) (endOk ans l1 m1 l3 m3 c l s r w) := iend_l0 ans l1 m1 l3 m3 c l s r w bad h l.length 0 (by omega) (by omega)
theorem send_l1 (ans : Bool) (l1 : List S61) (m1 : Int) (l3 : List S61) (m3 : Int) (c : ByteArray) (l : List S58) (s r : Int) (w : List S79) (bad : Bool) (h : SmE l1 l3 c l w) (d : Nat) : ∀ i : Nat, w.length - i = d → i ≤ w.length →
  Ev (fun k => spec_EndOk.l1 k i ans l1 m1 l3 m3 c l s r w bad) ((w.drop i).all frameOk && (tableOk l1 m1 && (tableOk l3 m3 && (flowOk s r && (decide ((c.size : Int) ≤ 600) && decide ((w.length : Int) ≤ 60)))))) := by
 obtain ⟨h1, h3, hc, ⟨hl, hs⟩, hw⟩ := h
 induction d with
 | zero =>
  intro i hd hi
  refine Ev.step (fun k => by rw [spec_EndOk.l1]) (Ev.neg (by omega) ?_)
  rw [List.drop_eq_nil_of_le (by omega), List.all_nil, Bool.true_and]
  refine Ev.and (spec_TableOk_ev l1 m1 h1) fun _ => Ev.and (spec_TableOk_ev l3 m3 h3) fun _ => Ev.and (Ev.eq (sflow_eq _ _)) fun _ => ?_
  exact EvQ.ev (EvQ.ite (fun h6 => EvQ.now (by rw [decide_eq_true h6, Bool.true_and])) (fun h6 => EvQ.now (by rw [decide_eq_false h6, Bool.false_and])))
 | succ d ih =>
  intro i hd hi
  have hj : i < w.length := by omega
  have e3 : wrap64 ((i : Int) + 1) = ((i + 1 : Nat) : Int) := by rw [w64 _ (by omega) (by omega)]; omega
  refine Ev.step (fun k => by rw [spec_EndOk.l1]) (EvQ.ev (EvQ.pos (by omega) (EvQ.pos (by omega) ?_)))
  simp only [e3]
  rw [List.drop_eq_getElem_cons hj, List.all_cons, rdF_get w i hj, Bool.and_assoc]
  exact EvQ.of_ev (Ev.and (sframe_ev _) fun _ => ih (i + 1) (by omega) (by omega)) rfl
theorem send_l0 (ans : Bool) (l1 : List S61) (m1 : Int) (l3 : List S61) (m3 : Int) (c : ByteArray) (l : List S58) (s r : Int) (w : List S79) (bad : Bool) (h : SmE l1 l3 c l w) (d : Nat) : ∀ i : Nat, l.length - i = d → i ≤ l.length →
  Ev (fun k => spec_EndOk.l0 k i ans l1 m1 l3 m3 c l s r w bad) (loopOk ans l d i && restOk l1 m1 l3 m3 c s r w) := by
 have hh := h
 obtain ⟨h1, h3, hc, ⟨hl, hs⟩, hw⟩ := h
 induction d with
 | zero =>
  intro i hd hi
  refine Ev.step (fun k => by rw [spec_EndOk.l0]) (Ev.neg (by omega) ?_)
  have e := send_l1 ans l1 m1 l3 m3 c l s r w bad hh w.length 0 (by omega) (by omega)
  unfold loopOk restOk
  rw [List.drop_zero] at e
  refine EvQ.ev (EvQ.of_ev e ?_)
  cases w.all frameOk <;> cases tableOk l1 m1 <;> cases tableOk l3 m3 <;> cases flowOk s r <;> cases decide ((c.size : Int) ≤ 600) <;> cases decide ((w.length : Int) ≤ 60) <;> rfl
 | succ d ih =>
  intro i hd hi
  have hj : i < l.length := by omega
  have hmem : SmS (rd_T58 l (i : Int)) := by rw [rdS_get l i hj]; exact hs _ (List.getElem_mem hj)
  refine Ev.step (fun k => by rw [spec_EndOk.l0]) (EvQ.ev (EvQ.pos (by omega) (EvQ.pos (by omega) ?_)))
  have e1 : wrap64 ((i : Int) - 1) = (i : Int) - 1 := w64 _ (by omega) (by omega)
  have e2 : wrap64 ((wrap64 (2 * (i : Int))) + 1) = 2 * (i : Int) + 1 := by rw [w64 (2 * (i : Int)) (by omega) (by omega), w64 _ (by omega) (by omega)]
  have e3 : wrap64 ((i : Int) + 1) = ((i + 1 : Nat) : Int) := by rw [w64 _ (by omega) (by omega)]; omega
  simp only [e1, e2, e3]
  have hS0 := sstream_ev _ hmem
  have hT := ih (i + 1) (by omega) (by omega)
  simp only [loopOk, stepOk]
  generalize rd_T58 l (i : Int) = x at *
  generalize rd_T58 l ((i : Int) - 1) = y at *
  refine EvQ.bindE hS0 (EvQ.ite (fun hid => ?_) (fun hid => EvQ.now ?_))
  ·rw [Bool.and_eq_true] at hid
   have hS : EvQ (fun k => if ans = true then (spec_EndOk.l0 k ((i + 1 : Nat) : Int) ans l1 m1 l3 m3 c l s r w bad) else (if x.f0 = 2 * (i : Int) + 1 then (spec_EndOk.l0 k ((i + 1 : Nat) : Int) ans l1 m1 l3 m3 c l s r w bad) else some false)) (fun b => b = ((ans || decide (x.f0 = 2 * (i : Int) + 1)) && (loopOk ans l d (i + 1) && restOk l1 m1 l3 m3 c s r w))) := by
    refine EvQ.ite (fun ha => EvQ.of_ev hT (by rw [ha]; simp)) (fun ha => ?_)
    rw [Bool.not_eq_true] at ha
    exact EvQ.ite (fun hb => EvQ.of_ev hT (by rw [decide_eq_true hb]; simp)) (fun hb => EvQ.now (by rw [decide_eq_false hb, ha]; simp))
   by_cases h0 : i = 0
   ·subst h0
    refine EvQ.neg (by omega) (hS.mono (fun b hb => ?_))
    rw [hb, hid.1, hid.2]; simp [Bool.and_assoc]
   ·refine EvQ.pos (by omega) (EvQ.pos (by omega) (EvQ.pos (by omega) ?_))
    refine EvQ.ite (fun hle => EvQ.now (by rw [decide_eq_false (by omega : ¬ y.f0 < x.f0), decide_eq_false h0]; simp)) (fun hle => ?_)
    refine hS.mono (fun b hb => ?_)
    rw [hb, hid.1, hid.2, decide_eq_true (by omega : y.f0 < x.f0)]; simp [Bool.and_assoc]
  ·cases h9 : idOk x.f0
   ·simp
   ·cases h8 : streamOk x
    ·simp
    ·rw [h9, h8] at hid; exact absurd rfl hid
theorem send_ev (ans : Bool) (l1 : List S61) (m1 : Int) (l3 : List S61) (m3 : Int) (c : ByteArray) (l : List S58) (s r : Int) (w : List S79) (bad : Bool) (h : SmE l1 l3 c l w) :
  Ev (fun k => spec_EndOk.f k ans l1 m1 l3 m3 c l s r w bad) (endOk ans l1 m1 l3 m3 c l s r w) := send_l0 ans l1 m1 l3 m3 c l s r w bad h l.length 0 (by omega) (by omega)
def conv (x : S96) : S61 := ⟨x.f0, x.f1, x.f2⟩
def LSmall (l : List S96) : Prop := l.length ≤ 1048576 ∧ ∀ x ∈ l, x.f0.size ≤ 1048576 ∧ x.f1.size ≤ 1048576
theorem LSmall.conv {l : List S96} (h : LSmall l) : Small (l.map Pure.conv) := ⟨by rw [List.length_map]; have := h.1; omega, fun y hy => by
 obtain ⟨x, hx, rfl⟩ := List.mem_map.1 hy
 have := h.2 x hx
 unfold Small1 Pure.conv
 dsimp only
 omega⟩
theorem lrd_get (l : List S96) (i : Nat) (h : i < l.length) : rd_T96 l (i : Int) = l[i] := by
 unfold rd_T96
 rw [Int.toNat_natCast, List.getD_eq_getElem?_getD, List.getElem?_eq_getElem h]
 rfl
def Fit (x : S96) : Prop := x.f0.size ≤ maxLen ∧ x.f1.size ≤ maxLen
theorem szField_ev (x : S96) (a : Int) (h : Fit x) (h0 : 0 ≤ a) (h1 : a ≤ 1048576) :
  EvQ (fun _ => laws_szField.f x.f0 x.f1 x.f2 a) (fun t => t < 0 ∨ (0 ≤ t ∧ t ≤ a ∧ x.f0.size ≤ 1048576 ∧ x.f1.size ≤ 1048576)) := by
 unfold Fit maxLen at h
 unfold laws_szField.f
 rw [w64 (a - (x.f0.size : Int)) (by omega) (by omega)]
 refine EvQ.ite (fun _ => EvQ.now (.inl (by omega))) (fun h2 => ?_)
 rw [w64 (a - (x.f0.size : Int) - (x.f1.size : Int)) (by omega) (by omega)]
 exact EvQ.ite (fun _ => EvQ.now (.inl (by omega))) (fun h3 => EvQ.now (.inr ⟨by omega, by omega, by omega, by omega⟩))
theorem szFieldS_l0 (l : List S96) (hl : l.length ≤ 1048576) (hf : ∀ x ∈ l, Fit x) (d : Nat) : ∀ (i : Nat) (a : Int), l.length - i = d → i ≤ l.length → 0 ≤ a → a ≤ 1048576 →
  EvQ (fun k => laws_szFieldS.l0 k l a i) (fun t => t < 0 ∨ (0 ≤ t ∧ t ≤ a ∧ ∀ x ∈ l.drop i, x.f0.size ≤ 1048576 ∧ x.f1.size ≤ 1048576)) := by
 induction d with
 | zero =>
  intro i a hd hi h0 h1
  refine EvQ.step (fun k => by rw [laws_szFieldS.l0]) (EvQ.neg (by omega) (EvQ.now (.inr ⟨h0, Int.le_refl a, ?_⟩)))
  rw [List.drop_eq_nil_of_le (by omega)]
  intro x hx; cases hx
 | succ d ih =>
  intro i a hd hi h0 h1
  have hj : i < l.length := by omega
  refine EvQ.step (fun k => by rw [laws_szFieldS.l0]) (EvQ.pos (by omega) (EvQ.pos (by omega) ?_))
  rw [lrd_get l i hj]
  refine EvQ.bind (szField_ev _ a (hf _ (List.getElem_mem hj)) h0 h1) ?_
  intro t ht
  refine EvQ.ite (fun h2 => EvQ.now (.inl (by omega))) (fun h2 => ?_)
  rcases ht with h3 | ⟨h3, h4, h5, h6⟩
  ·omega
  rw [w64_0 _ (by omega) (by omega), show ((i : Int) + 1) = ((i + 1 : Nat) : Int) by omega]
  refine (ih (i + 1) t (by omega) (by omega) h3 (by omega)).mono ?_
  rintro r (hr | ⟨hr, hr1, hr2⟩)
  ·exact .inl hr
  ·refine .inr ⟨hr, by omega, ?_⟩
   rw [List.drop_eq_getElem_cons hj]
   intro x hx
   rcases List.mem_cons.1 hx with h7 | h7
   ·subst h7; exact ⟨h5, h6⟩
   ·exact hr2 x h7
theorem szFieldS_ev (l : List S96) (a : Int) (hl : l.length ≤ maxLen) (hf : ∀ x ∈ l, Fit x) (h0 : 0 ≤ a) (h1 : a ≤ 1048576) :
  EvQ (fun k => laws_szFieldS.f k l a) (fun t => t < 0 ∨ (0 ≤ t ∧ t ≤ a ∧ LSmall l)) := by
 unfold maxLen at hl
 unfold laws_szFieldS.f
 rw [w64 _ (by omega) (by omega)]
 refine EvQ.ite (fun _ => EvQ.now (.inl (by omega))) (fun h2 => ?_)
 refine (szFieldS_l0 l (by omega) hf l.length 0 _ (by omega) (by omega) (by omega) (by omega)).mono ?_
 rintro r (hr | ⟨hr, hr1, hr2⟩)
 ·exact .inl hr
 ·exact .inr ⟨hr, by omega, by omega, by simpa using hr2⟩
theorem set_take {α : Type} (l : List α) (i : Nat) (v : α) (h : i < l.length) : (l.set i v).take (i + 1) = l.take i ++ [v] := by
 rw [List.take_succ_eq_append_getElem (by simpa using h), List.getElem_set_self, List.take_set, List.set_eq_of_length_le (by rw [List.length_take]; omega)]
theorem toFieldS_l0 (l : List S96) (hl : l.length ≤ 1048576) (d : Nat) : ∀ (i : Nat) (x3 : List S61), l.length - i = d → i ≤ l.length → x3.length = l.length → x3.take i = (l.take i).map conv →
  Ev (fun k => laws_toFieldS.l0 k l x3 i) (l.map conv) := by
 induction d with
 | zero =>
  intro i x3 hd hi hx ht
  refine Ev.step (fun k => by rw [laws_toFieldS.l0]) (EvQ.ev (EvQ.neg (by omega) (EvQ.now ?_)))
  have e : i = l.length := by omega
  subst e
  rw [List.take_length, ← hx, List.take_length] at ht
  exact ht
 | succ d ih =>
  intro i x3 hd hi hx ht
  have hj : i < l.length := by omega
  refine Ev.step (fun k => by rw [laws_toFieldS.l0]) (EvQ.ev (EvQ.pos (by omega) (EvQ.pos (by omega) ?_)))
  rw [lrd_get l i hj]
  unfold laws_toField.f
  simp only [Option.bind_some]
  refine EvQ.pos (by omega) ?_
  rw [w64_0 _ (by omega) (by omega), show ((i : Int) + 1) = ((i + 1 : Nat) : Int) by omega, Int.toNat_natCast]
  refine EvQ.of_ev (ih (i + 1) _ (by omega) (by omega) (by rw [List.length_set]; exact hx) ?_) rfl
  rw [set_take x3 i _ (by omega), ht, List.take_succ_eq_append_getElem hj, List.map_append]
  rfl
theorem toFieldS_ev (l : List S96) (hl : l.length ≤ 1048576) : Ev (fun k => laws_toFieldS.f k l) (l.map conv) := by
 unfold laws_toFieldS.f
 refine Ev.pos (by omega) (Ev.pos (by rw [Int.toNat_natCast]; omega) ?_)
 exact toFieldS_l0 l hl l.length 0 _ (by omega) (by omega) (by simp) (by simp)
theorem eqFieldS_l0 (l : List S61) (hl : l.length ≤ 4000000) (d : Nat) : ∀ i : Nat, l.length - i = d → i ≤ l.length → Ev (fun k => laws_eqFieldS.l0 k l l i) true := by
 induction d with
 | zero =>
  intro i hd hi
  exact Ev.step (fun k => by rw [laws_eqFieldS.l0]) (Ev.neg (by omega) (Ev.now _))
 | succ d ih =>
  intro i hd hi
  refine Ev.step (fun k => by rw [laws_eqFieldS.l0]) (EvQ.ev (EvQ.pos (by omega) (EvQ.pos (by omega) (EvQ.pos (by omega) ?_))))
  generalize rd_T61 l (i : Int) = x
  have e : laws_eqField.f x.f0 x.f1 x.f2 x.f0 x.f1 x.f2 = some true := by unfold laws_eqField.f; simp
  rw [e]
  simp only [Option.bind_some]
  refine EvQ.pos trivial ?_
  rw [w64_0 _ (by omega) (by omega), show ((i : Int) + 1) = ((i + 1 : Nat) : Int) by omega]
  exact EvQ.of_ev (ih (i + 1) (by omega) (by omega)) rfl
theorem eqFieldS_same (l : List S61) (hl : l.length ≤ 4000000) : Ev (fun k => laws_eqFieldS.f k l l) true := by
 unfold laws_eqFieldS.f
 exact Ev.pos rfl (eqFieldS_l0 l hl l.length 0 (by omega) (by omega))
theorem szTable_ev (l : List S96) (m a : Int) (hl : l.length ≤ maxLen) (hf : ∀ x ∈ l, Fit x) (h0 : 0 ≤ a) (h1 : a ≤ 1048576) : EvQ (fun k => laws_szTable.f k l m a) (fun t => t < 0 ∨ (0 ≤ t ∧ t ≤ a ∧ LSmall l)) := by
 unfold laws_szTable.f
 refine EvQ.bind (szFieldS_ev l a hl hf h0 h1) ?_
 intro t ht
 exact EvQ.ite (fun _ => EvQ.now (.inl (by omega))) (fun h2 => EvQ.now ht)
theorem toTable_ev (l : List S96) (m : Int) (hl : l.length ≤ 1048576) : Ev (fun k => laws_toTable.f k l m) (l.map conv, m) := by
 unfold laws_toTable.f
 exact EvQ.ev (EvQ.bindE (toFieldS_ev l hl) (EvQ.now rfl))
theorem eqTable_same (l : List S61) (m : Int) (hl : l.length ≤ 4000000) : Ev (fun k => laws_eqTable.f k l m l m) true := by
 unfold laws_eqTable.f
 exact EvQ.ev (EvQ.bindE (eqFieldS_same l hl) (EvQ.pos rfl (EvQ.pos rfl (EvQ.now rfl))))
def convW (x : S27) : S36 := ⟨x.f0, x.f1⟩
def convS (x : S73) : S58 := ⟨x.f0, x.f1, x.f2.map conv, x.f3, x.f4, x.f5, x.f6, x.f7.map conv, x.f8, x.f9, ⟨x.f10.f0, x.f10.f1⟩⟩
def convF (x : S76) : S79 := ⟨x.f0, x.f1, x.f2, x.f3⟩
def LSmS (x : S73) : Prop := LSmall x.f2 ∧ x.f3.size ≤ 1048576 ∧ LSmall x.f7 ∧ x.f8.size ≤ 1048576
def FitS (x : S73) : Prop := (x.f2.length ≤ maxLen ∧ ∀ y ∈ x.f2, Fit y) ∧ x.f3.size ≤ maxLen ∧ (x.f7.length ≤ maxLen ∧ ∀ y ∈ x.f7, Fit y) ∧ x.f8.size ≤ maxLen
theorem LSmS.conv {x : S73} (h : LSmS x) : SmS (convS x) := by
 obtain ⟨h2, h3, h7, h8⟩ := h
 exact ⟨h2.conv, by show x.f3.size ≤ _; omega, h7.conv, by show x.f8.size ≤ _; omega⟩
theorem lrdS_get (l : List S73) (i : Nat) (h : i < l.length) : rd_T73 l (i : Int) = l[i] := by
 unfold rd_T73
 rw [Int.toNat_natCast, List.getD_eq_getElem?_getD, List.getElem?_eq_getElem h]
 rfl
theorem lrdF_get (l : List S76) (i : Nat) (h : i < l.length) : rd_T76 l (i : Int) = l[i] := by
 unfold rd_T76
 rw [Int.toNat_natCast, List.getD_eq_getElem?_getD, List.getElem?_eq_getElem h]
 rfl
theorem szStream_ev (x : S73) (a : Int) (h : FitS x) (h0 : 0 ≤ a) (h1 : a ≤ 1048576) :
  EvQ (fun k => laws_szStream.f k x.f0 x.f1 x.f2 x.f3 x.f4 x.f5 x.f6 x.f7 x.f8 x.f9 x.f10.f0 x.f10.f1 a) (fun t => t < 0 ∨ (0 ≤ t ∧ t ≤ a ∧ LSmS x)) := by
 obtain ⟨⟨g2, g2'⟩, g3, ⟨g7, g7'⟩, g8⟩ := h
 unfold laws_szStream.f
 have m3 : x.f3.size ≤ maxLen := g3
 have m8 : x.f8.size ≤ maxLen := g8
 unfold maxLen at m3 m8
 refine EvQ.bind (szFieldS_ev x.f2 a g2 g2' h0 h1) ?_
 intro t ht
 refine EvQ.ite (fun _ => EvQ.now (.inl (by omega))) (fun h2 => ?_)
 rcases ht with ht | ⟨t0, t1, s2⟩
 ·omega
 rw [w64 (t - (x.f3.size : Int)) (by omega) (by omega)]
 refine EvQ.ite (fun _ => EvQ.now (.inl (by omega))) (fun h3 => ?_)
 refine EvQ.bind (szFieldS_ev x.f7 _ g7 g7' (by omega) (by omega)) ?_
 intro u hu
 refine EvQ.ite (fun _ => EvQ.now (.inl (by omega))) (fun h4 => ?_)
 rcases hu with hu | ⟨u0, u1, s7⟩
 ·omega
 rw [w64 (u - (x.f8.size : Int)) (by omega) (by omega)]
 exact EvQ.ite (fun _ => EvQ.now (.inl (by omega))) (fun h5 => EvQ.now (.inr ⟨by omega, by omega, s2, by omega, s7, by omega⟩))
theorem szStreamS_l0 (l : List S73) (hl : l.length ≤ 1048576) (hf : ∀ x ∈ l, FitS x) (d : Nat) : ∀ (i : Nat) (a : Int), l.length - i = d → i ≤ l.length → 0 ≤ a → a ≤ 1048576 →
  EvQ (fun k => laws_szStreamS.l0 k l a i) (fun t => t < 0 ∨ (0 ≤ t ∧ t ≤ a ∧ ∀ x ∈ l.drop i, LSmS x)) := by
 induction d with
 | zero =>
  intro i a hd hi h0 h1
  refine EvQ.step (fun k => by rw [laws_szStreamS.l0]) (EvQ.neg (by omega) (EvQ.now (.inr ⟨h0, Int.le_refl a, ?_⟩)))
  rw [List.drop_eq_nil_of_le (by omega)]
  intro x hx; cases hx
 | succ d ih =>
  intro i a hd hi h0 h1
  have hj : i < l.length := by omega
  refine EvQ.step (fun k => by rw [laws_szStreamS.l0]) (EvQ.pos (by omega) (EvQ.pos (by omega) ?_))
  rw [lrdS_get l i hj]
  refine EvQ.bind (szStream_ev _ a (hf _ (List.getElem_mem hj)) h0 h1) ?_
  intro t ht
  refine EvQ.ite (fun h2 => EvQ.now (.inl (by omega))) (fun h2 => ?_)
  rcases ht with h3 | ⟨h3, h4, h5⟩
  ·omega
  rw [w64_0 _ (by omega) (by omega), show ((i : Int) + 1) = ((i + 1 : Nat) : Int) by omega]
  refine (ih (i + 1) t (by omega) (by omega) h3 (by omega)).mono ?_
  rintro r (hr | ⟨hr, hr1, hr2⟩)
  ·exact .inl hr
  ·refine .inr ⟨hr, by omega, ?_⟩
   rw [List.drop_eq_getElem_cons hj]
   intro x hx
   rcases List.mem_cons.1 hx with h7 | h7
   ·subst h7; exact h5
   ·exact hr2 x h7
theorem szStreamS_ev (l : List S73) (a : Int) (hl : l.length ≤ maxLen) (hf : ∀ x ∈ l, FitS x) (h0 : 0 ≤ a) (h1 : a ≤ 1048576) :
  EvQ (fun k => laws_szStreamS.f k l a) (fun t => t < 0 ∨ (0 ≤ t ∧ t ≤ a ∧ l.length ≤ 1048576 ∧ ∀ x ∈ l, LSmS x)) := by
 unfold maxLen at hl
 unfold laws_szStreamS.f
 rw [w64 _ (by omega) (by omega)]
 refine EvQ.ite (fun _ => EvQ.now (.inl (by omega))) (fun h2 => ?_)
 refine (szStreamS_l0 l (by omega) hf l.length 0 _ (by omega) (by omega) (by omega) (by omega)).mono ?_
 rintro r (hr | ⟨hr, hr1, hr2⟩)
 ·exact .inl hr
 ·exact .inr ⟨hr, by omega, by omega, by simpa using hr2⟩
theorem szFrameS_l0 (l : List S76) (hl : l.length ≤ 1048576) (hf : ∀ x ∈ l, x.f3.size ≤ maxLen) (d : Nat) : ∀ (i : Nat) (a : Int), l.length - i = d → i ≤ l.length → 0 ≤ a → a ≤ 1048576 →
  EvQ (fun k => laws_szFrameS.l0 k l a i) (fun t => t < 0 ∨ (0 ≤ t ∧ t ≤ a ∧ ∀ x ∈ l.drop i, x.f3.size ≤ 1048576)) := by
 induction d with
 | zero =>
  intro i a hd hi h0 h1
  refine EvQ.step (fun k => by rw [laws_szFrameS.l0]) (EvQ.neg (by omega) (EvQ.now (.inr ⟨h0, Int.le_refl a, ?_⟩)))
  rw [List.drop_eq_nil_of_le (by omega)]
  intro x hx; cases hx
 | succ d ih =>
  intro i a hd hi h0 h1
  have hj : i < l.length := by omega
  refine EvQ.step (fun k => by rw [laws_szFrameS.l0]) (EvQ.pos (by omega) (EvQ.pos (by omega) ?_))
  rw [lrdF_get l i hj]
  have hm := hf _ (List.getElem_mem hj)
  unfold maxLen at hm
  unfold laws_szFrame.f
  rw [w64 (a - (l[i].f3.size : Int)) (by omega) (by omega)]
  refine EvQ.bind (P := fun t => t < 0 ∨ (0 ≤ t ∧ t ≤ a ∧ l[i].f3.size ≤ 1048576)) (EvQ.ite (fun _ => EvQ.now (.inl (by omega))) (fun _ => EvQ.now (.inr ⟨by omega, by omega, by omega⟩))) ?_
  intro t ht
  refine EvQ.ite (fun h2 => EvQ.now (.inl (by omega))) (fun h2 => ?_)
  rcases ht with h3 | ⟨h3, h4, h5⟩
  ·omega
  rw [w64_0 _ (by omega) (by omega), show ((i : Int) + 1) = ((i + 1 : Nat) : Int) by omega]
  refine (ih (i + 1) t (by omega) (by omega) h3 (by omega)).mono ?_
  rintro r (hr | ⟨hr, hr1, hr2⟩)
  ·exact .inl hr
  ·refine .inr ⟨hr, by omega, ?_⟩
   rw [List.drop_eq_getElem_cons hj]
   intro x hx
   rcases List.mem_cons.1 hx with h7 | h7
   ·subst h7; exact h5
   ·exact hr2 x h7
theorem szFrameS_ev (l : List S76) (a : Int) (hl : l.length ≤ maxLen) (hf : ∀ x ∈ l, x.f3.size ≤ maxLen) (h0 : 0 ≤ a) (h1 : a ≤ 1048576) :
  EvQ (fun k => laws_szFrameS.f k l a) (fun t => t < 0 ∨ (0 ≤ t ∧ t ≤ a ∧ l.length ≤ 1048576 ∧ ∀ x ∈ l, x.f3.size ≤ 1048576)) := by
 unfold maxLen at hl
 unfold laws_szFrameS.f
 rw [w64 _ (by omega) (by omega)]
 refine EvQ.ite (fun _ => EvQ.now (.inl (by omega))) (fun h2 => ?_)
 refine (szFrameS_l0 l (by omega) hf l.length 0 _ (by omega) (by omega) (by omega) (by omega)).mono ?_
 rintro r (hr | ⟨hr, hr1, hr2⟩)
 ·exact .inl hr
 ·exact .inr ⟨hr, by omega, by omega, by simpa using hr2⟩
theorem toStreamS_l0 (l : List S73) (hl : l.length ≤ 1048576) (hs : ∀ x ∈ l, LSmS x) (d : Nat) : ∀ (i : Nat) (x3 : List S58), l.length - i = d → i ≤ l.length → x3.length = l.length → x3.take i = (l.take i).map convS →
  Ev (fun k => laws_toStreamS.l0 k l x3 i) (l.map convS) := by
 induction d with
 | zero =>
  intro i x3 hd hi hx ht
  refine Ev.step (fun k => by rw [laws_toStreamS.l0]) (EvQ.ev (EvQ.neg (by omega) (EvQ.now ?_)))
  have e : i = l.length := by omega
  subst e
  rw [List.take_length, ← hx, List.take_length] at ht
  exact ht
 | succ d ih =>
  intro i x3 hd hi hx ht
  have hj : i < l.length := by omega
  refine Ev.step (fun k => by rw [laws_toStreamS.l0]) (EvQ.ev (EvQ.pos (by omega) (EvQ.pos (by omega) ?_)))
  rw [lrdS_get l i hj]
  obtain ⟨h2, h3, h7, h8⟩ := hs _ (List.getElem_mem hj)
  have e : Ev (fun k => laws_toStream.f k l[i].f0 l[i].f1 l[i].f2 l[i].f3 l[i].f4 l[i].f5 l[i].f6 l[i].f7 l[i].f8 l[i].f9 l[i].f10.f0 l[i].f10.f1) (l[i].f0, l[i].f1, l[i].f2.map conv, l[i].f3, l[i].f4, l[i].f5, l[i].f6, l[i].f7.map conv, l[i].f8, l[i].f9, l[i].f10.f0, l[i].f10.f1) := by
   unfold laws_toStream.f
   exact EvQ.ev (EvQ.bindE (toFieldS_ev l[i].f2 h2.1) (EvQ.bindE (toFieldS_ev l[i].f7 h7.1) (EvQ.now rfl)))
  refine EvQ.bindE e (EvQ.pos (by omega) ?_)
  rw [w64_0 _ (by omega) (by omega), show ((i : Int) + 1) = ((i + 1 : Nat) : Int) by omega, Int.toNat_natCast]
  refine EvQ.of_ev (ih (i + 1) _ (by omega) (by omega) (by rw [List.length_set]; exact hx) ?_) rfl
  rw [set_take x3 i _ (by omega), ht, List.take_succ_eq_append_getElem hj, List.map_append]
  rfl
theorem toStreamS_ev (l : List S73) (hl : l.length ≤ 1048576) (hs : ∀ x ∈ l, LSmS x) : Ev (fun k => laws_toStreamS.f k l) (l.map convS) := by
 unfold laws_toStreamS.f
 refine Ev.pos (by omega) (Ev.pos (by rw [Int.toNat_natCast]; omega) ?_)
 exact toStreamS_l0 l hl hs l.length 0 _ (by omega) (by omega) (by simp) (by simp)
theorem toFrameS_l0 (l : List S76) (hl : l.length ≤ 1048576) (d : Nat) : ∀ (i : Nat) (x3 : List S79), l.length - i = d → i ≤ l.length → x3.length = l.length → x3.take i = (l.take i).map convF →
  Ev (fun k => laws_toFrameS.l0 k l x3 i) (l.map convF) := by
 induction d with
 | zero =>
  intro i x3 hd hi hx ht
  refine Ev.step (fun k => by rw [laws_toFrameS.l0]) (EvQ.ev (EvQ.neg (by omega) (EvQ.now ?_)))
  have e : i = l.length := by omega
  subst e
  rw [List.take_length, ← hx, List.take_length] at ht
  exact ht
 | succ d ih =>
  intro i x3 hd hi hx ht
  have hj : i < l.length := by omega
  refine Ev.step (fun k => by rw [laws_toFrameS.l0]) (EvQ.ev (EvQ.pos (by omega) (EvQ.pos (by omega) ?_)))
  rw [lrdF_get l i hj]
  unfold laws_toFrame.f
  simp only [Option.bind_some]
  refine EvQ.pos (by omega) ?_
  rw [w64_0 _ (by omega) (by omega), show ((i : Int) + 1) = ((i + 1 : Nat) : Int) by omega, Int.toNat_natCast]
  refine EvQ.of_ev (ih (i + 1) _ (by omega) (by omega) (by rw [List.length_set]; exact hx) ?_) rfl
  rw [set_take x3 i _ (by omega), ht, List.take_succ_eq_append_getElem hj, List.map_append]
  rfl
theorem toFrameS_ev (l : List S76) (hl : l.length ≤ 1048576) : Ev (fun k => laws_toFrameS.f k l) (l.map convF) := by
 unfold laws_toFrameS.f
 refine Ev.pos (by omega) (Ev.pos (by rw [Int.toNat_natCast]; omega) ?_)
 exact toFrameS_l0 l hl l.length 0 _ (by omega) (by omega) (by simp) (by simp)
def FitE (l1 l3 : List S96) (c : ByteArray) (l : List S73) (w : List S76) : Prop :=
 (l1.length ≤ maxLen ∧ ∀ x ∈ l1, Fit x) ∧ (l3.length ≤ maxLen ∧ ∀ x ∈ l3, Fit x) ∧ c.size ≤ maxLen ∧ (l.length ≤ maxLen ∧ ∀ x ∈ l, FitS x) ∧ (w.length ≤ maxLen ∧ ∀ x ∈ w, x.f3.size ≤ maxLen)
def LSmE (l1 l3 : List S96) (c : ByteArray) (l : List S73) (w : List S76) : Prop :=
 LSmall l1 ∧ LSmall l3 ∧ c.size ≤ 1048576 ∧ (l.length ≤ 1048576 ∧ ∀ x ∈ l, LSmS x) ∧ (w.length ≤ 1048576 ∧ ∀ x ∈ w, x.f3.size ≤ 1048576)
theorem LSmE.conv {l1 l3 : List S96} {c : ByteArray} {l : List S73} {w : List S76} (h : LSmE l1 l3 c l w) : SmE (l1.map conv) (l3.map conv) c (l.map convS) (w.map convF) := by
 obtain ⟨h1, h3, hc, ⟨hl, hs⟩, hw, hf⟩ := h
 refine ⟨h1.conv, h3.conv, by omega, ⟨by rw [List.length_map]; omega, fun y hy => ?_⟩, by rw [List.length_map]; omega, fun y hy => ?_⟩
 ·obtain ⟨x, hx, rfl⟩ := List.mem_map.1 hy
  exact (hs x hx).conv
 ·obtain ⟨x, hx, rfl⟩ := List.mem_map.1 hy
  have := hf x hx
  show x.f3.size ≤ _
  omega
theorem szEnd_ev (b : Bool) (l1 : List S96) (m1 : Int) (l3 : List S96) (m3 : Int) (c : ByteArray) (l : List S73) (s r : Int) (w : List S76) (bad : Bool) (a : Int) (h : FitE l1 l3 c l w) (h0 : 0 ≤ a) (h1 : a ≤ 1048576) :
  EvQ (fun k => laws_szEnd.f k b l1 m1 l3 m3 c l s r w bad a) (fun t => t < 0 ∨ (0 ≤ t ∧ t ≤ a ∧ LSmE l1 l3 c l w)) := by
 obtain ⟨⟨g1, g1'⟩, ⟨g3, g3'⟩, gc, ⟨gl, gs⟩, gw, gf⟩ := h
 unfold laws_szEnd.f
 have mc : c.size ≤ maxLen := gc
 unfold maxLen at mc
 refine EvQ.bind (szTable_ev l1 m1 a g1 g1' h0 h1) ?_
 intro t ht
 refine EvQ.ite (fun _ => EvQ.now (.inl (by omega))) (fun h2 => ?_)
 rcases ht with ht | ⟨t0, t1, s1⟩
 ·omega
 refine EvQ.bind (szTable_ev l3 m3 t g3 g3' t0 (by omega)) ?_
 intro u hu
 refine EvQ.ite (fun _ => EvQ.now (.inl (by omega))) (fun h3 => ?_)
 rcases hu with hu | ⟨u0, u1, s3⟩
 ·omega
 rw [w64 (u - (c.size : Int)) (by omega) (by omega)]
 refine EvQ.ite (fun _ => EvQ.now (.inl (by omega))) (fun h4 => ?_)
 refine EvQ.bind (szStreamS_ev l _ gl gs (by omega) (by omega)) ?_
 intro v hv
 refine EvQ.ite (fun _ => EvQ.now (.inl (by omega))) (fun h5 => ?_)
 rcases hv with hv | ⟨v0, v1, sl, ss⟩
 ·omega
 refine EvQ.bind (szFrameS_ev w v gw gf v0 (by omega)) ?_
 intro z hz
 refine EvQ.ite (fun _ => EvQ.now (.inl (by omega))) (fun h6 => ?_)
 rcases hz with hz | ⟨z0, z1, sw, sf⟩
 ·omega
 exact EvQ.now (.inr ⟨z0, by omega, s1, s3, by omega, ⟨sl, ss⟩, sw, sf⟩)
theorem toEnd_ev (b : Bool) (l1 : List S96) (m1 : Int) (l3 : List S96) (m3 : Int) (c : ByteArray) (l : List S73) (s r : Int) (w : List S76) (bad : Bool) (h : LSmE l1 l3 c l w) :
  Ev (fun k => laws_toEnd.f k b l1 m1 l3 m3 c l s r w bad) (b, l1.map conv, m1, l3.map conv, m3, c, l.map convS, s, r, w.map convF, bad) := by
 obtain ⟨h1, h3, hc, ⟨hl, hs⟩, hw, hf⟩ := h
 unfold laws_toEnd.f
 exact EvQ.ev (EvQ.bindE (toTable_ev l1 m1 h1.1) (EvQ.bindE (toTable_ev l3 m3 h3.1) (EvQ.bindE (toStreamS_ev l hl hs) (EvQ.bindE (Ev.eq rfl) (EvQ.bindE (toFrameS_ev w hw) (EvQ.now rfl))))))
theorem eqFlow_same (s r : Int) : laws_eqFlow.f s r s r = some true := by unfold laws_eqFlow.f; simp
theorem eqStream_same (x : S58) (h2 : x.f2.length ≤ 4000000) (h7 : x.f7.length ≤ 4000000) : Ev (fun k => laws_eqStream.f k x.f0 x.f1 x.f2 x.f3 x.f4 x.f5 x.f6 x.f7 x.f8 x.f9 x.f10.f0 x.f10.f1 x.f0 x.f1 x.f2 x.f3 x.f4 x.f5 x.f6 x.f7 x.f8 x.f9 x.f10.f0 x.f10.f1) true := by
 unfold laws_eqStream.f
 exact EvQ.ev (EvQ.pos rfl (EvQ.pos rfl (EvQ.bindE (eqFieldS_same x.f2 h2) (EvQ.pos rfl (EvQ.pos rfl (EvQ.neg (by simp) (EvQ.neg (by simp) (EvQ.pos rfl (EvQ.bindE (eqFieldS_same x.f7 h7) (EvQ.pos rfl (EvQ.pos rfl (EvQ.neg (by simp) (EvQ.bindE (Ev.eq (eqFlow_same _ _)) (EvQ.pos rfl (EvQ.now rfl)))))))))))))))
theorem eqStreamS_l0 (l : List S58) (hl : l.length ≤ 4000000) (hs : ∀ x ∈ l, SmS x) (d : Nat) : ∀ i : Nat, l.length - i = d → i ≤ l.length → Ev (fun k => laws_eqStreamS.l0 k l l i) true := by
 induction d with
 | zero =>
  intro i hd hi
  exact Ev.step (fun k => by rw [laws_eqStreamS.l0]) (Ev.neg (by omega) (Ev.now _))
 | succ d ih =>
  intro i hd hi
  have hj : i < l.length := by omega
  have hmem : SmS (rd_T58 l (i : Int)) := by rw [rdS_get l i hj]; exact hs _ (List.getElem_mem hj)
  refine Ev.step (fun k => by rw [laws_eqStreamS.l0]) (EvQ.ev (EvQ.pos (by omega) (EvQ.pos (by omega) (EvQ.pos (by omega) ?_))))
  generalize rd_T58 l (i : Int) = x at *
  refine EvQ.bindE (eqStream_same x hmem.1.1 hmem.2.2.1.1) (EvQ.pos rfl ?_)
  rw [w64_0 _ (by omega) (by omega), show ((i : Int) + 1) = ((i + 1 : Nat) : Int) by omega]
  exact EvQ.of_ev (ih (i + 1) (by omega) (by omega)) rfl
theorem eqFrameS_l0 (l : List S79) (hl : l.length ≤ 4000000) (d : Nat) : ∀ i : Nat, l.length - i = d → i ≤ l.length → Ev (fun k => laws_eqFrameS.l0 k l l i) true := by
 induction d with
 | zero =>
  intro i hd hi
  exact Ev.step (fun k => by rw [laws_eqFrameS.l0]) (Ev.neg (by omega) (Ev.now _))
 | succ d ih =>
  intro i hd hi
  refine Ev.step (fun k => by rw [laws_eqFrameS.l0]) (EvQ.ev (EvQ.pos (by omega) (EvQ.pos (by omega) (EvQ.pos (by omega) ?_))))
  generalize rd_T79 l (i : Int) = x
  have e : laws_eqFrame.f x.f0 x.f1 x.f2 x.f3 x.f0 x.f1 x.f2 x.f3 = some true := by unfold laws_eqFrame.f; simp
  rw [e]
  simp only [Option.bind_some]
  refine EvQ.pos trivial ?_
  rw [w64_0 _ (by omega) (by omega), show ((i : Int) + 1) = ((i + 1 : Nat) : Int) by omega]
  exact EvQ.of_ev (ih (i + 1) (by omega) (by omega)) rfl
theorem eqEnd_same (b : Bool) (l1 : List S61) (m1 : Int) (l3 : List S61) (m3 : Int) (c : ByteArray) (l : List S58) (s r : Int) (w : List S79) (bad : Bool) (h : SmE l1 l3 c l w) :
  Ev (fun k => laws_eqEnd.f k b l1 m1 l3 m3 c l s r w bad b l1 m1 l3 m3 c l s r w bad) true := by
 obtain ⟨h1, h3, hc, ⟨hl, hs⟩, hw, hf⟩ := h
 have eS : Ev (fun k => laws_eqStreamS.f k l l) true := by
  unfold laws_eqStreamS.f
  exact Ev.pos rfl (eqStreamS_l0 l hl hs l.length 0 (by omega) (by omega))
 have eF : Ev (fun k => laws_eqFrameS.f k w w) true := by
  unfold laws_eqFrameS.f
  exact Ev.pos rfl (eqFrameS_l0 w hw w.length 0 (by omega) (by omega))
 unfold laws_eqEnd.f
 exact EvQ.ev (EvQ.neg (by simp) (EvQ.bindE (eqTable_same l1 m1 h1.1) (EvQ.pos rfl (EvQ.bindE (eqTable_same l3 m3 h3.1) (EvQ.pos rfl (EvQ.pos rfl (EvQ.bindE eS (EvQ.pos rfl (EvQ.bindE (Ev.eq (eqFlow_same _ _)) (EvQ.pos rfl (EvQ.bindE eF (EvQ.pos rfl (EvQ.neg (by simp) (EvQ.now rfl))))))))))))))
def GEnd (b : Bool) (l1 : List S96) (m1 : Int) (l3 : List S96) (m3 : Int) (c : ByteArray) (l : List S73) (s r : Int) (w : List S76) (bad : Bool) : Prop :=
 True ∧ ((l1.length ≤ maxLen ∧ ∀ x ∈ l1, x.f0.size ≤ maxLen ∧ x.f1.size ≤ maxLen ∧ True) ∧ (Lit.int .i64 m1).wf = true) ∧ ((l3.length ≤ maxLen ∧ ∀ x ∈ l3, x.f0.size ≤ maxLen ∧ x.f1.size ≤ maxLen ∧ True) ∧ (Lit.int .i64 m3).wf = true) ∧ c.size ≤ maxLen ∧
   (l.length ≤ maxLen ∧ ∀ x ∈ l, (Lit.int .i64 x.f0).wf = true ∧ (Lit.int .i64 x.f1).wf = true ∧ (x.f2.length ≤ maxLen ∧ ∀ y ∈ x.f2, y.f0.size ≤ maxLen ∧ y.f1.size ≤ maxLen ∧ True) ∧ x.f3.size ≤ maxLen ∧ True ∧ True ∧ (Lit.int .i64 x.f6).wf = true ∧ (x.f7.length ≤ maxLen ∧ ∀ y ∈ x.f7, y.f0.size ≤ maxLen ∧ y.f1.size ≤ maxLen ∧ True) ∧ x.f8.size ≤ maxLen ∧ True ∧ ((Lit.int .i64 x.f10.f0).wf = true ∧ (Lit.int .i64 x.f10.f1).wf = true)) ∧
   ((Lit.int .i64 s).wf = true ∧ (Lit.int .i64 r).wf = true) ∧ (w.length ≤ maxLen ∧ ∀ x ∈ w, (Lit.int .i64 x.f0).wf = true ∧ True ∧ (Lit.int .i64 x.f2).wf = true ∧ x.f3.size ≤ maxLen) ∧ True
theorem GEnd.fit {b : Bool} {l1 : List S96} {m1 : Int} {l3 : List S96} {m3 : Int} {c : ByteArray} {l : List S73} {s r : Int} {w : List S76} {bad : Bool} (g : GEnd b l1 m1 l3 m3 c l s r w bad) : FitE l1 l3 c l w := by
 have hE : FitE l1 l3 c l w := ⟨⟨g.2.1.1.1, fun x hx => ⟨(g.2.1.1.2 x hx).1, (g.2.1.1.2 x hx).2.1⟩⟩, ⟨g.2.2.1.1.1, fun x hx => ⟨(g.2.2.1.1.2 x hx).1, (g.2.2.1.1.2 x hx).2.1⟩⟩, g.2.2.2.1, ⟨g.2.2.2.2.1.1, fun x hx => by
  obtain ⟨_, _, ⟨a2, b2⟩, a3, _, _, _, ⟨a7, b7⟩, a8, _⟩ := g.2.2.2.2.1.2 x hx
  exact ⟨⟨a2, fun y hy => ⟨(b2 y hy).1, (b2 y hy).2.1⟩⟩, a3, ⟨a7, fun y hy => ⟨(b7 y hy).1, (b7 y hy).2.1⟩⟩, a8⟩⟩, g.2.2.2.2.2.2.1.1, fun x hx => (g.2.2.2.2.2.2.1.2 x hx).2.2.2⟩
 exact hE
structure LE where
 b : Bool
 l1 : List S96
 m1 : Int
 l3 : List S96
 m3 : Int
 c : ByteArray
 l : List S73
 s : Int
 r : Int
 w : List S76
 bad : Bool
structure IE where
 b : Bool
 l1 : List S61
 m1 : Int
 l3 : List S61
 m3 : Int
 c : ByteArray
 l : List S58
 s : Int
 r : Int
 w : List S79
 bad : Bool
def LE.conv (x : LE) : IE := ⟨x.b, x.l1.map Pure.conv, x.m1, x.l3.map Pure.conv, x.m3, x.c, x.l.map convS, x.s, x.r, x.w.map convF, x.bad⟩
def IE.ok (x : IE) : Bool := endOk x.b x.l1 x.m1 x.l3 x.m3 x.c x.l x.s x.r x.w
def IE.Sm (x : IE) : Prop := SmE x.l1 x.l3 x.c x.l x.w
def LE.LSm (x : LE) : Prop := LSmE x.l1 x.l3 x.c x.l x.w
def LE.Fit (x : LE) : Prop := FitE x.l1 x.l3 x.c x.l x.w
theorem LE.toE (x : LE) (h : x.LSm) : Ev (fun k => laws_toEnd.f k x.b x.l1 x.m1 x.l3 x.m3 x.c x.l x.s x.r x.w x.bad) (x.conv.b, x.conv.l1, x.conv.m1, x.conv.l3, x.conv.m3, x.conv.c, x.conv.l, x.conv.s, x.conv.r, x.conv.w, x.conv.bad) := toEnd_ev _ _ _ _ _ _ _ _ _ _ _ h
theorem LE.szE (x : LE) (a : Int) (h : x.Fit) (h0 : 0 ≤ a) (h1 : a ≤ 1048576) : EvQ (fun k => laws_szEnd.f k x.b x.l1 x.m1 x.l3 x.m3 x.c x.l x.s x.r x.w x.bad a) (fun t => t < 0 ∨ (0 ≤ t ∧ t ≤ a ∧ x.LSm)) := szEnd_ev _ _ _ _ _ _ _ _ _ _ _ a h h0 h1
theorem LE.sm (x : LE) (h : x.LSm) : x.conv.Sm := LSmE.conv h
theorem IE.sameE (x : IE) (h : x.Sm) : Ev (fun k => laws_eqEnd.f k x.b x.l1 x.m1 x.l3 x.m3 x.c x.l x.s x.r x.w x.bad x.b x.l1 x.m1 x.l3 x.m3 x.c x.l x.s x.r x.w x.bad) true := eqEnd_same _ _ _ _ _ _ _ _ _ _ _ h
theorem IE.iokE (x : IE) (h : x.Sm) : Ev (fun k => impl_EndOk.f k x.b x.l1 x.m1 x.l3 x.m3 x.c x.l x.s x.r x.w x.bad) x.ok := iend_ev _ _ _ _ _ _ _ _ _ _ _ h
theorem IE.sokE (x : IE) (h : x.Sm) : Ev (fun k => spec_EndOk.f k x.b x.l1 x.m1 x.l3 x.m3 x.c x.l x.s x.r x.w x.bad) x.ok := send_ev _ _ _ _ _ _ _ _ _ _ _ h
/-! Marks: numbers that only grow; what is written is not asked for (but for frames). -/
theorem mtext_l0 (n : Nat) : ∀ (a : Int) (s : ByteArray), 0 ≤ a → a < 10 ^ n → a ≤ 100000000000000000 → s.size + n ≤ 1000 → ∃ r, Ev (fun k => laws_markText.l0 k a s) r := by
 induction n with
 | zero =>
  intro a s h0 h1 h2 hs
  exact ⟨_, Ev.step (fun k => by rw [laws_markText.l0]) (Ev.neg (by omega) (Ev.pos (by omega) (Ev.now _)))⟩
 | succ n ih =>
  intro a s h0 h1 h2 hs
  by_cases h : a > 0
  ·have e : wrap64 (Int.tdiv a 10) = a / 10 := by
    rw [Int.tdiv_eq_ediv_of_nonneg h0]
    exact w64_0 _ (by omega) (by omega)
   have h3 : a / 10 < 10 ^ n := by rw [Int.pow_succ] at h1; omega
   obtain ⟨r, hr⟩ := ih (a / 10) (strOfNums [(wrap64 (48 + (Int.tmod a 10))) % 256] ++ s) (by omega) h3 (by omega) (by rw [ba_size_append, son_size]; simp only [List.length_singleton]; omega)
   refine ⟨r, Ev.step (fun k => by rw [laws_markText.l0]) (Ev.pos h ?_)⟩
   simp only [Option.bind_some, e]
   exact Ev.pos (by rw [son_size]; simp only [List.length_singleton]; omega) hr
  ·exact ⟨_, Ev.step (fun k => by rw [laws_markText.l0]) (Ev.neg h (Ev.pos (by omega) (Ev.now _)))⟩
theorem mtext_ex (a : Int) (h0 : 0 < a) (h1 : a ≤ 100000000000000000) : ∃ r, Ev (fun k => laws_markText.f k a) r := by
 unfold laws_markText.f
 obtain ⟨r, hr⟩ := mtext_l0 18 a (⟨#[]⟩ : ByteArray) (by omega) (by omega) h1 (by rw [ba_size_nil]; omega)
 exact ⟨r, Ev.neg (by omega) hr⟩
noncomputable def mkM (a : Int) : ByteArray := @Classical.epsilon _ ⟨ByteArray.empty⟩ (fun r => Ev (fun k => laws_markText.f k a) r)
theorem mtext_ev (a : Int) (h0 : 0 < a) (h1 : a ≤ 100000000000000000) : Ev (fun k => laws_markText.f k a) (mkM a) := Classical.epsilon_spec (mtext_ex a h0 h1)
noncomputable def markW : Nat → Int → List S79
 | 0, _ => []
 | n + 1, a => ⟨a, Int.tmod (a + 1) 3 == 0, a + 2, mkM (a + 3)⟩ :: markW n (a + 4)
theorem markW_len (n : Nat) : ∀ a, (markW n a).length = n := by
 induction n with
 | zero => intro a; rfl
 | succ n ih => intro a; unfold markW; rw [List.length_cons, ih]
theorem markW_succ (n : Nat) : ∀ a : Int, markW (n + 1) a = markW n a ++ [⟨a + 4 * n, Int.tmod (a + 4 * n + 1) 3 == 0, a + 4 * n + 2, mkM (a + 4 * n + 3)⟩] := by
 induction n with
 | zero => intro a; unfold markW; simp [markW]
 | succ n ih =>
  intro a
  conv => lhs; unfold markW
  rw [ih (a + 4)]
  conv => rhs; unfold markW
  rw [List.cons_append, show a + 4 + 4 * (n : Int) = a + 4 * ((n + 1 : Nat) : Int) by omega]
theorem rdF_set (l : List S79) (i : Nat) (v : S79) (h : i < l.length) : rd_T79 (l.set i v) (i : Int) = v := by
 rw [rdF_get _ i (by simpa using h), List.getElem_set_self]
theorem mframe_l0 (n : Nat) (hn : n ≤ 4000000) (a : Int) (h0 : 0 < a) (h1 : a ≤ 10000000000000000) (d : Nat) : ∀ (i : Nat) (x : List S79), n - i = d → i ≤ n → x.length = n → x.take i = markW i a →
  Ev (fun k => laws_markFrameS.l0 k x (a + 4 * (i : Int)) i) (a + 4 * (n : Int), markW n a) := by
 induction d with
 | zero =>
  intro i x hd hi hx ht
  refine Ev.step (fun k => by rw [laws_markFrameS.l0]) (EvQ.ev (EvQ.neg (by omega) (EvQ.now ?_)))
  have e : i = n := by omega
  subst e
  have e2 : x = markW i a := by rw [← ht, ← hx, List.take_length]
  rw [e2]
 | succ d ih =>
  intro i x hd hi hx ht
  refine Ev.step (fun k => by rw [laws_markFrameS.l0]) (EvQ.ev (EvQ.pos (by omega) (EvQ.pos (by omega) ?_)))
  simp only [Option.bind_some]
  rw [w64_0 (a + 4 * (i : Int) + 1) (by omega) (by omega), w64_0 (a + 4 * (i : Int) + 1 + 1) (by omega) (by omega), w64_0 (a + 4 * (i : Int) + 1 + 1 + 1) (by omega) (by omega)]
  refine EvQ.bindE (mtext_ev _ (by omega) (by omega)) ?_
  rw [w64_0 (a + 4 * (i : Int) + 1 + 1 + 1 + 1) (by omega) (by omega), w64_0 ((i : Int) + 1) (by omega) (by omega)]
  simp only [Int.toNat_natCast]
  have R : ∀ v, rd_T79 (x.set i v) (i : Int) = v := fun v => rdF_set x i v (by omega)
  simp only [List.set_set, R]
  rw [show a + 4 * (i : Int) + 1 + 1 + 1 + 1 = a + 4 * ((i + 1 : Nat) : Int) by omega, show ((i : Int) + 1) = ((i + 1 : Nat) : Int) by omega]
  refine EvQ.of_ev (ih (i + 1) _ (by omega) (by omega) (by rw [List.length_set]; exact hx) ?_) rfl
  rw [set_take x i _ (by omega), ht, markW_succ, show a + 4 * (i : Int) + 1 + 1 = a + 4 * (i : Int) + 2 by omega, show a + 4 * (i : Int) + 2 + 1 = a + 4 * (i : Int) + 3 by omega]
theorem mframe_ev (l : List S79) (a : Int) (hl : l.length ≤ 4000000) (h0 : 0 < a) (h1 : a ≤ 10000000000000000) : Ev (fun k => laws_markFrameS.f k l a) (a + 4 * (l.length : Int), markW l.length a) := by
 unfold laws_markFrameS.f
 have h := mframe_l0 l.length hl a h0 h1 l.length 0 l (by omega) (by omega) rfl rfl
 simpa using h
theorem hframe_l0 (n : Nat) (hn : n ≤ 4000000) (a : Int) (h0 : 0 < a) (h1 : a ≤ 10000000000000000) (d : Nat) : ∀ i : Nat, n - i = d → i ≤ n → Ev (fun k => laws_heldFrameS.l0 k (markW n a) (a + 4 * (i : Int)) i) (a + 4 * (n : Int)) := by
 induction d with
 | zero =>
  intro i hd hi
  have e : i = n := by omega
  subst e
  exact Ev.step (fun k => by rw [laws_heldFrameS.l0]) (Ev.neg (by rw [markW_len]; omega) (Ev.now _))
 | succ d ih =>
  intro i hd hi
  have hj : i < (markW n a).length := by rw [markW_len]; omega
  have e : rd_T79 (markW n a) (i : Int) = ⟨a + 4 * i, Int.tmod (a + 4 * i + 1) 3 == 0, a + 4 * i + 2, mkM (a + 4 * i + 3)⟩ := by
   rw [rdF_get _ i hj]
   clear ih hd hi h0 h1 hn
   revert i a
   induction n with
   | zero => intro a i hj; simp [markW] at hj
   | succ n ih =>
    intro a i hj
    cases i with
    | zero => simp [markW]
    | succ i =>
     have := ih (a + 4) i (by rw [markW_len] at hj ⊢; omega)
     simp only [markW, List.getElem_cons_succ]
     rw [this, show a + 4 + 4 * (i : Int) = a + 4 * ((i + 1 : Nat) : Int) by omega]
  refine Ev.step (fun k => by rw [laws_heldFrameS.l0]) (EvQ.ev (EvQ.pos (by rw [markW_len]; omega) (EvQ.pos (by omega) ?_)))
  rw [e]
  rw [w64_0 (a + 4 * (i : Int) + 1) (by omega) (by omega), w64_0 (a + 4 * (i : Int) + 1 + 1) (by omega) (by omega), w64_0 (a + 4 * (i : Int) + 1 + 1 + 1) (by omega) (by omega), w64_0 (a + 4 * (i : Int) + 1 + 1 + 1 + 1) (by omega) (by omega), w64_0 ((i : Int) + 1) (by omega) (by omega)]
  refine EvQ.pos rfl (EvQ.neg (by simp) (EvQ.pos (by dsimp only; omega) (EvQ.bindE (mtext_ev _ (by omega) (by omega)) (EvQ.pos (by rw [show a + 4 * (i : Int) + 1 + 1 + 1 = a + 4 * (i : Int) + 3 by omega]) ?_))))
  rw [show a + 4 * (i : Int) + 1 + 1 + 1 + 1 = a + 4 * ((i + 1 : Nat) : Int) by omega, show ((i : Int) + 1) = ((i + 1 : Nat) : Int) by omega]
  exact EvQ.of_ev (ih (i + 1) (by omega) (by omega)) rfl
theorem hframe_ev (n : Nat) (a : Int) (hn : n ≤ 4000000) (h0 : 0 < a) (h1 : a ≤ 10000000000000000) : Ev (fun k => laws_heldFrameS.f k (markW n a) a) (a + 4 * (n : Int)) := by
 unfold laws_heldFrameS.f
 have h := hframe_l0 n hn a h0 h1 n 0 (by omega) (by omega)
 simpa using h
theorem set_mid {α : Type} (p : List α) (y v : α) (r : List α) : (p ++ y :: r).set p.length v = p ++ v :: r := by simp
theorem rdT_mid (p : List S61) (y : S61) (r : List S61) : rd_T61 (p ++ y :: r) (p.length : Int) = y := by
 rw [rdT_get _ _ (by simp)]; simp
theorem rdS_mid (p : List S58) (y : S58) (r : List S58) : rd_T58 (p ++ y :: r) (p.length : Int) = y := by
 rw [rdS_get _ _ (by simp)]; simp
noncomputable def markF : Nat → Int → List S61
 | 0, _ => []
 | n + 1, a => ⟨mkM a, mkM (a + 1), Int.tmod (a + 1 + 1) 3 == 0⟩ :: markF n (a + 1 + 1 + 1)
theorem mfld_l0 (post : List S61) : ∀ (pre : List S61) (a : Int), pre.length + post.length ≤ 4000000 → 0 < a → a + 3 * (post.length : Int) ≤ 10000000000000000 → Ev (fun k => laws_markFieldS.l0 k (pre ++ post) a (pre.length : Int)) (a + 3 * (post.length : Int), pre ++ markF post.length a) := by
 induction post with
 | nil =>
  intro pre a hl h0 h1
  exact Ev.step (fun k => by rw [laws_markFieldS.l0]) (EvQ.ev (EvQ.neg (by simp) (EvQ.now (by simp [markF]))))
 | cons y post ih =>
  intro pre a hl h0 h1
  simp only [List.length_cons] at hl h1
  refine Ev.step (fun k => by rw [laws_markFieldS.l0]) (EvQ.ev (EvQ.pos (by simp; omega) (EvQ.bindE (mtext_ev _ h0 (by omega)) ?_)))
  refine EvQ.pos (by omega) ?_
  simp only [Option.bind_some, rdT_mid, set_mid, Int.toNat_natCast]
  rw [w64_0 (a + 1) (by omega) (by omega)]
  refine EvQ.bindE (mtext_ev _ (by omega) (by omega)) ?_
  rw [w64_0 (a + 1 + 1) (by omega) (by omega), w64_0 (a + 1 + 1 + 1) (by omega) (by omega), w64_0 ((pre.length : Int) + 1) (by omega) (by omega)]
  try simp only [rdT_mid, set_mid]
  have h := ih (pre ++ [⟨mkM a, mkM (a + 1), Int.tmod (a + 1 + 1) 3 == 0⟩]) (a + 1 + 1 + 1) (by simp only [List.length_append, List.length_singleton]; omega) (by omega) (by omega)
  simp only [List.append_assoc, List.singleton_append, List.length_append, List.length_singleton, Int.natCast_add, Int.natCast_one] at h
  refine EvQ.of_ev h ?_
  simp only [List.length_cons, markF, Prod.mk.injEq, and_true]
  omega
theorem mfld_ev (l : List S61) (a : Int) (hl : l.length ≤ 4000000) (h0 : 0 < a) (h1 : a ≤ 9000000000000000) : Ev (fun k => laws_markFieldS.f k l a) (a + 3 * (l.length : Int), markF l.length a) := by
 unfold laws_markFieldS.f
 exact mfld_l0 l [] a (by simpa using hl) h0 (by omega)
theorem hfld_l0 (n : Nat) : ∀ (pre : List S61) (a : Int), pre.length + n ≤ 4000000 → 0 < a → a + 3 * (n : Int) ≤ 10000000000000000 → Ev (fun k => laws_heldFieldS.l0 k (pre ++ markF n a) a (pre.length : Int)) (a + 3 * (n : Int)) := by
 induction n with
 | zero =>
  intro pre a hl h0 h1
  exact Ev.step (fun k => by rw [laws_heldFieldS.l0]) (EvQ.ev (EvQ.neg (by simp [markF]) (EvQ.now (by simp))))
 | succ n ih =>
  intro pre a hl h0 h1
  refine Ev.step (fun k => by rw [laws_heldFieldS.l0]) (EvQ.ev (EvQ.pos (by simp [markF]; omega) (EvQ.pos (by omega) (EvQ.bindE (mtext_ev _ h0 (by omega)) ?_))))
  simp only [markF, rdT_mid]
  rw [w64_0 (a + 1) (by omega) (by omega)]
  refine EvQ.pos (by first | rfl | trivial) (EvQ.bindE (mtext_ev _ (by omega) (by omega)) (EvQ.pos (by first | rfl | trivial) ?_))
  rw [w64_0 (a + 1 + 1) (by omega) (by omega), w64_0 (a + 1 + 1 + 1) (by omega) (by omega), w64_0 ((pre.length : Int) + 1) (by omega) (by omega)]
  refine EvQ.neg (by simp) ?_
  have h := ih (pre ++ [⟨mkM a, mkM (a + 1), Int.tmod (a + 1 + 1) 3 == 0⟩]) (a + 1 + 1 + 1) (by simp only [List.length_append, List.length_singleton]; omega) (by omega) (by omega)
  simp only [List.append_assoc, List.singleton_append, List.length_append, List.length_singleton, Int.natCast_add, Int.natCast_one] at h
  exact EvQ.of_ev h (by omega)
theorem hfld_ev (n : Nat) (a : Int) (hl : n ≤ 4000000) (h0 : 0 < a) (h1 : a ≤ 9000000000000000) : Ev (fun k => laws_heldFieldS.f k (markF n a) a) (a + 3 * (n : Int)) := by
 unfold laws_heldFieldS.f
 exact hfld_l0 n [] a (by simpa using hl) h0 (by omega)
def pS (x : S58) (a : Int) : Int := a + 1 + 1 + 3 * (x.f2.length : Int)
def qS (x : S58) (a : Int) : Int := pS x a + 1 + 1 + 1 + 1 + 3 * (x.f7.length : Int)
noncomputable def elS (x : S58) (a : Int) : S58 := ⟨a, a + 1, markF x.f2.length (a + 1 + 1), mkM (pS x a), Int.tmod (pS x a + 1) 3 == 0, Int.tmod (pS x a + 1 + 1) 3 == 0, pS x a + 1 + 1 + 1, markF x.f7.length (pS x a + 1 + 1 + 1 + 1), mkM (qS x a), Int.tmod (qS x a + 1) 3 == 0, ⟨qS x a + 1 + 1, qS x a + 1 + 1 + 1⟩⟩
noncomputable def markSs : List S58 → Int → List S58
 | [], _ => []
 | x :: l, a => elS x a :: markSs l (qS x a + 1 + 1 + 1 + 1)
def endSs : List S58 → Int → Int
 | [], a => a
 | x :: l, a => endSs l (qS x a + 1 + 1 + 1 + 1)
theorem q_bound {x : S58} {a : Int} (h : SmS x) : a + 2 ≤ pS x a ∧ pS x a ≤ a + 12000002 ∧ pS x a + 4 ≤ qS x a ∧ qS x a ≤ pS x a + 12000004 := by
 obtain ⟨h2, _, h7, _⟩ := h
 have := h2.1
 have := h7.1
 unfold qS pS
 omega
theorem endSs_bound (l : List S58) : ∀ a : Int, (∀ x ∈ l, SmS x) → a ≤ endSs l a ∧ endSs l a ≤ a + 24000012 * (l.length : Int) := by
 induction l with
 | nil => intro a _; simp [endSs]
 | cons x l ih =>
  intro a h
  have h1 := q_bound (a := a) (h x List.mem_cons_self)
  have h2 := ih (qS x a + 1 + 1 + 1 + 1) (fun y hy => h y (List.mem_cons_of_mem _ hy))
  unfold endSs
  rw [List.length_cons]
  omega
theorem mstr_l0 (post : List S58) : ∀ (pre : List S58) (a : Int), (∀ x ∈ post, SmS x) → pre.length + post.length ≤ 4000000 → 0 < a → a + 24000012 * (post.length : Int) ≤ 8000000000000000 → Ev (fun k => laws_markStreamS.l0 k (pre ++ post) a (pre.length : Int)) (endSs post a, pre ++ markSs post a) := by
 induction post with
 | nil =>
  intro pre a hs hl h0 h1
  exact Ev.step (fun k => by rw [laws_markStreamS.l0]) (EvQ.ev (EvQ.neg (by simp) (EvQ.now (by simp [markSs, endSs]))))
 | cons y post ih =>
  intro pre a hs hl h0 h1
  simp only [List.length_cons] at hl h1
  have hy := hs y List.mem_cons_self
  have hb := q_bound (a := a) hy
  obtain ⟨z2, _, z7, _⟩ := hy
  refine Ev.step (fun k => by rw [laws_markStreamS.l0]) (EvQ.ev (EvQ.pos (by simp; omega) (EvQ.pos (by omega) ?_)))
  simp only [rdS_mid]
  rw [w64_0 (a + 1) (by omega) (by omega), w64_0 (a + 1 + 1) (by omega) (by omega)]
  refine EvQ.bindE (mfld_ev _ _ z2.1 (by omega) (by omega)) ?_
  dsimp only
  have ep : a + 1 + 1 + 3 * (y.f2.length : Int) = pS y a := rfl
  rw [ep]
  refine EvQ.bindE (mtext_ev _ (by omega) (by omega)) ?_
  rw [w64_0 (pS y a + 1) (by omega) (by omega), w64_0 (pS y a + 1 + 1) (by omega) (by omega), w64_0 (pS y a + 1 + 1 + 1) (by omega) (by omega), w64_0 (pS y a + 1 + 1 + 1 + 1) (by omega) (by omega)]
  refine EvQ.bindE (mfld_ev _ _ z7.1 (by omega) (by omega)) ?_
  dsimp only
  have eq : pS y a + 1 + 1 + 1 + 1 + 3 * (y.f7.length : Int) = qS y a := rfl
  rw [eq]
  refine EvQ.bindE (mtext_ev _ (by omega) (by omega)) ?_
  unfold laws_markStreamS.el
  dsimp only
  rw [w64_0 (a + 1) (by omega) (by omega), w64_0 (pS y a + 1) (by omega) (by omega), w64_0 (pS y a + 1 + 1) (by omega) (by omega), w64_0 (pS y a + 1 + 1 + 1) (by omega) (by omega), w64_0 (qS y a + 1) (by omega) (by omega), w64_0 (qS y a + 1 + 1) (by omega) (by omega), w64_0 (qS y a + 1 + 1 + 1) (by omega) (by omega), w64_0 (qS y a + 1 + 1 + 1 + 1) (by omega) (by omega), w64_0 ((pre.length : Int) + 1) (by omega) (by omega)]
  simp only [Int.toNat_natCast, set_mid]
  have h := ih (pre ++ [elS y a]) (qS y a + 1 + 1 + 1 + 1) (fun x hx => hs x (List.mem_cons_of_mem _ hx)) (by simp only [List.length_append, List.length_singleton]; omega) (by omega) (by omega)
  simp only [List.append_assoc, List.singleton_append, List.length_append, List.length_singleton, Int.natCast_add, Int.natCast_one] at h
  exact EvQ.of_ev h rfl
theorem mstr_ev (l : List S58) (a : Int) (hl : l.length ≤ 4000000) (hs : ∀ x ∈ l, SmS x) (h0 : 0 < a) (h1 : a ≤ 1000000000000000) : Ev (fun k => laws_markStreamS.f k l a) (endSs l a, markSs l a) := by
 unfold laws_markStreamS.f
 exact mstr_l0 l [] a hs (by simpa using hl) h0 (by omega)
theorem hstr_l0 (post : List S58) : ∀ (pre : List S58) (a : Int), (∀ x ∈ post, SmS x) → pre.length + post.length ≤ 4000000 → 0 < a → a + 24000012 * (post.length : Int) ≤ 8000000000000000 → Ev (fun k => laws_heldStreamS.l0 k (pre ++ markSs post a) a (pre.length : Int)) (endSs post a) := by
 induction post with
 | nil =>
  intro pre a hs hl h0 h1
  exact Ev.step (fun k => by rw [laws_heldStreamS.l0]) (EvQ.ev (EvQ.neg (by simp [markSs]) (EvQ.now (by simp [endSs]))))
 | cons y post ih =>
  intro pre a hs hl h0 h1
  simp only [List.length_cons] at hl h1
  have hy := hs y List.mem_cons_self
  have hb := q_bound (a := a) hy
  obtain ⟨z2, _, z7, _⟩ := hy
  have z2 := z2.1
  have z7 := z7.1
  refine Ev.step (fun k => by rw [laws_heldStreamS.l0]) (EvQ.ev (EvQ.pos (by simp [markSs]; omega) (EvQ.pos (by omega) ?_)))
  simp only [markSs, rdS_mid, elS]
  rw [w64_0 (a + 1) (by omega) (by omega), w64_0 (a + 1 + 1) (by omega) (by omega)]
  refine EvQ.pos (by first | rfl | trivial) (EvQ.pos (by first | rfl | trivial) (EvQ.bindE (hfld_ev _ _ z2 (by omega) (by omega)) ?_))
  have ep : a + 1 + 1 + 3 * (y.f2.length : Int) = pS y a := rfl
  rw [ep]
  refine EvQ.neg (by omega) (EvQ.bindE (mtext_ev _ (by omega) (by omega)) (EvQ.pos (by first | rfl | trivial) ?_))
  rw [w64_0 (pS y a + 1) (by omega) (by omega), w64_0 (pS y a + 1 + 1) (by omega) (by omega), w64_0 (pS y a + 1 + 1 + 1) (by omega) (by omega), w64_0 (pS y a + 1 + 1 + 1 + 1) (by omega) (by omega)]
  refine EvQ.neg (by simp) (EvQ.neg (by simp) (EvQ.pos (by first | rfl | trivial) (EvQ.bindE (hfld_ev _ _ z7 (by omega) (by omega)) ?_)))
  have eq : pS y a + 1 + 1 + 1 + 1 + 3 * (y.f7.length : Int) = qS y a := rfl
  rw [eq]
  refine EvQ.neg (by omega) (EvQ.bindE (mtext_ev _ (by omega) (by omega)) (EvQ.pos (by first | rfl | trivial) ?_))
  rw [w64_0 (qS y a + 1) (by omega) (by omega), w64_0 (qS y a + 1 + 1) (by omega) (by omega), w64_0 (qS y a + 1 + 1 + 1) (by omega) (by omega), w64_0 (qS y a + 1 + 1 + 1 + 1) (by omega) (by omega), w64_0 ((pre.length : Int) + 1) (by omega) (by omega)]
  refine EvQ.neg (by simp) (EvQ.pos (by first | rfl | trivial) (EvQ.pos (by first | rfl | trivial) ?_))
  have h := ih (pre ++ [elS y a]) (qS y a + 1 + 1 + 1 + 1) (fun x hx => hs x (List.mem_cons_of_mem _ hx)) (by simp only [List.length_append, List.length_singleton]; omega) (by omega) (by omega)
  simp only [List.append_assoc, List.singleton_append, List.length_append, List.length_singleton, Int.natCast_add, Int.natCast_one] at h
  exact EvQ.of_ev h rfl
theorem hstr_ev (l : List S58) (a : Int) (hl : l.length ≤ 4000000) (hs : ∀ x ∈ l, SmS x) (h0 : 0 < a) (h1 : a ≤ 1000000000000000) : Ev (fun k => laws_heldStreamS.f k (markSs l a) a) (endSs l a) := by
 unfold laws_heldStreamS.f
 exact hstr_l0 l [] a hs (by simpa using hl) h0 (by omega)
theorem mtab_ev (x : List S61) (m a : Int) (hx : x.length ≤ 4000000) (h0 : 0 < a) (h1 : a ≤ 9000000000000000) : Ev (fun k => laws_markTable.f k x m a) (a + 3 * (x.length : Int), markF x.length a) := by
 unfold laws_markTable.f
 exact EvQ.ev (EvQ.bindE (mfld_ev x a hx h0 h1) (EvQ.now rfl))
theorem htab_ev (n : Nat) (m a : Int) (hx : n ≤ 4000000) (h0 : 0 < a) (h1 : a ≤ 9000000000000000) : Ev (fun k => laws_heldTable.f k (markF n a) m a) (a + 3 * (n : Int)) := by
 unfold laws_heldTable.f
 exact EvQ.ev (EvQ.bindE (hfld_ev n a hx h0 h1) (EvQ.neg (by omega) (EvQ.now rfl)))
noncomputable def markE (x : IE) : Int × List S61 × List S61 × List S58 × List S79 :=
 (endSs x.l (1 + 3 * (x.l1.length : Int) + 3 * (x.l3.length : Int)) + 4 * (x.w.length : Int), markF x.l1.length 1, markF x.l3.length (1 + 3 * (x.l1.length : Int)), markSs x.l (1 + 3 * (x.l1.length : Int) + 3 * (x.l3.length : Int)), markW x.w.length (endSs x.l (1 + 3 * (x.l1.length : Int) + 3 * (x.l3.length : Int))))
theorem markE_pos (x : IE) (h : x.Sm) : 0 ≤ (markE x).1 := by
 obtain ⟨_, _, _, ⟨_, zs⟩, _⟩ := h
 have := endSs_bound x.l (1 + 3 * (x.l1.length : Int) + 3 * (x.l3.length : Int)) zs
 unfold markE
 dsimp only
 omega
theorem mark_ev (x : IE) (h : x.Sm) : Ev (fun k => laws_markEnd.f k x.l1 x.m1 x.l3 x.m3 x.l x.w 1) (markE x) := by
 obtain ⟨z1, z3, _, ⟨zl, zs⟩, zw, _⟩ := h
 have z1 := z1.1
 have z3 := z3.1
 have hb := endSs_bound x.l (1 + 3 * (x.l1.length : Int) + 3 * (x.l3.length : Int)) zs
 unfold laws_markEnd.f
 exact EvQ.ev (EvQ.bindE (mtab_ev _ _ _ z1 (by omega) (by omega)) (EvQ.bindE (mtab_ev _ _ _ z3 (by dsimp only; omega) (by dsimp only; omega)) (EvQ.bindE (mstr_ev _ _ zl zs (by dsimp only; omega) (by dsimp only; omega)) (EvQ.bindE (mframe_ev _ _ zw (by dsimp only; omega) (by dsimp only; omega)) (EvQ.now rfl)))))
theorem held_ev (x : IE) (h : x.Sm) : Ev (fun k => laws_heldEnd.f k x.b (markE x).2.1 x.m1 (markE x).2.2.1 x.m3 x.c (markE x).2.2.2.1 x.s x.r (markE x).2.2.2.2 x.bad 1) (markE x).1 := by
 obtain ⟨z1, z3, _, ⟨zl, zs⟩, zw, _⟩ := h
 have z1 := z1.1
 have z3 := z3.1
 have hb := endSs_bound x.l (1 + 3 * (x.l1.length : Int) + 3 * (x.l3.length : Int)) zs
 unfold laws_heldEnd.f markE
 dsimp only
 refine EvQ.ev (EvQ.bindE (htab_ev _ _ _ z1 (by omega) (by omega)) (EvQ.neg (by omega) (EvQ.bindE (htab_ev _ _ _ z3 (by omega) (by omega)) (EvQ.neg (by omega) (EvQ.bindE (hstr_ev _ _ zl zs (by omega) (by omega)) (EvQ.neg (by omega) (EvQ.bindE (hframe_ev _ _ zw (by omega) (by omega)) (EvQ.neg (by omega) (EvQ.now rfl)))))))))
theorem fields_eq (l : List S61) (h : l.length ≤ 4000000) : spec_l21Fields.f l = some l := by
 unfold spec_l21Fields.f
 simp only [Option.bind_some, List.nil_append, List.length_nil]
 rw [if_pos (by omega)]
theorem cfields_eq (l : List S61) (h : l.length ≤ 4000000) : impl_cloneFields.f l = some l := by
 unfold impl_cloneFields.f
 rw [if_pos (by omega)]
theorem copy_l0 (b : Bool) (l1 : List S61) (m1 : Int) (l3 : List S61) (m3 : Int) (c : ByteArray) (s r : Int) (w : List S79) (bad : Bool) (hw : w.length ≤ 4000000) (post : List S58) : ∀ (pre : List S58), (∀ x ∈ post, SmS x) → pre.length + post.length ≤ 4000000 →
  Ev (fun k => spec_l21Copy.l0 k pre (pre.length : Int) b l1 m1 l3 m3 c (pre ++ post) s r w bad) (b, l1, m1, l3, m3, c, pre ++ post, s, r, w, bad) := by
 induction post with
 | nil =>
  intro pre hs hl
  refine Ev.step (fun k => by rw [spec_l21Copy.l0]) (EvQ.ev (EvQ.neg (by simp) ?_))
  simp only [Option.bind_some, List.nil_append, List.length_nil, List.append_nil]
  exact EvQ.pos (by omega) (EvQ.now rfl)
 | cons y post ih =>
  intro pre hs hl
  simp only [List.length_cons] at hl
  obtain ⟨z2, _, z7, _⟩ := hs y List.mem_cons_self
  refine Ev.step (fun k => by rw [spec_l21Copy.l0]) (EvQ.ev (EvQ.pos (by simp; omega) (EvQ.pos (by omega) ?_)))
  simp only [rdS_mid, fields_eq _ z2.1, fields_eq _ z7.1, Option.bind_some]
  refine EvQ.pos (by omega) ?_
  rw [w64_0 ((pre.length : Int) + 1) (by omega) (by omega)]
  have h := ih (pre ++ [y]) (fun x hx => hs x (List.mem_cons_of_mem _ hx)) (by simp only [List.length_append, List.length_singleton]; omega)
  simp only [List.append_assoc, List.singleton_append, List.length_append, List.length_singleton, Int.natCast_add, Int.natCast_one] at h
  exact EvQ.of_ev h rfl
theorem clone_l0 (b : Bool) (l1 : List S61) (m1 : Int) (l3 : List S61) (m3 : Int) (c : ByteArray) (z : List S58) (s r : Int) (w : List S79) (bad : Bool) (n : Int) (post : List S58) : ∀ (pre : List S58), n = ((pre ++ post).length : Int) → (∀ x ∈ post, SmS x) → pre.length + post.length ≤ 4000000 →
  Ev (fun k => impl_End_clone.l0 k pre (pre ++ post) n (pre.length : Int) b l1 m1 l3 m3 c z s r w bad) (b, l1, m1, l3, m3, c, pre ++ post, s, r, w, bad) := by
 induction post with
 | nil =>
  intro pre hn hs hl
  exact Ev.step (fun k => by rw [impl_End_clone.l0]) (EvQ.ev (EvQ.neg (by rw [hn]; simp) (EvQ.now (by simp))))
 | cons y post ih =>
  intro pre hn hs hl
  simp only [List.length_cons] at hl
  obtain ⟨z2, _, z7, _⟩ := hs y List.mem_cons_self
  refine Ev.step (fun k => by rw [impl_End_clone.l0]) (EvQ.ev (EvQ.pos (by rw [hn]; simp; omega) (EvQ.pos (by omega) (EvQ.pos (by simp; omega) ?_))))
  simp only [rdS_mid, cfields_eq _ z2.1, cfields_eq _ z7.1, Option.bind_some]
  refine EvQ.pos (by omega) ?_
  rw [w64_0 ((pre.length : Int) + 1) (by omega) (by omega)]
  have h := ih (pre ++ [y]) (by rw [hn]; simp) (fun x hx => hs x (List.mem_cons_of_mem _ hx)) (by simp only [List.length_append, List.length_singleton]; omega)
  simp only [List.append_assoc, List.singleton_append, List.length_append, List.length_singleton, Int.natCast_add, Int.natCast_one] at h
  exact EvQ.of_ev h rfl
def IE.t (x : IE) : TE := (x.b, x.l1, x.m1, x.l3, x.m3, x.c, x.l, x.s, x.r, x.w, x.bad)
theorem copy_ev (x : IE) (h : x.Sm) : Ev (fun k => spec_l21Copy.f k x.b x.l1 x.m1 x.l3 x.m3 x.c x.l x.s x.r x.w x.bad) x.t := by
 obtain ⟨z1, z3, _, ⟨zl, zs⟩, zw, _⟩ := h
 unfold spec_l21Copy.f
 simp only [fields_eq _ z1.1, fields_eq _ z3.1, Option.bind_some]
 exact copy_l0 _ _ _ _ _ _ _ _ _ _ zw x.l [] zs (by simpa using zl)
theorem clone_ev (x : IE) (h : x.Sm) : Ev (fun k => impl_End_clone.f k x.b x.l1 x.m1 x.l3 x.m3 x.c x.l x.s x.r x.w x.bad) x.t := by
 obtain ⟨z1, z3, _, ⟨zl, zs⟩, zw, _⟩ := h
 unfold impl_End_clone.f impl_Table_clone.f
 simp only [cfields_eq _ z1.1, cfields_eq _ z3.1, Option.bind_some, List.length_nil, List.nil_append]
 refine EvQ.ev (EvQ.pos (by omega) ?_)
 exact EvQ.of_ev (clone_l0 _ _ _ _ _ _ _ _ _ _ _ _ x.l [] rfl zs (by simpa using zl)) rfl
def zeroI : IE := ⟨false, [], 0, [], 0, ⟨#[]⟩, [], 0, 0, [], false⟩
def dec (n : Nat) : ByteArray := ⟨(Lib.decDigits n).toArray⟩
theorem decDigits_len (n : Nat) : 1 ≤ (Lib.decDigits n).length ∧ (Lib.decDigits n).length ≤ n + 1 ∧ ((Lib.decDigits n).length = 1 ↔ n < 10) := by
 induction n using Nat.strongRecOn with
 | _ n ih =>
  rw [Lib.decDigits]
  by_cases h : n < 10
  ·rw [dif_pos h]
   simp [h]
  ·rw [dif_neg h]
   have := ih (n / 10) (by omega)
   simp only [List.length_append, List.length_singleton]
   omega
theorem dec_size (n : Nat) : (dec n).size = (Lib.decDigits n).length := by
 unfold dec; show (Lib.decDigits n).toArray.size = _; simp
theorem l6Dec_ev (n : Nat) (hn : n ≤ 1000000000) : Ev (fun k => spec_l6Dec.f k (n : Int)) (dec n) := by
 induction n using Nat.strongRecOn with
 | _ n ih =>
  refine EvQ.ev (EvQ.step (fun k => by rw [spec_l6Dec.f]) (EvQ.neg (by omega) (EvQ.neg (by omega) ?_)))
  by_cases h : n < 10
  ·refine EvQ.pos (by omega) (EvQ.now ?_)
   unfold dec
   rw [Lib.decDigits, dif_pos h, w64_0 _ (by omega) (by omega), show (48 + (n : Int)) % 256 = ((48 + n : Nat) : Int) by omega]
   rfl
  ·have e1 : wrap64 (Int.tdiv (n : Int) 10) = ((n / 10 : Nat) : Int) := by rw [Int.tdiv_eq_ediv_of_nonneg (by omega), w64_0 _ (by omega) (by omega)]; omega
   have e2 : wrap64 (48 + Int.tmod (n : Int) 10) % 256 = ((48 + n % 10 : Nat) : Int) := by rw [Int.tmod_eq_emod_of_nonneg (by omega), w64_0 _ (by omega) (by omega)]; omega
   simp only [e1, e2, Option.bind_some]
   have hs := dec_size (n / 10)
   have hl := decDigits_len (n / 10)
   refine EvQ.neg (by omega) (EvQ.bindE (ih (n / 10) (by omega) (by omega)) (EvQ.pos (by rw [son_size]; simp only [List.length_singleton]; omega) (EvQ.now ?_)))
   unfold dec
   rw [show Lib.decDigits n = Lib.decDigits (n / 10) ++ [UInt8.ofNat (48 + n % 10)] by rw [Lib.decDigits, dif_neg h]]
   rw [show strOfNums [((48 + n % 10 : Nat) : Int)] = (⟨#[UInt8.ofNat (48 + n % 10)]⟩ : ByteArray) from rfl]
   generalize UInt8.ofNat (48 + n % 10) = u
   apply ba_ext
   simp
theorem wordOk_size {a : ByteArray} (h : wordOk a = true) : a.size ≤ 16 := ((packOk_iff a).1 (of_decide_eq_true h)).1
theorem dec_one (n : Nat) (h : n < 10) : dec n = ⟨#[UInt8.ofNat (48 + n)]⟩ := by
 unfold dec
 rw [Lib.decDigits, dif_pos h]
theorem dec_two (n : Nat) (h : 10 ≤ n) (h2 : n < 20) : dec n = ⟨#[UInt8.ofNat 49, UInt8.ofNat (48 + n % 10)]⟩ := by
 unfold dec
 rw [Lib.decDigits, dif_neg (by omega), show n / 10 = 1 by omega, Lib.decDigits, dif_pos (by omega)]
 rfl
theorem ok_one : ∀ m : Fin 10, wordOk ⟨#[UInt8.ofNat (48 + m.val)]⟩ = true := by decide
theorem ok_two : ∀ m : Fin 10, wordOk ⟨#[UInt8.ofNat 49, UInt8.ofNat (48 + m.val)]⟩ = true := by decide
theorem dec_ok (n : Nat) (h : n ≤ 16) : wordOk (dec n) = true := by
 by_cases h1 : n < 10
 ·rw [dec_one n h1]; exact ok_one ⟨n, h1⟩
 ·rw [dec_two n (by omega) (by omega)]; exact ok_two ⟨n % 10, by omega⟩
theorem dec_le (n : Nat) : (dec n).size ≤ n + 1 := by
 rw [dec_size]
 exact (decDigits_len n).2.1
theorem itoa_eq (n : Nat) (h : n < 100) : strconv_Itoa.f (n : Int) = some (dec n) := by
 unfold strconv_Itoa.f dec
 rw [if_pos ⟨by omega, by omega⟩, Int.toNat_natCast]
theorem ok_names : wordOk ⟨#[58, 112, 97, 116, 104]⟩ = true ∧ wordOk ⟨#[107, 105, 110, 100]⟩ = true ∧ wordOk ⟨#[116, 101, 120, 116]⟩ = true ∧ wordOk ⟨#[115, 105, 122, 101]⟩ = true := ⟨by kernel_rfl, by kernel_rfl, by kernel_rfl, by kernel_rfl⟩
theorem headC_ok (path d : ByteArray) : headOk (headC path d) = (wordOk path && wordOk d) := by
 obtain ⟨h1, h2, h3, h4⟩ := ok_names
 unfold headOk headC
 simp only [List.all_cons, List.all_nil, fieldOk, h1, h2, h3, h4, List.length_cons, List.length_nil, Bool.true_and, Bool.and_true]
 rw [show decide ((⟨#[58, 112, 97, 116, 104]⟩ : ByteArray).size ≠ 0) = true from rfl, show decide ((⟨#[107, 105, 110, 100]⟩ : ByteArray).size ≠ 0) = true from rfl, show decide ((⟨#[115, 105, 122, 101]⟩ : ByteArray).size ≠ 0) = true from rfl, show decide (0 + 1 + 1 + 1 ≤ 6) = true from rfl]
 cases wordOk path <;> cases wordOk d <;> rfl
theorem headC_small (path d : ByteArray) (h1 : path.size ≤ 4000000) (h2 : d.size ≤ 4000000) : Small (headC path d) := by
 refine ⟨by unfold headC; simp, fun x hx => ?_⟩
 unfold headC at hx
 simp only [List.mem_cons, List.not_mem_nil, or_false] at hx
 rcases hx with rfl | rfl | rfl
 ·exact ⟨by show 5 ≤ 4000000; omega, h1⟩
 ·exact ⟨by show 4 ≤ 4000000; omega, by show 4 ≤ 4000000; omega⟩
 ·exact ⟨by show 4 ≤ 4000000; omega, h2⟩
def idC (x : IE) : Int := wrap64 (wrap64 (2 * (x.l.length : Int)) + 1)
def callE (x : IE) (path text : ByteArray) : IE × Int × Bool :=
 if x.b = true then (x, 0, false) else if idC x > 7 then (x, 0, false) else if wordOk path = true then (if wordOk text = true then ({ x with l := x.l ++ [strC (idC x) path text (dec text.size)] }, idC x, true) else (x, 0, false)) else (x, 0, false)
def endCall (x : IE) (path text : ByteArray) : IE × Int × Bool := if x.ok = true then callE x path text else (zeroI, 0, false)
theorem call_sm {x : IE} (h : x.Sm) (hl : x.l.length ≤ 2000000) (path text : ByteArray) : (callE x path text).1.Sm := by
 have hx := h
 obtain ⟨z1, z3, zc, ⟨zl, zs⟩, zw, zf⟩ := h
 unfold callE
 split
 ·exact hx
 split
 ·exact hx
 split
 ·rename_i hp
  split
  ·rename_i ht
   have s1 := wordOk_size hp
   have s2 := wordOk_size ht
   have s3 := dec_le text.size
   refine ⟨z1, z3, zc, ⟨by rw [List.length_append]; simp only [List.length_singleton]; omega, fun y hy => ?_⟩, zw, zf⟩
   rcases List.mem_append.1 hy with hy | hy
   ·exact zs y hy
   ·rw [List.mem_singleton] at hy
    subst hy
    exact ⟨headC_small path _ (by omega) (by omega), by show text.size ≤ 4000000; omega, Small.nil, by show (⟨#[]⟩ : ByteArray).size ≤ 4000000; rw [ba_size_nil]; omega⟩
  ·exact hx
 ·exact hx
theorem endCall_sm {x : IE} (h : x.Sm) (hl : x.l.length ≤ 2000000) (path text : ByteArray) : (endCall x path text).1.Sm := by
 unfold endCall
 split
 ·exact call_sm h hl path text
 ·exact ⟨Small.nil, Small.nil, by decide, ⟨by decide, fun x hx => by cases hx⟩, by decide, fun x hx => by cases hx⟩
theorem scall_ev (x : IE) (hl : x.l.length ≤ 2000000) (path text : ByteArray) (hp : path.size ≤ 1048576) (ht : text.size ≤ 1048576) : Ev (fun k => spec_l21Call.f k x.b x.l1 x.m1 x.l3 x.m3 x.c x.l x.s x.r x.w x.bad path text) ((callE x path text).1.l, (callE x path text).2.1, (callE x path text).2.2) := by
 unfold spec_l21Call.f
 refine EvQ.ev (EvQ.bindE (l6Dec_ev text.size (by omega)) ?_)
 by_cases c0 : x.b = true
 ·have e : callE x path text = (x, 0, false) := by unfold callE; rw [if_pos c0]
  rw [e]; exact EvQ.pos c0 (EvQ.now rfl)
 refine EvQ.neg c0 ?_
 by_cases c1 : idC x > 7
 ·have e : callE x path text = (x, 0, false) := by unfold callE; rw [if_neg c0, if_pos c1]
  rw [e]; exact EvQ.pos c1 (EvQ.now rfl)
 refine EvQ.neg c1 ?_
 have s3 := dec_le text.size
 have hs := headC_small path (dec text.size) (by omega) (by omega)
 have hh := spec_HeadOk_ev (headC path (dec text.size)) (by unfold headC; simp) hs.2
 rw [headC_ok] at hh
 have hw := spec_WordOk_ev text (by omega)
 by_cases c2 : wordOk path = true
 ·by_cases c3 : wordOk text = true
  ·have e : callE x path text = ({ x with l := x.l ++ [strC (idC x) path text (dec text.size)] }, idC x, true) := by unfold callE; rw [if_neg c0, if_neg c1, if_pos c2, if_pos c3]
   rw [e]
   have s2 := wordOk_size c3
   rw [c2, dec_ok _ s2] at hh
   exact EvQ.bindE hh (EvQ.pos rfl (EvQ.bindE hw (EvQ.pos c3 (EvQ.pos (by omega) (EvQ.now rfl)))))
  ·have e : callE x path text = (x, 0, false) := by unfold callE; rw [if_neg c0, if_neg c1, if_pos c2, if_neg c3]
   rw [e]
   exact EvQ.bindE hh (EvQ.ite (fun _ => EvQ.bindE hw (EvQ.neg c3 (EvQ.now rfl))) (fun _ => EvQ.now rfl))
 ·have e : callE x path text = (x, 0, false) := by unfold callE; rw [if_neg c0, if_neg c1, if_neg c2]
  rw [e]
  refine EvQ.bindE hh (EvQ.neg ?_ (EvQ.now rfl))
  rw [Bool.not_eq_true] at c2
  rw [c2]
  simp
theorem call_t (x : IE) (path text : ByteArray) : with6 x.t (callE x path text).1.l = (callE x path text).1.t := by
 unfold callE
 repeat' split
 all_goals rfl
theorem sEC_ev (x : IE) (h : x.Sm) (hl : x.l.length ≤ 2000000) (path text : ByteArray) (hp : path.size ≤ 1048576) (ht : text.size ≤ 1048576) : Ev (fun k => spec_EndCall.f k x.b x.l1 x.m1 x.l3 x.m3 x.c x.l x.s x.r x.w x.bad path text) ((endCall x path text).1.t, (endCall x path text).2.1, (endCall x path text).2.2) := by
 unfold spec_EndCall.f
 refine EvQ.ev (EvQ.bindE (x.sokE h) ?_)
 unfold endCall
 by_cases c : x.ok = true
 ·refine EvQ.pos c (EvQ.bindE (copy_ev x h) (EvQ.bindE (scall_ev x hl path text hp ht) (EvQ.now ?_)))
  rw [if_pos c, call_t]
 ·exact EvQ.neg c (EvQ.now (by rw [if_neg c]; rfl))
theorem iEC_ev (x : IE) (h : x.Sm) (hl : x.l.length ≤ 2000000) (path text : ByteArray) (hp : path.size ≤ 1048576) (ht : text.size ≤ 1048576) : Ev (fun k => impl_EndCall.f k x.b x.l1 x.m1 x.l3 x.m3 x.c x.l x.s x.r x.w x.bad path text) ((endCall x path text).1.t, (endCall x path text).2.1, (endCall x path text).2.2) := by
 have hsm := call_sm h hl path text
 unfold impl_EndCall.f
 refine EvQ.ev (EvQ.bindE (x.iokE h) ?_)
 unfold endCall
 by_cases c : x.ok = true
 ·refine EvQ.pos c (EvQ.bindE (clone_ev x h) ?_)
  rw [if_pos c]
  by_cases c0 : x.b = true
  ·refine EvQ.pos c0 (EvQ.now ?_)
   unfold callE; rw [if_pos c0]
  refine EvQ.neg c0 ?_
  by_cases c1 : idC x > 7
  ·refine EvQ.pos c1 (EvQ.now ?_)
   unfold callE; rw [if_neg c0, if_pos c1]
  refine EvQ.neg c1 (EvQ.bindE (impl_WordOk_ev path (by omega)) ?_)
  by_cases c2 : wordOk path = true
  ·refine EvQ.pos c2 (EvQ.bindE (impl_WordOk_ev text (by omega)) ?_)
   by_cases c3 : wordOk text = true
   ·have e : callE x path text = ({ x with l := x.l ++ [strC (idC x) path text (dec text.size)] }, idC x, true) := by unfold callE; rw [if_neg c0, if_neg c1, if_pos c2, if_pos c3]
    rw [e] at hsm ⊢
    have s2 := wordOk_size c3
    refine EvQ.pos c3 ?_
    simp only [itoa_eq text.size (by omega), Option.bind_some]
    exact EvQ.pos (by show x.l.length < _; omega) (EvQ.bindE (clone_ev _ hsm) (EvQ.now rfl))
   ·refine EvQ.neg c3 (EvQ.now ?_)
    unfold callE; rw [if_neg c0, if_neg c1, if_pos c2, if_neg c3]
  ·refine EvQ.neg c2 (EvQ.now ?_)
   unfold callE; rw [if_neg c0, if_neg c1, if_neg c2]
 ·exact EvQ.neg c (EvQ.now (by rw [if_neg c]; rfl))
theorem FnExactEndCall_core (x : LE) (path text : ByteArray) (hx : x.Fit) : ∃ k, laws_FnExactEndCall.f k x.b x.l1 x.m1 x.l3 x.m3 x.c x.l x.s x.r x.w x.bad path text = some true := by
 apply EvQ.tt
 unfold laws_FnExactEndCall.f
 refine EvQ.ite (fun _ => EvQ.now rfl) (fun hp => ?_)
 refine EvQ.ite (fun _ => EvQ.now rfl) (fun ht => ?_)
 refine EvQ.bind (x.szE 1048576 hx (by omega) (by omega)) ?_
 intro t ht_
 refine EvQ.ite (fun _ => EvQ.now rfl) (fun h1 => ?_)
 rcases ht_ with h2 | ⟨h2, h3, sx⟩
 ·omega
 have hT := x.toE sx
 have sm := x.sm sx
 have hl : x.conv.l.length ≤ 2000000 := by
  have h4 := sx.2.2.2.1.1
  show (x.l.map convS).length ≤ 2000000
  rw [List.length_map]
  omega
 have hS := sEC_ev x.conv sm hl path text (by omega) (by omega)
 have hI := iEC_ev x.conv sm hl path text (by omega) (by omega)
 have hr := endCall_sm sm hl path text
 generalize endCall x.conv path text = g at *
 obtain ⟨g, gi, gb⟩ := g
 dsimp only at hS hI hr
 have hm0 := mark_ev x.conv sm
 have hp0 := markE_pos x.conv sm
 have he0 := x.conv.sameE sm
 have hm := mark_ev g hr
 have hp := markE_pos g hr
 have hh := held_ev g hr
 have he := g.sameE hr
 refine EvQ.bindE hT (EvQ.bindE hS (EvQ.bindE hT (EvQ.bindE hI (EvQ.bindE he (EvQ.pos rfl (EvQ.pos rfl (EvQ.pos rfl (EvQ.bindE hT (EvQ.bindE he0 (EvQ.pos rfl (EvQ.bindE hm0 (EvQ.pos hp0 ?_))))))))))))
 refine EvQ.bindE he (EvQ.pos rfl (EvQ.bindE hm (EvQ.bindE hh (EvQ.pos hp (EvQ.pos rfl (EvQ.bindE hT (EvQ.bindE hI (EvQ.bindE he (EvQ.pos rfl (EvQ.pos rfl (EvQ.pos rfl ?_)))))))))))
 exact EvQ.bindE hh (EvQ.pos hp (EvQ.pos rfl (EvQ.now rfl)))
theorem FnExactEndCall (b : Bool) (l1 : List S96) (m1 : Int) (l3 : List S96) (m3 : Int) (c : ByteArray) (l : List S73) (s r : Int) (w : List S76) (bad : Bool) (path text : ByteArray) (g : GEnd b l1 m1 l3 m3 c l s r w bad) (gp : path.size ≤ maxLen) (gt : text.size ≤ maxLen) : ∃ k, laws_FnExactEndCall.f k b l1 m1 l3 m3 c l s r w bad path text = some true :=
 FnExactEndCall_core ⟨b, l1, m1, l3, m3, c, l, s, r, w, bad⟩ path text g.fit

end Go.Proofs.YtlpibelofcabhaaDoor.Pure
