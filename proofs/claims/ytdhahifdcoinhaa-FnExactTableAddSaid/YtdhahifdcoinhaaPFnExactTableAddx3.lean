-- WRITTEN BY a turned print (wip/tools of the prover's repo)
import Derived.Test.YtdhahifdcoinhaaPFnExactTableAddx0
import Derived.Test.YtdhahifdcoinhaaPFnExactTableAddx2
namespace Go.Proofs.Ytdhahifdcoinhaa.PFnExactTableAdd
open Go.RowKit Go.Proofs.YtdhahifdcoinhaaW.PrintWords Go.Proofs.YtdhahifdcoinhaaW.PrintLast Go.Proofs.YtdhahifdcoinhaaW.PrintMore Go.Proofs.Ytdhahifdcoinhaa.Lm
attribute [local go_sem] max2_int min2_int max_two min_two max_three min_three max_four min_four   -- for this text's walks alone
set_option linter.unusedVariables false
set_option linter.unusedSimpArgs false

/-! ### IndexFunc_Field: function 71 -/
-- by hand
theorem load_list (P : Program) (W : World) (a : Addr) (cs : List Value) (k : Nat) (hk : cs.length = k) (h : ∀ j v, cs[j]? = some v → W.cell? (a.add j) = some v) :
    Sem.run P (loadCellsFrom a 0 k #[]) W = .ok cs.toArray W := by
  have := run_loadCells_list (P := P) (w := W) a cs h
  rw [hk] at this
  exact this
/-- The first place, from i on, at which p says yes; -1, if there is none. -/
def idxFrom (p : S36 → Option Bool) : List (S36) → Int → Option Int
  | [], _ => some (-1)
  | x :: l, i => (p x).bind fun b => if b then some i else idxFrom p l (i + 1)
/-- What a predicate's value does when it is called. -/
def PredIs (P : Program) (g : Nat) (lb : Array Value) (p : S36 → Option Bool) (w : World) : Prop :=
  ∀ (W : World) (x : S36) (b : Bool), Below w.heap.size w W → p x = some b → Calls P g (#[.agg #[.string x.f0, .string x.f1, .bool x.f2]] ++ lb) W fun e w' => e = .returned (.bool b) ∧ Below w.heap.size w w'
set_option maxHeartbeats 4000000 in
set_option maxRecDepth 100000 in
theorem IndexFunc_calls (g : Nat) (lb : Array Value) (p : S36 → Option Bool) (eg : ∀ args w, (callFunc g args).run Try.prog w = .ok (.enter g args) w) (A0 : Option Addr) (c0 : Nat) (l0 : List (S36)) (r : Int) (w : World) (hr0 : Kd.C k36 w A0 l0.length l0) (hc0 : l0.length ≤ c0)
    (hp : PredIs Try.prog g lb p w) (h : idxFrom p l0 0 = some r) (hl : l0.length ≤ 1000000000) :
    Calls Try.prog 71 #[.slice A0 l0.length c0, .func (.func g) #[] lb] w fun e w' => e = .returned (.int .i64 r) ∧ Below w.heap.size w w' := by
  have HR0 := Aside0.mk hr0
  have HP := Aside0.mk hp
  have H := Aside0.mk h
  clear hr0 hp h
  go_enter Try.func71, Try.ntmps71
  go_wp2
  go_loopg [5, 8] (l0.length) (fun kq v5 v8 w' => ∃ i : Nat, v8 = .int .i64 i ∧ Aside0 (kq + i = l0.length) ∧ Aside0 (idxFrom p (l0.drop i) i = some r) ∧ Aside0 (Below w.heap.size w w'))
  case atStart => exact ⟨0, rfl, ⟨by omega⟩, ⟨by simpa using H.out⟩, ⟨Below.refl _ _⟩⟩
  case round =>
    obtain ⟨i, rfl, HK, HX, HB⟩ := hrel
    have hk := HK.out
    by_cases hj : i < l0.length
    · have h0 : (0 : Int) ≤ (i : Int) := by omega
      have h1 : (i : Int) < (l0.length : Int) := by omega
      obtain ⟨x, hx⟩ : ∃ x, l0[i]? = some x := ⟨_, List.getElem?_eq_getElem hj⟩
      have hdrop : l0.drop i = x :: l0.drop (i + 1) := by
        rw [List.drop_eq_getElem_cons hj]
        rw [List.getElem?_eq_getElem hj] at hx
        rw [Option.some.inj hx]
      obtain ⟨_, _, hrd⟩ := Kd.C_below HR0.out HB.out
      obtain ⟨ad, e1, hcell⟩ := hrd (by omega)
      obtain ⟨c, hc1, hc2, hc3⟩ := hcell i x hx
      have hc4 := k36_open hc2
      subst hc4
      subst e1
      have q0 : wr.cell? (ad.add (i * 3)) = some (.string x.f0) := by have h9 := hc3 0 _ rfl; exact h9
      have q1 : wr.cell? ⟨(ad.add (i * 3)).block, (ad.add (i * 3)).off + 1, none⟩ = some (.string x.f1) := by have h9 := hc3 1 _ rfl; rw [← Go.Addr.add_add] at h9; exact h9
      have q2 : wr.cell? ⟨(ad.add (i * 3)).block, (ad.add (i * 3)).off + 2, none⟩ = some (.bool x.f2) := by have h9 := hc3 2 _ rfl; rw [← Go.Addr.add_add] at h9; exact h9
      have hX := HX.out
      rw [hdrop, idxFrom] at hX
      obtain ⟨b, hb1, hb2⟩ := Option.bind_eq_some_iff.1 hX
      have hcall := HP.out wr x b HB.out hb1
      have HX2 := Aside0.mk hb2
      cases gk with
      | zero => omega
      | succ k1 =>
      clear hk hX hb2 hrd hcell hc1 hc2 hc3 hdrop
      cases b with
      | true =>
        go_wp2_with (go_at_fn g; refine hcall.mono ?_; rintro e w' ⟨rfl, hb'⟩)
        go_ret
        have h9 : some (i : Int) = some r := by simpa using HX2.out
        exact ⟨by rw [← Option.some.inj h9]; rfl, hb'⟩
      | false =>
        go_wp2_with (go_at_fn g; refine hcall.mono ?_; rintro e w' ⟨rfl, hb'⟩)
        go_roundg k1
        case measure => have := HK.out; omega
        case rel =>
          refine ⟨i + 1, by go_num, ⟨by have := HK.out; omega⟩, ⟨?_⟩, ⟨hb'⟩⟩
          have h9 := HX2.out
          rw [if_neg (by decide)] at h9
          rw [show ((i + 1 : Nat) : Int) = (i : Int) + 1 by omega]
          exact h9
    · have e : i = l0.length := by omega
      have hltz : ¬ (i : Int) < (l0.length : Int) := by omega
      clear hk hj
      have HE := Aside0.mk e
      clear e
      go_wp2
      go_ret
      have e := HE.out
      subst e
      have hX := HX.out
      rw [List.drop_length, idxFrom] at hX
      exact ⟨by rw [← Option.some.inj hX]; rfl, HB.out⟩

/-! ### impl_HeadOk_1: function 81 -/
-- thin
def impl_HeadOk_1.f (k : Nat) (a0_0 : ByteArray) (a0_1 : ByteArray) (a0_2 : Bool) : Option (Bool) := (impl_FieldOk.f k a0_0 a0_1 a0_2).bind fun t156 => (some (!t156))
theorem impl_HeadOk_1.mono : ∀ a0 a1 a2 k, LeO (impl_HeadOk_1.f k a0 a1 a2) (impl_HeadOk_1.f (k + 1) a0 a1 a2) := by
 intro a0 a1 a2 k
 unfold impl_HeadOk_1.f
 repeat' first
   | (with_reducible exact impl_FieldOk.mono _ _ _ _)
   | (with_reducible exact LeO.refl _)
   | (with_reducible exact LeO.none _)
   | (with_reducible refine LeO.ite ?_ ?_)
   | (with_reducible refine LeO.bind ?_ (fun _ => ?_))
   | exact impl_FieldOk.mono _ _ _ _
   | exact LeO.none _
   | refine LeO.ite ?_ ?_
   | refine LeO.bind ?_ (fun _ => ?_)
set_option maxHeartbeats 8000000 in
set_option maxRecDepth 100000 in
theorem impl_HeadOk_1.calls (k : Nat) (a0_0 : ByteArray) (a0_1 : ByteArray) (a0_2 : Bool) (r : Bool) (w : World) (h : impl_HeadOk_1.f k a0_0 a0_1 a0_2 = some r) :
  Calls Try.prog 81 #[.agg #[.string a0_0, .string a0_1, .bool a0_2]] w fun e w' => e = .returned (.bool r) ∧ Below w.heap.size w w' := by
 have hu36 := Try.underlying36
 have HB := Aside0.mk (Below.refl w.heap.size w)
 have H : ((impl_FieldOk.f k a0_0 a0_1 a0_2).bind fun t156 => (some (!t156))) = some r := h
 clear h
 replace H := Option.bind_eq_some_iff.mp H
 obtain ⟨t156, A20, H⟩ := H
 replace H : (some (!t156)) = some r := H
 have A2 := Aside0.mk A20
 clear A20
 obtain rfl := Option.some.inj H
 go_enter Try.func81, Try.ntmps81
 go_wp2_with (first | ((with_reducible refine gd 1 rfl ?_); refine bx (N := 1) (cs := #[.string a0_0, .string a0_1, .bool a0_2]) (t := 36) ?_; intro gb155 hg w3 hbox hb; have BK155 := Aside0.mk (hbox); have GW155 := Aside0.mk ((by rw [hg]; exact (below_size (zb HB)) : w.heap.size ≤ gb155)); have GE155 := Aside0.mk ((by rw [hg]; exact (below_size (zb HB)) : w.heap.size ≤ gb155)); replace HB := Aside0.mk (below_step (zb HB) hb); clear hb hbox hg; have hcz4_0 : w3.cell? ⟨gb155, 0, none⟩ = some (.string a0_0) := (blk_cell BK155.out 0).trans rfl; have hcz4_1 : w3.cell? ⟨gb155, 1, none⟩ = some (.string a0_1) := (blk_cell BK155.out 1).trans rfl; have hcz4_2 : w3.cell? ⟨gb155, 2, none⟩ = some (.bool a0_2) := (blk_cell BK155.out 2).trans rfl; have hfz4_0 := blk_frozen BK155.out 0; have hfz4_1 := blk_frozen BK155.out 1; have hfz4_2 := blk_frozen BK155.out 2) | ((with_reducible refine gq 55 rfl ?_); refine gl (some 4) Try.func55 #[.agg #[.string a0_0, .string a0_1, .bool a0_2]] ?_; (with_reducible refine (impl_FieldOk.calls k a0_0 a0_1 a0_2 t156 _ A2.out).mono ?_); rintro e w5 ⟨rfl, hb⟩; refine ⟨_, rfl, ?_⟩; replace BK155 := Aside0.mk (blk_below (g := gb155) (o := .cells #[.string a0_0, .string a0_1, .bool a0_2] 36 (0, 0)) (zk BK155) hb); replace HB := Aside0.mk (below_step (zb HB) hb); (try clear hb)))
 go_ret
 exact ⟨ze, zb HB⟩

/-! ### ContainsFunc_Field: function 53 -/
-- by hand
set_option maxHeartbeats 4000000 in
set_option maxRecDepth 100000 in
theorem ContainsFunc_calls (g : Nat) (lb : Array Value) (p : S36 → Option Bool) (eg : ∀ args w, (callFunc g args).run Try.prog w = .ok (.enter g args) w) (A0 : Option Addr) (c0 : Nat) (l0 : List (S36)) (r : Int) (w : World) (hr0 : Kd.C k36 w A0 l0.length l0) (hc0 : l0.length ≤ c0)
    (hp : PredIs Try.prog g lb p w) (h : idxFrom p l0 0 = some r) (hl : l0.length ≤ 1000000000) :
    Calls Try.prog 53 #[.slice A0 l0.length c0, .func (.func g) #[] lb] w fun e w' => e = .returned (.bool (decide (0 ≤ r))) ∧ Below w.heap.size w w' := by
  go_enter Try.func53, Try.ntmps53
  go_wp2_with (go_at_call 71; refine (IndexFunc_calls g lb p eg A0 c0 l0 r _ hr0 hc0 hp h hl).mono ?_; rintro e w' ⟨rfl, hb'⟩)
  go_ret
  exact ⟨rfl, hb'⟩
/-- What function g says of a field. -/
def ContainsFunc_Field.p (k : Nat) (g : Nat) (x : S36) : Option Bool := if g = 54 then impl_TableOk_1.f k x.f0 x.f1 x.f2 else if g = 81 then impl_HeadOk_1.f k x.f0 x.f1 x.f2 else none
def ContainsFunc_Field.known (g : Nat) : Prop := g = 54 ∨ g = 81 ∨ False
instance (g : Nat) : Decidable (ContainsFunc_Field.known g) := by unfold ContainsFunc_Field.known; infer_instance
def ContainsFunc_Field.f (k : Nat) (l0 : List (S36)) (a1 : Nat) : Option Bool :=
  if l0.length ≤ 1000000000 ∧ ContainsFunc_Field.known a1 then (idxFrom (ContainsFunc_Field.p k a1) l0 0).bind fun r => some (decide (0 ≤ r)) else none
theorem idxFrom_mono {p q : S36 → Option Bool} (hpq : ∀ x, LeO (p x) (q x)) : ∀ (l : List (S36)) (i : Int), LeO (idxFrom p l i) (idxFrom q l i)
  | [], _ => fun r h => h
  | x :: l, i => by
    intro r h
    unfold idxFrom at h ⊢
    obtain ⟨b, hb, hr⟩ := Option.bind_eq_some_iff.1 h
    rw [hpq x b hb]
    simp only [Option.bind_some]
    cases b with
    | true => exact hr
    | false => exact idxFrom_mono hpq l (i + 1) r hr
theorem ContainsFunc_Field.p_mono (k g : Nat) (x : S36) : LeO (ContainsFunc_Field.p k g x) (ContainsFunc_Field.p (k + 1) g x) := by
  unfold ContainsFunc_Field.p
  refine LeO.ite (impl_TableOk_1.mono _ _ _ _) ?_
  refine LeO.ite (impl_HeadOk_1.mono _ _ _ _) ?_
  exact LeO.refl _
theorem ContainsFunc_Field.mono : ∀ a0 a1 k, LeO (ContainsFunc_Field.f k a0 a1) (ContainsFunc_Field.f (k + 1) a0 a1) := by
  intro a0 a1 k
  unfold ContainsFunc_Field.f
  refine LeO.ite ?_ (LeO.refl _)
  exact LeO.bind (idxFrom_mono (fun x => ContainsFunc_Field.p_mono k a1 x) a0 0) (fun _ => LeO.refl _)
theorem ContainsFunc_Field.enters (a1 : Nat) (h : ContainsFunc_Field.known a1) : ∀ args w, (callFunc a1 args).run Try.prog w = .ok (.enter a1 args) w := by
  unfold ContainsFunc_Field.known at h
  rcases h with e | h
  · subst e; exact enters_of Try.func54 (by kernel_rfl) rfl
  rcases h with e | h
  · subst e; exact enters_of Try.func81 (by kernel_rfl) rfl
  cases h
theorem ContainsFunc_Field.pred (k a1 : Nat) (w : World) : PredIs Try.prog a1 #[] (ContainsFunc_Field.p k a1) w := by
  intro W x b hW h
  unfold ContainsFunc_Field.p at h
  split at h
  · rename_i e; subst e; rw [Array.append_empty]; exact (impl_TableOk_1.calls k x.f0 x.f1 x.f2 b W h).mono fun e w2 h2 => ⟨h2.1, below_step hW h2.2⟩
  split at h
  · rename_i e; subst e; rw [Array.append_empty]; exact (impl_HeadOk_1.calls k x.f0 x.f1 x.f2 b W h).mono fun e w2 h2 => ⟨h2.1, below_step hW h2.2⟩
  cases h
set_option maxHeartbeats 4000000 in
set_option maxRecDepth 100000 in
theorem ContainsFunc_Field.calls (k : Nat) (A0 : Option Addr) (c0 : Nat) (l0 : List (S36)) (a1 : Nat) (r : Bool) (w : World) (hr0 : Kd.C k36 w A0 l0.length l0) (hc0 : l0.length ≤ c0) (h : ContainsFunc_Field.f k l0 a1 = some r) :
    Calls Try.prog 53 #[.slice A0 l0.length c0, .func (.func a1) #[] #[]] w fun e w' => e = .returned (.bool r) ∧ Below w.heap.size w w' := by
  unfold ContainsFunc_Field.f at h
  split at h
  case isFalse => cases h
  rename_i hl
  obtain ⟨i, hi, hr⟩ := Option.bind_eq_some_iff.1 h
  obtain rfl := Option.some.inj hr
  exact ContainsFunc_calls a1 #[] _ (ContainsFunc_Field.enters a1 hl.2) A0 c0 _ i w hr0 hc0 (ContainsFunc_Field.pred k a1 w) hi hl.1

/-! ### impl_Table_size: function 56 -/
-- thin
def impl_Table_size.l0 : Nat → Int → List (S36) → Int → Int → Option (Int)
 | 0, _, _, _, _ => none
 | k + 1, x3, x7, x8, x9 => if x9 < x8 then (if 0 ≤ x9 then (if x9 < (x7.length : Int) then (impl_Table_size.l0 k (wrap64 (x3 + (wrap64 ((wrap64 ((((rd_T36 x7 x9).f0).size : Int) + (((rd_T36 x7 x9).f1).size : Int))) + 4)))) x7 x8 (wrap64 (x9 + 1))) else (none)) else (none)) else (some x3)
def impl_Table_size.f (k : Nat) (l0_0 : List (S36)) (a0_1 : Int) : Option (Int) := impl_Table_size.l0 k 0 l0_0 (l0_0.length : Int) 0
theorem impl_Table_size.mono_l : ∀ k, (∀ y0 y1 y2 y3, LeO (impl_Table_size.l0 k y0 y1 y2 y3) (impl_Table_size.l0 (k + 1) y0 y1 y2 y3))
 | 0 => fun _ _ _ _ r h => by simp [impl_Table_size.l0] at h
 | k + 1 => by
  have ih0 := impl_Table_size.mono_l k
  ·intro y0 y1 y2 y3
   unfold impl_Table_size.l0
   repeat' first
   | (with_reducible exact ih0 _ _ _ _)
   | (with_reducible exact LeO.refl _)
   | (with_reducible exact LeO.none _)
   | (with_reducible refine LeO.ite ?_ ?_)
   | (with_reducible refine LeO.bind ?_ (fun _ => ?_))
   | exact ih0 _ _ _ _
   | exact LeO.none _
   | refine LeO.ite ?_ ?_
   | refine LeO.bind ?_ (fun _ => ?_)
theorem impl_Table_size.mono : ∀ a0 a1 k, LeO (impl_Table_size.f k a0 a1) (impl_Table_size.f (k + 1) a0 a1) := by
 intro a0 a1 k
 have ih0 := impl_Table_size.mono_l k
 unfold impl_Table_size.f
 repeat' first
   | (with_reducible exact ih0 _ _ _ _)
   | (with_reducible exact LeO.refl _)
   | (with_reducible exact LeO.none _)
   | (with_reducible refine LeO.ite ?_ ?_)
   | (with_reducible refine LeO.bind ?_ (fun _ => ?_))
   | exact ih0 _ _ _ _
   | exact LeO.none _
   | refine LeO.ite ?_ ?_
   | refine LeO.bind ?_ (fun _ => ?_)
set_option maxHeartbeats 8000000 in
set_option maxRecDepth 100000 in
theorem impl_Table_size.calls (k : Nat) (A0_0 : Option Addr) (c0_0 : Nat) (l0_0 : List (S36)) (a0_1 : Int) (r : Int) (w : World) (hr0_0 : Kd.C k36 w A0_0 l0_0.length l0_0) (hc0_0 : l0_0.length ≤ c0_0) (h : impl_Table_size.f k l0_0 a0_1 = some r) :
  Calls Try.prog 56 #[.agg #[.slice A0_0 l0_0.length c0_0, .int .i64 a0_1]] w fun e w' => e = .returned (.int .i64 r) ∧ Below w.heap.size w w' := by
 have hu25 := Try.underlying25
 have hu36 := Try.underlying36
 have HR0_0 := Aside0.mk hr0_0
 have HC0_0 := Aside0.mk hc0_0
 clear hr0_0 hc0_0
 have HB := Aside0.mk (Below.refl w.heap.size w)
 have H : (impl_Table_size.l0 k 0 l0_0 (l0_0.length : Int) 0) = some r := h
 clear h
 have H' := Aside0.mk H
 clear H
 go_enter Try.func56, Try.ntmps56
 go_wp2_with (first | ((with_reducible refine gd 1 rfl ?_); refine bx (N := 1) (cs := #[.slice A0_0 l0_0.length c0_0, .int .i64 a0_1]) (t := 25) ?_; intro gb157 hg w2 hbox hb; have BK157 := Aside0.mk (hbox); have GW157 := Aside0.mk ((by rw [hg]; exact (below_size (zb HB)) : w.heap.size ≤ gb157)); have GE157 := Aside0.mk ((by rw [hg]; exact (below_size (zb HB)) : w.heap.size ≤ gb157)); replace HB := Aside0.mk (below_step (zb HB) hb); clear hb hbox hg; have hcz3_0 : w2.cell? ⟨gb157, 0, none⟩ = some (.slice A0_0 l0_0.length c0_0) := (blk_cell BK157.out 0).trans rfl; have hcz3_1 : w2.cell? ⟨gb157, 1, none⟩ = some (.int .i64 a0_1) := (blk_cell BK157.out 1).trans rfl; have hfz3_0 := blk_frozen BK157.out 0; have hfz3_1 := blk_frozen BK157.out 1))
 go_loopg [3, 9] k (fun kq v3 v9 w' => ∃ (x3_1 : Int) (x9_1 : Int), v3 = .int .i64 x3_1 ∧ v9 = .int .i64 x9_1 ∧ Aside0 (impl_Table_size.l0 kq x3_1 l0_0 (l0_0.length : Int) x9_1 = some r) ∧ Aside0 (kq ≤ k) ∧ Aside0 (w'.heap[gb157]? = some (.cells #[(.slice A0_0 l0_0.length c0_0), .int .i64 a0_1] 25 (0, 0))) ∧ Aside0 (Below w.heap.size w w'))
 case atStart => exact ⟨(0), (0), zs, zs, H', ⟨Nat.le_refl _⟩, ⟨by exact zk BK157⟩, ⟨zb HB⟩⟩
 case round =>
  clear H'
  try clear p2
  try clear hcz3_0
  try clear hcz3_1
  try clear hfz3_0
  try clear hfz3_1
  obtain ⟨x3_1, x9_1, rfl, rfl, HA, HK1, BK157, HB⟩ := hrel
  cases gk with
  | zero => exact absurd HA.out (by simp [impl_Table_size.l0])
  | succ k1 =>
   have H := HA.out
   clear HA
   simp only [impl_Table_size.l0] at H
   by_cases c4 : x9_1 < (l0_0.length : Int)
   ·rw [if_pos c4] at H
    have c4b0 : decide (x9_1 < (l0_0.length : Int)) = true := decide_eq_true c4
    clear c4
    by_cases c5 : 0 ≤ x9_1
    ·rw [if_pos c5] at H
     have c5b0 : decide (0 ≤ x9_1) = true := decide_eq_true c5
     clear c5
     by_cases c6 : x9_1 < (l0_0.length : Int)
     ·rw [if_pos c6] at H
      have c6b0 : decide (x9_1 < (l0_0.length : Int)) = true := decide_eq_true c6
      clear c6
      have H' := Aside0.mk H
      clear H
      have p158 : 0 ≤ (x9_1 : Int) := of_decide_eq_true za
      have q158 : x9_1 < (l0_0.length : Int) := of_decide_eq_true za
      obtain ⟨ad158, e158, hx158_0, hx158_1, hx158_2⟩ := at_T36 HR0_0.out x9_1 p158 q158
      cases e158
      replace hx158_0 := (HB.out.cell (World.block_lt_of_cell? w _ hx158_0)).trans hx158_0
      replace hx158_1 := (HB.out.cell (World.block_lt_of_cell? w _ hx158_1)).trans hx158_1
      replace hx158_2 := (HB.out.cell (World.block_lt_of_cell? w _ hx158_2)).trans hx158_2
      replace p158 := eq_true p158
      replace q158 := eq_true q158
      go_wp2_with (first | ((with_reducible refine gd 5 rfl ?_); refine bx (N := 5) (cs := #[.string (⟨#[]⟩ : ByteArray), .string (⟨#[]⟩ : ByteArray), .bool false]) (t := 36) ?_; intro gb159 hg w7 hbox hb; have BK159 := Aside0.mk (hbox); have GW159 := Aside0.mk ((by rw [hg]; exact (below_size (zb HB)) : w.heap.size ≤ gb159)); have GE159 := Aside0.mk ((by rw [hg]; exact (below_size (zb HB)) : w.heap.size ≤ gb159)); replace HB := Aside0.mk (below_step (zb HB) hb); have NB157_159 := Aside0.mk ((by rw [hg]; exact Nat.ne_of_lt (blk_lt (g := gb157) (o := .cells #[.slice (some ad158) l0_0.length c0_0, .int .i64 a0_1] 25 (0, 0)) (zk BK157)) : gb157 ≠ gb159)); have NB159_157 := Aside0.mk ((by rw [hg]; exact Nat.ne_of_gt (blk_lt (g := gb157) (o := .cells #[.slice (some ad158) l0_0.length c0_0, .int .i64 a0_1] 25 (0, 0)) (zk BK157)) : gb159 ≠ gb157)); replace BK157 := Aside0.mk (blk_below (g := gb157) (o := .cells #[.slice (some ad158) l0_0.length c0_0, .int .i64 a0_1] 25 (0, 0)) (zk BK157) hb); clear hb hbox hg; have hnb8 := NB159_157.out; have hnc8 := NB157_159.out; have hcz9_0 : w7.cell? ⟨gb159, 0, none⟩ = some (.string (⟨#[]⟩ : ByteArray)) := (blk_cell BK159.out 0).trans rfl; have hcz9_1 : w7.cell? ⟨gb159, 1, none⟩ = some (.string (⟨#[]⟩ : ByteArray)) := (blk_cell BK159.out 1).trans rfl; have hcz9_2 : w7.cell? ⟨gb159, 2, none⟩ = some (.bool false) := (blk_cell BK159.out 2).trans rfl; have hfz9_0 := blk_frozen BK159.out 0; have hfz9_1 := blk_frozen BK159.out 1; have hfz9_2 := blk_frozen BK159.out 2))
      go_roundg k1
      case measure => have := HK1.out; omega
      case rel => exact ⟨(wrap64 (x3_1 + (wrap64 ((wrap64 ((((rd_T36 l0_0 x9_1).f0).size : Int) + (((rd_T36 l0_0 x9_1).f1).size : Int))) + 4)))), (wrap64 (x9_1 + 1)), zs, zs, H', ⟨by have := HK1.out; omega⟩, ⟨by (with_reducible repeat (first | refine blk_drewN ?_ _ | refine blk_drew ?_ | refine blk_alloc ?_ _)); refine blk_far ?_ NB157_159.out _; (with_reducible repeat (first | refine blk_drewN ?_ _ | refine blk_drew ?_ | refine blk_alloc ?_ _)); refine blk_far ?_ NB157_159.out _; (with_reducible repeat (first | refine blk_drewN ?_ _ | refine blk_drew ?_ | refine blk_alloc ?_ _)); refine blk_far ?_ NB157_159.out _; exact zk BK157⟩, ⟨zb HB⟩⟩
     ·rw [if_neg c6] at H
      exact absurd H (by simp)
    ·rw [if_neg c5] at H
     exact absurd H (by simp)
   ·rw [if_neg c4] at H
    have c4b0 : decide (x9_1 < (l0_0.length : Int)) = false := decide_eq_false c4
    clear c4
    obtain rfl := Option.some.inj H
    go_wp2
    go_ret
    exact ⟨ze, zb HB⟩

/-! ### impl_TableOk: function 21 -/
-- thin
def impl_TableOk.f (k : Nat) (l0_0 : List (S36)) (a0_1 : Int) : Option (Bool) := (impl_in.f a0_1 0 64).bind fun t161 => (if t161 = true then ((ContainsFunc_Field.f k l0_0 54).bind fun t162 => (if t162 = true then (some false) else ((impl_Table_size.f k l0_0 a0_1).bind fun t163 => (some (decide (t163 ≤ a0_1)))))) else (some false))
theorem impl_TableOk.mono : ∀ a0 a1 k, LeO (impl_TableOk.f k a0 a1) (impl_TableOk.f (k + 1) a0 a1) := by
 intro a0 a1 k
 unfold impl_TableOk.f
 repeat' first
   | (with_reducible exact ContainsFunc_Field.mono _ _ _)
   | (with_reducible exact impl_Table_size.mono _ _ _)
   | (with_reducible exact LeO.refl _)
   | (with_reducible exact LeO.none _)
   | (with_reducible refine LeO.ite ?_ ?_)
   | (with_reducible refine LeO.bind ?_ (fun _ => ?_))
   | exact ContainsFunc_Field.mono _ _ _
   | exact impl_Table_size.mono _ _ _
   | exact LeO.none _
   | refine LeO.ite ?_ ?_
   | refine LeO.bind ?_ (fun _ => ?_)
def impl_TableOk.T1 : Bool × List (List Nat × List Nat) := (true, [([], []), ([0], [0]), ([1], [1]), ([2, 2], [2]), ([3], [3]), ([4, 3], [3, 4]), ([5, 3, 3], [3, 5]), ([6, 3], [3, 6]), ([3, 7], [3, 7]), ([8, 6], [8]), ([9], [9]), ([10, 9, 9], [9, 10]), ([9], [9]), ([12, 9], [9, 12]), ([11, 13, 9], [9, 11, 13]), ([9, 14], [9, 14]), ([15, 11, 0, 1, 2, 3, 4, 5, 6, 7, 8, 9, 10, 11, 12, 13, 14, 15], [15])])
def impl_TableOk.B1 : List Nat := [0, 1, 3, 7, 15, 31, 63, 127, 255, 511, 1023, 2047, 1023, 5119, 16383, 32767, 65535]
theorem impl_TableOk.tab1 : rtab .any (opsOf Try.f21 1) = impl_TableOk.T1 := by kernel_rfl
theorem impl_TableOk.bits1 : waitsOk impl_TableOk.T1.2 impl_TableOk.B1 = true := by kernel_rfl
set_option maxHeartbeats 8000000 in
set_option maxRecDepth 100000 in
theorem impl_TableOk.calls (k : Nat) (A0_0 : Option Addr) (c0_0 : Nat) (l0_0 : List (S36)) (a0_1 : Int) (r : Bool) (w : World) (hr0_0 : Kd.C k36 w A0_0 l0_0.length l0_0) (hc0_0 : l0_0.length ≤ c0_0) (h : impl_TableOk.f k l0_0 a0_1 = some r) :
  Calls Try.prog 21 #[.agg #[.slice A0_0 l0_0.length c0_0, .int .i64 a0_1]] w fun e w' => e = .returned (.bool r) ∧ Below w.heap.size w w' := by
 have hu25 := Try.underlying25
 have HR0_0 := Aside0.mk hr0_0
 have HC0_0 := Aside0.mk hc0_0
 clear hr0_0 hc0_0
 have HB := Aside0.mk (Below.refl w.heap.size w)
 have H : ((impl_in.f a0_1 0 64).bind fun t161 => (if t161 = true then ((ContainsFunc_Field.f k l0_0 54).bind fun t162 => (if t162 = true then (some false) else ((impl_Table_size.f k l0_0 a0_1).bind fun t163 => (some (decide (t163 ≤ a0_1)))))) else (some false))) = some r := h
 clear h
 replace H := Option.bind_eq_some_iff.mp H
 obtain ⟨t161, A20, H⟩ := H
 replace H : (if t161 = true then ((ContainsFunc_Field.f k l0_0 54).bind fun t162 => (if t162 = true then (some false) else ((impl_Table_size.f k l0_0 a0_1).bind fun t163 => (some (decide (t163 ≤ a0_1)))))) else (some false)) = some r := H
 have A2 := Aside0.mk A20
 clear A20
 by_cases c3 : t161 = true
 ·subst c3
  have H1 : ((ContainsFunc_Field.f k l0_0 54).bind fun t162 => (if t162 = true then (some false) else ((impl_Table_size.f k l0_0 a0_1).bind fun t163 => (some (decide (t163 ≤ a0_1)))))) = some r := by rw [if_pos rfl] at H; exact H
  clear H
  have H := H1
  clear H1
  replace H := Option.bind_eq_some_iff.mp H
  obtain ⟨t162, A40, H⟩ := H
  replace H : (if t162 = true then (some false) else ((impl_Table_size.f k l0_0 a0_1).bind fun t163 => (some (decide (t163 ≤ a0_1))))) = some r := H
  have A4 := Aside0.mk A40
  clear A40
  by_cases c5 : t162 = true
  ·subst c5
   have H1 : (some false) = some r := by rw [if_pos rfl] at H; exact H
   clear H
   have H := H1
   clear H1
   obtain rfl := Option.some.inj H
   go_enter Try.func21, Try.ntmps21
   try go_wp2_with (first | ((with_reducible refine gd 1 rfl ?_); refine bx (N := 1) (cs := #[.slice A0_0 l0_0.length c0_0, .int .i64 a0_1]) (t := 25) ?_; intro gb160 hg w6 hbox hb; have BK160 := Aside0.mk (hbox); have GW160 := Aside0.mk ((by rw [hg]; exact (below_size (zb HB)) : w.heap.size ≤ gb160)); have GE160 := Aside0.mk ((by rw [hg]; exact (below_size (zb HB)) : w.heap.size ≤ gb160)); replace HB := Aside0.mk (below_step (zb HB) hb); clear hb hbox hg))
   replace BK160 := Aside0.mk (blk_drew BK160.out)
   replace HB := Aside0.mk (below_drew1 HB.out)
   refine start_ (n := 17) (S := fun w' => w'.cell? ⟨gb160, 0, none⟩ = some (.slice A0_0 l0_0.length c0_0) ∧ w'.cell? ⟨gb160, 1, none⟩ = some (.int .i64 a0_1)) (ds := []) #[false, false, false, false, false, false, false, false, false, false, false, false, false, false, false, false, false] (by kernel_rfl) rfl rfl ⟨(blk_cell BK160.out 0).trans rfl, (blk_cell BK160.out 1).trans rfl⟩ (fun hHeld => ?_); refine with_tabW impl_TableOk.tab1 impl_TableOk.bits1 (fun HT_ HW_ => ?_)
   generalize w6.drew = w7 at BK160 HB hHeld ⊢
   refine pu 0 (some 3) (bm 17 1) rfl rfl ?_
   refine tk2 1 (some 4) (bm 17 3) rfl rfl hHeld ?_
   refine one_ (i := 2) (N := some 5) (bm 17 7) rfl rfl (one_of HT_.out (by kernel_rfl)) (by decide) (fun K hK => ?_)
   refine gs Try.func48 #[.int .i64 a0_1, .int .i64 0, .int .i64 64] ?_
   with_reducible refine (impl_in.calls a0_1 0 64 true _ A2.out).mono ?_
   rintro e w' ⟨rfl, ⟨nd, rfl⟩⟩
   refine ⟨_, rfl, ?_⟩
   refine hK.out _ _ ⟨(blk_cell BK160.out 0).trans rfl, (blk_cell BK160.out 1).trans rfl⟩ (fun hHeld => ?_)
   clear hK K
   refine nm ?_
   refine pu 3 (some 6) (bm 17 15) rfl rfl ?_
   refine pu 4 (some 7) (bm 17 31) rfl rfl ?_
   refine tk2 5 (some 8) (bm 17 63) rfl rfl hHeld ?_
   refine one_ (i := 6) (N := some 9) (bm 17 127) rfl rfl (one_of HT_.out (by kernel_rfl)) (by decide) (fun K hK => ?_)
   refine gs Try.func53 #[.slice A0_0 l0_0.length c0_0, .func (.func 54) #[] #[]] ?_
   with_reducible refine (ContainsFunc_Field.calls k _ _ l0_0 54 true _ ?side1 ?side2 A4.out).mono ?_
   (case side1 => exact (Kd.C_below HR0_0.out (zb HB)))
   (case side2 => exact HC0_0.out)
   rintro e w8 ⟨rfl, hb⟩
   refine ⟨_, rfl, ?_⟩
   replace BK160 := Aside0.mk (blk_below (g := gb160) (o := .cells #[.slice A0_0 l0_0.length c0_0, .int .i64 a0_1] 25 (0, 0)) (zk BK160) hb)
   replace HB := Aside0.mk (below_step (zb HB) hb)
   (try clear hb)
   refine hK.out _ _ ⟨(blk_cell BK160.out 0).trans rfl, (blk_cell BK160.out 1).trans rfl⟩ (fun hHeld => ?_)
   clear hK K
   refine nm ?_
   refine pu 7 (some 10) (bm 17 255) rfl rfl ?_
   refine pu 8 (some 11) (bm 17 511) rfl rfl ?_
   refine pu 9 (some 12) (bm 17 1023) rfl rfl ?_
   refine pv 10 (some 13) (bm 17 2047) rfl rfl ?_
   refine pv 11 (some 14) (bm 17 4095) rfl rfl ?_
   refine pv 12 (some 15) (bm 17 8191) rfl rfl ?_
   refine pv 13 (some 16) (bm 17 16383) rfl rfl ?_
   refine pv 14 (some 17) (bm 17 32767) rfl rfl ?_
   refine pu 15 (some 18) (bm 17 65535) rfl rfl ?_
   refine pu 16 (some 2) (bm 17 131071) rfl rfl ?_
   refine done_ (done_of HT_.out (by kernel_rfl)) ?_
   try go_wp2
   go_ret
   exact ⟨ze, zb HB⟩
  ·replace c5 := Bool.eq_false_iff.mpr c5
   subst c5
   have H1 : ((impl_Table_size.f k l0_0 a0_1).bind fun t163 => (some (decide (t163 ≤ a0_1)))) = some r := by rw [if_neg (show ¬ (false = true) by decide)] at H; exact H
   clear H
   have H := H1
   clear H1
   replace H := Option.bind_eq_some_iff.mp H
   obtain ⟨t163, A90, H⟩ := H
   replace H : (some (decide (t163 ≤ a0_1))) = some r := H
   have A9 := Aside0.mk A90
   clear A90
   obtain rfl := Option.some.inj H
   go_enter Try.func21, Try.ntmps21
   try go_wp2_with (first | ((with_reducible refine gd 1 rfl ?_); refine bx (N := 1) (cs := #[.slice A0_0 l0_0.length c0_0, .int .i64 a0_1]) (t := 25) ?_; intro gb160 hg w10 hbox hb; have BK160 := Aside0.mk (hbox); have GW160 := Aside0.mk ((by rw [hg]; exact (below_size (zb HB)) : w.heap.size ≤ gb160)); have GE160 := Aside0.mk ((by rw [hg]; exact (below_size (zb HB)) : w.heap.size ≤ gb160)); replace HB := Aside0.mk (below_step (zb HB) hb); clear hb hbox hg))
   replace BK160 := Aside0.mk (blk_drew BK160.out)
   replace HB := Aside0.mk (below_drew1 HB.out)
   refine start_ (n := 17) (S := fun w' => w'.cell? ⟨gb160, 0, none⟩ = some (.slice A0_0 l0_0.length c0_0) ∧ w'.cell? ⟨gb160, 1, none⟩ = some (.int .i64 a0_1)) (ds := []) #[false, false, false, false, false, false, false, false, false, false, false, false, false, false, false, false, false] (by kernel_rfl) rfl rfl ⟨(blk_cell BK160.out 0).trans rfl, (blk_cell BK160.out 1).trans rfl⟩ (fun hHeld => ?_); refine with_tabW impl_TableOk.tab1 impl_TableOk.bits1 (fun HT_ HW_ => ?_)
   generalize w10.drew = w11 at BK160 HB hHeld ⊢
   refine pu 0 (some 3) (bm 17 1) rfl rfl ?_
   refine tk2 1 (some 4) (bm 17 3) rfl rfl hHeld ?_
   refine one_ (i := 2) (N := some 5) (bm 17 7) rfl rfl (one_of HT_.out (by kernel_rfl)) (by decide) (fun K hK => ?_)
   refine gs Try.func48 #[.int .i64 a0_1, .int .i64 0, .int .i64 64] ?_
   with_reducible refine (impl_in.calls a0_1 0 64 true _ A2.out).mono ?_
   rintro e w' ⟨rfl, ⟨nd, rfl⟩⟩
   refine ⟨_, rfl, ?_⟩
   refine hK.out _ _ ⟨(blk_cell BK160.out 0).trans rfl, (blk_cell BK160.out 1).trans rfl⟩ (fun hHeld => ?_)
   clear hK K
   refine nm ?_
   refine pu 3 (some 6) (bm 17 15) rfl rfl ?_
   refine pu 4 (some 7) (bm 17 31) rfl rfl ?_
   refine tk2 5 (some 8) (bm 17 63) rfl rfl hHeld ?_
   refine one_ (i := 6) (N := some 9) (bm 17 127) rfl rfl (one_of HT_.out (by kernel_rfl)) (by decide) (fun K hK => ?_)
   refine gs Try.func53 #[.slice A0_0 l0_0.length c0_0, .func (.func 54) #[] #[]] ?_
   with_reducible refine (ContainsFunc_Field.calls k _ _ l0_0 54 false _ ?side1 ?side2 A4.out).mono ?_
   (case side1 => exact (Kd.C_below HR0_0.out (zb HB)))
   (case side2 => exact HC0_0.out)
   rintro e w12 ⟨rfl, hb⟩
   refine ⟨_, rfl, ?_⟩
   replace BK160 := Aside0.mk (blk_below (g := gb160) (o := .cells #[.slice A0_0 l0_0.length c0_0, .int .i64 a0_1] 25 (0, 0)) (zk BK160) hb)
   replace HB := Aside0.mk (below_step (zb HB) hb)
   (try clear hb)
   refine hK.out _ _ ⟨(blk_cell BK160.out 0).trans rfl, (blk_cell BK160.out 1).trans rfl⟩ (fun hHeld => ?_)
   clear hK K
   refine nm ?_
   refine pu 7 (some 10) (bm 17 255) rfl rfl ?_
   refine pu 8 (some 11) (bm 17 511) rfl rfl ?_
   refine pu 9 (some 12) (bm 17 1023) rfl rfl ?_
   refine pu 12 (some 15) (bm 17 5119) rfl rfl ?_
   refine tk2 10 (some 13) (bm 17 6143) rfl rfl hHeld ?_
   refine tk2 13 (some 16) (bm 17 14335) rfl rfl hHeld ?_
   refine one_ (i := 11) (N := some 14) (bm 17 16383) rfl rfl (one_of HT_.out (by kernel_rfl)) (by decide) (fun K hK => ?_)
   refine gs Try.func56 #[.agg #[.slice A0_0 l0_0.length c0_0, .int .i64 a0_1]] ?_
   with_reducible refine (impl_Table_size.calls k _ _ l0_0 a0_1 t163 _ ?side1 ?side2 A9.out).mono ?_
   (case side1 => exact zc (Kd.C_below HR0_0.out HB.out))
   (case side2 => exact HC0_0.out)
   rintro e w13 ⟨rfl, hb⟩
   refine ⟨_, rfl, ?_⟩
   replace BK160 := Aside0.mk (blk_below (g := gb160) (o := .cells #[.slice A0_0 l0_0.length c0_0, .int .i64 a0_1] 25 (0, 0)) (zk BK160) hb)
   replace HB := Aside0.mk (below_step (zb HB) hb)
   (try clear hb)
   refine hK.out _ _ ⟨(blk_cell BK160.out 0).trans rfl, (blk_cell BK160.out 1).trans rfl⟩ (fun hHeld => ?_)
   clear hK K
   refine nm ?_
   refine pu 14 (some 17) (bm 17 32767) rfl rfl ?_
   refine pu 15 (some 18) (bm 17 65535) rfl rfl ?_
   refine pu 16 (some 2) (bm 17 131071) rfl rfl ?_
   refine done_ (done_of HT_.out (by kernel_rfl)) ?_
   try go_wp2
   go_ret
   exact ⟨ze, zb HB⟩
 ·replace c3 := Bool.eq_false_iff.mpr c3
  subst c3
  have H1 : (some false) = some r := by rw [if_neg (show ¬ (false = true) by decide)] at H; exact H
  clear H
  have H := H1
  clear H1
  obtain rfl := Option.some.inj H
  go_enter Try.func21, Try.ntmps21
  try go_wp2_with (first | ((with_reducible refine gd 1 rfl ?_); refine bx (N := 1) (cs := #[.slice A0_0 l0_0.length c0_0, .int .i64 a0_1]) (t := 25) ?_; intro gb160 hg w14 hbox hb; have BK160 := Aside0.mk (hbox); have GW160 := Aside0.mk ((by rw [hg]; exact (below_size (zb HB)) : w.heap.size ≤ gb160)); have GE160 := Aside0.mk ((by rw [hg]; exact (below_size (zb HB)) : w.heap.size ≤ gb160)); replace HB := Aside0.mk (below_step (zb HB) hb); clear hb hbox hg))
  replace BK160 := Aside0.mk (blk_drew BK160.out)
  replace HB := Aside0.mk (below_drew1 HB.out)
  refine start_ (n := 17) (S := fun w' => w'.cell? ⟨gb160, 0, none⟩ = some (.slice A0_0 l0_0.length c0_0) ∧ w'.cell? ⟨gb160, 1, none⟩ = some (.int .i64 a0_1)) (ds := []) #[false, false, false, false, false, false, false, false, false, false, false, false, false, false, false, false, false] (by kernel_rfl) rfl rfl ⟨(blk_cell BK160.out 0).trans rfl, (blk_cell BK160.out 1).trans rfl⟩ (fun hHeld => ?_); refine with_tabW impl_TableOk.tab1 impl_TableOk.bits1 (fun HT_ HW_ => ?_)
  generalize w14.drew = w15 at BK160 HB hHeld ⊢
  refine pu 0 (some 3) (bm 17 1) rfl rfl ?_
  refine tk2 1 (some 4) (bm 17 3) rfl rfl hHeld ?_
  refine one_ (i := 2) (N := some 5) (bm 17 7) rfl rfl (one_of HT_.out (by kernel_rfl)) (by decide) (fun K hK => ?_)
  refine gs Try.func48 #[.int .i64 a0_1, .int .i64 0, .int .i64 64] ?_
  with_reducible refine (impl_in.calls a0_1 0 64 false _ A2.out).mono ?_
  rintro e w' ⟨rfl, ⟨nd, rfl⟩⟩
  refine ⟨_, rfl, ?_⟩
  refine hK.out _ _ ⟨(blk_cell BK160.out 0).trans rfl, (blk_cell BK160.out 1).trans rfl⟩ (fun hHeld => ?_)
  clear hK K
  refine nm ?_
  refine pu 3 (some 6) (bm 17 15) rfl rfl ?_
  refine pv 4 (some 7) (bm 17 31) rfl rfl ?_
  refine pv 5 (some 8) (bm 17 63) rfl rfl ?_
  refine pv 6 (some 9) (bm 17 127) rfl rfl ?_
  refine pv 7 (some 10) (bm 17 255) rfl rfl ?_
  refine pu 8 (some 11) (bm 17 511) rfl rfl ?_
  refine pu 9 (some 12) (bm 17 1023) rfl rfl ?_
  refine pv 10 (some 13) (bm 17 2047) rfl rfl ?_
  refine pv 11 (some 14) (bm 17 4095) rfl rfl ?_
  refine pv 12 (some 15) (bm 17 8191) rfl rfl ?_
  refine pv 13 (some 16) (bm 17 16383) rfl rfl ?_
  refine pv 14 (some 17) (bm 17 32767) rfl rfl ?_
  refine pu 15 (some 18) (bm 17 65535) rfl rfl ?_
  refine pu 16 (some 2) (bm 17 131071) rfl rfl ?_
  refine done_ (done_of HT_.out (by kernel_rfl)) ?_
  try go_wp2
  go_ret
  exact ⟨ze, zb HB⟩

/-! ### impl_cloneFields: function 84 -/
-- by hand
/-- A row like the one that came in. -/
def impl_cloneFields.f (l0 : List (S36)) : Option (List (S36)) := if l0.length < 3518437208883 then some l0 else none
set_option maxHeartbeats 4000000 in
set_option maxRecDepth 100000 in
theorem impl_cloneFields.calls (A0 : Option Addr) (c0 : Nat) (l0 : List (S36)) (r : List (S36)) (w : World) (hr0 : Kd.C k36 w A0 l0.length l0) (hc0 : l0.length ≤ c0) (h : impl_cloneFields.f l0 = some r) :
    Calls Try.prog 84 #[.slice A0 l0.length c0] w fun e w' => ∃ v0_ : Value, e = .returned (v0_) ∧ Kd.R k36 36 w' w.heap.size (fun _ => True) v0_ r ∧ Below w.heap.size w w' := by
  unfold impl_cloneFields.f at h
  split at h
  case isFalse => cases h
  rename_i hl
  obtain rfl := Option.some.inj h
  clear h
  have HR0 := Aside0.mk hr0
  clear hr0
  go_enter Try.func84, Try.ntmps84
  go_wp2_with (first | (at_builtin; refine Kd.R_append_rows k36 (w0 := w) w.heap.size rfl (.const (.slice none 0 0)) (.tmp 3) 23 36 (.agg #[(.string ⟨#[]⟩), (.string ⟨#[]⟩), (.bool false)]) 40 rfl Try.underlying23 info36 rfl (by decide) (by omega) (.slice none 0 0) [] l0 _ _ _ (fun _ => True) (fun _ => False) rfl rfl ?aO ?aR (fun _ _ h => h) (fun _ h => h.elim) ?aF ?aB ?aS ?aL ?_; (case aR => exact HR0.out); (case aB => exact Below.refl _ _); (case aF => exact (fun _ _ => trivial)); (case aO => exact Kd.R_nil _ _ _ _ _); (case aS => exact Nat.le_refl _); (case aL => simp only [List.length_nil]; omega); intro v1 w1 ho hb hg hat; rw [List.nil_append] at ho; have N1 := Aside0.mk ho; have N2 := Aside0.mk hb; clear ho hb hg hat))
  go_ret
  exact ⟨_, rfl, N1.out, N2.out⟩

/-! ### impl_Table_clone: function 69 -/
-- thin
def impl_Table_clone.f (l0_0 : List (S36)) (a0_1 : Int) : Option ((List (S36)) × Int) := (impl_cloneFields.f l0_0).bind fun t166 => (some (t166, a0_1))
set_option maxHeartbeats 8000000 in
set_option maxRecDepth 100000 in
theorem impl_Table_clone.calls (A0_0 : Option Addr) (c0_0 : Nat) (l0_0 : List (S36)) (a0_1 : Int) (r1 : List (S36)) (r2 : Int) (w : World) (hr0_0 : Kd.C k36 w A0_0 l0_0.length l0_0) (hc0_0 : l0_0.length ≤ c0_0) (h : impl_Table_clone.f l0_0 a0_1 = some (r1, r2)) :
  Calls Try.prog 69 #[.agg #[.slice A0_0 l0_0.length c0_0, .int .i64 a0_1]] w fun e w' => ∃ v0_ : Value, e = .returned (.agg #[v0_, .int .i64 r2]) ∧ Kd.R k36 36 w' w.heap.size (fun _ => True) v0_ r1 ∧ Below w.heap.size w w' := by
 have hu25 := Try.underlying25
 have HR0_0 := Aside0.mk hr0_0
 have HC0_0 := Aside0.mk hc0_0
 clear hr0_0 hc0_0
 have HB := Aside0.mk (Below.refl w.heap.size w)
 have H : ((impl_cloneFields.f l0_0).bind fun t166 => (some (t166, a0_1))) = some (r1, r2) := h
 clear h
 replace H := Option.bind_eq_some_iff.mp H
 obtain ⟨t166, A20, H⟩ := H
 replace H : (some (t166, a0_1)) = some (r1, r2) := H
 have A2 := Aside0.mk A20
 clear A20
 simp only [Option.some.injEq, Prod.mk.injEq] at H
 obtain ⟨rfl, rfl⟩ := H
 go_enter Try.func69, Try.ntmps69
 try go_wp2_with (first | ((with_reducible refine gd 1 rfl ?_); refine bx (N := 1) (cs := #[.slice A0_0 l0_0.length c0_0, .int .i64 a0_1]) (t := 25) ?_; intro gb164 hg w3 hbox hb; have BK164 := Aside0.mk (hbox); have GW164 := Aside0.mk ((by rw [hg]; exact (below_size (zb HB)) : w.heap.size ≤ gb164)); have GE164 := Aside0.mk ((by rw [hg]; exact (below_size (zb HB)) : w.heap.size ≤ gb164)); replace HB := Aside0.mk (below_step (zb HB) hb); clear hb hbox hg) | ((with_reducible refine gd 2 rfl ?_); refine bx (N := 2) (cs := #[.slice none 0 0, .int .i64 0]) (t := 25) ?_; intro gb165 hg w4 hbox hb; have BK165 := Aside0.mk (hbox); have GW165 := Aside0.mk ((by rw [hg]; exact (below_size (zb HB)) : w.heap.size ≤ gb165)); have GE165 := Aside0.mk ((by rw [hg]; exact (below_size (zb HB)) : w.heap.size ≤ gb165)); replace HB := Aside0.mk (below_step (zb HB) hb); have NB164_165 := Aside0.mk ((by rw [hg]; exact Nat.ne_of_lt (blk_lt (g := gb164) (o := .cells #[.slice A0_0 l0_0.length c0_0, .int .i64 a0_1] 25 (0, 0)) (zk BK164)) : gb164 ≠ gb165)); have NB165_164 := Aside0.mk ((by rw [hg]; exact Nat.ne_of_gt (blk_lt (g := gb164) (o := .cells #[.slice A0_0 l0_0.length c0_0, .int .i64 a0_1] 25 (0, 0)) (zk BK164)) : gb165 ≠ gb164)); replace BK164 := Aside0.mk (blk_below (g := gb164) (o := .cells #[.slice A0_0 l0_0.length c0_0, .int .i64 a0_1] 25 (0, 0)) (zk BK164) hb); clear hb hbox hg))
 replace BK164 := Aside0.mk (blk_drew BK164.out)
 replace BK165 := Aside0.mk (blk_drew BK165.out)
 replace HB := Aside0.mk (below_drew1 HB.out)
 refine start_ (n := 7) (S := fun w' => w'.cell? ⟨gb164, 0, none⟩ = some (.slice A0_0 l0_0.length c0_0) ∧ w'.cell? ⟨gb164, 1, none⟩ = some (.int .i64 a0_1)) (ds := []) #[false, false, false, false, false, false, false] (by kernel_rfl) rfl rfl ⟨(blk_cell BK164.out 0).trans rfl, (blk_cell BK164.out 1).trans rfl⟩ (fun hHeld => ?_)
 generalize w4.drew = w5 at BK164 BK165 HB hHeld ⊢
 refine pu 0 (some 3) (bm 7 1) rfl rfl ?_
 refine pu 3 (some 6) (bm 7 9) rfl rfl ?_
 refine tk2 1 (some 4) (bm 7 11) rfl rfl hHeld ?_
 refine tk2 4 (some 7) (bm 7 27) rfl rfl hHeld ?_
 refine one_ (i := 2) (N := some 5) (bm 7 31) rfl rfl (by kernel_rfl) (by decide) (fun K hK => ?_)
 refine gs Try.func84 #[.slice A0_0 l0_0.length c0_0] ?_
 with_reducible refine (impl_cloneFields.calls _ _ l0_0 t166 _ ?side1 ?side2 A2.out).mono ?_
 (case side1 => exact zc (Kd.C_below HR0_0.out HB.out))
 (case side2 => exact HC0_0.out)
 rintro e w6 ⟨v167, rfl, ho0, hb⟩
 refine ⟨_, rfl, ?_⟩
 have HO168 := Aside0.mk (Kd.R_lower ho0 (below_size (zb HB)))
 replace BK164 := Aside0.mk (blk_below (g := gb164) (o := .cells #[.slice A0_0 l0_0.length c0_0, .int .i64 a0_1] 25 (0, 0)) (zk BK164) hb)
 replace BK165 := Aside0.mk (blk_below (g := gb165) (o := .cells #[.slice none 0 0, .int .i64 0] 25 (0, 0)) (zk BK165) hb)
 replace HB := Aside0.mk (below_step (zb HB) hb)
 (try clear hb)
 (try clear ho0)
 obtain ⟨Ao7, co7, eo7⟩ := Kd.R_slice HO168.out
 (first | subst eo7 | (injection eo7 with f1_ f2_ f3_; have f4_ := f1_.symm; have f5_ := f3_.symm; clear f1_ f2_ f3_; subst f4_; subst f5_))
 refine hK.out _ _ ⟨(blk_cell BK164.out 0).trans rfl, (blk_cell BK164.out 1).trans rfl⟩ (fun hHeld => ?_)
 clear hK K
 refine nm ?_
 refine pu 5 (some 8) (bm 7 63) rfl rfl ?_
 refine one_ (i := 6) (N := none) (bm 7 127) rfl rfl (by kernel_rfl) (by decide) (fun K hK => ?_)
 have hs8 : w6.cell? ⟨gb165, 0, none⟩ = some (.slice none 0 0) := (blk_cell BK165.out 0).trans rfl
 have hfs8 := blk_frozen BK165.out 0
 have hns8_0 := NB164_165.out
 have hms8_0 := NB165_164.out
 have hs9 : w6.cell? ⟨gb165, 1, none⟩ = some (.int .i64 0) := (blk_cell BK165.out 1).trans rfl
 have hfs9 := blk_frozen BK165.out 1
 have hns9_0 := NB164_165.out
 have hms9_0 := NB165_164.out
 refine skip_ (w1 := ?_) (by rfl) rfl ?_ ?_
 rotate_left
 ·go_simp
  rfl
 refine hK.out _ _ ⟨((cell_far (p := ⟨gb165, _, none⟩) NB164_165.out _).trans (((cell_far (p := ⟨gb165, _, none⟩) NB164_165.out _).trans (hHeld.1)))), ((cell_far (p := ⟨gb165, _, none⟩) NB164_165.out _).trans (((cell_far (p := ⟨gb165, _, none⟩) NB164_165.out _).trans (hHeld.2))))⟩ (fun hHeld => ?_)
 clear hK K
 refine done_ (by kernel_rfl) ?_
 try go_wp2
 refine bodyPost_ret (results_cell_row rfl _ _ gb165 25 #[.slice Ao7 t166.length co7, .int .i64 a0_1] (0, 0) _ rfl (by (with_reducible repeat (first | refine blk_drewN ?_ _ | refine blk_drew ?_ | refine blk_alloc ?_ _)); refine blk_put (cs := #[.slice Ao7 t166.length co7, .int .i64 0]) ?_ 1 _ rfl; (with_reducible repeat (first | refine blk_drewN ?_ _ | refine blk_drew ?_ | refine blk_alloc ?_ _)); refine blk_put (cs := #[.slice none 0 0, .int .i64 0]) ?_ 0 _ rfl; exact zk BK165) Try.underlying25 rfl (by kernel_rfl)) rfl ?_
 exact ⟨_, ze, by (with_reducible repeat (first | apply Kd.R_alloc | apply Kd.R_drewN | apply Kd.R_drew)); exact Kd.R_mono (Kd.R_far (p := ⟨gb165, 1, none⟩) (Kd.R_far (p := ⟨gb165, 0, none⟩) (Kd.R_types HO168.out BK165.out (by decide)) (fun _ hk => hk.2) (.slice Ao7 t166.length co7)) (fun _ hk => hk.2) (.int .i64 a0_1)) (fun _ hk => trivial), zb HB⟩

/-! ### impl_Table_fit: function 49 -/
-- thin
def impl_Table_fit.l0 : Nat → List (S36) → Int → Option ((List (S36)) × Int)
 | 0, _, _ => none
 | k + 1, x176000, x176001 => (impl_Table_size.f k x176000 x176001).bind fun t176 => (if t176 > x176001 then (if 0 ≤ (wrap64 ((x176000.length : Int) - 1)) then (if (wrap64 ((x176000.length : Int) - 1)) ≤ (x176000.length : Int) then (impl_Table_fit.l0 k (x176000.take ((wrap64 ((x176000.length : Int) - 1)) : Int).toNat) x176001) else (none)) else (none)) else ((impl_Table_clone.f x176000 x176001).bind fun bt180 => (some (bt180.1, bt180.2))))
def impl_Table_fit.f (k : Nat) (l0_0 : List (S36)) (a0_1 : Int) : Option ((List (S36)) × Int) := (impl_Table_clone.f l0_0 a0_1).bind fun bt171 => (impl_Table_fit.l0 k bt171.1 bt171.2)
theorem impl_Table_fit.mono_l : ∀ k, (∀ y0 y1, LeO (impl_Table_fit.l0 k y0 y1) (impl_Table_fit.l0 (k + 1) y0 y1))
 | 0 => fun _ _ r h => by simp [impl_Table_fit.l0] at h
 | k + 1 => by
  have ih0 := impl_Table_fit.mono_l k
  ·intro y0 y1
   unfold impl_Table_fit.l0
   repeat' first
   | (with_reducible exact ih0 _ _)
   | (with_reducible exact impl_Table_size.mono _ _ _)
   | (with_reducible exact LeO.refl _)
   | (with_reducible exact LeO.none _)
   | (with_reducible refine LeO.ite ?_ ?_)
   | (with_reducible refine LeO.bind ?_ (fun _ => ?_))
   | exact ih0 _ _
   | exact impl_Table_size.mono _ _ _
   | exact LeO.none _
   | refine LeO.ite ?_ ?_
   | refine LeO.bind ?_ (fun _ => ?_)
theorem impl_Table_fit.mono : ∀ a0 a1 k, LeO (impl_Table_fit.f k a0 a1) (impl_Table_fit.f (k + 1) a0 a1) := by
 intro a0 a1 k
 have ih0 := impl_Table_fit.mono_l k
 unfold impl_Table_fit.f
 repeat' first
   | (with_reducible exact ih0 _ _)
   | (with_reducible exact impl_Table_size.mono _ _ _)
   | (with_reducible exact LeO.refl _)
   | (with_reducible exact LeO.none _)
   | (with_reducible refine LeO.ite ?_ ?_)
   | (with_reducible refine LeO.bind ?_ (fun _ => ?_))
   | exact ih0 _ _
   | exact impl_Table_size.mono _ _ _
   | exact LeO.none _
   | refine LeO.ite ?_ ?_
   | refine LeO.bind ?_ (fun _ => ?_)
set_option maxHeartbeats 8000000 in
set_option maxRecDepth 100000 in
theorem impl_Table_fit.calls (k : Nat) (A0_0 : Option Addr) (c0_0 : Nat) (l0_0 : List (S36)) (a0_1 : Int) (r1 : List (S36)) (r2 : Int) (w : World) (hr0_0 : Kd.C k36 w A0_0 l0_0.length l0_0) (hc0_0 : l0_0.length ≤ c0_0) (h : impl_Table_fit.f k l0_0 a0_1 = some (r1, r2)) :
  Calls Try.prog 49 #[.agg #[.slice A0_0 l0_0.length c0_0, .int .i64 a0_1]] w fun e w' => ∃ v0_ : Value, e = .returned (.agg #[v0_, .int .i64 r2]) ∧ Kd.R k36 36 w' w.heap.size (fun _ => True) v0_ r1 ∧ Below w.heap.size w w' := by
 have hu25 := Try.underlying25
 have HR0_0 := Aside0.mk hr0_0
 have HC0_0 := Aside0.mk hc0_0
 clear hr0_0 hc0_0
 have HB := Aside0.mk (Below.refl w.heap.size w)
 have H : ((impl_Table_clone.f l0_0 a0_1).bind fun bt171 => (impl_Table_fit.l0 k bt171.1 bt171.2)) = some (r1, r2) := h
 clear h
 replace H := Option.bind_eq_some_iff.mp H
 obtain ⟨⟨t171, t174⟩, A20, H⟩ := H
 replace H : (impl_Table_fit.l0 k t171 t174) = some (r1, r2) := H
 have A2 := Aside0.mk A20
 clear A20
 have H' := Aside0.mk H
 clear H
 go_enter Try.func49, Try.ntmps49
 go_wp2_with (first | ((with_reducible refine gd 1 rfl ?_); refine bx (N := 1) (cs := #[.slice A0_0 l0_0.length c0_0, .int .i64 a0_1]) (t := 25) ?_; intro gb169 hg w3 hbox hb; have BK169 := Aside0.mk (hbox); have GW169 := Aside0.mk ((by rw [hg]; exact (below_size (zb HB)) : w.heap.size ≤ gb169)); have GE169 := Aside0.mk ((by rw [hg]; exact (below_size (zb HB)) : w.heap.size ≤ gb169)); replace HB := Aside0.mk (below_step (zb HB) hb); clear hb hbox hg) | ((with_reducible refine gd 2 rfl ?_); refine bx (N := 2) (cs := #[.slice none 0 0, .int .i64 0]) (t := 25) ?_; intro gb170 hg w4 hbox hb; have BK170 := Aside0.mk (hbox); have GW170 := Aside0.mk ((by rw [hg]; exact (below_size (zb HB)) : w.heap.size ≤ gb170)); have GE170 := Aside0.mk ((by rw [hg]; exact (below_size (zb HB)) : w.heap.size ≤ gb170)); replace HB := Aside0.mk (below_step (zb HB) hb); have NB169_170 := Aside0.mk ((by rw [hg]; exact Nat.ne_of_lt (blk_lt (g := gb169) (o := .cells #[.slice A0_0 l0_0.length c0_0, .int .i64 a0_1] 25 (0, 0)) (zk BK169)) : gb169 ≠ gb170)); have NB170_169 := Aside0.mk ((by rw [hg]; exact Nat.ne_of_gt (blk_lt (g := gb169) (o := .cells #[.slice A0_0 l0_0.length c0_0, .int .i64 a0_1] 25 (0, 0)) (zk BK169)) : gb170 ≠ gb169)); replace BK169 := Aside0.mk (blk_below (g := gb169) (o := .cells #[.slice A0_0 l0_0.length c0_0, .int .i64 a0_1] 25 (0, 0)) (zk BK169) hb); clear hb hbox hg; have hnb5 := NB169_170.out; have hnc5 := NB170_169.out; have hcz6_0 : w4.cell? ⟨gb169, 0, none⟩ = some (.slice A0_0 l0_0.length c0_0) := (blk_cell BK169.out 0).trans rfl; have hcz6_1 : w4.cell? ⟨gb169, 1, none⟩ = some (.int .i64 a0_1) := (blk_cell BK169.out 1).trans rfl; have hfz6_0 := blk_frozen BK169.out 0; have hfz6_1 := blk_frozen BK169.out 1) | ((with_reducible refine gq 69 rfl ?_); refine gl (some 5) Try.func69 #[.agg #[.slice A0_0 l0_0.length c0_0, .int .i64 a0_1]] ?_; (with_reducible refine (impl_Table_clone.calls _ _ l0_0 a0_1 t171 t174 _ ?side1 ?side2 A2.out).mono ?_); (case side1 => exact zc (Kd.C_below HR0_0.out HB.out)); (case side2 => exact HC0_0.out); rintro e w7 ⟨v172, rfl, ho0, hb⟩; refine ⟨_, rfl, ?_⟩; have HO173 := Aside0.mk (Kd.R_lower ho0 (below_size (zb HB))); replace BK169 := Aside0.mk (blk_below (g := gb169) (o := .cells #[.slice A0_0 l0_0.length c0_0, .int .i64 a0_1] 25 (0, 0)) (zk BK169) hb); replace BK170 := Aside0.mk (blk_below (g := gb170) (o := .cells #[.slice none 0 0, .int .i64 0] 25 (0, 0)) (zk BK170) hb); replace HB := Aside0.mk (below_step (zb HB) hb); (try clear hb); (try clear ho0)) | ((with_reducible refine gd 3 rfl ?_); refine bx (N := 3) (cs := #[.slice none 0 0, .int .i64 0]) (t := 25) ?_; intro gb175 hg w8 hbox hb; replace HO173 := Aside0.mk (Kd.R_below (zr HO173) hb); have BK175 := Aside0.mk (hbox); have GW175 := Aside0.mk ((by rw [hg]; exact (below_size (zb HB)) : w.heap.size ≤ gb175)); have GE175 := Aside0.mk ((by rw [hg]; exact (below_size (zb HB)) : w.heap.size ≤ gb175)); replace HB := Aside0.mk (below_step (zb HB) hb); have NB169_175 := Aside0.mk ((by rw [hg]; exact Nat.ne_of_lt (blk_lt (g := gb169) (o := .cells #[.slice A0_0 l0_0.length c0_0, .int .i64 a0_1] 25 (0, 0)) (zk BK169)) : gb169 ≠ gb175)); have NB175_169 := Aside0.mk ((by rw [hg]; exact Nat.ne_of_gt (blk_lt (g := gb169) (o := .cells #[.slice A0_0 l0_0.length c0_0, .int .i64 a0_1] 25 (0, 0)) (zk BK169)) : gb175 ≠ gb169)); replace BK169 := Aside0.mk (blk_below (g := gb169) (o := .cells #[.slice A0_0 l0_0.length c0_0, .int .i64 a0_1] 25 (0, 0)) (zk BK169) hb); have NB170_175 := Aside0.mk ((by rw [hg]; exact Nat.ne_of_lt (blk_lt (g := gb170) (o := .cells #[.slice none 0 0, .int .i64 0] 25 (0, 0)) (zk BK170)) : gb170 ≠ gb175)); have NB175_170 := Aside0.mk ((by rw [hg]; exact Nat.ne_of_gt (blk_lt (g := gb170) (o := .cells #[.slice none 0 0, .int .i64 0] 25 (0, 0)) (zk BK170)) : gb175 ≠ gb170)); replace BK170 := Aside0.mk (blk_below (g := gb170) (o := .cells #[.slice none 0 0, .int .i64 0] 25 (0, 0)) (zk BK170) hb); clear hb hbox hg; obtain ⟨Ao9, co9, eo9⟩ := Kd.R_slice HO173.out; subst eo9; have hnb10 := NB175_169.out; have hnc10 := NB169_175.out; have hnb11 := NB175_170.out; have hnc11 := NB170_175.out; have hcz12_0 : w8.cell? ⟨gb175, 0, none⟩ = some (.slice none 0 0) := (blk_cell BK175.out 0).trans rfl; have hcz12_1 : w8.cell? ⟨gb175, 1, none⟩ = some (.int .i64 0) := (blk_cell BK175.out 1).trans rfl; have hfz12_0 := blk_frozen BK175.out 0; have hfz12_1 := blk_frozen BK175.out 1))
 go_loopg [] k (fun kq w' => ∃ (x176000_1 : List (S36)) (u176000 : Value), Aside0 (impl_Table_fit.l0 kq x176000_1 t174 = some (r1, r2)) ∧ Aside0 (kq ≤ k) ∧ Aside0 (Kd.R k36 36 w' w.heap.size (fun _ => True) u176000 x176000_1) ∧ Aside0 (w'.heap[gb169]? = some (.cells #[(.slice A0_0 l0_0.length c0_0), .int .i64 a0_1] 25 (0, 0))) ∧ Aside0 (w'.heap[gb170]? = some (.cells #[(.slice none 0 0), .int .i64 0] 25 (0, 0))) ∧ Aside0 (w'.heap[gb175]? = some (.cells #[u176000, .int .i64 t174] 25 (0, 0))) ∧ Aside0 (Below w.heap.size w w'))
 case atStart => exact ⟨(t171), (.slice Ao9 t171.length co9), H', ⟨Nat.le_refl _⟩, ⟨by (with_reducible repeat (first | apply Kd.R_alloc | apply Kd.R_drewN | apply Kd.R_drew)); exact Kd.R_mono (Kd.R_far (p := ⟨gb175, 1, none⟩) (Kd.R_far (p := ⟨gb175, 0, none⟩) (Kd.R_types HO173.out BK175.out (by decide)) (fun _ hk => hk.2) (.slice Ao9 t171.length co9)) (fun _ hk => hk.2) (.int .i64 t174)) (fun _ hk => trivial)⟩, ⟨by (with_reducible repeat (first | refine blk_drewN ?_ _ | refine blk_drew ?_ | refine blk_alloc ?_ _)); refine blk_far ?_ NB169_175.out _; (with_reducible repeat (first | refine blk_drewN ?_ _ | refine blk_drew ?_ | refine blk_alloc ?_ _)); refine blk_far ?_ NB169_175.out _; exact zk BK169⟩, ⟨by (with_reducible repeat (first | refine blk_drewN ?_ _ | refine blk_drew ?_ | refine blk_alloc ?_ _)); refine blk_far ?_ NB170_175.out _; (with_reducible repeat (first | refine blk_drewN ?_ _ | refine blk_drew ?_ | refine blk_alloc ?_ _)); refine blk_far ?_ NB170_175.out _; exact zk BK170⟩, ⟨by (with_reducible repeat (first | refine blk_drewN ?_ _ | refine blk_drew ?_ | refine blk_alloc ?_ _)); refine blk_put (cs := #[.slice Ao9 t171.length co9, .int .i64 0]) ?_ 1 _ rfl; (with_reducible repeat (first | refine blk_drewN ?_ _ | refine blk_drew ?_ | refine blk_alloc ?_ _)); refine blk_put (cs := #[.slice none 0 0, .int .i64 0]) ?_ 0 _ rfl; exact zk BK175⟩, ⟨zb HB⟩⟩
 case round =>
  clear H'
  try clear c1
  try clear p2
  try clear c4
  try clear c5
  try clear c6
  try clear c10
  try clear c11
  try clear hcz12_0
  try clear hcz12_1
  try clear hcz6_0
  try clear hcz6_1
  try clear hfz12_0
  try clear hfz12_1
  try clear hfz6_0
  try clear hfz6_1
  obtain ⟨x176000_1, u176000, HA, HK1, HO_176000, BK169, BK170, BK175, HB⟩ := hrel
  cases gk with
  | zero => exact absurd HA.out (by simp [impl_Table_fit.l0])
  | succ k1 =>
   have H := HA.out
   clear HA
   simp only [impl_Table_fit.l0] at H
   replace H := Option.bind_eq_some_iff.mp H
   obtain ⟨t176, A130, H⟩ := H
   replace H : (if t176 > t174 then (if 0 ≤ (wrap64 ((x176000_1.length : Int) - 1)) then (if (wrap64 ((x176000_1.length : Int) - 1)) ≤ (x176000_1.length : Int) then (impl_Table_fit.l0 k1 (x176000_1.take ((wrap64 ((x176000_1.length : Int) - 1)) : Int).toNat) t174) else (none)) else (none)) else ((impl_Table_clone.f x176000_1 t174).bind fun bt180 => (some (bt180.1, bt180.2)))) = some (r1, r2) := H
   have A13 := Aside0.mk A130
   clear A130
   by_cases c14 : t176 > t174
   ·rw [if_pos c14] at H
    have c14b0 : decide (t174 < t176) = true := decide_eq_true c14
    clear c14
    obtain ⟨ji15, hji15⟩ : ∃ j_ : Int, (wrap64 ((x176000_1.length : Int) - 1)) = j_ := ⟨_, rfl⟩
    replace H : (if 0 ≤ (ji15) then (if (ji15) ≤ (x176000_1.length : Int) then (impl_Table_fit.l0 k1 (x176000_1.take ((ji15) : Int).toNat) t174) else (none)) else (none)) = some (r1, r2) := by first | (rw [hji15] at H; exact H) | (simp only [hji15] at H ⊢; exact H)
    (try rw [hji15] at A13)
    have hji15w : (IntKind.i64.wrap ((x176000_1.length : Int) - 1)) = ji15 := (i64_w _).trans hji15
    by_cases c16 : 0 ≤ (ji15)
    ·rw [if_pos c16] at H
     have c16b0 := eq_true c16
     have c16b1 : decide (0 ≤ (ji15)) = true := decide_eq_true c16
     clear c16
     by_cases c17 : (ji15) ≤ (x176000_1.length : Int)
     ·rw [if_pos c17] at H
      have c17b0 := eq_true c17
      have c17b1 : decide ((ji15) ≤ (x176000_1.length : Int)) = true := decide_eq_true c17
      clear c17
      obtain ⟨y177, hy177⟩ : ∃ y_ : List (S36), y_ = (x176000_1.take ((ji15) : Int).toNat) := ⟨_, rfl⟩
      replace H : (impl_Table_fit.l0 k1 y177 t174) = some (r1, r2) := by first | (rw [hy177]; with_reducible exact H) | (have H2_ := (Option.bind_some _ _).symm.trans H; rw [hy177]; with_reducible exact H2_) | (have H2_ := (Option.bind_some _ _).symm.trans H; with_reducible exact H2_) | with_reducible exact H | (rw [hy177]; exact H) | exact H
      have Ny177 := Aside0.mk hy177
      clear hy177
      have H' := Aside0.mk H
      clear H
      try go_wp2
      replace HO_176000 := Aside0.mk (Kd.R_drew HO_176000.out)
      replace BK169 := Aside0.mk (blk_drew BK169.out)
      replace BK170 := Aside0.mk (blk_drew BK170.out)
      replace BK175 := Aside0.mk (blk_drew BK175.out)
      replace HB := Aside0.mk (below_drew1 HB.out)
      obtain ⟨Ao19, co19, eo19⟩ := Kd.R_slice HO_176000.out
      (first | subst eo19 | (injection eo19 with f1_ f2_ f3_; have f4_ := f1_.symm; have f5_ := f3_.symm; clear f1_ f2_ f3_; subst f4_; subst f5_))
      refine start_ (n := 5) (S := fun w' => w'.cell? ⟨gb175, 0, none⟩ = some (.slice Ao19 x176000_1.length co19) ∧ w'.cell? ⟨gb175, 1, none⟩ = some (.int .i64 t174)) (ds := []) #[false, false, false, false, false] (by kernel_rfl) rfl rfl ⟨(blk_cell BK175.out 0).trans rfl, (blk_cell BK175.out 1).trans rfl⟩ (fun hHeld => ?_)
      generalize wr.drew = w18 at HO_176000 BK169 BK170 BK175 HB hHeld ⊢
      refine pu 2 (some 8) (bm 5 4) rfl rfl ?_
      refine tk2 0 (some 6) (bm 5 5) rfl rfl hHeld ?_
      refine tk2 3 (some 9) (bm 5 13) rfl rfl hHeld ?_
      refine one_ (i := 1) (N := some 7) (bm 5 15) rfl rfl (by kernel_rfl) (by decide) (fun K hK => ?_)
      refine gs Try.func56 #[.agg #[.slice Ao19 x176000_1.length co19, .int .i64 t174]] ?_
      with_reducible refine (impl_Table_size.calls k1 _ _ x176000_1 t174 t176 _ ?side1 ?side2 A13.out).mono ?_
      (case side1 => exact zc (Kd.R_reads' HO_176000.out).2.2)
      (case side2 => exact (Kd.R_reads' HO_176000.out).2.1)
      rintro e w20 ⟨rfl, hb⟩
      refine ⟨_, rfl, ?_⟩
      replace HO_176000 := Aside0.mk (Kd.R_below (zr HO_176000) hb)
      replace BK169 := Aside0.mk (blk_below (g := gb169) (o := .cells #[.slice A0_0 l0_0.length c0_0, .int .i64 a0_1] 25 (0, 0)) (zk BK169) hb)
      replace BK170 := Aside0.mk (blk_below (g := gb170) (o := .cells #[.slice none 0 0, .int .i64 0] 25 (0, 0)) (zk BK170) hb)
      replace BK175 := Aside0.mk (blk_below (g := gb175) (o := .cells #[.slice Ao19 x176000_1.length co19, .int .i64 t174] 25 (0, 0)) (zk BK175) hb)
      replace HB := Aside0.mk (below_step (zb HB) hb)
      (try clear hb)
      refine hK.out _ _ ⟨(blk_cell BK175.out 0).trans rfl, (blk_cell BK175.out 1).trans rfl⟩ (fun hHeld => ?_)
      clear hK K
      refine nm ?_
      refine pu 4 (some 10) (bm 5 31) rfl rfl ?_
      refine done_ (by kernel_rfl) ?_
      have hnb21 := NB175_169.out
      have hnc21 := NB169_175.out
      have hnb22 := NB175_170.out
      have hnc22 := NB170_175.out
      have hcz23_0 : w20.cell? ⟨gb175, 0, none⟩ = some (.slice Ao19 x176000_1.length co19) := (blk_cell BK175.out 0).trans rfl
      have hcz23_1 : w20.cell? ⟨gb175, 1, none⟩ = some (.int .i64 t174) := (blk_cell BK175.out 1).trans rfl
      have hfz23_0 := blk_frozen BK175.out 0
      have hfz23_1 := blk_frozen BK175.out 1
      have q24 : ((ji15) : Int) ≤ ((x176000_1.length : Int) : Int) := of_decide_eq_true za
      obtain ⟨i024, hi024, _, hsz24, _⟩ := info_parts info36
      have hcut24 := cut_to (P := Try.prog) 23 36 .i64 Try.underlying23 hi024 Ao19 x176000_1.length co19 (ji15) (of_decide_eq_true za) q24 (Kd.R_reads' HO_176000.out).2.1
      have hr24 := Kd.R_take (m := ((ji15) : Int).toNat) HO_176000.out (by omega)
      have hy24 : y177.length = ((ji15) : Int).toNat := (by rw [Ny177.out, List.length_take]; omega)
      rw [← Ny177.out] at hr24
      rw [← hy24] at hr24 hcut24
      clear hy24 hi024 hsz24 HO_176000
      have HO179 := Aside0.mk hr24
      clear hr24
      replace q24 := eq_true q24
      try go_wp2
      go_roundg k1
      case measure => have := HK1.out; omega
      case rel => exact ⟨(y177), (.slice Ao19 y177.length co19), H', ⟨by have := HK1.out; omega⟩, ⟨by (with_reducible repeat (first | apply Kd.R_alloc | apply Kd.R_drewN | apply Kd.R_drew)); exact Kd.R_mono (Kd.R_far (p := ⟨gb175, 0, none⟩) (Kd.R_types HO179.out BK175.out (by decide)) (fun _ hk => hk.2) (.slice Ao19 y177.length co19)) (fun _ hk => trivial)⟩, ⟨by (with_reducible repeat (first | refine blk_drewN ?_ _ | refine blk_drew ?_ | refine blk_alloc ?_ _)); refine blk_far ?_ NB169_175.out _; exact zk BK169⟩, ⟨by (with_reducible repeat (first | refine blk_drewN ?_ _ | refine blk_drew ?_ | refine blk_alloc ?_ _)); refine blk_far ?_ NB170_175.out _; exact zk BK170⟩, ⟨by (with_reducible repeat (first | refine blk_drewN ?_ _ | refine blk_drew ?_ | refine blk_alloc ?_ _)); refine blk_put (cs := #[.slice Ao19 x176000_1.length co19, .int .i64 t174]) ?_ 0 _ rfl; exact zk BK175⟩, ⟨zb HB⟩⟩
     ·rw [if_neg c17] at H
      exact absurd H (by simp)
    ·rw [if_neg c16] at H
     exact absurd H (by simp)
   ·rw [if_neg c14] at H
    have c14b0 : decide (t174 < t176) = false := decide_eq_false c14
    clear c14
    replace H := Option.bind_eq_some_iff.mp H
    obtain ⟨⟨t180, t183⟩, A250, H⟩ := H
    replace H : (some (t180, t183)) = some (r1, r2) := H
    have A25 := Aside0.mk A250
    clear A250
    simp only [Option.some.injEq, Prod.mk.injEq] at H
    obtain ⟨rfl, rfl⟩ := H
    try go_wp2
    replace HO_176000 := Aside0.mk (Kd.R_drew HO_176000.out)
    replace BK169 := Aside0.mk (blk_drew BK169.out)
    replace BK170 := Aside0.mk (blk_drew BK170.out)
    replace BK175 := Aside0.mk (blk_drew BK175.out)
    replace HB := Aside0.mk (below_drew1 HB.out)
    obtain ⟨Ao27, co27, eo27⟩ := Kd.R_slice HO_176000.out
    (first | subst eo27 | (injection eo27 with f1_ f2_ f3_; have f4_ := f1_.symm; have f5_ := f3_.symm; clear f1_ f2_ f3_; subst f4_; subst f5_))
    refine start_ (n := 5) (S := fun w' => w'.cell? ⟨gb175, 0, none⟩ = some (.slice Ao27 x176000_1.length co27) ∧ w'.cell? ⟨gb175, 1, none⟩ = some (.int .i64 t174)) (ds := []) #[false, false, false, false, false] (by kernel_rfl) rfl rfl ⟨(blk_cell BK175.out 0).trans rfl, (blk_cell BK175.out 1).trans rfl⟩ (fun hHeld => ?_)
    generalize wr.drew = w26 at HO_176000 BK169 BK170 BK175 HB hHeld ⊢
    refine pu 2 (some 8) (bm 5 4) rfl rfl ?_
    refine tk2 0 (some 6) (bm 5 5) rfl rfl hHeld ?_
    refine tk2 3 (some 9) (bm 5 13) rfl rfl hHeld ?_
    refine one_ (i := 1) (N := some 7) (bm 5 15) rfl rfl (by kernel_rfl) (by decide) (fun K hK => ?_)
    refine gs Try.func56 #[.agg #[.slice Ao27 x176000_1.length co27, .int .i64 t174]] ?_
    with_reducible refine (impl_Table_size.calls k1 _ _ x176000_1 t174 t176 _ ?side1 ?side2 A13.out).mono ?_
    (case side1 => exact zc (Kd.R_reads' HO_176000.out).2.2)
    (case side2 => exact (Kd.R_reads' HO_176000.out).2.1)
    rintro e w28 ⟨rfl, hb⟩
    refine ⟨_, rfl, ?_⟩
    replace HO_176000 := Aside0.mk (Kd.R_below (zr HO_176000) hb)
    replace BK169 := Aside0.mk (blk_below (g := gb169) (o := .cells #[.slice A0_0 l0_0.length c0_0, .int .i64 a0_1] 25 (0, 0)) (zk BK169) hb)
    replace BK170 := Aside0.mk (blk_below (g := gb170) (o := .cells #[.slice none 0 0, .int .i64 0] 25 (0, 0)) (zk BK170) hb)
    replace BK175 := Aside0.mk (blk_below (g := gb175) (o := .cells #[.slice Ao27 x176000_1.length co27, .int .i64 t174] 25 (0, 0)) (zk BK175) hb)
    replace HB := Aside0.mk (below_step (zb HB) hb)
    (try clear hb)
    refine hK.out _ _ ⟨(blk_cell BK175.out 0).trans rfl, (blk_cell BK175.out 1).trans rfl⟩ (fun hHeld => ?_)
    clear hK K
    refine nm ?_
    refine pu 4 (some 10) (bm 5 31) rfl rfl ?_
    refine done_ (by kernel_rfl) ?_
    have hnb29 := NB175_169.out
    have hnc29 := NB169_175.out
    have hnb30 := NB175_170.out
    have hnc30 := NB170_175.out
    have hcz31_0 : w28.cell? ⟨gb175, 0, none⟩ = some (.slice Ao27 x176000_1.length co27) := (blk_cell BK175.out 0).trans rfl
    have hcz31_1 : w28.cell? ⟨gb175, 1, none⟩ = some (.int .i64 t174) := (blk_cell BK175.out 1).trans rfl
    have hfz31_0 := blk_frozen BK175.out 0
    have hfz31_1 := blk_frozen BK175.out 1
    try go_wp2_with (first | ((with_reducible refine gq 69 rfl ?_); refine gl (some 20) Try.func69 #[.agg #[.slice Ao27 x176000_1.length co27, .int .i64 t174]] ?_; (with_reducible refine (impl_Table_clone.calls _ _ x176000_1 t174 t180 t183 _ ?side1 ?side2 A25.out).mono ?_); (case side1 => exact zc (Kd.R_reads' HO_176000.out).2.2); (case side2 => exact (Kd.R_reads' HO_176000.out).2.1); rintro e w32 ⟨v181, rfl, ho0, hb⟩; refine ⟨_, rfl, ?_⟩; have HO182 := Aside0.mk (Kd.R_lower (Kd.R_new' ho0 (Kd.R_lt (zr HO_176000))) (below_size (zb HB))); replace HO_176000 := Aside0.mk (Kd.R_elder' (zr HO_176000) (Kd.R_base ho0) hb); replace BK169 := Aside0.mk (blk_below (g := gb169) (o := .cells #[.slice A0_0 l0_0.length c0_0, .int .i64 a0_1] 25 (0, 0)) (zk BK169) hb); replace BK170 := Aside0.mk (blk_below (g := gb170) (o := .cells #[.slice none 0 0, .int .i64 0] 25 (0, 0)) (zk BK170) hb); replace BK175 := Aside0.mk (blk_below (g := gb175) (o := .cells #[.slice Ao27 x176000_1.length co27, .int .i64 t174] 25 (0, 0)) (zk BK175) hb); replace HB := Aside0.mk (below_step (zb HB) hb); (try clear hb); (try clear ho0); obtain ⟨Ao33, co33, eo33⟩ := Kd.R_slice HO182.out; subst eo33; have hnb34 := NB170_169.out; have hnc34 := NB169_170.out; have hcz35_0 : w32.cell? ⟨gb170, 0, none⟩ = some (.slice none 0 0) := (blk_cell BK170.out 0).trans rfl; have hcz35_1 : w32.cell? ⟨gb170, 1, none⟩ = some (.int .i64 0) := (blk_cell BK170.out 1).trans rfl; have hfz35_0 := blk_frozen BK170.out 0; have hfz35_1 := blk_frozen BK170.out 1))
    refine bodyPost_ret (results_cell_row rfl _ _ gb170 25 #[.slice Ao33 t180.length co33, .int .i64 t183] (0, 0) _ rfl (by (with_reducible repeat (first | refine blk_drewN ?_ _ | refine blk_drew ?_ | refine blk_alloc ?_ _)); refine blk_put (cs := #[.slice Ao33 t180.length co33, .int .i64 0]) ?_ 1 _ rfl; (with_reducible repeat (first | refine blk_drewN ?_ _ | refine blk_drew ?_ | refine blk_alloc ?_ _)); refine blk_put (cs := #[.slice none 0 0, .int .i64 0]) ?_ 0 _ rfl; exact zk BK170) Try.underlying25 rfl (by kernel_rfl)) rfl ?_
    exact ⟨_, ze, by (with_reducible repeat (first | apply Kd.R_alloc | apply Kd.R_drewN | apply Kd.R_drew)); exact Kd.R_mono (Kd.R_far (p := ⟨gb170, 1, none⟩) (Kd.R_far (p := ⟨gb170, 0, none⟩) (Kd.R_types HO182.out BK170.out (by decide)) (fun _ hk => hk.2) (.slice Ao33 t180.length co33)) (fun _ hk => hk.2) (.int .i64 t183)) (fun _ hk => trivial), zb HB⟩

-- NOT PRINTED: function 88 (Grow_Field)

end Go.Proofs.Ytdhahifdcoinhaa.PFnExactTableAdd
