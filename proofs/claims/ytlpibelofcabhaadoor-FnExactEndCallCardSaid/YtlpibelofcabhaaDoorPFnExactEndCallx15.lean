-- WRITTEN BY wip/call/gencall.py (the prover's own program)
import Derived.Test.YtlpibelofcabhaaDoorPFnExactEndCallx0
import Derived.Test.YtlpibelofcabhaaDoorPFnExactEndCallx1
import Derived.Test.YtlpibelofcabhaaDoorPFnExactEndCallx2
import Derived.Test.YtlpibelofcabhaaDoorPFnExactEndCallx3
import Derived.Test.YtlpibelofcabhaaDoorPFnExactEndCallx4
import Derived.Test.YtlpibelofcabhaaDoorPFnExactEndCallx5
import Derived.Test.YtlpibelofcabhaaDoorPFnExactEndCallx6
import Derived.Test.YtlpibelofcabhaaDoorPFnExactEndCallx7
import Derived.Test.YtlpibelofcabhaaDoorPFnExactEndCallx8
import Derived.Test.YtlpibelofcabhaaDoorPFnExactEndCallx9
import Derived.Test.YtlpibelofcabhaaDoorPFnExactEndCallx10
import Derived.Test.YtlpibelofcabhaaDoorPFnExactEndCallx11
import Derived.Test.YtlpibelofcabhaaDoorPFnExactEndCallx12
import Derived.Test.YtlpibelofcabhaaDoorPFnExactEndCallx13
import Derived.Test.YtlpibelofcabhaaDoorPFnExactEndCallx14
namespace Go.Proofs.YtlpibelofcabhaaDoor.PFnExactEndCall
open Go.RowKit Go.Proofs.YtlpibelofcabhaaDoorW.PrintWords Go.Proofs.YtlpibelofcabhaaDoorW.PrintLast Go.Proofs.YtlpibelofcabhaaDoorW.PrintMore Go.Proofs.YtlpibelofcabhaaDoor.Lm
attribute [local go_sem] max2_int min2_int max_two min_two max_three min_three max_four min_four   -- for this text's walks alone
set_option linter.unusedVariables false
set_option linter.unusedSimpArgs false
section
variable {w w' : World} {b b' g n cap : Nat} {v1 v3 v6 v9 u9 : Value} {l1 l3 : List S61} {l6 r6 : List S58} {l9 r9 : List S79} {o1 o3 o6 o9 B B' S : Nat → Prop}
theorem EB.one {P6 : Nat → Prop} (E : EB w b P6 v1 v3 v6 v9 l1 l3 l6 l9) : v1.oneCell' = true ∧ v3.oneCell' = true ∧ v6.oneCell' = true ∧ v9.oneCell' = true :=
  ⟨by obtain ⟨A, c, rfl⟩ := Kd.R_slice E.r1; rfl, by obtain ⟨A, c, rfl⟩ := Kd.R_slice E.r3; rfl, by obtain ⟨A, c, rfl⟩ := Kd.S_slice E.s6; rfl, by obtain ⟨A, c, rfl⟩ := Kd.R_slice E.r9; rfl⟩
/-- The rows of an end, each its own; all their blocks are such. -/
structure EX (w : World) (b : Nat) (B : Nat → Prop) (v1 v3 v6 v9 : Value) (l1 l3 : List S61) (l6 : List S58) (l9 : List S79) : Prop where
  ex : ∃ P : Nat → Prop, EB w b P v1 v3 v6 v9 l1 l3 l6 l9 ∧ ∀ k, EP P v1 v3 v9 k → B k
theorem ty_ne {k s t : Nat} (h1 : ∃ c, w.heap[k]? = some (.cells c s (0, 0))) (h2 : ∃ c, w.heap[k]? = some (.cells c t (0, 0))) (h : s ≠ t) : False := by
  obtain ⟨c, h1⟩ := h1
  obtain ⟨d, h2⟩ := h2
  rw [h1] at h2
  injection h2 with h2
  injection h2 with _ h2
  exact h h2
theorem EB.of (h1 : Kd.R k61 61 w b o1 v1 l1) (a : ∀ k, o1 k → some k ≠ v3.ownBlock) (h3 : Kd.R k61 61 w b o3 v3 l3) (h6 : Kd.S k58 58 w b o6 v6 l6) (c : ∀ k, o6 k → some k ≠ v1.ownBlock ∧ some k ≠ v3.ownBlock) (h9 : Kd.R k79 79 w b o9 v9 l9) :
    EB w b (fun k => o6 k ∧ some k ≠ v9.ownBlock) v1 v3 v6 v9 l1 l3 l6 l9 :=
  ⟨Kd.R_tight rfl h1, Kd.R_tight rfl h3, Kd.S_apart' h6 (Kd.R_typed h9) (by decide), Kd.R_tight rfl h9, fun k h => a k (h1.1 k h.symm), fun k h => (c k h.1).1, fun k h => (c k h.1).2, fun k h e => ty_ne (Kd.R_typed h1 k h.symm) (Kd.R_typed h9 k e.symm) (by decide), fun k h e => ty_ne (Kd.R_typed h3 k h.symm) (Kd.R_typed h9 k e.symm) (by decide), fun k h => h.2⟩
/-- Its blocks lie between base and end of the heap. -/
theorem EX.lt (X : EX w b B v1 v3 v6 v9 l1 l3 l6 l9) : ∃ P : Nat → Prop, EB w b P v1 v3 v6 v9 l1 l3 l6 l9 ∧ ∀ k, EP P v1 v3 v9 k → B k ∧ b ≤ k ∧ k < w.heap.size := by
  obtain ⟨P, E, p⟩ := X.ex
  refine ⟨fun k => P k ∧ b ≤ k ∧ k < w.heap.size, ⟨E.r1, E.r3, Kd.S_mono (Kd.S_bound E.s6) (fun k h => ⟨h.1, h.2.1, h.2.2.1⟩), E.r9, E.a13, fun k h => E.a16 k h.1, fun k h => E.a36 k h.1, E.a19, E.a39, fun k h => E.a69 k h.1⟩, ?_⟩
  rintro k (h | h | h | h)
  · exact ⟨p k (.inl h), Kd.R_base E.r1 k h.symm, Kd.R_lt E.r1 k h.symm⟩
  · exact ⟨p k (.inr (.inl h)), Kd.R_base E.r3 k h.symm, Kd.R_lt E.r3 k h.symm⟩
  · exact ⟨p k (.inr (.inr (.inl h.1))), h.2⟩
  · exact ⟨p k (.inr (.inr (.inr h))), Kd.R_base E.r9 k h.symm, Kd.R_lt E.r9 k h.symm⟩
theorem EX.mono (X : EX w b B v1 v3 v6 v9 l1 l3 l6 l9) (h : ∀ k, B k → b ≤ k → k < w.heap.size → B' k) : EX w b B' v1 v3 v6 v9 l1 l3 l6 l9 := by
  obtain ⟨P, E, p⟩ := X.lt
  exact ⟨P, E, fun k q => h k (p k q).1 (p k q).2.1 (p k q).2.2⟩
theorem EX.of (h1 : Kd.R k61 61 w b o1 v1 l1) (a : ∀ k, o1 k → some k ≠ v3.ownBlock) (h3 : Kd.R k61 61 w b o3 v3 l3) (h6 : Kd.S k58 58 w b o6 v6 l6) (c : ∀ k, o6 k → some k ≠ v1.ownBlock ∧ some k ≠ v3.ownBlock) (h9 : Kd.R k79 79 w b o9 v9 l9) : EX w b (fun k => b ≤ k ∧ k < w.heap.size) v1 v3 v6 v9 l1 l3 l6 l9 :=
  EX.mono (B := fun _ => True) ⟨_, EB.of h1 a h3 h6 c h9, fun _ _ => trivial⟩ (fun k _ h h2 => ⟨h, h2⟩)
theorem EX.below (X : EX w b B v1 v3 v6 v9 l1 l3 l6 l9) (hb : Below w.heap.size w w') : EX w' b B v1 v3 v6 v9 l1 l3 l6 l9 := by
  obtain ⟨P, E, p⟩ := X.ex
  exact ⟨P, E.below hb, p⟩
theorem EX.far (X : EX w b B v1 v3 v6 v9 l1 l3 l6 l9) (hk : Kept w w' S) (hS : ∀ k, S k → ¬ B k) : EX w' b B v1 v3 v6 v9 l1 l3 l6 l9 := by
  obtain ⟨P, E, p⟩ := X.ex
  exact ⟨P, E.kept hk (fun k h h2 => hS k h (p k h2)), p⟩
theorem EX.keep (X : EX w b B v1 v3 v6 v9 l1 l3 l6 l9) (hk : KeepBut w w' g none) (hg : ¬ B g) : EX w' b B v1 v3 v6 v9 l1 l3 l6 l9 :=
  X.far (S := fun k => k = g) ⟨hk.1, fun i hi hn => hk.2 i hi hn (by simp)⟩ (fun k h => by rw [h]; exact hg)
theorem EX.setb (X : EX w b B v1 v3 v6 v9 l1 l3 l6 l9) (hg : ¬ B g) (j : Nat) (u : Value) : EX (w.setCell ⟨g, j, none⟩ u) b B v1 v3 v6 v9 l1 l3 l6 l9 := X.keep ((KeepBut.refl w g none).set_ j u) hg
theorem EB.low {P : Nat → Prop} (E : EB w b P v1 v3 v6 v9 l1 l3 l6 l9) (h : b' ≤ b) : EB w b' P v1 v3 v6 v9 l1 l3 l6 l9 := ⟨Kd.R_lower E.r1 h, Kd.R_lower E.r3 h, Kd.S_lower E.s6 h, Kd.R_lower E.r9 h, E.a13, E.a16, E.a36, E.a19, E.a39, E.a69⟩
theorem EX.low (X : EX w b B v1 v3 v6 v9 l1 l3 l6 l9) (h : b' ≤ b) : EX w b' B v1 v3 v6 v9 l1 l3 l6 l9 := by
  obtain ⟨P, E, p⟩ := X.ex
  exact ⟨P, E.low h, p⟩
theorem zx (h0 : Aside0 (EX w b B v1 v3 v6 v9 l1 l3 l6 l9)) (m : Mov w w' := by (with_reducible repeat (first | exact Mov.refl _ | apply Mov.alloc | apply Mov.drewN | apply Mov.drew))) : EX w' b B v1 v3 v6 v9 l1 l3 l6 l9 := by
  induction m with
  | refl => exact h0.out
  | alloc _ o ih => exact ih.below (below_alloc (Below.refl _ _) o)
  | drew _ ih => exact ih.below (below_drew (Below.refl _ _))
  | drewN _ n ih => exact ih.below (pw_below_drewN (Below.refl _ _) n)
theorem ms (m : Mov w w' := by (with_reducible repeat (first | exact Mov.refl _ | apply Mov.alloc | apply Mov.drewN | apply Mov.drew))) : w.heap.size ≤ w'.heap.size := by
  induction m with
  | refl => exact Nat.le_refl _
  | alloc _ o ih => exact Nat.le_trans ih (below_alloc (Below.refl _ _) o).size
  | drew _ ih => exact ih
  | drewN _ n ih => exact ih
theorem EX.ones (X : EX w b B v1 v3 v6 v9 l1 l3 l6 l9) : v1.oneCell' = true ∧ v3.oneCell' = true ∧ v6.oneCell' = true ∧ v9.oneCell' = true := by
  obtain ⟨P, E, _⟩ := X.ex
  exact E.one
/-- What is read of a row: a slice, as long as it is. -/
theorem EX.reads (X : EX w b B v1 v3 v6 v9 l1 l3 l6 l9) : (∃ A c, v1 = .slice A l1.length c ∧ Kd.C k61 w A l1.length l1 ∧ l1.length ≤ c) ∧ (∃ A c, v3 = .slice A l3.length c ∧ Kd.C k61 w A l3.length l3 ∧ l3.length ≤ c) ∧ (∃ A c, v6 = .slice A l6.length c ∧ Kd.C k58 w A l6.length l6 ∧ l6.length ≤ c) ∧ (∃ A c, v9 = .slice A l9.length c ∧ Kd.C k79 w A l9.length l9 ∧ l9.length ≤ c) := by
  obtain ⟨P, E, _⟩ := X.ex
  obtain ⟨e1, e3, e6, e9⟩ := And.intro E.r1 (And.intro E.r3 (And.intro E.s6 E.r9))
  obtain ⟨A1, c1, rfl⟩ := Kd.R_slice e1
  obtain ⟨A3, c3, rfl⟩ := Kd.R_slice e3
  obtain ⟨A6, c6, rfl⟩ := Kd.S_slice e6
  obtain ⟨A9, c9, rfl⟩ := Kd.R_slice e9
  exact ⟨⟨_, _, rfl, (Kd.R_reads' e1).2.2, (Kd.R_reads' e1).2.1⟩, ⟨_, _, rfl, (Kd.R_reads' e3).2.2, (Kd.R_reads' e3).2.1⟩, ⟨_, _, rfl, (Kd.S_reads' e6).2.2, (Kd.S_reads' e6).2.1⟩, ⟨_, _, rfl, (Kd.R_reads' e9).2.2, (Kd.R_reads' e9).2.1⟩⟩
theorem EX.rw9 (X : EX w b B v1 v3 v6 v9 l1 l3 l6 l9) : Kd.R k79 79 w b (fun k => some k = v9.ownBlock) v9 l9 := by
  obtain ⟨P, E, p⟩ := X.ex
  exact E.r9
theorem EX.ne9 (X : EX w b B v1 v3 v6 v9 l1 l3 l6 l9) (h : ¬ B g) : some g ≠ v9.ownBlock := by
  obtain ⟨P, E, p⟩ := X.ex
  exact fun e => h (p g (.inr (.inr (.inr e))))
/-- A frame more that waits. -/
theorem EX.app9 (X : EX w b B v1 v3 v6 v9 l1 l3 l6 l9) (hr : Kd.R k79 79 w' b (fun k => some k = v9.ownBlock ∨ w.heap.size ≤ k) u9 r9) (hg : w.grownBy w' v9.ownBlock) : EX w' b (fun k => B k ∨ w.heap.size ≤ k) v1 v3 v6 u9 l1 l3 l6 r9 := by
  obtain ⟨P, E, p⟩ := X.lt
  have hu : ∀ k, some k = u9.ownBlock → some k = v9.ownBlock ∨ w.heap.size ≤ k := fun k h => hr.1 k h.symm
  refine ⟨P, ⟨?_, ?_, ?_, Kd.R_tight rfl hr, E.a13, E.a16, E.a36, ?_, ?_, ?_⟩, ?_⟩
  · exact Kd.R_step E.r1 (fun k h hl => hg.block k hl (fun e => E.a19 k h e))
  · exact Kd.R_step E.r3 (fun k h hl => hg.block k hl (fun e => E.a39 k h e))
  · exact S_step1 E.s6 (fun k h hl => hg.block k hl (fun e => E.a69 k h e))
  · intro k h h2
    rcases hu k h2 with h3 | h3
    · exact E.a19 k h h3
    · have := Kd.R_lt E.r1 k h.symm; omega
  · intro k h h2
    rcases hu k h2 with h3 | h3
    · exact E.a39 k h h3
    · have := Kd.R_lt E.r3 k h.symm; omega
  · intro k h h2
    rcases hu k h2 with h3 | h3
    · exact E.a69 k h h3
    · have := p k (.inr (.inr (.inl h))); omega
  · rintro k (h | h | h | h)
    · exact .inl (p k (.inl h)).1
    · exact .inl (p k (.inr (.inl h))).1
    · exact .inl (p k (.inr (.inr (.inl h)))).1
    · rcases hu k h with h3 | h3
      · exact .inl (p k (.inr (.inr (.inr h3)))).1
      · exact .inr h3
theorem EX.nil (w : World) (b : Nat) (B : Nat → Prop) : EX w b B (.slice none 0 0) (.slice none 0 0) (.slice none 0 0) (.slice none 0 0) [] [] [] [] := by
  refine ⟨fun _ => False, ⟨Kd.R_nil _ _ _ _ _, Kd.R_nil _ _ _ _ _, ⟨fun _ => 0, Kd.R_nil _ _ _ _ _⟩, Kd.R_nil _ _ _ _ _, ?_, ?_, ?_, ?_, ?_, ?_⟩, ?_⟩
  all_goals simp [EP, Value.ownBlock]
theorem blk_far1 {o : Obj} {g' j : Nat} (u : Value) (h : w.heap[g]? = some o) (hne : g ≠ g') : (w.setCell ⟨g', j, none⟩ u).heap[g]? = some o := (Below.heap_setCell w ⟨g', j, none⟩ u g hne).trans h
theorem blk_far2 {o : Obj} {g' j : Nat} {u : Value} (hw : w' = w.setCell ⟨g', j, none⟩ u) (h : w.heap[g]? = some o) (hne : g ≠ g') : w'.heap[g]? = some o := by
  subst hw
  exact blk_far1 u h hne
theorem blk_put2 {t i : Nat} {cs cs' : Array Value} {u : Value} (hw : w' = w.setCell ⟨g, i, none⟩ u) (h : w.heap[g]? = some (.cells cs t (0, 0))) (e : cs.setIfInBounds i u = cs') : w'.heap[g]? = some (.cells cs' t (0, 0)) := by
  subst hw
  exact blk_put h i u e
theorem EX.at_ {W : World} (X : EX W b B v1 v3 v6 v9 l1 l3 l6 l9) (hw : w' = W) : EX w' b B v1 v3 v6 v9 l1 l3 l6 l9 := hw ▸ X
end
section
variable {P : Program} {ops : Array Oper} {rest : List Oper} {o : Oper} {a : Act} {Q : Exit → Act → World → Prop} {W W0 : World} {g T : Nat} {c0 c1 : Array Value}
theorem chg_heap (h0 : Aside0 (W0.heap[g]? = some (.cells c0 T (0, 0)))) (m : Chg g W0 c0 W c1) : W.heap[g]? = some (.cells c1 T (0, 0)) := zp h0 m rfl
/-- A record out of a block, as one. -/
theorem ld {ty : TypeId} {x : Operand} {d : TypeDesc} (h0 : Aside0 (W0.heap[g]? = some (.cells c0 T (0, 0)))) (j : Nat) (cs : List Value) (hu : P.underlying ty = some d) (h : wpList P ops Q rest (a.put o.dst (.agg cs.toArray)) W)
    (m : Chg g W0 c0 W c1 := by repeat (first | (with_reducible first | exact Chg.refl | apply Chg.alloc | apply Chg.drewN | apply Chg.drew | apply Chg.put) | ((with_reducible apply Chg.far); (case hp => exact Aside0.out (by assumption)))))
    (he : (c1.extract j (j + cs.length)).toList = cs := by kernel_rfl) (hg : o.guard = none := by rfl) (ho : o.op = .load ty x := by rfl) (hx : a.eval x = .pointer (some ⟨g, j, none⟩) := by rfl) (hd : d.isRow = true := by rfl) (hi : (P.info? ty).map (·.size) = some cs.length := by kernel_rfl) : wpList P ops Q (o :: rest) a W :=
  wpList_load_mid hg ty x ho g j hx cs d (by have h1 := World.rangeAt_of_block (chg_heap h0 m) j cs.length; rwa [he] at h1) hu hd hi h
def putAll : Array Value → Nat → List Value → Array Value
  | c, _, [] => c
  | c, j, v :: r => putAll (c.setIfInBounds j v) (j + 1) r
theorem setCells_heap (vs : List Value) : ∀ (j : Nat) (W : World) (c : Array Value), W.heap[g]? = some (.cells c T (0, 0)) → (W.setCells g j vs).heap[g]? = some (.cells (putAll c j vs) T (0, 0)) := by
  induction vs with
  | nil => intro j W c h; exact h
  | cons v r ih => intro j W c h; exact ih (j + 1) _ _ (blk_put h j v rfl)
theorem setCells_keep (vs : List Value) : ∀ (j : Nat) (V W : World), KeepBut V W g none → KeepBut V (W.setCells g j vs) g none := by
  induction vs with
  | nil => intro j V W h; exact h
  | cons v r ih => intro j V W h; exact ih (j + 1) V _ (KeepBut.set_ h j v)
theorem setCells_low (vs : List Value) : ∀ (j n : Nat) (V W : World), Below n V W → n ≤ g → Below n V (W.setCells g j vs) := by
  induction vs with
  | nil => intro j n V W h _; exact h
  | cons v r ih => intro j n V W h hn; exact ih (j + 1) n V _ (Below.setCell h hn v) hn
/-- A record into a block, as one. -/
theorem sd {ty : TypeId} {x y : Operand} (h0 : Aside0 (W0.heap[g]? = some (.cells c0 T (0, 0)))) (j : Nat) (vs : List Value) (cs1 : Array Value)
    (h : ∀ w', Aside0 (w'.heap[g]? = some (.cells cs1 T (0, 0))) → KeepBut W w' g none → (∀ n V, Below n V W → n ≤ g → Below n V w') → wpList P ops Q rest a w') (h1 : ∀ v ∈ vs, v.oneCell' = true)
    (m : Chg g W0 c0 W c1 := by repeat (first | (with_reducible first | exact Chg.refl | apply Chg.alloc | apply Chg.drewN | apply Chg.drew | apply Chg.put) | ((with_reducible apply Chg.far); (case hp => exact Aside0.out (by assumption)))))
    (he : putAll c1 j vs = cs1 := by kernel_rfl) (hl : decide (j + vs.length ≤ c1.size) = true := by kernel_rfl) (hg : o.guard = none := by rfl) (hn : o.dst = none := by rfl) (ho : o.op = .store ty x y := by rfl) (hx : a.eval x = .pointer (some ⟨g, j, none⟩) := by rfl) (hy : a.eval y = .agg vs.toArray := by rfl) (hi : (P.info? ty).map (·.size) = some vs.toArray.size := by kernel_rfl) : wpList P ops Q (o :: rest) a W := by
  have hb := chg_heap h0 m
  have hl' := of_decide_eq_true hl
  refine wpList_store_mid hg ty x y ho g j vs.toArray hx hy (fun i hi => ?_) hi (all_oneCell_toArray h1) ?_
  · rw [List.size_toArray] at hi
    refine ⟨?_, blk_frozen hb _⟩
    rw [blk_cell hb, Array.getElem?_eq_getElem (by omega)]
    rfl
  · rw [hn]
    show wpList P ops Q rest a (W.setCells g j vs)
    exact h _ ⟨by rw [← he]; exact setCells_heap vs j W c1 hb⟩ (setCells_keep vs j W W (KeepBut.refl W g none)) (fun n V hV hn => setCells_low vs j n V W hV hn)
theorem cz {cs : Array Value} {v : Value} (h : Aside0 (W.heap[g]? = some (.cells cs T (0, 0)))) (j : Nat) (e : cs[j]? = some v) : W.cell? ⟨g, j, none⟩ = some v := (blk_cell h.out j).trans e
end
theorem spec_EndOk.callsX (k : Nat) {b : Nat} {B : Nat → Prop} {v1 v3 v6 v9 : Value} {x0 : Bool} {x1 : List S61} {x2 : Int} {x3 : List S61} {x4 : Int} {x5 : ByteArray} {x6 : List S58} {x7 : Int} {x8 : Int} {x9 : List S79} {x10 : Bool} (r : Bool) (w : World) (X : EX w b B v1 v3 v6 v9 x1 x3 x6 x9) (h : spec_EndOk.f k x0 x1 x2 x3 x4 x5 x6 x7 x8 x9 x10 = some r) : Calls Tryd.prog 14 #[.agg #[.bool x0, v1, .int .i64 x2, v3, .int .i64 x4, .string x5, v6, .int .i64 x7, .int .i64 x8, v9, .bool x10]] w fun e w' => e = .returned (.bool r) ∧ Below w.heap.size w w' := by
  obtain ⟨⟨A1, c1, rfl, r1, d1⟩, ⟨A3, c3, rfl, r3, d3⟩, ⟨A6, c6, rfl, r6, d6⟩, ⟨A9, c9, rfl, r9, d9⟩⟩ := X.reads
  exact spec_EndOk.calls k x0 _ _ x1 x2 _ _ x3 x4 x5 _ _ x6 x7 x8 _ _ x9 x10 r w r1 d1 r3 d3 r6 d6 r9 d9 h
theorem impl_EndOk.callsX (k : Nat) {b : Nat} {B : Nat → Prop} {v1 v3 v6 v9 : Value} {x0 : Bool} {x1 : List S61} {x2 : Int} {x3 : List S61} {x4 : Int} {x5 : ByteArray} {x6 : List S58} {x7 : Int} {x8 : Int} {x9 : List S79} {x10 : Bool} (r : Bool) (w : World) (X : EX w b B v1 v3 v6 v9 x1 x3 x6 x9) (h : impl_EndOk.f k x0 x1 x2 x3 x4 x5 x6 x7 x8 x9 x10 = some r) : Calls Tryd.prog 21 #[.agg #[.bool x0, v1, .int .i64 x2, v3, .int .i64 x4, .string x5, v6, .int .i64 x7, .int .i64 x8, v9, .bool x10]] w fun e w' => e = .returned (.bool r) ∧ Below w.heap.size w w' := by
  obtain ⟨⟨A1, c1, rfl, r1, d1⟩, ⟨A3, c3, rfl, r3, d3⟩, ⟨A6, c6, rfl, r6, d6⟩, ⟨A9, c9, rfl, r9, d9⟩⟩ := X.reads
  exact impl_EndOk.calls k x0 _ _ x1 x2 _ _ x3 x4 x5 _ _ x6 x7 x8 _ _ x9 x10 r w r1 d1 r3 d3 r6 d6 r9 d9 h
theorem laws_heldEnd.callsX (k : Nat) {b : Nat} {B : Nat → Prop} {v1 v3 v6 v9 : Value} {x0 : Bool} {x1 : List S61} {x2 : Int} {x3 : List S61} {x4 : Int} {x5 : ByteArray} {x6 : List S58} {x7 : Int} {x8 : Int} {x9 : List S79} {x10 : Bool} (a1 : Int) (r : Int) (w : World) (X : EX w b B v1 v3 v6 v9 x1 x3 x6 x9) (h : laws_heldEnd.f k x0 x1 x2 x3 x4 x5 x6 x7 x8 x9 x10 a1 = some r) : Calls Tryd.prog 10 #[.agg #[.bool x0, v1, .int .i64 x2, v3, .int .i64 x4, .string x5, v6, .int .i64 x7, .int .i64 x8, v9, .bool x10], .int .i64 a1] w fun e w' => e = .returned (.int .i64 r) ∧ Below w.heap.size w w' := by
  obtain ⟨⟨A1, c1, rfl, r1, d1⟩, ⟨A3, c3, rfl, r3, d3⟩, ⟨A6, c6, rfl, r6, d6⟩, ⟨A9, c9, rfl, r9, d9⟩⟩ := X.reads
  exact laws_heldEnd.calls k x0 _ _ x1 x2 _ _ x3 x4 x5 _ _ x6 x7 x8 _ _ x9 x10 a1 r w r1 d1 r3 d3 r6 d6 r9 d9 h
theorem spec_l21Copy.callsX (k : Nat) {b : Nat} {B : Nat → Prop} {v1 v3 v6 v9 : Value} {x0 : Bool} {x1 : List S61} {x2 : Int} {x3 : List S61} {x4 : Int} {x5 : ByteArray} {x6 : List S58} {x7 : Int} {x8 : Int} {x9 : List S79} {x10 : Bool} (y0 : Bool) (y1 : List S61) (y2 : Int) (y3 : List S61) (y4 : Int) (y5 : ByteArray) (y6 : List S58) (y7 : Int) (y8 : Int) (y9 : List S79) (y10 : Bool) (w : World) (X : EX w b B v1 v3 v6 v9 x1 x3 x6 x9) (h : spec_l21Copy.f k x0 x1 x2 x3 x4 x5 x6 x7 x8 x9 x10 = some (y0, y1, y2, y3, y4, y5, y6, y7, y8, y9, y10)) : Calls Tryd.prog 16 #[.agg #[.bool x0, v1, .int .i64 x2, v3, .int .i64 x4, .string x5, v6, .int .i64 x7, .int .i64 x8, v9, .bool x10]] w fun e w' => ∃ u1 u3 u6 u9 : Value, e = .returned (.agg #[.bool y0, u1, .int .i64 y2, u3, .int .i64 y4, .string y5, u6, .int .i64 y7, .int .i64 y8, u9, .bool y10]) ∧ EX w' w.heap.size (fun _ => True) u1 u3 u6 u9 y1 y3 y6 y9 ∧ Below w.heap.size w w' := by
  obtain ⟨⟨A1, c1, rfl, r1, d1⟩, ⟨A3, c3, rfl, r3, d3⟩, ⟨A6, c6, rfl, r6, d6⟩, ⟨A9, c9, rfl, r9, d9⟩⟩ := X.reads
  refine (spec_l21Copy.calls k x0 _ _ x1 x2 _ _ x3 x4 x5 _ _ x6 x7 x8 _ _ x9 x10 y0 y1 y2 y3 y4 y5 y6 y7 y8 y9 y10 w r1 d1 r3 d3 r6 d6 r9 d9 h).mono ?_
  rintro e w' ⟨u1, u3, u6, u9, rfl, h1, h3, h6, h9, hb⟩
  exact ⟨u1, u3, u6, u9, rfl, (EX.of h1 (fun k h => h) h3 h6 (fun k h => h) h9).mono (fun _ _ _ _ => trivial), hb⟩
theorem impl_End_clone.callsX (k : Nat) {b : Nat} {B : Nat → Prop} {v1 v3 v6 v9 : Value} {x0 : Bool} {x1 : List S61} {x2 : Int} {x3 : List S61} {x4 : Int} {x5 : ByteArray} {x6 : List S58} {x7 : Int} {x8 : Int} {x9 : List S79} {x10 : Bool} (y0 : Bool) (y1 : List S61) (y2 : Int) (y3 : List S61) (y4 : Int) (y5 : ByteArray) (y6 : List S58) (y7 : Int) (y8 : Int) (y9 : List S79) (y10 : Bool) (w : World) (X : EX w b B v1 v3 v6 v9 x1 x3 x6 x9) (h : impl_End_clone.f k x0 x1 x2 x3 x4 x5 x6 x7 x8 x9 x10 = some (y0, y1, y2, y3, y4, y5, y6, y7, y8, y9, y10)) : Calls Tryd.prog 22 #[.agg #[.bool x0, v1, .int .i64 x2, v3, .int .i64 x4, .string x5, v6, .int .i64 x7, .int .i64 x8, v9, .bool x10]] w fun e w' => ∃ u1 u3 u6 u9 : Value, e = .returned (.agg #[.bool y0, u1, .int .i64 y2, u3, .int .i64 y4, .string y5, u6, .int .i64 y7, .int .i64 y8, u9, .bool y10]) ∧ EX w' w.heap.size (fun _ => True) u1 u3 u6 u9 y1 y3 y6 y9 ∧ Below w.heap.size w w' := by
  obtain ⟨⟨A1, c1, rfl, r1, d1⟩, ⟨A3, c3, rfl, r3, d3⟩, ⟨A6, c6, rfl, r6, d6⟩, ⟨A9, c9, rfl, r9, d9⟩⟩ := X.reads
  refine (impl_End_clone.calls k x0 _ _ x1 x2 _ _ x3 x4 x5 _ _ x6 x7 x8 _ _ x9 x10 y0 y1 y2 y3 y4 y5 y6 y7 y8 y9 y10 w r1 d1 r3 d3 r6 d6 r9 d9 h).mono ?_
  rintro e w' ⟨u1, u3, u6, u9, rfl, h1, h3, h6, h9, hb⟩
  exact ⟨u1, u3, u6, u9, rfl, (EX.of h1 (fun k h => h) h3 h6 (fun k h => h) h9).mono (fun _ _ _ _ => trivial), hb⟩
theorem laws_eqEnd.callsX (k : Nat) {b b' : Nat} {B B' : Nat → Prop} {v1 v3 v6 v9 : Value} {x0 : Bool} {x1 : List S61} {x2 : Int} {x3 : List S61} {x4 : Int} {x5 : ByteArray} {x6 : List S58} {x7 : Int} {x8 : Int} {x9 : List S79} {x10 : Bool} {u1 u3 u6 u9 : Value} {y0 : Bool} {y1 : List S61} {y2 : Int} {y3 : List S61} {y4 : Int} {y5 : ByteArray} {y6 : List S58} {y7 : Int} {y8 : Int} {y9 : List S79} {y10 : Bool} (r : Bool) (w : World) (X : EX w b B v1 v3 v6 v9 x1 x3 x6 x9) (Y : EX w b' B' u1 u3 u6 u9 y1 y3 y6 y9) (h : laws_eqEnd.f k x0 x1 x2 x3 x4 x5 x6 x7 x8 x9 x10 y0 y1 y2 y3 y4 y5 y6 y7 y8 y9 y10 = some r) : Calls Tryd.prog 8 #[.agg #[.bool x0, v1, .int .i64 x2, v3, .int .i64 x4, .string x5, v6, .int .i64 x7, .int .i64 x8, v9, .bool x10], .agg #[.bool y0, u1, .int .i64 y2, u3, .int .i64 y4, .string y5, u6, .int .i64 y7, .int .i64 y8, u9, .bool y10]] w fun e w' => e = .returned (.bool r) ∧ Below w.heap.size w w' := by
  obtain ⟨⟨A1, c1, rfl, r1, d1⟩, ⟨A3, c3, rfl, r3, d3⟩, ⟨A6, c6, rfl, r6, d6⟩, ⟨A9, c9, rfl, r9, d9⟩⟩ := X.reads
  obtain ⟨⟨B1, e1, rfl, s1, f1⟩, ⟨B3, e3, rfl, s3, f3⟩, ⟨B6, e6, rfl, s6, f6⟩, ⟨B9, e9, rfl, s9, f9⟩⟩ := Y.reads
  exact laws_eqEnd.calls k x0 _ _ x1 x2 _ _ x3 x4 x5 _ _ x6 x7 x8 _ _ x9 x10 y0 _ _ y1 y2 _ _ y3 y4 y5 _ _ y6 y7 y8 _ _ y9 y10 r w r1 d1 r3 d3 r6 d6 r9 d9 s1 f1 s3 f3 s6 f6 s9 f9 h
theorem laws_markEnd.callsX (k : Nat) {B : Nat → Prop} {v1 v3 v6 v9 : Value} {x0 : Bool} {x1 : List S61} {x2 : Int} {x3 : List S61} {x4 : Int} {x5 : ByteArray} {x6 : List S58} {x7 : Int} {x8 : Int} {x9 : List S79} {x10 : Bool} (a1 r : Int) (r1 r3 : List S61) (r6 : List S58) (r9 : List S79) (w0 w : World) (hB : Below w0.heap.size w0 w) (X : EX w w0.heap.size B v1 v3 v6 v9 x1 x3 x6 x9) (h : laws_markEnd.f k x1 x2 x3 x4 x6 x9 a1 = some (r, r1, r3, r6, r9)) :
    Calls Tryd.prog 9 #[.agg #[.bool x0, v1, .int .i64 x2, v3, .int .i64 x4, .string x5, v6, .int .i64 x7, .int .i64 x8, v9, .bool x10], .int .i64 a1] w fun e w' => e = .returned (.int .i64 r) ∧ EX w' w0.heap.size (fun k => B k ∨ w.heap.size ≤ k) v1 v3 v6 v9 r1 r3 r6 r9 ∧ Below w0.heap.size w0 w' ∧ Kept w w' B := by
  obtain ⟨P, E, p⟩ := X.lt
  refine (laws_markEnd.calls k x0 v1 x1 x2 v3 x3 x4 x5 P v6 x6 x7 x8 v9 x9 x10 a1 r r1 r3 r6 r9 w0 w hB E (fun k h => (p k (.inr (.inr (.inl h)))).2.2) h).mono ?_
  rintro e w' ⟨rfl, E', hb, hk⟩
  refine ⟨rfl, ⟨_, E', ?_⟩, hb, hk.mono (fun k h => (p k h).1)⟩
  rintro k (h | h | h | h)
  · exact .inl (p k (.inl h)).1
  · exact .inl (p k (.inr (.inl h))).1
  · exact h.elim (fun h => .inl (p k (.inr (.inr (.inl h)))).1) .inr
  · exact .inl (p k (.inr (.inr (.inr h)))).1
section
variable {w w' : World} {b g : Nat} {v1 v3 v6 v9 : Value} {l1 l3 : List S61} {l6 r6 : List S58} {l9 : List S79} {B : Nat → Prop}
/-- A stream more, in a row of its own. -/
theorem EX.app6 (X : EX w b B v1 v3 v6 v9 l1 l3 l6 l9) (Q : Nat → Prop) (hQ : ∀ k, Q k → ¬ B k) (r6 : List S58) : ∃ P : Nat → Prop, Kd.S k58 58 w b P v6 l6 ∧ (∀ k, P k → B k) ∧ ∀ (w' : World) (u6 : Value), Kd.S k58 58 w' b (fun k => P k ∨ Q k) u6 r6 → w.grownBy w' v6.ownBlock → EX w' b (fun k => B k ∨ Q k) v1 v3 u6 v9 l1 l3 r6 l9 := by
  obtain ⟨P, E, p⟩ := X.ex
  refine ⟨P, E.s6, fun k h => p k (.inr (.inr (.inl h))), fun w' u6 hS hg => ?_⟩
  have h6 : ∀ k, some k = v6.ownBlock → P k := fun k h => (Kd.S_R E.s6).1 k h.symm
  refine ⟨fun k => P k ∨ Q k, ⟨?_, ?_, hS, ?_, E.a13, ?_, ?_, E.a19, E.a39, ?_⟩, ?_⟩
  · exact Kd.R_step E.r1 (fun k h hl => hg.block k hl (fun e => E.a16 k (h6 k e) h))
  · exact Kd.R_step E.r3 (fun k h hl => hg.block k hl (fun e => E.a36 k (h6 k e) h))
  · exact Kd.R_step E.r9 (fun k h hl => hg.block k hl (fun e => E.a69 k (h6 k e) h))
  · exact fun k h h2 => h.elim (fun h => E.a16 k h h2) (fun h => hQ k h (p k (.inl h2)))
  · exact fun k h h2 => h.elim (fun h => E.a36 k h h2) (fun h => hQ k h (p k (.inr (.inl h2))))
  · exact fun k h h2 => h.elim (fun h => E.a69 k h h2) (fun h => hQ k h (p k (.inr (.inr (.inr h2)))))
  · rintro k (h | h | (h | h) | h)
    · exact .inl (p k (.inl h))
    · exact .inl (p k (.inr (.inl h)))
    · exact .inl (p k (.inr (.inr (.inl h))))
    · exact .inr h
    · exact .inl (p k (.inr (.inr (.inr h))))
theorem EX.ne6 (X : EX w b B v1 v3 v6 v9 l1 l3 l6 l9) (h : ¬ B g) : some g ≠ v6.ownBlock := by
  obtain ⟨P, E, p⟩ := X.ex
  exact fun e => h (p g (.inr (.inr (.inl ((Kd.S_R E.s6).1 g e.symm)))))
theorem EX.in_ {M : Nat} (X : EX w b B v1 v3 v6 v9 l1 l3 l6 l9) (h : w.heap.size ≤ M) : EX w b (fun k => k < M) v1 v3 v6 v9 l1 l3 l6 l9 := X.mono (fun _ _ _ h2 => Nat.lt_of_lt_of_le h2 h)
end
theorem drawn_below {w w' : World} (h : Drawn0 w w') : Below w.heap.size w w' := by
  obtain ⟨n, rfl⟩ := h.out
  exact pw_below_drewN (Below.refl _ _) n
theorem spec_WordOk.callsB (k : Nat) (a0 : ByteArray) (r : Bool) (w : World) (h : spec_WordOk.f k a0 = some r) : Calls Tryd.prog 45 #[.string a0] w fun e w' => e = .returned (.bool r) ∧ Below w.heap.size w w' := (spec_WordOk.calls k a0 r w h).mono (fun _ _ h => ⟨h.1, drawn_below h.2⟩)
theorem impl_WordOk.callsB (k : Nat) (a0 : ByteArray) (r : Bool) (w : World) (h : impl_WordOk.f k a0 = some r) : Calls Tryd.prog 23 #[.string a0] w fun e w' => e = .returned (.bool r) ∧ Below w.heap.size w w' := (impl_WordOk.calls k a0 r w h).mono (fun _ _ h => ⟨h.1, drawn_below h.2⟩)
theorem strconv_Itoa.callsB  (a0 : Int) (r : ByteArray) (w : World) (h : strconv_Itoa.f a0 = some r) : Calls Tryd.prog 25 #[.int .i64 a0] w fun e w' => e = .returned (.string r) ∧ Below w.heap.size w w' := (strconv_Itoa.calls a0 r w h).mono (fun _ _ h => ⟨h.1, drawn_below h.2⟩)
theorem spec_HeadOk.callsV (k : Nat) {b : Nat} {o : Nat → Prop} {v : Value} {l : List S61} (r : Bool) (w : World) (hv : Kd.R k61 61 w b o v l) (h : spec_HeadOk.f k l = some r) : Calls Tryd.prog 44 #[v] w fun e w' => e = .returned (.bool r) ∧ Below w.heap.size w w' := by
  obtain ⟨A, c, rfl⟩ := Kd.R_slice hv
  exact spec_HeadOk.calls k _ _ l r w (Kd.R_reads' hv).2.2 (Kd.R_reads' hv).2.1 h
def headC (path d : ByteArray) : List S61 := [⟨⟨#[58, 112, 97, 116, 104]⟩, path, false⟩, ⟨⟨#[107, 105, 110, 100]⟩, ⟨#[116, 101, 120, 116]⟩, false⟩, ⟨⟨#[115, 105, 122, 101]⟩, d, false⟩]
def strC (id : Int) (path text d : ByteArray) : S58 := ⟨id, 1, headC path d, text, false, false, 0, [], ⟨#[]⟩, false, ⟨8, 8⟩⟩
def spec_l21Call.f (k : Nat) (x0 : Bool) (x1 : List S61) (x2 : Int) (x3 : List S61) (x4 : Int) (x5 : ByteArray) (x6 : List S58) (x7 : Int) (x8 : Int) (x9 : List S79) (x10 : Bool) (path text : ByteArray) : Option (List S58 × Int × Bool) :=
 (spec_l6Dec.f k (text.size : Int)).bind fun d => if x0 = true then some (x6, 0, false) else if wrap64 (wrap64 (2 * (x6.length : Int)) + 1) > 7 then some (x6, 0, false) else (spec_HeadOk.f k (headC path d)).bind fun ho => if ho = true then (spec_WordOk.f k text).bind fun wo => if wo = true then (if x6.length < 1034834473200 then some (x6 ++ [strC (wrap64 (wrap64 (2 * (x6.length : Int)) + 1)) path text d], wrap64 (wrap64 (2 * (x6.length : Int)) + 1), true) else none) else some (x6, 0, false) else some (x6, 0, false)
set_option maxHeartbeats 8000000 in
set_option maxRecDepth 100000 in
theorem spec_l21Call.calls (k : Nat) {v1 v3 v6 v9 : Value} {x0 : Bool} {x1 : List S61} {x2 : Int} {x3 : List S61} {x4 : Int} {x5 : ByteArray} {x6 : List S58} {x7 : Int} {x8 : Int} {x9 : List S79} {x10 : Bool} (path text : ByteArray) (r6 : List S58) (ri : Int) (rb : Bool) (w0 w : World) (hB : Below w0.heap.size w0 w) (X : EX w w0.heap.size (fun _ => True) v1 v3 v6 v9 x1 x3 x6 x9) (h : spec_l21Call.f k x0 x1 x2 x3 x4 x5 x6 x7 x8 x9 x10 path text = some (r6, ri, rb)) :
  Calls Tryd.prog 15 #[.agg #[.bool x0, v1, .int .i64 x2, v3, .int .i64 x4, .string x5, v6, .int .i64 x7, .int .i64 x8, v9, .bool x10], .string path, .string text] w fun e w' => ∃ u6 : Value, e = .returned (.tuple #[.agg #[.bool x0, v1, .int .i64 x2, v3, .int .i64 x4, .string x5, u6, .int .i64 x7, .int .i64 x8, v9, .bool x10], .int .i64 ri, .bool rb]) ∧ EX w' w0.heap.size (fun _ => True) v1 v3 u6 v9 x1 x3 r6 x9 ∧ Below w0.heap.size w0 w' := by
 have hu42 := Tryd.underlying39
 have hu104 := Tryd.underlying58
 have HB := Aside0.mk hB
 obtain ⟨A6, c6, e6, _⟩ := X.reads.2.2.1
 subst e6
 have HX := Aside0.mk (X.mono (B' := fun k => k < w.heap.size) (fun _ _ _ h => h))
 have H := h
 clear hB X h
 unfold spec_l21Call.f at H
 obtain ⟨dd, A1, Hn_⟩ := ob H
 replace H := Hn_
 clear Hn_
 have HC := Aside0.mk H
 clear H
 go_enter Tryd.func15, Tryd.ntmps15
 go_upto_region 3 with (first | ((with_reducible refine gd 3 rfl ?_); refine bx (N := 3) (cs := #[.bool x0, v1, .int .i64 x2, v3, .int .i64 x4, .string x5, .slice A6 x6.length c6, .int .i64 x7, .int .i64 x8, v9, .bool x10]) (t := 39) ?_; intro g2 hg w3 hbox hb; have BK2 := Aside0.mk hbox; have N2 := Aside0.mk (show ¬ g2 < w.heap.size by rw [hg]; exact Nat.not_lt.2 ms); have HS := Aside0.mk (show w.heap.size ≤ w3.heap.size from Nat.le_trans ms hb.size); replace HX := Aside0.mk ((zx HX).below hb); have S2 := Aside0.mk (show w0.heap.size ≤ g2 by rw [hg]; exact below_size (zb HB)); replace HB := Aside0.mk (below_step (zb HB) hb); clear hb hbox hg) | ((with_reducible refine gd 6 rfl ?_); refine bx (N := 6) (cs := #[.bool false, .slice none 0 0, .int .i64 0, .slice none 0 0, .int .i64 0, .string (⟨#[]⟩ : ByteArray), .slice none 0 0, .int .i64 0, .int .i64 0, .slice none 0 0, .bool false]) (t := 39) ?_; intro g4 hg w6 hbox hb; have BK4 := Aside0.mk hbox; have N4 := Aside0.mk (show ¬ g4 < w.heap.size by rw [hg]; exact Nat.not_lt.2 (Nat.le_trans HS.out ms)); obtain ⟨N24, N42⟩ := nb BK2 hg; have S4 := Aside0.mk (show w0.heap.size ≤ g4 by rw [hg]; exact below_size (zb HB)); replace BK2 := kb BK2 hb; replace HX := Aside0.mk ((zx HX).below hb); replace HS := Aside0.mk (Nat.le_trans HS.out (Nat.le_trans ms hb.size)); replace HB := Aside0.mk (below_step (zb HB) hb); clear hb; clear hbox hg; have hz6 := cz (v := .slice A6 x6.length c6) BK2 6 rfl) | ((with_reducible refine gq 43 rfl ?_); refine gl (some 22) Tryd.func43 #[.int .i64 (text.size : Int)] ?_; (refine (spec_l6Dec.calls k (text.size : Int) dd _ A1.out).mono ?_); rintro e w22 ⟨rfl, hb⟩; refine ⟨_, rfl, ?_⟩; clear hz6; replace BK2 := kb BK2 hb; replace BK4 := kb BK4 hb; replace HX := Aside0.mk ((zx HX).below hb); replace HS := Aside0.mk (Nat.le_trans HS.out (Nat.le_trans ms hb.size)); replace HB := Aside0.mk (below_step (zb HB) hb); clear hb) | ((with_reducible refine gd 24 rfl ?_); refine Kd.R_lit k61 _ 61 ?hg (N := 24) ?hd (xs := headC path dd) (inner := [.string (⟨#[58, 112, 97, 116, 104]⟩ : ByteArray), .string path, .bool false, .string (⟨#[107, 105, 110, 100]⟩ : ByteArray), .string (⟨#[116, 101, 120, 116]⟩ : ByteArray), .bool false, .string (⟨#[115, 105, 122, 101]⟩ : ByteArray), .string dd, .bool false]) (ok := fun _ => True) (okp := fun _ => True) ?hr ?hp (fun _ hk => hk) trivial (Below.refl _ _) (Nat.le_refl _) (by unfold headC; simp) ?_; (case hd => rfl); (case hg => rfl); (case hr => first | (go_simp; done) | (go_simp; rfl)); (case hp => exact (Reps.c3 (k61_mkM _ _ _ _) (Reps.c3 (k61_mkM _ _ _ _) (Reps.c3 (k61_mkM _ _ _ _) (Reps.none _ _))))); intro vh w24 ho hb hg_ hnew_; clear hg_ hnew_; obtain ⟨Ah, nh, ch, eh⟩ : ∃ A n c, vh = Value.slice A n c := (by obtain ⟨A, c, e⟩ := Kd.R_slice ho; exact ⟨A, _, c, e⟩); subst eh; have HH := Aside0.mk (Kd.R_lower (Kd.R_mono (Kd.R_bound ho) (fun k h => (⟨Nat.le_trans HS.out (Nat.le_trans ms h.2.1), Nat.ne_of_gt (Nat.lt_of_lt_of_le (blk_lt BK2.out) (Nat.le_trans ms h.2.1)), Nat.ne_of_gt (Nat.lt_of_lt_of_le (blk_lt BK4.out) (Nat.le_trans ms h.2.1))⟩ : w.heap.size ≤ k ∧ k ≠ g2 ∧ k ≠ g4))) (below_size (zb HB))); replace BK2 := kb BK2 hb; replace BK4 := kb BK4 hb; replace HX := Aside0.mk ((zx HX).below hb); replace HS := Aside0.mk (Nat.le_trans HS.out (Nat.le_trans ms hb.size)); replace HB := Aside0.mk (below_step (zb HB) hb); clear hb; clear ho))
 (try simp only [Act.put, s1, s2, s3])
 have H := HC.out
 clear HC
 have hz0 := cz (v := .bool x0) BK2 0 rfl
 cases x0 with
 | true =>
  rw [if_pos rfl] at H
  simp only [Option.some.injEq, Prod.mk.injEq] at H
  obtain ⟨rfl, rfl, rfl⟩ := H
  go_wp2_with (first | ((with_reducible refine gd 41 rfl ?_); refine ld BK2 0 ([.bool true, v1, .int .i64 x2, v3, .int .i64 x4, .string x5, .slice A6 x6.length c6, .int .i64 x7, .int .i64 x8, v9, .bool x10] : List Value) Tryd.underlying39 ?_) | ((with_reducible refine gate_store (t := 39) (p := 6) rfl ?_); refine sd BK4 0 ([.bool true, v1, .int .i64 x2, v3, .int .i64 x4, .string x5, .slice A6 x6.length c6, .int .i64 x7, .int .i64 x8, v9, .bool x10] : List Value) #[.bool true, v1, .int .i64 x2, v3, .int .i64 x4, .string x5, .slice A6 x6.length c6, .int .i64 x7, .int .i64 x8, v9, .bool x10] ?_ ?h1; (case h1 => obtain ⟨o1, o3, o6, o9⟩ := (zx HX).ones; intro u hu; simp only [List.mem_cons, List.not_mem_nil, or_false] at hu; rcases hu with rfl | rfl | rfl | rfl | rfl | rfl | rfl | rfl | rfl | rfl | rfl <;> first | rfl | assumption); intro w25 bkc hk hlow; replace HX := Aside0.mk ((zx HX).keep hk N4.out); replace HB := Aside0.mk (hlow _ _ (zb HB) S4.out); replace BK4 := bkc; clear hk hlow bkc))
  refine bodyPost_ret (results_ctt rfl _ _ g4 39 #[.bool true, v1, .int .i64 x2, v3, .int .i64 x4, .string x5, .slice A6 x6.length c6, .int .i64 x7, .int .i64 x8, v9, .bool x10] (0, 0) _ rfl (zp BK4) Tryd.underlying39 rfl (by kernel_rfl)) rfl ?_
  exact ⟨_, ze, (zx HX).mono (fun _ _ _ _ => trivial), zb HB⟩
 | false =>
  rw [if_neg (by decide)] at H
  by_cases c2 : wrap64 (wrap64 (2 * (x6.length : Int)) + 1) > 7
  ·rw [if_pos c2] at H
   have c2b0 := decide_eq_true c2
   simp only [Option.some.injEq, Prod.mk.injEq] at H
   obtain ⟨rfl, rfl, rfl⟩ := H
   go_wp2_with (first | ((with_reducible refine gd 41 rfl ?_); refine ld BK2 0 ([.bool false, v1, .int .i64 x2, v3, .int .i64 x4, .string x5, .slice A6 x6.length c6, .int .i64 x7, .int .i64 x8, v9, .bool x10] : List Value) Tryd.underlying39 ?_) | ((with_reducible refine gate_store (t := 39) (p := 6) rfl ?_); refine sd BK4 0 ([.bool false, v1, .int .i64 x2, v3, .int .i64 x4, .string x5, .slice A6 x6.length c6, .int .i64 x7, .int .i64 x8, v9, .bool x10] : List Value) #[.bool false, v1, .int .i64 x2, v3, .int .i64 x4, .string x5, .slice A6 x6.length c6, .int .i64 x7, .int .i64 x8, v9, .bool x10] ?_ ?h1; (case h1 => obtain ⟨o1, o3, o6, o9⟩ := (zx HX).ones; intro u hu; simp only [List.mem_cons, List.not_mem_nil, or_false] at hu; rcases hu with rfl | rfl | rfl | rfl | rfl | rfl | rfl | rfl | rfl | rfl | rfl <;> first | rfl | assumption); intro w25 bkc hk hlow; replace HX := Aside0.mk ((zx HX).keep hk N4.out); replace HB := Aside0.mk (hlow _ _ (zb HB) S4.out); replace BK4 := bkc; clear hk hlow bkc))
   refine bodyPost_ret (results_ctt rfl _ _ g4 39 #[.bool false, v1, .int .i64 x2, v3, .int .i64 x4, .string x5, .slice A6 x6.length c6, .int .i64 x7, .int .i64 x8, v9, .bool x10] (0, 0) _ rfl (zp BK4) Tryd.underlying39 rfl (by kernel_rfl)) rfl ?_
   exact ⟨_, ze, (zx HX).mono (fun _ _ _ _ => trivial), zb HB⟩
  ·rw [if_neg c2] at H
   have c2b0 := decide_eq_false c2
   obtain ⟨ho_, A2, Hn_⟩ := ob H
   replace H := Hn_
   clear Hn_
   cases ho_ with
   | false =>
    rw [if_neg (by decide)] at H
    simp only [Option.some.injEq, Prod.mk.injEq] at H
    obtain ⟨rfl, rfl, rfl⟩ := H
    go_wp2_with (first | (go_at_call 44; (with_reducible refine (spec_HeadOk.callsV k false _ (zr HH) A2.out).mono ?_); rintro e w33 ⟨rfl, hb⟩; clear hz0; replace HH := Aside0.mk (Kd.R_below (zr HH) hb); replace BK2 := kb BK2 hb; replace BK4 := kb BK4 hb; replace HX := Aside0.mk ((zx HX).below hb); replace HS := Aside0.mk (Nat.le_trans HS.out (Nat.le_trans ms hb.size)); replace HB := Aside0.mk (below_step (zb HB) hb); clear hb) | ((with_reducible refine gd 41 rfl ?_); refine ld BK2 0 ([.bool false, v1, .int .i64 x2, v3, .int .i64 x4, .string x5, .slice A6 x6.length c6, .int .i64 x7, .int .i64 x8, v9, .bool x10] : List Value) Tryd.underlying39 ?_) | ((with_reducible refine gate_store (t := 39) (p := 6) rfl ?_); refine sd BK4 0 ([.bool false, v1, .int .i64 x2, v3, .int .i64 x4, .string x5, .slice A6 x6.length c6, .int .i64 x7, .int .i64 x8, v9, .bool x10] : List Value) #[.bool false, v1, .int .i64 x2, v3, .int .i64 x4, .string x5, .slice A6 x6.length c6, .int .i64 x7, .int .i64 x8, v9, .bool x10] ?_ ?h1; (case h1 => obtain ⟨o1, o3, o6, o9⟩ := (zx HX).ones; intro u hu; simp only [List.mem_cons, List.not_mem_nil, or_false] at hu; rcases hu with rfl | rfl | rfl | rfl | rfl | rfl | rfl | rfl | rfl | rfl | rfl <;> first | rfl | assumption); intro w25 bkc hk hlow; replace HX := Aside0.mk ((zx HX).keep hk N4.out); replace HB := Aside0.mk (hlow _ _ (zb HB) S4.out); replace BK4 := bkc; clear hk hlow bkc))
    refine bodyPost_ret (results_ctt rfl _ _ g4 39 #[.bool false, v1, .int .i64 x2, v3, .int .i64 x4, .string x5, .slice A6 x6.length c6, .int .i64 x7, .int .i64 x8, v9, .bool x10] (0, 0) _ rfl (zp BK4) Tryd.underlying39 rfl (by kernel_rfl)) rfl ?_
    exact ⟨_, ze, (zx HX).mono (fun _ _ _ _ => trivial), zb HB⟩
   | true =>
    rw [if_pos rfl] at H
    obtain ⟨wo_, A3, Hn_⟩ := ob H
    replace H := Hn_
    clear Hn_
    cases wo_ with
    | false =>
     rw [if_neg (by decide)] at H
     simp only [Option.some.injEq, Prod.mk.injEq] at H
     obtain ⟨rfl, rfl, rfl⟩ := H
     go_wp2_with (first | (go_at_call 44; (with_reducible refine (spec_HeadOk.callsV k true _ (zr HH) A2.out).mono ?_); rintro e w33 ⟨rfl, hb⟩; clear hz0; replace HH := Aside0.mk (Kd.R_below (zr HH) hb); replace BK2 := kb BK2 hb; replace BK4 := kb BK4 hb; replace HX := Aside0.mk ((zx HX).below hb); replace HS := Aside0.mk (Nat.le_trans HS.out (Nat.le_trans ms hb.size)); replace HB := Aside0.mk (below_step (zb HB) hb); clear hb) | (go_at_call 45; (with_reducible refine (spec_WordOk.callsB k text false _ A3.out).mono ?_); rintro e w38 ⟨rfl, hb⟩; replace HH := Aside0.mk (Kd.R_below (zr HH) hb); replace BK2 := kb BK2 hb; replace BK4 := kb BK4 hb; replace HX := Aside0.mk ((zx HX).below hb); replace HS := Aside0.mk (Nat.le_trans HS.out (Nat.le_trans ms hb.size)); replace HB := Aside0.mk (below_step (zb HB) hb); clear hb) | ((with_reducible refine gd 41 rfl ?_); refine ld BK2 0 ([.bool false, v1, .int .i64 x2, v3, .int .i64 x4, .string x5, .slice A6 x6.length c6, .int .i64 x7, .int .i64 x8, v9, .bool x10] : List Value) Tryd.underlying39 ?_) | ((with_reducible refine gate_store (t := 39) (p := 6) rfl ?_); refine sd BK4 0 ([.bool false, v1, .int .i64 x2, v3, .int .i64 x4, .string x5, .slice A6 x6.length c6, .int .i64 x7, .int .i64 x8, v9, .bool x10] : List Value) #[.bool false, v1, .int .i64 x2, v3, .int .i64 x4, .string x5, .slice A6 x6.length c6, .int .i64 x7, .int .i64 x8, v9, .bool x10] ?_ ?h1; (case h1 => obtain ⟨o1, o3, o6, o9⟩ := (zx HX).ones; intro u hu; simp only [List.mem_cons, List.not_mem_nil, or_false] at hu; rcases hu with rfl | rfl | rfl | rfl | rfl | rfl | rfl | rfl | rfl | rfl | rfl <;> first | rfl | assumption); intro w25 bkc hk hlow; replace HX := Aside0.mk ((zx HX).keep hk N4.out); replace HB := Aside0.mk (hlow _ _ (zb HB) S4.out); replace BK4 := bkc; clear hk hlow bkc))
     refine bodyPost_ret (results_ctt rfl _ _ g4 39 #[.bool false, v1, .int .i64 x2, v3, .int .i64 x4, .string x5, .slice A6 x6.length c6, .int .i64 x7, .int .i64 x8, v9, .bool x10] (0, 0) _ rfl (zp BK4) Tryd.underlying39 rfl (by kernel_rfl)) rfl ?_
     exact ⟨_, ze, (zx HX).mono (fun _ _ _ _ => trivial), zb HB⟩
    | true =>
     rw [if_pos rfl] at H
     by_cases c5 : x6.length < 1034834473200
     rotate_left
     ·rw [if_neg c5] at H
      cases H
     rw [if_pos c5] at H
     simp only [Option.some.injEq, Prod.mk.injEq] at H
     obtain ⟨rfl, rfl, rfl⟩ := H
     have C5 := Aside0.mk c5
     clear c5
     go_wp2_with (first | (go_at_call 44; (with_reducible refine (spec_HeadOk.callsV k true _ (zr HH) A2.out).mono ?_); rintro e w33 ⟨rfl, hb⟩; clear hz0; replace HH := Aside0.mk (Kd.R_below (zr HH) hb); replace BK2 := kb BK2 hb; replace BK4 := kb BK4 hb; replace HX := Aside0.mk ((zx HX).below hb); replace HS := Aside0.mk (Nat.le_trans HS.out (Nat.le_trans ms hb.size)); replace HB := Aside0.mk (below_step (zb HB) hb); clear hb) | (go_at_call 45; (with_reducible refine (spec_WordOk.callsB k text true _ A3.out).mono ?_); rintro e w38 ⟨rfl, hb⟩; replace HH := Aside0.mk (Kd.R_below (zr HH) hb); replace BK2 := kb BK2 hb; replace BK4 := kb BK4 hb; replace HX := Aside0.mk ((zx HX).below hb); replace HS := Aside0.mk (Nat.le_trans HS.out (Nat.le_trans ms hb.size)); replace HB := Aside0.mk (below_step (zb HB) hb); clear hb) | ((with_reducible refine gq 46 rfl ?_); refine gl (some 43) Tryd.func46 #[.int .i64 (wrap64 (wrap64 (2 * (x6.length : Int)) + 1))] ?_; (refine (spec_l21New.calls (wrap64 (wrap64 (2 * (x6.length : Int)) + 1)) _ _ _ _ _ _ _ _ _ _ _ _ _ rfl).mono ?_); rintro e w43 ⟨q2_, q7_, rfl, h2, h7, hb⟩; refine ⟨_, rfl, ?_⟩; have HG := Aside0.mk (Kd.R_lower (Kd.R_mono (Kd.R_bound h7) (fun k h => (⟨Nat.le_trans HS.out (Nat.le_trans ms h.2.1), Nat.ne_of_gt (Nat.lt_of_lt_of_le (blk_lt BK2.out) (Nat.le_trans ms h.2.1)), Nat.ne_of_gt (Nat.lt_of_lt_of_le (blk_lt BK4.out) (Nat.le_trans ms h.2.1))⟩ : w.heap.size ≤ k ∧ k ≠ g2 ∧ k ≠ g4))) (below_size (zb HB))); obtain ⟨Ag, ng, cg, eg⟩ : ∃ A n c, q7_ = Value.slice A n c := (by obtain ⟨A, c, e⟩ := Kd.R_slice h7; exact ⟨A, _, c, e⟩); subst eg; obtain ⟨Aq, nq, cq, eq_⟩ : ∃ A n c, q2_ = Value.slice A n c := (by obtain ⟨A, c, e⟩ := Kd.R_slice h2; exact ⟨A, _, c, e⟩); subst eq_; have ND := Aside0.mk (show ∀ k, (.slice Ah nh ch : Value).ownBlock = some k → (.slice Ag ng cg : Value).ownBlock ≠ some k from fun k h1 h2 => Nat.lt_irrefl _ (Nat.lt_of_lt_of_le (Kd.R_lt (zr HH) k h1) (Kd.R_base h7 k h2))); replace HH := Aside0.mk (Kd.R_below (zr HH) hb); replace BK2 := kb BK2 hb; replace BK4 := kb BK4 hb; replace HX := Aside0.mk ((zx HX).below hb); replace HS := Aside0.mk (Nat.le_trans HS.out (Nat.le_trans ms hb.size)); replace HB := Aside0.mk (below_step (zb HB) hb); clear hb; clear h2 h7) | ((with_reducible refine gd 11 rfl ?_); refine bx (N := 11) (cs := #[.int .i64 0, .int .i64 0, .slice none 0 0, .string (⟨#[]⟩ : ByteArray), .bool false, .bool false, .int .i64 0, .slice none 0 0, .string (⟨#[]⟩ : ByteArray), .bool false, .int .i64 0, .int .i64 0]) (t := 58) ?_; intro g8 hg w11 hbox hb; have BK8 := Aside0.mk hbox; obtain ⟨N28, N82⟩ := nb BK2 hg; obtain ⟨N48, N84⟩ := nb BK4 hg; have S8 := Aside0.mk (show w0.heap.size ≤ g8 by rw [hg]; exact below_size (zb HB)); have N8 := Aside0.mk (show ¬ (g8 < w.heap.size) from (by rw [hg]; exact Nat.not_lt.2 (Nat.le_trans HS.out ms))); replace HH := Aside0.mk (Kd.R_below (zr HH) hb); replace HG := Aside0.mk (Kd.R_below (zr HG) hb); replace BK2 := kb BK2 hb; replace BK4 := kb BK4 hb; replace HX := Aside0.mk ((zx HX).below hb); replace HS := Aside0.mk (Nat.le_trans HS.out (Nat.le_trans ms hb.size)); replace HB := Aside0.mk (below_step (zb HB) hb); clear hb; clear hbox hg) | ((with_reducible refine gate_store (t := 58) (p := 11) rfl ?_); refine sd BK8 0 ([.int .i64 (wrap64 (wrap64 (2 * (x6.length : Int)) + 1)), .int .i64 1, .slice Aq nq cq, .string (⟨#[]⟩ : ByteArray), .bool false, .bool false, .int .i64 0, .slice Ag ng cg, .string (⟨#[]⟩ : ByteArray), .bool false, .int .i64 8, .int .i64 8] : List Value) #[.int .i64 (wrap64 (wrap64 (2 * (x6.length : Int)) + 1)), .int .i64 1, .slice Aq nq cq, .string (⟨#[]⟩ : ByteArray), .bool false, .bool false, .int .i64 0, .slice Ag ng cg, .string (⟨#[]⟩ : ByteArray), .bool false, .int .i64 8, .int .i64 8] ?_ ?h1; (case h1 => intro u hu; simp only [List.mem_cons, List.not_mem_nil, or_false] at hu; rcases hu with rfl | rfl | rfl | rfl | rfl | rfl | rfl | rfl | rfl | rfl | rfl | rfl <;> rfl); intro w44 bkc hk hlow; replace HH := Aside0.mk (Kd.R_mono (Kd.R_keep (ztR (Kd.R_types HH.out BK8.out (by decide))) hk (fun _ h => h.2)) (fun _ h => h.1)); replace HG := Aside0.mk (Kd.R_mono (Kd.R_keep (ztR (Kd.R_types HG.out BK8.out (by decide))) hk (fun _ h => h.2)) (fun _ h => h.1)); replace BK2 := Aside0.mk (KeepBut.blk hk (zk BK2) N28.out (by simp)); replace BK4 := Aside0.mk (KeepBut.blk hk (zk BK4) N48.out (by simp)); replace HX := Aside0.mk ((zx HX).keep hk N8.out); replace HS := Aside0.mk (Nat.le_trans HS.out (Nat.le_trans ms hk.1)); replace HB := Aside0.mk (hlow _ _ (zb HB) S8.out); replace BK8 := bkc; have hz2 := cz (v := .slice Aq nq cq) BK8 2 rfl; have hf2 := blk_frozen BK8.out 2; clear hk hlow bkc) | ((with_reducible refine gate_store (t := 32) (p := 45) rfl ?_); refine store_event (t := 32) (p := 45) (v := ?vo1) (w1 := w44.setCell ⟨g8, 2, none⟩ (.slice Ah nh ch)) ?hg ?ho ?hn ?hr ?_; (case ho => rfl); (case hg => rfl); (case hn => rfl); (case hr => first | (go_simp; done) | (go_simp; rfl)); intro w45 hw; have hk := (show KeepBut w44 w45 g8 none by rw [hw]; exact (KeepBut.refl w44 g8 none).set_ 2 _); replace HH := Aside0.mk (Kd.R_mono (Kd.R_keep (ztR (Kd.R_types HH.out BK8.out (by decide))) hk (fun _ h => h.2)) (fun _ h => h.1)); replace HG := Aside0.mk (Kd.R_mono (Kd.R_keep (ztR (Kd.R_types HG.out BK8.out (by decide))) hk (fun _ h => h.2)) (fun _ h => h.1)); replace BK8 := Aside0.mk (show w45.heap[g8]? = some (.cells #[.int .i64 (wrap64 (wrap64 (2 * (x6.length : Int)) + 1)), .int .i64 1, .slice Ah nh ch, .string (⟨#[]⟩ : ByteArray), .bool false, .bool false, .int .i64 0, .slice Ag ng cg, .string (⟨#[]⟩ : ByteArray), .bool false, .int .i64 8, .int .i64 8] 58 (0, 0)) from blk_put2 hw BK8.out (by rfl)); replace BK2 := Aside0.mk (blk_far2 hw BK2.out N28.out); replace BK4 := Aside0.mk (blk_far2 hw BK4.out N48.out); replace HB := Aside0.mk (show Below w0.heap.size w0 w45 by rw [hw]; exact below_set HB.out S8.out); replace HX := Aside0.mk (HX.out.keep hk N8.out); replace HS := Aside0.mk (Nat.le_trans HS.out hk.1); clear hk; clear hz2 hf2; have hz3 := cz (v := .string (⟨#[]⟩ : ByteArray)) BK8 3 rfl; have hf3 := blk_frozen BK8.out 3; clear hw) | ((with_reducible refine gate_store (t := 9) (p := 47) rfl ?_); refine store_event (t := 9) (p := 47) (v := ?vo2) (w1 := w45.setCell ⟨g8, 3, none⟩ (.string text)) ?hg ?ho ?hn ?hr ?_; (case ho => rfl); (case hg => rfl); (case hn => rfl); (case hr => first | (go_simp; done) | (go_simp; rfl)); intro w46 hw; have hk := (show KeepBut w45 w46 g8 none by rw [hw]; exact (KeepBut.refl w45 g8 none).set_ 3 _); replace HH := Aside0.mk (Kd.R_mono (Kd.R_keep (ztR (Kd.R_types HH.out BK8.out (by decide))) hk (fun _ h => h.2)) (fun _ h => h.1)); replace HG := Aside0.mk (Kd.R_mono (Kd.R_keep (ztR (Kd.R_types HG.out BK8.out (by decide))) hk (fun _ h => h.2)) (fun _ h => h.1)); replace BK8 := Aside0.mk (show w46.heap[g8]? = some (.cells #[.int .i64 (wrap64 (wrap64 (2 * (x6.length : Int)) + 1)), .int .i64 1, .slice Ah nh ch, .string text, .bool false, .bool false, .int .i64 0, .slice Ag ng cg, .string (⟨#[]⟩ : ByteArray), .bool false, .int .i64 8, .int .i64 8] 58 (0, 0)) from blk_put2 hw BK8.out (by rfl)); replace BK2 := Aside0.mk (blk_far2 hw BK2.out N28.out); replace BK4 := Aside0.mk (blk_far2 hw BK4.out N48.out); replace HB := Aside0.mk (show Below w0.heap.size w0 w46 by rw [hw]; exact below_set HB.out S8.out); replace HX := Aside0.mk (HX.out.keep hk N8.out); replace HS := Aside0.mk (Nat.le_trans HS.out hk.1); clear hk; clear hz3 hf3; have hz6 := cz (v := .slice A6 x6.length c6) BK2 6 rfl; clear hw) | ((with_reducible refine gd 50 rfl ?_); refine ld BK8 0 ([.int .i64 (wrap64 (wrap64 (2 * (x6.length : Int)) + 1)), .int .i64 1, .slice Ah nh ch, .string text, .bool false, .bool false, .int .i64 0, .slice Ag ng cg, .string (⟨#[]⟩ : ByteArray), .bool false, .int .i64 8, .int .i64 8] : List Value) Tryd.underlying58 ?_) | ((with_reducible refine gate_builtin (b := .append) (xs := #[.tmp 49, .tmp 51]) rfl ?_); at_builtin; have hQ : ∀ k, w.heap.size ≤ k ∧ k ≠ g2 ∧ k ≠ g4 → ¬ (k < w.heap.size) := fun k h h2 => Nat.lt_irrefl _ (Nat.lt_of_lt_of_le h2 h.1); obtain ⟨P6, hS6, hP6, hE6⟩ := HX.out.app6 (fun k => w.heap.size ≤ k ∧ k ≠ g2 ∧ k ≠ g4) hQ (x6 ++ [strC (wrap64 (wrap64 (2 * (x6.length : Int)) + 1)) path text dd]); refine Kd.S_append k58 (w0 := w0) w0.heap.size rfl (.tmp 49) (.tmp 51) 35 58 (.agg #[(.int .i64 0), (.int .i64 0), (.slice none 0 0), (.string ⟨#[]⟩), (.bool false), (.bool false), (.int .i64 0), (.slice none 0 0), (.string ⟨#[]⟩), (.bool false), (.int .i64 0), (.int .i64 0)]) 136 rfl Tryd.underlying35 info58 rfl (by decide) (by omega) (.slice A6 x6.length c6) x6 (strC (wrap64 (wrap64 (2 * (x6.length : Int)) + 1)) path text dd) [.int .i64 (wrap64 (wrap64 (2 * (x6.length : Int)) + 1)), .int .i64 1, .slice Ah nh ch, .string text, .bool false, .bool false, .int .i64 0, .slice Ag ng cg, .string (⟨#[]⟩ : ByteArray), .bool false, .int .i64 8, .int .i64 8] (fun k => P6 k ∨ (w.heap.size ≤ k ∧ k ≠ g2 ∧ k ≠ g4)) (fun k => some k = (.slice Ah nh ch : Value).ownBlock ∨ some k = (.slice Ag ng cg : Value).ownBlock) rfl (by first | (go_simp; done) | (go_simp; rfl)) ?aP ?aQ ?aF ?aO ?aB ?aS ?aL ?_; (case aP => exact k58_mkM _ _ _ (strC (wrap64 (wrap64 (2 * (x6.length : Int)) + 1)) path text dd) (Kd.R_mono (Kd.R_tight rfl (zr HH)) (fun _ h => .inl h)) (Kd.R_mono (Kd.R_tight rfl (zr HG)) (fun _ h => .inr h)) ND.out); (case aQ => exact fun k h => h.elim (fun h => ⟨.inr (HH.out.1 k h.symm), fun e => hQ k (HH.out.1 k h.symm) (hP6 k ((Kd.S_R hS6).1 k e.symm))⟩) (fun h => ⟨.inr (HG.out.1 k h.symm), fun e => hQ k (HG.out.1 k h.symm) (hP6 k ((Kd.S_R hS6).1 k e.symm))⟩)); (case aB => exact (zb HB)); (case aF => exact (fun k hk => .inr ⟨Nat.le_trans HS.out (hk), Nat.ne_of_gt (Nat.lt_of_lt_of_le (blk_lt BK2.out) (hk)), Nat.ne_of_gt (Nat.lt_of_lt_of_le (blk_lt BK4.out) (hk))⟩)); (case aO => exact Kd.S_mono hS6 (fun k h => ⟨.inl h, fun h2 => h2.elim (fun h2 => hQ k (HH.out.1 k h2.symm) (hP6 k h)) (fun h2 => hQ k (HG.out.1 k h2.symm) (hP6 k h))⟩)); (case aS => exact (below_size (zb HB))); (case aL => have := C5.out; omega); intro u6_ w52 ho hb hg hat; obtain ⟨Au, nu, cu, rfl⟩ : ∃ A n c, u6_ = Value.slice A n c := (by obtain ⟨A, c, e⟩ := Kd.S_slice ho; exact ⟨A, _, c, e⟩); have HE := Aside0.mk (hE6 _ _ ho hg); clear hz6; replace BK2 := Aside0.mk (blk_grown BK2.out hg (HX.out.ne6 N2.out)); replace BK4 := Aside0.mk (blk_grown BK4.out hg (HX.out.ne6 N4.out)); clear HX HS HH HG ND BK8; have HX := HE; clear HE; replace N2 := Aside0.mk (show ¬ (g2 < w.heap.size ∨ (w.heap.size ≤ g2 ∧ g2 ≠ g2 ∧ g2 ≠ g4)) from fun h => h.elim N2.out (fun h => h.2.1 rfl)); replace N4 := Aside0.mk (show ¬ (g4 < w.heap.size ∨ (w.heap.size ≤ g4 ∧ g4 ≠ g2 ∧ g4 ≠ g4)) from fun h => h.elim N4.out (fun h => h.2.2 rfl)); replace HB := Aside0.mk hb; have hz6 := cz (v := .slice A6 x6.length c6) BK2 6 rfl; have hf6 := blk_frozen BK2.out 6; clear ho hb hg hat hS6 hP6 hE6 hQ) | ((with_reducible refine gate_store (t := 35) (p := 53) rfl ?_); refine store_event (t := 35) (p := 53) (v := ?vo3) (w1 := w52.setCell ⟨g2, 6, none⟩ (.slice Au nu cu)) ?hg ?ho ?hn ?hr ?_; (case ho => rfl); (case hg => rfl); (case hn => rfl); (case hr => first | (go_simp; done) | (go_simp; rfl)); intro w53 hw; clear hz6 hf6; replace BK2 := Aside0.mk (show w53.heap[g2]? = some (.cells #[.bool false, v1, .int .i64 x2, v3, .int .i64 x4, .string x5, .slice Au nu cu, .int .i64 x7, .int .i64 x8, v9, .bool x10] 39 (0, 0)) from blk_put2 hw BK2.out (by rfl)); replace BK4 := Aside0.mk (blk_far2 hw BK4.out N42.out); replace HB := Aside0.mk (show Below w0.heap.size w0 w53 by rw [hw]; exact below_set HB.out S2.out); replace HX := Aside0.mk ((HX.out.setb N2.out 6 (.slice Au nu cu)).at_ hw); clear hw) | ((with_reducible refine gd 54 rfl ?_); refine ld BK2 0 ([.bool false, v1, .int .i64 x2, v3, .int .i64 x4, .string x5, .slice Au nu cu, .int .i64 x7, .int .i64 x8, v9, .bool x10] : List Value) Tryd.underlying39 ?_) | ((with_reducible refine gate_store (t := 39) (p := 6) rfl ?_); refine sd BK4 0 ([.bool false, v1, .int .i64 x2, v3, .int .i64 x4, .string x5, .slice Au nu cu, .int .i64 x7, .int .i64 x8, v9, .bool x10] : List Value) #[.bool false, v1, .int .i64 x2, v3, .int .i64 x4, .string x5, .slice Au nu cu, .int .i64 x7, .int .i64 x8, v9, .bool x10] ?_ ?h1; (case h1 => obtain ⟨o1, o3, o6, o9⟩ := (zx HX).ones; intro u hu; simp only [List.mem_cons, List.not_mem_nil, or_false] at hu; rcases hu with rfl | rfl | rfl | rfl | rfl | rfl | rfl | rfl | rfl | rfl | rfl <;> first | rfl | assumption); intro w54 bkc hk hlow; replace HX := Aside0.mk ((zx HX).keep hk N4.out); replace HB := Aside0.mk (hlow _ _ (zb HB) S4.out); replace BK4 := bkc; clear hk hlow bkc))
     refine bodyPost_ret (results_ctt rfl _ _ g4 39 #[.bool false, v1, .int .i64 x2, v3, .int .i64 x4, .string x5, .slice Au nu cu, .int .i64 x7, .int .i64 x8, v9, .bool x10] (0, 0) _ rfl (zp BK4) Tryd.underlying39 rfl (by kernel_rfl)) rfl ?_
     exact ⟨_, ze, (zx HX).mono (fun _ _ _ _ => trivial), zb HB⟩
end Go.Proofs.YtlpibelofcabhaaDoor.PFnExactEndCall
