-- WRITTEN BY wip/leave/genleave.py (the prover's own program)
import Derived.Test.YtlpibelofcabhaaPFnExactEndLeavex0
import Derived.Test.YtlpibelofcabhaaPFnExactEndLeavex1
import Derived.Test.YtlpibelofcabhaaPFnExactEndLeavex2
import Derived.Test.YtlpibelofcabhaaPFnExactEndLeavex3
import Derived.Test.YtlpibelofcabhaaPFnExactEndLeavex4
import Derived.Test.YtlpibelofcabhaaPFnExactEndLeavex5
import Derived.Test.YtlpibelofcabhaaPFnExactEndLeavex6
import Derived.Test.YtlpibelofcabhaaPFnExactEndLeavex7
import Derived.Test.YtlpibelofcabhaaPFnExactEndLeavex8
import Derived.Test.YtlpibelofcabhaaPFnExactEndLeavex9
import Derived.Test.YtlpibelofcabhaaPFnExactEndLeavex10
import Derived.Test.YtlpibelofcabhaaPFnExactEndLeavex11
import Derived.Test.YtlpibelofcabhaaPFnExactEndLeavex12
namespace Go.Proofs.Ytlpibelofcabhaa.PFnExactEndLeave
open Go.RowKit Go.Proofs.YtlpibelofcabhaaW.PrintWords Go.Proofs.YtlpibelofcabhaaW.PrintLast Go.Proofs.YtlpibelofcabhaaW.PrintMore Go.Proofs.Ytlpibelofcabhaa.Lm
attribute [local go_sem] max2_int min2_int max_two min_two max_three min_three max_four min_four   -- for this text's walks alone
set_option linter.unusedVariables false
set_option linter.unusedSimpArgs false
section
variable {w w' : World} {b b' g n cap : Nat} {v1 v3 v6 v9 u9 : Value} {l1 l3 : List S88} {l6 r6 : List S104} {l9 r9 : List S110} {o1 o3 o6 o9 B B' S : Nat → Prop}
theorem EB.one {P6 : Nat → Prop} (E : EB w b P6 v1 v3 v6 v9 l1 l3 l6 l9) : v1.oneCell' = true ∧ v3.oneCell' = true ∧ v6.oneCell' = true ∧ v9.oneCell' = true :=
  ⟨by obtain ⟨A, c, rfl⟩ := Kd.R_slice E.r1; rfl, by obtain ⟨A, c, rfl⟩ := Kd.R_slice E.r3; rfl, by obtain ⟨A, c, rfl⟩ := Kd.S_slice E.s6; rfl, by obtain ⟨A, c, rfl⟩ := Kd.R_slice E.r9; rfl⟩
/-- The rows of an end, each its own; all their blocks are such. -/
structure EX (w : World) (b : Nat) (B : Nat → Prop) (v1 v3 v6 v9 : Value) (l1 l3 : List S88) (l6 : List S104) (l9 : List S110) : Prop where
  ex : ∃ P : Nat → Prop, EB w b P v1 v3 v6 v9 l1 l3 l6 l9 ∧ ∀ k, EP P v1 v3 v9 k → B k
theorem ty_ne {k s t : Nat} (h1 : ∃ c, w.heap[k]? = some (.cells c s (0, 0))) (h2 : ∃ c, w.heap[k]? = some (.cells c t (0, 0))) (h : s ≠ t) : False := by
  obtain ⟨c, h1⟩ := h1
  obtain ⟨d, h2⟩ := h2
  rw [h1] at h2
  injection h2 with h2
  injection h2 with _ h2
  exact h h2
theorem EB.of (h1 : Kd.R k88 88 w b o1 v1 l1) (a : ∀ k, o1 k → some k ≠ v3.ownBlock) (h3 : Kd.R k88 88 w b o3 v3 l3) (h6 : Kd.S k104 104 w b o6 v6 l6) (c : ∀ k, o6 k → some k ≠ v1.ownBlock ∧ some k ≠ v3.ownBlock) (h9 : Kd.R k110 110 w b o9 v9 l9) :
    EB w b (fun k => o6 k ∧ some k ≠ v9.ownBlock) v1 v3 v6 v9 l1 l3 l6 l9 :=
  ⟨Kd.R_tight rfl h1, Kd.R_tight rfl h3, Kd.S_apart' h6 (Kd.R_typed h9) (by decide), Kd.R_tight rfl h9, fun k h => a k (h1.1 k h.symm), fun k h => (c k h.1).1, fun k h => (c k h.1).2, fun k h e => ty_ne (Kd.R_typed h1 k h.symm) (Kd.R_typed h9 k e.symm) (by decide), fun k h e => ty_ne (Kd.R_typed h3 k h.symm) (Kd.R_typed h9 k e.symm) (by decide), fun k h => h.2⟩
/-- Its blocks lie between base and end of the heap. -/
theorem EX.lt (X : EX w b B v1 v3 v6 v9 l1 l3 l6 l9) : ∃ P : Nat → Prop, EB w b P v1 v3 v6 v9 l1 l3 l6 l9 ∧ ∀ k, EP P v1 v3 v9 k → B k ∧ b ≤ k ∧ k < w.heap.size := by
  obtain ⟨P, E, p⟩ := X.ex
  refine ⟨fun k => P k ∧ b ≤ k ∧ k < w.heap.size, ⟨E.r1, E.r3, Kd.S_mono (Kd.S_bound E.s6) (fun k h => ⟨h.1, h.2.1, h.2.2.1⟩), E.r9, E.a13, fun k h => E.a16 k h.1, fun k h => E.a36 k h.1, E.a19, E.a39, fun k h => E.a69 k h.1⟩, ?_⟩
  rintro k (h | h | h | h)
  · exact ⟨p k (.inl h), Kd.R_base E.r1 k h.symm, Kd.R_lt E.r1 k h.symm⟩
  · exact ⟨p k (.inr (.inl h)), Kd.R_base E.r3 k h.symm, Kd.R_lt E.r3 k h.symm⟩
  · exact ⟨p k (.inr (.inr (.inl h.1))), h.2⟩
  · exact ⟨p k (.inr (.inr (.inr h))), Kd.R_base E.r9 k h.symm, Kd.R_lt E.r9 k h.symm⟩
theorem EX.mono (X : EX w b B v1 v3 v6 v9 l1 l3 l6 l9) (h : ∀ k, B k → b ≤ k → k < w.heap.size → B' k) : EX w b B' v1 v3 v6 v9 l1 l3 l6 l9 := by
  obtain ⟨P, E, p⟩ := X.lt
  exact ⟨P, E, fun k q => h k (p k q).1 (p k q).2.1 (p k q).2.2⟩
theorem EX.of (h1 : Kd.R k88 88 w b o1 v1 l1) (a : ∀ k, o1 k → some k ≠ v3.ownBlock) (h3 : Kd.R k88 88 w b o3 v3 l3) (h6 : Kd.S k104 104 w b o6 v6 l6) (c : ∀ k, o6 k → some k ≠ v1.ownBlock ∧ some k ≠ v3.ownBlock) (h9 : Kd.R k110 110 w b o9 v9 l9) : EX w b (fun k => b ≤ k ∧ k < w.heap.size) v1 v3 v6 v9 l1 l3 l6 l9 :=
  EX.mono (B := fun _ => True) ⟨_, EB.of h1 a h3 h6 c h9, fun _ _ => trivial⟩ (fun k _ h h2 => ⟨h, h2⟩)
theorem EX.below (X : EX w b B v1 v3 v6 v9 l1 l3 l6 l9) (hb : Below w.heap.size w w') : EX w' b B v1 v3 v6 v9 l1 l3 l6 l9 := by
  obtain ⟨P, E, p⟩ := X.ex
  exact ⟨P, E.below hb, p⟩
theorem EX.far (X : EX w b B v1 v3 v6 v9 l1 l3 l6 l9) (hk : Kept w w' S) (hS : ∀ k, S k → ¬ B k) : EX w' b B v1 v3 v6 v9 l1 l3 l6 l9 := by
  obtain ⟨P, E, p⟩ := X.ex
  exact ⟨P, E.kept hk (fun k h h2 => hS k h (p k h2)), p⟩
theorem EX.keep (X : EX w b B v1 v3 v6 v9 l1 l3 l6 l9) (hk : KeepBut w w' g none) (hg : ¬ B g) : EX w' b B v1 v3 v6 v9 l1 l3 l6 l9 :=
  X.far (S := fun k => k = g) ⟨hk.1, fun i hi hn => hk.2 i hi hn (by simp)⟩ (fun k h => by rw [h]; exact hg)
theorem EX.setb (X : EX w b B v1 v3 v6 v9 l1 l3 l6 l9) (hg : ¬ B g) (j : Nat) (u : Value) : EX (w.setCell ⟨g, j, none⟩ u) b B v1 v3 v6 v9 l1 l3 l6 l9 := X.keep ((KeepBut.refl w g none).set_ j u) hg
theorem EB.low {P : Nat → Prop} (E : EB w b P v1 v3 v6 v9 l1 l3 l6 l9) (h : b' ≤ b) : EB w b' P v1 v3 v6 v9 l1 l3 l6 l9 := ⟨Kd.R_lower E.r1 h, Kd.R_lower E.r3 h, Kd.S_lower E.s6 h, Kd.R_lower E.r9 h, E.a13, E.a16, E.a36, E.a19, E.a39, E.a69⟩
theorem EX.low (X : EX w b B v1 v3 v6 v9 l1 l3 l6 l9) (h : b' ≤ b) : EX w b' B v1 v3 v6 v9 l1 l3 l6 l9 := by
  obtain ⟨P, E, p⟩ := X.ex
  exact ⟨P, E.low h, p⟩
theorem zx (h0 : Aside0 (EX w b B v1 v3 v6 v9 l1 l3 l6 l9)) (m : Mov w w' := by (with_reducible repeat (first | exact Mov.refl _ | apply Mov.alloc | apply Mov.drewN | apply Mov.drew))) : EX w' b B v1 v3 v6 v9 l1 l3 l6 l9 := by
  induction m with
  | refl => exact h0.out
  | alloc _ o ih => exact ih.below (below_alloc (Below.refl _ _) o)
  | drew _ ih => exact ih.below (below_drew (Below.refl _ _))
  | drewN _ n ih => exact ih.below (pw_below_drewN (Below.refl _ _) n)
theorem ms (m : Mov w w' := by (with_reducible repeat (first | exact Mov.refl _ | apply Mov.alloc | apply Mov.drewN | apply Mov.drew))) : w.heap.size ≤ w'.heap.size := by
  induction m with
  | refl => exact Nat.le_refl _
  | alloc _ o ih => exact Nat.le_trans ih (below_alloc (Below.refl _ _) o).size
  | drew _ ih => exact ih
  | drewN _ n ih => exact ih
theorem EX.ones (X : EX w b B v1 v3 v6 v9 l1 l3 l6 l9) : v1.oneCell' = true ∧ v3.oneCell' = true ∧ v6.oneCell' = true ∧ v9.oneCell' = true := by
  obtain ⟨P, E, _⟩ := X.ex
  exact E.one
/-- What is read of a row: a slice, as long as it is. -/
theorem EX.reads (X : EX w b B v1 v3 v6 v9 l1 l3 l6 l9) : (∃ A c, v1 = .slice A l1.length c ∧ Kd.C k88 w A l1.length l1 ∧ l1.length ≤ c) ∧ (∃ A c, v3 = .slice A l3.length c ∧ Kd.C k88 w A l3.length l3 ∧ l3.length ≤ c) ∧ (∃ A c, v6 = .slice A l6.length c ∧ Kd.C k104 w A l6.length l6 ∧ l6.length ≤ c) ∧ (∃ A c, v9 = .slice A l9.length c ∧ Kd.C k110 w A l9.length l9 ∧ l9.length ≤ c) := by
  obtain ⟨P, E, _⟩ := X.ex
  obtain ⟨e1, e3, e6, e9⟩ := And.intro E.r1 (And.intro E.r3 (And.intro E.s6 E.r9))
  obtain ⟨A1, c1, rfl⟩ := Kd.R_slice e1
  obtain ⟨A3, c3, rfl⟩ := Kd.R_slice e3
  obtain ⟨A6, c6, rfl⟩ := Kd.S_slice e6
  obtain ⟨A9, c9, rfl⟩ := Kd.R_slice e9
  exact ⟨⟨_, _, rfl, (Kd.R_reads' e1).2.2, (Kd.R_reads' e1).2.1⟩, ⟨_, _, rfl, (Kd.R_reads' e3).2.2, (Kd.R_reads' e3).2.1⟩, ⟨_, _, rfl, (Kd.S_reads' e6).2.2, (Kd.S_reads' e6).2.1⟩, ⟨_, _, rfl, (Kd.R_reads' e9).2.2, (Kd.R_reads' e9).2.1⟩⟩
/-- A stream that is given up. -/
def gone (x : S104) : S104 := ⟨x.f0, 3, x.f2, x.f3, x.f4, x.f5, x.f6, x.f7, x.f8, x.f9, x.f10⟩
/-- The state of a stream in a row of its own, stored. -/
theorem S_put1 {P : Nat → Prop} (hS : Kd.S k104 104 w b P v6 l6) {i : Int} (i0 : 0 ≤ i) (i1 : i < l6.length) :
    ∃ g cap, v6 = .slice (some ⟨g, 0, none⟩) l6.length cap ∧ P g ∧ b ≤ g ∧ w.cell? ⟨g, i.toNat * 12 + 1, none⟩ = some (.int .i64 (rd_T104 l6 i).f1) ∧ w.cell? ⟨g, i.toNat * 12 + 4, none⟩ = some (.bool (rd_T104 l6 i).f4) ∧ w.frozen? ⟨g, i.toNat * 12 + 1, none⟩ = false ∧
      Kd.S k104 104 (w.setCell ⟨g, i.toNat * 12 + 1, none⟩ (.int .i64 3)) b P v6 (l6.set i.toNat (gone (rd_T104 l6 i))) := by
  obtain ⟨g, cap, rfl, gb, gl, hh⟩ := Kd.S_form hS (by omega)
  obtain ⟨oki, c, hcl, hM, hcc, hfr, hoki, hH⟩ := Kd.S_elem hS z104 i i0 i1
  have hp := hM.2
  obtain ⟨v2, v7, rfl, h2, h7⟩ := k104_openM hM
  have h1 := Kd.H_seg hH i0 i1 (seg := [.int .i64 3]) (j := 1) (by show 1 + 1 ≤ 12; omega) (by intro q hq; rw [List.mem_singleton.1 hq]; rfl)
  refine ⟨g, cap, rfl, (Kd.S_R hS).1 g (by simp [Value.ownBlock]), gb, hcc 1 _ rfl, hcc 4 _ rfl, hfr 1, ?_⟩
  exact Kd.H_back (okp := oki) h1.1 (k104_mkM _ _ _ (gone (rd_T104 l6 i)) (Kd.R_step h2 (fun k hk _ => Below.heap_setCell w ⟨g, i.toNat * 12 + 1, none⟩ (.int .i64 3) k (hoki k hk).2)) (Kd.R_step h7 (fun k hk _ => Below.heap_setCell w ⟨g, i.toNat * 12 + 1, none⟩ (.int .i64 3) k (hoki k hk).2)) (fun k h h' => hp v2 v7 rfl rfl k h h')) (fun k h => h)
theorem EX.put1 (X : EX w b B v1 v3 v6 v9 l1 l3 l6 l9) {i : Int} (i0 : 0 ≤ i) (i1 : i < l6.length) :
    ∃ g cap, v6 = .slice (some ⟨g, 0, none⟩) l6.length cap ∧ B g ∧ b ≤ g ∧ w.cell? ⟨g, i.toNat * 12 + 1, none⟩ = some (.int .i64 (rd_T104 l6 i).f1) ∧ w.cell? ⟨g, i.toNat * 12 + 4, none⟩ = some (.bool (rd_T104 l6 i).f4) ∧ w.frozen? ⟨g, i.toNat * 12 + 1, none⟩ = false ∧
      EX (w.setCell ⟨g, i.toNat * 12 + 1, none⟩ (.int .i64 3)) b B v1 v3 v6 v9 l1 l3 (l6.set i.toNat (gone (rd_T104 l6 i))) l9 := by
  obtain ⟨P, E, p⟩ := X.ex
  obtain ⟨g, cap, e, pg, gb, c1, c4, f1, S⟩ := S_put1 E.s6 i0 i1
  refine ⟨g, cap, e, p g (.inr (.inr (.inl pg))), gb, c1, c4, f1, P, ⟨?_, ?_, S, ?_, E.a13, E.a16, E.a36, E.a19, E.a39, E.a69⟩, p⟩
  · exact Kd.R_step E.r1 (fun k h _ => Below.heap_setCell w ⟨g, i.toNat * 12 + 1, none⟩ (.int .i64 3) k (fun e => by have e2 : k = g := e; subst e2; exact E.a16 _ pg h))
  · exact Kd.R_step E.r3 (fun k h _ => Below.heap_setCell w ⟨g, i.toNat * 12 + 1, none⟩ (.int .i64 3) k (fun e => by have e2 : k = g := e; subst e2; exact E.a36 _ pg h))
  · exact Kd.R_step E.r9 (fun k h _ => Below.heap_setCell w ⟨g, i.toNat * 12 + 1, none⟩ (.int .i64 3) k (fun e => by have e2 : k = g := e; subst e2; exact E.a69 _ pg h))
theorem EX.form6 (X : EX w b B v1 v3 v6 v9 l1 l3 l6 l9) {i : Int} (i0 : 0 ≤ i) (i1 : i < l6.length) : ∃ g cap, v6 = .slice (some ⟨g, 0, none⟩) l6.length cap := by
  obtain ⟨g, cap, e, _⟩ := X.put1 i0 i1
  exact ⟨g, cap, e⟩
theorem EX.at6 (X : EX w b B v1 v3 (.slice (some ⟨g, 0, none⟩) n cap) v9 l1 l3 l6 l9) {i : Int} (i0 : 0 ≤ i) (i1 : i < l6.length) :
    B g ∧ b ≤ g ∧ w.cell? ⟨g, i.toNat * 12 + 1, none⟩ = some (.int .i64 (rd_T104 l6 i).f1) ∧ w.cell? ⟨g, i.toNat * 12 + 4, none⟩ = some (.bool (rd_T104 l6 i).f4) ∧ w.frozen? ⟨g, i.toNat * 12 + 1, none⟩ = false ∧
      EX (w.setCell ⟨g, i.toNat * 12 + 1, none⟩ (.int .i64 3)) b B v1 v3 (.slice (some ⟨g, 0, none⟩) n cap) v9 l1 l3 (l6.set i.toNat (gone (rd_T104 l6 i))) l9 := by
  obtain ⟨g', cap', e, h⟩ := X.put1 i0 i1
  injection e with e1 e2 e3
  injection e1 with e1
  injection e1 with e1 _ _
  subst e1
  exact h
theorem EX.reads6 {A : Option Addr} (X : EX w b B v1 v3 (.slice A n cap) v9 l1 l3 l6 l9) : Kd.C k104 w A l6.length l6 := by
  obtain ⟨P, E, p⟩ := X.ex
  exact (Kd.S_reads' E.s6).2.2
theorem EX.at4 (X : EX w b B v1 v3 (.slice (some ⟨g, 0, none⟩) n cap) v9 l1 l3 l6 l9) {i : Int} (i0 : 0 ≤ i) (i1 : i < l6.length) : (w.setCell ⟨g, i.toNat * 12 + 1, none⟩ (.int .i64 3)).cell? ⟨g, i.toNat * 12 + 4, none⟩ = some (.bool (rd_T104 l6 i).f4) := by
  obtain ⟨_, _, _, h, _⟩ := X.at6 i0 i1
  have hs := (X.at6 i0 i1).2.2.2.2.2
  obtain ⟨P, E, p⟩ := hs.ex
  obtain ⟨g', cap', e, _, _, _, h4, _⟩ := S_put1 E.s6 i0 (by rw [List.length_set]; exact i1)
  injection e with e1 e2 e3
  injection e1 with e1
  injection e1 with e1 _ _
  subst e1
  rw [h4]
  have hj : i.toNat < l6.length := by omega
  simp only [rd_T104, List.getD_eq_getElem?_getD, List.getElem?_set_self hj, Option.getD_some, gone]
theorem EX.rw9 (X : EX w b B v1 v3 v6 v9 l1 l3 l6 l9) : Kd.R k110 110 w b (fun k => some k = v9.ownBlock) v9 l9 := by
  obtain ⟨P, E, p⟩ := X.ex
  exact E.r9
theorem EX.ne9 (X : EX w b B v1 v3 v6 v9 l1 l3 l6 l9) (h : ¬ B g) : some g ≠ v9.ownBlock := by
  obtain ⟨P, E, p⟩ := X.ex
  exact fun e => h (p g (.inr (.inr (.inr e))))
/-- A frame more that waits. -/
theorem EX.app9 (X : EX w b B v1 v3 v6 v9 l1 l3 l6 l9) (hr : Kd.R k110 110 w' b (fun k => some k = v9.ownBlock ∨ w.heap.size ≤ k) u9 r9) (hg : w.grownBy w' v9.ownBlock) : EX w' b (fun k => B k ∨ w.heap.size ≤ k) v1 v3 v6 u9 l1 l3 l6 r9 := by
  obtain ⟨P, E, p⟩ := X.lt
  have hu : ∀ k, some k = u9.ownBlock → some k = v9.ownBlock ∨ w.heap.size ≤ k := fun k h => hr.1 k h.symm
  refine ⟨P, ⟨?_, ?_, ?_, Kd.R_tight rfl hr, E.a13, E.a16, E.a36, ?_, ?_, ?_⟩, ?_⟩
  · exact Kd.R_step E.r1 (fun k h hl => hg.block k hl (fun e => E.a19 k h e))
  · exact Kd.R_step E.r3 (fun k h hl => hg.block k hl (fun e => E.a39 k h e))
  · exact S_step1 E.s6 (fun k h hl => hg.block k hl (fun e => E.a69 k h e))
  · intro k h h2
    rcases hu k h2 with h3 | h3
    · exact E.a19 k h h3
    · have := Kd.R_lt E.r1 k h.symm; omega
  · intro k h h2
    rcases hu k h2 with h3 | h3
    · exact E.a39 k h h3
    · have := Kd.R_lt E.r3 k h.symm; omega
  · intro k h h2
    rcases hu k h2 with h3 | h3
    · exact E.a69 k h h3
    · have := p k (.inr (.inr (.inl h))); omega
  · rintro k (h | h | h | h)
    · exact .inl (p k (.inl h)).1
    · exact .inl (p k (.inr (.inl h))).1
    · exact .inl (p k (.inr (.inr (.inl h)))).1
    · rcases hu k h with h3 | h3
      · exact .inl (p k (.inr (.inr (.inr h3)))).1
      · exact .inr h3
theorem EX.nil (w : World) (b : Nat) (B : Nat → Prop) : EX w b B (.slice none 0 0) (.slice none 0 0) (.slice none 0 0) (.slice none 0 0) [] [] [] [] := by
  refine ⟨fun _ => False, ⟨Kd.R_nil _ _ _ _ _, Kd.R_nil _ _ _ _ _, ⟨fun _ => 0, Kd.R_nil _ _ _ _ _⟩, Kd.R_nil _ _ _ _ _, ?_, ?_, ?_, ?_, ?_, ?_⟩, ?_⟩
  all_goals simp [EP, Value.ownBlock]
theorem blk_far1 {o : Obj} {g' j : Nat} (u : Value) (h : w.heap[g]? = some o) (hne : g ≠ g') : (w.setCell ⟨g', j, none⟩ u).heap[g]? = some o := (Below.heap_setCell w ⟨g', j, none⟩ u g hne).trans h
theorem blk_far2 {o : Obj} {g' j : Nat} {u : Value} (hw : w' = w.setCell ⟨g', j, none⟩ u) (h : w.heap[g]? = some o) (hne : g ≠ g') : w'.heap[g]? = some o := by
  subst hw
  exact blk_far1 u h hne
theorem blk_put2 {t i : Nat} {cs cs' : Array Value} {u : Value} (hw : w' = w.setCell ⟨g, i, none⟩ u) (h : w.heap[g]? = some (.cells cs t (0, 0))) (e : cs.setIfInBounds i u = cs') : w'.heap[g]? = some (.cells cs' t (0, 0)) := by
  subst hw
  exact blk_put h i u e
theorem EX.at_ {W : World} (X : EX W b B v1 v3 v6 v9 l1 l3 l6 l9) (hw : w' = W) : EX w' b B v1 v3 v6 v9 l1 l3 l6 l9 := hw ▸ X
end
section
variable {P : Program} {ops : Array Oper} {rest : List Oper} {o : Oper} {a : Act} {Q : Exit → Act → World → Prop} {W W0 : World} {g T : Nat} {c0 c1 : Array Value}
theorem chg_heap (h0 : Aside0 (W0.heap[g]? = some (.cells c0 T (0, 0)))) (m : Chg g W0 c0 W c1) : W.heap[g]? = some (.cells c1 T (0, 0)) := zp h0 m rfl
/-- A record out of a block, as one. -/
theorem ld {ty : TypeId} {x : Operand} {d : TypeDesc} (h0 : Aside0 (W0.heap[g]? = some (.cells c0 T (0, 0)))) (j : Nat) (cs : List Value) (hu : P.underlying ty = some d) (h : wpList P ops Q rest (a.put o.dst (.agg cs.toArray)) W)
    (m : Chg g W0 c0 W c1 := by repeat (first | (with_reducible first | exact Chg.refl | apply Chg.alloc | apply Chg.drewN | apply Chg.drew | apply Chg.put) | ((with_reducible apply Chg.far); (case hp => exact Aside0.out (by assumption)))))
    (he : (c1.extract j (j + cs.length)).toList = cs := by kernel_rfl) (hg : o.guard = none := by rfl) (ho : o.op = .load ty x := by rfl) (hx : a.eval x = .pointer (some ⟨g, j, none⟩) := by rfl) (hd : d.isRow = true := by rfl) (hi : (P.info? ty).map (·.size) = some cs.length := by kernel_rfl) : wpList P ops Q (o :: rest) a W :=
  wpList_load_mid hg ty x ho g j hx cs d (by have h1 := World.rangeAt_of_block (chg_heap h0 m) j cs.length; rwa [he] at h1) hu hd hi h
def putAll : Array Value → Nat → List Value → Array Value
  | c, _, [] => c
  | c, j, v :: r => putAll (c.setIfInBounds j v) (j + 1) r
theorem setCells_heap (vs : List Value) : ∀ (j : Nat) (W : World) (c : Array Value), W.heap[g]? = some (.cells c T (0, 0)) → (W.setCells g j vs).heap[g]? = some (.cells (putAll c j vs) T (0, 0)) := by
  induction vs with
  | nil => intro j W c h; exact h
  | cons v r ih => intro j W c h; exact ih (j + 1) _ _ (blk_put h j v rfl)
theorem setCells_keep (vs : List Value) : ∀ (j : Nat) (V W : World), KeepBut V W g none → KeepBut V (W.setCells g j vs) g none := by
  induction vs with
  | nil => intro j V W h; exact h
  | cons v r ih => intro j V W h; exact ih (j + 1) V _ (KeepBut.set_ h j v)
theorem setCells_low (vs : List Value) : ∀ (j n : Nat) (V W : World), Below n V W → n ≤ g → Below n V (W.setCells g j vs) := by
  induction vs with
  | nil => intro j n V W h _; exact h
  | cons v r ih => intro j n V W h hn; exact ih (j + 1) n V _ (Below.setCell h hn v) hn
/-- A record into a block, as one. -/
theorem sd {ty : TypeId} {x y : Operand} (h0 : Aside0 (W0.heap[g]? = some (.cells c0 T (0, 0)))) (j : Nat) (vs : List Value) (cs1 : Array Value)
    (h : ∀ w', Aside0 (w'.heap[g]? = some (.cells cs1 T (0, 0))) → KeepBut W w' g none → (∀ n V, Below n V W → n ≤ g → Below n V w') → wpList P ops Q rest a w') (h1 : ∀ v ∈ vs, v.oneCell' = true)
    (m : Chg g W0 c0 W c1 := by repeat (first | (with_reducible first | exact Chg.refl | apply Chg.alloc | apply Chg.drewN | apply Chg.drew | apply Chg.put) | ((with_reducible apply Chg.far); (case hp => exact Aside0.out (by assumption)))))
    (he : putAll c1 j vs = cs1 := by kernel_rfl) (hl : decide (j + vs.length ≤ c1.size) = true := by kernel_rfl) (hg : o.guard = none := by rfl) (hn : o.dst = none := by rfl) (ho : o.op = .store ty x y := by rfl) (hx : a.eval x = .pointer (some ⟨g, j, none⟩) := by rfl) (hy : a.eval y = .agg vs.toArray := by rfl) (hi : (P.info? ty).map (·.size) = some vs.toArray.size := by kernel_rfl) : wpList P ops Q (o :: rest) a W := by
  have hb := chg_heap h0 m
  have hl' := of_decide_eq_true hl
  refine wpList_store_mid hg ty x y ho g j vs.toArray hx hy (fun i hi => ?_) hi (all_oneCell_toArray h1) ?_
  · rw [List.size_toArray] at hi
    refine ⟨?_, blk_frozen hb _⟩
    rw [blk_cell hb, Array.getElem?_eq_getElem (by omega)]
    rfl
  · rw [hn]
    show wpList P ops Q rest a (W.setCells g j vs)
    exact h _ ⟨by rw [← he]; exact setCells_heap vs j W c1 hb⟩ (setCells_keep vs j W W (KeepBut.refl W g none)) (fun n V hV hn => setCells_low vs j n V W hV hn)
theorem cz {cs : Array Value} {v : Value} (h : Aside0 (W.heap[g]? = some (.cells cs T (0, 0)))) (j : Nat) (e : cs[j]? = some v) : W.cell? ⟨g, j, none⟩ = some v := (blk_cell h.out j).trans e
end
theorem spec_EndOk.callsX (k : Nat) {b : Nat} {B : Nat → Prop} {v1 v3 v6 v9 : Value} {x0 : Bool} {x1 : List S88} {x2 : Int} {x3 : List S88} {x4 : Int} {x5 : ByteArray} {x6 : List S104} {x7 : Int} {x8 : Int} {x9 : List S110} {x10 : Bool} (r : Bool) (w : World) (X : EX w b B v1 v3 v6 v9 x1 x3 x6 x9) (h : spec_EndOk.f k x0 x1 x2 x3 x4 x5 x6 x7 x8 x9 x10 = some r) : Calls Try.prog 36 #[.agg #[.bool x0, v1, .int .i64 x2, v3, .int .i64 x4, .string x5, v6, .int .i64 x7, .int .i64 x8, v9, .bool x10]] w fun e w' => e = .returned (.bool r) ∧ Below w.heap.size w w' := by
  obtain ⟨⟨A1, c1, rfl, r1, d1⟩, ⟨A3, c3, rfl, r3, d3⟩, ⟨A6, c6, rfl, r6, d6⟩, ⟨A9, c9, rfl, r9, d9⟩⟩ := X.reads
  exact spec_EndOk.calls k x0 _ _ x1 x2 _ _ x3 x4 x5 _ _ x6 x7 x8 _ _ x9 x10 r w r1 d1 r3 d3 r6 d6 r9 d9 h
theorem impl_EndOk.callsX (k : Nat) {b : Nat} {B : Nat → Prop} {v1 v3 v6 v9 : Value} {x0 : Bool} {x1 : List S88} {x2 : Int} {x3 : List S88} {x4 : Int} {x5 : ByteArray} {x6 : List S104} {x7 : Int} {x8 : Int} {x9 : List S110} {x10 : Bool} (r : Bool) (w : World) (X : EX w b B v1 v3 v6 v9 x1 x3 x6 x9) (h : impl_EndOk.f k x0 x1 x2 x3 x4 x5 x6 x7 x8 x9 x10 = some r) : Calls Try.prog 33 #[.agg #[.bool x0, v1, .int .i64 x2, v3, .int .i64 x4, .string x5, v6, .int .i64 x7, .int .i64 x8, v9, .bool x10]] w fun e w' => e = .returned (.bool r) ∧ Below w.heap.size w w' := by
  obtain ⟨⟨A1, c1, rfl, r1, d1⟩, ⟨A3, c3, rfl, r3, d3⟩, ⟨A6, c6, rfl, r6, d6⟩, ⟨A9, c9, rfl, r9, d9⟩⟩ := X.reads
  exact impl_EndOk.calls k x0 _ _ x1 x2 _ _ x3 x4 x5 _ _ x6 x7 x8 _ _ x9 x10 r w r1 d1 r3 d3 r6 d6 r9 d9 h
theorem spec_l21At.callsX (k : Nat) {b : Nat} {B : Nat → Prop} {v1 v3 v6 v9 : Value} {x0 : Bool} {x1 : List S88} {x2 : Int} {x3 : List S88} {x4 : Int} {x5 : ByteArray} {x6 : List S104} {x7 : Int} {x8 : Int} {x9 : List S110} {x10 : Bool} (a1 : Int) (r : Int) (w : World) (X : EX w b B v1 v3 v6 v9 x1 x3 x6 x9) (h : spec_l21At.f k x0 x1 x2 x3 x4 x5 x6 x7 x8 x9 x10 a1 = some r) : Calls Try.prog 137 #[.agg #[.bool x0, v1, .int .i64 x2, v3, .int .i64 x4, .string x5, v6, .int .i64 x7, .int .i64 x8, v9, .bool x10], .int .i64 a1] w fun e w' => e = .returned (.int .i64 r) ∧ Below w.heap.size w w' := by
  obtain ⟨⟨A1, c1, rfl, r1, d1⟩, ⟨A3, c3, rfl, r3, d3⟩, ⟨A6, c6, rfl, r6, d6⟩, ⟨A9, c9, rfl, r9, d9⟩⟩ := X.reads
  exact spec_l21At.calls k x0 _ _ x1 x2 _ _ x3 x4 x5 _ _ x6 x7 x8 _ _ x9 x10 a1 r w r1 d1 r3 d3 r6 d6 r9 d9 h
theorem laws_heldEnd.callsX (k : Nat) {b : Nat} {B : Nat → Prop} {v1 v3 v6 v9 : Value} {x0 : Bool} {x1 : List S88} {x2 : Int} {x3 : List S88} {x4 : Int} {x5 : ByteArray} {x6 : List S104} {x7 : Int} {x8 : Int} {x9 : List S110} {x10 : Bool} (a1 : Int) (r : Int) (w : World) (X : EX w b B v1 v3 v6 v9 x1 x3 x6 x9) (h : laws_heldEnd.f k x0 x1 x2 x3 x4 x5 x6 x7 x8 x9 x10 a1 = some r) : Calls Try.prog 24 #[.agg #[.bool x0, v1, .int .i64 x2, v3, .int .i64 x4, .string x5, v6, .int .i64 x7, .int .i64 x8, v9, .bool x10], .int .i64 a1] w fun e w' => e = .returned (.int .i64 r) ∧ Below w.heap.size w w' := by
  obtain ⟨⟨A1, c1, rfl, r1, d1⟩, ⟨A3, c3, rfl, r3, d3⟩, ⟨A6, c6, rfl, r6, d6⟩, ⟨A9, c9, rfl, r9, d9⟩⟩ := X.reads
  exact laws_heldEnd.calls k x0 _ _ x1 x2 _ _ x3 x4 x5 _ _ x6 x7 x8 _ _ x9 x10 a1 r w r1 d1 r3 d3 r6 d6 r9 d9 h
theorem spec_l21Copy.callsX (k : Nat) {b : Nat} {B : Nat → Prop} {v1 v3 v6 v9 : Value} {x0 : Bool} {x1 : List S88} {x2 : Int} {x3 : List S88} {x4 : Int} {x5 : ByteArray} {x6 : List S104} {x7 : Int} {x8 : Int} {x9 : List S110} {x10 : Bool} (y0 : Bool) (y1 : List S88) (y2 : Int) (y3 : List S88) (y4 : Int) (y5 : ByteArray) (y6 : List S104) (y7 : Int) (y8 : Int) (y9 : List S110) (y10 : Bool) (w : World) (X : EX w b B v1 v3 v6 v9 x1 x3 x6 x9) (h : spec_l21Copy.f k x0 x1 x2 x3 x4 x5 x6 x7 x8 x9 x10 = some (y0, y1, y2, y3, y4, y5, y6, y7, y8, y9, y10)) : Calls Try.prog 104 #[.agg #[.bool x0, v1, .int .i64 x2, v3, .int .i64 x4, .string x5, v6, .int .i64 x7, .int .i64 x8, v9, .bool x10]] w fun e w' => ∃ u1 u3 u6 u9 : Value, e = .returned (.agg #[.bool y0, u1, .int .i64 y2, u3, .int .i64 y4, .string y5, u6, .int .i64 y7, .int .i64 y8, u9, .bool y10]) ∧ EX w' w.heap.size (fun _ => True) u1 u3 u6 u9 y1 y3 y6 y9 ∧ Below w.heap.size w w' := by
  obtain ⟨⟨A1, c1, rfl, r1, d1⟩, ⟨A3, c3, rfl, r3, d3⟩, ⟨A6, c6, rfl, r6, d6⟩, ⟨A9, c9, rfl, r9, d9⟩⟩ := X.reads
  refine (spec_l21Copy.calls k x0 _ _ x1 x2 _ _ x3 x4 x5 _ _ x6 x7 x8 _ _ x9 x10 y0 y1 y2 y3 y4 y5 y6 y7 y8 y9 y10 w r1 d1 r3 d3 r6 d6 r9 d9 h).mono ?_
  rintro e w' ⟨u1, u3, u6, u9, rfl, h1, h3, h6, h9, hb⟩
  exact ⟨u1, u3, u6, u9, rfl, (EX.of h1 (fun k h => h) h3 h6 (fun k h => h) h9).mono (fun _ _ _ _ => trivial), hb⟩
theorem impl_End_clone.callsX (k : Nat) {b : Nat} {B : Nat → Prop} {v1 v3 v6 v9 : Value} {x0 : Bool} {x1 : List S88} {x2 : Int} {x3 : List S88} {x4 : Int} {x5 : ByteArray} {x6 : List S104} {x7 : Int} {x8 : Int} {x9 : List S110} {x10 : Bool} (y0 : Bool) (y1 : List S88) (y2 : Int) (y3 : List S88) (y4 : Int) (y5 : ByteArray) (y6 : List S104) (y7 : Int) (y8 : Int) (y9 : List S110) (y10 : Bool) (w : World) (X : EX w b B v1 v3 v6 v9 x1 x3 x6 x9) (h : impl_End_clone.f k x0 x1 x2 x3 x4 x5 x6 x7 x8 x9 x10 = some (y0, y1, y2, y3, y4, y5, y6, y7, y8, y9, y10)) : Calls Try.prog 77 #[.agg #[.bool x0, v1, .int .i64 x2, v3, .int .i64 x4, .string x5, v6, .int .i64 x7, .int .i64 x8, v9, .bool x10]] w fun e w' => ∃ u1 u3 u6 u9 : Value, e = .returned (.agg #[.bool y0, u1, .int .i64 y2, u3, .int .i64 y4, .string y5, u6, .int .i64 y7, .int .i64 y8, u9, .bool y10]) ∧ EX w' w.heap.size (fun _ => True) u1 u3 u6 u9 y1 y3 y6 y9 ∧ Below w.heap.size w w' := by
  obtain ⟨⟨A1, c1, rfl, r1, d1⟩, ⟨A3, c3, rfl, r3, d3⟩, ⟨A6, c6, rfl, r6, d6⟩, ⟨A9, c9, rfl, r9, d9⟩⟩ := X.reads
  refine (impl_End_clone.calls k x0 _ _ x1 x2 _ _ x3 x4 x5 _ _ x6 x7 x8 _ _ x9 x10 y0 y1 y2 y3 y4 y5 y6 y7 y8 y9 y10 w r1 d1 r3 d3 r6 d6 r9 d9 h).mono ?_
  rintro e w' ⟨u1, u3, u6, u9, rfl, h1, h3, h6, h9, hb⟩
  exact ⟨u1, u3, u6, u9, rfl, (EX.of h1 (fun k h => h) h3 h6 (fun k h => h) h9).mono (fun _ _ _ _ => trivial), hb⟩
theorem laws_eqEnd.callsX (k : Nat) {b b' : Nat} {B B' : Nat → Prop} {v1 v3 v6 v9 : Value} {x0 : Bool} {x1 : List S88} {x2 : Int} {x3 : List S88} {x4 : Int} {x5 : ByteArray} {x6 : List S104} {x7 : Int} {x8 : Int} {x9 : List S110} {x10 : Bool} {u1 u3 u6 u9 : Value} {y0 : Bool} {y1 : List S88} {y2 : Int} {y3 : List S88} {y4 : Int} {y5 : ByteArray} {y6 : List S104} {y7 : Int} {y8 : Int} {y9 : List S110} {y10 : Bool} (r : Bool) (w : World) (X : EX w b B v1 v3 v6 v9 x1 x3 x6 x9) (Y : EX w b' B' u1 u3 u6 u9 y1 y3 y6 y9) (h : laws_eqEnd.f k x0 x1 x2 x3 x4 x5 x6 x7 x8 x9 x10 y0 y1 y2 y3 y4 y5 y6 y7 y8 y9 y10 = some r) : Calls Try.prog 22 #[.agg #[.bool x0, v1, .int .i64 x2, v3, .int .i64 x4, .string x5, v6, .int .i64 x7, .int .i64 x8, v9, .bool x10], .agg #[.bool y0, u1, .int .i64 y2, u3, .int .i64 y4, .string y5, u6, .int .i64 y7, .int .i64 y8, u9, .bool y10]] w fun e w' => e = .returned (.bool r) ∧ Below w.heap.size w w' := by
  obtain ⟨⟨A1, c1, rfl, r1, d1⟩, ⟨A3, c3, rfl, r3, d3⟩, ⟨A6, c6, rfl, r6, d6⟩, ⟨A9, c9, rfl, r9, d9⟩⟩ := X.reads
  obtain ⟨⟨B1, e1, rfl, s1, f1⟩, ⟨B3, e3, rfl, s3, f3⟩, ⟨B6, e6, rfl, s6, f6⟩, ⟨B9, e9, rfl, s9, f9⟩⟩ := Y.reads
  exact laws_eqEnd.calls k x0 _ _ x1 x2 _ _ x3 x4 x5 _ _ x6 x7 x8 _ _ x9 x10 y0 _ _ y1 y2 _ _ y3 y4 y5 _ _ y6 y7 y8 _ _ y9 y10 r w r1 d1 r3 d3 r6 d6 r9 d9 s1 f1 s3 f3 s6 f6 s9 f9 h
theorem laws_markEnd.callsX (k : Nat) {B : Nat → Prop} {v1 v3 v6 v9 : Value} {x0 : Bool} {x1 : List S88} {x2 : Int} {x3 : List S88} {x4 : Int} {x5 : ByteArray} {x6 : List S104} {x7 : Int} {x8 : Int} {x9 : List S110} {x10 : Bool} (a1 r : Int) (r1 r3 : List S88) (r6 : List S104) (r9 : List S110) (w0 w : World) (hB : Below w0.heap.size w0 w) (X : EX w w0.heap.size B v1 v3 v6 v9 x1 x3 x6 x9) (h : laws_markEnd.f k x1 x2 x3 x4 x6 x9 a1 = some (r, r1, r3, r6, r9)) :
    Calls Try.prog 23 #[.agg #[.bool x0, v1, .int .i64 x2, v3, .int .i64 x4, .string x5, v6, .int .i64 x7, .int .i64 x8, v9, .bool x10], .int .i64 a1] w fun e w' => e = .returned (.int .i64 r) ∧ EX w' w0.heap.size (fun k => B k ∨ w.heap.size ≤ k) v1 v3 v6 v9 r1 r3 r6 r9 ∧ Below w0.heap.size w0 w' ∧ Kept w w' B := by
  obtain ⟨P, E, p⟩ := X.lt
  refine (laws_markEnd.calls k x0 v1 x1 x2 v3 x3 x4 x5 P v6 x6 x7 x8 v9 x9 x10 a1 r r1 r3 r6 r9 w0 w hB E (fun k h => (p k (.inr (.inr (.inl h)))).2.2) h).mono ?_
  rintro e w' ⟨rfl, E', hb, hk⟩
  refine ⟨rfl, ⟨_, E', ?_⟩, hb, hk.mono (fun k h => (p k h).1)⟩
  rintro k (h | h | h | h)
  · exact .inl (p k (.inl h)).1
  · exact .inl (p k (.inr (.inl h))).1
  · exact h.elim (fun h => .inl (p k (.inr (.inr (.inl h)))).1) .inr
  · exact .inl (p k (.inr (.inr (.inr h)))).1
/-- Where a stream lies in a row of them; nowhere. -/
def StreamAt (A : Option Addr) (n : Nat) (r : Int) (p : Value) : Prop := (r < 0 → p = .pointer none) ∧ (0 ≤ r → r < (n : Int) ∧ ∃ a, A = some a ∧ p = .pointer (some (a.add (r.toNat * 12))))
def impl_End_stream.l0 : Nat → List S104 → Int → Int → Option Int
 | 0, _, _, _ => none
 | k + 1, l, id, i => if i < (l.length : Int) then (if 0 ≤ i then (if (rd_T104 l i).f0 = id then some i else impl_End_stream.l0 k l id (wrap64 (i + 1))) else none) else some (-1)
def impl_End_stream.f (k : Nat) (l : List S104) (id : Int) : Option Int := impl_End_stream.l0 k l id 0
set_option maxHeartbeats 8000000 in
set_option maxRecDepth 100000 in
theorem impl_End_stream.calls (k g : Nat) {x0 : Bool} {x2 : Int} {x4 : Int} {x5 : ByteArray} {x6 : List S104} {x7 : Int} {x8 : Int} {x10 : Bool} {v1 v3 v9 : Value} (A6 : Option Addr) (c6 : Nat) (id r : Int) (w : World) (hg : w.heap[g]? = some (.cells #[.bool x0, v1, .int .i64 x2, v3, .int .i64 x4, .string x5, .slice A6 x6.length c6, .int .i64 x7, .int .i64 x8, v9, .bool x10] 42 (0, 0))) (hr : Kd.C k104 w A6 x6.length x6) (h : impl_End_stream.f k x6 id = some r) :
  Calls Try.prog 105 #[.pointer (some ⟨g, 0, none⟩), .int .i64 id] w fun e w' => ∃ p : Value, e = .returned p ∧ StreamAt A6 x6.length r p ∧ Below w.heap.size w w' := by
 have hu42 := Try.underlying42
 have BK := Aside0.mk hg
 have HR6 := Aside0.mk hr
 have HB := Aside0.mk (Below.refl w.heap.size w)
 have H' := Aside0.mk (show impl_End_stream.l0 k x6 id 0 = some r from h)
 clear hg hr h
 go_enter Try.func105, Try.ntmps105
 have hz6 := cz (v := .slice A6 x6.length c6) BK 6 rfl
 go_wp2
 clear hz6
 go_loopg [5, 11] k (fun kq v5 v11 w' => ∃ (i : Int), v11 = .int .i64 i ∧ Aside0 (impl_End_stream.l0 kq x6 id i = some r) ∧ Aside0 (kq ≤ k) ∧ Aside0 (w'.heap[g]? = some (.cells #[.bool x0, v1, .int .i64 x2, v3, .int .i64 x4, .string x5, .slice A6 x6.length c6, .int .i64 x7, .int .i64 x8, v9, .bool x10] 42 (0, 0))) ∧ Aside0 (Below w.heap.size w w'))
 case atStart => exact ⟨(0), zs, H', ⟨Nat.le_refl _⟩, ⟨by exact zk BK⟩, ⟨zb HB⟩⟩
 case round =>
  clear H'
  obtain ⟨i, rfl, HA, HK1, BK, HB⟩ := hrel
  cases gk with
  | zero => exact absurd HA.out (by simp [impl_End_stream.l0])
  | succ k1 =>
   have H := HA.out
   clear HA
   simp only [impl_End_stream.l0] at H
   have hz6 := cz (v := .slice A6 x6.length c6) BK 6 rfl
   split at H
   · rename_i c4
     have c4b0 := decide_eq_true c4
     split at H
     case isFalse => cases H
     rename_i c5
     obtain ⟨ad, A2, d2, A7, d7, e8, hx0, hx1, hx2, hx3, hx4, hx5, hx6, hx7, hx8, hx9, hx10, hx11, hl2, hi2, hl7, hi7⟩ := at_T104 HR6.out i c5 c4
     cases e8
     replace hx0 := cb0 hx0 HB
     clear hx1 hx2 hx3 hx4 hx5 hx6 hx7 hx8 hx9 hx10 hx11 hl2 hi2 hl7 hi7
     have p8 := eq_true c5
     have q8 := eq_true c4
     split at H
     · rename_i c6
       have c6b0 : (((rd_T104 x6 i).f0) == id) = true := beq_iff_eq.mpr c6
       have c6b1 : (((rd_T104 x6 i).f0) != id) = false := bne_eq_false_iff_eq.mpr c6
       obtain rfl := Option.some.inj H
       have C4 := Aside0.mk c4
       have C5 := Aside0.mk c5
       clear c4 c5 c6
       go_wp2
       go_ret
       exact ⟨_, ze, ⟨fun h => absurd C5.out (by omega), fun _ => ⟨C4.out, ad, rfl, rfl⟩⟩, zb HB⟩
     · rename_i c6
       have c6b0 : (((rd_T104 x6 i).f0) == id) = false := beq_eq_false_iff_ne.mpr c6
       have c6b1 : (((rd_T104 x6 i).f0) != id) = true := bne_iff_ne.mpr c6
       have H' := Aside0.mk H
       clear H c4 c5 c6
       go_wp2
       go_roundg k1
       case measure => have := HK1.out; omega
       case rel => exact ⟨(wrap64 (i + 1)), zs, H', ⟨by have := HK1.out; omega⟩, ⟨by exact zk BK⟩, ⟨zb HB⟩⟩
   · rename_i c4
     have c4b0 := decide_eq_false c4
     clear c4
     obtain rfl := Option.some.inj H
     go_wp2
     go_ret
     exact ⟨_, ze, ⟨fun _ => rfl, fun h => absurd h (by decide)⟩, zb HB⟩
def spec_l21Leave.f (k : Nat) (x0 : Bool) (x1 : List S88) (x2 : Int) (x3 : List S88) (x4 : Int) (x5 : ByteArray) (x6 : List S104) (x7 : Int) (x8 : Int) (x9 : List S110) (x10 : Bool) (id : Int) : Option (List S104 × List S110 × Bool) :=
 (spec_l21At.f k x0 x1 x2 x3 x4 x5 x6 x7 x8 x9 x10 id).bind fun i => if x0 = true then some (x6, x9, false) else if i < 0 then some (x6, x9, false) else if i < (x6.length : Int) then (if (rd_T104 x6 i).f1 = 1 then (if (rd_T104 x6 i).f4 = true then (if x9.length < 3518437208883 then some (x6.set i.toNat (gone (rd_T104 x6 i)), x9 ++ [⟨3, false, id, ⟨#[]⟩⟩], true) else none) else some (x6.set i.toNat (gone (rd_T104 x6 i)), x9, true)) else some (x6, x9, false)) else none
set_option maxHeartbeats 8000000 in
set_option maxRecDepth 100000 in
theorem spec_l21Leave.calls (k : Nat) {v1 v3 v6 v9 : Value} {x0 : Bool} {x1 : List S88} {x2 : Int} {x3 : List S88} {x4 : Int} {x5 : ByteArray} {x6 : List S104} {x7 : Int} {x8 : Int} {x9 : List S110} {x10 : Bool} (id : Int) (r6 : List S104) (r9 : List S110) (rb : Bool) (w0 w : World) (hB : Below w0.heap.size w0 w) (X : EX w w0.heap.size (fun _ => True) v1 v3 v6 v9 x1 x3 x6 x9) (h : spec_l21Leave.f k x0 x1 x2 x3 x4 x5 x6 x7 x8 x9 x10 id = some (r6, r9, rb)) :
  Calls Try.prog 103 #[.agg #[.bool x0, v1, .int .i64 x2, v3, .int .i64 x4, .string x5, v6, .int .i64 x7, .int .i64 x8, v9, .bool x10], .int .i64 id] w fun e w' => ∃ u9 : Value, e = .returned (.tuple #[.agg #[.bool x0, v1, .int .i64 x2, v3, .int .i64 x4, .string x5, v6, .int .i64 x7, .int .i64 x8, u9, .bool x10], .bool rb]) ∧ EX w' w0.heap.size (fun _ => True) v1 v3 v6 u9 x1 x3 r6 r9 ∧ Below w0.heap.size w0 w' := by
 have hu42 := Try.underlying42
 have HB := Aside0.mk hB
 have HX := Aside0.mk (X.mono (B' := fun k => k < w.heap.size) (fun _ _ _ h => h))
 have H := h
 clear hB X h
 unfold spec_l21Leave.f at H
 obtain ⟨i, A1, Hn_⟩ := ob H
 replace H := Hn_
 clear Hn_
 have HC := Aside0.mk H
 clear H
 go_enter Try.func103, Try.ntmps103
 go_upto_region 2 with (first | ((with_reducible refine gd 2 rfl ?_); refine bx (N := 2) (cs := #[.bool x0, v1, .int .i64 x2, v3, .int .i64 x4, .string x5, v6, .int .i64 x7, .int .i64 x8, v9, .bool x10]) (t := 42) ?_; intro g2 hg w2 hbox hb; have BK2 := Aside0.mk hbox; have N2 := Aside0.mk (show ¬ g2 < w.heap.size by rw [hg]; exact Nat.not_lt.2 ms); have HS := Aside0.mk (show w.heap.size ≤ w2.heap.size from Nat.le_trans ms hb.size); replace HX := Aside0.mk ((zx HX).below hb); have S2 := Aside0.mk (show w0.heap.size ≤ g2 by rw [hg]; exact below_size (zb HB)); replace HB := Aside0.mk (below_step (zb HB) hb); clear hb hbox hg) | ((with_reducible refine gd 4 rfl ?_); refine bx (N := 4) (cs := #[.bool false, .slice none 0 0, .int .i64 0, .slice none 0 0, .int .i64 0, .string (⟨#[]⟩ : ByteArray), .slice none 0 0, .int .i64 0, .int .i64 0, .slice none 0 0, .bool false]) (t := 42) ?_; intro g4 hg w4 hbox hb; have BK4 := Aside0.mk hbox; have N4 := Aside0.mk (show ¬ g4 < w.heap.size by rw [hg]; exact Nat.not_lt.2 (Nat.le_trans HS.out ms)); obtain ⟨N24, N42⟩ := nb BK2 hg; have S4 := Aside0.mk (show w0.heap.size ≤ g4 by rw [hg]; exact below_size (zb HB)); replace BK2 := kb BK2 hb; replace HX := Aside0.mk ((zx HX).below hb); replace HB := Aside0.mk (below_step (zb HB) hb); clear hb; clear hbox hg) | ((with_reducible refine gd 7 rfl ?_); refine ld BK2 0 ([.bool x0, v1, .int .i64 x2, v3, .int .i64 x4, .string x5, v6, .int .i64 x7, .int .i64 x8, v9, .bool x10] : List Value) Try.underlying42 ?_) | ((with_reducible refine gq 137 rfl ?_); refine gl (some 9) Try.func137 #[.agg #[.bool x0, v1, .int .i64 x2, v3, .int .i64 x4, .string x5, v6, .int .i64 x7, .int .i64 x8, v9, .bool x10], .int .i64 id] ?_; (refine (spec_l21At.callsX k id i _ (zx HX) A1.out).mono ?_); rintro e w9 ⟨rfl, hb⟩; refine ⟨_, rfl, ?_⟩; replace BK2 := kb BK2 hb; replace BK4 := kb BK4 hb; replace HX := Aside0.mk ((zx HX).below hb); replace HB := Aside0.mk (below_step (zb HB) hb); clear hb))
 (try simp only [Act.put, s1, s2, s3])
 have H := HC.out
 clear HC
 have hz0 := cz (v := .bool x0) BK2 0 rfl
 cases x0 with
 | true =>
  rw [if_pos rfl] at H
  simp only [Option.some.injEq, Prod.mk.injEq] at H
  obtain ⟨rfl, rfl, rfl⟩ := H
  go_wp2_with (first | ((with_reducible refine gd 25 rfl ?_); refine ld BK2 0 ([.bool true, v1, .int .i64 x2, v3, .int .i64 x4, .string x5, v6, .int .i64 x7, .int .i64 x8, v9, .bool x10] : List Value) Try.underlying42 ?_) | ((with_reducible refine gate_store (t := 42) (p := 4) rfl ?_); refine sd BK4 0 ([.bool true, v1, .int .i64 x2, v3, .int .i64 x4, .string x5, v6, .int .i64 x7, .int .i64 x8, v9, .bool x10] : List Value) #[.bool true, v1, .int .i64 x2, v3, .int .i64 x4, .string x5, v6, .int .i64 x7, .int .i64 x8, v9, .bool x10] ?_ ?h1; (case h1 => obtain ⟨o1, o3, o6, o9⟩ := (zx HX).ones; intro u hu; simp only [List.mem_cons, List.not_mem_nil, or_false] at hu; rcases hu with rfl | rfl | rfl | rfl | rfl | rfl | rfl | rfl | rfl | rfl | rfl <;> first | rfl | assumption); intro w25 bkc hk hlow; replace HX := Aside0.mk ((zx HX).keep hk N4.out); replace HB := Aside0.mk (hlow _ _ (zb HB) S4.out); replace BK4 := bkc; clear hk hlow bkc))
  refine bodyPost_ret (results_ct rfl _ _ g4 42 #[.bool true, v1, .int .i64 x2, v3, .int .i64 x4, .string x5, v6, .int .i64 x7, .int .i64 x8, v9, .bool x10] (0, 0) _ rfl (zp BK4) Try.underlying42 rfl (by kernel_rfl)) rfl ?_
  exact ⟨_, ze, (zx HX).mono (fun _ _ _ _ => trivial), zb HB⟩
 | false =>
  rw [if_neg (by decide)] at H
  by_cases c2 : i < 0
  ·rw [if_pos c2] at H
   have c2b0 := decide_eq_true c2
   simp only [Option.some.injEq, Prod.mk.injEq] at H
   obtain ⟨rfl, rfl, rfl⟩ := H
   go_wp2_with (first | ((with_reducible refine gd 25 rfl ?_); refine ld BK2 0 ([.bool false, v1, .int .i64 x2, v3, .int .i64 x4, .string x5, v6, .int .i64 x7, .int .i64 x8, v9, .bool x10] : List Value) Try.underlying42 ?_) | ((with_reducible refine gate_store (t := 42) (p := 4) rfl ?_); refine sd BK4 0 ([.bool false, v1, .int .i64 x2, v3, .int .i64 x4, .string x5, v6, .int .i64 x7, .int .i64 x8, v9, .bool x10] : List Value) #[.bool false, v1, .int .i64 x2, v3, .int .i64 x4, .string x5, v6, .int .i64 x7, .int .i64 x8, v9, .bool x10] ?_ ?h1; (case h1 => obtain ⟨o1, o3, o6, o9⟩ := (zx HX).ones; intro u hu; simp only [List.mem_cons, List.not_mem_nil, or_false] at hu; rcases hu with rfl | rfl | rfl | rfl | rfl | rfl | rfl | rfl | rfl | rfl | rfl <;> first | rfl | assumption); intro w25 bkc hk hlow; replace HX := Aside0.mk ((zx HX).keep hk N4.out); replace HB := Aside0.mk (hlow _ _ (zb HB) S4.out); replace BK4 := bkc; clear hk hlow bkc))
   refine bodyPost_ret (results_ct rfl _ _ g4 42 #[.bool false, v1, .int .i64 x2, v3, .int .i64 x4, .string x5, v6, .int .i64 x7, .int .i64 x8, v9, .bool x10] (0, 0) _ rfl (zp BK4) Try.underlying42 rfl (by kernel_rfl)) rfl ?_
   exact ⟨_, ze, (zx HX).mono (fun _ _ _ _ => trivial), zb HB⟩
  ·rw [if_neg c2] at H
   have c2b0 := decide_eq_false c2
   by_cases c3 : i < (x6.length : Int)
   rotate_left
   ·rw [if_neg c3] at H
    cases H
   rw [if_pos c3] at H
   have C0 := Aside0.mk (show 0 ≤ i by omega)
   have C3 := Aside0.mk c3
   obtain ⟨gs, cs, e6⟩ := HX.out.form6 C0.out C3.out
   subst e6
   obtain ⟨GS, GB, hx1, hx4, hf1, hN⟩ := HX.out.at6 C0.out C3.out
   have NX := Aside0.mk hN
   replace GS := Aside0.mk GS
   replace GB := Aside0.mk GB
   clear hN
   have hz6 := cz (v := .slice (some ⟨gs, 0, none⟩) x6.length cs) BK2 6 rfl
   have p6 := eq_true C0.out
   have q6 := eq_true C3.out
   clear c3
   by_cases c4 : (rd_T104 x6 i).f1 = 1
   rotate_left
   ·rw [if_neg c4] at H
    have c4b0 : ((rd_T104 x6 i).f1 == 1) = false := beq_eq_false_iff_ne.mpr c4
    have c4b1 : ((rd_T104 x6 i).f1 != 1) = true := bne_iff_ne.mpr c4
    simp only [Option.some.injEq, Prod.mk.injEq] at H
    obtain ⟨rfl, rfl, rfl⟩ := H
    go_wp2_with (first | ((with_reducible refine gd 25 rfl ?_); refine ld BK2 0 ([.bool false, v1, .int .i64 x2, v3, .int .i64 x4, .string x5, .slice (some ⟨gs, 0, none⟩) x6.length cs, .int .i64 x7, .int .i64 x8, v9, .bool x10] : List Value) Try.underlying42 ?_) | ((with_reducible refine gate_store (t := 42) (p := 4) rfl ?_); refine sd BK4 0 ([.bool false, v1, .int .i64 x2, v3, .int .i64 x4, .string x5, .slice (some ⟨gs, 0, none⟩) x6.length cs, .int .i64 x7, .int .i64 x8, v9, .bool x10] : List Value) #[.bool false, v1, .int .i64 x2, v3, .int .i64 x4, .string x5, .slice (some ⟨gs, 0, none⟩) x6.length cs, .int .i64 x7, .int .i64 x8, v9, .bool x10] ?_ ?h1; (case h1 => obtain ⟨o1, o3, o6, o9⟩ := (zx HX).ones; intro u hu; simp only [List.mem_cons, List.not_mem_nil, or_false] at hu; rcases hu with rfl | rfl | rfl | rfl | rfl | rfl | rfl | rfl | rfl | rfl | rfl <;> first | rfl | assumption); intro w25 bkc hk hlow; replace HX := Aside0.mk ((zx HX).keep hk N4.out); replace HB := Aside0.mk (hlow _ _ (zb HB) S4.out); replace BK4 := bkc; clear hk hlow bkc))
    refine bodyPost_ret (results_ct rfl _ _ g4 42 #[.bool false, v1, .int .i64 x2, v3, .int .i64 x4, .string x5, .slice (some ⟨gs, 0, none⟩) x6.length cs, .int .i64 x7, .int .i64 x8, v9, .bool x10] (0, 0) _ rfl (zp BK4) Try.underlying42 rfl (by kernel_rfl)) rfl ?_
    exact ⟨_, ze, (zx HX).mono (fun _ _ _ _ => trivial), zb HB⟩
   rw [if_pos c4] at H
   have c4b0 : ((rd_T104 x6 i).f1 == 1) = true := beq_iff_eq.mpr c4
   have c4b1 : ((rd_T104 x6 i).f1 != 1) = false := bne_eq_false_iff_eq.mpr c4
   cases hbg : (rd_T104 x6 i).f4 with
   | false =>
    rw [hbg] at H hx4
    rw [if_neg (by decide)] at H
    simp only [Option.some.injEq, Prod.mk.injEq] at H
    obtain ⟨rfl, rfl, rfl⟩ := H
    go_wp2_with (first | ((with_reducible refine gate_store (t := 3) (p := 43) rfl ?_); refine store_event (t := 3) (p := 43) (v := ?vo1) (w1 := w9.setCell ⟨gs, i.toNat * 12 + 1, none⟩ (.int .i64 3)) ?hg ?ho ?hn ?hr ?_; (case ho => rfl); (case hg => rfl); (case hn => rfl); (case hr => first | (go_simp; done) | (go_simp; rfl)); intro w43 hw; clear hx1 hx4 hf1; replace BK2 := Aside0.mk (blk_far2 hw BK2.out (fun e => N2.out (by rw [e]; exact GS.out))); replace BK4 := Aside0.mk (blk_far2 hw BK4.out (fun e => N4.out (by rw [e]; exact GS.out))); replace HB := Aside0.mk (show Below w0.heap.size w0 w43 by rw [hw]; exact below_set HB.out GB.out); replace HX := Aside0.mk (NX.out.at_ hw); clear hw) | ((with_reducible refine gd 44 rfl ?_); refine ld BK2 0 ([.bool false, v1, .int .i64 x2, v3, .int .i64 x4, .string x5, .slice (some ⟨gs, 0, none⟩) x6.length cs, .int .i64 x7, .int .i64 x8, v9, .bool x10] : List Value) Try.underlying42 ?_) | ((with_reducible refine gate_store (t := 42) (p := 4) rfl ?_); refine sd BK4 0 ([.bool false, v1, .int .i64 x2, v3, .int .i64 x4, .string x5, .slice (some ⟨gs, 0, none⟩) x6.length cs, .int .i64 x7, .int .i64 x8, v9, .bool x10] : List Value) #[.bool false, v1, .int .i64 x2, v3, .int .i64 x4, .string x5, .slice (some ⟨gs, 0, none⟩) x6.length cs, .int .i64 x7, .int .i64 x8, v9, .bool x10] ?_ ?h1; (case h1 => obtain ⟨o1, o3, o6, o9⟩ := (zx HX).ones; intro u hu; simp only [List.mem_cons, List.not_mem_nil, or_false] at hu; rcases hu with rfl | rfl | rfl | rfl | rfl | rfl | rfl | rfl | rfl | rfl | rfl <;> first | rfl | assumption); intro w44 bkc hk hlow; replace HX := Aside0.mk ((zx HX).keep hk N4.out); replace HB := Aside0.mk (hlow _ _ (zb HB) S4.out); replace BK4 := bkc; clear hk hlow bkc))
    refine bodyPost_ret (results_ct rfl _ _ g4 42 #[.bool false, v1, .int .i64 x2, v3, .int .i64 x4, .string x5, .slice (some ⟨gs, 0, none⟩) x6.length cs, .int .i64 x7, .int .i64 x8, v9, .bool x10] (0, 0) _ rfl (zp BK4) Try.underlying42 rfl (by kernel_rfl)) rfl ?_
    exact ⟨_, ze, (zx HX).mono (fun _ _ _ _ => trivial), zb HB⟩
   | true =>
    rw [hbg] at H hx4
    rw [if_pos rfl] at H
    by_cases c5 : x9.length < 3518437208883
    rotate_left
    ·rw [if_neg c5] at H
     cases H
    rw [if_pos c5] at H
    simp only [Option.some.injEq, Prod.mk.injEq] at H
    obtain ⟨rfl, rfl, rfl⟩ := H
    have C5 := Aside0.mk c5
    clear c5
    have hz9 := cz (v := v9) BK2 9 rfl
    go_wp2_with (first | ((with_reducible refine gate_builtin (b := .append) (xs := #[.tmp 33, .tmp 36]) rfl ?_); at_builtin; refine Kd.R_append k110 (w0 := w0) w0.heap.size rfl (.tmp 33) (.tmp 36) 40 110 (.agg #[(.int .i64 0), (.bool false), (.int .i64 0), (.string ⟨#[]⟩)]) 40 rfl Try.underlying40 info110 rfl (by decide) (by omega) v9 x9 (⟨3, false, id, (⟨#[]⟩ : ByteArray)⟩ : S110) [.int .i64 3, .bool false, .int .i64 id, .string (⟨#[]⟩ : ByteArray)] (fun k_ => some k_ = (v9 : Value).ownBlock ∨ w9.heap.size ≤ k_) (fun _ => False) rfl (by first | (go_simp; done) | (go_simp; rfl)) ?aP (fun _ hk => hk.elim) ?aF ?aO ?aB ?aS ?aL ?_; (case aP => exact k110_mkM _ _ _ (⟨3, false, id, (⟨#[]⟩ : ByteArray)⟩ : S110)); (case aB => exact (zb HB)); (case aF => exact (fun k_ hk => .inr hk)); (case aO => exact Kd.R_mono HX.out.rw9 (fun _ h => .inl h)); (case aS => exact (below_size (zb HB))); (case aL => have := C5.out; omega); intro u9 w37 ho hb hg hat; obtain ⟨Au, nu, cu, rfl⟩ : ∃ A n c, u9 = Value.slice A n c := (by obtain ⟨A, c, e⟩ := Kd.R_slice ho; exact ⟨A, _, c, e⟩); clear hx1 hx4 hf1 hz9 hz6 NX GS GB; have l2 := blk_lt BK2.out; have l4 := blk_lt BK4.out; replace BK2 := Aside0.mk (blk_grown BK2.out hg (HX.out.ne9 N2.out)); replace BK4 := Aside0.mk (blk_grown BK4.out hg (HX.out.ne9 N4.out)); replace N2 := Aside0.mk (show ¬ (g2 < w.heap.size ∨ w9.heap.size ≤ g2) from fun h => h.elim N2.out (Nat.not_le.2 l2)); replace N4 := Aside0.mk (show ¬ (g4 < w.heap.size ∨ w9.heap.size ≤ g4) from fun h => h.elim N4.out (Nat.not_le.2 l4)); replace HX := Aside0.mk (HX.out.app9 ho hg); replace HB := Aside0.mk hb; have hz9 := cz (v := v9) BK2 9 rfl; have hf9 := blk_frozen BK2.out 9; clear l2 l4; clear ho hb hg hat) | ((with_reducible refine gate_store (t := 40) (p := 38) rfl ?_); refine store_event (t := 40) (p := 38) (v := ?vo2) (w1 := w37.setCell ⟨g2, 9, none⟩ (.slice Au nu cu)) ?hg ?ho ?hn ?hr ?_; (case ho => rfl); (case hg => rfl); (case hn => rfl); (case hr => first | (go_simp; done) | (go_simp; rfl)); intro w38 hw; clear hz9 hf9; replace BK2 := Aside0.mk (show w38.heap[g2]? = some (.cells #[.bool false, v1, .int .i64 x2, v3, .int .i64 x4, .string x5, .slice (some ⟨gs, 0, none⟩) x6.length cs, .int .i64 x7, .int .i64 x8, .slice Au nu cu, .bool x10] 42 (0, 0)) from blk_put2 hw BK2.out rfl); replace BK4 := Aside0.mk (blk_far2 hw BK4.out N42.out); replace HB := Aside0.mk (show Below w0.heap.size w0 w38 by rw [hw]; exact below_set HB.out S2.out); replace HX := Aside0.mk ((HX.out.setb N2.out 9 (.slice Au nu cu)).at_ hw); obtain ⟨GS, GB, hx1, hx4, hf1, hN⟩ := HX.out.at6 C0.out C3.out; have NX := Aside0.mk hN; replace GS := Aside0.mk GS; replace GB := Aside0.mk GB; clear hN; have hz6 := cz (v := .slice (some ⟨gs, 0, none⟩) x6.length cs) BK2 6 rfl; clear hw) | ((with_reducible refine gate_store (t := 3) (p := 43) rfl ?_); refine store_event (t := 3) (p := 43) (v := ?vo3) (w1 := w38.setCell ⟨gs, i.toNat * 12 + 1, none⟩ (.int .i64 3)) ?hg ?ho ?hn ?hr ?_; (case ho => rfl); (case hg => rfl); (case hn => rfl); (case hr => first | (go_simp; done) | (go_simp; rfl)); intro w43 hw; clear hx1 hx4 hf1; replace BK2 := Aside0.mk (blk_far2 hw BK2.out (fun e => N2.out (by rw [e]; exact GS.out))); replace BK4 := Aside0.mk (blk_far2 hw BK4.out (fun e => N4.out (by rw [e]; exact GS.out))); replace HB := Aside0.mk (show Below w0.heap.size w0 w43 by rw [hw]; exact below_set HB.out GB.out); replace HX := Aside0.mk (NX.out.at_ hw); clear hw) | ((with_reducible refine gd 44 rfl ?_); refine ld BK2 0 ([.bool false, v1, .int .i64 x2, v3, .int .i64 x4, .string x5, .slice (some ⟨gs, 0, none⟩) x6.length cs, .int .i64 x7, .int .i64 x8, .slice Au nu cu, .bool x10] : List Value) Try.underlying42 ?_) | ((with_reducible refine gate_store (t := 42) (p := 4) rfl ?_); refine sd BK4 0 ([.bool false, v1, .int .i64 x2, v3, .int .i64 x4, .string x5, .slice (some ⟨gs, 0, none⟩) x6.length cs, .int .i64 x7, .int .i64 x8, .slice Au nu cu, .bool x10] : List Value) #[.bool false, v1, .int .i64 x2, v3, .int .i64 x4, .string x5, .slice (some ⟨gs, 0, none⟩) x6.length cs, .int .i64 x7, .int .i64 x8, .slice Au nu cu, .bool x10] ?_ ?h1; (case h1 => obtain ⟨o1, o3, o6, o9⟩ := (zx HX).ones; intro u hu; simp only [List.mem_cons, List.not_mem_nil, or_false] at hu; rcases hu with rfl | rfl | rfl | rfl | rfl | rfl | rfl | rfl | rfl | rfl | rfl <;> first | rfl | assumption); intro w44 bkc hk hlow; replace HX := Aside0.mk ((zx HX).keep hk N4.out); replace HB := Aside0.mk (hlow _ _ (zb HB) S4.out); replace BK4 := bkc; clear hk hlow bkc))
    refine bodyPost_ret (results_ct rfl _ _ g4 42 #[.bool false, v1, .int .i64 x2, v3, .int .i64 x4, .string x5, .slice (some ⟨gs, 0, none⟩) x6.length cs, .int .i64 x7, .int .i64 x8, .slice Au nu cu, .bool x10] (0, 0) _ rfl (zp BK4) Try.underlying42 rfl (by kernel_rfl)) rfl ?_
    exact ⟨_, ze, (zx HX).mono (fun _ _ _ _ => trivial), zb HB⟩
abbrev TE := Bool × List S88 × Int × List S88 × Int × ByteArray × List S104 × Int × Int × List S110 × Bool
def uE {β : Type} (g : Bool → List S88 → Int → List S88 → Int → ByteArray → List S104 → Int → Int → List S110 → Bool → β) (b : TE) : β := g b.1 b.2.1 b.2.2.1 b.2.2.2.1 b.2.2.2.2.1 b.2.2.2.2.2.1 b.2.2.2.2.2.2.1 b.2.2.2.2.2.2.2.1 b.2.2.2.2.2.2.2.2.1 b.2.2.2.2.2.2.2.2.2.1 b.2.2.2.2.2.2.2.2.2.2
def zeroE : TE := (false, [], 0, [], 0, ⟨#[]⟩, [], 0, 0, [], false)
def withE (b : TE) (l6 : List S104) (l9 : List S110) : TE := (b.1, b.2.1, b.2.2.1, b.2.2.2.1, b.2.2.2.2.1, b.2.2.2.2.2.1, l6, b.2.2.2.2.2.2.2.1, b.2.2.2.2.2.2.2.2.1, l9, b.2.2.2.2.2.2.2.2.2.2)
def spec_EndLeave.f (k : Nat) (x0 : Bool) (x1 : List S88) (x2 : Int) (x3 : List S88) (x4 : Int) (x5 : ByteArray) (x6 : List S104) (x7 : Int) (x8 : Int) (x9 : List S110) (x10 : Bool) (id : Int) : Option (TE × Bool) :=
 (spec_EndOk.f k x0 x1 x2 x3 x4 x5 x6 x7 x8 x9 x10).bind fun ok => if ok = true then (spec_l21Copy.f k x0 x1 x2 x3 x4 x5 x6 x7 x8 x9 x10).bind fun y => (uE (spec_l21Leave.f k) y id).bind fun z => some (withE y z.1 z.2.1, z.2.2) else some (zeroE, false)
set_option maxHeartbeats 8000000 in
set_option maxRecDepth 100000 in
theorem spec_EndLeave.calls (k : Nat) {b : Nat} {B : Nat → Prop} {v1 v3 v6 v9 : Value} {x0 : Bool} {x1 : List S88} {x2 : Int} {x3 : List S88} {x4 : Int} {x5 : ByteArray} {x6 : List S104} {x7 : Int} {x8 : Int} {x9 : List S110} {x10 : Bool} (id : Int) (r0 : Bool) (r1 : List S88) (r2 : Int) (r3 : List S88) (r4 : Int) (r5 : ByteArray) (r6 : List S104) (r7 : Int) (r8 : Int) (r9 : List S110) (r10 : Bool) (rb : Bool) (w : World) (X : EX w b B v1 v3 v6 v9 x1 x3 x6 x9) (h : spec_EndLeave.f k x0 x1 x2 x3 x4 x5 x6 x7 x8 x9 x10 id = some ((r0, r1, r2, r3, r4, r5, r6, r7, r8, r9, r10), rb)) :
  Calls Try.prog 47 #[.agg #[.bool x0, v1, .int .i64 x2, v3, .int .i64 x4, .string x5, v6, .int .i64 x7, .int .i64 x8, v9, .bool x10], .int .i64 id] w fun e w' => ∃ u1 u3 u6 u9 : Value, e = .returned (.tuple #[.agg #[.bool r0, u1, .int .i64 r2, u3, .int .i64 r4, .string r5, u6, .int .i64 r7, .int .i64 r8, u9, .bool r10], .bool rb]) ∧ EX w' w.heap.size (fun _ => True) u1 u3 u6 u9 r1 r3 r6 r9 ∧ Below w.heap.size w w' := by
 have hu42 := Try.underlying42
 have HB := Aside0.mk (Below.refl w.heap.size w)
 have HX := Aside0.mk X
 have H := h
 clear X h
 unfold spec_EndLeave.f at H
 obtain ⟨ok, A1, Hn_⟩ := ob H
 replace H := Hn_
 clear Hn_
 have HC := Aside0.mk H
 clear H
 go_enter Try.func47, Try.ntmps47
 go_upto_if 8 with (first | ((with_reducible refine gd 2 rfl ?_); refine bx (N := 2) (cs := #[.bool x0, v1, .int .i64 x2, v3, .int .i64 x4, .string x5, v6, .int .i64 x7, .int .i64 x8, v9, .bool x10]) (t := 42) ?_; intro g2 hg w2 hbox hb; have BK2 := Aside0.mk hbox; replace HX := Aside0.mk ((zx HX).below hb); replace HB := Aside0.mk (below_step (zb HB) hb); clear hb; clear hbox hg) | ((with_reducible refine gd 4 rfl ?_); refine bx (N := 4) (cs := #[.bool false, .slice none 0 0, .int .i64 0, .slice none 0 0, .int .i64 0, .string (⟨#[]⟩ : ByteArray), .slice none 0 0, .int .i64 0, .int .i64 0, .slice none 0 0, .bool false]) (t := 42) ?_; intro g4 hg w4 hbox hb; have BK4 := Aside0.mk hbox; have S4 := gw HB hg; obtain ⟨N24, N42⟩ := nb BK2 hg; replace BK2 := kb BK2 hb; replace HX := Aside0.mk ((zx HX).below hb); replace HB := Aside0.mk (below_step (zb HB) hb); clear hb; clear hbox hg) | ((with_reducible refine gd 6 rfl ?_); refine ld BK2 0 ([.bool x0, v1, .int .i64 x2, v3, .int .i64 x4, .string x5, v6, .int .i64 x7, .int .i64 x8, v9, .bool x10] : List Value) Try.underlying42 ?_) | ((with_reducible refine gq 36 rfl ?_); refine gl (some 7) Try.func36 #[.agg #[.bool x0, v1, .int .i64 x2, v3, .int .i64 x4, .string x5, v6, .int .i64 x7, .int .i64 x8, v9, .bool x10]] ?_; (refine (spec_EndOk.callsX k ok _ (zx HX) A1.out).mono ?_); rintro e w7 ⟨rfl, hb⟩; refine ⟨_, rfl, ?_⟩; replace BK2 := kb BK2 hb; replace BK4 := kb BK4 hb; replace HX := Aside0.mk ((zx HX).below hb); replace HB := Aside0.mk (below_step (zb HB) hb); clear hb))
 (try simp only [Act.put, s1, s2, s3])
 have H := HC.out
 clear HC
 cases ok with
 | false =>
  rw [if_neg (by decide)] at H
  simp only [Option.some.injEq, Prod.mk.injEq, zeroE] at H
  obtain ⟨⟨rfl, rfl, rfl, rfl, rfl, rfl, rfl, rfl, rfl, rfl, rfl⟩, rfl⟩ := H
  go_wp2_with (first | ((with_reducible refine gate_store (t := 42) (p := 4) rfl ?_); refine sd BK4 0 ([.bool false, .slice none 0 0, .int .i64 0, .slice none 0 0, .int .i64 0, .string (⟨#[]⟩ : ByteArray), .slice none 0 0, .int .i64 0, .int .i64 0, .slice none 0 0, .bool false] : List Value) #[.bool false, .slice none 0 0, .int .i64 0, .slice none 0 0, .int .i64 0, .string (⟨#[]⟩ : ByteArray), .slice none 0 0, .int .i64 0, .int .i64 0, .slice none 0 0, .bool false] ?_ ?h1; (case h1 => intro u hu; simp only [List.mem_cons, List.not_mem_nil, or_false] at hu; rcases hu with rfl | rfl | rfl | rfl | rfl | rfl | rfl | rfl | rfl | rfl | rfl <;> first | rfl | assumption); intro w90 bkc hk hlow; replace HB := Aside0.mk (hlow _ _ (zb HB) S4.out); replace BK4 := bkc; clear hk hlow bkc))
  refine bodyPost_ret (results_ct rfl _ _ g4 42 #[.bool false, .slice none 0 0, .int .i64 0, .slice none 0 0, .int .i64 0, .string (⟨#[]⟩ : ByteArray), .slice none 0 0, .int .i64 0, .int .i64 0, .slice none 0 0, .bool false] (0, 0) _ rfl (zp BK4) Try.underlying42 rfl (by kernel_rfl)) rfl ?_
  exact ⟨_, _, _, _, ze, EX.nil _ _ _, zb HB⟩
 | true =>
  rw [if_pos rfl] at H
  obtain ⟨⟨y0, y1, y2, y3, y4, y5, y6, y7, y8, y9, y10⟩, A2, Hn_⟩ := ob H
  replace H := Hn_
  clear Hn_
  obtain ⟨⟨z6, z9, zb_⟩, A3, Hn_⟩ := ob H
  replace H := Hn_
  clear Hn_
  dsimp only [uE] at A3
  simp only [Option.some.injEq, Prod.mk.injEq, withE] at H
  obtain ⟨⟨rfl, rfl, rfl, rfl, rfl, rfl, rfl, rfl, rfl, rfl, rfl⟩, rfl⟩ := H
  go_wp2_with (first | ((with_reducible refine gd 10 rfl ?_); refine ld BK2 0 ([.bool x0, v1, .int .i64 x2, v3, .int .i64 x4, .string x5, v6, .int .i64 x7, .int .i64 x8, v9, .bool x10] : List Value) Try.underlying42 ?_) | ((with_reducible refine gq 104 rfl ?_); refine gl (some 11) Try.func104 #[.agg #[.bool x0, v1, .int .i64 x2, v3, .int .i64 x4, .string x5, v6, .int .i64 x7, .int .i64 x8, v9, .bool x10]] ?_; (refine (spec_l21Copy.callsX k y0 y1 y2 y3 y4 y5 y6 y7 y8 y9 y10 _ (zx HX) A2.out).mono ?_); rintro e w11 ⟨q1, q3, q6, q9, rfl, ho, hb⟩; refine ⟨_, rfl, ?_⟩; have HY := Aside0.mk ho; have HK := Aside0.mk hb; clear ho hb HX BK2) | ((with_reducible refine gq 103 rfl ?_); refine gl (some 13) Try.func103 #[.agg #[.bool y0, q1, .int .i64 y2, q3, .int .i64 y4, .string y5, q6, .int .i64 y7, .int .i64 y8, q9, .bool y10], .int .i64 id] ?_; (refine (spec_l21Leave.calls k id _ _ _ w7 _ HK.out (zx HY) A3.out).mono ?_); rintro e w13 ⟨t9, rfl, ho, hb⟩; refine ⟨_, rfl, ?_⟩; have l4 := blk_lt BK4.out; replace BK4 := kb BK4 hb; have HX := Aside0.mk ((ho.mono (B' := fun k => w7.heap.size ≤ k) (fun _ _ h _ => h)).low (below_size (zb HB))); have N4 := Aside0.mk (show ¬ w7.heap.size ≤ g4 from Nat.not_le.2 l4); replace HB := Aside0.mk (below_step (zb HB) hb); clear ho hb l4 HY HK) | ((with_reducible refine gate_store (t := 42) (p := 4) rfl ?_); refine sd BK4 0 ([.bool y0, q1, .int .i64 y2, q3, .int .i64 y4, .string y5, q6, .int .i64 y7, .int .i64 y8, t9, .bool y10] : List Value) #[.bool y0, q1, .int .i64 y2, q3, .int .i64 y4, .string y5, q6, .int .i64 y7, .int .i64 y8, t9, .bool y10] ?_ ?h1; (case h1 => obtain ⟨o1, o3, o6, o9⟩ := (zx HX).ones; intro u hu; simp only [List.mem_cons, List.not_mem_nil, or_false] at hu; rcases hu with rfl | rfl | rfl | rfl | rfl | rfl | rfl | rfl | rfl | rfl | rfl <;> first | rfl | assumption); intro w91 bkc hk hlow; replace HX := Aside0.mk ((zx HX).keep hk N4.out); replace HB := Aside0.mk (hlow _ _ (zb HB) S4.out); replace BK4 := bkc; clear hk hlow bkc))
  refine bodyPost_ret (results_ct rfl _ _ g4 42 #[.bool y0, q1, .int .i64 y2, q3, .int .i64 y4, .string y5, q6, .int .i64 y7, .int .i64 y8, t9, .bool y10] (0, 0) _ rfl (zp BK4) Try.underlying42 rfl (by kernel_rfl)) rfl ?_
  exact ⟨_, _, _, _, ze, (zx HX).mono (fun _ _ _ _ => trivial), zb HB⟩
def impl_EndLeave.f (k : Nat) (x0 : Bool) (x1 : List S88) (x2 : Int) (x3 : List S88) (x4 : Int) (x5 : ByteArray) (x6 : List S104) (x7 : Int) (x8 : Int) (x9 : List S110) (x10 : Bool) (id : Int) : Option (TE × Bool) :=
 (impl_EndOk.f k x0 x1 x2 x3 x4 x5 x6 x7 x8 x9 x10).bind fun ok => if ok = true then (impl_End_clone.f k x0 x1 x2 x3 x4 x5 x6 x7 x8 x9 x10).bind fun y => (impl_End_stream.f k y.2.2.2.2.2.2.1 id).bind fun i => if x0 = true then some (y, false) else if i < 0 then some (y, false) else if (rd_T104 y.2.2.2.2.2.2.1 i).f1 = 1 then (if (rd_T104 y.2.2.2.2.2.2.1 i).f4 = true then (if y.2.2.2.2.2.2.2.2.2.1.length < 3518437208883 then (uE (impl_End_clone.f k) (withE y (y.2.2.2.2.2.2.1.set i.toNat (gone (rd_T104 y.2.2.2.2.2.2.1 i))) (y.2.2.2.2.2.2.2.2.2.1 ++ [⟨3, false, id, ⟨#[]⟩⟩]))).bind fun z => some (z, true) else none) else (uE (impl_End_clone.f k) (withE y (y.2.2.2.2.2.2.1.set i.toNat (gone (rd_T104 y.2.2.2.2.2.2.1 i))) y.2.2.2.2.2.2.2.2.2.1)).bind fun z => some (z, true)) else some (y, false) else some (zeroE, false)
set_option maxHeartbeats 8000000 in
set_option maxRecDepth 100000 in
theorem impl_EndLeave.calls (k : Nat) {b : Nat} {B : Nat → Prop} {v1 v3 v6 v9 : Value} {x0 : Bool} {x1 : List S88} {x2 : Int} {x3 : List S88} {x4 : Int} {x5 : ByteArray} {x6 : List S104} {x7 : Int} {x8 : Int} {x9 : List S110} {x10 : Bool} (id : Int) (r0 : Bool) (r1 : List S88) (r2 : Int) (r3 : List S88) (r4 : Int) (r5 : ByteArray) (r6 : List S104) (r7 : Int) (r8 : Int) (r9 : List S110) (r10 : Bool) (rb : Bool) (w : World) (X : EX w b B v1 v3 v6 v9 x1 x3 x6 x9) (h : impl_EndLeave.f k x0 x1 x2 x3 x4 x5 x6 x7 x8 x9 x10 id = some ((r0, r1, r2, r3, r4, r5, r6, r7, r8, r9, r10), rb)) :
  Calls Try.prog 48 #[.agg #[.bool x0, v1, .int .i64 x2, v3, .int .i64 x4, .string x5, v6, .int .i64 x7, .int .i64 x8, v9, .bool x10], .int .i64 id] w fun e w' => ∃ u1 u3 u6 u9 : Value, e = .returned (.tuple #[.agg #[.bool r0, u1, .int .i64 r2, u3, .int .i64 r4, .string r5, u6, .int .i64 r7, .int .i64 r8, u9, .bool r10], .bool rb]) ∧ EX w' w.heap.size (fun _ => True) u1 u3 u6 u9 r1 r3 r6 r9 ∧ Below w.heap.size w w' := by
 have hu42 := Try.underlying42
 have HB := Aside0.mk (Below.refl w.heap.size w)
 have HX := Aside0.mk X
 have H := h
 clear X h
 unfold impl_EndLeave.f at H
 obtain ⟨ok, A1, Hn_⟩ := ob H
 replace H := Hn_
 clear Hn_
 have HC := Aside0.mk H
 clear H
 go_enter Try.func48, Try.ntmps48
 go_upto_if 10 with (first | ((with_reducible refine gd 2 rfl ?_); refine bx (N := 2) (cs := #[.bool x0, v1, .int .i64 x2, v3, .int .i64 x4, .string x5, v6, .int .i64 x7, .int .i64 x8, v9, .bool x10]) (t := 42) ?_; intro g2 hg w2 hbox hb; have BK2 := Aside0.mk hbox; replace HX := Aside0.mk ((zx HX).below hb); replace HB := Aside0.mk (below_step (zb HB) hb); clear hb; clear hbox hg) | ((with_reducible refine gd 4 rfl ?_); refine bx (N := 4) (cs := #[.bool false, .slice none 0 0, .int .i64 0, .slice none 0 0, .int .i64 0, .string (⟨#[]⟩ : ByteArray), .slice none 0 0, .int .i64 0, .int .i64 0, .slice none 0 0, .bool false]) (t := 42) ?_; intro g4 hg w4 hbox hb; have BK4 := Aside0.mk hbox; have S4 := gw HB hg; obtain ⟨N24, N42⟩ := nb BK2 hg; replace BK2 := kb BK2 hb; replace HX := Aside0.mk ((zx HX).below hb); replace HB := Aside0.mk (below_step (zb HB) hb); clear hb; clear hbox hg) | ((with_reducible refine gd 8 rfl ?_); refine ld BK2 0 ([.bool x0, v1, .int .i64 x2, v3, .int .i64 x4, .string x5, v6, .int .i64 x7, .int .i64 x8, v9, .bool x10] : List Value) Try.underlying42 ?_) | ((with_reducible refine gq 33 rfl ?_); refine gl (some 9) Try.func33 #[.agg #[.bool x0, v1, .int .i64 x2, v3, .int .i64 x4, .string x5, v6, .int .i64 x7, .int .i64 x8, v9, .bool x10]] ?_; (refine (impl_EndOk.callsX k ok _ (zx HX) A1.out).mono ?_); rintro e w9 ⟨rfl, hb⟩; refine ⟨_, rfl, ?_⟩; replace BK2 := kb BK2 hb; replace BK4 := kb BK4 hb; replace HX := Aside0.mk ((zx HX).below hb); replace HB := Aside0.mk (below_step (zb HB) hb); clear hb))
 (try simp only [Act.put, s1, s2, s3])
 have H := HC.out
 clear HC
 cases ok with
 | false =>
  rw [if_neg (by decide)] at H
  simp only [Option.some.injEq, Prod.mk.injEq, zeroE] at H
  obtain ⟨⟨rfl, rfl, rfl, rfl, rfl, rfl, rfl, rfl, rfl, rfl, rfl⟩, rfl⟩ := H
  go_wp2_with (first | ((with_reducible refine gate_store (t := 42) (p := 4) rfl ?_); refine sd BK4 0 ([.bool false, .slice none 0 0, .int .i64 0, .slice none 0 0, .int .i64 0, .string (⟨#[]⟩ : ByteArray), .slice none 0 0, .int .i64 0, .int .i64 0, .slice none 0 0, .bool false] : List Value) #[.bool false, .slice none 0 0, .int .i64 0, .slice none 0 0, .int .i64 0, .string (⟨#[]⟩ : ByteArray), .slice none 0 0, .int .i64 0, .int .i64 0, .slice none 0 0, .bool false] ?_ ?h1; (case h1 => intro u hu; simp only [List.mem_cons, List.not_mem_nil, or_false] at hu; rcases hu with rfl | rfl | rfl | rfl | rfl | rfl | rfl | rfl | rfl | rfl | rfl <;> first | rfl | assumption); intro w90 bkc hk hlow; replace HB := Aside0.mk (hlow _ _ (zb HB) S4.out); replace BK4 := bkc; clear hk hlow bkc))
  refine bodyPost_ret (results_ct rfl _ _ g4 42 #[.bool false, .slice none 0 0, .int .i64 0, .slice none 0 0, .int .i64 0, .string (⟨#[]⟩ : ByteArray), .slice none 0 0, .int .i64 0, .int .i64 0, .slice none 0 0, .bool false] (0, 0) _ rfl (zp BK4) Try.underlying42 rfl (by kernel_rfl)) rfl ?_
  exact ⟨_, _, _, _, ze, EX.nil _ _ _, zb HB⟩
 | true =>
  rw [if_pos rfl] at H
  obtain ⟨⟨y0, y1, y2, y3, y4, y5, y6, y7, y8, y9, y10⟩, A2, Hn_⟩ := ob H
  replace H := Hn_
  clear Hn_
  dsimp only at H
  obtain ⟨i, A3, Hn_⟩ := ob H
  replace H := Hn_
  clear Hn_
  dsimp only [uE, withE] at H
  have HC := Aside0.mk H
  clear H
  go_upto_region 5 with (first | ((with_reducible refine gd 12 rfl ?_); refine ld BK2 0 ([.bool x0, v1, .int .i64 x2, v3, .int .i64 x4, .string x5, v6, .int .i64 x7, .int .i64 x8, v9, .bool x10] : List Value) Try.underlying42 ?_) | ((with_reducible refine gq 77 rfl ?_); refine gl (some 13) Try.func77 #[.agg #[.bool x0, v1, .int .i64 x2, v3, .int .i64 x4, .string x5, v6, .int .i64 x7, .int .i64 x8, v9, .bool x10]] ?_; (refine (impl_End_clone.callsX k y0 y1 y2 y3 y4 y5 y6 y7 y8 y9 y10 _ (zx HX) A2.out).mono ?_); rintro e w13 ⟨q1, q3, q6, q9, rfl, ho, hb⟩; refine ⟨_, rfl, ?_⟩; obtain ⟨A6, c6, e6, _⟩ := ho.reads.2.2.1; subst e6; have l2 := Nat.lt_of_lt_of_le (blk_lt BK2.out) (ms (w := w9)); have l4 := Nat.lt_of_lt_of_le (blk_lt BK4.out) (ms (w := w9)); have S0 := Aside0.mk (below_size HB.out); clear HX; have HX := Aside0.mk ((ho.mono (B' := fun k => w9.heap.size ≤ k ∧ k < w13.heap.size) (fun _ _ h h2 => ⟨Nat.le_trans ms h, h2⟩)).low (below_size (zb HB))); have N2 := Aside0.mk (show ¬ (w9.heap.size ≤ g2 ∧ g2 < w13.heap.size) from fun h => Nat.not_le.2 (blk_lt BK2.out) h.1); have N4 := Aside0.mk (show ¬ (w9.heap.size ≤ g4 ∧ g4 < w13.heap.size) from fun h => Nat.not_le.2 (blk_lt BK4.out) h.1); replace BK2 := kb BK2 hb; replace BK4 := kb BK4 hb; replace HB := Aside0.mk (below_step (zb HB) hb); clear hb; clear ho l2 l4) | ((with_reducible refine gd 6 rfl ?_); refine bx (N := 6) (cs := #[.bool false, .slice none 0 0, .int .i64 0, .slice none 0 0, .int .i64 0, .string (⟨#[]⟩ : ByteArray), .slice none 0 0, .int .i64 0, .int .i64 0, .slice none 0 0, .bool false]) (t := 42) ?_; intro g6 hg w6 hbox hb; have BK6 := Aside0.mk hbox; have S6 := gw HB hg; obtain ⟨N46, N64⟩ := nb BK4 hg; obtain ⟨N26, N62⟩ := nb BK2 hg; have N6 := Aside0.mk (show ¬ (w9.heap.size ≤ g6 ∧ g6 < w13.heap.size) from fun h => Nat.not_le.2 h.2 (by rw [hg]; exact ms)); replace BK2 := kb BK2 hb; replace BK4 := kb BK4 hb; replace HX := Aside0.mk ((zx HX).below hb); replace HB := Aside0.mk (below_step (zb HB) hb); clear hb; clear hbox hg) | ((with_reducible refine gate_store (t := 42) (p := 6) rfl ?_); refine sd BK6 0 ([.bool y0, q1, .int .i64 y2, q3, .int .i64 y4, .string y5, .slice A6 y6.length c6, .int .i64 y7, .int .i64 y8, q9, .bool y10] : List Value) #[.bool y0, q1, .int .i64 y2, q3, .int .i64 y4, .string y5, .slice A6 y6.length c6, .int .i64 y7, .int .i64 y8, q9, .bool y10] ?_ ?h1; (case h1 => obtain ⟨o1, o3, o6, o9⟩ := (zx HX).ones; intro u hu; simp only [List.mem_cons, List.not_mem_nil, or_false] at hu; rcases hu with rfl | rfl | rfl | rfl | rfl | rfl | rfl | rfl | rfl | rfl | rfl <;> first | rfl | assumption); intro w14 bkc hk hlow; replace HX := Aside0.mk ((zx HX).keep hk N6.out); replace BK4 := Aside0.mk (KeepBut.blk hk (zk BK4) N46.out (by simp)); replace BK2 := Aside0.mk (KeepBut.blk hk (zk BK2) N26.out (by simp)); replace HB := Aside0.mk (hlow _ _ (zb HB) S6.out); replace BK6 := bkc; clear hk hlow bkc) | ((with_reducible refine gq 105 rfl ?_); refine gl (some 15) Try.func105 #[.pointer (some ⟨g6, 0, none⟩), .int .i64 id] ?_; (refine (impl_End_stream.calls k g6 A6 c6 id i _ (zk BK6) ((zx HX).reads6) A3.out).mono ?_); rintro e w15 ⟨p, rfl, hn, hb⟩; refine ⟨_, rfl, ?_⟩; have HN := Aside0.mk hn.1; have HP := Aside0.mk hn.2; replace BK2 := kb BK2 hb; replace BK4 := kb BK4 hb; replace BK6 := kb BK6 hb; replace HX := Aside0.mk ((zx HX).below hb); replace HB := Aside0.mk (below_step (zb HB) hb); clear hb; clear hn))
  (try simp only [Act.put, s1, s2, s3])
  have H := HC.out
  clear HC
  have hz0 := cz (v := .bool x0) BK2 0 rfl
  cases x0 with
  | true =>
   rw [if_pos rfl] at H
   simp only [Option.some.injEq, Prod.mk.injEq] at H
   obtain ⟨⟨rfl, rfl, rfl, rfl, rfl, rfl, rfl, rfl, rfl, rfl, rfl⟩, rfl⟩ := H
   go_wp2_with (first | ((with_reducible refine gd 29 rfl ?_); refine ld BK6 0 ([.bool y0, q1, .int .i64 y2, q3, .int .i64 y4, .string y5, .slice A6 y6.length c6, .int .i64 y7, .int .i64 y8, q9, .bool y10] : List Value) Try.underlying42 ?_) | ((with_reducible refine gate_store (t := 42) (p := 4) rfl ?_); refine sd BK4 0 ([.bool y0, q1, .int .i64 y2, q3, .int .i64 y4, .string y5, .slice A6 y6.length c6, .int .i64 y7, .int .i64 y8, q9, .bool y10] : List Value) #[.bool y0, q1, .int .i64 y2, q3, .int .i64 y4, .string y5, .slice A6 y6.length c6, .int .i64 y7, .int .i64 y8, q9, .bool y10] ?_ ?h1; (case h1 => obtain ⟨o1, o3, o6, o9⟩ := (zx HX).ones; intro u hu; simp only [List.mem_cons, List.not_mem_nil, or_false] at hu; rcases hu with rfl | rfl | rfl | rfl | rfl | rfl | rfl | rfl | rfl | rfl | rfl <;> first | rfl | assumption); intro w29 bkc hk hlow; replace HX := Aside0.mk ((zx HX).keep hk N4.out); replace HB := Aside0.mk (hlow _ _ (zb HB) S4.out); replace BK4 := bkc; clear hk hlow bkc))
   refine bodyPost_ret (results_ct rfl _ _ g4 42 #[.bool y0, q1, .int .i64 y2, q3, .int .i64 y4, .string y5, .slice A6 y6.length c6, .int .i64 y7, .int .i64 y8, q9, .bool y10] (0, 0) _ rfl (zp BK4) Try.underlying42 rfl (by kernel_rfl)) rfl ?_
   exact ⟨_, _, _, _, ze, (zx HX).mono (fun _ _ _ _ => trivial), zb HB⟩
  | false =>
   rw [if_neg (by decide)] at H
   by_cases c2 : i < 0
   ·rw [if_pos c2] at H
    obtain rfl := HN.out c2
    simp only [Option.some.injEq, Prod.mk.injEq] at H
    obtain ⟨⟨rfl, rfl, rfl, rfl, rfl, rfl, rfl, rfl, rfl, rfl, rfl⟩, rfl⟩ := H
    go_wp2_with (first | ((with_reducible refine gd 29 rfl ?_); refine ld BK6 0 ([.bool y0, q1, .int .i64 y2, q3, .int .i64 y4, .string y5, .slice A6 y6.length c6, .int .i64 y7, .int .i64 y8, q9, .bool y10] : List Value) Try.underlying42 ?_) | ((with_reducible refine gate_store (t := 42) (p := 4) rfl ?_); refine sd BK4 0 ([.bool y0, q1, .int .i64 y2, q3, .int .i64 y4, .string y5, .slice A6 y6.length c6, .int .i64 y7, .int .i64 y8, q9, .bool y10] : List Value) #[.bool y0, q1, .int .i64 y2, q3, .int .i64 y4, .string y5, .slice A6 y6.length c6, .int .i64 y7, .int .i64 y8, q9, .bool y10] ?_ ?h1; (case h1 => obtain ⟨o1, o3, o6, o9⟩ := (zx HX).ones; intro u hu; simp only [List.mem_cons, List.not_mem_nil, or_false] at hu; rcases hu with rfl | rfl | rfl | rfl | rfl | rfl | rfl | rfl | rfl | rfl | rfl <;> first | rfl | assumption); intro w29 bkc hk hlow; replace HX := Aside0.mk ((zx HX).keep hk N4.out); replace HB := Aside0.mk (hlow _ _ (zb HB) S4.out); replace BK4 := bkc; clear hk hlow bkc))
    refine bodyPost_ret (results_ct rfl _ _ g4 42 #[.bool y0, q1, .int .i64 y2, q3, .int .i64 y4, .string y5, .slice A6 y6.length c6, .int .i64 y7, .int .i64 y8, q9, .bool y10] (0, 0) _ rfl (zp BK4) Try.underlying42 rfl (by kernel_rfl)) rfl ?_
    exact ⟨_, _, _, _, ze, (zx HX).mono (fun _ _ _ _ => trivial), zb HB⟩
   ·rw [if_neg c2] at H
    obtain ⟨c3, ad, e6, rfl⟩ := HP.out (by omega)
    have C0 := Aside0.mk (show 0 ≤ i by omega)
    have C3 := Aside0.mk c3
    obtain ⟨gs, cs, e7⟩ := HX.out.form6 C0.out C3.out
    subst e6
    injection e7 with e7 _ e8
    injection e7 with e7
    subst e7 e8
    rw [add_at, Nat.zero_add]
    obtain ⟨GS, GB, hx1, hx4, hf1, hN⟩ := HX.out.at6 C0.out C3.out
    have NX := Aside0.mk hN
    replace GS := Aside0.mk GS
    replace GB := Aside0.mk GB
    clear hN
    by_cases c4 : (rd_T104 y6 i).f1 = 1
    rotate_left
    ·rw [if_neg c4] at H
     have c4b0 : ((rd_T104 y6 i).f1 == 1) = false := beq_eq_false_iff_ne.mpr c4
     have c4b1 : ((rd_T104 y6 i).f1 != 1) = true := bne_iff_ne.mpr c4
     simp only [Option.some.injEq, Prod.mk.injEq] at H
     obtain ⟨⟨rfl, rfl, rfl, rfl, rfl, rfl, rfl, rfl, rfl, rfl, rfl⟩, rfl⟩ := H
     go_wp2_with (first | ((with_reducible refine gd 29 rfl ?_); refine ld BK6 0 ([.bool y0, q1, .int .i64 y2, q3, .int .i64 y4, .string y5, .slice (some ⟨gs, 0, none⟩) y6.length c6, .int .i64 y7, .int .i64 y8, q9, .bool y10] : List Value) Try.underlying42 ?_) | ((with_reducible refine gate_store (t := 42) (p := 4) rfl ?_); refine sd BK4 0 ([.bool y0, q1, .int .i64 y2, q3, .int .i64 y4, .string y5, .slice (some ⟨gs, 0, none⟩) y6.length c6, .int .i64 y7, .int .i64 y8, q9, .bool y10] : List Value) #[.bool y0, q1, .int .i64 y2, q3, .int .i64 y4, .string y5, .slice (some ⟨gs, 0, none⟩) y6.length c6, .int .i64 y7, .int .i64 y8, q9, .bool y10] ?_ ?h1; (case h1 => obtain ⟨o1, o3, o6, o9⟩ := (zx HX).ones; intro u hu; simp only [List.mem_cons, List.not_mem_nil, or_false] at hu; rcases hu with rfl | rfl | rfl | rfl | rfl | rfl | rfl | rfl | rfl | rfl | rfl <;> first | rfl | assumption); intro w29 bkc hk hlow; replace HX := Aside0.mk ((zx HX).keep hk N4.out); replace HB := Aside0.mk (hlow _ _ (zb HB) S4.out); replace BK4 := bkc; clear hk hlow bkc))
     refine bodyPost_ret (results_ct rfl _ _ g4 42 #[.bool y0, q1, .int .i64 y2, q3, .int .i64 y4, .string y5, .slice (some ⟨gs, 0, none⟩) y6.length c6, .int .i64 y7, .int .i64 y8, q9, .bool y10] (0, 0) _ rfl (zp BK4) Try.underlying42 rfl (by kernel_rfl)) rfl ?_
     exact ⟨_, _, _, _, ze, (zx HX).mono (fun _ _ _ _ => trivial), zb HB⟩
    rw [if_pos c4] at H
    have c4b0 : ((rd_T104 y6 i).f1 == 1) = true := beq_iff_eq.mpr c4
    have c4b1 : ((rd_T104 y6 i).f1 != 1) = false := bne_eq_false_iff_eq.mpr c4
    go_upto_if 36 with (first | ((with_reducible refine gate_store (t := 3) (p := 32) rfl ?_); refine store_event (t := 3) (p := 32) (v := ?vo4) (w1 := w15.setCell ⟨gs, i.toNat * 12 + 1, none⟩ (.int .i64 3)) ?hg ?ho ?hn ?hr ?_; (case ho => rfl); (case hg => rfl); (case hn => rfl); (case hr => first | (go_simp; done) | (go_simp; rfl)); intro w32 hw; clear hx1 hx4 hf1; replace BK2 := Aside0.mk (blk_far2 hw BK2.out (fun e => N2.out (by rw [e]; exact GS.out))); replace BK4 := Aside0.mk (blk_far2 hw BK4.out (fun e => N4.out (by rw [e]; exact GS.out))); replace BK6 := Aside0.mk (blk_far2 hw BK6.out (fun e => N6.out (by rw [e]; exact GS.out))); replace HB := Aside0.mk (show Below w.heap.size w w32 by rw [hw]; exact below_set HB.out GB.out); have hx4 := (show w32.cell? ⟨gs, i.toNat * 12 + 4, none⟩ = some (.bool (rd_T104 y6 i).f4) by rw [hw]; exact HX.out.at4 C0.out C3.out); replace HX := Aside0.mk (NX.out.at_ hw); clear hw))
    cases hbg : (rd_T104 y6 i).f4 with
    | false =>
     rw [hbg] at H hx4
     rw [if_neg (by decide)] at H
     obtain ⟨⟨z0, z1, z2, z3, z4, z5, z6, z7, z8, z9, z10⟩, A4, Hn_⟩ := ob H
     replace H := Hn_
     clear Hn_
     simp only [Option.some.injEq, Prod.mk.injEq] at H
     obtain ⟨⟨rfl, rfl, rfl, rfl, rfl, rfl, rfl, rfl, rfl, rfl, rfl⟩, rfl⟩ := H
     go_wp2_with (first | ((with_reducible refine gd 44 rfl ?_); refine ld BK6 0 ([.bool y0, q1, .int .i64 y2, q3, .int .i64 y4, .string y5, .slice (some ⟨gs, 0, none⟩) y6.length c6, .int .i64 y7, .int .i64 y8, q9, .bool y10] : List Value) Try.underlying42 ?_) | ((with_reducible refine gq 77 rfl ?_); refine gl (some 45) Try.func77 #[.agg #[.bool y0, q1, .int .i64 y2, q3, .int .i64 y4, .string y5, .slice (some ⟨gs, 0, none⟩) y6.length c6, .int .i64 y7, .int .i64 y8, q9, .bool y10]] ?_; (refine (impl_End_clone.callsX k z0 z1 z2 z3 z4 z5 z6 z7 z8 z9 z10 _ (zx HX) A4.out).mono ?_); rintro e w45 ⟨t1, t3, t6, t9, rfl, ho, hb⟩; refine ⟨_, rfl, ?_⟩; have l4 := blk_lt BK4.out; clear HX; have HX := Aside0.mk ((ho.mono (B' := fun k => w32.heap.size ≤ k) (fun _ _ h _ => Nat.le_trans ms h)).low (below_size (zb HB))); replace N4 := Aside0.mk (show ¬ w32.heap.size ≤ g4 from Nat.not_le.2 l4); replace BK4 := kb BK4 hb; replace HB := Aside0.mk (below_step (zb HB) hb); clear hb ho l4) | ((with_reducible refine gate_store (t := 42) (p := 4) rfl ?_); refine sd BK4 0 ([.bool z0, t1, .int .i64 z2, t3, .int .i64 z4, .string z5, t6, .int .i64 z7, .int .i64 z8, t9, .bool z10] : List Value) #[.bool z0, t1, .int .i64 z2, t3, .int .i64 z4, .string z5, t6, .int .i64 z7, .int .i64 z8, t9, .bool z10] ?_ ?h1; (case h1 => obtain ⟨o1, o3, o6, o9⟩ := (zx HX).ones; intro u hu; simp only [List.mem_cons, List.not_mem_nil, or_false] at hu; rcases hu with rfl | rfl | rfl | rfl | rfl | rfl | rfl | rfl | rfl | rfl | rfl <;> first | rfl | assumption); intro w92 bkc hk hlow; replace HX := Aside0.mk ((zx HX).keep hk N4.out); replace HB := Aside0.mk (hlow _ _ (zb HB) S4.out); replace BK4 := bkc; clear hk hlow bkc))
     refine bodyPost_ret (results_ct rfl _ _ g4 42 #[.bool z0, t1, .int .i64 z2, t3, .int .i64 z4, .string z5, t6, .int .i64 z7, .int .i64 z8, t9, .bool z10] (0, 0) _ rfl (zp BK4) Try.underlying42 rfl (by kernel_rfl)) rfl ?_
     exact ⟨_, _, _, _, ze, (zx HX).mono (fun _ _ _ _ => trivial), zb HB⟩
    | true =>
     rw [hbg] at H hx4
     rw [if_pos rfl] at H
     by_cases c5 : y9.length < 3518437208883
     rotate_left
     ·rw [if_neg c5] at H
      cases H
     rw [if_pos c5] at H
     obtain ⟨⟨z0, z1, z2, z3, z4, z5, z6, z7, z8, z9, z10⟩, A4, Hn_⟩ := ob H
     replace H := Hn_
     clear Hn_
     simp only [Option.some.injEq, Prod.mk.injEq] at H
     obtain ⟨⟨rfl, rfl, rfl, rfl, rfl, rfl, rfl, rfl, rfl, rfl, rfl⟩, rfl⟩ := H
     have C5 := Aside0.mk c5
     clear c5
     have hz9 := cz (v := q9) BK6 9 rfl
     go_wp2_with (first | ((with_reducible refine gate_builtin (b := .append) (xs := #[.tmp 38, .tmp 41]) rfl ?_); at_builtin; refine Kd.R_append k110 (w0 := w) w.heap.size rfl (.tmp 38) (.tmp 41) 40 110 (.agg #[(.int .i64 0), (.bool false), (.int .i64 0), (.string ⟨#[]⟩)]) 40 rfl Try.underlying40 info110 rfl (by decide) (by omega) q9 y9 (⟨3, false, id, (⟨#[]⟩ : ByteArray)⟩ : S110) [.int .i64 3, .bool false, .int .i64 id, .string (⟨#[]⟩ : ByteArray)] (fun k_ => some k_ = (q9 : Value).ownBlock ∨ w32.heap.size ≤ k_) (fun _ => False) rfl (by first | (go_simp; done) | (go_simp; rfl)) ?aP (fun _ hk => hk.elim) ?aF ?aO ?aB ?aS ?aL ?_; (case aP => exact k110_mkM _ _ _ (⟨3, false, id, (⟨#[]⟩ : ByteArray)⟩ : S110)); (case aB => exact (zb HB)); (case aF => exact (fun k_ hk => .inr hk)); (case aO => exact Kd.R_mono HX.out.rw9 (fun _ h => .inl h)); (case aS => exact (below_size (zb HB))); (case aL => have := C5.out; omega); intro u9 w42 ho hb hg hat; obtain ⟨Au, nu, cu, rfl⟩ : ∃ A n c, u9 = Value.slice A n c := (by obtain ⟨A, c, e⟩ := Kd.R_slice ho; exact ⟨A, _, c, e⟩); clear hz9 hx4; have l6 := blk_lt BK6.out; have l4 := blk_lt BK4.out; replace BK6 := Aside0.mk (blk_grown BK6.out hg (HX.out.ne9 N6.out)); replace BK4 := Aside0.mk (blk_grown BK4.out hg (HX.out.ne9 N4.out)); replace N6 := Aside0.mk (show ¬ ((w9.heap.size ≤ g6 ∧ g6 < w13.heap.size) ∨ w32.heap.size ≤ g6) from fun h => h.elim N6.out (Nat.not_le.2 l6)); replace HX := Aside0.mk (HX.out.app9 ho hg); replace HB := Aside0.mk hb; have hz9 := cz (v := q9) BK6 9 rfl; have hf9 := blk_frozen BK6.out 9; clear l6 l4; clear ho hb hg hat) | ((with_reducible refine gate_store (t := 40) (p := 43) rfl ?_); refine store_event (t := 40) (p := 43) (v := ?vo5) (w1 := w42.setCell ⟨g6, 9, none⟩ (.slice Au nu cu)) ?hg ?ho ?hn ?hr ?_; (case ho => rfl); (case hg => rfl); (case hn => rfl); (case hr => first | (go_simp; done) | (go_simp; rfl)); intro w43 hw; clear hz9 hf9; replace BK6 := Aside0.mk (show w43.heap[g6]? = some (.cells #[.bool y0, q1, .int .i64 y2, q3, .int .i64 y4, .string y5, .slice (some ⟨gs, 0, none⟩) y6.length c6, .int .i64 y7, .int .i64 y8, .slice Au nu cu, .bool y10] 42 (0, 0)) from blk_put2 hw BK6.out rfl); replace BK4 := Aside0.mk (blk_far2 hw BK4.out N46.out); replace HB := Aside0.mk (show Below w.heap.size w w43 by rw [hw]; exact below_set HB.out S6.out); replace HX := Aside0.mk ((HX.out.setb N6.out 9 (.slice Au nu cu)).at_ hw); clear hw) | ((with_reducible refine gd 44 rfl ?_); refine ld BK6 0 ([.bool y0, q1, .int .i64 y2, q3, .int .i64 y4, .string y5, .slice (some ⟨gs, 0, none⟩) y6.length c6, .int .i64 y7, .int .i64 y8, .slice Au nu cu, .bool y10] : List Value) Try.underlying42 ?_) | ((with_reducible refine gq 77 rfl ?_); refine gl (some 45) Try.func77 #[.agg #[.bool y0, q1, .int .i64 y2, q3, .int .i64 y4, .string y5, .slice (some ⟨gs, 0, none⟩) y6.length c6, .int .i64 y7, .int .i64 y8, .slice Au nu cu, .bool y10]] ?_; (refine (impl_End_clone.callsX k z0 z1 z2 z3 z4 z5 z6 z7 z8 z9 z10 _ (zx HX) A4.out).mono ?_); rintro e w45 ⟨t1, t3, t6, t9, rfl, ho, hb⟩; refine ⟨_, rfl, ?_⟩; have l4 := blk_lt BK4.out; clear HX; have HX := Aside0.mk ((ho.mono (B' := fun k => w43.heap.size ≤ k) (fun _ _ h _ => Nat.le_trans ms h)).low (below_size (zb HB))); replace N4 := Aside0.mk (show ¬ w43.heap.size ≤ g4 from Nat.not_le.2 l4); replace BK4 := kb BK4 hb; replace HB := Aside0.mk (below_step (zb HB) hb); clear hb ho l4) | ((with_reducible refine gate_store (t := 42) (p := 4) rfl ?_); refine sd BK4 0 ([.bool z0, t1, .int .i64 z2, t3, .int .i64 z4, .string z5, t6, .int .i64 z7, .int .i64 z8, t9, .bool z10] : List Value) #[.bool z0, t1, .int .i64 z2, t3, .int .i64 z4, .string z5, t6, .int .i64 z7, .int .i64 z8, t9, .bool z10] ?_ ?h1; (case h1 => obtain ⟨o1, o3, o6, o9⟩ := (zx HX).ones; intro u hu; simp only [List.mem_cons, List.not_mem_nil, or_false] at hu; rcases hu with rfl | rfl | rfl | rfl | rfl | rfl | rfl | rfl | rfl | rfl | rfl <;> first | rfl | assumption); intro w92 bkc hk hlow; replace HX := Aside0.mk ((zx HX).keep hk N4.out); replace HB := Aside0.mk (hlow _ _ (zb HB) S4.out); replace BK4 := bkc; clear hk hlow bkc))
     refine bodyPost_ret (results_ct rfl _ _ g4 42 #[.bool z0, t1, .int .i64 z2, t3, .int .i64 z4, .string z5, t6, .int .i64 z7, .int .i64 z8, t9, .bool z10] (0, 0) _ rfl (zp BK4) Try.underlying42 rfl (by kernel_rfl)) rfl ?_
     exact ⟨_, _, _, _, ze, (zx HX).mono (fun _ _ _ _ => trivial), zb HB⟩
end Go.Proofs.Ytlpibelofcabhaa.PFnExactEndLeave
