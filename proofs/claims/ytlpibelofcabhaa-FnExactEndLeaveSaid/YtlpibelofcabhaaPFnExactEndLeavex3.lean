-- WRITTEN BY a turned print (wip/tools of the prover's repo)
import Derived.Test.YtlpibelofcabhaaPFnExactEndLeavex0
import Derived.Test.YtlpibelofcabhaaPFnExactEndLeavex2
namespace Go.Proofs.Ytlpibelofcabhaa.PFnExactEndLeave
open Go.RowKit Go.Proofs.YtlpibelofcabhaaW.PrintWords Go.Proofs.YtlpibelofcabhaaW.PrintLast Go.Proofs.YtlpibelofcabhaaW.PrintMore Go.Proofs.Ytlpibelofcabhaa.Lm
attribute [local go_sem] max2_int min2_int max_two min_two max_three min_three max_four min_four   -- for this text's walks alone
set_option linter.unusedVariables false
set_option linter.unusedSimpArgs false

/-! ### laws_markEnd: function 23 -/
-- by hand
theorem H_step1 {α : Type} {d : Kd α} {e base : Nat} {w w1 : World} {ok oki : Nat → Prop} {v : Value} {xs : List α} {i : Int} {c : List Value} (h : Kd.H d e w base ok v xs i oki c) (hm : ∀ k, ok k → ¬ oki k → k < w.heap.size → w1.heap[k]? = w.heap[k]?) : Kd.H d e w1 base ok v xs i oki c := by
  obtain ⟨ho, f, h⟩ := h
  exact ⟨ho, f, Kd.R_step h (fun k hk hlt => hm k hk.1 hk.2 hlt)⟩
section
variable {w0 w W W' : World} {P oki : Nat → Prop} {g n cap : Nat} {xs : List S104} {i : Int} {c : List Value} {v2 v7 : Value} {f2 f7 r : List S88}
/-- Element i of a row of streams, lent: the row without it, its two rows; all that stays. -/
structure LS (w0 w : World) (P : Nat → Prop) (g n cap : Nat) (xs : List S104) (i : Int) (oki : Nat → Prop) (c : List Value) (v2 v7 : Value) (f2 f7 : List S88) (W : World) : Prop where
  h : Kd.H k104 104 W w0.heap.size (fun k => P k ∨ w.heap.size ≤ k) (.slice (some ⟨g, 0, none⟩) n cap) xs i oki c
  r2 : Kd.R k88 88 W w0.heap.size (fun k => some k = v2.ownBlock) v2 f2
  r7 : Kd.R k88 88 W w0.heap.size (fun k => some k = v7.ownBlock) v7 f7
  hk : Kept w W P
  hb : Below w0.heap.size w0 W
  i0 : 0 ≤ i
  i1 : i < n
  gb : w0.heap.size ≤ g
  gp : P g ∨ w.heap.size ≤ g
  o2 : ∀ k, some k = v2.ownBlock → oki k ∧ k ≠ g
  o7 : ∀ k, some k = v7.ownBlock → oki k ∧ k ≠ g
  op : ∀ k, oki k → P k ∨ w.heap.size ≤ k
  ap : ∀ k, some k = v2.ownBlock → some k ≠ v7.ownBlock
  fz : ∃ cells, W.heap[g]? = some (.cells cells 104 (0, 0))
theorem LS.cell (L : LS w0 w P g n cap xs i oki c v2 v7 f2 f7 W) (j : Nat) (u : Value) (hu : c[j]? = some u) : W.cell? ⟨g, i.toNat * 12 + j, none⟩ = some u := by
  obtain ⟨_, _, _, _, _, hc, _⟩ := Kd.H_raw L.h L.i0 L.i1
  exact hc j u hu
theorem LS.froz (L : LS w0 w P g n cap xs i oki c v2 v7 f2 f7 W) (j : Nat) : W.frozen? ⟨g, j, none⟩ = false := by
  obtain ⟨cells, h⟩ := L.fz
  exact blk_frozen h _
theorem set_seg {c : List Value} {j : Nat} {u : Value} (hj : j < c.length) : c.take j ++ [u] ++ c.drop (j + 1) = c.set j u := by
  rw [List.set_eq_take_append_cons_drop, if_pos hj]; simp
theorem LS.put (L : LS w0 w P g n cap xs i oki c v2 v7 f2 f7 W) (hc : c.length = 12) (j : Nat) (u : Value) (hj : j < 12) (hu : u.oneCell' = true) : LS w0 w P g n cap xs i oki (c.set j u) v2 v7 f2 f7 (W.setCell ⟨g, i.toNat * 12 + j, none⟩ u) := by
  have h1 := Kd.H_seg L.h L.i0 L.i1 (seg := [u]) (j := j) (by show j + 1 ≤ 12; omega) (by intro q hq; rw [List.mem_singleton.1 hq]; exact hu)
  have h2 : W.setCells g (i.toNat * k104.sz + j) [u] = W.setCell ⟨g, i.toNat * 12 + j, none⟩ u := rfl
  rw [h2] at h1
  obtain ⟨h3, h4⟩ := h1
  rw [show j + [u].length = j + 1 from rfl, set_seg (by omega)] at h3
  refine ⟨h3, ?_, ?_, ?_, below_set L.hb L.gb, L.i0, L.i1, L.gb, L.gp, L.o2, L.o7, L.op, L.ap, ?_⟩
  · exact Kd.R_step L.r2 (fun k hk _ => Below.heap_setCell W _ u k (L.o2 k hk).2)
  · exact Kd.R_step L.r7 (fun k hk _ => Below.heap_setCell W _ u k (L.o7 k hk).2)
  · exact Kept.setCell L.hk L.gp u
  · obtain ⟨cells, hh⟩ := L.fz
    exact ⟨_, blk_put hh _ u rfl⟩
theorem LS.below (L : LS w0 w P g n cap xs i oki c v2 v7 f2 f7 W) (hb : Below W.heap.size W W') : LS w0 w P g n cap xs i oki c v2 v7 f2 f7 W' := by
  refine ⟨H_step1 L.h (fun k _ _ hlt => hb.block k hlt), Kd.R_below L.r2 hb, Kd.R_below L.r7 hb, L.hk.below hb, below_step L.hb hb, L.i0, L.i1, L.gb, L.gp, L.o2, L.o7, L.op, L.ap, ?_⟩
  obtain ⟨cells, hh⟩ := L.fz
  exact ⟨_, blk_below hh hb⟩
theorem LS.mark2 (L : LS w0 w P g n cap xs i oki c v2 v7 f2 f7 W) (hr : Kd.R k88 88 W' w0.heap.size (fun k => some k = v2.ownBlock ∨ W.heap.size ≤ k) v2 r) (hb : Below w0.heap.size w0 W') (hk : Kept W W' (fun k => some k = v2.ownBlock)) : LS w0 w P g n cap xs i oki c v2 v7 r f7 W' := by
  refine ⟨H_step1 L.h (fun k _ hn hlt => hk.2 k hlt (fun h => hn (L.o2 k h).1)), Kd.R_tight rfl hr, Kd.R_step L.r7 (fun k h hlt => hk.2 k hlt (fun h2 => L.ap k h2 h)), L.hk.then_ hk (fun k h => L.op k (L.o2 k h).1), hb, L.i0, L.i1, L.gb, L.gp, L.o2, L.o7, L.op, L.ap, ?_⟩
  obtain ⟨cells, hh⟩ := L.fz
  exact ⟨cells, (hk.2 g (blk_lt hh) (fun h => (L.o2 g h).2 rfl)).trans hh⟩
theorem LS.mark7 (L : LS w0 w P g n cap xs i oki c v2 v7 f2 f7 W) (hr : Kd.R k88 88 W' w0.heap.size (fun k => some k = v7.ownBlock ∨ W.heap.size ≤ k) v7 r) (hb : Below w0.heap.size w0 W') (hk : Kept W W' (fun k => some k = v7.ownBlock)) : LS w0 w P g n cap xs i oki c v2 v7 f2 r W' := by
  refine ⟨H_step1 L.h (fun k _ hn hlt => hk.2 k hlt (fun h => hn (L.o7 k h).1)), Kd.R_step L.r2 (fun k h hlt => hk.2 k hlt (fun h2 => L.ap k h h2)), Kd.R_tight rfl hr, L.hk.then_ hk (fun k h => L.op k (L.o7 k h).1), hb, L.i0, L.i1, L.gb, L.gp, L.o2, L.o7, L.op, L.ap, ?_⟩
  obtain ⟨cells, hh⟩ := L.fz
  exact ⟨cells, (hk.2 g (blk_lt hh) (fun h => (L.o7 g h).2 rfl)).trans hh⟩
theorem LS.enter' {v : Value} (hS : Kd.S k104 104 W w0.heap.size (fun k => P k ∨ w.heap.size ≤ k) v xs) (hk : Kept w W P) (hb : Below w0.heap.size w0 W) (i0 : 0 ≤ i) (i1 : i < xs.length) :
    ∃ g cap oki v2 v7, v = .slice (some ⟨g, 0, none⟩) xs.length cap ∧ LS w0 w P g xs.length cap xs i oki [.int .i64 (rd_T104 xs i).f0, .int .i64 (rd_T104 xs i).f1, v2, .string (rd_T104 xs i).f3, .bool (rd_T104 xs i).f4, .bool (rd_T104 xs i).f5, .int .i64 (rd_T104 xs i).f6, v7, .string (rd_T104 xs i).f8, .bool (rd_T104 xs i).f9, .int .i64 (rd_T104 xs i).f10.f0, .int .i64 (rd_T104 xs i).f10.f1] v2 v7 (rd_T104 xs i).f2 (rd_T104 xs i).f7 W := by
  obtain ⟨g, cap, rfl, gb, gl, hh⟩ := Kd.S_form hS (by omega)
  obtain ⟨oki, c, hcl, hM, hcc, hfr, hoki, hH⟩ := Kd.S_elem hS z104 i i0 i1
  have hp := hM.2
  obtain ⟨v2, v7, rfl, h2, h7⟩ := k104_openM hM
  refine ⟨g, cap, oki, v2, v7, rfl, hH, Kd.R_tight rfl h2, Kd.R_tight rfl h7, hk, hb, i0, i1, gb, (Kd.S_R hS).1 g (by simp [Value.ownBlock]), fun k h => ⟨h2.1 k h.symm, (hoki k (h2.1 k h.symm)).2⟩, fun k h => ⟨h7.1 k h.symm, (hoki k (h7.1 k h.symm)).2⟩, fun k h => (hoki k h).1, fun k h h' => hp v2 v7 rfl rfl k h.symm h'.symm, hh⟩
theorem LS.leave (L : LS w0 w P g n cap xs i oki c v2 v7 f2 f7 W) (x' : S104) (e2 : f2 = x'.f2) (e7 : f7 = x'.f7) (ec : c = [.int .i64 x'.f0, .int .i64 x'.f1, v2, .string x'.f3, .bool x'.f4, .bool x'.f5, .int .i64 x'.f6, v7, .string x'.f8, .bool x'.f9, .int .i64 x'.f10.f0, .int .i64 x'.f10.f1]) :
    Kd.S k104 104 W w0.heap.size (fun k => P k ∨ w.heap.size ≤ k) (.slice (some ⟨g, 0, none⟩) n cap) (xs.set i.toNat x') := by
  subst e2 e7 ec
  exact Kd.H_back (okp := oki) L.h (k104_mkM _ _ _ x' (Kd.R_mono L.r2 (fun k h => (L.o2 k h).1)) (Kd.R_mono L.r7 (fun k h => (L.o7 k h).1)) (fun k h h' => L.ap k h.symm h'.symm)) (fun k h => h)
end
def laws_markStreamS.el (x1 : Int) (p : Int × List S88) (say : ByteArray) (q : Int × List S88) (tx : ByteArray) : S104 :=
  ⟨x1, wrap64 (x1 + 1), p.2, say, Int.tmod (wrap64 (p.1 + 1)) 3 == 0, Int.tmod (wrap64 (wrap64 (p.1 + 1) + 1)) 3 == 0, wrap64 (wrap64 (wrap64 (p.1 + 1) + 1) + 1), q.2, tx, Int.tmod (wrap64 (q.1 + 1)) 3 == 0, ⟨wrap64 (wrap64 (q.1 + 1) + 1), wrap64 (wrap64 (wrap64 (q.1 + 1) + 1) + 1)⟩⟩
def laws_markStreamS.l0 : Nat → List S104 → Int → Int → Option (Int × List S104)
  | 0, _, _, _ => none
  | k + 1, x0, x1, x5 => if x5 < (x0.length : Int) then (if 0 ≤ x5 then
      (laws_markFieldS.f k (rd_T104 x0 x5).f2 (wrap64 (wrap64 (x1 + 1) + 1))).bind fun p => (laws_markText.f k p.1).bind fun say =>
      (laws_markFieldS.f k (rd_T104 x0 x5).f7 (wrap64 (wrap64 (wrap64 (wrap64 (p.1 + 1) + 1) + 1) + 1))).bind fun q => (laws_markText.f k q.1).bind fun tx =>
      laws_markStreamS.l0 k (x0.set x5.toNat (laws_markStreamS.el x1 p say q tx)) (wrap64 (wrap64 (wrap64 (wrap64 (q.1 + 1) + 1) + 1) + 1)) (wrap64 (x5 + 1)) else none) else some (x1, x0)
def laws_markStreamS.f (k : Nat) (l0 : List S104) (a1 : Int) : Option (Int × List S104) := laws_markStreamS.l0 k l0 a1 0
theorem laws_markStreamS.mono_l : ∀ k, (∀ y0 y1 y2, LeO (laws_markStreamS.l0 k y0 y1 y2) (laws_markStreamS.l0 (k + 1) y0 y1 y2))
 | 0 => fun _ _ _ r h => by simp [laws_markStreamS.l0] at h
 | k + 1 => by
  have ih0 := laws_markStreamS.mono_l k
  ·intro y0 y1 y2
   unfold laws_markStreamS.l0
   have m0 := @laws_markText.mono
   have m1 := @laws_markFieldS.mono
   exact zm
theorem laws_markStreamS.mono : ∀ a0 a1 k, LeO (laws_markStreamS.f k a0 a1) (laws_markStreamS.f (k + 1) a0 a1) := by
 intro a0 a1 k
 have ih0 := laws_markStreamS.mono_l k
 unfold laws_markStreamS.f
 exact zm
set_option maxHeartbeats 8000000 in
set_option maxRecDepth 100000 in
theorem laws_markStreamS.calls (k : Nat) (P0_ : Nat → Prop) (u9000_ : Value) (l0 : List S104) (a1 : Int) (r1 : Int) (r2 : List S104) (w0 w : World) (hB : Below w0.heap.size w0 w) (ho0 : Kd.S k104 104 w w0.heap.size P0_ u9000_ l0) (h : laws_markStreamS.f k l0 a1 = some (r1, r2)) :
  Calls Try.prog 71 #[u9000_, .int .i64 a1] w fun e w' => e = .returned (.int .i64 r1) ∧ Kd.S k104 104 w' w0.heap.size (fun k_ => (P0_ k_ ∨ w.heap.size ≤ k_)) u9000_ r2 ∧ Below w0.heap.size w0 w' ∧ Kept w w' (fun k_ => P0_ k_) := by
 have HO0 := Aside0.mk (show Kd.S k104 104 w w0.heap.size (fun k_ => (P0_ k_ ∨ w.heap.size ≤ k_)) u9000_ l0 from Kd.S_mono ho0 (fun k_ hk => (.inl hk)))
 have HK := Aside0.mk (Kept.refl w (fun k_ => P0_ k_))
 have HB := Aside0.mk hB
 clear hB ho0
 have H' := Aside0.mk (show (laws_markStreamS.l0 k l0 a1 0) = some (r1, r2) from h)
 clear h
 go_enter Try.func71, Try.ntmps71
 go_wp2
 go_loopg [1, 5] k (fun kq v1 v5 w' => ∃ (x0_1 : List (S104)) (x1_1 : Int) (x5_1 : Int), v1 = .int .i64 x1_1 ∧ v5 = .int .i64 x5_1 ∧ Aside0 (laws_markStreamS.l0 kq x0_1 x1_1 x5_1 = some (r1, r2)) ∧ Aside0 (kq ≤ k) ∧ Aside0 (Kd.S k104 104 w' w0.heap.size (fun k_ => (P0_ k_ ∨ w.heap.size ≤ k_)) u9000_ x0_1) ∧ Aside0 (Kept w w' (fun k_ => P0_ k_)) ∧ Aside0 (Below w0.heap.size w0 w'))
 case atStart => exact ⟨(l0), (a1), (0), zs, zs, H', ⟨Nat.le_refl _⟩, HO0, HK, HB⟩
 case round =>
  clear H' HO0 HK HB
  obtain ⟨x0_1, x1_1, x5_1, rfl, rfl, HA, HK1, HO_0, HK, HB⟩ := hrel
  cases gk with
  | zero => exact absurd HA.out (by simp [laws_markStreamS.l0])
  | succ k1 =>
   have H := HA.out
   clear HA
   simp only [laws_markStreamS.l0] at H
   obtain ⟨Ao10, co10, eo10⟩ := Kd.S_slice HO_0.out
   split at H
   · rename_i c3
     have c3b0 := decide_eq_true c3
     split at H
     case isFalse => cases H
     rename_i c5
     have c5b0 := decide_eq_true c5
     obtain ⟨p, A4, H⟩ := ob H
     obtain ⟨say, A5, H⟩ := ob H
     obtain ⟨q, A6, H⟩ := ob H
     obtain ⟨tx, A7, H⟩ := ob H
     have H' := Aside0.mk H
     clear H
     obtain ⟨go5, cap5, oki, v2, v7, e5, HL⟩ := LS.enter' HO_0.out HK.out HB.out c5 c3
     subst e5
     have HL := Aside0.mk HL
     clear eo10
     have p6 := eq_true c5
     have q6 := eq_true c3
     clear c3 c5
     have hx := HL.out.cell 0 _ rfl
     have hf := HL.out.froz (x5_1.toNat * 12 + 0)
     rw [Nat.add_zero] at hx hf
     go_wp2_with (first | ((with_reducible refine gate_store (t := 3) (p := 16) rfl ?_); refine store_event (t := 3) (p := 16) (v := ?vo_w11) (w1 := wr.setCell ⟨go5, x5_1.toNat * 12, none⟩ (.int .i64 x1_1)) ?hg ?ho ?hn ?hr ?_; (case ho => rfl); (case hg => rfl); (case hn => rfl); (case hr => first | (go_simp; done) | (go_simp; rfl)); intro w11 hw; clear hx hf; replace HL := Aside0.mk (show LS w0 w P0_ go5 x0_1.length cap5 x0_1 x5_1 oki _ v2 v7 _ _ w11 from (by rw [hw]; exact HL.out.put rfl 0 (.int .i64 x1_1) (by decide) rfl)); clear hw; have hx := HL.out.cell 1 _ rfl; have hf := HL.out.froz (x5_1.toNat * 12 + 1)) | ((with_reducible refine gate_store (t := 3) (p := 23) rfl ?_); refine store_event (t := 3) (p := 23) (v := ?vo_w12) (w1 := w11.setCell ⟨go5, x5_1.toNat * 12 + 1, none⟩ (.int .i64 (wrap64 (x1_1 + 1)))) ?hg ?ho ?hn ?hr ?_; (case ho => rfl); (case hg => rfl); (case hn => rfl); (case hr => first | (go_simp; done) | (go_simp; rfl)); intro w12 hw; clear hx hf; replace HL := Aside0.mk (show LS w0 w P0_ go5 x0_1.length cap5 x0_1 x5_1 oki _ v2 v7 _ _ w12 from (by rw [hw]; exact HL.out.put rfl 1 (.int .i64 (wrap64 (x1_1 + 1))) (by decide) rfl)); clear hw; have hx := HL.out.cell 2 _ rfl; have hf := HL.out.froz (x5_1.toNat * 12 + 2)) | ((with_reducible refine gd 32 rfl ?_); refine gl (some 32) Try.func125 #[v2, .int .i64 (wrap64 (wrap64 (x1_1 + 1) + 1))] ?_; (refine (laws_markFieldS.calls k1 (fun k_ => some k_ = v2.ownBlock) v2 (rd_T104 x0_1 x5_1).f2 (wrap64 (wrap64 (x1_1 + 1) + 1)) p.1 p.2 w0 _ ?s1 ?s2 A4.out).mono ?_); (case s1 => exact HL.out.hb); (case s2 => exact HL.out.r2); rintro e w13 ⟨rfl, ho, hb, hk⟩; refine ⟨_, rfl, ?_⟩; clear hx hf; replace HL := Aside0.mk (HL.out.mark2 ho hb hk); clear ho hb hk) | ((with_reducible refine gd 36 rfl ?_); refine gl (some 36) Try.func102 #[.int .i64 (p.1)] ?_; (with_reducible refine (laws_markText.calls k1 (p.1) say _ A5.out).mono ?_); rintro e w14 ⟨rfl, hb⟩; refine ⟨_, rfl, ?_⟩; replace HL := Aside0.mk (HL.out.below hb); clear hb; have hx := HL.out.cell 3 _ rfl; have hf := HL.out.froz (x5_1.toNat * 12 + 3)) | ((with_reducible refine gate_store (t := 9) (p := 38) rfl ?_); refine store_event (t := 9) (p := 38) (v := ?vo_w15) (w1 := w14.setCell ⟨go5, x5_1.toNat * 12 + 3, none⟩ (.string say)) ?hg ?ho ?hn ?hr ?_; (case ho => rfl); (case hg => rfl); (case hn => rfl); (case hr => first | (go_simp; done) | (go_simp; rfl)); intro w15 hw; clear hx hf; replace HL := Aside0.mk (show LS w0 w P0_ go5 x0_1.length cap5 x0_1 x5_1 oki _ v2 v7 _ _ w15 from (by rw [hw]; exact HL.out.put rfl 3 (.string say) (by decide) rfl)); clear hw; have hx := HL.out.cell 4 _ rfl; have hf := HL.out.froz (x5_1.toNat * 12 + 4)) | ((with_reducible refine gate_store (t := 4) (p := 47) rfl ?_); refine store_event (t := 4) (p := 47) (v := ?vo_w16) (w1 := w15.setCell ⟨go5, x5_1.toNat * 12 + 4, none⟩ (.bool (Int.tmod (wrap64 (p.1 + 1)) 3 == 0))) ?hg ?ho ?hn ?hr ?_; (case ho => rfl); (case hg => rfl); (case hn => rfl); (case hr => first | (go_simp; done) | (go_simp; rfl)); intro w16 hw; clear hx hf; replace HL := Aside0.mk (show LS w0 w P0_ go5 x0_1.length cap5 x0_1 x5_1 oki _ v2 v7 _ _ w16 from (by rw [hw]; exact HL.out.put rfl 4 (.bool (Int.tmod (wrap64 (p.1 + 1)) 3 == 0)) (by decide) rfl)); clear hw; have hx := HL.out.cell 5 _ rfl; have hf := HL.out.froz (x5_1.toNat * 12 + 5)) | ((with_reducible refine gate_store (t := 4) (p := 56) rfl ?_); refine store_event (t := 4) (p := 56) (v := ?vo_w17) (w1 := w16.setCell ⟨go5, x5_1.toNat * 12 + 5, none⟩ (.bool (Int.tmod (wrap64 (wrap64 (p.1 + 1) + 1)) 3 == 0))) ?hg ?ho ?hn ?hr ?_; (case ho => rfl); (case hg => rfl); (case hn => rfl); (case hr => first | (go_simp; done) | (go_simp; rfl)); intro w17 hw; clear hx hf; replace HL := Aside0.mk (show LS w0 w P0_ go5 x0_1.length cap5 x0_1 x5_1 oki _ v2 v7 _ _ w17 from (by rw [hw]; exact HL.out.put rfl 5 (.bool (Int.tmod (wrap64 (wrap64 (p.1 + 1) + 1)) 3 == 0)) (by decide) rfl)); clear hw; have hx := HL.out.cell 6 _ rfl; have hf := HL.out.froz (x5_1.toNat * 12 + 6)) | ((with_reducible refine gate_store (t := 3) (p := 63) rfl ?_); refine store_event (t := 3) (p := 63) (v := ?vo_w18) (w1 := w17.setCell ⟨go5, x5_1.toNat * 12 + 6, none⟩ (.int .i64 (wrap64 (wrap64 (wrap64 (p.1 + 1) + 1) + 1)))) ?hg ?ho ?hn ?hr ?_; (case ho => rfl); (case hg => rfl); (case hn => rfl); (case hr => first | (go_simp; done) | (go_simp; rfl)); intro w18 hw; clear hx hf; replace HL := Aside0.mk (show LS w0 w P0_ go5 x0_1.length cap5 x0_1 x5_1 oki _ v2 v7 _ _ w18 from (by rw [hw]; exact HL.out.put rfl 6 (.int .i64 (wrap64 (wrap64 (wrap64 (p.1 + 1) + 1) + 1))) (by decide) rfl)); clear hw; have hx := HL.out.cell 7 _ rfl; have hf := HL.out.froz (x5_1.toNat * 12 + 7)) | ((with_reducible refine gd 72 rfl ?_); refine gl (some 72) Try.func125 #[v7, .int .i64 (wrap64 (wrap64 (wrap64 (wrap64 (p.1 + 1) + 1) + 1) + 1))] ?_; (refine (laws_markFieldS.calls k1 (fun k_ => some k_ = v7.ownBlock) v7 (rd_T104 x0_1 x5_1).f7 (wrap64 (wrap64 (wrap64 (wrap64 (p.1 + 1) + 1) + 1) + 1)) q.1 q.2 w0 _ ?s1 ?s2 A6.out).mono ?_); (case s1 => exact HL.out.hb); (case s2 => exact HL.out.r7); rintro e w19 ⟨rfl, ho, hb, hk⟩; refine ⟨_, rfl, ?_⟩; clear hx hf; replace HL := Aside0.mk (HL.out.mark7 ho hb hk); clear ho hb hk) | ((with_reducible refine gd 76 rfl ?_); refine gl (some 76) Try.func102 #[.int .i64 (q.1)] ?_; (with_reducible refine (laws_markText.calls k1 (q.1) tx _ A7.out).mono ?_); rintro e w20 ⟨rfl, hb⟩; refine ⟨_, rfl, ?_⟩; replace HL := Aside0.mk (HL.out.below hb); clear hb; have hx := HL.out.cell 8 _ rfl; have hf := HL.out.froz (x5_1.toNat * 12 + 8)) | ((with_reducible refine gate_store (t := 9) (p := 78) rfl ?_); refine store_event (t := 9) (p := 78) (v := ?vo_w21) (w1 := w20.setCell ⟨go5, x5_1.toNat * 12 + 8, none⟩ (.string tx)) ?hg ?ho ?hn ?hr ?_; (case ho => rfl); (case hg => rfl); (case hn => rfl); (case hr => first | (go_simp; done) | (go_simp; rfl)); intro w21 hw; clear hx hf; replace HL := Aside0.mk (show LS w0 w P0_ go5 x0_1.length cap5 x0_1 x5_1 oki _ v2 v7 _ _ w21 from (by rw [hw]; exact HL.out.put rfl 8 (.string tx) (by decide) rfl)); clear hw; have hx := HL.out.cell 9 _ rfl; have hf := HL.out.froz (x5_1.toNat * 12 + 9)) | ((with_reducible refine gate_store (t := 4) (p := 87) rfl ?_); refine store_event (t := 4) (p := 87) (v := ?vo_w22) (w1 := w21.setCell ⟨go5, x5_1.toNat * 12 + 9, none⟩ (.bool (Int.tmod (wrap64 (q.1 + 1)) 3 == 0))) ?hg ?ho ?hn ?hr ?_; (case ho => rfl); (case hg => rfl); (case hn => rfl); (case hr => first | (go_simp; done) | (go_simp; rfl)); intro w22 hw; clear hx hf; replace HL := Aside0.mk (show LS w0 w P0_ go5 x0_1.length cap5 x0_1 x5_1 oki _ v2 v7 _ _ w22 from (by rw [hw]; exact HL.out.put rfl 9 (.bool (Int.tmod (wrap64 (q.1 + 1)) 3 == 0)) (by decide) rfl)); clear hw; have hx := HL.out.cell 10 _ rfl; have hf := HL.out.froz (x5_1.toNat * 12 + 10)) | ((with_reducible refine gate_store (t := 3) (p := 95) rfl ?_); refine store_event (t := 3) (p := 95) (v := ?vo_w23) (w1 := w22.setCell ⟨go5, x5_1.toNat * 12 + 10, none⟩ (.int .i64 (wrap64 (wrap64 (q.1 + 1) + 1)))) ?hg ?ho ?hn ?hr ?_; (case ho => rfl); (case hg => rfl); (case hn => rfl); (case hr => first | (go_simp; done) | (go_simp; rfl)); intro w23 hw; clear hx hf; replace HL := Aside0.mk (show LS w0 w P0_ go5 x0_1.length cap5 x0_1 x5_1 oki _ v2 v7 _ _ w23 from (by rw [hw]; exact HL.out.put rfl 10 (.int .i64 (wrap64 (wrap64 (q.1 + 1) + 1))) (by decide) rfl)); clear hw; have hx := HL.out.cell 11 _ rfl; have hf := HL.out.froz (x5_1.toNat * 12 + 11)) | ((with_reducible refine gate_store (t := 3) (p := 103) rfl ?_); refine store_event (t := 3) (p := 103) (v := ?vo_w24) (w1 := w23.setCell ⟨go5, x5_1.toNat * 12 + 11, none⟩ (.int .i64 (wrap64 (wrap64 (wrap64 (q.1 + 1) + 1) + 1)))) ?hg ?ho ?hn ?hr ?_; (case ho => rfl); (case hg => rfl); (case hn => rfl); (case hr => first | (go_simp; done) | (go_simp; rfl)); intro w24 hw; clear hx hf; replace HL := Aside0.mk (show LS w0 w P0_ go5 x0_1.length cap5 x0_1 x5_1 oki _ v2 v7 _ _ w24 from (by rw [hw]; exact HL.out.put rfl 11 (.int .i64 (wrap64 (wrap64 (wrap64 (q.1 + 1) + 1) + 1))) (by decide) rfl)); clear hw))
     go_roundg k1
     case measure => have := HK1.out; omega
     case rel => exact ⟨_, _, _, zs, zs, H', ⟨by have := HK1.out; omega⟩, ⟨HL.out.leave (laws_markStreamS.el x1_1 p say q tx) rfl rfl rfl⟩, ⟨HL.out.hk⟩, ⟨HL.out.hb⟩⟩
   · rename_i c3
     have c3b0 := decide_eq_false c3
     clear c3
     simp only [Option.some.injEq, Prod.mk.injEq] at H
     obtain ⟨rfl, rfl⟩ := H
     subst eo10
     go_wp2
     go_ret
     exact ⟨ze, HO_0.out, HB.out, HK.out⟩
section
variable {w w' : World} {b : Nat} {P6 : Nat → Prop} {u1 u3 u6 u9 : Value} {l1 l3 r : List S88} {l6 r6 : List S104} {l9 r9 : List S110}
/-- The four rows of an end, each its own. -/
structure EB (w : World) (b : Nat) (P6 : Nat → Prop) (u1 u3 u6 u9 : Value) (l1 l3 : List S88) (l6 : List S104) (l9 : List S110) : Prop where
  r1 : Kd.R k88 88 w b (fun k => some k = u1.ownBlock) u1 l1
  r3 : Kd.R k88 88 w b (fun k => some k = u3.ownBlock) u3 l3
  s6 : Kd.S k104 104 w b P6 u6 l6
  r9 : Kd.R k110 110 w b (fun k => some k = u9.ownBlock) u9 l9
  a13 : ∀ k, some k = u1.ownBlock → some k ≠ u3.ownBlock
  a16 : ∀ k, P6 k → some k ≠ u1.ownBlock
  a36 : ∀ k, P6 k → some k ≠ u3.ownBlock
  a19 : ∀ k, some k = u1.ownBlock → some k ≠ u9.ownBlock
  a39 : ∀ k, some k = u3.ownBlock → some k ≠ u9.ownBlock
  a69 : ∀ k, P6 k → some k ≠ u9.ownBlock
def EP (P6 : Nat → Prop) (u1 u3 u9 : Value) (k : Nat) : Prop := some k = u1.ownBlock ∨ some k = u3.ownBlock ∨ P6 k ∨ some k = u9.ownBlock
theorem S_step1 {α : Type} {d : Kd α} {e : Nat} {ok : Nat → Prop} {v : Value} {xs : List α} (h : Kd.S d e w b ok v xs) (hm : ∀ k, ok k → k < w.heap.size → w'.heap[k]? = w.heap[k]?) : Kd.S d e w' b ok v xs := by
  obtain ⟨f, h⟩ := h
  exact ⟨f, Kd.R_step h hm⟩
theorem EB.kept (E : EB w b P6 u1 u3 u6 u9 l1 l3 l6 l9) {S : Nat → Prop} (hk : Kept w w' S) (hs : ∀ k, S k → ¬ EP P6 u1 u3 u9 k) : EB w' b P6 u1 u3 u6 u9 l1 l3 l6 l9 :=
  ⟨Kd.R_step E.r1 (fun k h hl => hk.2 k hl (fun h2 => hs k h2 (.inl h))), Kd.R_step E.r3 (fun k h hl => hk.2 k hl (fun h2 => hs k h2 (.inr (.inl h)))), S_step1 E.s6 (fun k h hl => hk.2 k hl (fun h2 => hs k h2 (.inr (.inr (.inl h))))), Kd.R_step E.r9 (fun k h hl => hk.2 k hl (fun h2 => hs k h2 (.inr (.inr (.inr h))))), E.a13, E.a16, E.a36, E.a19, E.a39, E.a69⟩
theorem EB.below (E : EB w b P6 u1 u3 u6 u9 l1 l3 l6 l9) (hb : Below w.heap.size w w') : EB w' b P6 u1 u3 u6 u9 l1 l3 l6 l9 := E.kept (Kept.of_below hb (fun _ => False)) (fun _ h => h.elim)
theorem EB.m1 (E : EB w b P6 u1 u3 u6 u9 l1 l3 l6 l9) (hr : Kd.R k88 88 w' b (fun k => some k = u1.ownBlock ∨ w.heap.size ≤ k) u1 r) (hk : Kept w w' (fun k => some k = u1.ownBlock)) : EB w' b P6 u1 u3 u6 u9 r l3 l6 l9 :=
  ⟨Kd.R_tight rfl hr, Kd.R_step E.r3 (fun k h hl => hk.2 k hl (fun h2 => E.a13 k h2 h)), S_step1 E.s6 (fun k h hl => hk.2 k hl (fun h2 => E.a16 k h h2)), Kd.R_step E.r9 (fun k h hl => hk.2 k hl (fun h2 => E.a19 k h2 h)), E.a13, E.a16, E.a36, E.a19, E.a39, E.a69⟩
theorem EB.m3 (E : EB w b P6 u1 u3 u6 u9 l1 l3 l6 l9) (hr : Kd.R k88 88 w' b (fun k => some k = u3.ownBlock ∨ w.heap.size ≤ k) u3 r) (hk : Kept w w' (fun k => some k = u3.ownBlock)) : EB w' b P6 u1 u3 u6 u9 l1 r l6 l9 :=
  ⟨Kd.R_step E.r1 (fun k h hl => hk.2 k hl (fun h2 => E.a13 k h h2)), Kd.R_tight rfl hr, S_step1 E.s6 (fun k h hl => hk.2 k hl (fun h2 => E.a36 k h h2)), Kd.R_step E.r9 (fun k h hl => hk.2 k hl (fun h2 => E.a39 k h2 h)), E.a13, E.a16, E.a36, E.a19, E.a39, E.a69⟩
theorem EB.m9 (E : EB w b P6 u1 u3 u6 u9 l1 l3 l6 l9) (hr : Kd.R k110 110 w' b (fun k => some k = u9.ownBlock ∨ w.heap.size ≤ k) u9 r9) (hk : Kept w w' (fun k => some k = u9.ownBlock)) : EB w' b P6 u1 u3 u6 u9 l1 l3 l6 r9 :=
  ⟨Kd.R_step E.r1 (fun k h hl => hk.2 k hl (fun h2 => E.a19 k h h2)), Kd.R_step E.r3 (fun k h hl => hk.2 k hl (fun h2 => E.a39 k h h2)), S_step1 E.s6 (fun k h hl => hk.2 k hl (fun h2 => E.a69 k h h2)), Kd.R_tight rfl hr, E.a13, E.a16, E.a36, E.a19, E.a39, E.a69⟩
theorem EB.m6 (E : EB w b P6 u1 u3 u6 u9 l1 l3 l6 l9) {N : Nat} (b1 : ∀ k, u1.ownBlock = some k → k < N) (b3 : ∀ k, u3.ownBlock = some k → k < N) (b9 : ∀ k, u9.ownBlock = some k → k < N) (hN : N ≤ w.heap.size) (hr : Kd.S k104 104 w' b (fun k => P6 k ∨ w.heap.size ≤ k) u6 r6) (hk : Kept w w' P6) : EB w' b (fun k => P6 k ∨ N ≤ k) u1 u3 u6 u9 l1 l3 r6 l9 := by
  refine ⟨Kd.R_step E.r1 (fun k h hl => hk.2 k hl (fun h2 => E.a16 k h2 h)), Kd.R_step E.r3 (fun k h hl => hk.2 k hl (fun h2 => E.a36 k h2 h)), Kd.S_mono hr (fun k h => h.elim .inl (fun h => .inr (by omega))), Kd.R_step E.r9 (fun k h hl => hk.2 k hl (fun h2 => E.a69 k h2 h)), E.a13, ?_, ?_, E.a19, E.a39, ?_⟩
  · exact fun k h h2 => h.elim (fun h => E.a16 k h h2) (fun h => by have := b1 k h2.symm; omega)
  · exact fun k h h2 => h.elim (fun h => E.a36 k h h2) (fun h => by have := b3 k h2.symm; omega)
  · exact fun k h h2 => h.elim (fun h => E.a69 k h h2) (fun h => by have := b9 k h2.symm; omega)
end
def laws_markEnd.f (k : Nat) (l1 : List S88) (a2 : Int) (l3 : List S88) (a4 : Int) (l6 : List S104) (l9 : List S110) (a1 : Int) : Option (Int × List S88 × List S88 × List S104 × List S110) :=
  (laws_markTable.f k l1 a2 a1).bind fun p => (laws_markTable.f k l3 a4 p.1).bind fun q => (laws_markStreamS.f k l6 q.1).bind fun s => (laws_markFrameS.f k l9 s.1).bind fun t => some (t.1, p.2, q.2, s.2, t.2)
theorem laws_markEnd.mono : ∀ a0 a1 a2 a3 a4 a5 a6 k, LeO (laws_markEnd.f k a0 a1 a2 a3 a4 a5 a6) (laws_markEnd.f (k + 1) a0 a1 a2 a3 a4 a5 a6) := by
 intro a0 a1 a2 a3 a4 a5 a6 k
 unfold laws_markEnd.f
 have m0 := @laws_markTable.mono
 have m1 := @laws_markStreamS.mono
 have m2 := @laws_markFrameS.mono
 exact zm
set_option maxHeartbeats 8000000 in
set_option maxRecDepth 100000 in
theorem laws_markEnd.calls (k : Nat) (a0 : Bool) (u1 : Value) (l1 : List S88) (a2 : Int) (u3 : Value) (l3 : List S88) (a4 : Int) (a5 : ByteArray) (P6 : Nat → Prop) (u6 : Value) (l6 : List S104) (a7 a8 : Int) (u9 : Value) (l9 : List S110) (a10 : Bool) (a1 r : Int) (r1 r3 : List S88) (r6 : List S104) (r9 : List S110) (w0 w : World) (hB : Below w0.heap.size w0 w)
    (he : EB w w0.heap.size P6 u1 u3 u6 u9 l1 l3 l6 l9) (hlt : ∀ k, P6 k → k < w.heap.size) (h : laws_markEnd.f k l1 a2 l3 a4 l6 l9 a1 = some (r, r1, r3, r6, r9)) :
    Calls Try.prog 23 #[.agg #[.bool a0, u1, .int .i64 a2, u3, .int .i64 a4, .string a5, u6, .int .i64 a7, .int .i64 a8, u9, .bool a10], .int .i64 a1] w fun e w' => e = .returned (.int .i64 r) ∧ EB w' w0.heap.size (fun k => P6 k ∨ w.heap.size ≤ k) u1 u3 u6 u9 r1 r3 r6 r9 ∧ Below w0.heap.size w0 w' ∧ Kept w w' (EP P6 u1 u3 u9) := by
  have H := h
  unfold laws_markEnd.f at H
  obtain ⟨p, A1, H⟩ := ob H
  obtain ⟨q, A2, H⟩ := ob H
  obtain ⟨s, A3, H⟩ := ob H
  obtain ⟨t, A4, H⟩ := ob H
  simp only [Option.some.injEq, Prod.mk.injEq] at H
  obtain ⟨rfl, rfl, rfl, rfl, rfl⟩ := H
  clear h
  have HE := Aside0.mk he
  have HB := Aside0.mk hB
  have HW := Aside0.mk (Nat.le_refl w.heap.size)
  have HK := Aside0.mk (Kept.refl w (EP P6 u1 u3 u9))
  have o1 : u1.oneCell' = true := by obtain ⟨A, c, rfl⟩ := Kd.R_slice he.r1; rfl
  have o3 : u3.oneCell' = true := by obtain ⟨A, c, rfl⟩ := Kd.R_slice he.r3; rfl
  have o6 : u6.oneCell' = true := by obtain ⟨A, c, rfl⟩ := Kd.S_slice he.s6; rfl
  have o9 : u9.oneCell' = true := by obtain ⟨A, c, rfl⟩ := Kd.R_slice he.r9; rfl
  have b1 := Kd.R_lt he.r1
  have b3 := Kd.R_lt he.r3
  have b9 := Kd.R_lt he.r9
  clear he hB
  have hu42 := Try.underlying42
  have hu25 := Try.underlying25
  have hu37 := Try.underlying37
  have hu40 := Try.underlying40
  go_enter Try.func23, Try.ntmps23
  go_wp2_with (first | ((with_reducible refine gd 2 rfl ?_); refine bx (N := 2) (cs := #[.bool a0, u1, .int .i64 a2, u3, .int .i64 a4, .string a5, u6, .int .i64 a7, .int .i64 a8, u9, .bool a10]) (t := 42) ?_; intro g hg w3 hbox hb; have BK := Aside0.mk hbox; replace HE := Aside0.mk (HE.out.below hb); replace HK := Aside0.mk (HK.out.below hb); have GW := Aside0.mk hg; have HS := Aside0.mk hb.size; replace HB := Aside0.mk (below_step (zb HB) hb); clear hb hbox hg; have hx1 := (blk_cell BK.out 1).trans rfl; have hx2 := (blk_cell BK.out 2).trans rfl; have hx3 := (blk_cell BK.out 3).trans rfl; have hx4 := (blk_cell BK.out 4).trans rfl; have hx6 := (blk_cell BK.out 6).trans rfl; have hx9 := (blk_cell BK.out 9).trans rfl) | ((with_reducible refine gd 8 rfl ?_); refine gl (some 8) Try.func70 #[.agg #[u1, .int .i64 a2], .int .i64 a1] ?_; (refine (laws_markTable.calls k (fun k_ => some k_ = u1.ownBlock) u1 l1 a2 a1 p.1 p.2 w0 _ ?s1 ?s2 A1.out).mono ?_); (case s1 => exact HB.out); (case s2 => exact HE.out.r1); rintro e w4 ⟨rfl, ho, hb, hk⟩; refine ⟨_, rfl, ?_⟩; clear hx1 hx2 hx3 hx4 hx6 hx9; have NE := Kd.R_ne HE.out.r1 BK.out (by decide); replace BK := Aside0.mk (blk_kept BK.out hk NE); clear NE; replace HE := Aside0.mk (HE.out.m1 ho hk); replace HK := Aside0.mk (HK.out.then_ hk (fun k_ h_ => .inl (.inl h_))); replace HB := Aside0.mk hb; clear ho hb hk; have hx1 := (blk_cell BK.out 1).trans rfl; have hx2 := (blk_cell BK.out 2).trans rfl; have hx3 := (blk_cell BK.out 3).trans rfl; have hx4 := (blk_cell BK.out 4).trans rfl; have hx6 := (blk_cell BK.out 6).trans rfl; have hx9 := (blk_cell BK.out 9).trans rfl) | ((with_reducible refine gd 12 rfl ?_); refine gl (some 12) Try.func70 #[.agg #[u3, .int .i64 a4], .int .i64 p.1] ?_; (refine (laws_markTable.calls k (fun k_ => some k_ = u3.ownBlock) u3 l3 a4 p.1 q.1 q.2 w0 _ ?s1 ?s2 A2.out).mono ?_); (case s1 => exact HB.out); (case s2 => exact HE.out.r3); rintro e w5 ⟨rfl, ho, hb, hk⟩; refine ⟨_, rfl, ?_⟩; clear hx1 hx2 hx3 hx4 hx6 hx9; have NE := Kd.R_ne HE.out.r3 BK.out (by decide); replace BK := Aside0.mk (blk_kept BK.out hk NE); clear NE; replace HE := Aside0.mk (HE.out.m3 ho hk); replace HK := Aside0.mk (HK.out.then_ hk (fun k_ h_ => .inl (.inr (.inl h_)))); replace HB := Aside0.mk hb; clear ho hb hk; have hx1 := (blk_cell BK.out 1).trans rfl; have hx2 := (blk_cell BK.out 2).trans rfl; have hx3 := (blk_cell BK.out 3).trans rfl; have hx4 := (blk_cell BK.out 4).trans rfl; have hx6 := (blk_cell BK.out 6).trans rfl; have hx9 := (blk_cell BK.out 9).trans rfl) | ((with_reducible refine gd 16 rfl ?_); refine gl (some 16) Try.func71 #[u6, .int .i64 q.1] ?_; (refine (laws_markStreamS.calls k P6 u6 l6 q.1 s.1 s.2 w0 _ ?s1 ?s2 A3.out).mono ?_); (case s1 => exact HB.out); (case s2 => exact HE.out.s6); rintro e w6 ⟨rfl, ho, hb, hk⟩; refine ⟨_, rfl, ?_⟩; clear hx1 hx2 hx3 hx4 hx6 hx9; replace BK := Aside0.mk (blk_kept BK.out hk (fun h_ => by have := hlt _ h_; have := GW.out; omega)); replace HE := Aside0.mk (HE.out.m6 b1 b3 b9 HK.out.1 ho hk); replace HK := Aside0.mk (HK.out.then_ hk (fun k_ h_ => .inl (.inr (.inr (.inl h_))))); replace HB := Aside0.mk hb; clear ho hb hk; have hx1 := (blk_cell BK.out 1).trans rfl; have hx2 := (blk_cell BK.out 2).trans rfl; have hx3 := (blk_cell BK.out 3).trans rfl; have hx4 := (blk_cell BK.out 4).trans rfl; have hx6 := (blk_cell BK.out 6).trans rfl; have hx9 := (blk_cell BK.out 9).trans rfl) | ((with_reducible refine gd 20 rfl ?_); refine gl (some 20) Try.func45 #[u9, .int .i64 s.1] ?_; (refine (laws_markFrameS.calls k (fun k_ => some k_ = u9.ownBlock) u9 l9 s.1 t.1 t.2 w0 _ ?s1 ?s2 A4.out).mono ?_); (case s1 => exact HB.out); (case s2 => exact HE.out.r9); rintro e w7 ⟨rfl, ho, hb, hk⟩; refine ⟨_, rfl, ?_⟩; clear hx1 hx2 hx3 hx4 hx6 hx9; replace HE := Aside0.mk (HE.out.m9 ho hk); replace HK := Aside0.mk (HK.out.then_ hk (fun k_ h_ => .inl (.inr (.inr (.inr h_))))); replace HB := Aside0.mk hb; clear ho hb hk BK))
  go_ret
  exact ⟨rfl, HE.out, HB.out, HK.out⟩

/-! ### laws_heldFrameS: function 46 -/
-- thin
def laws_heldFrameS.l0 : Nat → List (S110) → Int → Int → Option (Int)
 | 0, _, _, _ => none
 | k + 1, x0, x1, x5 => if x5 < (x0.length : Int) then (if 0 ≤ x5 then (if ((rd_T110 x0 x5).f0) = x1 then (if (((rd_T110 x0 x5).f1) != ((Int.tmod (wrap64 (x1 + 1)) 3) == 0)) = true then (some (-1)) else (if ((rd_T110 x0 x5).f2) = (wrap64 ((wrap64 (x1 + 1)) + 1)) then ((laws_markText.f k (wrap64 ((wrap64 ((wrap64 (x1 + 1)) + 1)) + 1))).bind fun t151 => (if ((rd_T110 x0 x5).f3).toList = t151.toList then (laws_heldFrameS.l0 k x0 (wrap64 ((wrap64 ((wrap64 ((wrap64 (x1 + 1)) + 1)) + 1)) + 1)) (wrap64 (x5 + 1))) else (some (-1)))) else (some (-1)))) else (some (-1))) else (none)) else (some x1)
def laws_heldFrameS.f (k : Nat) (l0 : List (S110)) (a1 : Int) : Option (Int) := laws_heldFrameS.l0 k l0 a1 0
theorem laws_heldFrameS.mono_l : ∀ k, (∀ y0 y1 y2, LeO (laws_heldFrameS.l0 k y0 y1 y2) (laws_heldFrameS.l0 (k + 1) y0 y1 y2))
 | 0 => fun _ _ _ r h => by simp [laws_heldFrameS.l0] at h
 | k + 1 => by
  have ih0 := laws_heldFrameS.mono_l k
  ·intro y0 y1 y2
   unfold laws_heldFrameS.l0
   have m0 := @laws_markText.mono
   exact zm
theorem laws_heldFrameS.mono : ∀ a0 a1 k, LeO (laws_heldFrameS.f k a0 a1) (laws_heldFrameS.f (k + 1) a0 a1) := by
 intro a0 a1 k
 have ih0 := laws_heldFrameS.mono_l k
 unfold laws_heldFrameS.f
 have m0 := @laws_markText.mono
 exact zm
def laws_heldFrameS.T13 : Bool × List (List Nat × List Nat) := (true, [([], []), ([], []), ([0, 1], [0, 1]), ([2], [2]), ([3], [3]), ([], []), ([5], [5]), ([4, 6], [4, 6])])
def laws_heldFrameS.B13 : List Nat := [0, 0, 3, 7, 15, 0, 32, 127]
theorem laws_heldFrameS.tab13 : rtab .any (opsOf Try.f46 13) = laws_heldFrameS.T13 := by kernel_rfl
theorem laws_heldFrameS.bits13 : waitsOk laws_heldFrameS.T13.2 laws_heldFrameS.B13 = true := by kernel_rfl
set_option maxHeartbeats 8000000 in
set_option maxRecDepth 100000 in
theorem laws_heldFrameS.calls (k : Nat) (A0 : Option Addr) (c0 : Nat) (l0 : List (S110)) (a1 : Int) (r : Int) (w : World) (hr0 : Kd.C k110 w A0 l0.length l0) (hc0 : l0.length ≤ c0) (h : laws_heldFrameS.f k l0 a1 = some r) :
  Calls Try.prog 46 #[.slice A0 l0.length c0, .int .i64 a1] w fun e w' => e = .returned (.int .i64 r) ∧ Below w.heap.size w w' := by
 have HR0 := Aside0.mk hr0
 have HC0 := Aside0.mk hc0
 clear hr0 hc0
 have HB := Aside0.mk (Below.refl w.heap.size w)
 have H : (laws_heldFrameS.l0 k l0 a1 0) = some r := h
 clear h
 have H' := Aside0.mk H
 clear H
 go_enter Try.func46, Try.ntmps46
 go_wp2
 go_loopg [1, 5] k (fun kq v1 v5 w' => ∃ (x1_1 : Int) (x5_1 : Int), v1 = .int .i64 x1_1 ∧ v5 = .int .i64 x5_1 ∧ Aside0 (laws_heldFrameS.l0 kq l0 x1_1 x5_1 = some r) ∧ Aside0 (kq ≤ k) ∧ Aside0 (Below w.heap.size w w'))
 case atStart => exact ⟨(a1), (0), zs, zs, H', ⟨Nat.le_refl _⟩, ⟨zb HB⟩⟩
 case round =>
  clear H'
  try clear p2
  obtain ⟨x1_1, x5_1, rfl, rfl, HA, HK1, HB⟩ := hrel
  cases gk with
  | zero => exact absurd HA.out (by simp [laws_heldFrameS.l0])
  | succ k1 =>
   have H := HA.out
   clear HA
   simp only [laws_heldFrameS.l0] at H
   replace H := sp H
   rcases H with ⟨c3, H⟩ | ⟨c3, H⟩
   ·skip
    have c3b0 := decide_eq_true c3
    clear c3
    by_cases c4 : 0 ≤ x5_1
    ·rw [if_pos c4] at H
     have c4b0 := decide_eq_true c4
     clear c4
     by_cases c5 : ((rd_T110 l0 x5_1).f0) = x1_1
     ·rw [if_pos c5] at H
      have c5b0 : (((rd_T110 l0 x5_1).f0) == x1_1) = true := beq_iff_eq.mpr c5
      have c5b1 : (((rd_T110 l0 x5_1).f0) != x1_1) = false := bne_eq_false_iff_eq.mpr c5
      clear c5
      have HC6 := Aside0.mk H
      clear H
      have p147 : 0 ≤ (x5_1 : Int) := of_decide_eq_true za
      have q147 : x5_1 < (l0.length : Int) := of_decide_eq_true za
      obtain ⟨ad147, e147, hx147_0, hx147_1, hx147_2, hx147_3⟩ := at_T110 HR0.out x5_1 p147 q147
      cases e147
      replace hx147_0 := cb0 hx147_0 HB
      replace hx147_1 := cb0 hx147_1 HB
      replace hx147_2 := cb0 hx147_2 HB
      replace hx147_3 := cb0 hx147_3 HB
      replace p147 := eq_true p147
      replace q147 := eq_true q147
      have p148 : 0 ≤ (x5_1 : Int) := of_decide_eq_true za
      have q148 : x5_1 < (l0.length : Int) := of_decide_eq_true za
      obtain ⟨ad148, e148, hx148_0, hx148_1, hx148_2, hx148_3⟩ := at_T110 HR0.out x5_1 p148 q148
      obtain rfl : ad147 = ad148 := (by injection e148)
      replace hx148_0 := cb0 hx148_0 HB
      replace hx148_1 := cb0 hx148_1 HB
      replace hx148_2 := cb0 hx148_2 HB
      replace hx148_3 := cb0 hx148_3 HB
      replace p148 := eq_true p148
      replace q148 := eq_true q148
      go_upto_if 29 with (fail)
      have H := HC6.out
      clear HC6
      by_cases c7 : (((rd_T110 l0 x5_1).f1) != ((Int.tmod (wrap64 (x1_1 + 1)) 3) == 0)) = true
      ·rw [if_pos c7] at H
       have c7b0 : (((rd_T110 l0 x5_1).f1) != ((Int.tmod (wrap64 (x1_1 + 1)) 3) == 0)) = true := c7
       (try (have c7b1 : decide (((rd_T110 l0 x5_1).f1) = ((Int.tmod (wrap64 (x1_1 + 1)) 3) == 0)) = false := by simpa using c7))
       (try (have c7b2 : (((rd_T110 l0 x5_1).f1) == ((Int.tmod (wrap64 (x1_1 + 1)) 3) == 0)) = false := by simpa using c7))
       (try (have c7b3 : ¬ (((rd_T110 l0 x5_1).f1) = ((Int.tmod (wrap64 (x1_1 + 1)) 3) == 0)) := by simpa using c7))
       clear c7
       (first | rw [c7b0] | rw [c7b1] | rw [c7b2] | (simp only [i64_w, i32_w]; rw [c7b0]) | skip)
       obtain rfl := Option.some.inj H
       go_wp2
       go_ret
       exact ⟨ze, zb HB⟩
      ·rw [if_neg c7] at H
       have c7b0 : (((rd_T110 l0 x5_1).f1) != ((Int.tmod (wrap64 (x1_1 + 1)) 3) == 0)) = false := by simpa using c7
       (try (have c7b1 : decide (((rd_T110 l0 x5_1).f1) = ((Int.tmod (wrap64 (x1_1 + 1)) 3) == 0)) = true := by simpa using c7))
       (try (have c7b2 : (((rd_T110 l0 x5_1).f1) == ((Int.tmod (wrap64 (x1_1 + 1)) 3) == 0)) = true := by simpa using c7))
       clear c7
       (first | rw [c7b0] | rw [c7b1] | rw [c7b2] | (simp only [i64_w, i32_w]; rw [c7b0]) | skip)
       by_cases c8 : ((rd_T110 l0 x5_1).f2) = (wrap64 ((wrap64 (x1_1 + 1)) + 1))
       ·rw [if_pos c8] at H
        have c8b0 : (((rd_T110 l0 x5_1).f2) == (wrap64 ((wrap64 (x1_1 + 1)) + 1))) = true := beq_iff_eq.mpr c8
        have c8b1 : (((rd_T110 l0 x5_1).f2) != (wrap64 ((wrap64 (x1_1 + 1)) + 1))) = false := bne_eq_false_iff_eq.mpr c8
        clear c8
        obtain ⟨t151, A9, H⟩ := ob H
        (try dsimp only at H)
        have HC10 := Aside0.mk H
        clear H
        have p149 : 0 ≤ (x5_1 : Int) := of_decide_eq_true za
        have q149 : x5_1 < (l0.length : Int) := of_decide_eq_true za
        obtain ⟨ad149, e149, hx149_0, hx149_1, hx149_2, hx149_3⟩ := at_T110 HR0.out x5_1 p149 q149
        obtain rfl : ad147 = ad149 := (by injection e149)
        replace hx149_0 := cb0 hx149_0 HB
        replace hx149_1 := cb0 hx149_1 HB
        replace hx149_2 := cb0 hx149_2 HB
        replace hx149_3 := cb0 hx149_3 HB
        replace p149 := eq_true p149
        replace q149 := eq_true q149
        try go_wp2
        replace HB := Aside0.mk (below_drew1 HB.out)
        have p150 : 0 ≤ (x5_1 : Int) := of_decide_eq_true za
        have q150 : x5_1 < (l0.length : Int) := of_decide_eq_true za
        obtain ⟨ad150, e150, hx150_0, hx150_1, hx150_2, hx150_3⟩ := at_T110 HR0.out x5_1 p150 q150
        have hw150_3 := hx150_3
        have hw150_2 := hx150_2
        have hw150_1 := hx150_1
        have hw150_0 := hx150_0
        obtain rfl : ad147 = ad150 := (by injection e150)
        replace hx150_0 := cb0 hx150_0 HB
        replace hx150_1 := cb0 hx150_1 HB
        replace hx150_2 := cb0 hx150_2 HB
        replace hx150_3 := cb0 hx150_3 HB
        replace p150 := eq_true p150
        replace q150 := eq_true q150
        refine st 8 (an (cb hw150_0 HB) (an (cb hw150_1 HB) (an (cb hw150_2 HB) (cb hw150_3 HB)))) (fun hHeld => ?_); refine with_tabW laws_heldFrameS.tab13 laws_heldFrameS.bits13 (fun HT_ HW_ => ?_)
        generalize wr.drew = w11 at HB hx150_0 hx150_1 hx150_2 hx150_3 hHeld ⊢
        refine pu 0 (some 41) (bm 8 1) rfl rfl ?_
        refine pu 1 (some 42) (bm 8 3) rfl rfl ?_
        refine pu 2 (some 43) (bm 8 7) rfl rfl ?_
        refine pu 3 (some 44) (bm 8 15) rfl rfl ?_
        refine pu 5 (some 46) (bm 8 47) rfl rfl ?_
        refine tk 4 (some 45) (bm 8 63) rfl rfl hHeld ?_
        refine one_ (i := 6) (N := some 47) (bm 8 127) rfl rfl (one_of HT_.out (by kernel_rfl)) (by decide) (fun K hK => ?_)
        refine gs Try.func102 #[.int .i64 (wrap64 ((wrap64 ((wrap64 (x1_1 + 1)) + 1)) + 1))] ?_
        with_reducible refine (laws_markText.calls k1 (wrap64 ((wrap64 ((wrap64 (x1_1 + 1)) + 1)) + 1)) t151 _ A9.out).mono ?_
        rintro e w12 ⟨rfl, hb⟩
        refine ⟨_, rfl, ?_⟩
        replace HB := Aside0.mk (below_step (zb HB) hb)
        (try clear hb)
        refine hK.out _ _ (an (cb hw150_0 HB) (an (cb hw150_1 HB) (an (cb hw150_2 HB) (cb hw150_3 HB)))) (fun hHeld => ?_)
        clear hK K
        refine nm ?_
        refine pu 7 (some 48) (bm 8 255) rfl rfl ?_
        refine done_ (done_of HT_.out (by kernel_rfl)) ?_
        go_upto_if 48 with (fail)
        have H := HC10.out
        clear HC10
        by_cases c13 : ((rd_T110 l0 x5_1).f3).toList = t151.toList
        ·rw [if_pos c13] at H
         have c13b0 : (((rd_T110 l0 x5_1).f3).toList == t151.toList) = true := beq_iff_eq.mpr c13
         have c13b1 : (((rd_T110 l0 x5_1).f3).toList != t151.toList) = false := bne_eq_false_iff_eq.mpr c13
         clear c13
         (first | rw [c13b0] | rw [c13b1] | rw [c13b2] | (simp only [i64_w, i32_w]; rw [c13b0]) | skip)
         have H' := Aside0.mk H
         clear H
         go_wp2
         go_roundg k1
         case measure => have := HK1.out; omega
         case rel => exact ⟨(wrap64 ((wrap64 ((wrap64 ((wrap64 (x1_1 + 1)) + 1)) + 1)) + 1)), (wrap64 (x5_1 + 1)), zs, zs, H', ⟨by have := HK1.out; omega⟩, ⟨zb HB⟩⟩
        ·rw [if_neg c13] at H
         have c13b0 : (((rd_T110 l0 x5_1).f3).toList == t151.toList) = false := beq_eq_false_iff_ne.mpr c13
         have c13b1 : (((rd_T110 l0 x5_1).f3).toList != t151.toList) = true := bne_iff_ne.mpr c13
         (first | rw [c13b0] | rw [c13b1] | rw [c13b2] | (simp only [i64_w, i32_w]; rw [c13b0]) | skip)
         obtain rfl := Option.some.inj H
         go_wp2
         go_ret
         exact ⟨ze, zb HB⟩
       ·rw [if_neg c8] at H
        have c8b0 : (((rd_T110 l0 x5_1).f2) == (wrap64 ((wrap64 (x1_1 + 1)) + 1))) = false := beq_eq_false_iff_ne.mpr c8
        have c8b1 : (((rd_T110 l0 x5_1).f2) != (wrap64 ((wrap64 (x1_1 + 1)) + 1))) = true := bne_iff_ne.mpr c8
        obtain rfl := Option.some.inj H
        have p149 : 0 ≤ (x5_1 : Int) := of_decide_eq_true za
        have q149 : x5_1 < (l0.length : Int) := of_decide_eq_true za
        obtain ⟨ad149, e149, hx149_0, hx149_1, hx149_2, hx149_3⟩ := at_T110 HR0.out x5_1 p149 q149
        obtain rfl : ad147 = ad149 := (by injection e149)
        replace hx149_0 := cb0 hx149_0 HB
        replace hx149_1 := cb0 hx149_1 HB
        replace hx149_2 := cb0 hx149_2 HB
        replace hx149_3 := cb0 hx149_3 HB
        replace p149 := eq_true p149
        replace q149 := eq_true q149
        go_wp2
        go_ret
        exact ⟨ze, zb HB⟩
     ·rw [if_neg c5] at H
      have c5b0 : (((rd_T110 l0 x5_1).f0) == x1_1) = false := beq_eq_false_iff_ne.mpr c5
      have c5b1 : (((rd_T110 l0 x5_1).f0) != x1_1) = true := bne_iff_ne.mpr c5
      obtain rfl := Option.some.inj H
      have p147 : 0 ≤ (x5_1 : Int) := of_decide_eq_true za
      have q147 : x5_1 < (l0.length : Int) := of_decide_eq_true za
      obtain ⟨ad147, e147, hx147_0, hx147_1, hx147_2, hx147_3⟩ := at_T110 HR0.out x5_1 p147 q147
      cases e147
      replace hx147_0 := cb0 hx147_0 HB
      replace hx147_1 := cb0 hx147_1 HB
      replace hx147_2 := cb0 hx147_2 HB
      replace hx147_3 := cb0 hx147_3 HB
      replace p147 := eq_true p147
      replace q147 := eq_true q147
      go_wp2
      go_ret
      exact ⟨ze, zb HB⟩
    ·rw [if_neg c4] at H
     exact absurd H (by simp)
   ·skip
    have c3b0 := decide_eq_false c3
    clear c3
    obtain rfl := Option.some.inj H
    go_wp2
    go_ret
    exact ⟨ze, zb HB⟩

/-! ### laws_heldFieldS: function 126 -/
-- thin
def laws_heldFieldS.l0 : Nat → List (S88) → Int → Int → Option (Int)
 | 0, _, _, _ => none
 | k + 1, x0, x1, x5 => if x5 < (x0.length : Int) then (if 0 ≤ x5 then ((laws_markText.f k x1).bind fun t153 => (if ((rd_T88 x0 x5).f0).toList = t153.toList then ((laws_markText.f k (wrap64 (x1 + 1))).bind fun t155 => (if ((rd_T88 x0 x5).f1).toList = t155.toList then (if (((rd_T88 x0 x5).f2) != ((Int.tmod (wrap64 ((wrap64 (x1 + 1)) + 1)) 3) == 0)) = true then (some (-1)) else (laws_heldFieldS.l0 k x0 (wrap64 ((wrap64 ((wrap64 (x1 + 1)) + 1)) + 1)) (wrap64 (x5 + 1)))) else (some (-1)))) else (some (-1)))) else (none)) else (some x1)
def laws_heldFieldS.f (k : Nat) (l0 : List (S88)) (a1 : Int) : Option (Int) := laws_heldFieldS.l0 k l0 a1 0
theorem laws_heldFieldS.mono_l : ∀ k, (∀ y0 y1 y2, LeO (laws_heldFieldS.l0 k y0 y1 y2) (laws_heldFieldS.l0 (k + 1) y0 y1 y2))
 | 0 => fun _ _ _ r h => by simp [laws_heldFieldS.l0] at h
 | k + 1 => by
  have ih0 := laws_heldFieldS.mono_l k
  ·intro y0 y1 y2
   unfold laws_heldFieldS.l0
   have m0 := @laws_markText.mono
   exact zm
theorem laws_heldFieldS.mono : ∀ a0 a1 k, LeO (laws_heldFieldS.f k a0 a1) (laws_heldFieldS.f (k + 1) a0 a1) := by
 intro a0 a1 k
 have ih0 := laws_heldFieldS.mono_l k
 unfold laws_heldFieldS.f
 have m0 := @laws_markText.mono
 exact zm
def laws_heldFieldS.T4 : Bool × List (List Nat × List Nat) := (true, [([], []), ([], []), ([0, 1], [0, 1]), ([2], [2]), ([3], [3]), ([], []), ([5], [5]), ([4, 6], [4, 6])])
def laws_heldFieldS.B4 : List Nat := [0, 0, 3, 7, 15, 0, 32, 127]
theorem laws_heldFieldS.tab4 : rtab .any (opsOf Try.f126 4) = laws_heldFieldS.T4 := by kernel_rfl
theorem laws_heldFieldS.bits4 : waitsOk laws_heldFieldS.T4.2 laws_heldFieldS.B4 = true := by kernel_rfl
def laws_heldFieldS.T7 : Bool × List (List Nat × List Nat) := (true, [([], []), ([], []), ([0, 1], [0, 1]), ([2], [2]), ([3], [3]), ([], []), ([5], [5]), ([4, 6], [4, 6])])
def laws_heldFieldS.B7 : List Nat := [0, 0, 3, 7, 15, 0, 32, 127]
theorem laws_heldFieldS.tab7 : rtab .any (opsOf Try.f126 7) = laws_heldFieldS.T7 := by kernel_rfl
theorem laws_heldFieldS.bits7 : waitsOk laws_heldFieldS.T7.2 laws_heldFieldS.B7 = true := by kernel_rfl
set_option maxHeartbeats 8000000 in
set_option maxRecDepth 100000 in
theorem laws_heldFieldS.calls (k : Nat) (A0 : Option Addr) (c0 : Nat) (l0 : List (S88)) (a1 : Int) (r : Int) (w : World) (hr0 : Kd.C k88 w A0 l0.length l0) (hc0 : l0.length ≤ c0) (h : laws_heldFieldS.f k l0 a1 = some r) :
  Calls Try.prog 126 #[.slice A0 l0.length c0, .int .i64 a1] w fun e w' => e = .returned (.int .i64 r) ∧ Below w.heap.size w w' := by
 have HR0 := Aside0.mk hr0
 have HC0 := Aside0.mk hc0
 clear hr0 hc0
 have HB := Aside0.mk (Below.refl w.heap.size w)
 have H : (laws_heldFieldS.l0 k l0 a1 0) = some r := h
 clear h
 have H' := Aside0.mk H
 clear H
 go_enter Try.func126, Try.ntmps126
 go_wp2
 go_loopg [1, 5] k (fun kq v1 v5 w' => ∃ (x1_1 : Int) (x5_1 : Int), v1 = .int .i64 x1_1 ∧ v5 = .int .i64 x5_1 ∧ Aside0 (laws_heldFieldS.l0 kq l0 x1_1 x5_1 = some r) ∧ Aside0 (kq ≤ k) ∧ Aside0 (Below w.heap.size w w'))
 case atStart => exact ⟨(a1), (0), zs, zs, H', ⟨Nat.le_refl _⟩, ⟨zb HB⟩⟩
 case round =>
  clear H'
  try clear c1
  try clear p2
  obtain ⟨x1_1, x5_1, rfl, rfl, HA, HK1, HB⟩ := hrel
  cases gk with
  | zero => exact absurd HA.out (by simp [laws_heldFieldS.l0])
  | succ k1 =>
   have H := HA.out
   clear HA
   simp only [laws_heldFieldS.l0] at H
   replace H := sp H
   rcases H with ⟨c3, H⟩ | ⟨c3, H⟩
   ·skip
    have c3b0 := decide_eq_true c3
    clear c3
    by_cases c4 : 0 ≤ x5_1
    ·rw [if_pos c4] at H
     have c4b0 := decide_eq_true c4
     clear c4
     obtain ⟨t153, A5, H⟩ := ob H
     (try dsimp only at H)
     have HC6 := Aside0.mk H
     clear H
     try go_wp2
     replace HB := Aside0.mk (below_drew1 HB.out)
     have p152 : 0 ≤ (x5_1 : Int) := of_decide_eq_true za
     have q152 : x5_1 < (l0.length : Int) := of_decide_eq_true za
     obtain ⟨ad152, e152, hx152_0, hx152_1, hx152_2⟩ := at_T88 HR0.out x5_1 p152 q152
     have hw152_2 := hx152_2
     have hw152_1 := hx152_1
     have hw152_0 := hx152_0
     cases e152
     replace hx152_0 := cb0 hx152_0 HB
     replace hx152_1 := cb0 hx152_1 HB
     replace hx152_2 := cb0 hx152_2 HB
     replace p152 := eq_true p152
     replace q152 := eq_true q152
     refine st 8 (an (cb hw152_0 HB) (an (cb hw152_1 HB) (cb hw152_2 HB))) (fun hHeld => ?_); refine with_tabW laws_heldFieldS.tab4 laws_heldFieldS.bits4 (fun HT_ HW_ => ?_)
     generalize wr.drew = w7 at HB hx152_0 hx152_1 hx152_2 hHeld ⊢
     refine pu 0 (some 12) (bm 8 1) rfl rfl ?_
     refine pu 1 (some 13) (bm 8 3) rfl rfl ?_
     refine pu 2 (some 14) (bm 8 7) rfl rfl ?_
     refine pu 3 (some 15) (bm 8 15) rfl rfl ?_
     refine pu 5 (some 17) (bm 8 47) rfl rfl ?_
     refine tk 4 (some 16) (bm 8 63) rfl rfl hHeld ?_
     refine one_ (i := 6) (N := some 18) (bm 8 127) rfl rfl (one_of HT_.out (by kernel_rfl)) (by decide) (fun K hK => ?_)
     refine gs Try.func102 #[.int .i64 x1_1] ?_
     with_reducible refine (laws_markText.calls k1 x1_1 t153 _ A5.out).mono ?_
     rintro e w8 ⟨rfl, hb⟩
     refine ⟨_, rfl, ?_⟩
     replace HB := Aside0.mk (below_step (zb HB) hb)
     (try clear hb)
     refine hK.out _ _ (an (cb hw152_0 HB) (an (cb hw152_1 HB) (cb hw152_2 HB))) (fun hHeld => ?_)
     clear hK K
     refine nm ?_
     refine pu 7 (some 19) (bm 8 255) rfl rfl ?_
     refine done_ (done_of HT_.out (by kernel_rfl)) ?_
     go_upto_if 19 with (fail)
     have H := HC6.out
     clear HC6
     by_cases c9 : ((rd_T88 l0 x5_1).f0).toList = t153.toList
     ·rw [if_pos c9] at H
      have c9b0 : (((rd_T88 l0 x5_1).f0).toList == t153.toList) = true := beq_iff_eq.mpr c9
      have c9b1 : (((rd_T88 l0 x5_1).f0).toList != t153.toList) = false := bne_eq_false_iff_eq.mpr c9
      clear c9
      (first | rw [c9b0] | rw [c9b1] | rw [c9b2] | (simp only [i64_w, i32_w]; rw [c9b0]) | skip)
      obtain ⟨t155, A10, H⟩ := ob H
      (try dsimp only at H)
      have HC11 := Aside0.mk H
      clear H
      try go_wp2
      replace HB := Aside0.mk (below_drew1 HB.out)
      have p154 : 0 ≤ (x5_1 : Int) := of_decide_eq_true za
      have q154 : x5_1 < (l0.length : Int) := of_decide_eq_true za
      obtain ⟨ad154, e154, hx154_0, hx154_1, hx154_2⟩ := at_T88 HR0.out x5_1 p154 q154
      have hw154_2 := hx154_2
      have hw154_1 := hx154_1
      have hw154_0 := hx154_0
      obtain rfl : ad152 = ad154 := (by injection e154)
      replace hx154_0 := cb0 hx154_0 HB
      replace hx154_1 := cb0 hx154_1 HB
      replace hx154_2 := cb0 hx154_2 HB
      replace p154 := eq_true p154
      replace q154 := eq_true q154
      refine st 8 (an (cb hw154_0 HB) (an (cb hw154_1 HB) (cb hw154_2 HB))) (fun hHeld => ?_); refine with_tabW laws_heldFieldS.tab7 laws_heldFieldS.bits7 (fun HT_ HW_ => ?_)
      generalize w8.drew = w12 at HB hx154_0 hx154_1 hx154_2 hHeld ⊢
      refine pu 0 (some 22) (bm 8 1) rfl rfl ?_
      refine pu 1 (some 23) (bm 8 3) rfl rfl ?_
      refine pu 2 (some 24) (bm 8 7) rfl rfl ?_
      refine pu 3 (some 25) (bm 8 15) rfl rfl ?_
      refine pu 5 (some 27) (bm 8 47) rfl rfl ?_
      refine tk 4 (some 26) (bm 8 63) rfl rfl hHeld ?_
      refine one_ (i := 6) (N := some 28) (bm 8 127) rfl rfl (one_of HT_.out (by kernel_rfl)) (by decide) (fun K hK => ?_)
      refine gs Try.func102 #[.int .i64 (wrap64 (x1_1 + 1))] ?_
      with_reducible refine (laws_markText.calls k1 (wrap64 (x1_1 + 1)) t155 _ A10.out).mono ?_
      rintro e w13 ⟨rfl, hb⟩
      refine ⟨_, rfl, ?_⟩
      replace HB := Aside0.mk (below_step (zb HB) hb)
      (try clear hb)
      refine hK.out _ _ (an (cb hw154_0 HB) (an (cb hw154_1 HB) (cb hw154_2 HB))) (fun hHeld => ?_)
      clear hK K
      refine nm ?_
      refine pu 7 (some 29) (bm 8 255) rfl rfl ?_
      refine done_ (done_of HT_.out (by kernel_rfl)) ?_
      go_upto_if 29 with (fail)
      have H := HC11.out
      clear HC11
      by_cases c14 : ((rd_T88 l0 x5_1).f1).toList = t155.toList
      ·rw [if_pos c14] at H
       have c14b0 : (((rd_T88 l0 x5_1).f1).toList == t155.toList) = true := beq_iff_eq.mpr c14
       have c14b1 : (((rd_T88 l0 x5_1).f1).toList != t155.toList) = false := bne_eq_false_iff_eq.mpr c14
       clear c14
       (first | rw [c14b0] | rw [c14b1] | rw [c14b2] | (simp only [i64_w, i32_w]; rw [c14b0]) | skip)
       by_cases c15 : (((rd_T88 l0 x5_1).f2) != ((Int.tmod (wrap64 ((wrap64 (x1_1 + 1)) + 1)) 3) == 0)) = true
       ·rw [if_pos c15] at H
        have c15b0 : (((rd_T88 l0 x5_1).f2) != ((Int.tmod (wrap64 ((wrap64 (x1_1 + 1)) + 1)) 3) == 0)) = true := c15
        (try (have c15b1 : decide (((rd_T88 l0 x5_1).f2) = ((Int.tmod (wrap64 ((wrap64 (x1_1 + 1)) + 1)) 3) == 0)) = false := by simpa using c15))
        (try (have c15b2 : (((rd_T88 l0 x5_1).f2) == ((Int.tmod (wrap64 ((wrap64 (x1_1 + 1)) + 1)) 3) == 0)) = false := by simpa using c15))
        (try (have c15b3 : ¬ (((rd_T88 l0 x5_1).f2) = ((Int.tmod (wrap64 ((wrap64 (x1_1 + 1)) + 1)) 3) == 0)) := by simpa using c15))
        clear c15
        obtain rfl := Option.some.inj H
        have p156 : 0 ≤ (x5_1 : Int) := of_decide_eq_true za
        have q156 : x5_1 < (l0.length : Int) := of_decide_eq_true za
        obtain ⟨ad156, e156, hx156_0, hx156_1, hx156_2⟩ := at_T88 HR0.out x5_1 p156 q156
        obtain rfl : ad152 = ad156 := (by injection e156)
        replace hx156_0 := cb0 hx156_0 HB
        replace hx156_1 := cb0 hx156_1 HB
        replace hx156_2 := cb0 hx156_2 HB
        replace p156 := eq_true p156
        replace q156 := eq_true q156
        go_wp2
        go_ret
        exact ⟨ze, zb HB⟩
       ·rw [if_neg c15] at H
        have c15b0 : (((rd_T88 l0 x5_1).f2) != ((Int.tmod (wrap64 ((wrap64 (x1_1 + 1)) + 1)) 3) == 0)) = false := by simpa using c15
        (try (have c15b1 : decide (((rd_T88 l0 x5_1).f2) = ((Int.tmod (wrap64 ((wrap64 (x1_1 + 1)) + 1)) 3) == 0)) = true := by simpa using c15))
        (try (have c15b2 : (((rd_T88 l0 x5_1).f2) == ((Int.tmod (wrap64 ((wrap64 (x1_1 + 1)) + 1)) 3) == 0)) = true := by simpa using c15))
        clear c15
        have H' := Aside0.mk H
        clear H
        have p156 : 0 ≤ (x5_1 : Int) := of_decide_eq_true za
        have q156 : x5_1 < (l0.length : Int) := of_decide_eq_true za
        obtain ⟨ad156, e156, hx156_0, hx156_1, hx156_2⟩ := at_T88 HR0.out x5_1 p156 q156
        obtain rfl : ad152 = ad156 := (by injection e156)
        replace hx156_0 := cb0 hx156_0 HB
        replace hx156_1 := cb0 hx156_1 HB
        replace hx156_2 := cb0 hx156_2 HB
        replace p156 := eq_true p156
        replace q156 := eq_true q156
        go_wp2
        go_roundg k1
        case measure => have := HK1.out; omega
        case rel => exact ⟨(wrap64 ((wrap64 ((wrap64 (x1_1 + 1)) + 1)) + 1)), (wrap64 (x5_1 + 1)), zs, zs, H', ⟨by have := HK1.out; omega⟩, ⟨zb HB⟩⟩
      ·rw [if_neg c14] at H
       have c14b0 : (((rd_T88 l0 x5_1).f1).toList == t155.toList) = false := beq_eq_false_iff_ne.mpr c14
       have c14b1 : (((rd_T88 l0 x5_1).f1).toList != t155.toList) = true := bne_iff_ne.mpr c14
       (first | rw [c14b0] | rw [c14b1] | rw [c14b2] | (simp only [i64_w, i32_w]; rw [c14b0]) | skip)
       obtain rfl := Option.some.inj H
       go_wp2
       go_ret
       exact ⟨ze, zb HB⟩
     ·rw [if_neg c9] at H
      have c9b0 : (((rd_T88 l0 x5_1).f0).toList == t153.toList) = false := beq_eq_false_iff_ne.mpr c9
      have c9b1 : (((rd_T88 l0 x5_1).f0).toList != t153.toList) = true := bne_iff_ne.mpr c9
      (first | rw [c9b0] | rw [c9b1] | rw [c9b2] | (simp only [i64_w, i32_w]; rw [c9b0]) | skip)
      obtain rfl := Option.some.inj H
      go_wp2
      go_ret
      exact ⟨ze, zb HB⟩
    ·rw [if_neg c4] at H
     exact absurd H (by simp)
   ·skip
    have c3b0 := decide_eq_false c3
    clear c3
    obtain rfl := Option.some.inj H
    go_wp2
    go_ret
    exact ⟨ze, zb HB⟩

/-! ### laws_heldTable: function 72 -/
-- thin
def laws_heldTable.f (k : Nat) (l0_0 : List (S88)) (a0_1 : Int) (a1 : Int) : Option (Int) := (laws_heldFieldS.f k l0_0 a1).bind fun t158 => (if t158 < 0 then (some (-1)) else (some t158))
theorem laws_heldTable.mono : ∀ a0 a1 a2 k, LeO (laws_heldTable.f k a0 a1 a2) (laws_heldTable.f (k + 1) a0 a1 a2) := by
 intro a0 a1 a2 k
 unfold laws_heldTable.f
 have m0 := @laws_heldFieldS.mono
 exact zm
set_option maxHeartbeats 8000000 in
set_option maxRecDepth 100000 in
theorem laws_heldTable.calls (k : Nat) (A0_0 : Option Addr) (c0_0 : Nat) (l0_0 : List (S88)) (a0_1 : Int) (a1 : Int) (r : Int) (w : World) (hr0_0 : Kd.C k88 w A0_0 l0_0.length l0_0) (hc0_0 : l0_0.length ≤ c0_0) (h : laws_heldTable.f k l0_0 a0_1 a1 = some r) :
  Calls Try.prog 72 #[.agg #[.slice A0_0 l0_0.length c0_0, .int .i64 a0_1], .int .i64 a1] w fun e w' => e = .returned (.int .i64 r) ∧ Below w.heap.size w w' := by
 have hu25 := Try.underlying25
 have HR0_0 := Aside0.mk hr0_0
 have HC0_0 := Aside0.mk hc0_0
 clear hr0_0 hc0_0
 have HB := Aside0.mk (Below.refl w.heap.size w)
 have H : ((laws_heldFieldS.f k l0_0 a1).bind fun t158 => (if t158 < 0 then (some (-1)) else (some t158))) = some r := h
 clear h
 obtain ⟨t158, A3, H⟩ := ob H
 (try dsimp only at H)
 have HC4 := Aside0.mk H
 clear H
 go_enter Try.func72, Try.ntmps72
 go_upto_if 10 with (first | ((with_reducible refine gd 2 rfl ?_); refine bx (N := 2) (cs := #[.slice A0_0 l0_0.length c0_0, .int .i64 a0_1]) (t := 25) ?_; intro gb157 hg w5 hbox hb; have BK157 := Aside0.mk (hbox); have GW157 := gw HB hg; have GE157 := GW157; replace HB := Aside0.mk (below_step (zb HB) hb); clear hb hbox hg; obtain ⟨hcz6_0, hcz6_1, hfz6_0, hfz6_1⟩ := c2 BK157) | ((with_reducible refine gq 126 rfl ?_); refine gl (some 8) Try.func126 #[.slice A0_0 l0_0.length c0_0, .int .i64 a1] ?_; (with_reducible refine (laws_heldFieldS.calls k _ _ l0_0 a1 t158 _ ?side1 ?side2 A3.out).mono ?_); (case side1 => exact zc (Kd.C_below HR0_0.out HB.out)); (case side2 => exact HC0_0.out); rintro e w7 ⟨rfl, hb⟩; refine ⟨_, rfl, ?_⟩; replace BK157 := kb BK157 hb; replace HB := Aside0.mk (below_step (zb HB) hb); (try clear hb)))
 (try simp only [Act.put, s1, s2, s3])
 have H := HC4.out
 clear HC4
 replace H := sp H
 rcases H with ⟨c8, H⟩ | ⟨c8, H⟩
 ·skip
  have c8b0 := decide_eq_true c8
  clear c8
  (first | rw [c8b0] | rw [c8b1] | rw [c8b2] | (simp only [i64_w, i32_w]; rw [c8b0]) | skip)
  obtain rfl := Option.some.inj H
  go_wp2
  go_ret
  exact ⟨ze, zb HB⟩
 ·skip
  have c8b0 := decide_eq_false c8
  clear c8
  (first | rw [c8b0] | rw [c8b1] | rw [c8b2] | (simp only [i64_w, i32_w]; rw [c8b0]) | skip)
  obtain rfl := Option.some.inj H
  go_wp2
  go_ret
  exact ⟨ze, zb HB⟩

end Go.Proofs.Ytlpibelofcabhaa.PFnExactEndLeave
