-- WRITTEN BY a turned print (wip/tools of the prover's repo)
import Derived.Test.YtlpibelofcabhaaPFnExactWorldFramesx0
import Derived.Test.YtlpibelofcabhaaPFnExactWorldFramesx2
namespace Go.Proofs.Ytlpibelofcabhaa.PFnExactWorldFrames
open Go.RowKit Go.Proofs.YtlpibelofcabhaaW.PrintWords Go.Proofs.YtlpibelofcabhaaW.PrintLast Go.Proofs.YtlpibelofcabhaaW.PrintMore Go.Proofs.Ytlpibelofcabhaa.Lm
attribute [local go_sem] max2_int min2_int max_two min_two max_three min_three max_four min_four   -- for this text's walks alone
set_option linter.unusedVariables false
set_option linter.unusedSimpArgs false

/-! ### laws_markTable: function 70 -/
-- thin
def laws_markTable.f (k : Nat) (l0_0 : List (S88)) (a0_1 : Int) (a1 : Int) : Option (Int × (List (S88))) := (laws_markFieldS.f k l0_0 a1).bind fun bt149 => (some (bt149.1, bt149.2))
theorem laws_markTable.mono : ∀ a0 a1 a2 k, LeO (laws_markTable.f k a0 a1 a2) (laws_markTable.f (k + 1) a0 a1 a2) := by
 intro a0 a1 a2 k
 unfold laws_markTable.f
 have m0 := @laws_markFieldS.mono
 exact zm
set_option maxHeartbeats 8000000 in
set_option maxRecDepth 100000 in
theorem laws_markTable.calls (k : Nat) (P0_0_ : Nat → Prop) (u9000_ : Value) (l0_0 : List (S88)) (a0_1 : Int) (a1 : Int) (r1 : Int) (r2 : List (S88)) (w0 w : World) (hB : Below w0.heap.size w0 w) (ho0_0 : Kd.R k88 88 w w0.heap.size P0_0_ u9000_ l0_0) (h : laws_markTable.f k l0_0 a0_1 a1 = some (r1, r2)) :
  Calls Try.prog 70 #[.agg #[u9000_, .int .i64 a0_1], .int .i64 a1] w fun e w' => e = .returned (.int .i64 r1) ∧ Kd.R k88 88 w' w0.heap.size (fun k_ => (P0_0_ k_ ∨ w.heap.size ≤ k_)) u9000_ r2 ∧ Below w0.heap.size w0 w' ∧ Kept w w' (fun k_ => P0_0_ k_) := by
 have hu25 := Try.underlying25
 have HO0_0 := Aside0.mk (show Kd.R k88 88 w w0.heap.size (fun k_ => (P0_0_ k_ ∨ w.heap.size ≤ k_)) u9000_ l0_0 from Kd.R_mono ho0_0 (fun k_ hk => (.inl hk)))
 have HK := Aside0.mk (Kept.refl w (fun k_ => P0_0_ k_))
 have HW0 := Aside0.mk hB.size
 have HB := Aside0.mk hB
 clear hB
 have H : ((laws_markFieldS.f k l0_0 a1).bind fun bt149 => (some (bt149.1, bt149.2))) = some (r1, r2) := h
 clear h
 obtain ⟨⟨t149, t150⟩, A3, H⟩ := ob H
 (try dsimp only at H)
 simp only [Option.some.injEq, Prod.mk.injEq] at H
 obtain ⟨rfl, rfl⟩ := H
 obtain ⟨Ao4, co4, eo4⟩ := Kd.R_slice HO0_0.out
 subst eo4
 go_enter Try.func70, Try.ntmps70
 go_wp2_with (first | ((with_reducible refine gd 2 rfl ?_); refine bx (N := 2) (cs := #[.slice Ao4 l0_0.length co4, .int .i64 a0_1]) (t := 25) ?_; intro gb148 hg w5 hbox hb; replace HO0_0 := Aside0.mk (Kd.R_below (zr HO0_0) hb); have BK148 := Aside0.mk (hbox); have GW148 := Aside0.mk ((by rw [hg]; exact (by first | exact HK.out.1 | exact (show Kept w _ (fun k_ => P0_0_ k_) from by repeat (first | (with_reducible first | exact HK.out | apply Kept.alloc | apply Kept.drewN | apply Kept.drew) | exact HK.out)).1) : w.heap.size ≤ gb148)); replace HK := Aside0.mk (Kept.below (S := (fun k_ => P0_0_ k_)) (by repeat (first | (with_reducible first | exact HK.out | apply Kept.alloc | apply Kept.drewN | apply Kept.drew) | exact HK.out)) hb); have GE148 := Aside0.mk ((by rw [hg]; exact (below_size (zb HB)) : w0.heap.size ≤ gb148)); replace HB := Aside0.mk (below_step (zb HB) hb); clear hb hbox hg; obtain ⟨hcz6_0, hcz6_1, hfz6_0, hfz6_1⟩ := c2 BK148) | ((with_reducible refine gq 125 rfl ?_); refine gl (some 8) Try.func125 #[.slice Ao4 l0_0.length co4, .int .i64 a1] ?_; (with_reducible refine (laws_markFieldS.calls k (fun k_ => some k_ = (.slice Ao4 l0_0.length co4 : Value).ownBlock) (.slice Ao4 l0_0.length co4) l0_0 a1 t149 t150 w0 _ ?side1 ?side2 A3.out).mono ?_); (case side1 => exact zb HB); (case side2 => exact Kd.R_tight rfl HO0_0.out); rintro e w7 ⟨rfl, hy0, hb, hkp⟩; refine ⟨_, rfl, ?_⟩; replace BK148 := Aside0.mk (blk_kept (zk BK148) hkp (fun hs_ => (fun e_ => (Kd.R_ne HO0_0.out BK148.out (by decide)) e_) hs_)); replace HK := Aside0.mk (Kept.then_ (S := (fun k_ => P0_0_ k_)) (by repeat (first | (with_reducible first | exact HK.out | apply Kept.alloc | apply Kept.drewN | apply Kept.drew | refine Kept.setCell ?_ (.inr GW148.out) _) | exact HK.out)) hkp (fun k_ hs_ => (fun e_ => (HO0_0.out.1 k_ e_.symm)) hs_)); replace HO0_0 := Aside0.mk (Kd.R_reok rfl hy0 (fun k_ e_ => HO0_0.out.1 k_ e_)); replace HB := Aside0.mk (hb); (try clear hb); (try clear hkp); (try clear hy0)))
 go_ret
 exact ⟨ze, zq (HO0_0.out), zb HB, by repeat (first | (with_reducible first | exact HK.out | apply Kept.alloc | apply Kept.drewN | apply Kept.drew | refine Kept.setCell ?_ (.inr GW148.out) _) | exact HK.out)⟩

-- NOT PRINTED: function 71 (laws_markStreamS)

-- NOT PRINTED: function 23 (laws_markEnd)

/-! ### laws_markWorld: function 28 -/
-- by hand
theorem H_step1 {α : Type} {d : Kd α} {e base : Nat} {w w1 : World} {ok oki : Nat → Prop} {v : Value} {xs : List α} {i : Int} {c : List Value} (h : Kd.H d e w base ok v xs i oki c) (hm : ∀ k, ok k → ¬ oki k → k < w.heap.size → w1.heap[k]? = w.heap[k]?) : Kd.H d e w1 base ok v xs i oki c := by
  obtain ⟨ho, f, h⟩ := h
  exact ⟨ho, f, Kd.R_step h (fun k hk hlt => hm k hk.1 hk.2 hlt)⟩
section
variable {w0 w W W' : World} {P oki : Nat → Prop} {g n cap : Nat} {xs : List S104} {i : Int} {c : List Value} {v2 v7 : Value} {f2 f7 r : List S88}
/-- Element i of a row of streams, lent: the row without it, its two rows; all that stays. -/
structure LS (w0 w : World) (P : Nat → Prop) (g n cap : Nat) (xs : List S104) (i : Int) (oki : Nat → Prop) (c : List Value) (v2 v7 : Value) (f2 f7 : List S88) (W : World) : Prop where
  h : Kd.H k104 104 W w0.heap.size (fun k => P k ∨ w.heap.size ≤ k) (.slice (some ⟨g, 0, none⟩) n cap) xs i oki c
  r2 : Kd.R k88 88 W w0.heap.size (fun k => some k = v2.ownBlock) v2 f2
  r7 : Kd.R k88 88 W w0.heap.size (fun k => some k = v7.ownBlock) v7 f7
  hk : Kept w W P
  hb : Below w0.heap.size w0 W
  i0 : 0 ≤ i
  i1 : i < n
  gb : w0.heap.size ≤ g
  gp : P g ∨ w.heap.size ≤ g
  o2 : ∀ k, some k = v2.ownBlock → oki k ∧ k ≠ g
  o7 : ∀ k, some k = v7.ownBlock → oki k ∧ k ≠ g
  op : ∀ k, oki k → P k ∨ w.heap.size ≤ k
  ap : ∀ k, some k = v2.ownBlock → some k ≠ v7.ownBlock
  fz : ∃ cells, W.heap[g]? = some (.cells cells 104 (0, 0))
theorem LS.cell (L : LS w0 w P g n cap xs i oki c v2 v7 f2 f7 W) (j : Nat) (u : Value) (hu : c[j]? = some u) : W.cell? ⟨g, i.toNat * 12 + j, none⟩ = some u := by
  obtain ⟨_, _, _, _, _, hc, _⟩ := Kd.H_raw L.h L.i0 L.i1
  exact hc j u hu
theorem LS.froz (L : LS w0 w P g n cap xs i oki c v2 v7 f2 f7 W) (j : Nat) : W.frozen? ⟨g, j, none⟩ = false := by
  obtain ⟨cells, h⟩ := L.fz
  exact blk_frozen h _
theorem set_seg {c : List Value} {j : Nat} {u : Value} (hj : j < c.length) : c.take j ++ [u] ++ c.drop (j + 1) = c.set j u := by
  rw [List.set_eq_take_append_cons_drop, if_pos hj]; simp
theorem LS.put (L : LS w0 w P g n cap xs i oki c v2 v7 f2 f7 W) (hc : c.length = 12) (j : Nat) (u : Value) (hj : j < 12) (hu : u.oneCell' = true) : LS w0 w P g n cap xs i oki (c.set j u) v2 v7 f2 f7 (W.setCell ⟨g, i.toNat * 12 + j, none⟩ u) := by
  have h1 := Kd.H_seg L.h L.i0 L.i1 (seg := [u]) (j := j) (by show j + 1 ≤ 12; omega) (by intro q hq; rw [List.mem_singleton.1 hq]; exact hu)
  have h2 : W.setCells g (i.toNat * k104.sz + j) [u] = W.setCell ⟨g, i.toNat * 12 + j, none⟩ u := rfl
  rw [h2] at h1
  obtain ⟨h3, h4⟩ := h1
  rw [show j + [u].length = j + 1 from rfl, set_seg (by omega)] at h3
  refine ⟨h3, ?_, ?_, ?_, below_set L.hb L.gb, L.i0, L.i1, L.gb, L.gp, L.o2, L.o7, L.op, L.ap, ?_⟩
  · exact Kd.R_step L.r2 (fun k hk _ => Below.heap_setCell W _ u k (L.o2 k hk).2)
  · exact Kd.R_step L.r7 (fun k hk _ => Below.heap_setCell W _ u k (L.o7 k hk).2)
  · exact Kept.setCell L.hk L.gp u
  · obtain ⟨cells, hh⟩ := L.fz
    exact ⟨_, blk_put hh _ u rfl⟩
theorem LS.below (L : LS w0 w P g n cap xs i oki c v2 v7 f2 f7 W) (hb : Below W.heap.size W W') : LS w0 w P g n cap xs i oki c v2 v7 f2 f7 W' := by
  refine ⟨H_step1 L.h (fun k _ _ hlt => hb.block k hlt), Kd.R_below L.r2 hb, Kd.R_below L.r7 hb, L.hk.below hb, below_step L.hb hb, L.i0, L.i1, L.gb, L.gp, L.o2, L.o7, L.op, L.ap, ?_⟩
  obtain ⟨cells, hh⟩ := L.fz
  exact ⟨_, blk_below hh hb⟩
theorem LS.mark2 (L : LS w0 w P g n cap xs i oki c v2 v7 f2 f7 W) (hr : Kd.R k88 88 W' w0.heap.size (fun k => some k = v2.ownBlock ∨ W.heap.size ≤ k) v2 r) (hb : Below w0.heap.size w0 W') (hk : Kept W W' (fun k => some k = v2.ownBlock)) : LS w0 w P g n cap xs i oki c v2 v7 r f7 W' := by
  refine ⟨H_step1 L.h (fun k _ hn hlt => hk.2 k hlt (fun h => hn (L.o2 k h).1)), Kd.R_tight rfl hr, Kd.R_step L.r7 (fun k h hlt => hk.2 k hlt (fun h2 => L.ap k h2 h)), L.hk.then_ hk (fun k h => L.op k (L.o2 k h).1), hb, L.i0, L.i1, L.gb, L.gp, L.o2, L.o7, L.op, L.ap, ?_⟩
  obtain ⟨cells, hh⟩ := L.fz
  exact ⟨cells, (hk.2 g (blk_lt hh) (fun h => (L.o2 g h).2 rfl)).trans hh⟩
theorem LS.mark7 (L : LS w0 w P g n cap xs i oki c v2 v7 f2 f7 W) (hr : Kd.R k88 88 W' w0.heap.size (fun k => some k = v7.ownBlock ∨ W.heap.size ≤ k) v7 r) (hb : Below w0.heap.size w0 W') (hk : Kept W W' (fun k => some k = v7.ownBlock)) : LS w0 w P g n cap xs i oki c v2 v7 f2 r W' := by
  refine ⟨H_step1 L.h (fun k _ hn hlt => hk.2 k hlt (fun h => hn (L.o7 k h).1)), Kd.R_step L.r2 (fun k h hlt => hk.2 k hlt (fun h2 => L.ap k h h2)), Kd.R_tight rfl hr, L.hk.then_ hk (fun k h => L.op k (L.o7 k h).1), hb, L.i0, L.i1, L.gb, L.gp, L.o2, L.o7, L.op, L.ap, ?_⟩
  obtain ⟨cells, hh⟩ := L.fz
  exact ⟨cells, (hk.2 g (blk_lt hh) (fun h => (L.o7 g h).2 rfl)).trans hh⟩
theorem LS.enter' {v : Value} (hS : Kd.S k104 104 W w0.heap.size (fun k => P k ∨ w.heap.size ≤ k) v xs) (hk : Kept w W P) (hb : Below w0.heap.size w0 W) (i0 : 0 ≤ i) (i1 : i < xs.length) :
    ∃ g cap oki v2 v7, v = .slice (some ⟨g, 0, none⟩) xs.length cap ∧ LS w0 w P g xs.length cap xs i oki [.int .i64 (rd_T104 xs i).f0, .int .i64 (rd_T104 xs i).f1, v2, .string (rd_T104 xs i).f3, .bool (rd_T104 xs i).f4, .bool (rd_T104 xs i).f5, .int .i64 (rd_T104 xs i).f6, v7, .string (rd_T104 xs i).f8, .bool (rd_T104 xs i).f9, .int .i64 (rd_T104 xs i).f10.f0, .int .i64 (rd_T104 xs i).f10.f1] v2 v7 (rd_T104 xs i).f2 (rd_T104 xs i).f7 W := by
  obtain ⟨g, cap, rfl, gb, gl, hh⟩ := Kd.S_form hS (by omega)
  obtain ⟨oki, c, hcl, hM, hcc, hfr, hoki, hH⟩ := Kd.S_elem hS z104 i i0 i1
  have hp := hM.2
  obtain ⟨v2, v7, rfl, h2, h7⟩ := k104_openM hM
  refine ⟨g, cap, oki, v2, v7, rfl, hH, Kd.R_tight rfl h2, Kd.R_tight rfl h7, hk, hb, i0, i1, gb, (Kd.S_R hS).1 g (by simp [Value.ownBlock]), fun k h => ⟨h2.1 k h.symm, (hoki k (h2.1 k h.symm)).2⟩, fun k h => ⟨h7.1 k h.symm, (hoki k (h7.1 k h.symm)).2⟩, fun k h => (hoki k h).1, fun k h h' => hp v2 v7 rfl rfl k h.symm h'.symm, hh⟩
theorem LS.leave (L : LS w0 w P g n cap xs i oki c v2 v7 f2 f7 W) (x' : S104) (e2 : f2 = x'.f2) (e7 : f7 = x'.f7) (ec : c = [.int .i64 x'.f0, .int .i64 x'.f1, v2, .string x'.f3, .bool x'.f4, .bool x'.f5, .int .i64 x'.f6, v7, .string x'.f8, .bool x'.f9, .int .i64 x'.f10.f0, .int .i64 x'.f10.f1]) :
    Kd.S k104 104 W w0.heap.size (fun k => P k ∨ w.heap.size ≤ k) (.slice (some ⟨g, 0, none⟩) n cap) (xs.set i.toNat x') := by
  subst e2 e7 ec
  exact Kd.H_back (okp := oki) L.h (k104_mkM _ _ _ x' (Kd.R_mono L.r2 (fun k h => (L.o2 k h).1)) (Kd.R_mono L.r7 (fun k h => (L.o7 k h).1)) (fun k h h' => L.ap k h.symm h'.symm)) (fun k h => h)
end
def laws_markStreamS.el (x1 : Int) (p : Int × List S88) (say : ByteArray) (q : Int × List S88) (tx : ByteArray) : S104 :=
  ⟨x1, wrap64 (x1 + 1), p.2, say, Int.tmod (wrap64 (p.1 + 1)) 3 == 0, Int.tmod (wrap64 (wrap64 (p.1 + 1) + 1)) 3 == 0, wrap64 (wrap64 (wrap64 (p.1 + 1) + 1) + 1), q.2, tx, Int.tmod (wrap64 (q.1 + 1)) 3 == 0, ⟨wrap64 (wrap64 (q.1 + 1) + 1), wrap64 (wrap64 (wrap64 (q.1 + 1) + 1) + 1)⟩⟩
def laws_markStreamS.l0 : Nat → List S104 → Int → Int → Option (Int × List S104)
  | 0, _, _, _ => none
  | k + 1, x0, x1, x5 => if x5 < (x0.length : Int) then (if 0 ≤ x5 then
      (laws_markFieldS.f k (rd_T104 x0 x5).f2 (wrap64 (wrap64 (x1 + 1) + 1))).bind fun p => (laws_markText.f k p.1).bind fun say =>
      (laws_markFieldS.f k (rd_T104 x0 x5).f7 (wrap64 (wrap64 (wrap64 (wrap64 (p.1 + 1) + 1) + 1) + 1))).bind fun q => (laws_markText.f k q.1).bind fun tx =>
      laws_markStreamS.l0 k (x0.set x5.toNat (laws_markStreamS.el x1 p say q tx)) (wrap64 (wrap64 (wrap64 (wrap64 (q.1 + 1) + 1) + 1) + 1)) (wrap64 (x5 + 1)) else none) else some (x1, x0)
def laws_markStreamS.f (k : Nat) (l0 : List S104) (a1 : Int) : Option (Int × List S104) := laws_markStreamS.l0 k l0 a1 0
theorem laws_markStreamS.mono_l : ∀ k, (∀ y0 y1 y2, LeO (laws_markStreamS.l0 k y0 y1 y2) (laws_markStreamS.l0 (k + 1) y0 y1 y2))
 | 0 => fun _ _ _ r h => by simp [laws_markStreamS.l0] at h
 | k + 1 => by
  have ih0 := laws_markStreamS.mono_l k
  ·intro y0 y1 y2
   unfold laws_markStreamS.l0
   have m0 := @laws_markText.mono
   have m1 := @laws_markFieldS.mono
   exact zm
theorem laws_markStreamS.mono : ∀ a0 a1 k, LeO (laws_markStreamS.f k a0 a1) (laws_markStreamS.f (k + 1) a0 a1) := by
 intro a0 a1 k
 have ih0 := laws_markStreamS.mono_l k
 unfold laws_markStreamS.f
 exact zm
set_option maxHeartbeats 8000000 in
set_option maxRecDepth 100000 in
theorem laws_markStreamS.calls (k : Nat) (P0_ : Nat → Prop) (u9000_ : Value) (l0 : List S104) (a1 : Int) (r1 : Int) (r2 : List S104) (w0 w : World) (hB : Below w0.heap.size w0 w) (ho0 : Kd.S k104 104 w w0.heap.size P0_ u9000_ l0) (h : laws_markStreamS.f k l0 a1 = some (r1, r2)) :
  Calls Try.prog 71 #[u9000_, .int .i64 a1] w fun e w' => e = .returned (.int .i64 r1) ∧ Kd.S k104 104 w' w0.heap.size (fun k_ => (P0_ k_ ∨ w.heap.size ≤ k_)) u9000_ r2 ∧ Below w0.heap.size w0 w' ∧ Kept w w' (fun k_ => P0_ k_) := by
 have HO0 := Aside0.mk (show Kd.S k104 104 w w0.heap.size (fun k_ => (P0_ k_ ∨ w.heap.size ≤ k_)) u9000_ l0 from Kd.S_mono ho0 (fun k_ hk => (.inl hk)))
 have HK := Aside0.mk (Kept.refl w (fun k_ => P0_ k_))
 have HB := Aside0.mk hB
 clear hB ho0
 have H' := Aside0.mk (show (laws_markStreamS.l0 k l0 a1 0) = some (r1, r2) from h)
 clear h
 go_enter Try.func71, Try.ntmps71
 go_wp2
 go_loopg [1, 5] k (fun kq v1 v5 w' => ∃ (x0_1 : List (S104)) (x1_1 : Int) (x5_1 : Int), v1 = .int .i64 x1_1 ∧ v5 = .int .i64 x5_1 ∧ Aside0 (laws_markStreamS.l0 kq x0_1 x1_1 x5_1 = some (r1, r2)) ∧ Aside0 (kq ≤ k) ∧ Aside0 (Kd.S k104 104 w' w0.heap.size (fun k_ => (P0_ k_ ∨ w.heap.size ≤ k_)) u9000_ x0_1) ∧ Aside0 (Kept w w' (fun k_ => P0_ k_)) ∧ Aside0 (Below w0.heap.size w0 w'))
 case atStart => exact ⟨(l0), (a1), (0), zs, zs, H', ⟨Nat.le_refl _⟩, HO0, HK, HB⟩
 case round =>
  clear H' HO0 HK HB
  obtain ⟨x0_1, x1_1, x5_1, rfl, rfl, HA, HK1, HO_0, HK, HB⟩ := hrel
  cases gk with
  | zero => exact absurd HA.out (by simp [laws_markStreamS.l0])
  | succ k1 =>
   have H := HA.out
   clear HA
   simp only [laws_markStreamS.l0] at H
   obtain ⟨Ao10, co10, eo10⟩ := Kd.S_slice HO_0.out
   split at H
   · rename_i c3
     have c3b0 := decide_eq_true c3
     split at H
     case isFalse => cases H
     rename_i c5
     have c5b0 := decide_eq_true c5
     obtain ⟨p, A4, H⟩ := ob H
     obtain ⟨say, A5, H⟩ := ob H
     obtain ⟨q, A6, H⟩ := ob H
     obtain ⟨tx, A7, H⟩ := ob H
     have H' := Aside0.mk H
     clear H
     obtain ⟨go5, cap5, oki, v2, v7, e5, HL⟩ := LS.enter' HO_0.out HK.out HB.out c5 c3
     subst e5
     have HL := Aside0.mk HL
     clear eo10
     have p6 := eq_true c5
     have q6 := eq_true c3
     clear c3 c5
     have hx := HL.out.cell 0 _ rfl
     have hf := HL.out.froz (x5_1.toNat * 12 + 0)
     rw [Nat.add_zero] at hx hf
     go_wp2_with (first | ((with_reducible refine gate_store (t := 3) (p := 16) rfl ?_); refine store_event (t := 3) (p := 16) (v := ?vo_w11) (w1 := wr.setCell ⟨go5, x5_1.toNat * 12, none⟩ (.int .i64 x1_1)) ?hg ?ho ?hn ?hr ?_; (case ho => rfl); (case hg => rfl); (case hn => rfl); (case hr => first | (go_simp; done) | (go_simp; rfl)); intro w11 hw; clear hx hf; replace HL := Aside0.mk (show LS w0 w P0_ go5 x0_1.length cap5 x0_1 x5_1 oki _ v2 v7 _ _ w11 from (by rw [hw]; exact HL.out.put rfl 0 (.int .i64 x1_1) (by decide) rfl)); clear hw; have hx := HL.out.cell 1 _ rfl; have hf := HL.out.froz (x5_1.toNat * 12 + 1)) | ((with_reducible refine gate_store (t := 3) (p := 23) rfl ?_); refine store_event (t := 3) (p := 23) (v := ?vo_w12) (w1 := w11.setCell ⟨go5, x5_1.toNat * 12 + 1, none⟩ (.int .i64 (wrap64 (x1_1 + 1)))) ?hg ?ho ?hn ?hr ?_; (case ho => rfl); (case hg => rfl); (case hn => rfl); (case hr => first | (go_simp; done) | (go_simp; rfl)); intro w12 hw; clear hx hf; replace HL := Aside0.mk (show LS w0 w P0_ go5 x0_1.length cap5 x0_1 x5_1 oki _ v2 v7 _ _ w12 from (by rw [hw]; exact HL.out.put rfl 1 (.int .i64 (wrap64 (x1_1 + 1))) (by decide) rfl)); clear hw; have hx := HL.out.cell 2 _ rfl; have hf := HL.out.froz (x5_1.toNat * 12 + 2)) | ((with_reducible refine gd 32 rfl ?_); refine gl (some 32) Try.func125 #[v2, .int .i64 (wrap64 (wrap64 (x1_1 + 1) + 1))] ?_; (refine (laws_markFieldS.calls k1 (fun k_ => some k_ = v2.ownBlock) v2 (rd_T104 x0_1 x5_1).f2 (wrap64 (wrap64 (x1_1 + 1) + 1)) p.1 p.2 w0 _ ?s1 ?s2 A4.out).mono ?_); (case s1 => exact HL.out.hb); (case s2 => exact HL.out.r2); rintro e w13 ⟨rfl, ho, hb, hk⟩; refine ⟨_, rfl, ?_⟩; clear hx hf; replace HL := Aside0.mk (HL.out.mark2 ho hb hk); clear ho hb hk) | ((with_reducible refine gd 36 rfl ?_); refine gl (some 36) Try.func102 #[.int .i64 (p.1)] ?_; (with_reducible refine (laws_markText.calls k1 (p.1) say _ A5.out).mono ?_); rintro e w14 ⟨rfl, hb⟩; refine ⟨_, rfl, ?_⟩; replace HL := Aside0.mk (HL.out.below hb); clear hb; have hx := HL.out.cell 3 _ rfl; have hf := HL.out.froz (x5_1.toNat * 12 + 3)) | ((with_reducible refine gate_store (t := 9) (p := 38) rfl ?_); refine store_event (t := 9) (p := 38) (v := ?vo_w15) (w1 := w14.setCell ⟨go5, x5_1.toNat * 12 + 3, none⟩ (.string say)) ?hg ?ho ?hn ?hr ?_; (case ho => rfl); (case hg => rfl); (case hn => rfl); (case hr => first | (go_simp; done) | (go_simp; rfl)); intro w15 hw; clear hx hf; replace HL := Aside0.mk (show LS w0 w P0_ go5 x0_1.length cap5 x0_1 x5_1 oki _ v2 v7 _ _ w15 from (by rw [hw]; exact HL.out.put rfl 3 (.string say) (by decide) rfl)); clear hw; have hx := HL.out.cell 4 _ rfl; have hf := HL.out.froz (x5_1.toNat * 12 + 4)) | ((with_reducible refine gate_store (t := 4) (p := 47) rfl ?_); refine store_event (t := 4) (p := 47) (v := ?vo_w16) (w1 := w15.setCell ⟨go5, x5_1.toNat * 12 + 4, none⟩ (.bool (Int.tmod (wrap64 (p.1 + 1)) 3 == 0))) ?hg ?ho ?hn ?hr ?_; (case ho => rfl); (case hg => rfl); (case hn => rfl); (case hr => first | (go_simp; done) | (go_simp; rfl)); intro w16 hw; clear hx hf; replace HL := Aside0.mk (show LS w0 w P0_ go5 x0_1.length cap5 x0_1 x5_1 oki _ v2 v7 _ _ w16 from (by rw [hw]; exact HL.out.put rfl 4 (.bool (Int.tmod (wrap64 (p.1 + 1)) 3 == 0)) (by decide) rfl)); clear hw; have hx := HL.out.cell 5 _ rfl; have hf := HL.out.froz (x5_1.toNat * 12 + 5)) | ((with_reducible refine gate_store (t := 4) (p := 56) rfl ?_); refine store_event (t := 4) (p := 56) (v := ?vo_w17) (w1 := w16.setCell ⟨go5, x5_1.toNat * 12 + 5, none⟩ (.bool (Int.tmod (wrap64 (wrap64 (p.1 + 1) + 1)) 3 == 0))) ?hg ?ho ?hn ?hr ?_; (case ho => rfl); (case hg => rfl); (case hn => rfl); (case hr => first | (go_simp; done) | (go_simp; rfl)); intro w17 hw; clear hx hf; replace HL := Aside0.mk (show LS w0 w P0_ go5 x0_1.length cap5 x0_1 x5_1 oki _ v2 v7 _ _ w17 from (by rw [hw]; exact HL.out.put rfl 5 (.bool (Int.tmod (wrap64 (wrap64 (p.1 + 1) + 1)) 3 == 0)) (by decide) rfl)); clear hw; have hx := HL.out.cell 6 _ rfl; have hf := HL.out.froz (x5_1.toNat * 12 + 6)) | ((with_reducible refine gate_store (t := 3) (p := 63) rfl ?_); refine store_event (t := 3) (p := 63) (v := ?vo_w18) (w1 := w17.setCell ⟨go5, x5_1.toNat * 12 + 6, none⟩ (.int .i64 (wrap64 (wrap64 (wrap64 (p.1 + 1) + 1) + 1)))) ?hg ?ho ?hn ?hr ?_; (case ho => rfl); (case hg => rfl); (case hn => rfl); (case hr => first | (go_simp; done) | (go_simp; rfl)); intro w18 hw; clear hx hf; replace HL := Aside0.mk (show LS w0 w P0_ go5 x0_1.length cap5 x0_1 x5_1 oki _ v2 v7 _ _ w18 from (by rw [hw]; exact HL.out.put rfl 6 (.int .i64 (wrap64 (wrap64 (wrap64 (p.1 + 1) + 1) + 1))) (by decide) rfl)); clear hw; have hx := HL.out.cell 7 _ rfl; have hf := HL.out.froz (x5_1.toNat * 12 + 7)) | ((with_reducible refine gd 72 rfl ?_); refine gl (some 72) Try.func125 #[v7, .int .i64 (wrap64 (wrap64 (wrap64 (wrap64 (p.1 + 1) + 1) + 1) + 1))] ?_; (refine (laws_markFieldS.calls k1 (fun k_ => some k_ = v7.ownBlock) v7 (rd_T104 x0_1 x5_1).f7 (wrap64 (wrap64 (wrap64 (wrap64 (p.1 + 1) + 1) + 1) + 1)) q.1 q.2 w0 _ ?s1 ?s2 A6.out).mono ?_); (case s1 => exact HL.out.hb); (case s2 => exact HL.out.r7); rintro e w19 ⟨rfl, ho, hb, hk⟩; refine ⟨_, rfl, ?_⟩; clear hx hf; replace HL := Aside0.mk (HL.out.mark7 ho hb hk); clear ho hb hk) | ((with_reducible refine gd 76 rfl ?_); refine gl (some 76) Try.func102 #[.int .i64 (q.1)] ?_; (with_reducible refine (laws_markText.calls k1 (q.1) tx _ A7.out).mono ?_); rintro e w20 ⟨rfl, hb⟩; refine ⟨_, rfl, ?_⟩; replace HL := Aside0.mk (HL.out.below hb); clear hb; have hx := HL.out.cell 8 _ rfl; have hf := HL.out.froz (x5_1.toNat * 12 + 8)) | ((with_reducible refine gate_store (t := 9) (p := 78) rfl ?_); refine store_event (t := 9) (p := 78) (v := ?vo_w21) (w1 := w20.setCell ⟨go5, x5_1.toNat * 12 + 8, none⟩ (.string tx)) ?hg ?ho ?hn ?hr ?_; (case ho => rfl); (case hg => rfl); (case hn => rfl); (case hr => first | (go_simp; done) | (go_simp; rfl)); intro w21 hw; clear hx hf; replace HL := Aside0.mk (show LS w0 w P0_ go5 x0_1.length cap5 x0_1 x5_1 oki _ v2 v7 _ _ w21 from (by rw [hw]; exact HL.out.put rfl 8 (.string tx) (by decide) rfl)); clear hw; have hx := HL.out.cell 9 _ rfl; have hf := HL.out.froz (x5_1.toNat * 12 + 9)) | ((with_reducible refine gate_store (t := 4) (p := 87) rfl ?_); refine store_event (t := 4) (p := 87) (v := ?vo_w22) (w1 := w21.setCell ⟨go5, x5_1.toNat * 12 + 9, none⟩ (.bool (Int.tmod (wrap64 (q.1 + 1)) 3 == 0))) ?hg ?ho ?hn ?hr ?_; (case ho => rfl); (case hg => rfl); (case hn => rfl); (case hr => first | (go_simp; done) | (go_simp; rfl)); intro w22 hw; clear hx hf; replace HL := Aside0.mk (show LS w0 w P0_ go5 x0_1.length cap5 x0_1 x5_1 oki _ v2 v7 _ _ w22 from (by rw [hw]; exact HL.out.put rfl 9 (.bool (Int.tmod (wrap64 (q.1 + 1)) 3 == 0)) (by decide) rfl)); clear hw; have hx := HL.out.cell 10 _ rfl; have hf := HL.out.froz (x5_1.toNat * 12 + 10)) | ((with_reducible refine gate_store (t := 3) (p := 95) rfl ?_); refine store_event (t := 3) (p := 95) (v := ?vo_w23) (w1 := w22.setCell ⟨go5, x5_1.toNat * 12 + 10, none⟩ (.int .i64 (wrap64 (wrap64 (q.1 + 1) + 1)))) ?hg ?ho ?hn ?hr ?_; (case ho => rfl); (case hg => rfl); (case hn => rfl); (case hr => first | (go_simp; done) | (go_simp; rfl)); intro w23 hw; clear hx hf; replace HL := Aside0.mk (show LS w0 w P0_ go5 x0_1.length cap5 x0_1 x5_1 oki _ v2 v7 _ _ w23 from (by rw [hw]; exact HL.out.put rfl 10 (.int .i64 (wrap64 (wrap64 (q.1 + 1) + 1))) (by decide) rfl)); clear hw; have hx := HL.out.cell 11 _ rfl; have hf := HL.out.froz (x5_1.toNat * 12 + 11)) | ((with_reducible refine gate_store (t := 3) (p := 103) rfl ?_); refine store_event (t := 3) (p := 103) (v := ?vo_w24) (w1 := w23.setCell ⟨go5, x5_1.toNat * 12 + 11, none⟩ (.int .i64 (wrap64 (wrap64 (wrap64 (q.1 + 1) + 1) + 1)))) ?hg ?ho ?hn ?hr ?_; (case ho => rfl); (case hg => rfl); (case hn => rfl); (case hr => first | (go_simp; done) | (go_simp; rfl)); intro w24 hw; clear hx hf; replace HL := Aside0.mk (show LS w0 w P0_ go5 x0_1.length cap5 x0_1 x5_1 oki _ v2 v7 _ _ w24 from (by rw [hw]; exact HL.out.put rfl 11 (.int .i64 (wrap64 (wrap64 (wrap64 (q.1 + 1) + 1) + 1))) (by decide) rfl)); clear hw))
     go_roundg k1
     case measure => have := HK1.out; omega
     case rel => exact ⟨_, _, _, zs, zs, H', ⟨by have := HK1.out; omega⟩, ⟨HL.out.leave (laws_markStreamS.el x1_1 p say q tx) rfl rfl rfl⟩, ⟨HL.out.hk⟩, ⟨HL.out.hb⟩⟩
   · rename_i c3
     have c3b0 := decide_eq_false c3
     clear c3
     simp only [Option.some.injEq, Prod.mk.injEq] at H
     obtain ⟨rfl, rfl⟩ := H
     subst eo10
     go_wp2
     go_ret
     exact ⟨ze, HO_0.out, HB.out, HK.out⟩
section
variable {w w' : World} {b : Nat} {P6 : Nat → Prop} {u1 u3 u6 u9 : Value} {l1 l3 r : List S88} {l6 r6 : List S104} {l9 r9 : List S110}
/-- The four rows of an end, each its own. -/
structure EB (w : World) (b : Nat) (P6 : Nat → Prop) (u1 u3 u6 u9 : Value) (l1 l3 : List S88) (l6 : List S104) (l9 : List S110) : Prop where
  r1 : Kd.R k88 88 w b (fun k => some k = u1.ownBlock) u1 l1
  r3 : Kd.R k88 88 w b (fun k => some k = u3.ownBlock) u3 l3
  s6 : Kd.S k104 104 w b P6 u6 l6
  r9 : Kd.R k110 110 w b (fun k => some k = u9.ownBlock) u9 l9
  a13 : ∀ k, some k = u1.ownBlock → some k ≠ u3.ownBlock
  a16 : ∀ k, P6 k → some k ≠ u1.ownBlock
  a36 : ∀ k, P6 k → some k ≠ u3.ownBlock
  a19 : ∀ k, some k = u1.ownBlock → some k ≠ u9.ownBlock
  a39 : ∀ k, some k = u3.ownBlock → some k ≠ u9.ownBlock
  a69 : ∀ k, P6 k → some k ≠ u9.ownBlock
def EP (P6 : Nat → Prop) (u1 u3 u9 : Value) (k : Nat) : Prop := some k = u1.ownBlock ∨ some k = u3.ownBlock ∨ P6 k ∨ some k = u9.ownBlock
theorem S_step1 {α : Type} {d : Kd α} {e : Nat} {ok : Nat → Prop} {v : Value} {xs : List α} (h : Kd.S d e w b ok v xs) (hm : ∀ k, ok k → k < w.heap.size → w'.heap[k]? = w.heap[k]?) : Kd.S d e w' b ok v xs := by
  obtain ⟨f, h⟩ := h
  exact ⟨f, Kd.R_step h hm⟩
theorem EB.kept (E : EB w b P6 u1 u3 u6 u9 l1 l3 l6 l9) {S : Nat → Prop} (hk : Kept w w' S) (hs : ∀ k, S k → ¬ EP P6 u1 u3 u9 k) : EB w' b P6 u1 u3 u6 u9 l1 l3 l6 l9 :=
  ⟨Kd.R_step E.r1 (fun k h hl => hk.2 k hl (fun h2 => hs k h2 (.inl h))), Kd.R_step E.r3 (fun k h hl => hk.2 k hl (fun h2 => hs k h2 (.inr (.inl h)))), S_step1 E.s6 (fun k h hl => hk.2 k hl (fun h2 => hs k h2 (.inr (.inr (.inl h))))), Kd.R_step E.r9 (fun k h hl => hk.2 k hl (fun h2 => hs k h2 (.inr (.inr (.inr h))))), E.a13, E.a16, E.a36, E.a19, E.a39, E.a69⟩
theorem EB.below (E : EB w b P6 u1 u3 u6 u9 l1 l3 l6 l9) (hb : Below w.heap.size w w') : EB w' b P6 u1 u3 u6 u9 l1 l3 l6 l9 := E.kept (Kept.of_below hb (fun _ => False)) (fun _ h => h.elim)
theorem EB.m1 (E : EB w b P6 u1 u3 u6 u9 l1 l3 l6 l9) (hr : Kd.R k88 88 w' b (fun k => some k = u1.ownBlock ∨ w.heap.size ≤ k) u1 r) (hk : Kept w w' (fun k => some k = u1.ownBlock)) : EB w' b P6 u1 u3 u6 u9 r l3 l6 l9 :=
  ⟨Kd.R_tight rfl hr, Kd.R_step E.r3 (fun k h hl => hk.2 k hl (fun h2 => E.a13 k h2 h)), S_step1 E.s6 (fun k h hl => hk.2 k hl (fun h2 => E.a16 k h h2)), Kd.R_step E.r9 (fun k h hl => hk.2 k hl (fun h2 => E.a19 k h2 h)), E.a13, E.a16, E.a36, E.a19, E.a39, E.a69⟩
theorem EB.m3 (E : EB w b P6 u1 u3 u6 u9 l1 l3 l6 l9) (hr : Kd.R k88 88 w' b (fun k => some k = u3.ownBlock ∨ w.heap.size ≤ k) u3 r) (hk : Kept w w' (fun k => some k = u3.ownBlock)) : EB w' b P6 u1 u3 u6 u9 l1 r l6 l9 :=
  ⟨Kd.R_step E.r1 (fun k h hl => hk.2 k hl (fun h2 => E.a13 k h h2)), Kd.R_tight rfl hr, S_step1 E.s6 (fun k h hl => hk.2 k hl (fun h2 => E.a36 k h h2)), Kd.R_step E.r9 (fun k h hl => hk.2 k hl (fun h2 => E.a39 k h2 h)), E.a13, E.a16, E.a36, E.a19, E.a39, E.a69⟩
theorem EB.m9 (E : EB w b P6 u1 u3 u6 u9 l1 l3 l6 l9) (hr : Kd.R k110 110 w' b (fun k => some k = u9.ownBlock ∨ w.heap.size ≤ k) u9 r9) (hk : Kept w w' (fun k => some k = u9.ownBlock)) : EB w' b P6 u1 u3 u6 u9 l1 l3 l6 r9 :=
  ⟨Kd.R_step E.r1 (fun k h hl => hk.2 k hl (fun h2 => E.a19 k h h2)), Kd.R_step E.r3 (fun k h hl => hk.2 k hl (fun h2 => E.a39 k h h2)), S_step1 E.s6 (fun k h hl => hk.2 k hl (fun h2 => E.a69 k h h2)), Kd.R_tight rfl hr, E.a13, E.a16, E.a36, E.a19, E.a39, E.a69⟩
theorem EB.m6 (E : EB w b P6 u1 u3 u6 u9 l1 l3 l6 l9) {N : Nat} (b1 : ∀ k, u1.ownBlock = some k → k < N) (b3 : ∀ k, u3.ownBlock = some k → k < N) (b9 : ∀ k, u9.ownBlock = some k → k < N) (hN : N ≤ w.heap.size) (hr : Kd.S k104 104 w' b (fun k => P6 k ∨ w.heap.size ≤ k) u6 r6) (hk : Kept w w' P6) : EB w' b (fun k => P6 k ∨ N ≤ k) u1 u3 u6 u9 l1 l3 r6 l9 := by
  refine ⟨Kd.R_step E.r1 (fun k h hl => hk.2 k hl (fun h2 => E.a16 k h2 h)), Kd.R_step E.r3 (fun k h hl => hk.2 k hl (fun h2 => E.a36 k h2 h)), Kd.S_mono hr (fun k h => h.elim .inl (fun h => .inr (by omega))), Kd.R_step E.r9 (fun k h hl => hk.2 k hl (fun h2 => E.a69 k h2 h)), E.a13, ?_, ?_, E.a19, E.a39, ?_⟩
  · exact fun k h h2 => h.elim (fun h => E.a16 k h h2) (fun h => by have := b1 k h2.symm; omega)
  · exact fun k h h2 => h.elim (fun h => E.a36 k h h2) (fun h => by have := b3 k h2.symm; omega)
  · exact fun k h h2 => h.elim (fun h => E.a69 k h h2) (fun h => by have := b9 k h2.symm; omega)
end
def laws_markEnd.f (k : Nat) (l1 : List S88) (a2 : Int) (l3 : List S88) (a4 : Int) (l6 : List S104) (l9 : List S110) (a1 : Int) : Option (Int × List S88 × List S88 × List S104 × List S110) :=
  (laws_markTable.f k l1 a2 a1).bind fun p => (laws_markTable.f k l3 a4 p.1).bind fun q => (laws_markStreamS.f k l6 q.1).bind fun s => (laws_markFrameS.f k l9 s.1).bind fun t => some (t.1, p.2, q.2, s.2, t.2)
theorem laws_markEnd.mono : ∀ a0 a1 a2 a3 a4 a5 a6 k, LeO (laws_markEnd.f k a0 a1 a2 a3 a4 a5 a6) (laws_markEnd.f (k + 1) a0 a1 a2 a3 a4 a5 a6) := by
 intro a0 a1 a2 a3 a4 a5 a6 k
 unfold laws_markEnd.f
 have m0 := @laws_markTable.mono
 have m1 := @laws_markStreamS.mono
 have m2 := @laws_markFrameS.mono
 exact zm
set_option maxHeartbeats 8000000 in
set_option maxRecDepth 100000 in
theorem laws_markEnd.calls (k : Nat) (a0 : Bool) (u1 : Value) (l1 : List S88) (a2 : Int) (u3 : Value) (l3 : List S88) (a4 : Int) (a5 : ByteArray) (P6 : Nat → Prop) (u6 : Value) (l6 : List S104) (a7 a8 : Int) (u9 : Value) (l9 : List S110) (a10 : Bool) (a1 r : Int) (r1 r3 : List S88) (r6 : List S104) (r9 : List S110) (w0 w : World) (hB : Below w0.heap.size w0 w)
    (he : EB w w0.heap.size P6 u1 u3 u6 u9 l1 l3 l6 l9) (hlt : ∀ k, P6 k → k < w.heap.size) (h : laws_markEnd.f k l1 a2 l3 a4 l6 l9 a1 = some (r, r1, r3, r6, r9)) :
    Calls Try.prog 23 #[.agg #[.bool a0, u1, .int .i64 a2, u3, .int .i64 a4, .string a5, u6, .int .i64 a7, .int .i64 a8, u9, .bool a10], .int .i64 a1] w fun e w' => e = .returned (.int .i64 r) ∧ EB w' w0.heap.size (fun k => P6 k ∨ w.heap.size ≤ k) u1 u3 u6 u9 r1 r3 r6 r9 ∧ Below w0.heap.size w0 w' ∧ Kept w w' (EP P6 u1 u3 u9) := by
  have H := h
  unfold laws_markEnd.f at H
  obtain ⟨p, A1, H⟩ := ob H
  obtain ⟨q, A2, H⟩ := ob H
  obtain ⟨s, A3, H⟩ := ob H
  obtain ⟨t, A4, H⟩ := ob H
  simp only [Option.some.injEq, Prod.mk.injEq] at H
  obtain ⟨rfl, rfl, rfl, rfl, rfl⟩ := H
  clear h
  have HE := Aside0.mk he
  have HB := Aside0.mk hB
  have HW := Aside0.mk (Nat.le_refl w.heap.size)
  have HK := Aside0.mk (Kept.refl w (EP P6 u1 u3 u9))
  have o1 : u1.oneCell' = true := by obtain ⟨A, c, rfl⟩ := Kd.R_slice he.r1; rfl
  have o3 : u3.oneCell' = true := by obtain ⟨A, c, rfl⟩ := Kd.R_slice he.r3; rfl
  have o6 : u6.oneCell' = true := by obtain ⟨A, c, rfl⟩ := Kd.S_slice he.s6; rfl
  have o9 : u9.oneCell' = true := by obtain ⟨A, c, rfl⟩ := Kd.R_slice he.r9; rfl
  have b1 := Kd.R_lt he.r1
  have b3 := Kd.R_lt he.r3
  have b9 := Kd.R_lt he.r9
  clear he hB
  have hu42 := Try.underlying42
  have hu25 := Try.underlying25
  have hu37 := Try.underlying37
  have hu40 := Try.underlying40
  go_enter Try.func23, Try.ntmps23
  go_wp2_with (first | ((with_reducible refine gd 2 rfl ?_); refine bx (N := 2) (cs := #[.bool a0, u1, .int .i64 a2, u3, .int .i64 a4, .string a5, u6, .int .i64 a7, .int .i64 a8, u9, .bool a10]) (t := 42) ?_; intro g hg w3 hbox hb; have BK := Aside0.mk hbox; replace HE := Aside0.mk (HE.out.below hb); replace HK := Aside0.mk (HK.out.below hb); have GW := Aside0.mk hg; have HS := Aside0.mk hb.size; replace HB := Aside0.mk (below_step (zb HB) hb); clear hb hbox hg; have hx1 := (blk_cell BK.out 1).trans rfl; have hx2 := (blk_cell BK.out 2).trans rfl; have hx3 := (blk_cell BK.out 3).trans rfl; have hx4 := (blk_cell BK.out 4).trans rfl; have hx6 := (blk_cell BK.out 6).trans rfl; have hx9 := (blk_cell BK.out 9).trans rfl) | ((with_reducible refine gd 8 rfl ?_); refine gl (some 8) Try.func70 #[.agg #[u1, .int .i64 a2], .int .i64 a1] ?_; (refine (laws_markTable.calls k (fun k_ => some k_ = u1.ownBlock) u1 l1 a2 a1 p.1 p.2 w0 _ ?s1 ?s2 A1.out).mono ?_); (case s1 => exact HB.out); (case s2 => exact HE.out.r1); rintro e w4 ⟨rfl, ho, hb, hk⟩; refine ⟨_, rfl, ?_⟩; clear hx1 hx2 hx3 hx4 hx6 hx9; have NE := Kd.R_ne HE.out.r1 BK.out (by decide); replace BK := Aside0.mk (blk_kept BK.out hk NE); clear NE; replace HE := Aside0.mk (HE.out.m1 ho hk); replace HK := Aside0.mk (HK.out.then_ hk (fun k_ h_ => .inl (.inl h_))); replace HB := Aside0.mk hb; clear ho hb hk; have hx1 := (blk_cell BK.out 1).trans rfl; have hx2 := (blk_cell BK.out 2).trans rfl; have hx3 := (blk_cell BK.out 3).trans rfl; have hx4 := (blk_cell BK.out 4).trans rfl; have hx6 := (blk_cell BK.out 6).trans rfl; have hx9 := (blk_cell BK.out 9).trans rfl) | ((with_reducible refine gd 12 rfl ?_); refine gl (some 12) Try.func70 #[.agg #[u3, .int .i64 a4], .int .i64 p.1] ?_; (refine (laws_markTable.calls k (fun k_ => some k_ = u3.ownBlock) u3 l3 a4 p.1 q.1 q.2 w0 _ ?s1 ?s2 A2.out).mono ?_); (case s1 => exact HB.out); (case s2 => exact HE.out.r3); rintro e w5 ⟨rfl, ho, hb, hk⟩; refine ⟨_, rfl, ?_⟩; clear hx1 hx2 hx3 hx4 hx6 hx9; have NE := Kd.R_ne HE.out.r3 BK.out (by decide); replace BK := Aside0.mk (blk_kept BK.out hk NE); clear NE; replace HE := Aside0.mk (HE.out.m3 ho hk); replace HK := Aside0.mk (HK.out.then_ hk (fun k_ h_ => .inl (.inr (.inl h_)))); replace HB := Aside0.mk hb; clear ho hb hk; have hx1 := (blk_cell BK.out 1).trans rfl; have hx2 := (blk_cell BK.out 2).trans rfl; have hx3 := (blk_cell BK.out 3).trans rfl; have hx4 := (blk_cell BK.out 4).trans rfl; have hx6 := (blk_cell BK.out 6).trans rfl; have hx9 := (blk_cell BK.out 9).trans rfl) | ((with_reducible refine gd 16 rfl ?_); refine gl (some 16) Try.func71 #[u6, .int .i64 q.1] ?_; (refine (laws_markStreamS.calls k P6 u6 l6 q.1 s.1 s.2 w0 _ ?s1 ?s2 A3.out).mono ?_); (case s1 => exact HB.out); (case s2 => exact HE.out.s6); rintro e w6 ⟨rfl, ho, hb, hk⟩; refine ⟨_, rfl, ?_⟩; clear hx1 hx2 hx3 hx4 hx6 hx9; replace BK := Aside0.mk (blk_kept BK.out hk (fun h_ => by have := hlt _ h_; have := GW.out; omega)); replace HE := Aside0.mk (HE.out.m6 b1 b3 b9 HK.out.1 ho hk); replace HK := Aside0.mk (HK.out.then_ hk (fun k_ h_ => .inl (.inr (.inr (.inl h_))))); replace HB := Aside0.mk hb; clear ho hb hk; have hx1 := (blk_cell BK.out 1).trans rfl; have hx2 := (blk_cell BK.out 2).trans rfl; have hx3 := (blk_cell BK.out 3).trans rfl; have hx4 := (blk_cell BK.out 4).trans rfl; have hx6 := (blk_cell BK.out 6).trans rfl; have hx9 := (blk_cell BK.out 9).trans rfl) | ((with_reducible refine gd 20 rfl ?_); refine gl (some 20) Try.func45 #[u9, .int .i64 s.1] ?_; (refine (laws_markFrameS.calls k (fun k_ => some k_ = u9.ownBlock) u9 l9 s.1 t.1 t.2 w0 _ ?s1 ?s2 A4.out).mono ?_); (case s1 => exact HB.out); (case s2 => exact HE.out.r9); rintro e w7 ⟨rfl, ho, hb, hk⟩; refine ⟨_, rfl, ?_⟩; clear hx1 hx2 hx3 hx4 hx6 hx9; replace HE := Aside0.mk (HE.out.m9 ho hk); replace HK := Aside0.mk (HK.out.then_ hk (fun k_ h_ => .inl (.inr (.inr (.inr h_))))); replace HB := Aside0.mk hb; clear ho hb hk BK))
  go_ret
  exact ⟨rfl, HE.out, HB.out, HK.out⟩
section
variable {P : Program} {ops : Array Oper} {rest : List Oper} {o : Oper} {a : Act} {Q : Exit → Act → World → Prop} {W W0 : World} {g T : Nat} {c0 c1 : Array Value}
/-- A record out of a block, as one. -/
theorem ldm {ty : TypeId} {x : Operand} {d : TypeDesc} (h0 : Aside0 (W0.heap[g]? = some (.cells c0 T (0, 0)))) (j : Nat) (cs : List Value) (hu : P.underlying ty = some d) (h : wpList P ops Q rest (a.put o.dst (.agg cs.toArray)) W)
    (m : Chg g W0 c0 W c1 := by repeat (first | (with_reducible first | exact Chg.refl | apply Chg.alloc | apply Chg.drewN | apply Chg.drew | apply Chg.put) | ((with_reducible apply Chg.far); (case hp => exact Aside0.out (by assumption)))))
    (he : (c1.extract j (j + cs.length)).toList = cs := by kernel_rfl) (hg : o.guard = none := by rfl) (ho : o.op = .load ty x := by rfl) (hx : a.eval x = .pointer (some ⟨g, j, none⟩) := by rfl) (hd : d.isRow = true := by rfl) (hi : (P.info? ty).map (·.size) = some cs.length := by kernel_rfl) : wpList P ops Q (o :: rest) a W :=
  wpList_load_mid hg ty x ho g j hx cs d (by have h1 := World.rangeAt_of_block ((zp h0 m rfl : W.heap[g]? = some (.cells c1 T (0, 0)))) j cs.length; rwa [he] at h1) hu hd hi h
end
theorem EB.lt {w : World} {b : Nat} {P6 : Nat → Prop} {u1 u3 u6 u9 : Value} {l1 l3 : List S88} {l6 : List S104} {l9 : List S110} (E : EB w b P6 u1 u3 u6 u9 l1 l3 l6 l9) (hlt : ∀ k, P6 k → k < w.heap.size) (k : Nat) (h : EP P6 u1 u3 u9 k) : k < w.heap.size :=
  h.elim (fun h => Kd.R_lt E.r1 k h.symm) (fun h => h.elim (fun h => Kd.R_lt E.r3 k h.symm) (fun h => h.elim (hlt k) (fun h => Kd.R_lt E.r9 k h.symm)))
theorem EB.one {w : World} {b : Nat} {P6 : Nat → Prop} {u1 u3 u6 u9 : Value} {l1 l3 : List S88} {l6 : List S104} {l9 : List S110} (E : EB w b P6 u1 u3 u6 u9 l1 l3 l6 l9) : u1.oneCell' = true ∧ u3.oneCell' = true ∧ u6.oneCell' = true ∧ u9.oneCell' = true :=
  ⟨by obtain ⟨A, c, rfl⟩ := Kd.R_slice E.r1; rfl, by obtain ⟨A, c, rfl⟩ := Kd.R_slice E.r3; rfl, by obtain ⟨A, c, rfl⟩ := Kd.S_slice E.s6; rfl, by obtain ⟨A, c, rfl⟩ := Kd.R_slice E.r9; rfl⟩
theorem EB.widen {w : World} {b : Nat} {P6 : Nat → Prop} {u1 u3 u6 u9 : Value} {l1 l3 : List S88} {l6 : List S104} {l9 : List S110} {N N' : Nat} (E : EB w b (fun k => P6 k ∨ N' ≤ k) u1 u3 u6 u9 l1 l3 l6 l9) (hN : N ≤ N') (b1 : ∀ k, u1.ownBlock = some k → k < N) (b3 : ∀ k, u3.ownBlock = some k → k < N) (b9 : ∀ k, u9.ownBlock = some k → k < N) : EB w b (fun k => P6 k ∨ N ≤ k) u1 u3 u6 u9 l1 l3 l6 l9 :=
  ⟨E.r1, E.r3, Kd.S_mono E.s6 (fun k h => h.elim .inl (fun h => .inr (Nat.le_trans hN h))), E.r9, E.a13, fun k h h2 => h.elim (fun h => E.a16 k (.inl h) h2) (fun h => by have := b1 k h2.symm; omega), fun k h h2 => h.elim (fun h => E.a36 k (.inl h) h2) (fun h => by have := b3 k h2.symm; omega), E.a19, E.a39, fun k h h2 => h.elim (fun h => E.a69 k (.inl h) h2) (fun h => by have := b9 k h2.symm; omega)⟩
def laws_markWorld.g (k : Nat) (l1 : List S88) (a2 : Int) (l3 : List S88) (a4 : Int) (l6 : List S104) (l9 : List S110) (m1 : List S88) (b2 : Int) (m3 : List S88) (b4 : Int) (m6 : List S104) (m9 : List S110) (n : Int) : Option Int :=
  (laws_markEnd.f k l1 a2 l3 a4 l6 l9 n).bind fun p => (laws_markEnd.f k m1 b2 m3 b4 m6 m9 p.1).bind fun q => some q.1
def laws_markWorld.f (k : Nat) (a0_0 : Bool) (l0_1 : List S88) (a0_2 : Int) (l0_3 : List S88) (a0_4 : Int) (a0_5 : ByteArray) (l0_6 : List S104) (a0_7 : Int) (a0_8 : Int) (l0_9 : List S110) (a0_10 : Bool) (a0_11 : Bool) (l0_12 : List S88) (a0_13 : Int) (l0_14 : List S88) (a0_15 : Int) (a0_16 : ByteArray) (l0_17 : List S104) (a0_18 : Int) (a0_19 : Int) (l0_20 : List S110) (a0_21 : Bool) (a0_22 : ByteArray) (a0_23 : ByteArray) (a1 : Int) : Option (Int) := laws_markWorld.g k l0_1 a0_2 l0_3 a0_4 l0_6 l0_9 l0_12 a0_13 l0_14 a0_15 l0_17 l0_20 a1
theorem laws_markWorld.mono : ∀ a0 a1 a2 a3 a4 a5 a6 a7 a8 a9 a10 a11 a12 a13 a14 a15 a16 a17 a18 a19 a20 a21 a22 a23 a24 k, LeO (laws_markWorld.f k a0 a1 a2 a3 a4 a5 a6 a7 a8 a9 a10 a11 a12 a13 a14 a15 a16 a17 a18 a19 a20 a21 a22 a23 a24) (laws_markWorld.f (k + 1) a0 a1 a2 a3 a4 a5 a6 a7 a8 a9 a10 a11 a12 a13 a14 a15 a16 a17 a18 a19 a20 a21 a22 a23 a24) := by
 intro a0 a1 a2 a3 a4 a5 a6 a7 a8 a9 a10 a11 a12 a13 a14 a15 a16 a17 a18 a19 a20 a21 a22 a23 a24 k
 unfold laws_markWorld.f laws_markWorld.g
 have m0 := @laws_markEnd.mono
 exact zm
set_option maxHeartbeats 8000000 in
set_option maxRecDepth 100000 in
theorem laws_markWorld.calls (k : Nat) (a0 : Bool) (u1 : Value) (l1 : List S88) (a2 : Int) (u3 : Value) (l3 : List S88) (a4 : Int) (a5 : ByteArray) (P6 : Nat → Prop) (u6 : Value) (l6 : List S104) (a7 a8 : Int) (u9 : Value) (l9 : List S110) (a10 : Bool)
    (b0 : Bool) (v1 : Value) (m1 : List S88) (b2 : Int) (v3 : Value) (m3 : List S88) (b4 : Int) (b5 : ByteArray) (Q6 : Nat → Prop) (v6 : Value) (m6 : List S104) (b7 b8 : Int) (v9 : Value) (m9 : List S110) (b10 : Bool) (up down : ByteArray) (n p0 : Int) (p1 p3 : List S88) (p6 : List S104) (p9 : List S110) (q0 : Int) (q1 q3 : List S88) (q6 : List S104) (q9 : List S110) (w0 w : World) (hB : Below w0.heap.size w0 w)
    (he : EB w w0.heap.size P6 u1 u3 u6 u9 l1 l3 l6 l9) (hf : EB w w0.heap.size Q6 v1 v3 v6 v9 m1 m3 m6 m9) (hlt : ∀ k, P6 k → k < w.heap.size) (hlu : ∀ k, Q6 k → k < w.heap.size) (hd : ∀ k, EP P6 u1 u3 u9 k → ¬ EP Q6 v1 v3 v9 k) (h1 : laws_markEnd.f k l1 a2 l3 a4 l6 l9 n = some (p0, p1, p3, p6, p9)) (h2 : laws_markEnd.f k m1 b2 m3 b4 m6 m9 p0 = some (q0, q1, q3, q6, q9)) :
    Calls Try.prog 28 #[.agg #[.bool a0, u1, .int .i64 a2, u3, .int .i64 a4, .string a5, u6, .int .i64 a7, .int .i64 a8, u9, .bool a10, .bool b0, v1, .int .i64 b2, v3, .int .i64 b4, .string b5, v6, .int .i64 b7, .int .i64 b8, v9, .bool b10, .string up, .string down], .int .i64 n] w fun e w' => e = .returned (.int .i64 q0) ∧ EB w' w0.heap.size (fun k => P6 k ∨ w.heap.size ≤ k) u1 u3 u6 u9 p1 p3 p6 p9 ∧ EB w' w0.heap.size (fun k => Q6 k ∨ w.heap.size ≤ k) v1 v3 v6 v9 q1 q3 q6 q9 ∧ Below w0.heap.size w0 w' ∧ Kept w w' (fun k => EP P6 u1 u3 u9 k ∨ EP Q6 v1 v3 v9 k) := by
  have A1 := Aside0.mk h1
  have A2 := Aside0.mk h2
  clear h1 h2
  have e1 := Kd.R_lt he.r1
  have e3 := Kd.R_lt he.r3
  have e9 := Kd.R_lt he.r9
  have g1 := Kd.R_lt hf.r1
  have g3 := Kd.R_lt hf.r3
  have g9 := Kd.R_lt hf.r9
  have L2 := Aside0.mk (hf.lt hlu)
  obtain ⟨c1, c3, c6, c9⟩ := he.one
  obtain ⟨d1, d3, d6, d9⟩ := hf.one
  have L1 := Aside0.mk (he.lt hlt)
  have HE := Aside0.mk he
  have HF := Aside0.mk hf
  have HB := Aside0.mk hB
  have HK := Aside0.mk (Kept.refl w (fun k => EP P6 u1 u3 u9 k ∨ EP Q6 v1 v3 v9 k))
  have hL := Aside0.mk hlt
  have hU := Aside0.mk hlu
  have HD := Aside0.mk hd
  clear he hf hB hlt hlu hd
  have hu48 := Try.underlying48
  go_enter Try.func28, Try.ntmps28
  go_wp2_with (first | ((with_reducible refine gd 2 rfl ?_); refine bx (N := 2) (cs := #[.bool a0, u1, .int .i64 a2, u3, .int .i64 a4, .string a5, u6, .int .i64 a7, .int .i64 a8, u9, .bool a10, .bool b0, v1, .int .i64 b2, v3, .int .i64 b4, .string b5, v6, .int .i64 b7, .int .i64 b8, v9, .bool b10, .string up, .string down]) (t := 48) ?_; intro g hg w3 hbox hb; have BK := Aside0.mk hbox; replace HE := Aside0.mk (HE.out.below hb); replace HF := Aside0.mk (HF.out.below hb); replace HK := Aside0.mk (HK.out.below hb); have GW := Aside0.mk hg; have HS := Aside0.mk hb.size; replace HB := Aside0.mk (below_step (zb HB) hb); clear hb hbox hg) | ((with_reducible refine gd 6 rfl ?_); refine ldm BK 0 ([.bool a0, u1, .int .i64 a2, u3, .int .i64 a4, .string a5, u6, .int .i64 a7, .int .i64 a8, u9, .bool a10] : List Value) Try.underlying42 ?_) | ((with_reducible refine gd 8 rfl ?_); refine gl (some 8) Try.func23 #[.agg #[.bool a0, u1, .int .i64 a2, u3, .int .i64 a4, .string a5, u6, .int .i64 a7, .int .i64 a8, u9, .bool a10], .int .i64 n] ?_; (refine (laws_markEnd.calls k a0 u1 l1 a2 u3 l3 a4 a5 P6 u6 l6 a7 a8 u9 l9 a10 n p0 p1 p3 p6 p9 w0 _ ?s1 ?s2 ?s3 A1.out).mono ?_); (case s1 => exact HB.out); (case s2 => exact HE.out); (case s3 => exact fun k_ h_ => Nat.lt_of_lt_of_le (hL.out k_ h_) HS.out); rintro e w4 ⟨rfl, ho, hb, hk⟩; refine ⟨_, rfl, ?_⟩; replace BK := Aside0.mk (blk_kept BK.out hk (fun h_ => by have := L1.out _ h_; have := GW.out; omega)); have HSx := HS.out; replace HF := Aside0.mk (HF.out.kept hk HD.out); replace HK := Aside0.mk (HK.out.then_ hk (fun k_ h_ => .inl (.inl h_))); replace HS := Aside0.mk (Nat.le_trans HS.out hk.1); replace HB := Aside0.mk hb; replace HE := Aside0.mk (ho.widen (N := w.heap.size) HSx e1 e3 e9); clear ho hb hk HSx) | ((with_reducible refine gd 10 rfl ?_); refine ldm BK 11 ([.bool b0, v1, .int .i64 b2, v3, .int .i64 b4, .string b5, v6, .int .i64 b7, .int .i64 b8, v9, .bool b10] : List Value) Try.underlying42 ?_) | ((with_reducible refine gd 12 rfl ?_); refine gl (some 12) Try.func23 #[.agg #[.bool b0, v1, .int .i64 b2, v3, .int .i64 b4, .string b5, v6, .int .i64 b7, .int .i64 b8, v9, .bool b10], .int .i64 p0] ?_; (refine (laws_markEnd.calls k b0 v1 m1 b2 v3 m3 b4 b5 Q6 v6 m6 b7 b8 v9 m9 b10 p0 q0 q1 q3 q6 q9 w0 _ ?s1 ?s2 ?s3 A2.out).mono ?_); (case s1 => exact HB.out); (case s2 => exact HF.out); (case s3 => exact fun k_ h_ => Nat.lt_of_lt_of_le (hU.out k_ h_) HS.out); rintro e w5 ⟨rfl, ho, hb, hk⟩; refine ⟨_, rfl, ?_⟩; have HSx := HS.out; replace HE := Aside0.mk (HE.out.kept hk (fun k_ h2_ h1_ => by have h3_ := L2.out k_ h2_; rcases h1_ with h_ | h_ | (h_ | h_) | h_; exact HD.out k_ (.inl h_) h2_; exact HD.out k_ (.inr (.inl h_)) h2_; exact HD.out k_ (.inr (.inr (.inl h_))) h2_; omega; exact HD.out k_ (.inr (.inr (.inr h_))) h2_)); replace HF := Aside0.mk (ho.widen (N := w.heap.size) HSx g1 g3 g9); replace HK := Aside0.mk (HK.out.then_ hk (fun k_ h_ => .inl (.inr h_))); replace HB := Aside0.mk hb; clear ho hb hk BK HSx))
  go_ret
  exact ⟨rfl, HE.out, HF.out, HB.out, HK.out⟩

/-! ### laws_szField: function 156 -/
-- thin
def laws_szField.f (a0_0 : ByteArray) (a0_1 : ByteArray) (a0_2 : Bool) (a1 : Int) : Option (Int) := if (wrap64 (a1 - (a0_0.size : Int))) < 0 then (some (-1)) else (if (wrap64 ((wrap64 (a1 - (a0_0.size : Int))) - (a0_1.size : Int))) < 0 then (some (-1)) else (some (wrap64 ((wrap64 (a1 - (a0_0.size : Int))) - (a0_1.size : Int)))))
set_option maxHeartbeats 8000000 in
set_option maxRecDepth 100000 in
theorem laws_szField.calls (a0_0 : ByteArray) (a0_1 : ByteArray) (a0_2 : Bool) (a1 : Int) (r : Int) (w : World) (h : laws_szField.f a0_0 a0_1 a0_2 a1 = some r) :
  Calls Try.prog 156 #[.agg #[.string a0_0, .string a0_1, .bool a0_2], .int .i64 a1] w fun e w' => e = .returned (.int .i64 r) ∧ Below w.heap.size w w' := by
 have hu192 := Try.underlying192
 have HB := Aside0.mk (Below.refl w.heap.size w)
 have H : (if (wrap64 (a1 - (a0_0.size : Int))) < 0 then (some (-1)) else (if (wrap64 ((wrap64 (a1 - (a0_0.size : Int))) - (a0_1.size : Int))) < 0 then (some (-1)) else (some (wrap64 ((wrap64 (a1 - (a0_0.size : Int))) - (a0_1.size : Int)))))) = some r := h
 clear h
 replace H := sp H
 rcases H with ⟨c3, H⟩ | ⟨c3, H⟩
 ·skip
  have c3b0 := decide_eq_true c3
  clear c3
  obtain rfl := Option.some.inj H
  go_enter Try.func156, Try.ntmps156
  go_wp2_with (first | ((with_reducible refine gd 2 rfl ?_); refine bx (N := 2) (cs := #[.string a0_0, .string a0_1, .bool a0_2]) (t := 192) ?_; intro gb156 hg w4 hbox hb; have BK156 := Aside0.mk (hbox); have GW156 := gw HB hg; have GE156 := GW156; replace HB := Aside0.mk (below_step (zb HB) hb); clear hb hbox hg; obtain ⟨hcz5_0, hcz5_1, hcz5_2, hfz5_0, hfz5_1, hfz5_2⟩ := c3 BK156))
  go_ret
  exact ⟨ze, zb HB⟩
 ·skip
  have c3b0 := decide_eq_false c3
  clear c3
  replace H := sp H
  rcases H with ⟨c6, H⟩ | ⟨c6, H⟩
  ·skip
   have c6b0 := decide_eq_true c6
   clear c6
   obtain rfl := Option.some.inj H
   go_enter Try.func156, Try.ntmps156
   go_wp2_with (first | ((with_reducible refine gd 2 rfl ?_); refine bx (N := 2) (cs := #[.string a0_0, .string a0_1, .bool a0_2]) (t := 192) ?_; intro gb156 hg w7 hbox hb; have BK156 := Aside0.mk (hbox); have GW156 := gw HB hg; have GE156 := GW156; replace HB := Aside0.mk (below_step (zb HB) hb); clear hb hbox hg; obtain ⟨hcz8_0, hcz8_1, hcz8_2, hfz8_0, hfz8_1, hfz8_2⟩ := c3 BK156))
   go_ret
   exact ⟨ze, zb HB⟩
  ·skip
   have c6b0 := decide_eq_false c6
   clear c6
   obtain rfl := Option.some.inj H
   go_enter Try.func156, Try.ntmps156
   go_wp2_with (first | ((with_reducible refine gd 2 rfl ?_); refine bx (N := 2) (cs := #[.string a0_0, .string a0_1, .bool a0_2]) (t := 192) ?_; intro gb156 hg w9 hbox hb; have BK156 := Aside0.mk (hbox); have GW156 := gw HB hg; have GE156 := GW156; replace HB := Aside0.mk (below_step (zb HB) hb); clear hb hbox hg; obtain ⟨hcz10_0, hcz10_1, hcz10_2, hfz10_0, hfz10_1, hfz10_2⟩ := c3 BK156))
   go_ret
   exact ⟨ze, zb HB⟩

/-! ### laws_szFieldS: function 130 -/
-- thin
def laws_szFieldS.l0 : Nat → List (S192) → Int → Int → Option (Int)
 | 0, _, _, _ => none
 | k + 1, x0, x1, x5 => if x5 < (x0.length : Int) then (if 0 ≤ x5 then ((laws_szField.f ((rd_T192 x0 x5).f0) ((rd_T192 x0 x5).f1) ((rd_T192 x0 x5).f2) x1).bind fun t158 => (if t158 < 0 then (some (-1)) else (laws_szFieldS.l0 k x0 t158 (wrap64 (x5 + 1))))) else (none)) else (some x1)
def laws_szFieldS.f (k : Nat) (l0 : List (S192)) (a1 : Int) : Option (Int) := if (wrap64 (a1 - (l0.length : Int))) < 0 then (some (-1)) else (laws_szFieldS.l0 k l0 (wrap64 (a1 - (l0.length : Int))) 0)
theorem laws_szFieldS.mono_l : ∀ k, (∀ y0 y1 y2, LeO (laws_szFieldS.l0 k y0 y1 y2) (laws_szFieldS.l0 (k + 1) y0 y1 y2))
 | 0 => fun _ _ _ r h => by simp [laws_szFieldS.l0] at h
 | k + 1 => by
  have ih0 := laws_szFieldS.mono_l k
  ·intro y0 y1 y2
   unfold laws_szFieldS.l0
   exact zm
theorem laws_szFieldS.mono : ∀ a0 a1 k, LeO (laws_szFieldS.f k a0 a1) (laws_szFieldS.f (k + 1) a0 a1) := by
 intro a0 a1 k
 have ih0 := laws_szFieldS.mono_l k
 unfold laws_szFieldS.f
 exact zm
set_option maxHeartbeats 8000000 in
set_option maxRecDepth 100000 in
theorem laws_szFieldS.calls (k : Nat) (A0 : Option Addr) (c0 : Nat) (l0 : List (S192)) (a1 : Int) (r : Int) (w : World) (hr0 : Kd.C k192 w A0 l0.length l0) (hc0 : l0.length ≤ c0) (h : laws_szFieldS.f k l0 a1 = some r) :
  Calls Try.prog 130 #[.slice A0 l0.length c0, .int .i64 a1] w fun e w' => e = .returned (.int .i64 r) ∧ Below w.heap.size w w' := by
 have hu192 := Try.underlying192
 have HR0 := Aside0.mk hr0
 have HC0 := Aside0.mk hc0
 clear hr0 hc0
 have HB := Aside0.mk (Below.refl w.heap.size w)
 have H : (if (wrap64 (a1 - (l0.length : Int))) < 0 then (some (-1)) else (laws_szFieldS.l0 k l0 (wrap64 (a1 - (l0.length : Int))) 0)) = some r := h
 clear h
 replace H := sp H
 rcases H with ⟨c3, H⟩ | ⟨c3, H⟩
 ·skip
  have c3b0 := decide_eq_true c3
  clear c3
  obtain rfl := Option.some.inj H
  go_enter Try.func130, Try.ntmps130
  go_wp2
  go_ret
  exact ⟨ze, zb HB⟩
 ·skip
  have c3b0 := decide_eq_false c3
  clear c3
  have H' := Aside0.mk H
  clear H
  go_enter Try.func130, Try.ntmps130
  go_wp2
  go_loopg [1, 5] k (fun kq v1 v5 w' => ∃ (x1_1 : Int) (x5_1 : Int), v1 = .int .i64 x1_1 ∧ v5 = .int .i64 x5_1 ∧ Aside0 (laws_szFieldS.l0 kq l0 x1_1 x5_1 = some r) ∧ Aside0 (kq ≤ k) ∧ Aside0 (Below w.heap.size w w'))
  case atStart => exact ⟨(wrap64 (a1 - (l0.length : Int))), (0), zs, zs, H', ⟨Nat.le_refl _⟩, ⟨zb HB⟩⟩
  case round =>
   clear H'
   try clear c1
   try clear p2
   try clear c3
   try clear c3b0
   obtain ⟨x1_1, x5_1, rfl, rfl, HA, HK1, HB⟩ := hrel
   cases gk with
   | zero => exact absurd HA.out (by simp [laws_szFieldS.l0])
   | succ k1 =>
    have H := HA.out
    clear HA
    simp only [laws_szFieldS.l0] at H
    replace H := sp H
    rcases H with ⟨c4, H⟩ | ⟨c4, H⟩
    ·skip
     have c4b0 := decide_eq_true c4
     clear c4
     by_cases c5 : 0 ≤ x5_1
     ·rw [if_pos c5] at H
      have c5b0 := decide_eq_true c5
      clear c5
      obtain ⟨t158, A6, H⟩ := ob H
      (try dsimp only at H)
      have HC7 := Aside0.mk H
      clear H
      have p157 : 0 ≤ (x5_1 : Int) := of_decide_eq_true za
      have q157 : x5_1 < (l0.length : Int) := of_decide_eq_true za
      obtain ⟨ad157, e157, hx157_0, hx157_1, hx157_2⟩ := at_T192 HR0.out x5_1 p157 q157
      cases e157
      replace hx157_0 := cb0 hx157_0 HB
      replace hx157_1 := cb0 hx157_1 HB
      replace hx157_2 := cb0 hx157_2 HB
      replace p157 := eq_true p157
      replace q157 := eq_true q157
      go_upto_if 25 with (first | ((with_reducible refine gq 156 rfl ?_); refine gl (some 23) Try.func156 #[.agg #[.string ((rd_T192 l0 x5_1).f0), .string ((rd_T192 l0 x5_1).f1), .bool ((rd_T192 l0 x5_1).f2)], .int .i64 x1_1] ?_; (with_reducible refine (laws_szField.calls ((rd_T192 l0 x5_1).f0) ((rd_T192 l0 x5_1).f1) ((rd_T192 l0 x5_1).f2) x1_1 t158 _ A6.out).mono ?_); rintro e w8 ⟨rfl, hb⟩; refine ⟨_, rfl, ?_⟩; replace HB := Aside0.mk (below_step (zb HB) hb); (try clear hb)))
      (try simp only [Act.put, s1, s2, s3])
      have H := HC7.out
      clear HC7
      by_cases c9 : t158 < 0
      ·rw [if_pos c9] at H
       have c9b0 := decide_eq_true c9
       clear c9
       (first | rw [c9b0] | rw [c9b1] | rw [c9b2] | (simp only [i64_w, i32_w]; rw [c9b0]) | skip)
       obtain rfl := Option.some.inj H
       go_wp2
       go_ret
       exact ⟨ze, zb HB⟩
      ·rw [if_neg c9] at H
       have c9b0 := decide_eq_false c9
       clear c9
       (first | rw [c9b0] | rw [c9b1] | rw [c9b2] | (simp only [i64_w, i32_w]; rw [c9b0]) | skip)
       have H' := Aside0.mk H
       clear H
       go_wp2
       go_roundg k1
       case measure => have := HK1.out; omega
       case rel => exact ⟨(t158), (wrap64 (x5_1 + 1)), zs, zs, H', ⟨by have := HK1.out; omega⟩, ⟨zb HB⟩⟩
     ·rw [if_neg c5] at H
      exact absurd H (by simp)
    ·skip
     have c4b0 := decide_eq_false c4
     clear c4
     obtain rfl := Option.some.inj H
     go_wp2
     go_ret
     exact ⟨ze, zb HB⟩

/-! ### laws_szTable: function 89 -/
-- thin
def laws_szTable.f (k : Nat) (l0_0 : List (S192)) (a0_1 : Int) (a1 : Int) : Option (Int) := (laws_szFieldS.f k l0_0 a1).bind fun t160 => (if t160 < 0 then (some (-1)) else (some t160))
theorem laws_szTable.mono : ∀ a0 a1 a2 k, LeO (laws_szTable.f k a0 a1 a2) (laws_szTable.f (k + 1) a0 a1 a2) := by
 intro a0 a1 a2 k
 unfold laws_szTable.f
 have m0 := @laws_szFieldS.mono
 exact zm
set_option maxHeartbeats 8000000 in
set_option maxRecDepth 100000 in
theorem laws_szTable.calls (k : Nat) (A0_0 : Option Addr) (c0_0 : Nat) (l0_0 : List (S192)) (a0_1 : Int) (a1 : Int) (r : Int) (w : World) (hr0_0 : Kd.C k192 w A0_0 l0_0.length l0_0) (hc0_0 : l0_0.length ≤ c0_0) (h : laws_szTable.f k l0_0 a0_1 a1 = some r) :
  Calls Try.prog 89 #[.agg #[.slice A0_0 l0_0.length c0_0, .int .i64 a0_1], .int .i64 a1] w fun e w' => e = .returned (.int .i64 r) ∧ Below w.heap.size w w' := by
 have hu59 := Try.underlying59
 have HR0_0 := Aside0.mk hr0_0
 have HC0_0 := Aside0.mk hc0_0
 clear hr0_0 hc0_0
 have HB := Aside0.mk (Below.refl w.heap.size w)
 have H : ((laws_szFieldS.f k l0_0 a1).bind fun t160 => (if t160 < 0 then (some (-1)) else (some t160))) = some r := h
 clear h
 obtain ⟨t160, A3, H⟩ := ob H
 (try dsimp only at H)
 have HC4 := Aside0.mk H
 clear H
 go_enter Try.func89, Try.ntmps89
 go_upto_if 10 with (first | ((with_reducible refine gd 2 rfl ?_); refine bx (N := 2) (cs := #[.slice A0_0 l0_0.length c0_0, .int .i64 a0_1]) (t := 59) ?_; intro gb159 hg w5 hbox hb; have BK159 := Aside0.mk (hbox); have GW159 := gw HB hg; have GE159 := GW159; replace HB := Aside0.mk (below_step (zb HB) hb); clear hb hbox hg; obtain ⟨hcz6_0, hcz6_1, hfz6_0, hfz6_1⟩ := c2 BK159) | ((with_reducible refine gq 130 rfl ?_); refine gl (some 8) Try.func130 #[.slice A0_0 l0_0.length c0_0, .int .i64 a1] ?_; (with_reducible refine (laws_szFieldS.calls k _ _ l0_0 a1 t160 _ ?side1 ?side2 A3.out).mono ?_); (case side1 => exact zc (Kd.C_below HR0_0.out HB.out)); (case side2 => exact HC0_0.out); rintro e w7 ⟨rfl, hb⟩; refine ⟨_, rfl, ?_⟩; replace BK159 := kb BK159 hb; replace HB := Aside0.mk (below_step (zb HB) hb); (try clear hb)))
 (try simp only [Act.put, s1, s2, s3])
 have H := HC4.out
 clear HC4
 replace H := sp H
 rcases H with ⟨c8, H⟩ | ⟨c8, H⟩
 ·skip
  have c8b0 := decide_eq_true c8
  clear c8
  (first | rw [c8b0] | rw [c8b1] | rw [c8b2] | (simp only [i64_w, i32_w]; rw [c8b0]) | skip)
  obtain rfl := Option.some.inj H
  go_wp2
  go_ret
  exact ⟨ze, zb HB⟩
 ·skip
  have c8b0 := decide_eq_false c8
  clear c8
  (first | rw [c8b0] | rw [c8b1] | rw [c8b2] | (simp only [i64_w, i32_w]; rw [c8b0]) | skip)
  obtain rfl := Option.some.inj H
  go_wp2
  go_ret
  exact ⟨ze, zb HB⟩

/-! ### laws_szStream: function 131 -/
-- thin
def laws_szStream.f (k : Nat) (a0_0 : Int) (a0_1 : Int) (l0_2 : List (S192)) (a0_3 : ByteArray) (a0_4 : Bool) (a0_5 : Bool) (a0_6 : Int) (l0_7 : List (S192)) (a0_8 : ByteArray) (a0_9 : Bool) (a0_10 : Int) (a0_11 : Int) (a1 : Int) : Option (Int) := (laws_szFieldS.f k l0_2 a1).bind fun t162 => (if t162 < 0 then (some (-1)) else (if (wrap64 (t162 - (a0_3.size : Int))) < 0 then (some (-1)) else ((laws_szFieldS.f k l0_7 (wrap64 (t162 - (a0_3.size : Int)))).bind fun t163 => (if t163 < 0 then (some (-1)) else (if (wrap64 (t163 - (a0_8.size : Int))) < 0 then (some (-1)) else (some (wrap64 (t163 - (a0_8.size : Int)))))))))
theorem laws_szStream.mono : ∀ a0 a1 a2 a3 a4 a5 a6 a7 a8 a9 a10 a11 a12 k, LeO (laws_szStream.f k a0 a1 a2 a3 a4 a5 a6 a7 a8 a9 a10 a11 a12) (laws_szStream.f (k + 1) a0 a1 a2 a3 a4 a5 a6 a7 a8 a9 a10 a11 a12) := by
 intro a0 a1 a2 a3 a4 a5 a6 a7 a8 a9 a10 a11 a12 k
 unfold laws_szStream.f
 have m0 := @laws_szFieldS.mono
 exact zm
set_option maxHeartbeats 8000000 in
set_option maxRecDepth 100000 in
theorem laws_szStream.calls (k : Nat) (a0_0 : Int) (a0_1 : Int) (A0_2 : Option Addr) (c0_2 : Nat) (l0_2 : List (S192)) (a0_3 : ByteArray) (a0_4 : Bool) (a0_5 : Bool) (a0_6 : Int) (A0_7 : Option Addr) (c0_7 : Nat) (l0_7 : List (S192)) (a0_8 : ByteArray) (a0_9 : Bool) (a0_10 : Int) (a0_11 : Int) (a1 : Int) (r : Int) (w : World) (hr0_2 : Kd.C k192 w A0_2 l0_2.length l0_2) (hc0_2 : l0_2.length ≤ c0_2) (hr0_7 : Kd.C k192 w A0_7 l0_7.length l0_7) (hc0_7 : l0_7.length ≤ c0_7) (h : laws_szStream.f k a0_0 a0_1 l0_2 a0_3 a0_4 a0_5 a0_6 l0_7 a0_8 a0_9 a0_10 a0_11 a1 = some r) :
  Calls Try.prog 131 #[.agg #[.int .i64 a0_0, .int .i64 a0_1, .slice A0_2 l0_2.length c0_2, .string a0_3, .bool a0_4, .bool a0_5, .int .i64 a0_6, .slice A0_7 l0_7.length c0_7, .string a0_8, .bool a0_9, .int .i64 a0_10, .int .i64 a0_11], .int .i64 a1] w fun e w' => e = .returned (.int .i64 r) ∧ Below w.heap.size w w' := by
 have hu167 := Try.underlying167
 have HR0_2 := Aside0.mk hr0_2
 have HC0_2 := Aside0.mk hc0_2
 clear hr0_2 hc0_2
 have HR0_7 := Aside0.mk hr0_7
 have HC0_7 := Aside0.mk hc0_7
 clear hr0_7 hc0_7
 have HB := Aside0.mk (Below.refl w.heap.size w)
 have H : ((laws_szFieldS.f k l0_2 a1).bind fun t162 => (if t162 < 0 then (some (-1)) else (if (wrap64 (t162 - (a0_3.size : Int))) < 0 then (some (-1)) else ((laws_szFieldS.f k l0_7 (wrap64 (t162 - (a0_3.size : Int)))).bind fun t163 => (if t163 < 0 then (some (-1)) else (if (wrap64 (t163 - (a0_8.size : Int))) < 0 then (some (-1)) else (some (wrap64 (t163 - (a0_8.size : Int)))))))))) = some r := h
 clear h
 obtain ⟨t162, A3, H⟩ := ob H
 (try dsimp only at H)
 have HC4 := Aside0.mk H
 clear H
 go_enter Try.func131, Try.ntmps131
 go_upto_if 10 with (first | ((with_reducible refine gd 2 rfl ?_); refine bx (N := 2) (cs := #[.int .i64 a0_0, .int .i64 a0_1, .slice A0_2 l0_2.length c0_2, .string a0_3, .bool a0_4, .bool a0_5, .int .i64 a0_6, .slice A0_7 l0_7.length c0_7, .string a0_8, .bool a0_9, .int .i64 a0_10, .int .i64 a0_11]) (t := 167) ?_; intro gb161 hg w5 hbox hb; have BK161 := Aside0.mk (hbox); have GW161 := gw HB hg; have GE161 := GW161; replace HB := Aside0.mk (below_step (zb HB) hb); clear hb hbox hg; obtain ⟨hcz6_0, hcz6_1, hcz6_2, hcz6_3, hcz6_4, hcz6_5, hcz6_6, hcz6_7, hcz6_8, hcz6_9, hcz6_10, hcz6_11, hfz6_0, hfz6_1, hfz6_2, hfz6_3, hfz6_4, hfz6_5, hfz6_6, hfz6_7, hfz6_8, hfz6_9, hfz6_10, hfz6_11⟩ := c12 BK161) | ((with_reducible refine gq 130 rfl ?_); refine gl (some 8) Try.func130 #[.slice A0_2 l0_2.length c0_2, .int .i64 a1] ?_; (with_reducible refine (laws_szFieldS.calls k _ _ l0_2 a1 t162 _ ?side1 ?side2 A3.out).mono ?_); (case side1 => exact zc (Kd.C_below HR0_2.out HB.out)); (case side2 => exact HC0_2.out); rintro e w7 ⟨rfl, hb⟩; refine ⟨_, rfl, ?_⟩; replace BK161 := kb BK161 hb; replace HB := Aside0.mk (below_step (zb HB) hb); (try clear hb)))
 (try simp only [Act.put, s1, s2, s3])
 have H := HC4.out
 clear HC4
 replace H := sp H
 rcases H with ⟨c8, H⟩ | ⟨c8, H⟩
 ·skip
  have c8b0 := decide_eq_true c8
  clear c8
  (first | rw [c8b0] | rw [c8b1] | rw [c8b2] | (simp only [i64_w, i32_w]; rw [c8b0]) | skip)
  obtain rfl := Option.some.inj H
  go_wp2
  go_ret
  exact ⟨ze, zb HB⟩
 ·skip
  have c8b0 := decide_eq_false c8
  clear c8
  (first | rw [c8b0] | rw [c8b1] | rw [c8b2] | (simp only [i64_w, i32_w]; rw [c8b0]) | skip)
  replace H := sp H
  rcases H with ⟨c9, H⟩ | ⟨c9, H⟩
  ·skip
   have c9b0 := decide_eq_true c9
   clear c9
   obtain rfl := Option.some.inj H
   obtain ⟨hcz10_0, hcz10_1, hcz10_2, hcz10_3, hcz10_4, hcz10_5, hcz10_6, hcz10_7, hcz10_8, hcz10_9, hcz10_10, hcz10_11, hfz10_0, hfz10_1, hfz10_2, hfz10_3, hfz10_4, hfz10_5, hfz10_6, hfz10_7, hfz10_8, hfz10_9, hfz10_10, hfz10_11⟩ := c12 BK161
   go_wp2
   go_ret
   exact ⟨ze, zb HB⟩
  ·skip
   have c9b0 := decide_eq_false c9
   clear c9
   obtain ⟨t163, A11, H⟩ := ob H
   (try dsimp only at H)
   replace H := sp H
   rcases H with ⟨c12, H⟩ | ⟨c12, H⟩
   ·skip
    have c12b0 := decide_eq_true c12
    clear c12
    obtain rfl := Option.some.inj H
    obtain ⟨hcz13_0, hcz13_1, hcz13_2, hcz13_3, hcz13_4, hcz13_5, hcz13_6, hcz13_7, hcz13_8, hcz13_9, hcz13_10, hcz13_11, hfz13_0, hfz13_1, hfz13_2, hfz13_3, hfz13_4, hfz13_5, hfz13_6, hfz13_7, hfz13_8, hfz13_9, hfz13_10, hfz13_11⟩ := c12 BK161
    go_wp2_with (first | ((with_reducible refine gq 130 rfl ?_); refine gl (some 21) Try.func130 #[.slice A0_7 l0_7.length c0_7, .int .i64 (wrap64 (t162 - (a0_3.size : Int)))] ?_; (with_reducible refine (laws_szFieldS.calls k _ _ l0_7 (wrap64 (t162 - (a0_3.size : Int))) t163 _ ?side1 ?side2 A11.out).mono ?_); (case side1 => exact zc (Kd.C_below HR0_7.out HB.out)); (case side2 => exact HC0_7.out); rintro e w14 ⟨rfl, hb⟩; refine ⟨_, rfl, ?_⟩; replace BK161 := kb BK161 hb; replace HB := Aside0.mk (below_step (zb HB) hb); (try clear hb)))
    go_ret
    exact ⟨ze, zb HB⟩
   ·skip
    have c12b0 := decide_eq_false c12
    clear c12
    replace H := sp H
    rcases H with ⟨c15, H⟩ | ⟨c15, H⟩
    ·skip
     have c15b0 := decide_eq_true c15
     clear c15
     obtain rfl := Option.some.inj H
     obtain ⟨hcz16_0, hcz16_1, hcz16_2, hcz16_3, hcz16_4, hcz16_5, hcz16_6, hcz16_7, hcz16_8, hcz16_9, hcz16_10, hcz16_11, hfz16_0, hfz16_1, hfz16_2, hfz16_3, hfz16_4, hfz16_5, hfz16_6, hfz16_7, hfz16_8, hfz16_9, hfz16_10, hfz16_11⟩ := c12 BK161
     go_wp2_with (first | ((with_reducible refine gq 130 rfl ?_); refine gl (some 21) Try.func130 #[.slice A0_7 l0_7.length c0_7, .int .i64 (wrap64 (t162 - (a0_3.size : Int)))] ?_; (with_reducible refine (laws_szFieldS.calls k _ _ l0_7 (wrap64 (t162 - (a0_3.size : Int))) t163 _ ?side1 ?side2 A11.out).mono ?_); (case side1 => exact zc (Kd.C_below HR0_7.out HB.out)); (case side2 => exact HC0_7.out); rintro e w17 ⟨rfl, hb⟩; refine ⟨_, rfl, ?_⟩; replace BK161 := kb BK161 hb; replace HB := Aside0.mk (below_step (zb HB) hb); (try clear hb); obtain ⟨hcz18_0, hcz18_1, hcz18_2, hcz18_3, hcz18_4, hcz18_5, hcz18_6, hcz18_7, hcz18_8, hcz18_9, hcz18_10, hcz18_11, hfz18_0, hfz18_1, hfz18_2, hfz18_3, hfz18_4, hfz18_5, hfz18_6, hfz18_7, hfz18_8, hfz18_9, hfz18_10, hfz18_11⟩ := c12 BK161))
     go_ret
     exact ⟨ze, zb HB⟩
    ·skip
     have c15b0 := decide_eq_false c15
     clear c15
     obtain rfl := Option.some.inj H
     obtain ⟨hcz19_0, hcz19_1, hcz19_2, hcz19_3, hcz19_4, hcz19_5, hcz19_6, hcz19_7, hcz19_8, hcz19_9, hcz19_10, hcz19_11, hfz19_0, hfz19_1, hfz19_2, hfz19_3, hfz19_4, hfz19_5, hfz19_6, hfz19_7, hfz19_8, hfz19_9, hfz19_10, hfz19_11⟩ := c12 BK161
     go_wp2_with (first | ((with_reducible refine gq 130 rfl ?_); refine gl (some 21) Try.func130 #[.slice A0_7 l0_7.length c0_7, .int .i64 (wrap64 (t162 - (a0_3.size : Int)))] ?_; (with_reducible refine (laws_szFieldS.calls k _ _ l0_7 (wrap64 (t162 - (a0_3.size : Int))) t163 _ ?side1 ?side2 A11.out).mono ?_); (case side1 => exact zc (Kd.C_below HR0_7.out HB.out)); (case side2 => exact HC0_7.out); rintro e w20 ⟨rfl, hb⟩; refine ⟨_, rfl, ?_⟩; replace BK161 := kb BK161 hb; replace HB := Aside0.mk (below_step (zb HB) hb); (try clear hb); obtain ⟨hcz21_0, hcz21_1, hcz21_2, hcz21_3, hcz21_4, hcz21_5, hcz21_6, hcz21_7, hcz21_8, hcz21_9, hcz21_10, hcz21_11, hfz21_0, hfz21_1, hfz21_2, hfz21_3, hfz21_4, hfz21_5, hfz21_6, hfz21_7, hfz21_8, hfz21_9, hfz21_10, hfz21_11⟩ := c12 BK161))
     go_ret
     exact ⟨ze, zb HB⟩

/-! ### laws_szStreamS: function 90 -/
-- thin
def laws_szStreamS.l0 : Nat → List (S167) → Int → Int → Option (Int)
 | 0, _, _, _ => none
 | k + 1, x0, x1, x5 => if x5 < (x0.length : Int) then (if 0 ≤ x5 then ((laws_szStream.f k ((rd_T167 x0 x5).f0) ((rd_T167 x0 x5).f1) ((rd_T167 x0 x5).f2) ((rd_T167 x0 x5).f3) ((rd_T167 x0 x5).f4) ((rd_T167 x0 x5).f5) ((rd_T167 x0 x5).f6) ((rd_T167 x0 x5).f7) ((rd_T167 x0 x5).f8) ((rd_T167 x0 x5).f9) ((rd_T167 x0 x5).f10.f0) ((rd_T167 x0 x5).f10.f1) x1).bind fun t165 => (if t165 < 0 then (some (-1)) else (laws_szStreamS.l0 k x0 t165 (wrap64 (x5 + 1))))) else (none)) else (some x1)
def laws_szStreamS.f (k : Nat) (l0 : List (S167)) (a1 : Int) : Option (Int) := if (wrap64 (a1 - (l0.length : Int))) < 0 then (some (-1)) else (laws_szStreamS.l0 k l0 (wrap64 (a1 - (l0.length : Int))) 0)
theorem laws_szStreamS.mono_l : ∀ k, (∀ y0 y1 y2, LeO (laws_szStreamS.l0 k y0 y1 y2) (laws_szStreamS.l0 (k + 1) y0 y1 y2))
 | 0 => fun _ _ _ r h => by simp [laws_szStreamS.l0] at h
 | k + 1 => by
  have ih0 := laws_szStreamS.mono_l k
  ·intro y0 y1 y2
   unfold laws_szStreamS.l0
   have m0 := @laws_szStream.mono
   exact zm
theorem laws_szStreamS.mono : ∀ a0 a1 k, LeO (laws_szStreamS.f k a0 a1) (laws_szStreamS.f (k + 1) a0 a1) := by
 intro a0 a1 k
 have ih0 := laws_szStreamS.mono_l k
 unfold laws_szStreamS.f
 have m0 := @laws_szStream.mono
 exact zm
set_option maxHeartbeats 8000000 in
set_option maxRecDepth 100000 in
theorem laws_szStreamS.calls (k : Nat) (A0 : Option Addr) (c0 : Nat) (l0 : List (S167)) (a1 : Int) (r : Int) (w : World) (hr0 : Kd.C k167 w A0 l0.length l0) (hc0 : l0.length ≤ c0) (h : laws_szStreamS.f k l0 a1 = some r) :
  Calls Try.prog 90 #[.slice A0 l0.length c0, .int .i64 a1] w fun e w' => e = .returned (.int .i64 r) ∧ Below w.heap.size w w' := by
 have hu167 := Try.underlying167
 have HR0 := Aside0.mk hr0
 have HC0 := Aside0.mk hc0
 clear hr0 hc0
 have HB := Aside0.mk (Below.refl w.heap.size w)
 have H : (if (wrap64 (a1 - (l0.length : Int))) < 0 then (some (-1)) else (laws_szStreamS.l0 k l0 (wrap64 (a1 - (l0.length : Int))) 0)) = some r := h
 clear h
 replace H := sp H
 rcases H with ⟨c3, H⟩ | ⟨c3, H⟩
 ·skip
  have c3b0 := decide_eq_true c3
  clear c3
  obtain rfl := Option.some.inj H
  go_enter Try.func90, Try.ntmps90
  go_wp2
  go_ret
  exact ⟨ze, zb HB⟩
 ·skip
  have c3b0 := decide_eq_false c3
  clear c3
  have H' := Aside0.mk H
  clear H
  go_enter Try.func90, Try.ntmps90
  go_wp2
  go_loopg [1, 5] k (fun kq v1 v5 w' => ∃ (x1_1 : Int) (x5_1 : Int), v1 = .int .i64 x1_1 ∧ v5 = .int .i64 x5_1 ∧ Aside0 (laws_szStreamS.l0 kq l0 x1_1 x5_1 = some r) ∧ Aside0 (kq ≤ k) ∧ Aside0 (Below w.heap.size w w'))
  case atStart => exact ⟨(wrap64 (a1 - (l0.length : Int))), (0), zs, zs, H', ⟨Nat.le_refl _⟩, ⟨zb HB⟩⟩
  case round =>
   clear H'
   try clear p2
   try clear c3
   try clear c3b0
   obtain ⟨x1_1, x5_1, rfl, rfl, HA, HK1, HB⟩ := hrel
   cases gk with
   | zero => exact absurd HA.out (by simp [laws_szStreamS.l0])
   | succ k1 =>
    have H := HA.out
    clear HA
    simp only [laws_szStreamS.l0] at H
    replace H := sp H
    rcases H with ⟨c4, H⟩ | ⟨c4, H⟩
    ·skip
     have c4b0 := decide_eq_true c4
     clear c4
     by_cases c5 : 0 ≤ x5_1
     ·rw [if_pos c5] at H
      have c5b0 := decide_eq_true c5
      clear c5
      obtain ⟨t165, A6, H⟩ := ob H
      (try dsimp only at H)
      have HC7 := Aside0.mk H
      clear H
      have p164 : 0 ≤ (x5_1 : Int) := of_decide_eq_true za
      have q164 : x5_1 < (l0.length : Int) := of_decide_eq_true za
      obtain ⟨ad164, A164_2, c164_2, A164_7, c164_7, e164, hx164_0, hx164_1, hx164_2, hx164_3, hx164_4, hx164_5, hx164_6, hx164_7, hx164_8, hx164_9, hx164_10, hx164_11, hl164_2, hi164_2, hl164_7, hi164_7⟩ := at_T167 HR0.out x5_1 p164 q164
      cases e164
      replace hx164_0 := cb0 hx164_0 HB
      replace hx164_1 := cb0 hx164_1 HB
      replace hx164_2 := cb0 hx164_2 HB
      replace hx164_3 := cb0 hx164_3 HB
      replace hx164_4 := cb0 hx164_4 HB
      replace hx164_5 := cb0 hx164_5 HB
      replace hx164_6 := cb0 hx164_6 HB
      replace hx164_7 := cb0 hx164_7 HB
      replace hx164_8 := cb0 hx164_8 HB
      replace hx164_9 := cb0 hx164_9 HB
      replace hx164_10 := cb0 hx164_10 HB
      replace hx164_11 := cb0 hx164_11 HB
      have HR164_2 := Aside0.mk hi164_2
      have HC164_2 := Aside0.mk hl164_2
      clear hi164_2 hl164_2
      have HR164_7 := Aside0.mk hi164_7
      have HC164_7 := Aside0.mk hl164_7
      clear hi164_7 hl164_7
      replace p164 := eq_true p164
      replace q164 := eq_true q164
      go_upto_if 25 with (first | ((with_reducible refine gq 131 rfl ?_); refine gl (some 23) Try.func131 #[.agg #[.int .i64 ((rd_T167 l0 x5_1).f0), .int .i64 ((rd_T167 l0 x5_1).f1), .slice A164_2 ((rd_T167 l0 x5_1).f2).length c164_2, .string ((rd_T167 l0 x5_1).f3), .bool ((rd_T167 l0 x5_1).f4), .bool ((rd_T167 l0 x5_1).f5), .int .i64 ((rd_T167 l0 x5_1).f6), .slice A164_7 ((rd_T167 l0 x5_1).f7).length c164_7, .string ((rd_T167 l0 x5_1).f8), .bool ((rd_T167 l0 x5_1).f9), .int .i64 ((rd_T167 l0 x5_1).f10.f0), .int .i64 ((rd_T167 l0 x5_1).f10.f1)], .int .i64 x1_1] ?_; (with_reducible refine (laws_szStream.calls k1 ((rd_T167 l0 x5_1).f0) ((rd_T167 l0 x5_1).f1) _ _ ((rd_T167 l0 x5_1).f2) ((rd_T167 l0 x5_1).f3) ((rd_T167 l0 x5_1).f4) ((rd_T167 l0 x5_1).f5) ((rd_T167 l0 x5_1).f6) _ _ ((rd_T167 l0 x5_1).f7) ((rd_T167 l0 x5_1).f8) ((rd_T167 l0 x5_1).f9) ((rd_T167 l0 x5_1).f10.f0) ((rd_T167 l0 x5_1).f10.f1) x1_1 t165 _ ?side1 ?side2 ?side3 ?side4 A6.out).mono ?_); (case side1 => exact zc (Kd.C_below HR164_2.out HB.out)); (case side2 => exact HC164_2.out); (case side3 => exact zc (Kd.C_below HR164_7.out HB.out)); (case side4 => exact HC164_7.out); rintro e w8 ⟨rfl, hb⟩; refine ⟨_, rfl, ?_⟩; replace HB := Aside0.mk (below_step (zb HB) hb); (try clear hb)))
      (try simp only [Act.put, s1, s2, s3])
      have H := HC7.out
      clear HC7
      by_cases c9 : t165 < 0
      ·rw [if_pos c9] at H
       have c9b0 := decide_eq_true c9
       clear c9
       (first | rw [c9b0] | rw [c9b1] | rw [c9b2] | (simp only [i64_w, i32_w]; rw [c9b0]) | skip)
       obtain rfl := Option.some.inj H
       go_wp2
       go_ret
       exact ⟨ze, zb HB⟩
      ·rw [if_neg c9] at H
       have c9b0 := decide_eq_false c9
       clear c9
       (first | rw [c9b0] | rw [c9b1] | rw [c9b2] | (simp only [i64_w, i32_w]; rw [c9b0]) | skip)
       have H' := Aside0.mk H
       clear H
       go_wp2
       go_roundg k1
       case measure => have := HK1.out; omega
       case rel => exact ⟨(t165), (wrap64 (x5_1 + 1)), zs, zs, H', ⟨by have := HK1.out; omega⟩, ⟨zb HB⟩⟩
     ·rw [if_neg c5] at H
      exact absurd H (by simp)
    ·skip
     have c4b0 := decide_eq_false c4
     clear c4
     obtain rfl := Option.some.inj H
     go_wp2
     go_ret
     exact ⟨ze, zb HB⟩

/-! ### laws_szFrame: function 132 -/
-- thin
def laws_szFrame.f (a0_0 : Int) (a0_1 : Bool) (a0_2 : Int) (a0_3 : ByteArray) (a1 : Int) : Option (Int) := if (wrap64 (a1 - (a0_3.size : Int))) < 0 then (some (-1)) else (some (wrap64 (a1 - (a0_3.size : Int))))
set_option maxHeartbeats 8000000 in
set_option maxRecDepth 100000 in
theorem laws_szFrame.calls (a0_0 : Int) (a0_1 : Bool) (a0_2 : Int) (a0_3 : ByteArray) (a1 : Int) (r : Int) (w : World) (h : laws_szFrame.f a0_0 a0_1 a0_2 a0_3 a1 = some r) :
  Calls Try.prog 132 #[.agg #[.int .i64 a0_0, .bool a0_1, .int .i64 a0_2, .string a0_3], .int .i64 a1] w fun e w' => e = .returned (.int .i64 r) ∧ Below w.heap.size w w' := by
 have hu169 := Try.underlying169
 have HB := Aside0.mk (Below.refl w.heap.size w)
 have H : (if (wrap64 (a1 - (a0_3.size : Int))) < 0 then (some (-1)) else (some (wrap64 (a1 - (a0_3.size : Int))))) = some r := h
 clear h
 replace H := sp H
 rcases H with ⟨c3, H⟩ | ⟨c3, H⟩
 ·skip
  have c3b0 := decide_eq_true c3
  clear c3
  obtain rfl := Option.some.inj H
  go_enter Try.func132, Try.ntmps132
  go_wp2_with (first | ((with_reducible refine gd 2 rfl ?_); refine bx (N := 2) (cs := #[.int .i64 a0_0, .bool a0_1, .int .i64 a0_2, .string a0_3]) (t := 169) ?_; intro gb166 hg w4 hbox hb; have BK166 := Aside0.mk (hbox); have GW166 := gw HB hg; have GE166 := GW166; replace HB := Aside0.mk (below_step (zb HB) hb); clear hb hbox hg; obtain ⟨hcz5_0, hcz5_1, hcz5_2, hcz5_3, hfz5_0, hfz5_1, hfz5_2, hfz5_3⟩ := c4 BK166))
  go_ret
  exact ⟨ze, zb HB⟩
 ·skip
  have c3b0 := decide_eq_false c3
  clear c3
  obtain rfl := Option.some.inj H
  go_enter Try.func132, Try.ntmps132
  go_wp2_with (first | ((with_reducible refine gd 2 rfl ?_); refine bx (N := 2) (cs := #[.int .i64 a0_0, .bool a0_1, .int .i64 a0_2, .string a0_3]) (t := 169) ?_; intro gb166 hg w6 hbox hb; have BK166 := Aside0.mk (hbox); have GW166 := gw HB hg; have GE166 := GW166; replace HB := Aside0.mk (below_step (zb HB) hb); clear hb hbox hg; obtain ⟨hcz7_0, hcz7_1, hcz7_2, hcz7_3, hfz7_0, hfz7_1, hfz7_2, hfz7_3⟩ := c4 BK166))
  go_ret
  exact ⟨ze, zb HB⟩

/-! ### laws_szFrameS: function 91 -/
-- thin
def laws_szFrameS.l0 : Nat → List (S169) → Int → Int → Option (Int)
 | 0, _, _, _ => none
 | k + 1, x0, x1, x5 => if x5 < (x0.length : Int) then (if 0 ≤ x5 then ((laws_szFrame.f ((rd_T169 x0 x5).f0) ((rd_T169 x0 x5).f1) ((rd_T169 x0 x5).f2) ((rd_T169 x0 x5).f3) x1).bind fun t168 => (if t168 < 0 then (some (-1)) else (laws_szFrameS.l0 k x0 t168 (wrap64 (x5 + 1))))) else (none)) else (some x1)
def laws_szFrameS.f (k : Nat) (l0 : List (S169)) (a1 : Int) : Option (Int) := if (wrap64 (a1 - (l0.length : Int))) < 0 then (some (-1)) else (laws_szFrameS.l0 k l0 (wrap64 (a1 - (l0.length : Int))) 0)
theorem laws_szFrameS.mono_l : ∀ k, (∀ y0 y1 y2, LeO (laws_szFrameS.l0 k y0 y1 y2) (laws_szFrameS.l0 (k + 1) y0 y1 y2))
 | 0 => fun _ _ _ r h => by simp [laws_szFrameS.l0] at h
 | k + 1 => by
  have ih0 := laws_szFrameS.mono_l k
  ·intro y0 y1 y2
   unfold laws_szFrameS.l0
   exact zm
theorem laws_szFrameS.mono : ∀ a0 a1 k, LeO (laws_szFrameS.f k a0 a1) (laws_szFrameS.f (k + 1) a0 a1) := by
 intro a0 a1 k
 have ih0 := laws_szFrameS.mono_l k
 unfold laws_szFrameS.f
 exact zm
set_option maxHeartbeats 8000000 in
set_option maxRecDepth 100000 in
theorem laws_szFrameS.calls (k : Nat) (A0 : Option Addr) (c0 : Nat) (l0 : List (S169)) (a1 : Int) (r : Int) (w : World) (hr0 : Kd.C k169 w A0 l0.length l0) (hc0 : l0.length ≤ c0) (h : laws_szFrameS.f k l0 a1 = some r) :
  Calls Try.prog 91 #[.slice A0 l0.length c0, .int .i64 a1] w fun e w' => e = .returned (.int .i64 r) ∧ Below w.heap.size w w' := by
 have hu169 := Try.underlying169
 have HR0 := Aside0.mk hr0
 have HC0 := Aside0.mk hc0
 clear hr0 hc0
 have HB := Aside0.mk (Below.refl w.heap.size w)
 have H : (if (wrap64 (a1 - (l0.length : Int))) < 0 then (some (-1)) else (laws_szFrameS.l0 k l0 (wrap64 (a1 - (l0.length : Int))) 0)) = some r := h
 clear h
 replace H := sp H
 rcases H with ⟨c3, H⟩ | ⟨c3, H⟩
 ·skip
  have c3b0 := decide_eq_true c3
  clear c3
  obtain rfl := Option.some.inj H
  go_enter Try.func91, Try.ntmps91
  go_wp2
  go_ret
  exact ⟨ze, zb HB⟩
 ·skip
  have c3b0 := decide_eq_false c3
  clear c3
  have H' := Aside0.mk H
  clear H
  go_enter Try.func91, Try.ntmps91
  go_wp2
  go_loopg [1, 5] k (fun kq v1 v5 w' => ∃ (x1_1 : Int) (x5_1 : Int), v1 = .int .i64 x1_1 ∧ v5 = .int .i64 x5_1 ∧ Aside0 (laws_szFrameS.l0 kq l0 x1_1 x5_1 = some r) ∧ Aside0 (kq ≤ k) ∧ Aside0 (Below w.heap.size w w'))
  case atStart => exact ⟨(wrap64 (a1 - (l0.length : Int))), (0), zs, zs, H', ⟨Nat.le_refl _⟩, ⟨zb HB⟩⟩
  case round =>
   clear H'
   try clear p2
   try clear c3
   try clear c3b0
   obtain ⟨x1_1, x5_1, rfl, rfl, HA, HK1, HB⟩ := hrel
   cases gk with
   | zero => exact absurd HA.out (by simp [laws_szFrameS.l0])
   | succ k1 =>
    have H := HA.out
    clear HA
    simp only [laws_szFrameS.l0] at H
    replace H := sp H
    rcases H with ⟨c4, H⟩ | ⟨c4, H⟩
    ·skip
     have c4b0 := decide_eq_true c4
     clear c4
     by_cases c5 : 0 ≤ x5_1
     ·rw [if_pos c5] at H
      have c5b0 := decide_eq_true c5
      clear c5
      obtain ⟨t168, A6, H⟩ := ob H
      (try dsimp only at H)
      have HC7 := Aside0.mk H
      clear H
      have p167 : 0 ≤ (x5_1 : Int) := of_decide_eq_true za
      have q167 : x5_1 < (l0.length : Int) := of_decide_eq_true za
      obtain ⟨ad167, e167, hx167_0, hx167_1, hx167_2, hx167_3⟩ := at_T169 HR0.out x5_1 p167 q167
      cases e167
      replace hx167_0 := cb0 hx167_0 HB
      replace hx167_1 := cb0 hx167_1 HB
      replace hx167_2 := cb0 hx167_2 HB
      replace hx167_3 := cb0 hx167_3 HB
      replace p167 := eq_true p167
      replace q167 := eq_true q167
      go_upto_if 25 with (first | ((with_reducible refine gq 132 rfl ?_); refine gl (some 23) Try.func132 #[.agg #[.int .i64 ((rd_T169 l0 x5_1).f0), .bool ((rd_T169 l0 x5_1).f1), .int .i64 ((rd_T169 l0 x5_1).f2), .string ((rd_T169 l0 x5_1).f3)], .int .i64 x1_1] ?_; (with_reducible refine (laws_szFrame.calls ((rd_T169 l0 x5_1).f0) ((rd_T169 l0 x5_1).f1) ((rd_T169 l0 x5_1).f2) ((rd_T169 l0 x5_1).f3) x1_1 t168 _ A6.out).mono ?_); rintro e w8 ⟨rfl, hb⟩; refine ⟨_, rfl, ?_⟩; replace HB := Aside0.mk (below_step (zb HB) hb); (try clear hb)))
      (try simp only [Act.put, s1, s2, s3])
      have H := HC7.out
      clear HC7
      by_cases c9 : t168 < 0
      ·rw [if_pos c9] at H
       have c9b0 := decide_eq_true c9
       clear c9
       (first | rw [c9b0] | rw [c9b1] | rw [c9b2] | (simp only [i64_w, i32_w]; rw [c9b0]) | skip)
       obtain rfl := Option.some.inj H
       go_wp2
       go_ret
       exact ⟨ze, zb HB⟩
      ·rw [if_neg c9] at H
       have c9b0 := decide_eq_false c9
       clear c9
       (first | rw [c9b0] | rw [c9b1] | rw [c9b2] | (simp only [i64_w, i32_w]; rw [c9b0]) | skip)
       have H' := Aside0.mk H
       clear H
       go_wp2
       go_roundg k1
       case measure => have := HK1.out; omega
       case rel => exact ⟨(t168), (wrap64 (x5_1 + 1)), zs, zs, H', ⟨by have := HK1.out; omega⟩, ⟨zb HB⟩⟩
     ·rw [if_neg c5] at H
      exact absurd H (by simp)
    ·skip
     have c4b0 := decide_eq_false c4
     clear c4
     obtain rfl := Option.some.inj H
     go_wp2
     go_ret
     exact ⟨ze, zb HB⟩

end Go.Proofs.Ytlpibelofcabhaa.PFnExactWorldFrames
