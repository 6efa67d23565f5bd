-- WRITTEN BY a turned print (wip/tools of the prover's repo)
import Derived.Test.YtlpibelofcabhaaPFnHeadBackx0
import Derived.Test.YtlpibelofcabhaaPFnHeadBackx4
import Derived.Test.YtlpibelofcabhaaPFnHeadBackx5
import Derived.Test.YtlpibelofcabhaaPFnHeadBackx6
namespace Go.Proofs.Ytlpibelofcabhaa.PFnHeadBack
open Go.RowKit Go.Proofs.YtlpibelofcabhaaW.PrintWords Go.Proofs.YtlpibelofcabhaaW.PrintLast Go.Proofs.YtlpibelofcabhaaW.PrintMore Go.Proofs.Ytlpibelofcabhaa.Lm
attribute [local go_sem] max2_int min2_int max_two min_two max_three min_three max_four min_four   -- for this text's walks alone
set_option linter.unusedVariables false
set_option linter.unusedSimpArgs false

/-! ### spec_l11All: function 52 -/
-- thin
def spec_l11All.l0 : Nat → List (S88) → ByteArray → Int → List (S88) → Int → Option ((List (S88)) × Int × ByteArray)
 | 0, _, _, _, _, _ => none
 | k + 1, x1, x6, x7, x347000, x347001 => if x7 < (x1.length : Int) then (if 0 ≤ x7 then ((spec_l11Write.f k x347000 x347001 ((rd_T88 x1 x7).f0) ((rd_T88 x1 x7).f1) ((rd_T88 x1 x7).f2)).bind fun bt349 => (if x6.size + bt349.2.2.size ≤ 9223372036854775807 then (spec_l11All.l0 k x1 (x6 ++ bt349.2.2) (wrap64 (x7 + 1)) bt349.1 bt349.2.1) else (none))) else (none)) else (some (x347000, x347001, x6))
def spec_l11All.f (k : Nat) (l0_0 : List (S88)) (a0_1 : Int) (l1 : List (S88)) : Option ((List (S88)) × Int × ByteArray) := spec_l11All.l0 k l1 (⟨#[]⟩ : ByteArray) 0 l0_0 a0_1
theorem spec_l11All.mono_l : ∀ k, (∀ y0 y1 y2 y3 y4, LeO (spec_l11All.l0 k y0 y1 y2 y3 y4) (spec_l11All.l0 (k + 1) y0 y1 y2 y3 y4))
 | 0 => fun _ _ _ _ _ r h => by simp [spec_l11All.l0] at h
 | k + 1 => by
  have ih0 := spec_l11All.mono_l k
  ·intro y0 y1 y2 y3 y4
   unfold spec_l11All.l0
   have m0 := @spec_l11Write.mono
   exact zm
theorem spec_l11All.mono : ∀ a0 a1 a2 k, LeO (spec_l11All.f k a0 a1 a2) (spec_l11All.f (k + 1) a0 a1 a2) := by
 intro a0 a1 a2 k
 have ih0 := spec_l11All.mono_l k
 unfold spec_l11All.f
 have m0 := @spec_l11Write.mono
 exact zm
def spec_l11All.T5 : Bool × List (List Nat × List Nat) := (true, [([], []), ([], []), ([], []), ([1, 2], [1, 2]), ([3], [3]), ([0, 4], [0, 4]), ([5], [5]), ([6], [6]), ([6], [6]), ([], []), ([9, 7, 5, 0, 1, 2, 3, 4, 5, 6, 7, 9], [7, 9]), ([8, 10, 0, 1, 2, 3, 4, 5, 6, 7, 8, 9, 10], [8])])
def spec_l11All.B5 : List Nat := [0, 0, 0, 6, 14, 31, 63, 127, 127, 0, 767, 2047]
theorem spec_l11All.tab5 : rtab .any (opsOf Try.f52 5) = spec_l11All.T5 := by kernel_rfl
theorem spec_l11All.bits5 : waitsOk spec_l11All.T5.2 spec_l11All.B5 = true := by kernel_rfl
set_option maxHeartbeats 8000000 in
set_option maxRecDepth 100000 in
theorem spec_l11All.calls (k : Nat) (P0_0_ : Nat → Prop) (u9000_ : Value) (l0_0 : List (S88)) (a0_1 : Int) (A1 : Option Addr) (c1 : Nat) (l1 : List (S88)) (r1 : List (S88)) (r2 : Int) (r3 : ByteArray) (w0 w : World) (hB : Below w0.heap.size w0 w) (ho0_0 : Kd.R k88 88 w w0.heap.size P0_0_ u9000_ l0_0) (hr1 : ∀ W_, Kept w W_ (fun k_ => P0_0_ k_) → Kd.C k88 W_ A1 l1.length l1) (hc1 : l1.length ≤ c1) (h : spec_l11All.f k l0_0 a0_1 l1 = some (r1, r2, r3)) :
  Calls Try.prog 52 #[.agg #[u9000_, .int .i64 a0_1], .slice A1 l1.length c1] w fun e w' => ∃ v0_ : Value, e = .returned (.tuple #[.agg #[v0_, .int .i64 r2], .string r3]) ∧ Kd.R k88 88 w' w0.heap.size (fun k_ => (P0_0_ k_ ∨ w.heap.size ≤ k_)) v0_ r1 ∧ Below w0.heap.size w0 w' ∧ Kept w w' (fun k_ => P0_0_ k_) := by
 have hu25 := Try.underlying25
 have hu88 := Try.underlying88
 have HO0_0 := Aside0.mk (show Kd.R k88 88 w w0.heap.size (fun k_ => (P0_0_ k_ ∨ w.heap.size ≤ k_)) u9000_ l0_0 from Kd.R_mono ho0_0 (fun k_ hk => (.inl hk)))
 have HR1 := Aside0.mk hr1
 have HC1 := Aside0.mk hc1
 clear hr1 hc1
 have HK := Aside0.mk (Kept.refl w (fun k_ => P0_0_ k_))
 have HW0 := Aside0.mk hB.size
 have HB := Aside0.mk hB
 clear hB
 have H : (spec_l11All.l0 k l1 (⟨#[]⟩ : ByteArray) 0 l0_0 a0_1) = some (r1, r2, r3) := h
 clear h
 have H' := Aside0.mk H
 clear H
 obtain ⟨Ao3, co3, eo3⟩ := Kd.R_slice HO0_0.out
 subst eo3
 go_enter Try.func52, Try.ntmps52
 go_wp2_with (first | ((with_reducible refine gd 2 rfl ?_); refine bx (N := 2) (cs := #[.slice Ao3 l0_0.length co3, .int .i64 a0_1]) (t := 25) ?_; intro gb346 hg w4 hbox hb; replace HO0_0 := Aside0.mk (Kd.R_below (zr HO0_0) hb); have BK346 := Aside0.mk (hbox); have GW346 := Aside0.mk ((by rw [hg]; exact (by first | exact HK.out.1 | exact (show Kept w _ (fun k_ => P0_0_ k_) from by repeat (first | (with_reducible first | exact HK.out | apply Kept.alloc | apply Kept.drewN | apply Kept.drew) | exact HK.out)).1) : w.heap.size ≤ gb346)); replace HK := Aside0.mk (Kept.below (S := (fun k_ => P0_0_ k_)) (by repeat (first | (with_reducible first | exact HK.out | apply Kept.alloc | apply Kept.drewN | apply Kept.drew) | exact HK.out)) hb); have GE346 := Aside0.mk ((by rw [hg]; exact (below_size (zb HB)) : w0.heap.size ≤ gb346)); replace HB := Aside0.mk (below_step (zb HB) hb); clear hb hbox hg) | ((with_reducible refine gd 4 rfl ?_); refine bx (N := 4) (cs := #[.slice none 0 0, .int .i64 0]) (t := 25) ?_; intro gb347 hg w5 hbox hb; replace HO0_0 := Aside0.mk (Kd.R_below (zr HO0_0) hb); have BK347 := Aside0.mk (hbox); have GW347 := Aside0.mk ((by rw [hg]; exact (by first | exact HK.out.1 | exact (show Kept w _ (fun k_ => P0_0_ k_) from by repeat (first | (with_reducible first | exact HK.out | apply Kept.alloc | apply Kept.drewN | apply Kept.drew | refine Kept.setCell ?_ (.inr GW346.out) _) | exact HK.out)).1) : w.heap.size ≤ gb347)); replace HK := Aside0.mk (Kept.below (S := (fun k_ => P0_0_ k_)) (by repeat (first | (with_reducible first | exact HK.out | apply Kept.alloc | apply Kept.drewN | apply Kept.drew | refine Kept.setCell ?_ (.inr GW346.out) _) | exact HK.out)) hb); have GE347 := Aside0.mk ((by rw [hg]; exact (below_size (zb HB)) : w0.heap.size ≤ gb347)); replace HB := Aside0.mk (below_step (zb HB) hb); obtain ⟨NB346_347, NB347_346⟩ := nb BK346 hg; replace BK346 := kb BK346 hb; clear hb hbox hg))
 go_loopg [6, 7] k (fun kq v6 v7 w' => ∃ (x6_1 : ByteArray) (x7_1 : Int) (x347000_1 : List (S88)) (x347001_1 : Int) (u347000 : Value), v6 = .string x6_1 ∧ v7 = .int .i64 x7_1 ∧ Aside0 (spec_l11All.l0 kq l1 x6_1 x7_1 x347000_1 x347001_1 = some (r1, r2, r3)) ∧ Aside0 (kq ≤ k) ∧ Aside0 (Kd.R k88 88 w' w0.heap.size (fun k_ => (P0_0_ k_ ∨ w.heap.size ≤ k_)) u347000 x347000_1) ∧ Aside0 (w'.heap[gb346]? = some (.cells #[u347000, .int .i64 x347001_1] 25 (0, 0))) ∧ Aside0 (w'.heap[gb347]? = some (.cells #[(.slice none 0 0), .int .i64 0] 25 (0, 0))) ∧ Aside0 (Kept w w' (fun k_ => P0_0_ k_)) ∧ Aside0 (Below w0.heap.size w0 w'))
 case atStart => exact ⟨((⟨#[]⟩ : ByteArray)), (0), (l0_0), (a0_1), (.slice Ao3 l0_0.length co3), zs, zs, H', ⟨Nat.le_refl _⟩, ⟨by exact zr HO0_0⟩, ⟨by exact zk BK346⟩, ⟨by exact zk BK347⟩, ⟨by repeat (first | (with_reducible first | exact HK.out | apply Kept.alloc | apply Kept.drewN | apply Kept.drew | refine Kept.setCell ?_ (.inr GW346.out) _ | refine Kept.setCell ?_ (.inr GW347.out) _) | exact HK.out)⟩, ⟨zb HB⟩⟩
 case round =>
  clear H'
  try clear c1
  try clear p2
  try clear c5
  obtain ⟨x6_1, x7_1, x347000_1, x347001_1, u347000, rfl, rfl, HA, HK1, HO_347000, BK346, BK347, HK, HB⟩ := hrel
  cases gk with
  | zero => exact absurd HA.out (by simp [spec_l11All.l0])
  | succ k1 =>
   have H := HA.out
   clear HA
   simp only [spec_l11All.l0] at H
   replace H := sp H
   rcases H with ⟨c6, H⟩ | ⟨c6, H⟩
   ·skip
    have c6b0 := decide_eq_true c6
    clear c6
    by_cases c7 : 0 ≤ x7_1
    ·rw [if_pos c7] at H
     have c7b0 := decide_eq_true c7
     clear c7
     obtain ⟨⟨t349, t352, t353⟩, A8, H⟩ := ob H
     (try dsimp only at H)
     by_cases c9 : x6_1.size + t353.size ≤ 9223372036854775807
     ·rw [if_pos c9] at H
      have c9b0 := eq_true c9
      have c9b1 := decide_eq_true c9
      try have c9b2 : (9223372036854775807 < x6_1.size + t353.size) = False := eq_false (Nat.not_lt.2 c9)
      have H' := Aside0.mk H
      clear H
      obtain ⟨Ao10, co10, eo10⟩ := Kd.R_slice HO_347000.out
      subst eo10
      try go_wp2
      replace HO_347000 := Aside0.mk (Kd.R_drew HO_347000.out)
      replace BK346 := Aside0.mk (blk_drew BK346.out)
      replace BK347 := Aside0.mk (blk_drew BK347.out)
      replace HK := Aside0.mk (Kept.drew HK.out)
      replace HB := Aside0.mk (below_drew1 HB.out)
      have p348 : 0 ≤ (x7_1 : Int) := of_decide_eq_true za
      have q348 : x7_1 < (l1.length : Int) := of_decide_eq_true za
      obtain ⟨ad348, e348, hx348_0, hx348_1, hx348_2⟩ := at_T88 (Kd.C_kept_now HR1.out HK.out) x7_1 p348 q348
      have hw348_2 := hx348_2
      have hw348_1 := hx348_1
      have hw348_0 := hx348_0
      cases e348
      replace p348 := eq_true p348
      replace q348 := eq_true q348
      refine start_ (n := 12) (S := fun w' => w'.cell? ⟨gb346, 0, none⟩ = some (.slice Ao10 x347000_1.length co10) ∧ w'.cell? ⟨gb346, 1, none⟩ = some (.int .i64 x347001_1) ∧ w'.cell? (ad348.add ((x7_1).toNat * 3)) = some (.string ((rd_T88 l1 x7_1).f0)) ∧ w'.cell? ⟨(ad348.add ((x7_1).toNat * 3)).block, (ad348.add ((x7_1).toNat * 3)).off + 1, none⟩ = some (.string ((rd_T88 l1 x7_1).f1)) ∧ w'.cell? ⟨(ad348.add ((x7_1).toNat * 3)).block, (ad348.add ((x7_1).toNat * 3)).off + 2, none⟩ = some (.bool ((rd_T88 l1 x7_1).f2))) (ds := []) #[false, false, false, false, false, false, false, false, false, false, false, false] (by kernel_rfl) rfl rfl ⟨(blk_cell BK346.out 0).trans rfl, (blk_cell BK346.out 1).trans rfl, (by first | (show World.cell? ?W1_ _ = _; obtain ⟨_, e_, q0_, q1_, q2_⟩ := at_T88 (HR1.out ?W1_ (by repeat (first | exact HK.out | apply Kept.alloc | apply Kept.drewN | apply Kept.drew | refine Kept.setCell ?_ (.inr GW354.out) _ | refine Kept.setCell ?_ (.inr GW354.out) _))) x7_1 (of_eq_true p348) (of_eq_true q348); cases e_; exact q0_) | (obtain ⟨_, e_, q0_, q1_, q2_⟩ := at_T88 (HR1.out _ (by repeat (first | exact HK.out | apply Kept.alloc | apply Kept.drewN | apply Kept.drew | refine Kept.setCell ?_ (.inr GW354.out) _ | refine Kept.setCell ?_ (.inr GW354.out) _))) x7_1 (of_eq_true p348) (of_eq_true q348); cases e_; exact q0_)), (by first | (show World.cell? ?W2_ _ = _; obtain ⟨_, e_, q0_, q1_, q2_⟩ := at_T88 (HR1.out ?W2_ (by repeat (first | exact HK.out | apply Kept.alloc | apply Kept.drewN | apply Kept.drew | refine Kept.setCell ?_ (.inr GW354.out) _ | refine Kept.setCell ?_ (.inr GW354.out) _))) x7_1 (of_eq_true p348) (of_eq_true q348); cases e_; exact q1_) | (obtain ⟨_, e_, q0_, q1_, q2_⟩ := at_T88 (HR1.out _ (by repeat (first | exact HK.out | apply Kept.alloc | apply Kept.drewN | apply Kept.drew | refine Kept.setCell ?_ (.inr GW354.out) _ | refine Kept.setCell ?_ (.inr GW354.out) _))) x7_1 (of_eq_true p348) (of_eq_true q348); cases e_; exact q1_)), (by first | (show World.cell? ?W3_ _ = _; obtain ⟨_, e_, q0_, q1_, q2_⟩ := at_T88 (HR1.out ?W3_ (by repeat (first | exact HK.out | apply Kept.alloc | apply Kept.drewN | apply Kept.drew | refine Kept.setCell ?_ (.inr GW354.out) _ | refine Kept.setCell ?_ (.inr GW354.out) _))) x7_1 (of_eq_true p348) (of_eq_true q348); cases e_; exact q2_) | (obtain ⟨_, e_, q0_, q1_, q2_⟩ := at_T88 (HR1.out _ (by repeat (first | exact HK.out | apply Kept.alloc | apply Kept.drewN | apply Kept.drew | refine Kept.setCell ?_ (.inr GW354.out) _ | refine Kept.setCell ?_ (.inr GW354.out) _))) x7_1 (of_eq_true p348) (of_eq_true q348); cases e_; exact q2_))⟩ (fun hHeld => ?_); refine with_tabW spec_l11All.tab5 spec_l11All.bits5 (fun HT_ HW_ => ?_)
      generalize wr.drew = w11 at HO_347000 BK346 BK347 HK HB hx348_0 hx348_1 hx348_2 hHeld ⊢
      refine pu 1 (some 18) (bm 12 2) rfl rfl ?_
      refine pu 2 (some 19) (bm 12 6) rfl rfl ?_
      refine pu 3 (some 20) (bm 12 14) rfl rfl ?_
      refine tk 0 (some 17) (bm 12 15) rfl rfl hHeld ?_
      refine tk 4 (some 21) (bm 12 31) rfl rfl hHeld ?_
      refine join_ (σ := Value × Nat) 2 #[true, true, true, true, true, true, true, true, true, true, false, false] (fun s_ => [(22, .tuple #[.agg #[s_.1, .int .i64 t352], .string t353]), (8, .pointer (some ⟨s_.2, 0, none⟩)), (16, .tuple #[.agg #[s_.1, .int .i64 t352], .string t353]), (23, .agg #[s_.1, .int .i64 t352]), (24, .string t353)]) (fun s_ w' => (w'.cell? ⟨gb346, 0, none⟩ = some (.slice Ao10 x347000_1.length co10) ∧ w'.cell? ⟨gb346, 1, none⟩ = some (.int .i64 x347001_1) ∧ w'.cell? (ad348.add ((x7_1).toNat * 3)) = some (.string ((rd_T88 l1 x7_1).f0)) ∧ w'.cell? ⟨(ad348.add ((x7_1).toNat * 3)).block, (ad348.add ((x7_1).toNat * 3)).off + 1, none⟩ = some (.string ((rd_T88 l1 x7_1).f1)) ∧ w'.cell? ⟨(ad348.add ((x7_1).toNat * 3)).block, (ad348.add ((x7_1).toNat * 3)).off + 2, none⟩ = some (.bool ((rd_T88 l1 x7_1).f2))) ∧ (Kd.R k88 88 w' w0.heap.size (fun k_ => (P0_0_ k_ ∨ w.heap.size ≤ k_)) s_.1 t349) ∧ (w'.heap[gb346]? = some (.cells #[.slice Ao10 x347000_1.length co10, .int .i64 x347001_1] 25 (0, 0))) ∧ (w'.heap[gb347]? = some (.cells #[.slice none 0 0, .int .i64 0] 25 (0, 0))) ∧ (w'.heap[s_.2]? = some (.cells #[.slice none 0 0, .int .i64 0] 25 (0, 0))) ∧ (w.heap.size ≤ s_.2) ∧ (w0.heap.size ≤ s_.2) ∧ (gb346 ≠ s_.2) ∧ (s_.2 ≠ gb346) ∧ (gb347 ≠ s_.2) ∧ (s_.2 ≠ gb347) ∧ (Kept w w' (fun k_ => P0_0_ k_)) ∧ (Below w0.heap.size w0 w')) ?_ ?_
      rotate_left
      ·intro hCont
       refine two_ (i := 5) (j := 9) (Ni := some 22) (Nj := some 8) #[true, true, true, true, true, true, false, false, false, false, false, false] #[true, true, true, true, true, false, false, false, false, true, false, false] rfl rfl rfl rfl (two_of HT_.out (by kernel_rfl)) (by decide) (by decide) (fun K hK => ?_) (fun K hK => ?_)
       ·skip
        refine gs Try.func108 #[.agg #[.slice Ao10 x347000_1.length co10, .int .i64 x347001_1], .agg #[.string ((rd_T88 l1 x7_1).f0), .string ((rd_T88 l1 x7_1).f1), .bool ((rd_T88 l1 x7_1).f2)]] ?_
        with_reducible refine (spec_l11Write.calls k1 (fun k_ => some k_ = (.slice Ao10 x347000_1.length co10 : Value).ownBlock) (.slice Ao10 x347000_1.length co10) x347000_1 x347001_1 ((rd_T88 l1 x7_1).f0) ((rd_T88 l1 x7_1).f1) ((rd_T88 l1 x7_1).f2) t349 t352 t353 w0 _ ?side1 ?side2 A8.out).mono ?_
        (case side1 => exact zb HB)
        (case side2 => exact Kd.R_tight rfl HO_347000.out)
        rintro e w12 ⟨v350, rfl, ho0, hb, hkp⟩
        refine ⟨_, rfl, ?_⟩
        replace BK346 := Aside0.mk (blk_kept (zk BK346) hkp (fun hs_ => (fun e_ => (Kd.R_ne HO_347000.out BK346.out (by decide)) e_) hs_))
        replace BK347 := Aside0.mk (blk_kept (zk BK347) hkp (fun hs_ => (fun e_ => (Kd.R_ne HO_347000.out BK347.out (by decide)) e_) hs_))
        have HO351 := Aside0.mk (Kd.R_mono (ok' := fun k_ => (P0_0_ k_ ∨ w.heap.size ≤ k_)) ho0 (fun k_ hk_ => Or.elim hk_ (fun hs_ => (HO_347000.out.1 k_ (hs_).symm)) (fun hn_ => (.inr (Nat.le_trans (by first | exact HK.out.1 | exact (show Kept w _ (fun k_ => P0_0_ k_) from by repeat (first | (with_reducible first | exact HK.out | apply Kept.alloc | apply Kept.drewN | apply Kept.drew | refine Kept.setCell ?_ (.inr GW346.out) _ | refine Kept.setCell ?_ (.inr GW347.out) _) | exact HK.out)).1) hn_)))))
        replace HK := Aside0.mk (Kept.then_ (S := (fun k_ => P0_0_ k_)) (by repeat (first | (with_reducible first | exact HK.out | apply Kept.alloc | apply Kept.drewN | apply Kept.drew | refine Kept.setCell ?_ (.inr GW346.out) _ | refine Kept.setCell ?_ (.inr GW347.out) _) | exact HK.out)) hkp (fun k_ hs_ => (fun e_ => (HO_347000.out.1 k_ e_.symm)) hs_))
        replace HB := Aside0.mk (hb)
        clear HO_347000
        (try clear hb)
        (try clear hkp)
        (try clear ho0)
        refine hK.out _ _ ⟨(blk_cell BK346.out 0).trans rfl, (blk_cell BK346.out 1).trans rfl, (by first | (show World.cell? ?W4_ _ = _; obtain ⟨_, e_, q0_, q1_, q2_⟩ := at_T88 (HR1.out ?W4_ (by repeat (first | exact HK.out | apply Kept.alloc | apply Kept.drewN | apply Kept.drew | refine Kept.setCell ?_ (.inr GW354.out) _ | refine Kept.setCell ?_ (.inr GW354.out) _))) x7_1 (of_eq_true p348) (of_eq_true q348); cases e_; exact q0_) | (obtain ⟨_, e_, q0_, q1_, q2_⟩ := at_T88 (HR1.out _ (by repeat (first | exact HK.out | apply Kept.alloc | apply Kept.drewN | apply Kept.drew | refine Kept.setCell ?_ (.inr GW354.out) _ | refine Kept.setCell ?_ (.inr GW354.out) _))) x7_1 (of_eq_true p348) (of_eq_true q348); cases e_; exact q0_)), (by first | (show World.cell? ?W5_ _ = _; obtain ⟨_, e_, q0_, q1_, q2_⟩ := at_T88 (HR1.out ?W5_ (by repeat (first | exact HK.out | apply Kept.alloc | apply Kept.drewN | apply Kept.drew | refine Kept.setCell ?_ (.inr GW354.out) _ | refine Kept.setCell ?_ (.inr GW354.out) _))) x7_1 (of_eq_true p348) (of_eq_true q348); cases e_; exact q1_) | (obtain ⟨_, e_, q0_, q1_, q2_⟩ := at_T88 (HR1.out _ (by repeat (first | exact HK.out | apply Kept.alloc | apply Kept.drewN | apply Kept.drew | refine Kept.setCell ?_ (.inr GW354.out) _ | refine Kept.setCell ?_ (.inr GW354.out) _))) x7_1 (of_eq_true p348) (of_eq_true q348); cases e_; exact q1_)), (by first | (show World.cell? ?W6_ _ = _; obtain ⟨_, e_, q0_, q1_, q2_⟩ := at_T88 (HR1.out ?W6_ (by repeat (first | exact HK.out | apply Kept.alloc | apply Kept.drewN | apply Kept.drew | refine Kept.setCell ?_ (.inr GW354.out) _ | refine Kept.setCell ?_ (.inr GW354.out) _))) x7_1 (of_eq_true p348) (of_eq_true q348); cases e_; exact q2_) | (obtain ⟨_, e_, q0_, q1_, q2_⟩ := at_T88 (HR1.out _ (by repeat (first | exact HK.out | apply Kept.alloc | apply Kept.drewN | apply Kept.drew | refine Kept.setCell ?_ (.inr GW354.out) _ | refine Kept.setCell ?_ (.inr GW354.out) _))) x7_1 (of_eq_true p348) (of_eq_true q348); cases e_; exact q2_))⟩ (fun hHeld => ?_)
        clear hK K
        refine nm ?_
        refine pu 6 (some 16) (bm 12 127) rfl rfl ?_
        refine pu 7 (some 23) (bm 12 255) rfl rfl ?_
        refine pu 8 (some 24) (bm 12 511) rfl rfl ?_
        refine one_ (i := 9) (N := some 8) (bm 12 1023) rfl rfl (one_of HT_.out (by kernel_rfl)) (by decide) (fun K hK => ?_)
        refine box_step ?hg (N := 8) ?hd (cs := #[.slice none 0 0, .int .i64 0]) (t := 25) ?hr ?_; (case hd => rfl); (case hg => rfl); (case hr => first | (go_simp; done) | (go_simp; rfl))
        intro gb354 hg w13 hbox hb
        replace HO351 := Aside0.mk (Kd.R_below (zr HO351) hb)
        have BK354 := Aside0.mk (hbox)
        have GW354 := Aside0.mk ((by rw [hg]; exact (by first | exact HK.out.1 | exact (show Kept w _ (fun k_ => P0_0_ k_) from by repeat (first | (with_reducible first | exact HK.out | apply Kept.alloc | apply Kept.drewN | apply Kept.drew | refine Kept.setCell ?_ (.inr GW346.out) _ | refine Kept.setCell ?_ (.inr GW347.out) _) | exact HK.out)).1) : w.heap.size ≤ gb354))
        replace HK := Aside0.mk (Kept.below (S := (fun k_ => P0_0_ k_)) (by repeat (first | (with_reducible first | exact HK.out | apply Kept.alloc | apply Kept.drewN | apply Kept.drew | refine Kept.setCell ?_ (.inr GW346.out) _ | refine Kept.setCell ?_ (.inr GW347.out) _) | exact HK.out)) hb)
        have GE354 := Aside0.mk ((by rw [hg]; exact (below_size (zb HB)) : w0.heap.size ≤ gb354))
        replace HB := Aside0.mk (below_step (zb HB) hb)
        have NB346_354 := Aside0.mk ((by rw [hg]; exact Nat.ne_of_lt (blk_lt (zk BK346)) : gb346 ≠ gb354))
        have NB354_346 := Aside0.mk ((by rw [hg]; exact Nat.ne_of_gt (blk_lt (zk BK346)) : gb354 ≠ gb346))
        replace BK346 := kb BK346 hb
        have NB347_354 := Aside0.mk ((by rw [hg]; exact Nat.ne_of_lt (blk_lt (zk BK347)) : gb347 ≠ gb354))
        have NB354_347 := Aside0.mk ((by rw [hg]; exact Nat.ne_of_gt (blk_lt (zk BK347)) : gb354 ≠ gb347))
        replace BK347 := kb BK347 hb
        clear hb hbox hg
        refine hK.out _ _ ⟨(blk_cell BK346.out 0).trans rfl, (blk_cell BK346.out 1).trans rfl, (by first | (show World.cell? ?W7_ _ = _; obtain ⟨_, e_, q0_, q1_, q2_⟩ := at_T88 (HR1.out ?W7_ (by repeat (first | exact HK.out | apply Kept.alloc | apply Kept.drewN | apply Kept.drew | refine Kept.setCell ?_ (.inr GW354.out) _ | refine Kept.setCell ?_ (.inr GW354.out) _))) x7_1 (of_eq_true p348) (of_eq_true q348); cases e_; exact q0_) | (obtain ⟨_, e_, q0_, q1_, q2_⟩ := at_T88 (HR1.out _ (by repeat (first | exact HK.out | apply Kept.alloc | apply Kept.drewN | apply Kept.drew | refine Kept.setCell ?_ (.inr GW354.out) _ | refine Kept.setCell ?_ (.inr GW354.out) _))) x7_1 (of_eq_true p348) (of_eq_true q348); cases e_; exact q0_)), (by first | (show World.cell? ?W8_ _ = _; obtain ⟨_, e_, q0_, q1_, q2_⟩ := at_T88 (HR1.out ?W8_ (by repeat (first | exact HK.out | apply Kept.alloc | apply Kept.drewN | apply Kept.drew | refine Kept.setCell ?_ (.inr GW354.out) _ | refine Kept.setCell ?_ (.inr GW354.out) _))) x7_1 (of_eq_true p348) (of_eq_true q348); cases e_; exact q1_) | (obtain ⟨_, e_, q0_, q1_, q2_⟩ := at_T88 (HR1.out _ (by repeat (first | exact HK.out | apply Kept.alloc | apply Kept.drewN | apply Kept.drew | refine Kept.setCell ?_ (.inr GW354.out) _ | refine Kept.setCell ?_ (.inr GW354.out) _))) x7_1 (of_eq_true p348) (of_eq_true q348); cases e_; exact q1_)), (by first | (show World.cell? ?W9_ _ = _; obtain ⟨_, e_, q0_, q1_, q2_⟩ := at_T88 (HR1.out ?W9_ (by repeat (first | exact HK.out | apply Kept.alloc | apply Kept.drewN | apply Kept.drew | refine Kept.setCell ?_ (.inr GW354.out) _ | refine Kept.setCell ?_ (.inr GW354.out) _))) x7_1 (of_eq_true p348) (of_eq_true q348); cases e_; exact q2_) | (obtain ⟨_, e_, q0_, q1_, q2_⟩ := at_T88 (HR1.out _ (by repeat (first | exact HK.out | apply Kept.alloc | apply Kept.drewN | apply Kept.drew | refine Kept.setCell ?_ (.inr GW354.out) _ | refine Kept.setCell ?_ (.inr GW354.out) _))) x7_1 (of_eq_true p348) (of_eq_true q348); cases e_; exact q2_))⟩ (fun hHeld => ?_)
        clear hK K
        refine nm ?_
        exact norm_ (by simp only [putAll, Act.put, s1, s2, s3]) (hCont (v350, gb354) _ ⟨hHeld, (zr HO351), (zk BK346), (zk BK347), (zk BK354), GW354.out, GE354.out, NB346_354.out, NB354_346.out, NB347_354.out, NB354_347.out, (by repeat (first | (with_reducible first | exact HK.out | apply Kept.alloc | apply Kept.drewN | apply Kept.drew | refine Kept.setCell ?_ (.inr GW346.out) _ | refine Kept.setCell ?_ (.inr GW347.out) _ | refine Kept.setCell ?_ (.inr GW354.out) _) | exact HK.out)), (zb HB)⟩)
       ·skip
        refine box_step ?hg (N := 8) ?hd (cs := #[.slice none 0 0, .int .i64 0]) (t := 25) ?hr ?_; (case hd => rfl); (case hg => rfl); (case hr => first | (go_simp; done) | (go_simp; rfl))
        intro gb354 hg w12 hbox hb
        replace HO_347000 := Aside0.mk (Kd.R_below (zr HO_347000) hb)
        have BK354 := Aside0.mk (hbox)
        have GW354 := Aside0.mk ((by rw [hg]; exact (by first | exact HK.out.1 | exact (show Kept w _ (fun k_ => P0_0_ k_) from by repeat (first | (with_reducible first | exact HK.out | apply Kept.alloc | apply Kept.drewN | apply Kept.drew | refine Kept.setCell ?_ (.inr GW346.out) _ | refine Kept.setCell ?_ (.inr GW347.out) _) | exact HK.out)).1) : w.heap.size ≤ gb354))
        replace HK := Aside0.mk (Kept.below (S := (fun k_ => P0_0_ k_)) (by repeat (first | (with_reducible first | exact HK.out | apply Kept.alloc | apply Kept.drewN | apply Kept.drew | refine Kept.setCell ?_ (.inr GW346.out) _ | refine Kept.setCell ?_ (.inr GW347.out) _) | exact HK.out)) hb)
        have GE354 := Aside0.mk ((by rw [hg]; exact (below_size (zb HB)) : w0.heap.size ≤ gb354))
        replace HB := Aside0.mk (below_step (zb HB) hb)
        have NB346_354 := Aside0.mk ((by rw [hg]; exact Nat.ne_of_lt (blk_lt (zk BK346)) : gb346 ≠ gb354))
        have NB354_346 := Aside0.mk ((by rw [hg]; exact Nat.ne_of_gt (blk_lt (zk BK346)) : gb354 ≠ gb346))
        replace BK346 := kb BK346 hb
        have NB347_354 := Aside0.mk ((by rw [hg]; exact Nat.ne_of_lt (blk_lt (zk BK347)) : gb347 ≠ gb354))
        have NB354_347 := Aside0.mk ((by rw [hg]; exact Nat.ne_of_gt (blk_lt (zk BK347)) : gb354 ≠ gb347))
        replace BK347 := kb BK347 hb
        clear hb hbox hg
        refine hK.out _ _ ⟨(blk_cell BK346.out 0).trans rfl, (blk_cell BK346.out 1).trans rfl, (by first | (show World.cell? ?W10_ _ = _; obtain ⟨_, e_, q0_, q1_, q2_⟩ := at_T88 (HR1.out ?W10_ (by repeat (first | exact HK.out | apply Kept.alloc | apply Kept.drewN | apply Kept.drew | refine Kept.setCell ?_ (.inr GW354.out) _ | refine Kept.setCell ?_ (.inr GW354.out) _))) x7_1 (of_eq_true p348) (of_eq_true q348); cases e_; exact q0_) | (obtain ⟨_, e_, q0_, q1_, q2_⟩ := at_T88 (HR1.out _ (by repeat (first | exact HK.out | apply Kept.alloc | apply Kept.drewN | apply Kept.drew | refine Kept.setCell ?_ (.inr GW354.out) _ | refine Kept.setCell ?_ (.inr GW354.out) _))) x7_1 (of_eq_true p348) (of_eq_true q348); cases e_; exact q0_)), (by first | (show World.cell? ?W11_ _ = _; obtain ⟨_, e_, q0_, q1_, q2_⟩ := at_T88 (HR1.out ?W11_ (by repeat (first | exact HK.out | apply Kept.alloc | apply Kept.drewN | apply Kept.drew | refine Kept.setCell ?_ (.inr GW354.out) _ | refine Kept.setCell ?_ (.inr GW354.out) _))) x7_1 (of_eq_true p348) (of_eq_true q348); cases e_; exact q1_) | (obtain ⟨_, e_, q0_, q1_, q2_⟩ := at_T88 (HR1.out _ (by repeat (first | exact HK.out | apply Kept.alloc | apply Kept.drewN | apply Kept.drew | refine Kept.setCell ?_ (.inr GW354.out) _ | refine Kept.setCell ?_ (.inr GW354.out) _))) x7_1 (of_eq_true p348) (of_eq_true q348); cases e_; exact q1_)), (by first | (show World.cell? ?W12_ _ = _; obtain ⟨_, e_, q0_, q1_, q2_⟩ := at_T88 (HR1.out ?W12_ (by repeat (first | exact HK.out | apply Kept.alloc | apply Kept.drewN | apply Kept.drew | refine Kept.setCell ?_ (.inr GW354.out) _ | refine Kept.setCell ?_ (.inr GW354.out) _))) x7_1 (of_eq_true p348) (of_eq_true q348); cases e_; exact q2_) | (obtain ⟨_, e_, q0_, q1_, q2_⟩ := at_T88 (HR1.out _ (by repeat (first | exact HK.out | apply Kept.alloc | apply Kept.drewN | apply Kept.drew | refine Kept.setCell ?_ (.inr GW354.out) _ | refine Kept.setCell ?_ (.inr GW354.out) _))) x7_1 (of_eq_true p348) (of_eq_true q348); cases e_; exact q2_))⟩ (fun hHeld => ?_)
        clear hK K
        refine nm ?_
        refine one_ (i := 5) (N := some 22) (bm 12 575) rfl rfl (one_of HT_.out (by kernel_rfl)) (by decide) (fun K hK => ?_)
        refine gs Try.func108 #[.agg #[.slice Ao10 x347000_1.length co10, .int .i64 x347001_1], .agg #[.string ((rd_T88 l1 x7_1).f0), .string ((rd_T88 l1 x7_1).f1), .bool ((rd_T88 l1 x7_1).f2)]] ?_
        with_reducible refine (spec_l11Write.calls k1 (fun k_ => some k_ = (.slice Ao10 x347000_1.length co10 : Value).ownBlock) (.slice Ao10 x347000_1.length co10) x347000_1 x347001_1 ((rd_T88 l1 x7_1).f0) ((rd_T88 l1 x7_1).f1) ((rd_T88 l1 x7_1).f2) t349 t352 t353 w0 _ ?side1 ?side2 A8.out).mono ?_
        (case side1 => exact zb HB)
        (case side2 => exact Kd.R_tight rfl HO_347000.out)
        rintro e w13 ⟨v350, rfl, ho0, hb, hkp⟩
        refine ⟨_, rfl, ?_⟩
        replace BK346 := Aside0.mk (blk_kept (zk BK346) hkp (fun hs_ => (fun e_ => (Kd.R_ne HO_347000.out BK346.out (by decide)) e_) hs_))
        replace BK347 := Aside0.mk (blk_kept (zk BK347) hkp (fun hs_ => (fun e_ => (Kd.R_ne HO_347000.out BK347.out (by decide)) e_) hs_))
        replace BK354 := Aside0.mk (blk_kept (zk BK354) hkp (fun hs_ => (fun e_ => (Kd.R_ne HO_347000.out BK354.out (by decide)) e_) hs_))
        have HO351 := Aside0.mk (Kd.R_mono (ok' := fun k_ => (P0_0_ k_ ∨ w.heap.size ≤ k_)) ho0 (fun k_ hk_ => Or.elim hk_ (fun hs_ => (HO_347000.out.1 k_ (hs_).symm)) (fun hn_ => (.inr (Nat.le_trans (by first | exact HK.out.1 | exact (show Kept w _ (fun k_ => P0_0_ k_) from by repeat (first | (with_reducible first | exact HK.out | apply Kept.alloc | apply Kept.drewN | apply Kept.drew | refine Kept.setCell ?_ (.inr GW346.out) _ | refine Kept.setCell ?_ (.inr GW347.out) _ | refine Kept.setCell ?_ (.inr GW354.out) _) | exact HK.out)).1) hn_)))))
        replace HK := Aside0.mk (Kept.then_ (S := (fun k_ => P0_0_ k_)) (by repeat (first | (with_reducible first | exact HK.out | apply Kept.alloc | apply Kept.drewN | apply Kept.drew | refine Kept.setCell ?_ (.inr GW346.out) _ | refine Kept.setCell ?_ (.inr GW347.out) _ | refine Kept.setCell ?_ (.inr GW354.out) _) | exact HK.out)) hkp (fun k_ hs_ => (fun e_ => (HO_347000.out.1 k_ e_.symm)) hs_))
        replace HB := Aside0.mk (hb)
        clear HO_347000
        (try clear hb)
        (try clear hkp)
        (try clear ho0)
        refine hK.out _ _ ⟨(blk_cell BK346.out 0).trans rfl, (blk_cell BK346.out 1).trans rfl, (by first | (show World.cell? ?W13_ _ = _; obtain ⟨_, e_, q0_, q1_, q2_⟩ := at_T88 (HR1.out ?W13_ (by repeat (first | exact HK.out | apply Kept.alloc | apply Kept.drewN | apply Kept.drew | refine Kept.setCell ?_ (.inr GW354.out) _ | refine Kept.setCell ?_ (.inr GW354.out) _))) x7_1 (of_eq_true p348) (of_eq_true q348); cases e_; exact q0_) | (obtain ⟨_, e_, q0_, q1_, q2_⟩ := at_T88 (HR1.out _ (by repeat (first | exact HK.out | apply Kept.alloc | apply Kept.drewN | apply Kept.drew | refine Kept.setCell ?_ (.inr GW354.out) _ | refine Kept.setCell ?_ (.inr GW354.out) _))) x7_1 (of_eq_true p348) (of_eq_true q348); cases e_; exact q0_)), (by first | (show World.cell? ?W14_ _ = _; obtain ⟨_, e_, q0_, q1_, q2_⟩ := at_T88 (HR1.out ?W14_ (by repeat (first | exact HK.out | apply Kept.alloc | apply Kept.drewN | apply Kept.drew | refine Kept.setCell ?_ (.inr GW354.out) _ | refine Kept.setCell ?_ (.inr GW354.out) _))) x7_1 (of_eq_true p348) (of_eq_true q348); cases e_; exact q1_) | (obtain ⟨_, e_, q0_, q1_, q2_⟩ := at_T88 (HR1.out _ (by repeat (first | exact HK.out | apply Kept.alloc | apply Kept.drewN | apply Kept.drew | refine Kept.setCell ?_ (.inr GW354.out) _ | refine Kept.setCell ?_ (.inr GW354.out) _))) x7_1 (of_eq_true p348) (of_eq_true q348); cases e_; exact q1_)), (by first | (show World.cell? ?W15_ _ = _; obtain ⟨_, e_, q0_, q1_, q2_⟩ := at_T88 (HR1.out ?W15_ (by repeat (first | exact HK.out | apply Kept.alloc | apply Kept.drewN | apply Kept.drew | refine Kept.setCell ?_ (.inr GW354.out) _ | refine Kept.setCell ?_ (.inr GW354.out) _))) x7_1 (of_eq_true p348) (of_eq_true q348); cases e_; exact q2_) | (obtain ⟨_, e_, q0_, q1_, q2_⟩ := at_T88 (HR1.out _ (by repeat (first | exact HK.out | apply Kept.alloc | apply Kept.drewN | apply Kept.drew | refine Kept.setCell ?_ (.inr GW354.out) _ | refine Kept.setCell ?_ (.inr GW354.out) _))) x7_1 (of_eq_true p348) (of_eq_true q348); cases e_; exact q2_))⟩ (fun hHeld => ?_)
        clear hK K
        refine nm ?_
        refine pu 6 (some 16) (bm 12 639) rfl rfl ?_
        refine pu 7 (some 23) (bm 12 767) rfl rfl ?_
        refine pu 8 (some 24) (bm 12 1023) rfl rfl ?_
        exact norm_ (by simp only [putAll, Act.put, s1, s2, s3]) (hCont (v350, gb354) _ ⟨hHeld, (zr HO351), (zk BK346), (zk BK347), (zk BK354), GW354.out, GE354.out, NB346_354.out, NB354_346.out, NB347_354.out, NB354_347.out, (by repeat (first | (with_reducible first | exact HK.out | apply Kept.alloc | apply Kept.drewN | apply Kept.drew | refine Kept.setCell ?_ (.inr GW346.out) _ | refine Kept.setCell ?_ (.inr GW347.out) _ | refine Kept.setCell ?_ (.inr GW354.out) _) | exact HK.out)), (zb HB)⟩)
      rintro ⟨v350, gb354⟩ w14 ⟨hS_, h0_, h1_, h2_, h3_, h4_, h5_, h6_, h7_, h8_, h9_, h10_, h11_⟩
      have n0_ : Aside0 (Kd.R k88 88 w14 w0.heap.size (fun k_ => (P0_0_ k_ ∨ w.heap.size ≤ k_)) v350 t349) := ⟨h0_⟩
      have n1_ : Aside0 (w14.heap[gb346]? = some (.cells #[.slice Ao10 x347000_1.length co10, .int .i64 x347001_1] 25 (0, 0))) := ⟨h1_⟩
      have n2_ : Aside0 (w14.heap[gb347]? = some (.cells #[.slice none 0 0, .int .i64 0] 25 (0, 0))) := ⟨h2_⟩
      have n3_ : Aside0 (w14.heap[gb354]? = some (.cells #[.slice none 0 0, .int .i64 0] 25 (0, 0))) := ⟨h3_⟩
      have n4_ : Aside0 (w.heap.size ≤ gb354) := ⟨h4_⟩
      have n5_ : Aside0 (w0.heap.size ≤ gb354) := ⟨h5_⟩
      have n6_ : Aside0 (gb346 ≠ gb354) := ⟨h6_⟩
      have n7_ : Aside0 (gb354 ≠ gb346) := ⟨h7_⟩
      have n8_ : Aside0 (gb347 ≠ gb354) := ⟨h8_⟩
      have n9_ : Aside0 (gb354 ≠ gb347) := ⟨h9_⟩
      have n10_ : Aside0 (Kept w w14 (fun k_ => P0_0_ k_)) := ⟨h10_⟩
      have n11_ : Aside0 (Below w0.heap.size w0 w14) := ⟨h11_⟩
      clear HO_347000
      clear BK346
      clear BK347
      clear HK
      clear HB
      clear h0_ h1_ h2_ h3_ h4_ h5_ h6_ h7_ h8_ h9_ h10_ h11_
      have HO351 := n0_
      have BK346 := n1_
      have BK347 := n2_
      have BK354 := n3_
      have GW354 := n4_
      have GE354 := n5_
      have NB346_354 := n6_
      have NB354_346 := n7_
      have NB347_354 := n8_
      have NB354_347 := n9_
      have HK := n10_
      have HB := n11_
      clear n0_ n1_ n2_ n3_ n4_ n5_ n6_ n7_ n8_ n9_ n10_ n11_
      have hHeld : w14.cell? ⟨gb346, 0, none⟩ = some (.slice Ao10 x347000_1.length co10) ∧ w14.cell? ⟨gb346, 1, none⟩ = some (.int .i64 x347001_1) ∧ w14.cell? (ad348.add ((x7_1).toNat * 3)) = some (.string ((rd_T88 l1 x7_1).f0)) ∧ w14.cell? ⟨(ad348.add ((x7_1).toNat * 3)).block, (ad348.add ((x7_1).toNat * 3)).off + 1, none⟩ = some (.string ((rd_T88 l1 x7_1).f1)) ∧ w14.cell? ⟨(ad348.add ((x7_1).toNat * 3)).block, (ad348.add ((x7_1).toNat * 3)).off + 2, none⟩ = some (.bool ((rd_T88 l1 x7_1).f2)) := hS_
      obtain ⟨Ao15, co15, eo15⟩ := Kd.R_slice HO351.out
      (first | subst eo15 | (injection eo15 with f1_ f2_ f3_; have f4_ := f1_.symm; have f5_ := f3_.symm; clear f1_ f2_ f3_; subst f4_; subst f5_))
      refine norm_ (a' := ?_) ?_ ?_
      rotate_left
      ·simp only [putAll, Act.put, s1, s2, s3]
       rfl
      refine one_ (i := 10) (N := none) (bm 12 2047) rfl rfl (one_of HT_.out (by kernel_rfl)) (by decide) (fun K hK => ?_)
      have hs16 : w14.cell? ⟨gb354, 0, none⟩ = some (.slice none 0 0) := (blk_cell BK354.out 0).trans rfl
      have hfs16 := blk_frozen BK354.out 0
      have hns16_0 := NB346_354.out
      have hns16_1 := NB347_354.out
      have hms16_0 := NB354_346.out
      have hms16_1 := NB354_347.out
      have hs17 : w14.cell? ⟨gb354, 1, none⟩ = some (.int .i64 0) := (blk_cell BK354.out 1).trans rfl
      have hfs17 := blk_frozen BK354.out 1
      have hns17_0 := NB346_354.out
      have hns17_1 := NB347_354.out
      have hms17_0 := NB354_346.out
      have hms17_1 := NB354_347.out
      refine skip_ (w1 := ?_) (by rfl) rfl ?_ ?_
      rotate_left
      ·go_simp
       rfl
      refine hK.out _ _ ⟨((cell_far (p := ⟨gb354, _, none⟩) NB346_354.out _).trans (((cell_far (p := ⟨gb354, _, none⟩) NB346_354.out _).trans (hHeld.1)))), ((cell_far (p := ⟨gb354, _, none⟩) NB346_354.out _).trans (((cell_far (p := ⟨gb354, _, none⟩) NB346_354.out _).trans (hHeld.2.1)))), (by first | (show World.cell? ?W16_ _ = _; obtain ⟨_, e_, q0_, q1_, q2_⟩ := at_T88 (HR1.out ?W16_ (by repeat (first | exact HK.out | apply Kept.alloc | apply Kept.drewN | apply Kept.drew | refine Kept.setCell ?_ (.inr GW354.out) _ | refine Kept.setCell ?_ (.inr GW354.out) _))) x7_1 (of_eq_true p348) (of_eq_true q348); cases e_; exact q0_) | (obtain ⟨_, e_, q0_, q1_, q2_⟩ := at_T88 (HR1.out _ (by repeat (first | exact HK.out | apply Kept.alloc | apply Kept.drewN | apply Kept.drew | refine Kept.setCell ?_ (.inr GW354.out) _ | refine Kept.setCell ?_ (.inr GW354.out) _))) x7_1 (of_eq_true p348) (of_eq_true q348); cases e_; exact q0_)), (by first | (show World.cell? ?W17_ _ = _; obtain ⟨_, e_, q0_, q1_, q2_⟩ := at_T88 (HR1.out ?W17_ (by repeat (first | exact HK.out | apply Kept.alloc | apply Kept.drewN | apply Kept.drew | refine Kept.setCell ?_ (.inr GW354.out) _ | refine Kept.setCell ?_ (.inr GW354.out) _))) x7_1 (of_eq_true p348) (of_eq_true q348); cases e_; exact q1_) | (obtain ⟨_, e_, q0_, q1_, q2_⟩ := at_T88 (HR1.out _ (by repeat (first | exact HK.out | apply Kept.alloc | apply Kept.drewN | apply Kept.drew | refine Kept.setCell ?_ (.inr GW354.out) _ | refine Kept.setCell ?_ (.inr GW354.out) _))) x7_1 (of_eq_true p348) (of_eq_true q348); cases e_; exact q1_)), (by first | (show World.cell? ?W18_ _ = _; obtain ⟨_, e_, q0_, q1_, q2_⟩ := at_T88 (HR1.out ?W18_ (by repeat (first | exact HK.out | apply Kept.alloc | apply Kept.drewN | apply Kept.drew | refine Kept.setCell ?_ (.inr GW354.out) _ | refine Kept.setCell ?_ (.inr GW354.out) _))) x7_1 (of_eq_true p348) (of_eq_true q348); cases e_; exact q2_) | (obtain ⟨_, e_, q0_, q1_, q2_⟩ := at_T88 (HR1.out _ (by repeat (first | exact HK.out | apply Kept.alloc | apply Kept.drewN | apply Kept.drew | refine Kept.setCell ?_ (.inr GW354.out) _ | refine Kept.setCell ?_ (.inr GW354.out) _))) x7_1 (of_eq_true p348) (of_eq_true q348); cases e_; exact q2_))⟩ (fun hHeld => ?_)
      clear hK K
      refine pu 11 (some 9) (bm 12 4095) rfl rfl ?_
      refine done_ (done_of HT_.out (by kernel_rfl)) ?_
      have hnb18 := NB354_346.out
      have hnc18 := NB346_354.out
      have hnb19 := NB354_347.out
      have hnc19 := NB347_354.out
      obtain ⟨hcz20_0, hcz20_1, hfz20_0, hfz20_1⟩ := c2 BK354
      have hnb21 := NB346_347.out
      have hnc21 := NB347_346.out
      obtain ⟨hcz22_0, hcz22_1, hfz22_0, hfz22_1⟩ := c2 BK346
      try go_wp2
      go_roundg k1
      case measure => have := HK1.out; omega
      case rel => exact ⟨(x6_1 ++ t353), (wrap64 (x7_1 + 1)), (t349), (t352), (.slice Ao15 t349.length co15), zs, zs, H', ⟨by have := HK1.out; omega⟩, ⟨by (with_reducible repeat (first | apply Kd.R_alloc | apply Kd.R_drewN | apply Kd.R_drew)); exact Kd.R_mono (Kd.R_far (p := ⟨gb346, 1, none⟩) (Kd.R_far (p := ⟨gb346, 0, none⟩) (Kd.R_far (p := ⟨gb354, 1, none⟩) (Kd.R_far (p := ⟨gb354, 0, none⟩) (Kd.R_types (Kd.R_types HO351.out BK354.out (by decide)) BK346.out (by decide)) (fun _ hk => hk.1.2) (.slice Ao15 t349.length co15)) (fun _ hk => hk.1.2) (.int .i64 t352)) (fun _ hk => hk.2) (.slice Ao15 t349.length co15)) (fun _ hk => hk.2) (.int .i64 t352)) (fun _ hk => hk.1.1)⟩, ⟨by (with_reducible repeat (first | refine blk_drewN ?_ _ | refine blk_drew ?_ | refine blk_alloc ?_ _)); refine blk_put (cs := #[.slice Ao15 t349.length co15, .int .i64 x347001_1]) ?_ 1 _ rfl; (with_reducible repeat (first | refine blk_drewN ?_ _ | refine blk_drew ?_ | refine blk_alloc ?_ _)); refine blk_put (cs := #[.slice Ao10 x347000_1.length co10, .int .i64 x347001_1]) ?_ 0 _ rfl; (with_reducible repeat (first | refine blk_drewN ?_ _ | refine blk_drew ?_ | refine blk_alloc ?_ _)); refine blk_far ?_ NB346_354.out _; (with_reducible repeat (first | refine blk_drewN ?_ _ | refine blk_drew ?_ | refine blk_alloc ?_ _)); refine blk_far ?_ NB346_354.out _; exact zk BK346⟩, ⟨by (with_reducible repeat (first | refine blk_drewN ?_ _ | refine blk_drew ?_ | refine blk_alloc ?_ _)); refine blk_far ?_ NB347_346.out _; (with_reducible repeat (first | refine blk_drewN ?_ _ | refine blk_drew ?_ | refine blk_alloc ?_ _)); refine blk_far ?_ NB347_346.out _; (with_reducible repeat (first | refine blk_drewN ?_ _ | refine blk_drew ?_ | refine blk_alloc ?_ _)); refine blk_far ?_ NB347_354.out _; (with_reducible repeat (first | refine blk_drewN ?_ _ | refine blk_drew ?_ | refine blk_alloc ?_ _)); refine blk_far ?_ NB347_354.out _; exact zk BK347⟩, ⟨by repeat (first | (with_reducible first | exact HK.out | apply Kept.alloc | apply Kept.drewN | apply Kept.drew | refine Kept.setCell ?_ (.inr GW346.out) _ | refine Kept.setCell ?_ (.inr GW347.out) _ | refine Kept.setCell ?_ (.inr GW354.out) _) | exact HK.out)⟩, ⟨zb HB⟩⟩
     ·rw [if_neg c9] at H
      exact absurd H (by simp)
    ·rw [if_neg c7] at H
     exact absurd H (by simp)
   ·skip
    have c6b0 := decide_eq_false c6
    clear c6
    simp only [Option.some.injEq, Prod.mk.injEq] at H
    obtain ⟨rfl, rfl, rfl⟩ := H
    have hnb23 := NB346_347.out
    have hnc23 := NB347_346.out
    obtain ⟨hcz24_0, hcz24_1, hfz24_0, hfz24_1⟩ := c2 BK346
    obtain ⟨Ao25, co25, eo25⟩ := Kd.R_slice HO_347000.out
    subst eo25
    obtain ⟨hcz26_0, hcz26_1, hfz26_0, hfz26_1⟩ := c2 BK347
    go_wp2
    refine bodyPost_ret (results_ct rfl _ _ gb347 25 #[.slice Ao25 x347000_1.length co25, .int .i64 x347001_1] (0, 0) _ rfl (by (with_reducible repeat (first | refine blk_drewN ?_ _ | refine blk_drew ?_ | refine blk_alloc ?_ _)); refine blk_put (cs := #[.slice Ao25 x347000_1.length co25, .int .i64 0]) ?_ 1 _ rfl; (with_reducible repeat (first | refine blk_drewN ?_ _ | refine blk_drew ?_ | refine blk_alloc ?_ _)); refine blk_put (cs := #[.slice none 0 0, .int .i64 0]) ?_ 0 _ rfl; exact zk BK347) Try.underlying25 rfl (by kernel_rfl)) rfl ?_
    exact ⟨_, ze, by (with_reducible repeat (first | apply Kd.R_alloc | apply Kd.R_drewN | apply Kd.R_drew)); exact Kd.R_mono (Kd.R_far (p := ⟨gb347, 1, none⟩) (Kd.R_far (p := ⟨gb347, 0, none⟩) (Kd.R_types HO_347000.out BK347.out (by decide)) (fun _ hk => hk.2) (.slice Ao25 x347000_1.length co25)) (fun _ hk => hk.2) (.int .i64 x347001_1)) (fun _ hk => hk.1), zb HB, by repeat (first | (with_reducible first | exact HK.out | apply Kept.alloc | apply Kept.drewN | apply Kept.drew | refine Kept.setCell ?_ (.inr GW346.out) _ | refine Kept.setCell ?_ (.inr GW347.out) _) | exact HK.out)⟩

/-! ### spec_HeadWrite: function 12 -/
-- thin
def spec_HeadWrite.f (k : Nat) (l0_0 : List (S88)) (a0_1 : Int) (l1 : List (S88)) : Option ((List (S88)) × Int × ByteArray) := (spec_TableOk.f k l0_0 a0_1).bind fun t357 => (if t357 = true then ((spec_HeadOk.f k l1).bind fun t358 => (if t358 = true then ((some (([] : List (S88)) : List (S88))).bind fun y359 => (if y359.length + l0_0.length < 3518437208883 then ((spec_l11All.f k (y359 ++ l0_0) a0_1 l1).bind fun bt365 => (some (bt365.1, bt365.2.1, bt365.2.2))) else (none))) else (some (([] : List (S88)), 0, (⟨#[]⟩ : ByteArray))))) else (some (([] : List (S88)), 0, (⟨#[]⟩ : ByteArray))))
theorem spec_HeadWrite.mono : ∀ a0 a1 a2 k, LeO (spec_HeadWrite.f k a0 a1 a2) (spec_HeadWrite.f (k + 1) a0 a1 a2) := by
 intro a0 a1 a2 k
 unfold spec_HeadWrite.f
 have m0 := @spec_HeadOk.mono
 have m1 := @spec_TableOk.mono
 have m2 := @spec_l11All.mono
 exact zm
def spec_HeadWrite.T3 : Bool × List (List Nat × List Nat) := (true, [([], []), ([], []), ([1], [1]), ([0, 2], [0, 2]), ([], []), ([4], [4]), ([3, 5], [3, 5]), ([], []), ([6, 7, 3], [6, 7]), ([8], [8]), ([8], [8]), ([9, 8, 0, 1, 2, 3, 4, 5, 6, 7, 8, 9, 10], [9]), ([10, 11, 0, 1, 2, 3, 4, 5, 6, 7, 8, 9, 10, 11], [10])])
def spec_HeadWrite.B3 : List Nat := [0, 0, 2, 7, 0, 16, 63, 0, 255, 511, 511, 2047, 4095]
theorem spec_HeadWrite.tab3 : rtab .any (opsOf Try.f12 3) = spec_HeadWrite.T3 := by kernel_rfl
theorem spec_HeadWrite.bits3 : waitsOk spec_HeadWrite.T3.2 spec_HeadWrite.B3 = true := by kernel_rfl
set_option maxHeartbeats 8000000 in
set_option maxRecDepth 100000 in
theorem spec_HeadWrite.calls (k : Nat) (A0_0 : Option Addr) (c0_0 : Nat) (l0_0 : List (S88)) (a0_1 : Int) (A1 : Option Addr) (c1 : Nat) (l1 : List (S88)) (r1 : List (S88)) (r2 : Int) (r3 : ByteArray) (w : World) (hr0_0 : Kd.C k88 w A0_0 l0_0.length l0_0) (hc0_0 : l0_0.length ≤ c0_0) (hr1 : Kd.C k88 w A1 l1.length l1) (hc1 : l1.length ≤ c1) (h : spec_HeadWrite.f k l0_0 a0_1 l1 = some (r1, r2, r3)) :
  Calls Try.prog 12 #[.agg #[.slice A0_0 l0_0.length c0_0, .int .i64 a0_1], .slice A1 l1.length c1] w fun e w' => ∃ v0_ : Value, e = .returned (.tuple #[.agg #[v0_, .int .i64 r2], .string r3]) ∧ Kd.R k88 88 w' w.heap.size (fun _ => True) v0_ r1 ∧ Below w.heap.size w w' := by
 have hu25 := Try.underlying25
 have HR0_0 := Aside0.mk hr0_0
 have HC0_0 := Aside0.mk hc0_0
 clear hr0_0 hc0_0
 have HR1 := Aside0.mk hr1
 have HC1 := Aside0.mk hc1
 clear hr1 hc1
 have HB := Aside0.mk (Below.refl w.heap.size w)
 have H : ((spec_TableOk.f k l0_0 a0_1).bind fun t357 => (if t357 = true then ((spec_HeadOk.f k l1).bind fun t358 => (if t358 = true then ((some (([] : List (S88)) : List (S88))).bind fun y359 => (if y359.length + l0_0.length < 3518437208883 then ((spec_l11All.f k (y359 ++ l0_0) a0_1 l1).bind fun bt365 => (some (bt365.1, bt365.2.1, bt365.2.2))) else (none))) else (some (([] : List (S88)), 0, (⟨#[]⟩ : ByteArray))))) else (some (([] : List (S88)), 0, (⟨#[]⟩ : ByteArray))))) = some (r1, r2, r3) := h
 clear h
 obtain ⟨t357, A3, H⟩ := ob H
 (try dsimp only at H)
 by_cases c4 : t357 = true
 ·subst c4
  rw [if_pos rfl] at H
  obtain ⟨t358, A5, H⟩ := ob H
  (try dsimp only at H)
  have HC6 := Aside0.mk H
  clear H
  go_enter Try.func12, Try.ntmps12
  go_upto_if 13 with (first | ((with_reducible refine gd 2 rfl ?_); refine bx (N := 2) (cs := #[.slice A0_0 l0_0.length c0_0, .int .i64 a0_1]) (t := 25) ?_; intro gb355 hg w7 hbox hb; have BK355 := Aside0.mk (hbox); have GW355 := gw HB hg; have GE355 := GW355; replace HB := Aside0.mk (below_step (zb HB) hb); clear hb hbox hg) | ((with_reducible refine gd 4 rfl ?_); refine bx (N := 4) (cs := #[.slice none 0 0, .int .i64 0]) (t := 25) ?_; intro gb356 hg w8 hbox hb; have BK356 := Aside0.mk (hbox); have GW356 := gw HB hg; have GE356 := GW356; replace HB := Aside0.mk (below_step (zb HB) hb); obtain ⟨NB355_356, NB356_355⟩ := nb BK355 hg; replace BK355 := kb BK355 hb; clear hb hbox hg; have hnb9 := NB355_356.out; have hnc9 := NB356_355.out; obtain ⟨hcz10_0, hcz10_1, hfz10_0, hfz10_1⟩ := c2 BK355) | ((with_reducible refine gq 15 rfl ?_); refine gl (some 7) Try.func15 #[.agg #[.slice A0_0 l0_0.length c0_0, .int .i64 a0_1]] ?_; (with_reducible refine (spec_TableOk.calls k _ _ l0_0 a0_1 true _ ?side1 ?side2 A3.out).mono ?_); (case side1 => exact zc (Kd.C_below HR0_0.out HB.out)); (case side2 => exact HC0_0.out); rintro e w11 ⟨rfl, hb⟩; refine ⟨_, rfl, ?_⟩; replace BK355 := kb BK355 hb; replace BK356 := kb BK356 hb; replace HB := Aside0.mk (below_step (zb HB) hb); (try clear hb)) | (go_at_call 16; (with_reducible refine (spec_HeadOk.calls k _ _ l1 t358 _ ?side1 ?side2 A5.out).mono ?_); (case side1 => exact zc (Kd.C_below HR1.out HB.out)); (case side2 => exact HC1.out); rintro e w12 ⟨rfl, hb⟩; replace BK355 := kb BK355 hb; replace BK356 := kb BK356 hb; replace HB := Aside0.mk (below_step (zb HB) hb); (try clear hb)))
  (try simp only [Act.put, s1, s2, s3])
  have H := HC6.out
  clear HC6
  by_cases c13 : t358 = true
  ·subst c13
   rw [if_pos rfl] at H
   obtain ⟨y359, hy359⟩ : ∃ y_ : List (S88), y_ = (([] : List (S88))) := ⟨_, rfl⟩
   replace H : (if y359.length + l0_0.length < 3518437208883 then ((spec_l11All.f k (y359 ++ l0_0) a0_1 l1).bind fun bt365 => (some (bt365.1, bt365.2.1, bt365.2.2))) else (none)) = some (r1, r2, r3) := by first | (rw [hy359]; with_reducible exact H) | (have H2_ := (Option.bind_some _ _).symm.trans H; rw [hy359]; with_reducible exact H2_) | (have H2_ := (Option.bind_some _ _).symm.trans H; with_reducible exact H2_) | with_reducible exact H | (rw [hy359]; exact H) | exact H
   have Ny359 := Aside0.mk hy359
   clear hy359
   replace H := sp H
   rcases H with ⟨c14, H⟩ | ⟨c14, H⟩
   ·skip
    have LMc14 := Aside0.mk c14
    clear c14
    obtain ⟨y362, hy362⟩ : ∃ y_ : List (S88), y_ = (y359 ++ l0_0) := ⟨_, rfl⟩
    replace H : ((spec_l11All.f k y362 a0_1 l1).bind fun bt365 => (some (bt365.1, bt365.2.1, bt365.2.2))) = some (r1, r2, r3) := by first | (rw [hy362]; with_reducible exact H) | (have H2_ := (Option.bind_some _ _).symm.trans H; rw [hy362]; with_reducible exact H2_) | (have H2_ := (Option.bind_some _ _).symm.trans H; with_reducible exact H2_) | with_reducible exact H | (rw [hy362]; exact H) | exact H
    have Ny362 := Aside0.mk hy362
    clear hy362
    obtain ⟨⟨t365, t368, t369⟩, A15, H⟩ := ob H
    (try dsimp only at H)
    simp only [Option.some.injEq, Prod.mk.injEq] at H
    obtain ⟨rfl, rfl, rfl⟩ := H
    try go_wp2
    replace BK355 := Aside0.mk (blk_drew BK355.out)
    replace BK356 := Aside0.mk (blk_drew BK356.out)
    replace HB := Aside0.mk (below_drew1 HB.out)
    refine start_ (n := 13) (S := fun w' => w'.cell? ⟨gb355, 0, none⟩ = some (.slice A0_0 l0_0.length c0_0) ∧ w'.cell? ⟨gb355, 1, none⟩ = some (.int .i64 a0_1)) (ds := []) #[false, false, false, false, false, false, false, false, false, false, false, false, false] (by kernel_rfl) rfl rfl ⟨(blk_cell BK355.out 0).trans rfl, (blk_cell BK355.out 1).trans rfl⟩ (fun hHeld => ?_); refine with_tabW spec_HeadWrite.tab3 spec_HeadWrite.bits3 (fun HT_ HW_ => ?_)
    generalize w12.drew = w16 at BK355 BK356 HB hHeld ⊢
    refine pu 1 (some 16) (bm 13 2) rfl rfl ?_
    refine pu 4 (some 19) (bm 13 18) rfl rfl ?_
    refine pu 7 (some 22) (bm 13 146) rfl rfl ?_
    refine tk 2 (some 17) (bm 13 150) rfl rfl hHeld ?_
    refine tk 5 (some 20) (bm 13 182) rfl rfl hHeld ?_
    refine one_ (i := 0) (N := some 15) (bm 13 183) rfl rfl (one_of HT_.out (by kernel_rfl)) (by decide) (fun K hK => ?_)
    refine Kd.R_lit_step k88 _ 88 ?hg (N := 15) ?hd (xs := ([] : List (S88))) (inner := []) (ok := fun _ => True) (okp := fun _ => True) ?hr ?hp (fun _ hk => hk) trivial (Below.refl _ _) (Nat.le_refl _) (by simp) ?_; (case hd => rfl); (case hg => rfl); (case hr => first | (go_simp; done) | (go_simp; rfl)); (case hp => exact (Reps.none _ _))
    intro v360 w17 ho18 hb hg_ hnew_
    clear hg_ hnew_
    (first | rw [← Ny359.out] at ho18 | (simp only [Int.reduceToNat] at ho18; rw [← Ny359.out] at ho18))
    have HO361 := Aside0.mk (Kd.R_lower ho18 (below_size (zb HB)))
    replace BK355 := kb BK355 hb
    replace BK356 := kb BK356 hb
    replace HB := Aside0.mk (below_step (zb HB) hb)
    clear hb ho18
    refine hK.out _ _ ⟨(blk_cell BK355.out 0).trans rfl, (blk_cell BK355.out 1).trans rfl⟩ (fun hHeld => ?_)
    clear hK K
    refine nm ?_
    refine one_ (i := 3) (N := some 18) (bm 13 191) rfl rfl (one_of HT_.out (by kernel_rfl)) (by decide) (fun K hK => ?_)
    refine Kd.R_append_rows_step k88 (w0 := w) w.heap.size (by rfl) (.tmp 15) (.tmp 17) 23 88 (.agg #[(.string ⟨#[]⟩), (.string ⟨#[]⟩), (.bool false)]) 40 rfl Try.underlying23 info88 rfl (by decide) (by omega) v360 y359 l0_0 _ _ _ (fun _ => True) (fun _ => False) rfl rfl ?aO ?aR (fun _ _ h => h) (fun _ h => h.elim) ?aF ?aB ?aS ?aL ?_
    (case aR => exact zc (Kd.C_below HR0_0.out HB.out))
    (case aB => exact (zb HB))
    (case aF => exact (fun _ _ => trivial))
    (case aO => exact (zr HO361))
    (case aS => exact (below_size (zb HB)))
    (case aL => have := LMc14.out; omega)
    intro v363 w19 ho hb hg hat
    rw [← Ny362.out] at ho
    replace BK355 := Aside0.mk (blk_grown (zk BK355) hg (Kd.R_ne HO361.out BK355.out (by decide)))
    replace BK356 := Aside0.mk (blk_grown (zk BK356) hg (Kd.R_ne HO361.out BK356.out (by decide)))
    replace HB := Aside0.mk (hb)
    have HO364 := Aside0.mk (ho)
    clear HO361
    clear ho hb hg hat
    obtain ⟨Ao20, co20, eo20⟩ := Kd.R_slice HO364.out
    (first | subst eo20 | (injection eo20 with f1_ f2_ f3_; have f4_ := f1_.symm; have f5_ := f3_.symm; clear f1_ f2_ f3_; subst f4_; subst f5_))
    refine hK.out _ _ ⟨(blk_cell BK355.out 0).trans rfl, (blk_cell BK355.out 1).trans rfl⟩ (fun hHeld => ?_)
    clear hK K
    refine nm ?_
    refine pu 6 (some 21) (bm 13 255) rfl rfl ?_
    refine one_ (i := 8) (N := some 23) (bm 13 511) rfl rfl (one_of HT_.out (by kernel_rfl)) (by decide) (fun K hK => ?_)
    refine gs Try.func52 #[.agg #[.slice Ao20 y362.length co20, .int .i64 a0_1], .slice A1 l1.length c1] ?_
    with_reducible refine (spec_l11All.calls k (fun k_ => some k_ = (.slice Ao20 y362.length co20 : Value).ownBlock) (.slice Ao20 y362.length co20) y362 a0_1 _ _ l1 t365 t368 t369 w _ ?side1 ?side2 ?side3 ?side4 A15.out).mono ?_
    (case side1 => exact zb HB)
    (case side2 => exact Kd.R_tight rfl HO364.out)
    (case side3 => exact Kd.C_kept_came k88_heap HR1.out (zb HB) (fun k_ hs_ => (fun e_ => Kd.R_base HO364.out k_ e_.symm) hs_))
    (case side4 => exact HC1.out)
    rintro e w21 ⟨v366, rfl, ho0, hb, hkp⟩
    refine ⟨_, rfl, ?_⟩
    replace BK355 := Aside0.mk (blk_kept (zk BK355) hkp (fun hs_ => (fun e_ => (Kd.R_ne HO364.out BK355.out (by decide)) e_) hs_))
    replace BK356 := Aside0.mk (blk_kept (zk BK356) hkp (fun hs_ => (fun e_ => (Kd.R_ne HO364.out BK356.out (by decide)) e_) hs_))
    have HO367 := Aside0.mk (Kd.R_mono (ok' := fun k_ => True) ho0 (fun k_ hk_ => trivial))
    replace HB := Aside0.mk (hb)
    clear HO364
    (try clear hb)
    (try clear hkp)
    (try clear ho0)
    obtain ⟨Ao22, co22, eo22⟩ := Kd.R_slice HO367.out
    (first | subst eo22 | (injection eo22 with f1_ f2_ f3_; have f4_ := f1_.symm; have f5_ := f3_.symm; clear f1_ f2_ f3_; subst f4_; subst f5_))
    refine hK.out _ _ ⟨(blk_cell BK355.out 0).trans rfl, (blk_cell BK355.out 1).trans rfl⟩ (fun hHeld => ?_)
    clear hK K
    refine nm ?_
    refine pu 9 (some 24) (bm 13 1023) rfl rfl ?_
    refine pu 10 (some 25) (bm 13 2047) rfl rfl ?_
    refine one_ (i := 11) (N := none) (bm 13 4095) rfl rfl (one_of HT_.out (by kernel_rfl)) (by decide) (fun K hK => ?_)
    have hs23 : w21.cell? ⟨gb356, 0, none⟩ = some (.slice none 0 0) := (blk_cell BK356.out 0).trans rfl
    have hfs23 := blk_frozen BK356.out 0
    have hns23_0 := NB355_356.out
    have hms23_0 := NB356_355.out
    have hs24 : w21.cell? ⟨gb356, 1, none⟩ = some (.int .i64 0) := (blk_cell BK356.out 1).trans rfl
    have hfs24 := blk_frozen BK356.out 1
    have hns24_0 := NB355_356.out
    have hms24_0 := NB356_355.out
    refine skip_ (w1 := ?_) (by rfl) rfl ?_ ?_
    rotate_left
    ·go_simp
     rfl
    refine hK.out _ _ ⟨((cell_far (p := ⟨gb356, _, none⟩) NB355_356.out _).trans (((cell_far (p := ⟨gb356, _, none⟩) NB355_356.out _).trans (hHeld.1)))), ((cell_far (p := ⟨gb356, _, none⟩) NB355_356.out _).trans (((cell_far (p := ⟨gb356, _, none⟩) NB355_356.out _).trans (hHeld.2))))⟩ (fun hHeld => ?_)
    clear hK K
    refine pu 12 (some 5) (bm 13 8191) rfl rfl ?_
    refine done_ (done_of HT_.out (by kernel_rfl)) ?_
    try go_wp2
    refine bodyPost_ret (results_ct rfl _ _ gb356 25 #[.slice Ao22 t365.length co22, .int .i64 t368] (0, 0) _ rfl (by (with_reducible repeat (first | refine blk_drewN ?_ _ | refine blk_drew ?_ | refine blk_alloc ?_ _)); refine blk_put (cs := #[.slice Ao22 t365.length co22, .int .i64 0]) ?_ 1 _ rfl; (with_reducible repeat (first | refine blk_drewN ?_ _ | refine blk_drew ?_ | refine blk_alloc ?_ _)); refine blk_put (cs := #[.slice none 0 0, .int .i64 0]) ?_ 0 _ rfl; exact zk BK356) Try.underlying25 rfl (by kernel_rfl)) rfl ?_
    exact ⟨_, ze, by (with_reducible repeat (first | apply Kd.R_alloc | apply Kd.R_drewN | apply Kd.R_drew)); exact Kd.R_mono (Kd.R_far (p := ⟨gb356, 1, none⟩) (Kd.R_far (p := ⟨gb356, 0, none⟩) (Kd.R_types HO367.out BK356.out (by decide)) (fun _ hk => hk.2) (.slice Ao22 t365.length co22)) (fun _ hk => hk.2) (.int .i64 t368)) (fun _ hk => trivial), zb HB⟩
   ·skip
    exact absurd H (by simp)
  ·replace c13 := Bool.eq_false_iff.mpr c13
   subst c13
   rw [if_neg (show ¬ (false = true) by decide)] at H
   simp only [Option.some.injEq, Prod.mk.injEq] at H
   obtain ⟨rfl, rfl, rfl⟩ := H
   have hnb25 := NB356_355.out
   have hnc25 := NB355_356.out
   obtain ⟨hcz26_0, hcz26_1, hfz26_0, hfz26_1⟩ := c2 BK356
   go_wp2
   refine bodyPost_ret (results_ct rfl _ _ gb356 25 #[.slice none 0 0, .int .i64 0] (0, 0) _ rfl (by (with_reducible repeat (first | refine blk_drewN ?_ _ | refine blk_drew ?_ | refine blk_alloc ?_ _)); refine blk_put (cs := #[.slice none 0 0, .int .i64 0]) ?_ 1 _ rfl; (with_reducible repeat (first | refine blk_drewN ?_ _ | refine blk_drew ?_ | refine blk_alloc ?_ _)); refine blk_put (cs := #[.slice none 0 0, .int .i64 0]) ?_ 0 _ rfl; exact zk BK356) Try.underlying25 rfl (by kernel_rfl)) rfl ?_
   exact ⟨_, ze, by first | exact Kd.R_nil _ _ _ _ _ | exact Kd.N_nil _ _ _ _ _ | exact Kd.V_nil _ _ _ _ _ | exact Kd.Q_nil _ _ _ _ _ | exact Kd.S_nil _ _ _ _ _, zb HB⟩
 ·replace c4 := Bool.eq_false_iff.mpr c4
  subst c4
  rw [if_neg (show ¬ (false = true) by decide)] at H
  simp only [Option.some.injEq, Prod.mk.injEq] at H
  obtain ⟨rfl, rfl, rfl⟩ := H
  go_enter Try.func12, Try.ntmps12
  go_wp2_with (first | ((with_reducible refine gd 2 rfl ?_); refine bx (N := 2) (cs := #[.slice A0_0 l0_0.length c0_0, .int .i64 a0_1]) (t := 25) ?_; intro gb355 hg w27 hbox hb; have BK355 := Aside0.mk (hbox); have GW355 := gw HB hg; have GE355 := GW355; replace HB := Aside0.mk (below_step (zb HB) hb); clear hb hbox hg) | ((with_reducible refine gd 4 rfl ?_); refine bx (N := 4) (cs := #[.slice none 0 0, .int .i64 0]) (t := 25) ?_; intro gb356 hg w28 hbox hb; have BK356 := Aside0.mk (hbox); have GW356 := gw HB hg; have GE356 := GW356; replace HB := Aside0.mk (below_step (zb HB) hb); obtain ⟨NB355_356, NB356_355⟩ := nb BK355 hg; replace BK355 := kb BK355 hb; clear hb hbox hg; have hnb29 := NB355_356.out; have hnc29 := NB356_355.out; obtain ⟨hcz30_0, hcz30_1, hfz30_0, hfz30_1⟩ := c2 BK355) | ((with_reducible refine gq 15 rfl ?_); refine gl (some 7) Try.func15 #[.agg #[.slice A0_0 l0_0.length c0_0, .int .i64 a0_1]] ?_; (with_reducible refine (spec_TableOk.calls k _ _ l0_0 a0_1 false _ ?side1 ?side2 A3.out).mono ?_); (case side1 => exact zc (Kd.C_below HR0_0.out HB.out)); (case side2 => exact HC0_0.out); rintro e w31 ⟨rfl, hb⟩; refine ⟨_, rfl, ?_⟩; replace BK355 := kb BK355 hb; replace BK356 := kb BK356 hb; replace HB := Aside0.mk (below_step (zb HB) hb); (try clear hb); obtain ⟨hcz32_0, hcz32_1, hfz32_0, hfz32_1⟩ := c2 BK356))
  refine bodyPost_ret (results_ct rfl _ _ gb356 25 #[.slice none 0 0, .int .i64 0] (0, 0) _ rfl (by (with_reducible repeat (first | refine blk_drewN ?_ _ | refine blk_drew ?_ | refine blk_alloc ?_ _)); refine blk_put (cs := #[.slice none 0 0, .int .i64 0]) ?_ 1 _ rfl; (with_reducible repeat (first | refine blk_drewN ?_ _ | refine blk_drew ?_ | refine blk_alloc ?_ _)); refine blk_put (cs := #[.slice none 0 0, .int .i64 0]) ?_ 0 _ rfl; exact zk BK356) Try.underlying25 rfl (by kernel_rfl)) rfl ?_
  exact ⟨_, ze, by first | exact Kd.R_nil _ _ _ _ _ | exact Kd.N_nil _ _ _ _ _ | exact Kd.V_nil _ _ _ _ _ | exact Kd.Q_nil _ _ _ _ _ | exact Kd.S_nil _ _ _ _ _, zb HB⟩

/-! ### impl_in: function 61 -/
-- thin
def impl_in.f (a0 : Int) (a1 : Int) (a2 : Int) : Option (Bool) := if a1 ≤ a0 then (some (decide (a0 ≤ a2))) else (some false)
set_option maxHeartbeats 8000000 in
set_option maxRecDepth 100000 in
theorem impl_in.calls (a0 : Int) (a1 : Int) (a2 : Int) (r : Bool) (w : World) (h : impl_in.f a0 a1 a2 = some r) :
  Calls Try.prog 61 #[.int .i64 a0, .int .i64 a1, .int .i64 a2] w fun e w' => e = .returned (.bool r) ∧ Drawn0 w w' := by
 have H : (if a1 ≤ a0 then (some (decide (a0 ≤ a2))) else (some false)) = some r := h
 clear h
 replace H := sp H
 rcases H with ⟨c4, H⟩ | ⟨c4, H⟩
 ·skip
  have c4b0 := decide_eq_true c4
  clear c4
  obtain rfl := Option.some.inj H
  go_enter Try.func61, Try.ntmps61
  go_wp2
  go_ret
  exact ⟨zs, by repeat (first | exact Drawn0.refl _ | apply Drawn0.step)⟩
 ·skip
  have c4b0 := decide_eq_false c4
  clear c4
  obtain rfl := Option.some.inj H
  go_enter Try.func61, Try.ntmps61
  go_wp2
  go_ret
  exact ⟨zs, by repeat (first | exact Drawn0.refl _ | apply Drawn0.step)⟩

-- NOT PRINTED: function 171 (bytealg_IndexByteString)

-- NOT PRINTED: function 167 (stringslite_IndexByte)

/-! ### strings_IndexByte: function 153 -/
-- by hand
def TryL.lays137_ren : Go.Shelf.Ren := ⟨fun | 137 => 153 | 217 => 167 | 266 => 171 | n => n, fun | 9 => 9 | 5 => 5 | 3 => 3 | n => n, fun | n => n⟩
theorem TryL.lays137 : Go.Proofs.Lays.n137 Try.prog TryL.lays137_ren := {
  mixed := by kernel_rfl
  f137 := Try.func153.trans (congrArg some (by kernel_rfl))
  f217 := Try.func167.trans (congrArg some (by kernel_rfl))
  f266 := Try.func171.trans (congrArg some (by kernel_rfl))
  t3 := Try.underlying3
  a3 := Try.isAgg3
  z3 := Try.sizeOf3
  v3 := Try.zeroValue3
  t5 := Try.underlying5
  a5 := Try.isAgg5
  z5 := Try.sizeOf5
  v5 := Try.zeroValue5
  t9 := Try.underlying9
  a9 := Try.isAgg9
  z9 := Try.sizeOf9
  v9 := Try.zeroValue9 }
/-- The place of the first byte that is a1; -1, if there is none. -/
def strings_IndexByte.f (a0 : ByteArray) (a1 : Int) : Option (Int) := some (Lib.indexByte a0.data.toList a1.toNat.toUInt8)
theorem strings_IndexByte.calls (a0 : ByteArray) (a1 : Int) (r : Int) (w : World) (h : strings_IndexByte.f a0 a1 = some r) :
    Calls Try.prog 153 #[.string a0, .int .u8 a1] w fun e w' => e = .returned (.int .i64 r) ∧ Drawn0 w w' := by
  simp only [strings_IndexByte.f, Option.some.injEq] at h
  subst h
  refine (Go.Proofs.Any.strings_IndexByte TryL.lays137 a0 a1 w).mono ?_
  rintro e w' ⟨rfl, rfl⟩
  exact ⟨rfl, Drawn0.refl _⟩

/-! ### impl_WordOk: function 122 -/
-- thin
def impl_WordOk.l0 : Nat → ByteArray → Int → Int → Option (Bool)
 | 0, _, _, _ => none
 | k + 1, x0, x5, x6 => if x6 < x5 then (if 0 ≤ x6 then (if x6 < (x0.size : Int) then ((strings_IndexByte.f (⟨#[101, 116, 97, 111, 105, 110, 115, 114, 104, 108, 48, 49, 50, 51, 52, 53, 54, 55, 56, 57, 100, 99, 117, 109, 102, 112, 103, 119, 121, 98, 118, 107, 120, 106, 113, 122, 58, 47, 45]⟩ : ByteArray) (bt x0 x6)).bind fun t370 => (if t370 < 0 then (some false) else (impl_WordOk.l0 k x0 x5 (wrap64 (x6 + 1))))) else (none)) else (none)) else (some (decide ((x0.size : Int) ≤ 16)))
def impl_WordOk.f (k : Nat) (a0 : ByteArray) : Option (Bool) := impl_WordOk.l0 k a0 (a0.size : Int) 0
theorem impl_WordOk.mono_l : ∀ k, (∀ y0 y1 y2, LeO (impl_WordOk.l0 k y0 y1 y2) (impl_WordOk.l0 (k + 1) y0 y1 y2))
 | 0 => fun _ _ _ r h => by simp [impl_WordOk.l0] at h
 | k + 1 => by
  have ih0 := impl_WordOk.mono_l k
  ·intro y0 y1 y2
   unfold impl_WordOk.l0
   exact zm
theorem impl_WordOk.mono : ∀ a0 k, LeO (impl_WordOk.f k a0) (impl_WordOk.f (k + 1) a0) := by
 intro a0 k
 have ih0 := impl_WordOk.mono_l k
 unfold impl_WordOk.f
 exact zm
set_option maxHeartbeats 8000000 in
set_option maxRecDepth 100000 in
theorem impl_WordOk.calls (k : Nat) (a0 : ByteArray) (r : Bool) (w : World) (h : impl_WordOk.f k a0 = some r) :
  Calls Try.prog 122 #[.string a0] w fun e w' => e = .returned (.bool r) ∧ Drawn0 w w' := by
 have H : (impl_WordOk.l0 k a0 (a0.size : Int) 0) = some r := h
 clear h
 have H' := Aside0.mk H
 clear H
 go_enter Try.func122, Try.ntmps122
 go_wp2
 go_loopg [6] k (fun kq v6 w' => ∃ (x6_1 : Int), v6 = .int .i64 x6_1 ∧ Aside0 (impl_WordOk.l0 kq a0 (a0.size : Int) x6_1 = some r) ∧ Aside0 (kq ≤ k) ∧ Drawn0 w w')
 case atStart => exact ⟨(0), zs, H', ⟨Nat.le_refl _⟩, by repeat (first | exact Drawn0.refl _ | apply Drawn0.step)⟩
 case round =>
  clear H'
  try clear c1
  obtain ⟨x6_1, rfl, HA, HK1, ⟨m1, rfl⟩⟩ := hrel
  cases gk with
  | zero => exact absurd HA.out (by simp [impl_WordOk.l0])
  | succ k1 =>
   have H := HA.out
   clear HA
   simp only [impl_WordOk.l0] at H
   replace H := sp H
   rcases H with ⟨c2, H⟩ | ⟨c2, H⟩
   ·skip
    have c2b0 := decide_eq_true c2
    clear c2
    by_cases c3 : 0 ≤ x6_1
    ·rw [if_pos c3] at H
     have c3b0 := decide_eq_true c3
     clear c3
     by_cases c4 : x6_1 < (a0.size : Int)
     ·rw [if_pos c4] at H
      have c4b0 := decide_eq_true c4
      clear c4
      obtain ⟨t370, A6, H⟩ := ob H
      (try dsimp only at H)
      by_cases c7 : t370 < 0
      ·rw [if_pos c7] at H
       have c7b0 := decide_eq_true c7
       clear c7
       obtain rfl := Option.some.inj H
       have p5 : 0 ≤ (x6_1 : Int) := of_decide_eq_true za
       have q5 : x6_1 < (a0.size : Int) := of_decide_eq_true za
       have hx5 := bt_at a0 x6_1
       replace p5 := eq_true p5
       replace q5 := eq_true q5
       go_wp2_with (first | ((with_reducible refine gq 153 rfl ?_); refine gl (some 12) Try.func153 #[.string (⟨#[101, 116, 97, 111, 105, 110, 115, 114, 104, 108, 48, 49, 50, 51, 52, 53, 54, 55, 56, 57, 100, 99, 117, 109, 102, 112, 103, 119, 121, 98, 118, 107, 120, 106, 113, 122, 58, 47, 45]⟩ : ByteArray), .int .u8 (bt a0 x6_1)] ?_; (with_reducible refine (strings_IndexByte.calls (⟨#[101, 116, 97, 111, 105, 110, 115, 114, 104, 108, 48, 49, 50, 51, 52, 53, 54, 55, 56, 57, 100, 99, 117, 109, 102, 112, 103, 119, 121, 98, 118, 107, 120, 106, 113, 122, 58, 47, 45]⟩ : ByteArray) (bt a0 x6_1) t370 _ A6.out).mono ?_); rintro e w' ⟨rfl, ⟨nd, rfl⟩⟩; refine ⟨_, rfl, ?_⟩))
       go_ret
       exact ⟨zs, by repeat (first | exact Drawn0.refl _ | apply Drawn0.step)⟩
      ·rw [if_neg c7] at H
       have c7b0 := decide_eq_false c7
       clear c7
       have H' := Aside0.mk H
       clear H
       have p5 : 0 ≤ (x6_1 : Int) := of_decide_eq_true za
       have q5 : x6_1 < (a0.size : Int) := of_decide_eq_true za
       have hx5 := bt_at a0 x6_1
       replace p5 := eq_true p5
       replace q5 := eq_true q5
       go_wp2_with (first | ((with_reducible refine gq 153 rfl ?_); refine gl (some 12) Try.func153 #[.string (⟨#[101, 116, 97, 111, 105, 110, 115, 114, 104, 108, 48, 49, 50, 51, 52, 53, 54, 55, 56, 57, 100, 99, 117, 109, 102, 112, 103, 119, 121, 98, 118, 107, 120, 106, 113, 122, 58, 47, 45]⟩ : ByteArray), .int .u8 (bt a0 x6_1)] ?_; (with_reducible refine (strings_IndexByte.calls (⟨#[101, 116, 97, 111, 105, 110, 115, 114, 104, 108, 48, 49, 50, 51, 52, 53, 54, 55, 56, 57, 100, 99, 117, 109, 102, 112, 103, 119, 121, 98, 118, 107, 120, 106, 113, 122, 58, 47, 45]⟩ : ByteArray) (bt a0 x6_1) t370 _ A6.out).mono ?_); rintro e w' ⟨rfl, ⟨nd, rfl⟩⟩; refine ⟨_, rfl, ?_⟩))
       go_roundg k1
       case measure => have := HK1.out; omega
       case rel => exact ⟨(wrap64 (x6_1 + 1)), zs, H', ⟨by have := HK1.out; omega⟩, by repeat (first | exact Drawn0.refl _ | apply Drawn0.step)⟩
     ·rw [if_neg c4] at H
      exact absurd H (by simp)
    ·rw [if_neg c3] at H
     exact absurd H (by simp)
   ·skip
    have c2b0 := decide_eq_false c2
    clear c2
    obtain rfl := Option.some.inj H
    go_wp2
    go_ret
    exact ⟨zs, by repeat (first | exact Drawn0.refl _ | apply Drawn0.step)⟩

/-! ### impl_FieldOk: function 64 -/
-- thin
def impl_FieldOk.f (k : Nat) (a0_0 : ByteArray) (a0_1 : ByteArray) (a0_2 : Bool) : Option (Bool) := (impl_WordOk.f k a0_0).bind fun t372 => (if t372 = true then ((impl_WordOk.f k a0_1).bind fun t373 => (if t373 = true then (some (a0_0.toList != ([] : List UInt8))) else (some false))) else (some false))
theorem impl_FieldOk.mono : ∀ a0 a1 a2 k, LeO (impl_FieldOk.f k a0 a1 a2) (impl_FieldOk.f (k + 1) a0 a1 a2) := by
 intro a0 a1 a2 k
 unfold impl_FieldOk.f
 have m0 := @impl_WordOk.mono
 exact zm
set_option maxHeartbeats 8000000 in
set_option maxRecDepth 100000 in
theorem impl_FieldOk.calls (k : Nat) (a0_0 : ByteArray) (a0_1 : ByteArray) (a0_2 : Bool) (r : Bool) (w : World) (h : impl_FieldOk.f k a0_0 a0_1 a0_2 = some r) :
  Calls Try.prog 64 #[.agg #[.string a0_0, .string a0_1, .bool a0_2]] w fun e w' => e = .returned (.bool r) ∧ Below w.heap.size w w' := by
 have hu88 := Try.underlying88
 have HB := Aside0.mk (Below.refl w.heap.size w)
 have H : ((impl_WordOk.f k a0_0).bind fun t372 => (if t372 = true then ((impl_WordOk.f k a0_1).bind fun t373 => (if t373 = true then (some (a0_0.toList != ([] : List UInt8))) else (some false))) else (some false))) = some r := h
 clear h
 obtain ⟨t372, A2, H⟩ := ob H
 (try dsimp only at H)
 by_cases c3 : t372 = true
 ·subst c3
  rw [if_pos rfl] at H
  obtain ⟨t373, A4, H⟩ := ob H
  (try dsimp only at H)
  by_cases c5 : t373 = true
  ·subst c5
   rw [if_pos rfl] at H
   obtain rfl := Option.some.inj H
   go_enter Try.func64, Try.ntmps64
   go_wp2_with (first | ((with_reducible refine gd 1 rfl ?_); refine bx (N := 1) (cs := #[.string a0_0, .string a0_1, .bool a0_2]) (t := 88) ?_; intro gb371 hg w6 hbox hb; have BK371 := Aside0.mk (hbox); have GW371 := gw HB hg; have GE371 := GW371; replace HB := Aside0.mk (below_step (zb HB) hb); clear hb hbox hg; obtain ⟨hcz7_0, hcz7_1, hcz7_2, hfz7_0, hfz7_1, hfz7_2⟩ := c3 BK371) | ((with_reducible refine gq 122 rfl ?_); refine gl (some 5) Try.func122 #[.string a0_0] ?_; (with_reducible refine (impl_WordOk.calls k a0_0 true _ A2.out).mono ?_); rintro e w' ⟨rfl, ⟨nd, rfl⟩⟩; refine ⟨_, rfl, ?_⟩) | (go_at_call 122; (with_reducible refine (impl_WordOk.calls k a0_1 true _ A4.out).mono ?_); rintro e w' ⟨rfl, ⟨nd, rfl⟩⟩))
   go_ret
   exact ⟨ze, zb HB⟩
  ·replace c5 := Bool.eq_false_iff.mpr c5
   subst c5
   rw [if_neg (show ¬ (false = true) by decide)] at H
   obtain rfl := Option.some.inj H
   go_enter Try.func64, Try.ntmps64
   go_wp2_with (first | ((with_reducible refine gd 1 rfl ?_); refine bx (N := 1) (cs := #[.string a0_0, .string a0_1, .bool a0_2]) (t := 88) ?_; intro gb371 hg w8 hbox hb; have BK371 := Aside0.mk (hbox); have GW371 := gw HB hg; have GE371 := GW371; replace HB := Aside0.mk (below_step (zb HB) hb); clear hb hbox hg; obtain ⟨hcz9_0, hcz9_1, hcz9_2, hfz9_0, hfz9_1, hfz9_2⟩ := c3 BK371) | ((with_reducible refine gq 122 rfl ?_); refine gl (some 5) Try.func122 #[.string a0_0] ?_; (with_reducible refine (impl_WordOk.calls k a0_0 true _ A2.out).mono ?_); rintro e w' ⟨rfl, ⟨nd, rfl⟩⟩; refine ⟨_, rfl, ?_⟩) | (go_at_call 122; (with_reducible refine (impl_WordOk.calls k a0_1 false _ A4.out).mono ?_); rintro e w' ⟨rfl, ⟨nd, rfl⟩⟩))
   go_ret
   exact ⟨ze, zb HB⟩
 ·replace c3 := Bool.eq_false_iff.mpr c3
  subst c3
  rw [if_neg (show ¬ (false = true) by decide)] at H
  obtain rfl := Option.some.inj H
  go_enter Try.func64, Try.ntmps64
  go_wp2_with (first | ((with_reducible refine gd 1 rfl ?_); refine bx (N := 1) (cs := #[.string a0_0, .string a0_1, .bool a0_2]) (t := 88) ?_; intro gb371 hg w10 hbox hb; have BK371 := Aside0.mk (hbox); have GW371 := gw HB hg; have GE371 := GW371; replace HB := Aside0.mk (below_step (zb HB) hb); clear hb hbox hg; obtain ⟨hcz11_0, hcz11_1, hcz11_2, hfz11_0, hfz11_1, hfz11_2⟩ := c3 BK371) | ((with_reducible refine gq 122 rfl ?_); refine gl (some 5) Try.func122 #[.string a0_0] ?_; (with_reducible refine (impl_WordOk.calls k a0_0 false _ A2.out).mono ?_); rintro e w' ⟨rfl, ⟨nd, rfl⟩⟩; refine ⟨_, rfl, ?_⟩))
  go_ret
  exact ⟨ze, zb HB⟩

/-! ### impl_TableOk_1: function 63 -/
-- thin
def impl_TableOk_1.f (k : Nat) (a0_0 : ByteArray) (a0_1 : ByteArray) (a0_2 : Bool) : Option (Bool) := (impl_FieldOk.f k a0_0 a0_1 a0_2).bind fun t375 => (if t375 = true then (some a0_2) else (some true))
theorem impl_TableOk_1.mono : ∀ a0 a1 a2 k, LeO (impl_TableOk_1.f k a0 a1 a2) (impl_TableOk_1.f (k + 1) a0 a1 a2) := by
 intro a0 a1 a2 k
 unfold impl_TableOk_1.f
 have m0 := @impl_FieldOk.mono
 exact zm
set_option maxHeartbeats 8000000 in
set_option maxRecDepth 100000 in
theorem impl_TableOk_1.calls (k : Nat) (a0_0 : ByteArray) (a0_1 : ByteArray) (a0_2 : Bool) (r : Bool) (w : World) (h : impl_TableOk_1.f k a0_0 a0_1 a0_2 = some r) :
  Calls Try.prog 63 #[.agg #[.string a0_0, .string a0_1, .bool a0_2]] w fun e w' => e = .returned (.bool r) ∧ Below w.heap.size w w' := by
 have hu88 := Try.underlying88
 have HB := Aside0.mk (Below.refl w.heap.size w)
 have H : ((impl_FieldOk.f k a0_0 a0_1 a0_2).bind fun t375 => (if t375 = true then (some a0_2) else (some true))) = some r := h
 clear h
 obtain ⟨t375, A2, H⟩ := ob H
 (try dsimp only at H)
 by_cases c3 : t375 = true
 ·subst c3
  rw [if_pos rfl] at H
  obtain rfl := Option.some.inj H
  go_enter Try.func63, Try.ntmps63
  go_wp2_with (first | ((with_reducible refine gd 1 rfl ?_); refine bx (N := 1) (cs := #[.string a0_0, .string a0_1, .bool a0_2]) (t := 88) ?_; intro gb374 hg w4 hbox hb; have BK374 := Aside0.mk (hbox); have GW374 := gw HB hg; have GE374 := GW374; replace HB := Aside0.mk (below_step (zb HB) hb); clear hb hbox hg; obtain ⟨hcz5_0, hcz5_1, hcz5_2, hfz5_0, hfz5_1, hfz5_2⟩ := c3 BK374) | ((with_reducible refine gq 64 rfl ?_); refine gl (some 4) Try.func64 #[.agg #[.string a0_0, .string a0_1, .bool a0_2]] ?_; (with_reducible refine (impl_FieldOk.calls k a0_0 a0_1 a0_2 true _ A2.out).mono ?_); rintro e w6 ⟨rfl, hb⟩; refine ⟨_, rfl, ?_⟩; replace BK374 := kb BK374 hb; replace HB := Aside0.mk (below_step (zb HB) hb); (try clear hb); obtain ⟨hcz7_0, hcz7_1, hcz7_2, hfz7_0, hfz7_1, hfz7_2⟩ := c3 BK374))
  go_ret
  exact ⟨ze, zb HB⟩
 ·replace c3 := Bool.eq_false_iff.mpr c3
  subst c3
  rw [if_neg (show ¬ (false = true) by decide)] at H
  obtain rfl := Option.some.inj H
  go_enter Try.func63, Try.ntmps63
  go_wp2_with (first | ((with_reducible refine gd 1 rfl ?_); refine bx (N := 1) (cs := #[.string a0_0, .string a0_1, .bool a0_2]) (t := 88) ?_; intro gb374 hg w8 hbox hb; have BK374 := Aside0.mk (hbox); have GW374 := gw HB hg; have GE374 := GW374; replace HB := Aside0.mk (below_step (zb HB) hb); clear hb hbox hg; obtain ⟨hcz9_0, hcz9_1, hcz9_2, hfz9_0, hfz9_1, hfz9_2⟩ := c3 BK374) | ((with_reducible refine gq 64 rfl ?_); refine gl (some 4) Try.func64 #[.agg #[.string a0_0, .string a0_1, .bool a0_2]] ?_; (with_reducible refine (impl_FieldOk.calls k a0_0 a0_1 a0_2 false _ A2.out).mono ?_); rintro e w10 ⟨rfl, hb⟩; refine ⟨_, rfl, ?_⟩; replace BK374 := kb BK374 hb; replace HB := Aside0.mk (below_step (zb HB) hb); (try clear hb)))
  go_ret
  exact ⟨ze, zb HB⟩

/-! ### impl_HeadOk_1: function 109 -/
-- thin
def impl_HeadOk_1.f (k : Nat) (a0_0 : ByteArray) (a0_1 : ByteArray) (a0_2 : Bool) : Option (Bool) := (impl_FieldOk.f k a0_0 a0_1 a0_2).bind fun t377 => (some (!t377))
theorem impl_HeadOk_1.mono : ∀ a0 a1 a2 k, LeO (impl_HeadOk_1.f k a0 a1 a2) (impl_HeadOk_1.f (k + 1) a0 a1 a2) := by
 intro a0 a1 a2 k
 unfold impl_HeadOk_1.f
 have m0 := @impl_FieldOk.mono
 exact zm
set_option maxHeartbeats 8000000 in
set_option maxRecDepth 100000 in
theorem impl_HeadOk_1.calls (k : Nat) (a0_0 : ByteArray) (a0_1 : ByteArray) (a0_2 : Bool) (r : Bool) (w : World) (h : impl_HeadOk_1.f k a0_0 a0_1 a0_2 = some r) :
  Calls Try.prog 109 #[.agg #[.string a0_0, .string a0_1, .bool a0_2]] w fun e w' => e = .returned (.bool r) ∧ Below w.heap.size w w' := by
 have hu88 := Try.underlying88
 have HB := Aside0.mk (Below.refl w.heap.size w)
 have H : ((impl_FieldOk.f k a0_0 a0_1 a0_2).bind fun t377 => (some (!t377))) = some r := h
 clear h
 obtain ⟨t377, A2, H⟩ := ob H
 (try dsimp only at H)
 obtain rfl := Option.some.inj H
 go_enter Try.func109, Try.ntmps109
 go_wp2_with (first | ((with_reducible refine gd 1 rfl ?_); refine bx (N := 1) (cs := #[.string a0_0, .string a0_1, .bool a0_2]) (t := 88) ?_; intro gb376 hg w3 hbox hb; have BK376 := Aside0.mk (hbox); have GW376 := gw HB hg; have GE376 := GW376; replace HB := Aside0.mk (below_step (zb HB) hb); clear hb hbox hg; obtain ⟨hcz4_0, hcz4_1, hcz4_2, hfz4_0, hfz4_1, hfz4_2⟩ := c3 BK376) | ((with_reducible refine gq 64 rfl ?_); refine gl (some 4) Try.func64 #[.agg #[.string a0_0, .string a0_1, .bool a0_2]] ?_; (with_reducible refine (impl_FieldOk.calls k a0_0 a0_1 a0_2 t377 _ A2.out).mono ?_); rintro e w5 ⟨rfl, hb⟩; refine ⟨_, rfl, ?_⟩; replace BK376 := kb BK376 hb; replace HB := Aside0.mk (below_step (zb HB) hb); (try clear hb)))
 go_ret
 exact ⟨ze, zb HB⟩

/-! ### IndexFunc_Field: function 121 -/
-- by hand
theorem load_list (P : Program) (W : World) (a : Addr) (cs : List Value) (k : Nat) (hk : cs.length = k) (h : ∀ j v, cs[j]? = some v → W.cell? (a.add j) = some v) :
    Sem.run P (loadCellsFrom a 0 k #[]) W = .ok cs.toArray W := by
  have := run_loadCells_list (P := P) (w := W) a cs h
  rw [hk] at this
  exact this
/-- The first place, from i on, at which p says yes; -1, if there is none. -/
def idxFrom (p : S88 → Option Bool) : List (S88) → Int → Option Int
  | [], _ => some (-1)
  | x :: l, i => (p x).bind fun b => if b then some i else idxFrom p l (i + 1)
/-- What a predicate's value does when it is called. -/
def PredIs (P : Program) (g : Nat) (lb : Array Value) (p : S88 → Option Bool) (w : World) : Prop :=
  ∀ (W : World) (x : S88) (b : Bool), Below w.heap.size w W → p x = some b → Calls P g (#[.agg #[.string x.f0, .string x.f1, .bool x.f2]] ++ lb) W fun e w' => e = .returned (.bool b) ∧ Below w.heap.size w w'
set_option maxHeartbeats 4000000 in
set_option maxRecDepth 100000 in
theorem IndexFunc_calls (g : Nat) (lb : Array Value) (p : S88 → Option Bool) (eg : ∀ args w, (callFunc g args).run Try.prog w = .ok (.enter g args) w) (A0 : Option Addr) (c0 : Nat) (l0 : List (S88)) (r : Int) (w : World) (hr0 : Kd.C k88 w A0 l0.length l0) (hc0 : l0.length ≤ c0)
    (hp : PredIs Try.prog g lb p w) (h : idxFrom p l0 0 = some r) (hl : l0.length ≤ 1000000000) :
    Calls Try.prog 121 #[.slice A0 l0.length c0, .func (.func g) #[] lb] w fun e w' => e = .returned (.int .i64 r) ∧ Below w.heap.size w w' := by
  have HR0 := Aside0.mk hr0
  have HP := Aside0.mk hp
  have H := Aside0.mk h
  clear hr0 hp h
  go_enter Try.func121, Try.ntmps121
  go_wp2
  go_loopg [5, 8] (l0.length) (fun kq v5 v8 w' => ∃ i : Nat, v8 = .int .i64 i ∧ Aside0 (kq + i = l0.length) ∧ Aside0 (idxFrom p (l0.drop i) i = some r) ∧ Aside0 (Below w.heap.size w w'))
  case atStart => exact ⟨0, rfl, ⟨by omega⟩, ⟨by simpa using H.out⟩, ⟨Below.refl _ _⟩⟩
  case round =>
    obtain ⟨i, rfl, HK, HX, HB⟩ := hrel
    have hk := HK.out
    by_cases hj : i < l0.length
    · have h0 : (0 : Int) ≤ (i : Int) := by omega
      have h1 : (i : Int) < (l0.length : Int) := by omega
      obtain ⟨x, hx⟩ : ∃ x, l0[i]? = some x := ⟨_, List.getElem?_eq_getElem hj⟩
      have hdrop : l0.drop i = x :: l0.drop (i + 1) := by
        rw [List.drop_eq_getElem_cons hj]
        rw [List.getElem?_eq_getElem hj] at hx
        rw [Option.some.inj hx]
      obtain ⟨_, _, hrd⟩ := Kd.C_below HR0.out HB.out
      obtain ⟨ad, e1, hcell⟩ := hrd (by omega)
      obtain ⟨c, hc1, hc2, hc3⟩ := hcell i x hx
      have hc4 := k88_open hc2
      subst hc4
      subst e1
      have q0 : wr.cell? (ad.add (i * 3)) = some (.string x.f0) := by have h9 := hc3 0 _ rfl; exact h9
      have q1 : wr.cell? ⟨(ad.add (i * 3)).block, (ad.add (i * 3)).off + 1, none⟩ = some (.string x.f1) := by have h9 := hc3 1 _ rfl; rw [← Go.Addr.add_add] at h9; exact h9
      have q2 : wr.cell? ⟨(ad.add (i * 3)).block, (ad.add (i * 3)).off + 2, none⟩ = some (.bool x.f2) := by have h9 := hc3 2 _ rfl; rw [← Go.Addr.add_add] at h9; exact h9
      have hX := HX.out
      rw [hdrop, idxFrom] at hX
      obtain ⟨b, hb1, hb2⟩ := Option.bind_eq_some_iff.1 hX
      have hcall := HP.out wr x b HB.out hb1
      have HX2 := Aside0.mk hb2
      cases gk with
      | zero => omega
      | succ k1 =>
      clear hk hX hb2 hrd hcell hc1 hc2 hc3 hdrop
      cases b with
      | true =>
        go_wp2_with (go_at_fn g; refine hcall.mono ?_; rintro e w' ⟨rfl, hb'⟩)
        go_ret
        have h9 : some (i : Int) = some r := by simpa using HX2.out
        exact ⟨by rw [← Option.some.inj h9]; rfl, hb'⟩
      | false =>
        go_wp2_with (go_at_fn g; refine hcall.mono ?_; rintro e w' ⟨rfl, hb'⟩)
        go_roundg k1
        case measure => have := HK.out; omega
        case rel =>
          refine ⟨i + 1, by go_num, ⟨by have := HK.out; omega⟩, ⟨?_⟩, ⟨hb'⟩⟩
          have h9 := HX2.out
          rw [if_neg (by decide)] at h9
          rw [show ((i + 1 : Nat) : Int) = (i : Int) + 1 by omega]
          exact h9
    · have e : i = l0.length := by omega
      have hltz : ¬ (i : Int) < (l0.length : Int) := by omega
      clear hk hj
      have HE := Aside0.mk e
      clear e
      go_wp2
      go_ret
      have e := HE.out
      subst e
      have hX := HX.out
      rw [List.drop_length, idxFrom] at hX
      exact ⟨by rw [← Option.some.inj hX]; rfl, HB.out⟩

/-! ### ContainsFunc_Field: function 62 -/
-- by hand
set_option maxHeartbeats 4000000 in
set_option maxRecDepth 100000 in
theorem ContainsFunc_calls (g : Nat) (lb : Array Value) (p : S88 → Option Bool) (eg : ∀ args w, (callFunc g args).run Try.prog w = .ok (.enter g args) w) (A0 : Option Addr) (c0 : Nat) (l0 : List (S88)) (r : Int) (w : World) (hr0 : Kd.C k88 w A0 l0.length l0) (hc0 : l0.length ≤ c0)
    (hp : PredIs Try.prog g lb p w) (h : idxFrom p l0 0 = some r) (hl : l0.length ≤ 1000000000) :
    Calls Try.prog 62 #[.slice A0 l0.length c0, .func (.func g) #[] lb] w fun e w' => e = .returned (.bool (decide (0 ≤ r))) ∧ Below w.heap.size w w' := by
  go_enter Try.func62, Try.ntmps62
  go_wp2_with (go_at_call 121; refine (IndexFunc_calls g lb p eg A0 c0 l0 r _ hr0 hc0 hp h hl).mono ?_; rintro e w' ⟨rfl, hb'⟩)
  go_ret
  exact ⟨rfl, hb'⟩
/-- What function g says of a field. -/
def ContainsFunc_Field.p (k : Nat) (g : Nat) (x : S88) : Option Bool := if g = 63 then impl_TableOk_1.f k x.f0 x.f1 x.f2 else if g = 109 then impl_HeadOk_1.f k x.f0 x.f1 x.f2 else none
def ContainsFunc_Field.known (g : Nat) : Prop := g = 63 ∨ g = 109 ∨ False
instance (g : Nat) : Decidable (ContainsFunc_Field.known g) := by unfold ContainsFunc_Field.known; infer_instance
def ContainsFunc_Field.f (k : Nat) (l0 : List (S88)) (a1 : Nat) : Option Bool :=
  if l0.length ≤ 1000000000 ∧ ContainsFunc_Field.known a1 then (idxFrom (ContainsFunc_Field.p k a1) l0 0).bind fun r => some (decide (0 ≤ r)) else none
theorem idxFrom_mono {p q : S88 → Option Bool} (hpq : ∀ x, LeO (p x) (q x)) : ∀ (l : List (S88)) (i : Int), LeO (idxFrom p l i) (idxFrom q l i)
  | [], _ => fun r h => h
  | x :: l, i => by
    intro r h
    unfold idxFrom at h ⊢
    obtain ⟨b, hb, hr⟩ := Option.bind_eq_some_iff.1 h
    rw [hpq x b hb]
    simp only [Option.bind_some]
    cases b with
    | true => exact hr
    | false => exact idxFrom_mono hpq l (i + 1) r hr
theorem ContainsFunc_Field.p_mono (k g : Nat) (x : S88) : LeO (ContainsFunc_Field.p k g x) (ContainsFunc_Field.p (k + 1) g x) := by
  unfold ContainsFunc_Field.p
  refine LeO.ite (impl_TableOk_1.mono _ _ _ _) ?_
  refine LeO.ite (impl_HeadOk_1.mono _ _ _ _) ?_
  exact LeO.refl _
theorem ContainsFunc_Field.mono : ∀ a0 a1 k, LeO (ContainsFunc_Field.f k a0 a1) (ContainsFunc_Field.f (k + 1) a0 a1) := by
  intro a0 a1 k
  unfold ContainsFunc_Field.f
  refine LeO.ite ?_ (LeO.refl _)
  exact LeO.bind (idxFrom_mono (fun x => ContainsFunc_Field.p_mono k a1 x) a0 0) (fun _ => LeO.refl _)
theorem ContainsFunc_Field.enters (a1 : Nat) (h : ContainsFunc_Field.known a1) : ∀ args w, (callFunc a1 args).run Try.prog w = .ok (.enter a1 args) w := by
  unfold ContainsFunc_Field.known at h
  rcases h with e | h
  · subst e; exact enters_of Try.func63 (by kernel_rfl) rfl
  rcases h with e | h
  · subst e; exact enters_of Try.func109 (by kernel_rfl) rfl
  cases h
theorem ContainsFunc_Field.pred (k a1 : Nat) (w : World) : PredIs Try.prog a1 #[] (ContainsFunc_Field.p k a1) w := by
  intro W x b hW h
  unfold ContainsFunc_Field.p at h
  split at h
  · rename_i e; subst e; rw [Array.append_empty]; exact (impl_TableOk_1.calls k x.f0 x.f1 x.f2 b W h).mono fun e w2 h2 => ⟨h2.1, below_step hW h2.2⟩
  split at h
  · rename_i e; subst e; rw [Array.append_empty]; exact (impl_HeadOk_1.calls k x.f0 x.f1 x.f2 b W h).mono fun e w2 h2 => ⟨h2.1, below_step hW h2.2⟩
  cases h
set_option maxHeartbeats 4000000 in
set_option maxRecDepth 100000 in
theorem ContainsFunc_Field.calls (k : Nat) (A0 : Option Addr) (c0 : Nat) (l0 : List (S88)) (a1 : Nat) (r : Bool) (w : World) (hr0 : Kd.C k88 w A0 l0.length l0) (hc0 : l0.length ≤ c0) (h : ContainsFunc_Field.f k l0 a1 = some r) :
    Calls Try.prog 62 #[.slice A0 l0.length c0, .func (.func a1) #[] #[]] w fun e w' => e = .returned (.bool r) ∧ Below w.heap.size w w' := by
  unfold ContainsFunc_Field.f at h
  split at h
  case isFalse => cases h
  rename_i hl
  obtain ⟨i, hi, hr⟩ := Option.bind_eq_some_iff.1 h
  obtain rfl := Option.some.inj hr
  exact ContainsFunc_calls a1 #[] _ (ContainsFunc_Field.enters a1 hl.2) A0 c0 _ i w hr0 hc0 (ContainsFunc_Field.pred k a1 w) hi hl.1

end Go.Proofs.Ytlpibelofcabhaa.PFnHeadBack
