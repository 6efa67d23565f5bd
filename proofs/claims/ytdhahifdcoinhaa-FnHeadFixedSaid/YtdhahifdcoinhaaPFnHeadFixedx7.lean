-- WRITTEN BY a turned print (wip/tools of the prover's repo)
import Derived.Test.YtdhahifdcoinhaaPFnHeadFixedx0
import Derived.Test.YtdhahifdcoinhaaPFnHeadFixedx2
import Derived.Test.YtdhahifdcoinhaaPFnHeadFixedx4
import Derived.Test.YtdhahifdcoinhaaPFnHeadFixedx6
namespace Go.Proofs.Ytdhahifdcoinhaa.PFnHeadFixed
open Go.RowKit Go.Proofs.YtdhahifdcoinhaaW.PrintWords Go.Proofs.YtdhahifdcoinhaaW.PrintLast Go.Proofs.YtdhahifdcoinhaaW.PrintMore Go.Proofs.Ytdhahifdcoinhaa.Lm
attribute [local go_sem] max2_int min2_int max_two min_two max_three min_three max_four min_four   -- for this text's walks alone
set_option linter.unusedVariables false
set_option linter.unusedSimpArgs false

/-! ### spec_l11All: function 64 -/
-- thin
def spec_l11All.l0 : Nat → List (S36) → ByteArray → Int → List (S36) → Int → Option ((List (S36)) × Int × ByteArray)
 | 0, _, _, _, _, _ => none
 | k + 1, x1, x6, x7, x355000, x355001 => if x7 < (x1.length : Int) then (if 0 ≤ x7 then ((spec_l11Write.f k x355000 x355001 ((rd_T36 x1 x7).f0) ((rd_T36 x1 x7).f1) ((rd_T36 x1 x7).f2)).bind fun bt357 => (if x6.size + bt357.2.2.size ≤ 9223372036854775807 then (spec_l11All.l0 k x1 (x6 ++ bt357.2.2) (wrap64 (x7 + 1)) bt357.1 bt357.2.1) else (none))) else (none)) else (some (x355000, x355001, x6))
def spec_l11All.f (k : Nat) (l0_0 : List (S36)) (a0_1 : Int) (l1 : List (S36)) : Option ((List (S36)) × Int × ByteArray) := spec_l11All.l0 k l1 (⟨#[]⟩ : ByteArray) 0 l0_0 a0_1
theorem spec_l11All.mono_l : ∀ k, (∀ y0 y1 y2 y3 y4, LeO (spec_l11All.l0 k y0 y1 y2 y3 y4) (spec_l11All.l0 (k + 1) y0 y1 y2 y3 y4))
 | 0 => fun _ _ _ _ _ r h => by simp [spec_l11All.l0] at h
 | k + 1 => by
  have ih0 := spec_l11All.mono_l k
  ·intro y0 y1 y2 y3 y4
   unfold spec_l11All.l0
   have m0 := @spec_l11Write.mono
   exact zm
theorem spec_l11All.mono : ∀ a0 a1 a2 k, LeO (spec_l11All.f k a0 a1 a2) (spec_l11All.f (k + 1) a0 a1 a2) := by
 intro a0 a1 a2 k
 have ih0 := spec_l11All.mono_l k
 unfold spec_l11All.f
 have m0 := @spec_l11Write.mono
 exact zm
def spec_l11All.T5 : Bool × List (List Nat × List Nat) := (true, [([], []), ([], []), ([], []), ([1, 2], [1, 2]), ([3], [3]), ([0, 4], [0, 4]), ([5], [5]), ([6], [6]), ([6], [6]), ([], []), ([9, 7, 5, 0, 1, 2, 3, 4, 5, 6, 7, 9], [7, 9]), ([8, 10, 0, 1, 2, 3, 4, 5, 6, 7, 8, 9, 10], [8])])
def spec_l11All.B5 : List Nat := [0, 0, 0, 6, 14, 31, 63, 127, 127, 0, 767, 2047]
theorem spec_l11All.tab5 : rtab .any (opsOf Try.f64 5) = spec_l11All.T5 := by kernel_rfl
theorem spec_l11All.bits5 : waitsOk spec_l11All.T5.2 spec_l11All.B5 = true := by kernel_rfl
set_option maxHeartbeats 8000000 in
set_option maxRecDepth 100000 in
theorem spec_l11All.calls (k : Nat) (P0_0_ : Nat → Prop) (u9000_ : Value) (l0_0 : List (S36)) (a0_1 : Int) (A1 : Option Addr) (c1 : Nat) (l1 : List (S36)) (r1 : List (S36)) (r2 : Int) (r3 : ByteArray) (w0 w : World) (hB : Below w0.heap.size w0 w) (ho0_0 : Kd.R k36 36 w w0.heap.size P0_0_ u9000_ l0_0) (hr1 : ∀ W_, Kept w W_ (fun k_ => P0_0_ k_) → Kd.C k36 W_ A1 l1.length l1) (hc1 : l1.length ≤ c1) (h : spec_l11All.f k l0_0 a0_1 l1 = some (r1, r2, r3)) :
  Calls Try.prog 64 #[.agg #[u9000_, .int .i64 a0_1], .slice A1 l1.length c1] w fun e w' => ∃ v0_ : Value, e = .returned (.tuple #[.agg #[v0_, .int .i64 r2], .string r3]) ∧ Kd.R k36 36 w' w0.heap.size (fun k_ => (P0_0_ k_ ∨ w.heap.size ≤ k_)) v0_ r1 ∧ Below w0.heap.size w0 w' ∧ Kept w w' (fun k_ => P0_0_ k_) := by
 have hu25 := Try.underlying25
 have hu36 := Try.underlying36
 have HO0_0 := Aside0.mk (show Kd.R k36 36 w w0.heap.size (fun k_ => (P0_0_ k_ ∨ w.heap.size ≤ k_)) u9000_ l0_0 from Kd.R_mono ho0_0 (fun k_ hk => (.inl hk)))
 have HR1 := Aside0.mk hr1
 have HC1 := Aside0.mk hc1
 clear hr1 hc1
 have HK := Aside0.mk (Kept.refl w (fun k_ => P0_0_ k_))
 have HW0 := Aside0.mk hB.size
 have HB := Aside0.mk hB
 clear hB
 have H : (spec_l11All.l0 k l1 (⟨#[]⟩ : ByteArray) 0 l0_0 a0_1) = some (r1, r2, r3) := h
 clear h
 have H' := Aside0.mk H
 clear H
 obtain ⟨Ao3, co3, eo3⟩ := Kd.R_slice HO0_0.out
 subst eo3
 go_enter Try.func64, Try.ntmps64
 go_wp2_with (first | ((with_reducible refine gd 2 rfl ?_); refine bx (N := 2) (cs := #[.slice Ao3 l0_0.length co3, .int .i64 a0_1]) (t := 25) ?_; intro gb354 hg w4 hbox hb; replace HO0_0 := Aside0.mk (Kd.R_below (zr HO0_0) hb); have BK354 := Aside0.mk (hbox); have GW354 := Aside0.mk ((by rw [hg]; exact (by first | exact HK.out.1 | exact (show Kept w _ (fun k_ => P0_0_ k_) from by repeat (first | (with_reducible first | exact HK.out | apply Kept.alloc | apply Kept.drewN | apply Kept.drew) | exact HK.out)).1) : w.heap.size ≤ gb354)); replace HK := Aside0.mk (Kept.below (S := (fun k_ => P0_0_ k_)) (by repeat (first | (with_reducible first | exact HK.out | apply Kept.alloc | apply Kept.drewN | apply Kept.drew) | exact HK.out)) hb); have GE354 := Aside0.mk ((by rw [hg]; exact (below_size (zb HB)) : w0.heap.size ≤ gb354)); replace HB := Aside0.mk (below_step (zb HB) hb); clear hb hbox hg) | ((with_reducible refine gd 4 rfl ?_); refine bx (N := 4) (cs := #[.slice none 0 0, .int .i64 0]) (t := 25) ?_; intro gb355 hg w5 hbox hb; replace HO0_0 := Aside0.mk (Kd.R_below (zr HO0_0) hb); have BK355 := Aside0.mk (hbox); have GW355 := Aside0.mk ((by rw [hg]; exact (by first | exact HK.out.1 | exact (show Kept w _ (fun k_ => P0_0_ k_) from by repeat (first | (with_reducible first | exact HK.out | apply Kept.alloc | apply Kept.drewN | apply Kept.drew | refine Kept.setCell ?_ (.inr GW354.out) _) | exact HK.out)).1) : w.heap.size ≤ gb355)); replace HK := Aside0.mk (Kept.below (S := (fun k_ => P0_0_ k_)) (by repeat (first | (with_reducible first | exact HK.out | apply Kept.alloc | apply Kept.drewN | apply Kept.drew | refine Kept.setCell ?_ (.inr GW354.out) _) | exact HK.out)) hb); have GE355 := Aside0.mk ((by rw [hg]; exact (below_size (zb HB)) : w0.heap.size ≤ gb355)); replace HB := Aside0.mk (below_step (zb HB) hb); obtain ⟨NB354_355, NB355_354⟩ := nb BK354 hg; replace BK354 := kb BK354 hb; clear hb hbox hg))
 go_loopg [6, 7] k (fun kq v6 v7 w' => ∃ (x6_1 : ByteArray) (x7_1 : Int) (x355000_1 : List (S36)) (x355001_1 : Int) (u355000 : Value), v6 = .string x6_1 ∧ v7 = .int .i64 x7_1 ∧ Aside0 (spec_l11All.l0 kq l1 x6_1 x7_1 x355000_1 x355001_1 = some (r1, r2, r3)) ∧ Aside0 (kq ≤ k) ∧ Aside0 (Kd.R k36 36 w' w0.heap.size (fun k_ => (P0_0_ k_ ∨ w.heap.size ≤ k_)) u355000 x355000_1) ∧ Aside0 (w'.heap[gb354]? = some (.cells #[u355000, .int .i64 x355001_1] 25 (0, 0))) ∧ Aside0 (w'.heap[gb355]? = some (.cells #[(.slice none 0 0), .int .i64 0] 25 (0, 0))) ∧ Aside0 (Kept w w' (fun k_ => P0_0_ k_)) ∧ Aside0 (Below w0.heap.size w0 w'))
 case atStart => exact ⟨((⟨#[]⟩ : ByteArray)), (0), (l0_0), (a0_1), (.slice Ao3 l0_0.length co3), zs, zs, H', ⟨Nat.le_refl _⟩, ⟨by exact zr HO0_0⟩, ⟨by exact zk BK354⟩, ⟨by exact zk BK355⟩, ⟨by repeat (first | (with_reducible first | exact HK.out | apply Kept.alloc | apply Kept.drewN | apply Kept.drew | refine Kept.setCell ?_ (.inr GW354.out) _ | refine Kept.setCell ?_ (.inr GW355.out) _) | exact HK.out)⟩, ⟨zb HB⟩⟩
 case round =>
  clear H'
  try clear c1
  try clear p2
  obtain ⟨x6_1, x7_1, x355000_1, x355001_1, u355000, rfl, rfl, HA, HK1, HO_355000, BK354, BK355, HK, HB⟩ := hrel
  cases gk with
  | zero => exact absurd HA.out (by simp [spec_l11All.l0])
  | succ k1 =>
   have H := HA.out
   clear HA
   simp only [spec_l11All.l0] at H
   replace H := sp H
   rcases H with ⟨c6, H⟩ | ⟨c6, H⟩
   ·skip
    have c6b0 := decide_eq_true c6
    clear c6
    by_cases c7 : 0 ≤ x7_1
    ·rw [if_pos c7] at H
     have c7b0 := decide_eq_true c7
     clear c7
     obtain ⟨⟨t357, t360, t361⟩, A8, H⟩ := ob H
     (try dsimp only at H)
     by_cases c9 : x6_1.size + t361.size ≤ 9223372036854775807
     ·rw [if_pos c9] at H
      have c9b0 := eq_true c9
      have c9b1 := decide_eq_true c9
      try have c9b2 : (9223372036854775807 < x6_1.size + t361.size) = False := eq_false (Nat.not_lt.2 c9)
      have H' := Aside0.mk H
      clear H
      obtain ⟨Ao10, co10, eo10⟩ := Kd.R_slice HO_355000.out
      subst eo10
      try go_wp2
      replace HO_355000 := Aside0.mk (Kd.R_drew HO_355000.out)
      replace BK354 := Aside0.mk (blk_drew BK354.out)
      replace BK355 := Aside0.mk (blk_drew BK355.out)
      replace HK := Aside0.mk (Kept.drew HK.out)
      replace HB := Aside0.mk (below_drew1 HB.out)
      have p356 : 0 ≤ (x7_1 : Int) := of_decide_eq_true za
      have q356 : x7_1 < (l1.length : Int) := of_decide_eq_true za
      obtain ⟨ad356, e356, hx356_0, hx356_1, hx356_2⟩ := at_T36 (Kd.C_kept_now HR1.out HK.out) x7_1 p356 q356
      have hw356_2 := hx356_2
      have hw356_1 := hx356_1
      have hw356_0 := hx356_0
      cases e356
      replace p356 := eq_true p356
      replace q356 := eq_true q356
      refine start_ (n := 12) (S := fun w' => w'.cell? ⟨gb354, 0, none⟩ = some (.slice Ao10 x355000_1.length co10) ∧ w'.cell? ⟨gb354, 1, none⟩ = some (.int .i64 x355001_1) ∧ w'.cell? (ad356.add ((x7_1).toNat * 3)) = some (.string ((rd_T36 l1 x7_1).f0)) ∧ w'.cell? ⟨(ad356.add ((x7_1).toNat * 3)).block, (ad356.add ((x7_1).toNat * 3)).off + 1, none⟩ = some (.string ((rd_T36 l1 x7_1).f1)) ∧ w'.cell? ⟨(ad356.add ((x7_1).toNat * 3)).block, (ad356.add ((x7_1).toNat * 3)).off + 2, none⟩ = some (.bool ((rd_T36 l1 x7_1).f2))) (ds := []) #[false, false, false, false, false, false, false, false, false, false, false, false] (by kernel_rfl) rfl rfl ⟨(blk_cell BK354.out 0).trans rfl, (blk_cell BK354.out 1).trans rfl, (by first | (show World.cell? ?W1_ _ = _; obtain ⟨_, e_, q0_, q1_, q2_⟩ := at_T36 (HR1.out ?W1_ (by repeat (first | exact HK.out | apply Kept.alloc | apply Kept.drewN | apply Kept.drew | refine Kept.setCell ?_ (.inr GW362.out) _ | refine Kept.setCell ?_ (.inr GW362.out) _))) x7_1 (of_eq_true p356) (of_eq_true q356); cases e_; exact q0_) | (obtain ⟨_, e_, q0_, q1_, q2_⟩ := at_T36 (HR1.out _ (by repeat (first | exact HK.out | apply Kept.alloc | apply Kept.drewN | apply Kept.drew | refine Kept.setCell ?_ (.inr GW362.out) _ | refine Kept.setCell ?_ (.inr GW362.out) _))) x7_1 (of_eq_true p356) (of_eq_true q356); cases e_; exact q0_)), (by first | (show World.cell? ?W2_ _ = _; obtain ⟨_, e_, q0_, q1_, q2_⟩ := at_T36 (HR1.out ?W2_ (by repeat (first | exact HK.out | apply Kept.alloc | apply Kept.drewN | apply Kept.drew | refine Kept.setCell ?_ (.inr GW362.out) _ | refine Kept.setCell ?_ (.inr GW362.out) _))) x7_1 (of_eq_true p356) (of_eq_true q356); cases e_; exact q1_) | (obtain ⟨_, e_, q0_, q1_, q2_⟩ := at_T36 (HR1.out _ (by repeat (first | exact HK.out | apply Kept.alloc | apply Kept.drewN | apply Kept.drew | refine Kept.setCell ?_ (.inr GW362.out) _ | refine Kept.setCell ?_ (.inr GW362.out) _))) x7_1 (of_eq_true p356) (of_eq_true q356); cases e_; exact q1_)), (by first | (show World.cell? ?W3_ _ = _; obtain ⟨_, e_, q0_, q1_, q2_⟩ := at_T36 (HR1.out ?W3_ (by repeat (first | exact HK.out | apply Kept.alloc | apply Kept.drewN | apply Kept.drew | refine Kept.setCell ?_ (.inr GW362.out) _ | refine Kept.setCell ?_ (.inr GW362.out) _))) x7_1 (of_eq_true p356) (of_eq_true q356); cases e_; exact q2_) | (obtain ⟨_, e_, q0_, q1_, q2_⟩ := at_T36 (HR1.out _ (by repeat (first | exact HK.out | apply Kept.alloc | apply Kept.drewN | apply Kept.drew | refine Kept.setCell ?_ (.inr GW362.out) _ | refine Kept.setCell ?_ (.inr GW362.out) _))) x7_1 (of_eq_true p356) (of_eq_true q356); cases e_; exact q2_))⟩ (fun hHeld => ?_); refine with_tabW spec_l11All.tab5 spec_l11All.bits5 (fun HT_ HW_ => ?_)
      generalize wr.drew = w11 at HO_355000 BK354 BK355 HK HB hx356_0 hx356_1 hx356_2 hHeld ⊢
      refine pu 1 (some 18) (bm 12 2) rfl rfl ?_
      refine pu 2 (some 19) (bm 12 6) rfl rfl ?_
      refine pu 3 (some 20) (bm 12 14) rfl rfl ?_
      refine tk 0 (some 17) (bm 12 15) rfl rfl hHeld ?_
      refine tk 4 (some 21) (bm 12 31) rfl rfl hHeld ?_
      refine join_ (σ := Value × Nat) 2 #[true, true, true, true, true, true, true, true, true, true, false, false] (fun s_ => [(22, .tuple #[.agg #[s_.1, .int .i64 t360], .string t361]), (8, .pointer (some ⟨s_.2, 0, none⟩)), (16, .tuple #[.agg #[s_.1, .int .i64 t360], .string t361]), (23, .agg #[s_.1, .int .i64 t360]), (24, .string t361)]) (fun s_ w' => (w'.cell? ⟨gb354, 0, none⟩ = some (.slice Ao10 x355000_1.length co10) ∧ w'.cell? ⟨gb354, 1, none⟩ = some (.int .i64 x355001_1) ∧ w'.cell? (ad356.add ((x7_1).toNat * 3)) = some (.string ((rd_T36 l1 x7_1).f0)) ∧ w'.cell? ⟨(ad356.add ((x7_1).toNat * 3)).block, (ad356.add ((x7_1).toNat * 3)).off + 1, none⟩ = some (.string ((rd_T36 l1 x7_1).f1)) ∧ w'.cell? ⟨(ad356.add ((x7_1).toNat * 3)).block, (ad356.add ((x7_1).toNat * 3)).off + 2, none⟩ = some (.bool ((rd_T36 l1 x7_1).f2))) ∧ (Kd.R k36 36 w' w0.heap.size (fun k_ => (P0_0_ k_ ∨ w.heap.size ≤ k_)) s_.1 t357) ∧ (w'.heap[gb354]? = some (.cells #[.slice Ao10 x355000_1.length co10, .int .i64 x355001_1] 25 (0, 0))) ∧ (w'.heap[gb355]? = some (.cells #[.slice none 0 0, .int .i64 0] 25 (0, 0))) ∧ (w'.heap[s_.2]? = some (.cells #[.slice none 0 0, .int .i64 0] 25 (0, 0))) ∧ (w.heap.size ≤ s_.2) ∧ (w0.heap.size ≤ s_.2) ∧ (gb354 ≠ s_.2) ∧ (s_.2 ≠ gb354) ∧ (gb355 ≠ s_.2) ∧ (s_.2 ≠ gb355) ∧ (Kept w w' (fun k_ => P0_0_ k_)) ∧ (Below w0.heap.size w0 w')) ?_ ?_
      rotate_left
      ·intro hCont
       refine two_ (i := 5) (j := 9) (Ni := some 22) (Nj := some 8) #[true, true, true, true, true, true, false, false, false, false, false, false] #[true, true, true, true, true, false, false, false, false, true, false, false] rfl rfl rfl rfl (two_of HT_.out (by kernel_rfl)) (by decide) (by decide) (fun K hK => ?_) (fun K hK => ?_)
       ·skip
        refine gs Try.func80 #[.agg #[.slice Ao10 x355000_1.length co10, .int .i64 x355001_1], .agg #[.string ((rd_T36 l1 x7_1).f0), .string ((rd_T36 l1 x7_1).f1), .bool ((rd_T36 l1 x7_1).f2)]] ?_
        with_reducible refine (spec_l11Write.calls k1 (fun k_ => some k_ = (.slice Ao10 x355000_1.length co10 : Value).ownBlock) (.slice Ao10 x355000_1.length co10) x355000_1 x355001_1 ((rd_T36 l1 x7_1).f0) ((rd_T36 l1 x7_1).f1) ((rd_T36 l1 x7_1).f2) t357 t360 t361 w0 _ ?side1 ?side2 A8.out).mono ?_
        (case side1 => exact zb HB)
        (case side2 => exact Kd.R_tight rfl HO_355000.out)
        rintro e w12 ⟨v358, rfl, ho0, hb, hkp⟩
        refine ⟨_, rfl, ?_⟩
        replace BK354 := Aside0.mk (blk_kept (zk BK354) hkp (fun hs_ => (fun e_ => (Kd.R_ne HO_355000.out BK354.out (by decide)) e_) hs_))
        replace BK355 := Aside0.mk (blk_kept (zk BK355) hkp (fun hs_ => (fun e_ => (Kd.R_ne HO_355000.out BK355.out (by decide)) e_) hs_))
        have HO359 := Aside0.mk (Kd.R_mono (ok' := fun k_ => (P0_0_ k_ ∨ w.heap.size ≤ k_)) ho0 (fun k_ hk_ => Or.elim hk_ (fun hs_ => (HO_355000.out.1 k_ (hs_).symm)) (fun hn_ => (.inr (Nat.le_trans (by first | exact HK.out.1 | exact (show Kept w _ (fun k_ => P0_0_ k_) from by repeat (first | (with_reducible first | exact HK.out | apply Kept.alloc | apply Kept.drewN | apply Kept.drew | refine Kept.setCell ?_ (.inr GW354.out) _ | refine Kept.setCell ?_ (.inr GW355.out) _) | exact HK.out)).1) hn_)))))
        replace HK := Aside0.mk (Kept.then_ (S := (fun k_ => P0_0_ k_)) (by repeat (first | (with_reducible first | exact HK.out | apply Kept.alloc | apply Kept.drewN | apply Kept.drew | refine Kept.setCell ?_ (.inr GW354.out) _ | refine Kept.setCell ?_ (.inr GW355.out) _) | exact HK.out)) hkp (fun k_ hs_ => (fun e_ => (HO_355000.out.1 k_ e_.symm)) hs_))
        replace HB := Aside0.mk (hb)
        clear HO_355000
        (try clear hb)
        (try clear hkp)
        (try clear ho0)
        refine hK.out _ _ ⟨(blk_cell BK354.out 0).trans rfl, (blk_cell BK354.out 1).trans rfl, (by first | (show World.cell? ?W4_ _ = _; obtain ⟨_, e_, q0_, q1_, q2_⟩ := at_T36 (HR1.out ?W4_ (by repeat (first | exact HK.out | apply Kept.alloc | apply Kept.drewN | apply Kept.drew | refine Kept.setCell ?_ (.inr GW362.out) _ | refine Kept.setCell ?_ (.inr GW362.out) _))) x7_1 (of_eq_true p356) (of_eq_true q356); cases e_; exact q0_) | (obtain ⟨_, e_, q0_, q1_, q2_⟩ := at_T36 (HR1.out _ (by repeat (first | exact HK.out | apply Kept.alloc | apply Kept.drewN | apply Kept.drew | refine Kept.setCell ?_ (.inr GW362.out) _ | refine Kept.setCell ?_ (.inr GW362.out) _))) x7_1 (of_eq_true p356) (of_eq_true q356); cases e_; exact q0_)), (by first | (show World.cell? ?W5_ _ = _; obtain ⟨_, e_, q0_, q1_, q2_⟩ := at_T36 (HR1.out ?W5_ (by repeat (first | exact HK.out | apply Kept.alloc | apply Kept.drewN | apply Kept.drew | refine Kept.setCell ?_ (.inr GW362.out) _ | refine Kept.setCell ?_ (.inr GW362.out) _))) x7_1 (of_eq_true p356) (of_eq_true q356); cases e_; exact q1_) | (obtain ⟨_, e_, q0_, q1_, q2_⟩ := at_T36 (HR1.out _ (by repeat (first | exact HK.out | apply Kept.alloc | apply Kept.drewN | apply Kept.drew | refine Kept.setCell ?_ (.inr GW362.out) _ | refine Kept.setCell ?_ (.inr GW362.out) _))) x7_1 (of_eq_true p356) (of_eq_true q356); cases e_; exact q1_)), (by first | (show World.cell? ?W6_ _ = _; obtain ⟨_, e_, q0_, q1_, q2_⟩ := at_T36 (HR1.out ?W6_ (by repeat (first | exact HK.out | apply Kept.alloc | apply Kept.drewN | apply Kept.drew | refine Kept.setCell ?_ (.inr GW362.out) _ | refine Kept.setCell ?_ (.inr GW362.out) _))) x7_1 (of_eq_true p356) (of_eq_true q356); cases e_; exact q2_) | (obtain ⟨_, e_, q0_, q1_, q2_⟩ := at_T36 (HR1.out _ (by repeat (first | exact HK.out | apply Kept.alloc | apply Kept.drewN | apply Kept.drew | refine Kept.setCell ?_ (.inr GW362.out) _ | refine Kept.setCell ?_ (.inr GW362.out) _))) x7_1 (of_eq_true p356) (of_eq_true q356); cases e_; exact q2_))⟩ (fun hHeld => ?_)
        clear hK K
        refine nm ?_
        refine pu 6 (some 16) (bm 12 127) rfl rfl ?_
        refine pu 7 (some 23) (bm 12 255) rfl rfl ?_
        refine pu 8 (some 24) (bm 12 511) rfl rfl ?_
        refine one_ (i := 9) (N := some 8) (bm 12 1023) rfl rfl (one_of HT_.out (by kernel_rfl)) (by decide) (fun K hK => ?_)
        refine box_step ?hg (N := 8) ?hd (cs := #[.slice none 0 0, .int .i64 0]) (t := 25) ?hr ?_; (case hd => rfl); (case hg => rfl); (case hr => first | (go_simp; done) | (go_simp; rfl))
        intro gb362 hg w13 hbox hb
        replace HO359 := Aside0.mk (Kd.R_below (zr HO359) hb)
        have BK362 := Aside0.mk (hbox)
        have GW362 := Aside0.mk ((by rw [hg]; exact (by first | exact HK.out.1 | exact (show Kept w _ (fun k_ => P0_0_ k_) from by repeat (first | (with_reducible first | exact HK.out | apply Kept.alloc | apply Kept.drewN | apply Kept.drew | refine Kept.setCell ?_ (.inr GW354.out) _ | refine Kept.setCell ?_ (.inr GW355.out) _) | exact HK.out)).1) : w.heap.size ≤ gb362))
        replace HK := Aside0.mk (Kept.below (S := (fun k_ => P0_0_ k_)) (by repeat (first | (with_reducible first | exact HK.out | apply Kept.alloc | apply Kept.drewN | apply Kept.drew | refine Kept.setCell ?_ (.inr GW354.out) _ | refine Kept.setCell ?_ (.inr GW355.out) _) | exact HK.out)) hb)
        have GE362 := Aside0.mk ((by rw [hg]; exact (below_size (zb HB)) : w0.heap.size ≤ gb362))
        replace HB := Aside0.mk (below_step (zb HB) hb)
        have NB354_362 := Aside0.mk ((by rw [hg]; exact Nat.ne_of_lt (blk_lt (zk BK354)) : gb354 ≠ gb362))
        have NB362_354 := Aside0.mk ((by rw [hg]; exact Nat.ne_of_gt (blk_lt (zk BK354)) : gb362 ≠ gb354))
        replace BK354 := kb BK354 hb
        have NB355_362 := Aside0.mk ((by rw [hg]; exact Nat.ne_of_lt (blk_lt (zk BK355)) : gb355 ≠ gb362))
        have NB362_355 := Aside0.mk ((by rw [hg]; exact Nat.ne_of_gt (blk_lt (zk BK355)) : gb362 ≠ gb355))
        replace BK355 := kb BK355 hb
        clear hb hbox hg
        refine hK.out _ _ ⟨(blk_cell BK354.out 0).trans rfl, (blk_cell BK354.out 1).trans rfl, (by first | (show World.cell? ?W7_ _ = _; obtain ⟨_, e_, q0_, q1_, q2_⟩ := at_T36 (HR1.out ?W7_ (by repeat (first | exact HK.out | apply Kept.alloc | apply Kept.drewN | apply Kept.drew | refine Kept.setCell ?_ (.inr GW362.out) _ | refine Kept.setCell ?_ (.inr GW362.out) _))) x7_1 (of_eq_true p356) (of_eq_true q356); cases e_; exact q0_) | (obtain ⟨_, e_, q0_, q1_, q2_⟩ := at_T36 (HR1.out _ (by repeat (first | exact HK.out | apply Kept.alloc | apply Kept.drewN | apply Kept.drew | refine Kept.setCell ?_ (.inr GW362.out) _ | refine Kept.setCell ?_ (.inr GW362.out) _))) x7_1 (of_eq_true p356) (of_eq_true q356); cases e_; exact q0_)), (by first | (show World.cell? ?W8_ _ = _; obtain ⟨_, e_, q0_, q1_, q2_⟩ := at_T36 (HR1.out ?W8_ (by repeat (first | exact HK.out | apply Kept.alloc | apply Kept.drewN | apply Kept.drew | refine Kept.setCell ?_ (.inr GW362.out) _ | refine Kept.setCell ?_ (.inr GW362.out) _))) x7_1 (of_eq_true p356) (of_eq_true q356); cases e_; exact q1_) | (obtain ⟨_, e_, q0_, q1_, q2_⟩ := at_T36 (HR1.out _ (by repeat (first | exact HK.out | apply Kept.alloc | apply Kept.drewN | apply Kept.drew | refine Kept.setCell ?_ (.inr GW362.out) _ | refine Kept.setCell ?_ (.inr GW362.out) _))) x7_1 (of_eq_true p356) (of_eq_true q356); cases e_; exact q1_)), (by first | (show World.cell? ?W9_ _ = _; obtain ⟨_, e_, q0_, q1_, q2_⟩ := at_T36 (HR1.out ?W9_ (by repeat (first | exact HK.out | apply Kept.alloc | apply Kept.drewN | apply Kept.drew | refine Kept.setCell ?_ (.inr GW362.out) _ | refine Kept.setCell ?_ (.inr GW362.out) _))) x7_1 (of_eq_true p356) (of_eq_true q356); cases e_; exact q2_) | (obtain ⟨_, e_, q0_, q1_, q2_⟩ := at_T36 (HR1.out _ (by repeat (first | exact HK.out | apply Kept.alloc | apply Kept.drewN | apply Kept.drew | refine Kept.setCell ?_ (.inr GW362.out) _ | refine Kept.setCell ?_ (.inr GW362.out) _))) x7_1 (of_eq_true p356) (of_eq_true q356); cases e_; exact q2_))⟩ (fun hHeld => ?_)
        clear hK K
        refine nm ?_
        exact norm_ (by simp only [putAll, Act.put, s1, s2, s3]) (hCont (v358, gb362) _ ⟨hHeld, (zr HO359), (zk BK354), (zk BK355), (zk BK362), GW362.out, GE362.out, NB354_362.out, NB362_354.out, NB355_362.out, NB362_355.out, (by repeat (first | (with_reducible first | exact HK.out | apply Kept.alloc | apply Kept.drewN | apply Kept.drew | refine Kept.setCell ?_ (.inr GW354.out) _ | refine Kept.setCell ?_ (.inr GW355.out) _ | refine Kept.setCell ?_ (.inr GW362.out) _) | exact HK.out)), (zb HB)⟩)
       ·skip
        refine box_step ?hg (N := 8) ?hd (cs := #[.slice none 0 0, .int .i64 0]) (t := 25) ?hr ?_; (case hd => rfl); (case hg => rfl); (case hr => first | (go_simp; done) | (go_simp; rfl))
        intro gb362 hg w12 hbox hb
        replace HO_355000 := Aside0.mk (Kd.R_below (zr HO_355000) hb)
        have BK362 := Aside0.mk (hbox)
        have GW362 := Aside0.mk ((by rw [hg]; exact (by first | exact HK.out.1 | exact (show Kept w _ (fun k_ => P0_0_ k_) from by repeat (first | (with_reducible first | exact HK.out | apply Kept.alloc | apply Kept.drewN | apply Kept.drew | refine Kept.setCell ?_ (.inr GW354.out) _ | refine Kept.setCell ?_ (.inr GW355.out) _) | exact HK.out)).1) : w.heap.size ≤ gb362))
        replace HK := Aside0.mk (Kept.below (S := (fun k_ => P0_0_ k_)) (by repeat (first | (with_reducible first | exact HK.out | apply Kept.alloc | apply Kept.drewN | apply Kept.drew | refine Kept.setCell ?_ (.inr GW354.out) _ | refine Kept.setCell ?_ (.inr GW355.out) _) | exact HK.out)) hb)
        have GE362 := Aside0.mk ((by rw [hg]; exact (below_size (zb HB)) : w0.heap.size ≤ gb362))
        replace HB := Aside0.mk (below_step (zb HB) hb)
        have NB354_362 := Aside0.mk ((by rw [hg]; exact Nat.ne_of_lt (blk_lt (zk BK354)) : gb354 ≠ gb362))
        have NB362_354 := Aside0.mk ((by rw [hg]; exact Nat.ne_of_gt (blk_lt (zk BK354)) : gb362 ≠ gb354))
        replace BK354 := kb BK354 hb
        have NB355_362 := Aside0.mk ((by rw [hg]; exact Nat.ne_of_lt (blk_lt (zk BK355)) : gb355 ≠ gb362))
        have NB362_355 := Aside0.mk ((by rw [hg]; exact Nat.ne_of_gt (blk_lt (zk BK355)) : gb362 ≠ gb355))
        replace BK355 := kb BK355 hb
        clear hb hbox hg
        refine hK.out _ _ ⟨(blk_cell BK354.out 0).trans rfl, (blk_cell BK354.out 1).trans rfl, (by first | (show World.cell? ?W10_ _ = _; obtain ⟨_, e_, q0_, q1_, q2_⟩ := at_T36 (HR1.out ?W10_ (by repeat (first | exact HK.out | apply Kept.alloc | apply Kept.drewN | apply Kept.drew | refine Kept.setCell ?_ (.inr GW362.out) _ | refine Kept.setCell ?_ (.inr GW362.out) _))) x7_1 (of_eq_true p356) (of_eq_true q356); cases e_; exact q0_) | (obtain ⟨_, e_, q0_, q1_, q2_⟩ := at_T36 (HR1.out _ (by repeat (first | exact HK.out | apply Kept.alloc | apply Kept.drewN | apply Kept.drew | refine Kept.setCell ?_ (.inr GW362.out) _ | refine Kept.setCell ?_ (.inr GW362.out) _))) x7_1 (of_eq_true p356) (of_eq_true q356); cases e_; exact q0_)), (by first | (show World.cell? ?W11_ _ = _; obtain ⟨_, e_, q0_, q1_, q2_⟩ := at_T36 (HR1.out ?W11_ (by repeat (first | exact HK.out | apply Kept.alloc | apply Kept.drewN | apply Kept.drew | refine Kept.setCell ?_ (.inr GW362.out) _ | refine Kept.setCell ?_ (.inr GW362.out) _))) x7_1 (of_eq_true p356) (of_eq_true q356); cases e_; exact q1_) | (obtain ⟨_, e_, q0_, q1_, q2_⟩ := at_T36 (HR1.out _ (by repeat (first | exact HK.out | apply Kept.alloc | apply Kept.drewN | apply Kept.drew | refine Kept.setCell ?_ (.inr GW362.out) _ | refine Kept.setCell ?_ (.inr GW362.out) _))) x7_1 (of_eq_true p356) (of_eq_true q356); cases e_; exact q1_)), (by first | (show World.cell? ?W12_ _ = _; obtain ⟨_, e_, q0_, q1_, q2_⟩ := at_T36 (HR1.out ?W12_ (by repeat (first | exact HK.out | apply Kept.alloc | apply Kept.drewN | apply Kept.drew | refine Kept.setCell ?_ (.inr GW362.out) _ | refine Kept.setCell ?_ (.inr GW362.out) _))) x7_1 (of_eq_true p356) (of_eq_true q356); cases e_; exact q2_) | (obtain ⟨_, e_, q0_, q1_, q2_⟩ := at_T36 (HR1.out _ (by repeat (first | exact HK.out | apply Kept.alloc | apply Kept.drewN | apply Kept.drew | refine Kept.setCell ?_ (.inr GW362.out) _ | refine Kept.setCell ?_ (.inr GW362.out) _))) x7_1 (of_eq_true p356) (of_eq_true q356); cases e_; exact q2_))⟩ (fun hHeld => ?_)
        clear hK K
        refine nm ?_
        refine one_ (i := 5) (N := some 22) (bm 12 575) rfl rfl (one_of HT_.out (by kernel_rfl)) (by decide) (fun K hK => ?_)
        refine gs Try.func80 #[.agg #[.slice Ao10 x355000_1.length co10, .int .i64 x355001_1], .agg #[.string ((rd_T36 l1 x7_1).f0), .string ((rd_T36 l1 x7_1).f1), .bool ((rd_T36 l1 x7_1).f2)]] ?_
        with_reducible refine (spec_l11Write.calls k1 (fun k_ => some k_ = (.slice Ao10 x355000_1.length co10 : Value).ownBlock) (.slice Ao10 x355000_1.length co10) x355000_1 x355001_1 ((rd_T36 l1 x7_1).f0) ((rd_T36 l1 x7_1).f1) ((rd_T36 l1 x7_1).f2) t357 t360 t361 w0 _ ?side1 ?side2 A8.out).mono ?_
        (case side1 => exact zb HB)
        (case side2 => exact Kd.R_tight rfl HO_355000.out)
        rintro e w13 ⟨v358, rfl, ho0, hb, hkp⟩
        refine ⟨_, rfl, ?_⟩
        replace BK354 := Aside0.mk (blk_kept (zk BK354) hkp (fun hs_ => (fun e_ => (Kd.R_ne HO_355000.out BK354.out (by decide)) e_) hs_))
        replace BK355 := Aside0.mk (blk_kept (zk BK355) hkp (fun hs_ => (fun e_ => (Kd.R_ne HO_355000.out BK355.out (by decide)) e_) hs_))
        replace BK362 := Aside0.mk (blk_kept (zk BK362) hkp (fun hs_ => (fun e_ => (Kd.R_ne HO_355000.out BK362.out (by decide)) e_) hs_))
        have HO359 := Aside0.mk (Kd.R_mono (ok' := fun k_ => (P0_0_ k_ ∨ w.heap.size ≤ k_)) ho0 (fun k_ hk_ => Or.elim hk_ (fun hs_ => (HO_355000.out.1 k_ (hs_).symm)) (fun hn_ => (.inr (Nat.le_trans (by first | exact HK.out.1 | exact (show Kept w _ (fun k_ => P0_0_ k_) from by repeat (first | (with_reducible first | exact HK.out | apply Kept.alloc | apply Kept.drewN | apply Kept.drew | refine Kept.setCell ?_ (.inr GW354.out) _ | refine Kept.setCell ?_ (.inr GW355.out) _ | refine Kept.setCell ?_ (.inr GW362.out) _) | exact HK.out)).1) hn_)))))
        replace HK := Aside0.mk (Kept.then_ (S := (fun k_ => P0_0_ k_)) (by repeat (first | (with_reducible first | exact HK.out | apply Kept.alloc | apply Kept.drewN | apply Kept.drew | refine Kept.setCell ?_ (.inr GW354.out) _ | refine Kept.setCell ?_ (.inr GW355.out) _ | refine Kept.setCell ?_ (.inr GW362.out) _) | exact HK.out)) hkp (fun k_ hs_ => (fun e_ => (HO_355000.out.1 k_ e_.symm)) hs_))
        replace HB := Aside0.mk (hb)
        clear HO_355000
        (try clear hb)
        (try clear hkp)
        (try clear ho0)
        refine hK.out _ _ ⟨(blk_cell BK354.out 0).trans rfl, (blk_cell BK354.out 1).trans rfl, (by first | (show World.cell? ?W13_ _ = _; obtain ⟨_, e_, q0_, q1_, q2_⟩ := at_T36 (HR1.out ?W13_ (by repeat (first | exact HK.out | apply Kept.alloc | apply Kept.drewN | apply Kept.drew | refine Kept.setCell ?_ (.inr GW362.out) _ | refine Kept.setCell ?_ (.inr GW362.out) _))) x7_1 (of_eq_true p356) (of_eq_true q356); cases e_; exact q0_) | (obtain ⟨_, e_, q0_, q1_, q2_⟩ := at_T36 (HR1.out _ (by repeat (first | exact HK.out | apply Kept.alloc | apply Kept.drewN | apply Kept.drew | refine Kept.setCell ?_ (.inr GW362.out) _ | refine Kept.setCell ?_ (.inr GW362.out) _))) x7_1 (of_eq_true p356) (of_eq_true q356); cases e_; exact q0_)), (by first | (show World.cell? ?W14_ _ = _; obtain ⟨_, e_, q0_, q1_, q2_⟩ := at_T36 (HR1.out ?W14_ (by repeat (first | exact HK.out | apply Kept.alloc | apply Kept.drewN | apply Kept.drew | refine Kept.setCell ?_ (.inr GW362.out) _ | refine Kept.setCell ?_ (.inr GW362.out) _))) x7_1 (of_eq_true p356) (of_eq_true q356); cases e_; exact q1_) | (obtain ⟨_, e_, q0_, q1_, q2_⟩ := at_T36 (HR1.out _ (by repeat (first | exact HK.out | apply Kept.alloc | apply Kept.drewN | apply Kept.drew | refine Kept.setCell ?_ (.inr GW362.out) _ | refine Kept.setCell ?_ (.inr GW362.out) _))) x7_1 (of_eq_true p356) (of_eq_true q356); cases e_; exact q1_)), (by first | (show World.cell? ?W15_ _ = _; obtain ⟨_, e_, q0_, q1_, q2_⟩ := at_T36 (HR1.out ?W15_ (by repeat (first | exact HK.out | apply Kept.alloc | apply Kept.drewN | apply Kept.drew | refine Kept.setCell ?_ (.inr GW362.out) _ | refine Kept.setCell ?_ (.inr GW362.out) _))) x7_1 (of_eq_true p356) (of_eq_true q356); cases e_; exact q2_) | (obtain ⟨_, e_, q0_, q1_, q2_⟩ := at_T36 (HR1.out _ (by repeat (first | exact HK.out | apply Kept.alloc | apply Kept.drewN | apply Kept.drew | refine Kept.setCell ?_ (.inr GW362.out) _ | refine Kept.setCell ?_ (.inr GW362.out) _))) x7_1 (of_eq_true p356) (of_eq_true q356); cases e_; exact q2_))⟩ (fun hHeld => ?_)
        clear hK K
        refine nm ?_
        refine pu 6 (some 16) (bm 12 639) rfl rfl ?_
        refine pu 7 (some 23) (bm 12 767) rfl rfl ?_
        refine pu 8 (some 24) (bm 12 1023) rfl rfl ?_
        exact norm_ (by simp only [putAll, Act.put, s1, s2, s3]) (hCont (v358, gb362) _ ⟨hHeld, (zr HO359), (zk BK354), (zk BK355), (zk BK362), GW362.out, GE362.out, NB354_362.out, NB362_354.out, NB355_362.out, NB362_355.out, (by repeat (first | (with_reducible first | exact HK.out | apply Kept.alloc | apply Kept.drewN | apply Kept.drew | refine Kept.setCell ?_ (.inr GW354.out) _ | refine Kept.setCell ?_ (.inr GW355.out) _ | refine Kept.setCell ?_ (.inr GW362.out) _) | exact HK.out)), (zb HB)⟩)
      rintro ⟨v358, gb362⟩ w14 ⟨hS_, h0_, h1_, h2_, h3_, h4_, h5_, h6_, h7_, h8_, h9_, h10_, h11_⟩
      have n0_ : Aside0 (Kd.R k36 36 w14 w0.heap.size (fun k_ => (P0_0_ k_ ∨ w.heap.size ≤ k_)) v358 t357) := ⟨h0_⟩
      have n1_ : Aside0 (w14.heap[gb354]? = some (.cells #[.slice Ao10 x355000_1.length co10, .int .i64 x355001_1] 25 (0, 0))) := ⟨h1_⟩
      have n2_ : Aside0 (w14.heap[gb355]? = some (.cells #[.slice none 0 0, .int .i64 0] 25 (0, 0))) := ⟨h2_⟩
      have n3_ : Aside0 (w14.heap[gb362]? = some (.cells #[.slice none 0 0, .int .i64 0] 25 (0, 0))) := ⟨h3_⟩
      have n4_ : Aside0 (w.heap.size ≤ gb362) := ⟨h4_⟩
      have n5_ : Aside0 (w0.heap.size ≤ gb362) := ⟨h5_⟩
      have n6_ : Aside0 (gb354 ≠ gb362) := ⟨h6_⟩
      have n7_ : Aside0 (gb362 ≠ gb354) := ⟨h7_⟩
      have n8_ : Aside0 (gb355 ≠ gb362) := ⟨h8_⟩
      have n9_ : Aside0 (gb362 ≠ gb355) := ⟨h9_⟩
      have n10_ : Aside0 (Kept w w14 (fun k_ => P0_0_ k_)) := ⟨h10_⟩
      have n11_ : Aside0 (Below w0.heap.size w0 w14) := ⟨h11_⟩
      clear HO_355000
      clear BK354
      clear BK355
      clear HK
      clear HB
      clear h0_ h1_ h2_ h3_ h4_ h5_ h6_ h7_ h8_ h9_ h10_ h11_
      have HO359 := n0_
      have BK354 := n1_
      have BK355 := n2_
      have BK362 := n3_
      have GW362 := n4_
      have GE362 := n5_
      have NB354_362 := n6_
      have NB362_354 := n7_
      have NB355_362 := n8_
      have NB362_355 := n9_
      have HK := n10_
      have HB := n11_
      clear n0_ n1_ n2_ n3_ n4_ n5_ n6_ n7_ n8_ n9_ n10_ n11_
      have hHeld : w14.cell? ⟨gb354, 0, none⟩ = some (.slice Ao10 x355000_1.length co10) ∧ w14.cell? ⟨gb354, 1, none⟩ = some (.int .i64 x355001_1) ∧ w14.cell? (ad356.add ((x7_1).toNat * 3)) = some (.string ((rd_T36 l1 x7_1).f0)) ∧ w14.cell? ⟨(ad356.add ((x7_1).toNat * 3)).block, (ad356.add ((x7_1).toNat * 3)).off + 1, none⟩ = some (.string ((rd_T36 l1 x7_1).f1)) ∧ w14.cell? ⟨(ad356.add ((x7_1).toNat * 3)).block, (ad356.add ((x7_1).toNat * 3)).off + 2, none⟩ = some (.bool ((rd_T36 l1 x7_1).f2)) := hS_
      obtain ⟨Ao15, co15, eo15⟩ := Kd.R_slice HO359.out
      (first | subst eo15 | (injection eo15 with f1_ f2_ f3_; have f4_ := f1_.symm; have f5_ := f3_.symm; clear f1_ f2_ f3_; subst f4_; subst f5_))
      refine norm_ (a' := ?_) ?_ ?_
      rotate_left
      ·simp only [putAll, Act.put, s1, s2, s3]
       rfl
      refine one_ (i := 10) (N := none) (bm 12 2047) rfl rfl (one_of HT_.out (by kernel_rfl)) (by decide) (fun K hK => ?_)
      have hs16 : w14.cell? ⟨gb362, 0, none⟩ = some (.slice none 0 0) := (blk_cell BK362.out 0).trans rfl
      have hfs16 := blk_frozen BK362.out 0
      have hns16_0 := NB354_362.out
      have hns16_1 := NB355_362.out
      have hms16_0 := NB362_354.out
      have hms16_1 := NB362_355.out
      have hs17 : w14.cell? ⟨gb362, 1, none⟩ = some (.int .i64 0) := (blk_cell BK362.out 1).trans rfl
      have hfs17 := blk_frozen BK362.out 1
      have hns17_0 := NB354_362.out
      have hns17_1 := NB355_362.out
      have hms17_0 := NB362_354.out
      have hms17_1 := NB362_355.out
      refine skip_ (w1 := ?_) (by rfl) rfl ?_ ?_
      rotate_left
      ·go_simp
       rfl
      refine hK.out _ _ ⟨((cell_far (p := ⟨gb362, _, none⟩) NB354_362.out _).trans (((cell_far (p := ⟨gb362, _, none⟩) NB354_362.out _).trans (hHeld.1)))), ((cell_far (p := ⟨gb362, _, none⟩) NB354_362.out _).trans (((cell_far (p := ⟨gb362, _, none⟩) NB354_362.out _).trans (hHeld.2.1)))), (by first | (show World.cell? ?W16_ _ = _; obtain ⟨_, e_, q0_, q1_, q2_⟩ := at_T36 (HR1.out ?W16_ (by repeat (first | exact HK.out | apply Kept.alloc | apply Kept.drewN | apply Kept.drew | refine Kept.setCell ?_ (.inr GW362.out) _ | refine Kept.setCell ?_ (.inr GW362.out) _))) x7_1 (of_eq_true p356) (of_eq_true q356); cases e_; exact q0_) | (obtain ⟨_, e_, q0_, q1_, q2_⟩ := at_T36 (HR1.out _ (by repeat (first | exact HK.out | apply Kept.alloc | apply Kept.drewN | apply Kept.drew | refine Kept.setCell ?_ (.inr GW362.out) _ | refine Kept.setCell ?_ (.inr GW362.out) _))) x7_1 (of_eq_true p356) (of_eq_true q356); cases e_; exact q0_)), (by first | (show World.cell? ?W17_ _ = _; obtain ⟨_, e_, q0_, q1_, q2_⟩ := at_T36 (HR1.out ?W17_ (by repeat (first | exact HK.out | apply Kept.alloc | apply Kept.drewN | apply Kept.drew | refine Kept.setCell ?_ (.inr GW362.out) _ | refine Kept.setCell ?_ (.inr GW362.out) _))) x7_1 (of_eq_true p356) (of_eq_true q356); cases e_; exact q1_) | (obtain ⟨_, e_, q0_, q1_, q2_⟩ := at_T36 (HR1.out _ (by repeat (first | exact HK.out | apply Kept.alloc | apply Kept.drewN | apply Kept.drew | refine Kept.setCell ?_ (.inr GW362.out) _ | refine Kept.setCell ?_ (.inr GW362.out) _))) x7_1 (of_eq_true p356) (of_eq_true q356); cases e_; exact q1_)), (by first | (show World.cell? ?W18_ _ = _; obtain ⟨_, e_, q0_, q1_, q2_⟩ := at_T36 (HR1.out ?W18_ (by repeat (first | exact HK.out | apply Kept.alloc | apply Kept.drewN | apply Kept.drew | refine Kept.setCell ?_ (.inr GW362.out) _ | refine Kept.setCell ?_ (.inr GW362.out) _))) x7_1 (of_eq_true p356) (of_eq_true q356); cases e_; exact q2_) | (obtain ⟨_, e_, q0_, q1_, q2_⟩ := at_T36 (HR1.out _ (by repeat (first | exact HK.out | apply Kept.alloc | apply Kept.drewN | apply Kept.drew | refine Kept.setCell ?_ (.inr GW362.out) _ | refine Kept.setCell ?_ (.inr GW362.out) _))) x7_1 (of_eq_true p356) (of_eq_true q356); cases e_; exact q2_))⟩ (fun hHeld => ?_)
      clear hK K
      refine pu 11 (some 9) (bm 12 4095) rfl rfl ?_
      refine done_ (done_of HT_.out (by kernel_rfl)) ?_
      have hnb18 := NB362_354.out
      have hnc18 := NB354_362.out
      have hnb19 := NB362_355.out
      have hnc19 := NB355_362.out
      obtain ⟨hcz20_0, hcz20_1, hfz20_0, hfz20_1⟩ := c2 BK362
      have hnb21 := NB354_355.out
      have hnc21 := NB355_354.out
      obtain ⟨hcz22_0, hcz22_1, hfz22_0, hfz22_1⟩ := c2 BK354
      try go_wp2
      go_roundg k1
      case measure => have := HK1.out; omega
      case rel => exact ⟨(x6_1 ++ t361), (wrap64 (x7_1 + 1)), (t357), (t360), (.slice Ao15 t357.length co15), zs, zs, H', ⟨by have := HK1.out; omega⟩, ⟨(Kd.R_mono (ztR (Kd.R_types (Kd.R_types HO359.out BK362.out (by decide)) BK354.out (by decide))) (fun _ hk => hk.1.1))⟩, ⟨zp BK354⟩, ⟨zp BK355⟩, ⟨by repeat (first | (with_reducible first | exact HK.out | apply Kept.alloc | apply Kept.drewN | apply Kept.drew | refine Kept.setCell ?_ (.inr GW354.out) _ | refine Kept.setCell ?_ (.inr GW355.out) _ | refine Kept.setCell ?_ (.inr GW362.out) _) | exact HK.out)⟩, ⟨zb HB⟩⟩
     ·rw [if_neg c9] at H
      exact absurd H (by simp)
    ·rw [if_neg c7] at H
     exact absurd H (by simp)
   ·skip
    have c6b0 := decide_eq_false c6
    clear c6
    simp only [Option.some.injEq, Prod.mk.injEq] at H
    obtain ⟨rfl, rfl, rfl⟩ := H
    have hnb23 := NB354_355.out
    have hnc23 := NB355_354.out
    obtain ⟨hcz24_0, hcz24_1, hfz24_0, hfz24_1⟩ := c2 BK354
    obtain ⟨Ao25, co25, eo25⟩ := Kd.R_slice HO_355000.out
    subst eo25
    obtain ⟨hcz26_0, hcz26_1, hfz26_0, hfz26_1⟩ := c2 BK355
    go_wp2
    refine bodyPost_ret (results_ct rfl _ _ gb355 25 #[.slice Ao25 x355000_1.length co25, .int .i64 x355001_1] (0, 0) _ rfl (zp BK355) Try.underlying25 rfl (by kernel_rfl)) rfl ?_
    exact ⟨_, ze, (Kd.R_mono (ztR (Kd.R_types HO_355000.out BK355.out (by decide))) (fun _ hk => hk.1)), zb HB, by repeat (first | (with_reducible first | exact HK.out | apply Kept.alloc | apply Kept.drewN | apply Kept.drew | refine Kept.setCell ?_ (.inr GW354.out) _ | refine Kept.setCell ?_ (.inr GW355.out) _) | exact HK.out)⟩

/-! ### spec_HeadWrite: function 38 -/
-- thin
def spec_HeadWrite.f (k : Nat) (l0_0 : List (S36)) (a0_1 : Int) (l1 : List (S36)) : Option ((List (S36)) × Int × ByteArray) := (spec_TableOk.f k l0_0 a0_1).bind fun t365 => (if t365 = true then ((spec_HeadOk.f k l1).bind fun t366 => (if t366 = true then ((some (([] : List (S36)) : List (S36))).bind fun y367 => (if y367.length + l0_0.length < 3518437208883 then ((spec_l11All.f k (y367 ++ l0_0) a0_1 l1).bind fun bt373 => (some (bt373.1, bt373.2.1, bt373.2.2))) else (none))) else (some (([] : List (S36)), 0, (⟨#[]⟩ : ByteArray))))) else (some (([] : List (S36)), 0, (⟨#[]⟩ : ByteArray))))
theorem spec_HeadWrite.mono : ∀ a0 a1 a2 k, LeO (spec_HeadWrite.f k a0 a1 a2) (spec_HeadWrite.f (k + 1) a0 a1 a2) := by
 intro a0 a1 a2 k
 unfold spec_HeadWrite.f
 have m0 := @spec_HeadOk.mono
 have m1 := @spec_TableOk.mono
 have m2 := @spec_l11All.mono
 exact zm
def spec_HeadWrite.T3 : Bool × List (List Nat × List Nat) := (true, [([], []), ([], []), ([1], [1]), ([0, 2], [0, 2]), ([], []), ([4], [4]), ([3, 5], [3, 5]), ([], []), ([6, 7, 3], [6, 7]), ([8], [8]), ([8], [8]), ([9, 8, 0, 1, 2, 3, 4, 5, 6, 7, 8, 9, 10], [9]), ([10, 11, 0, 1, 2, 3, 4, 5, 6, 7, 8, 9, 10, 11], [10])])
def spec_HeadWrite.B3 : List Nat := [0, 0, 2, 7, 0, 16, 63, 0, 255, 511, 511, 2047, 4095]
theorem spec_HeadWrite.tab3 : rtab .any (opsOf Try.f38 3) = spec_HeadWrite.T3 := by kernel_rfl
theorem spec_HeadWrite.bits3 : waitsOk spec_HeadWrite.T3.2 spec_HeadWrite.B3 = true := by kernel_rfl
set_option maxHeartbeats 8000000 in
set_option maxRecDepth 100000 in
theorem spec_HeadWrite.calls (k : Nat) (A0_0 : Option Addr) (c0_0 : Nat) (l0_0 : List (S36)) (a0_1 : Int) (A1 : Option Addr) (c1 : Nat) (l1 : List (S36)) (r1 : List (S36)) (r2 : Int) (r3 : ByteArray) (w : World) (hr0_0 : Kd.C k36 w A0_0 l0_0.length l0_0) (hc0_0 : l0_0.length ≤ c0_0) (hr1 : Kd.C k36 w A1 l1.length l1) (hc1 : l1.length ≤ c1) (h : spec_HeadWrite.f k l0_0 a0_1 l1 = some (r1, r2, r3)) :
  Calls Try.prog 38 #[.agg #[.slice A0_0 l0_0.length c0_0, .int .i64 a0_1], .slice A1 l1.length c1] w fun e w' => ∃ v0_ : Value, e = .returned (.tuple #[.agg #[v0_, .int .i64 r2], .string r3]) ∧ Kd.R k36 36 w' w.heap.size (fun _ => True) v0_ r1 ∧ Below w.heap.size w w' := by
 have hu25 := Try.underlying25
 have HR0_0 := Aside0.mk hr0_0
 have HC0_0 := Aside0.mk hc0_0
 clear hr0_0 hc0_0
 have HR1 := Aside0.mk hr1
 have HC1 := Aside0.mk hc1
 clear hr1 hc1
 have HB := Aside0.mk (Below.refl w.heap.size w)
 have H : ((spec_TableOk.f k l0_0 a0_1).bind fun t365 => (if t365 = true then ((spec_HeadOk.f k l1).bind fun t366 => (if t366 = true then ((some (([] : List (S36)) : List (S36))).bind fun y367 => (if y367.length + l0_0.length < 3518437208883 then ((spec_l11All.f k (y367 ++ l0_0) a0_1 l1).bind fun bt373 => (some (bt373.1, bt373.2.1, bt373.2.2))) else (none))) else (some (([] : List (S36)), 0, (⟨#[]⟩ : ByteArray))))) else (some (([] : List (S36)), 0, (⟨#[]⟩ : ByteArray))))) = some (r1, r2, r3) := h
 clear h
 obtain ⟨t365, A3, H⟩ := ob H
 (try dsimp only at H)
 by_cases c4 : t365 = true
 ·subst c4
  rw [if_pos rfl] at H
  obtain ⟨t366, A5, H⟩ := ob H
  (try dsimp only at H)
  have HC6 := Aside0.mk H
  clear H
  go_enter Try.func38, Try.ntmps38
  go_upto_if 13 with (first | ((with_reducible refine gd 2 rfl ?_); refine bx (N := 2) (cs := #[.slice A0_0 l0_0.length c0_0, .int .i64 a0_1]) (t := 25) ?_; intro gb363 hg w7 hbox hb; have BK363 := Aside0.mk (hbox); have GW363 := gw HB hg; have GE363 := GW363; replace HB := Aside0.mk (below_step (zb HB) hb); clear hb hbox hg) | ((with_reducible refine gd 4 rfl ?_); refine bx (N := 4) (cs := #[.slice none 0 0, .int .i64 0]) (t := 25) ?_; intro gb364 hg w8 hbox hb; have BK364 := Aside0.mk (hbox); have GW364 := gw HB hg; have GE364 := GW364; replace HB := Aside0.mk (below_step (zb HB) hb); obtain ⟨NB363_364, NB364_363⟩ := nb BK363 hg; replace BK363 := kb BK363 hb; clear hb hbox hg; have hnb9 := NB363_364.out; have hnc9 := NB364_363.out; obtain ⟨hcz10_0, hcz10_1, hfz10_0, hfz10_1⟩ := c2 BK363) | ((with_reducible refine gq 19 rfl ?_); refine gl (some 7) Try.func19 #[.agg #[.slice A0_0 l0_0.length c0_0, .int .i64 a0_1]] ?_; (with_reducible refine (spec_TableOk.calls k _ _ l0_0 a0_1 true _ ?side1 ?side2 A3.out).mono ?_); (case side1 => exact zc (Kd.C_below HR0_0.out HB.out)); (case side2 => exact HC0_0.out); rintro e w11 ⟨rfl, hb⟩; refine ⟨_, rfl, ?_⟩; replace BK363 := kb BK363 hb; replace BK364 := kb BK364 hb; replace HB := Aside0.mk (below_step (zb HB) hb); (try clear hb)) | (go_at_call 40; (with_reducible refine (spec_HeadOk.calls k _ _ l1 t366 _ ?side1 ?side2 A5.out).mono ?_); (case side1 => exact zc (Kd.C_below HR1.out HB.out)); (case side2 => exact HC1.out); rintro e w12 ⟨rfl, hb⟩; replace BK363 := kb BK363 hb; replace BK364 := kb BK364 hb; replace HB := Aside0.mk (below_step (zb HB) hb); (try clear hb)))
  (try simp only [Act.put, s1, s2, s3])
  have H := HC6.out
  clear HC6
  by_cases c13 : t366 = true
  ·subst c13
   rw [if_pos rfl] at H
   obtain ⟨y367, hy367⟩ : ∃ y_ : List (S36), y_ = (([] : List (S36))) := ⟨_, rfl⟩
   replace H : (if y367.length + l0_0.length < 3518437208883 then ((spec_l11All.f k (y367 ++ l0_0) a0_1 l1).bind fun bt373 => (some (bt373.1, bt373.2.1, bt373.2.2))) else (none)) = some (r1, r2, r3) := by first | (rw [hy367]; with_reducible exact H) | (have H2_ := (Option.bind_some _ _).symm.trans H; rw [hy367]; with_reducible exact H2_) | (have H2_ := (Option.bind_some _ _).symm.trans H; with_reducible exact H2_) | with_reducible exact H | (rw [hy367]; exact H) | exact H
   have Ny367 := Aside0.mk hy367
   clear hy367
   replace H := sp H
   rcases H with ⟨c14, H⟩ | ⟨c14, H⟩
   ·skip
    have LMc14 := Aside0.mk c14
    clear c14
    obtain ⟨y370, hy370⟩ : ∃ y_ : List (S36), y_ = (y367 ++ l0_0) := ⟨_, rfl⟩
    replace H : ((spec_l11All.f k y370 a0_1 l1).bind fun bt373 => (some (bt373.1, bt373.2.1, bt373.2.2))) = some (r1, r2, r3) := by first | (rw [hy370]; with_reducible exact H) | (have H2_ := (Option.bind_some _ _).symm.trans H; rw [hy370]; with_reducible exact H2_) | (have H2_ := (Option.bind_some _ _).symm.trans H; with_reducible exact H2_) | with_reducible exact H | (rw [hy370]; exact H) | exact H
    have Ny370 := Aside0.mk hy370
    clear hy370
    obtain ⟨⟨t373, t376, t377⟩, A15, H⟩ := ob H
    (try dsimp only at H)
    simp only [Option.some.injEq, Prod.mk.injEq] at H
    obtain ⟨rfl, rfl, rfl⟩ := H
    try go_wp2
    replace BK363 := Aside0.mk (blk_drew BK363.out)
    replace BK364 := Aside0.mk (blk_drew BK364.out)
    replace HB := Aside0.mk (below_drew1 HB.out)
    refine st 13 (b2 BK363) (fun hHeld => ?_); refine with_tabW spec_HeadWrite.tab3 spec_HeadWrite.bits3 (fun HT_ HW_ => ?_)
    generalize w12.drew = w16 at BK363 BK364 HB hHeld ⊢
    refine pu 1 (some 16) (bm 13 2) rfl rfl ?_
    refine pu 4 (some 19) (bm 13 18) rfl rfl ?_
    refine pu 7 (some 22) (bm 13 146) rfl rfl ?_
    refine tk 2 (some 17) (bm 13 150) rfl rfl hHeld ?_
    refine tk 5 (some 20) (bm 13 182) rfl rfl hHeld ?_
    refine one_ (i := 0) (N := some 15) (bm 13 183) rfl rfl (one_of HT_.out (by kernel_rfl)) (by decide) (fun K hK => ?_)
    refine Kd.R_lit_step k36 _ 36 ?hg (N := 15) ?hd (xs := ([] : List (S36))) (inner := []) (ok := fun _ => True) (okp := fun _ => True) ?hr ?hp (fun _ hk => hk) trivial (Below.refl _ _) (Nat.le_refl _) (by simp) ?_; (case hd => rfl); (case hg => rfl); (case hr => first | (go_simp; done) | (go_simp; rfl)); (case hp => exact (Reps.none _ _))
    intro v368 w17 ho18 hb hg_ hnew_
    clear hg_ hnew_
    (first | rw [← Ny367.out] at ho18 | (simp only [Int.reduceToNat] at ho18; rw [← Ny367.out] at ho18))
    have HO369 := Aside0.mk (Kd.R_lower ho18 (below_size (zb HB)))
    replace BK363 := kb BK363 hb
    replace BK364 := kb BK364 hb
    replace HB := Aside0.mk (below_step (zb HB) hb)
    clear hb ho18
    refine hK.out _ _ (b2 BK363) (fun hHeld => ?_)
    clear hK K
    refine nm ?_
    refine one_ (i := 3) (N := some 18) (bm 13 191) rfl rfl (one_of HT_.out (by kernel_rfl)) (by decide) (fun K hK => ?_)
    refine Kd.R_append_rows_step k36 (w0 := w) w.heap.size (by rfl) (.tmp 15) (.tmp 17) 23 36 (.agg #[(.string ⟨#[]⟩), (.string ⟨#[]⟩), (.bool false)]) 40 rfl Try.underlying23 info36 rfl (by decide) (by omega) v368 y367 l0_0 _ _ _ (fun _ => True) (fun _ => False) rfl rfl ?aO ?aR (fun _ _ h => h) (fun _ h => h.elim) ?aF ?aB ?aS ?aL ?_
    (case aR => exact zc (Kd.C_below HR0_0.out HB.out))
    (case aB => exact (zb HB))
    (case aF => exact (fun _ _ => trivial))
    (case aO => exact (zr HO369))
    (case aS => exact (below_size (zb HB)))
    (case aL => have := LMc14.out; omega)
    intro v371 w19 ho hb hg hat
    rw [← Ny370.out] at ho
    replace BK363 := Aside0.mk (blk_grown (zk BK363) hg (Kd.R_ne HO369.out BK363.out (by decide)))
    replace BK364 := Aside0.mk (blk_grown (zk BK364) hg (Kd.R_ne HO369.out BK364.out (by decide)))
    replace HB := Aside0.mk (hb)
    have HO372 := Aside0.mk (ho)
    clear HO369
    clear ho hb hg hat
    obtain ⟨Ao20, co20, eo20⟩ := Kd.R_slice HO372.out
    (first | subst eo20 | (injection eo20 with f1_ f2_ f3_; have f4_ := f1_.symm; have f5_ := f3_.symm; clear f1_ f2_ f3_; subst f4_; subst f5_))
    refine hK.out _ _ (b2 BK363) (fun hHeld => ?_)
    clear hK K
    refine nm ?_
    refine pu 6 (some 21) (bm 13 255) rfl rfl ?_
    refine one_ (i := 8) (N := some 23) (bm 13 511) rfl rfl (one_of HT_.out (by kernel_rfl)) (by decide) (fun K hK => ?_)
    refine gs Try.func64 #[.agg #[.slice Ao20 y370.length co20, .int .i64 a0_1], .slice A1 l1.length c1] ?_
    with_reducible refine (spec_l11All.calls k (fun k_ => some k_ = (.slice Ao20 y370.length co20 : Value).ownBlock) (.slice Ao20 y370.length co20) y370 a0_1 _ _ l1 t373 t376 t377 w _ ?side1 ?side2 ?side3 ?side4 A15.out).mono ?_
    (case side1 => exact zb HB)
    (case side2 => exact Kd.R_tight rfl HO372.out)
    (case side3 => exact Kd.C_kept_came k36_heap HR1.out (zb HB) (fun k_ hs_ => (fun e_ => Kd.R_base HO372.out k_ e_.symm) hs_))
    (case side4 => exact HC1.out)
    rintro e w21 ⟨v374, rfl, ho0, hb, hkp⟩
    refine ⟨_, rfl, ?_⟩
    replace BK363 := Aside0.mk (blk_kept (zk BK363) hkp (fun hs_ => (fun e_ => (Kd.R_ne HO372.out BK363.out (by decide)) e_) hs_))
    replace BK364 := Aside0.mk (blk_kept (zk BK364) hkp (fun hs_ => (fun e_ => (Kd.R_ne HO372.out BK364.out (by decide)) e_) hs_))
    have HO375 := Aside0.mk (Kd.R_mono (ok' := fun k_ => True) ho0 (fun k_ hk_ => trivial))
    replace HB := Aside0.mk (hb)
    clear HO372
    (try clear hb)
    (try clear hkp)
    (try clear ho0)
    obtain ⟨Ao22, co22, eo22⟩ := Kd.R_slice HO375.out
    (first | subst eo22 | (injection eo22 with f1_ f2_ f3_; have f4_ := f1_.symm; have f5_ := f3_.symm; clear f1_ f2_ f3_; subst f4_; subst f5_))
    refine hK.out _ _ (b2 BK363) (fun hHeld => ?_)
    clear hK K
    refine nm ?_
    refine pu 9 (some 24) (bm 13 1023) rfl rfl ?_
    refine pu 10 (some 25) (bm 13 2047) rfl rfl ?_
    refine one_ (i := 11) (N := none) (bm 13 4095) rfl rfl (one_of HT_.out (by kernel_rfl)) (by decide) (fun K hK => ?_)
    have hs23 : w21.cell? ⟨gb364, 0, none⟩ = some (.slice none 0 0) := (blk_cell BK364.out 0).trans rfl
    have hfs23 := blk_frozen BK364.out 0
    have hns23_0 := NB363_364.out
    have hms23_0 := NB364_363.out
    have hs24 : w21.cell? ⟨gb364, 1, none⟩ = some (.int .i64 0) := (blk_cell BK364.out 1).trans rfl
    have hfs24 := blk_frozen BK364.out 1
    have hns24_0 := NB363_364.out
    have hms24_0 := NB364_363.out
    refine skip_ (w1 := ?_) (by rfl) rfl ?_ ?_
    rotate_left
    ·go_simp
     rfl
    refine hK.out _ _ ⟨((cell_far (p := ⟨gb364, _, none⟩) NB363_364.out _).trans (((cell_far (p := ⟨gb364, _, none⟩) NB363_364.out _).trans (hHeld.1)))), ((cell_far (p := ⟨gb364, _, none⟩) NB363_364.out _).trans (((cell_far (p := ⟨gb364, _, none⟩) NB363_364.out _).trans (hHeld.2))))⟩ (fun hHeld => ?_)
    clear hK K
    refine pu 12 (some 5) (bm 13 8191) rfl rfl ?_
    refine done_ (done_of HT_.out (by kernel_rfl)) ?_
    try go_wp2
    refine bodyPost_ret (results_ct rfl _ _ gb364 25 #[.slice Ao22 t373.length co22, .int .i64 t376] (0, 0) _ rfl (zp BK364) Try.underlying25 rfl (by kernel_rfl)) rfl ?_
    exact ⟨_, ze, (Kd.R_mono (ztR (Kd.R_types HO375.out BK364.out (by decide))) (fun _ hk => trivial)), zb HB⟩
   ·skip
    exact absurd H (by simp)
  ·replace c13 := Bool.eq_false_iff.mpr c13
   subst c13
   rw [if_neg (show ¬ (false = true) by decide)] at H
   simp only [Option.some.injEq, Prod.mk.injEq] at H
   obtain ⟨rfl, rfl, rfl⟩ := H
   have hnb25 := NB364_363.out
   have hnc25 := NB363_364.out
   obtain ⟨hcz26_0, hcz26_1, hfz26_0, hfz26_1⟩ := c2 BK364
   go_wp2
   refine bodyPost_ret (results_ct rfl _ _ gb364 25 #[.slice none 0 0, .int .i64 0] (0, 0) _ rfl (zp BK364) Try.underlying25 rfl (by kernel_rfl)) rfl ?_
   exact ⟨_, ze, by first | exact Kd.R_nil _ _ _ _ _ | exact Kd.N_nil _ _ _ _ _ | exact Kd.V_nil _ _ _ _ _ | exact Kd.Q_nil _ _ _ _ _ | exact Kd.S_nil _ _ _ _ _, zb HB⟩
 ·replace c4 := Bool.eq_false_iff.mpr c4
  subst c4
  rw [if_neg (show ¬ (false = true) by decide)] at H
  simp only [Option.some.injEq, Prod.mk.injEq] at H
  obtain ⟨rfl, rfl, rfl⟩ := H
  go_enter Try.func38, Try.ntmps38
  go_wp2_with (first | ((with_reducible refine gd 2 rfl ?_); refine bx (N := 2) (cs := #[.slice A0_0 l0_0.length c0_0, .int .i64 a0_1]) (t := 25) ?_; intro gb363 hg w27 hbox hb; have BK363 := Aside0.mk (hbox); have GW363 := gw HB hg; have GE363 := GW363; replace HB := Aside0.mk (below_step (zb HB) hb); clear hb hbox hg) | ((with_reducible refine gd 4 rfl ?_); refine bx (N := 4) (cs := #[.slice none 0 0, .int .i64 0]) (t := 25) ?_; intro gb364 hg w28 hbox hb; have BK364 := Aside0.mk (hbox); have GW364 := gw HB hg; have GE364 := GW364; replace HB := Aside0.mk (below_step (zb HB) hb); obtain ⟨NB363_364, NB364_363⟩ := nb BK363 hg; replace BK363 := kb BK363 hb; clear hb hbox hg; have hnb29 := NB363_364.out; have hnc29 := NB364_363.out; obtain ⟨hcz30_0, hcz30_1, hfz30_0, hfz30_1⟩ := c2 BK363) | ((with_reducible refine gq 19 rfl ?_); refine gl (some 7) Try.func19 #[.agg #[.slice A0_0 l0_0.length c0_0, .int .i64 a0_1]] ?_; (with_reducible refine (spec_TableOk.calls k _ _ l0_0 a0_1 false _ ?side1 ?side2 A3.out).mono ?_); (case side1 => exact zc (Kd.C_below HR0_0.out HB.out)); (case side2 => exact HC0_0.out); rintro e w31 ⟨rfl, hb⟩; refine ⟨_, rfl, ?_⟩; replace BK363 := kb BK363 hb; replace BK364 := kb BK364 hb; replace HB := Aside0.mk (below_step (zb HB) hb); (try clear hb); obtain ⟨hcz32_0, hcz32_1, hfz32_0, hfz32_1⟩ := c2 BK364))
  refine bodyPost_ret (results_ct rfl _ _ gb364 25 #[.slice none 0 0, .int .i64 0] (0, 0) _ rfl (zp BK364) Try.underlying25 rfl (by kernel_rfl)) rfl ?_
  exact ⟨_, ze, by first | exact Kd.R_nil _ _ _ _ _ | exact Kd.N_nil _ _ _ _ _ | exact Kd.V_nil _ _ _ _ _ | exact Kd.Q_nil _ _ _ _ _ | exact Kd.S_nil _ _ _ _ _, zb HB⟩

/-! ### impl_in: function 48 -/
-- thin
def impl_in.f (a0 : Int) (a1 : Int) (a2 : Int) : Option (Bool) := if a1 ≤ a0 then (some (decide (a0 ≤ a2))) else (some false)
set_option maxHeartbeats 8000000 in
set_option maxRecDepth 100000 in
theorem impl_in.calls (a0 : Int) (a1 : Int) (a2 : Int) (r : Bool) (w : World) (h : impl_in.f a0 a1 a2 = some r) :
  Calls Try.prog 48 #[.int .i64 a0, .int .i64 a1, .int .i64 a2] w fun e w' => e = .returned (.bool r) ∧ Drawn0 w w' := by
 have H : (if a1 ≤ a0 then (some (decide (a0 ≤ a2))) else (some false)) = some r := h
 clear h
 replace H := sp H
 rcases H with ⟨c4, H⟩ | ⟨c4, H⟩
 ·skip
  have c4b0 := decide_eq_true c4
  clear c4
  obtain rfl := Option.some.inj H
  go_enter Try.func48, Try.ntmps48
  go_wp2
  go_ret
  exact ⟨zs, by repeat (first | exact Drawn0.refl _ | apply Drawn0.step)⟩
 ·skip
  have c4b0 := decide_eq_false c4
  clear c4
  obtain rfl := Option.some.inj H
  go_enter Try.func48, Try.ntmps48
  go_wp2
  go_ret
  exact ⟨zs, by repeat (first | exact Drawn0.refl _ | apply Drawn0.step)⟩

-- NOT PRINTED: function 99 (bytealg_IndexByteString)

-- NOT PRINTED: function 94 (stringslite_IndexByte)

/-! ### strings_IndexByte: function 85 -/
-- by hand
def TryL.lays137_ren : Go.Shelf.Ren := ⟨fun | 137 => 85 | 217 => 94 | 266 => 99 | n => n, fun | 9 => 9 | 5 => 5 | 3 => 3 | n => n, fun | n => n⟩
theorem TryL.lays137 : Go.Proofs.Lays.n137 Try.prog TryL.lays137_ren := {
  mixed := by kernel_rfl
  f137 := Try.func85.trans (congrArg some (by kernel_rfl))
  f217 := Try.func94.trans (congrArg some (by kernel_rfl))
  f266 := Try.func99.trans (congrArg some (by kernel_rfl))
  t3 := Try.underlying3
  a3 := Try.isAgg3
  z3 := Try.sizeOf3
  v3 := Try.zeroValue3
  t5 := Try.underlying5
  a5 := Try.isAgg5
  z5 := Try.sizeOf5
  v5 := Try.zeroValue5
  t9 := Try.underlying9
  a9 := Try.isAgg9
  z9 := Try.sizeOf9
  v9 := Try.zeroValue9 }
/-- The place of the first byte that is a1; -1, if there is none. -/
def strings_IndexByte.f (a0 : ByteArray) (a1 : Int) : Option (Int) := some (Lib.indexByte a0.data.toList a1.toNat.toUInt8)
theorem strings_IndexByte.calls (a0 : ByteArray) (a1 : Int) (r : Int) (w : World) (h : strings_IndexByte.f a0 a1 = some r) :
    Calls Try.prog 85 #[.string a0, .int .u8 a1] w fun e w' => e = .returned (.int .i64 r) ∧ Drawn0 w w' := by
  simp only [strings_IndexByte.f, Option.some.injEq] at h
  subst h
  refine (Go.Proofs.Any.strings_IndexByte TryL.lays137 a0 a1 w).mono ?_
  rintro e w' ⟨rfl, rfl⟩
  exact ⟨rfl, Drawn0.refl _⟩

/-! ### impl_WordOk: function 72 -/
-- thin
def impl_WordOk.l0 : Nat → ByteArray → Int → Int → Option (Bool)
 | 0, _, _, _ => none
 | k + 1, x0, x5, x6 => if x6 < x5 then (if 0 ≤ x6 then (if x6 < (x0.size : Int) then ((strings_IndexByte.f (⟨#[101, 116, 97, 111, 105, 110, 115, 114, 104, 108, 48, 49, 50, 51, 52, 53, 54, 55, 56, 57, 100, 99, 117, 109, 102, 112, 103, 119, 121, 98, 118, 107, 120, 106, 113, 122, 58, 47, 45]⟩ : ByteArray) (bt x0 x6)).bind fun t378 => (if t378 < 0 then (some false) else (impl_WordOk.l0 k x0 x5 (wrap64 (x6 + 1))))) else (none)) else (none)) else (some (decide ((x0.size : Int) ≤ 16)))
def impl_WordOk.f (k : Nat) (a0 : ByteArray) : Option (Bool) := impl_WordOk.l0 k a0 (a0.size : Int) 0
theorem impl_WordOk.mono_l : ∀ k, (∀ y0 y1 y2, LeO (impl_WordOk.l0 k y0 y1 y2) (impl_WordOk.l0 (k + 1) y0 y1 y2))
 | 0 => fun _ _ _ r h => by simp [impl_WordOk.l0] at h
 | k + 1 => by
  have ih0 := impl_WordOk.mono_l k
  ·intro y0 y1 y2
   unfold impl_WordOk.l0
   exact zm
theorem impl_WordOk.mono : ∀ a0 k, LeO (impl_WordOk.f k a0) (impl_WordOk.f (k + 1) a0) := by
 intro a0 k
 have ih0 := impl_WordOk.mono_l k
 unfold impl_WordOk.f
 exact zm
set_option maxHeartbeats 8000000 in
set_option maxRecDepth 100000 in
theorem impl_WordOk.calls (k : Nat) (a0 : ByteArray) (r : Bool) (w : World) (h : impl_WordOk.f k a0 = some r) :
  Calls Try.prog 72 #[.string a0] w fun e w' => e = .returned (.bool r) ∧ Drawn0 w w' := by
 have H : (impl_WordOk.l0 k a0 (a0.size : Int) 0) = some r := h
 clear h
 have H' := Aside0.mk H
 clear H
 go_enter Try.func72, Try.ntmps72
 go_wp2
 go_loopg [6] k (fun kq v6 w' => ∃ (x6_1 : Int), v6 = .int .i64 x6_1 ∧ Aside0 (impl_WordOk.l0 kq a0 (a0.size : Int) x6_1 = some r) ∧ Aside0 (kq ≤ k) ∧ Drawn0 w w')
 case atStart => exact ⟨(0), zs, H', ⟨Nat.le_refl _⟩, by repeat (first | exact Drawn0.refl _ | apply Drawn0.step)⟩
 case round =>
  clear H'
  obtain ⟨x6_1, rfl, HA, HK1, ⟨m1, rfl⟩⟩ := hrel
  cases gk with
  | zero => exact absurd HA.out (by simp [impl_WordOk.l0])
  | succ k1 =>
   have H := HA.out
   clear HA
   simp only [impl_WordOk.l0] at H
   replace H := sp H
   rcases H with ⟨c2, H⟩ | ⟨c2, H⟩
   ·skip
    have c2b0 := decide_eq_true c2
    clear c2
    by_cases c3 : 0 ≤ x6_1
    ·rw [if_pos c3] at H
     have c3b0 := decide_eq_true c3
     clear c3
     by_cases c4 : x6_1 < (a0.size : Int)
     ·rw [if_pos c4] at H
      have c4b0 := decide_eq_true c4
      clear c4
      obtain ⟨t378, A6, H⟩ := ob H
      (try dsimp only at H)
      by_cases c7 : t378 < 0
      ·rw [if_pos c7] at H
       have c7b0 := decide_eq_true c7
       clear c7
       obtain rfl := Option.some.inj H
       have p5 : 0 ≤ (x6_1 : Int) := of_decide_eq_true za
       have q5 : x6_1 < (a0.size : Int) := of_decide_eq_true za
       have hx5 := bt_at a0 x6_1
       replace p5 := eq_true p5
       replace q5 := eq_true q5
       go_wp2_with (first | ((with_reducible refine gq 85 rfl ?_); refine gl (some 12) Try.func85 #[.string (⟨#[101, 116, 97, 111, 105, 110, 115, 114, 104, 108, 48, 49, 50, 51, 52, 53, 54, 55, 56, 57, 100, 99, 117, 109, 102, 112, 103, 119, 121, 98, 118, 107, 120, 106, 113, 122, 58, 47, 45]⟩ : ByteArray), .int .u8 (bt a0 x6_1)] ?_; (with_reducible refine (strings_IndexByte.calls (⟨#[101, 116, 97, 111, 105, 110, 115, 114, 104, 108, 48, 49, 50, 51, 52, 53, 54, 55, 56, 57, 100, 99, 117, 109, 102, 112, 103, 119, 121, 98, 118, 107, 120, 106, 113, 122, 58, 47, 45]⟩ : ByteArray) (bt a0 x6_1) t378 _ A6.out).mono ?_); rintro e w' ⟨rfl, ⟨nd, rfl⟩⟩; refine ⟨_, rfl, ?_⟩))
       go_ret
       exact ⟨zs, by repeat (first | exact Drawn0.refl _ | apply Drawn0.step)⟩
      ·rw [if_neg c7] at H
       have c7b0 := decide_eq_false c7
       clear c7
       have H' := Aside0.mk H
       clear H
       have p5 : 0 ≤ (x6_1 : Int) := of_decide_eq_true za
       have q5 : x6_1 < (a0.size : Int) := of_decide_eq_true za
       have hx5 := bt_at a0 x6_1
       replace p5 := eq_true p5
       replace q5 := eq_true q5
       go_wp2_with (first | ((with_reducible refine gq 85 rfl ?_); refine gl (some 12) Try.func85 #[.string (⟨#[101, 116, 97, 111, 105, 110, 115, 114, 104, 108, 48, 49, 50, 51, 52, 53, 54, 55, 56, 57, 100, 99, 117, 109, 102, 112, 103, 119, 121, 98, 118, 107, 120, 106, 113, 122, 58, 47, 45]⟩ : ByteArray), .int .u8 (bt a0 x6_1)] ?_; (with_reducible refine (strings_IndexByte.calls (⟨#[101, 116, 97, 111, 105, 110, 115, 114, 104, 108, 48, 49, 50, 51, 52, 53, 54, 55, 56, 57, 100, 99, 117, 109, 102, 112, 103, 119, 121, 98, 118, 107, 120, 106, 113, 122, 58, 47, 45]⟩ : ByteArray) (bt a0 x6_1) t378 _ A6.out).mono ?_); rintro e w' ⟨rfl, ⟨nd, rfl⟩⟩; refine ⟨_, rfl, ?_⟩))
       go_roundg k1
       case measure => have := HK1.out; omega
       case rel => exact ⟨(wrap64 (x6_1 + 1)), zs, H', ⟨by have := HK1.out; omega⟩, by repeat (first | exact Drawn0.refl _ | apply Drawn0.step)⟩
     ·rw [if_neg c4] at H
      exact absurd H (by simp)
    ·rw [if_neg c3] at H
     exact absurd H (by simp)
   ·skip
    have c2b0 := decide_eq_false c2
    clear c2
    obtain rfl := Option.some.inj H
    go_wp2
    go_ret
    exact ⟨zs, by repeat (first | exact Drawn0.refl _ | apply Drawn0.step)⟩

/-! ### impl_FieldOk: function 55 -/
-- thin
def impl_FieldOk.f (k : Nat) (a0_0 : ByteArray) (a0_1 : ByteArray) (a0_2 : Bool) : Option (Bool) := (impl_WordOk.f k a0_0).bind fun t380 => (if t380 = true then ((impl_WordOk.f k a0_1).bind fun t381 => (if t381 = true then (some (a0_0.toList != ([] : List UInt8))) else (some false))) else (some false))
theorem impl_FieldOk.mono : ∀ a0 a1 a2 k, LeO (impl_FieldOk.f k a0 a1 a2) (impl_FieldOk.f (k + 1) a0 a1 a2) := by
 intro a0 a1 a2 k
 unfold impl_FieldOk.f
 have m0 := @impl_WordOk.mono
 exact zm
set_option maxHeartbeats 8000000 in
set_option maxRecDepth 100000 in
theorem impl_FieldOk.calls (k : Nat) (a0_0 : ByteArray) (a0_1 : ByteArray) (a0_2 : Bool) (r : Bool) (w : World) (h : impl_FieldOk.f k a0_0 a0_1 a0_2 = some r) :
  Calls Try.prog 55 #[.agg #[.string a0_0, .string a0_1, .bool a0_2]] w fun e w' => e = .returned (.bool r) ∧ Below w.heap.size w w' := by
 have hu36 := Try.underlying36
 have HB := Aside0.mk (Below.refl w.heap.size w)
 have H : ((impl_WordOk.f k a0_0).bind fun t380 => (if t380 = true then ((impl_WordOk.f k a0_1).bind fun t381 => (if t381 = true then (some (a0_0.toList != ([] : List UInt8))) else (some false))) else (some false))) = some r := h
 clear h
 obtain ⟨t380, A2, H⟩ := ob H
 (try dsimp only at H)
 by_cases c3 : t380 = true
 ·subst c3
  rw [if_pos rfl] at H
  obtain ⟨t381, A4, H⟩ := ob H
  (try dsimp only at H)
  by_cases c5 : t381 = true
  ·subst c5
   rw [if_pos rfl] at H
   obtain rfl := Option.some.inj H
   go_enter Try.func55, Try.ntmps55
   go_wp2_with (first | ((with_reducible refine gd 1 rfl ?_); refine bx (N := 1) (cs := #[.string a0_0, .string a0_1, .bool a0_2]) (t := 36) ?_; intro gb379 hg w6 hbox hb; have BK379 := Aside0.mk (hbox); have GW379 := gw HB hg; have GE379 := GW379; replace HB := Aside0.mk (below_step (zb HB) hb); clear hb hbox hg; obtain ⟨hcz7_0, hcz7_1, hcz7_2, hfz7_0, hfz7_1, hfz7_2⟩ := c3 BK379) | ((with_reducible refine gq 72 rfl ?_); refine gl (some 5) Try.func72 #[.string a0_0] ?_; (with_reducible refine (impl_WordOk.calls k a0_0 true _ A2.out).mono ?_); rintro e w' ⟨rfl, ⟨nd, rfl⟩⟩; refine ⟨_, rfl, ?_⟩) | (go_at_call 72; (with_reducible refine (impl_WordOk.calls k a0_1 true _ A4.out).mono ?_); rintro e w' ⟨rfl, ⟨nd, rfl⟩⟩))
   go_ret
   exact ⟨ze, zb HB⟩
  ·replace c5 := Bool.eq_false_iff.mpr c5
   subst c5
   rw [if_neg (show ¬ (false = true) by decide)] at H
   obtain rfl := Option.some.inj H
   go_enter Try.func55, Try.ntmps55
   go_wp2_with (first | ((with_reducible refine gd 1 rfl ?_); refine bx (N := 1) (cs := #[.string a0_0, .string a0_1, .bool a0_2]) (t := 36) ?_; intro gb379 hg w8 hbox hb; have BK379 := Aside0.mk (hbox); have GW379 := gw HB hg; have GE379 := GW379; replace HB := Aside0.mk (below_step (zb HB) hb); clear hb hbox hg; obtain ⟨hcz9_0, hcz9_1, hcz9_2, hfz9_0, hfz9_1, hfz9_2⟩ := c3 BK379) | ((with_reducible refine gq 72 rfl ?_); refine gl (some 5) Try.func72 #[.string a0_0] ?_; (with_reducible refine (impl_WordOk.calls k a0_0 true _ A2.out).mono ?_); rintro e w' ⟨rfl, ⟨nd, rfl⟩⟩; refine ⟨_, rfl, ?_⟩) | (go_at_call 72; (with_reducible refine (impl_WordOk.calls k a0_1 false _ A4.out).mono ?_); rintro e w' ⟨rfl, ⟨nd, rfl⟩⟩))
   go_ret
   exact ⟨ze, zb HB⟩
 ·replace c3 := Bool.eq_false_iff.mpr c3
  subst c3
  rw [if_neg (show ¬ (false = true) by decide)] at H
  obtain rfl := Option.some.inj H
  go_enter Try.func55, Try.ntmps55
  go_wp2_with (first | ((with_reducible refine gd 1 rfl ?_); refine bx (N := 1) (cs := #[.string a0_0, .string a0_1, .bool a0_2]) (t := 36) ?_; intro gb379 hg w10 hbox hb; have BK379 := Aside0.mk (hbox); have GW379 := gw HB hg; have GE379 := GW379; replace HB := Aside0.mk (below_step (zb HB) hb); clear hb hbox hg; obtain ⟨hcz11_0, hcz11_1, hcz11_2, hfz11_0, hfz11_1, hfz11_2⟩ := c3 BK379) | ((with_reducible refine gq 72 rfl ?_); refine gl (some 5) Try.func72 #[.string a0_0] ?_; (with_reducible refine (impl_WordOk.calls k a0_0 false _ A2.out).mono ?_); rintro e w' ⟨rfl, ⟨nd, rfl⟩⟩; refine ⟨_, rfl, ?_⟩))
  go_ret
  exact ⟨ze, zb HB⟩

/-! ### impl_TableOk_1: function 54 -/
-- thin
def impl_TableOk_1.f (k : Nat) (a0_0 : ByteArray) (a0_1 : ByteArray) (a0_2 : Bool) : Option (Bool) := (impl_FieldOk.f k a0_0 a0_1 a0_2).bind fun t383 => (if t383 = true then (some a0_2) else (some true))
theorem impl_TableOk_1.mono : ∀ a0 a1 a2 k, LeO (impl_TableOk_1.f k a0 a1 a2) (impl_TableOk_1.f (k + 1) a0 a1 a2) := by
 intro a0 a1 a2 k
 unfold impl_TableOk_1.f
 have m0 := @impl_FieldOk.mono
 exact zm
set_option maxHeartbeats 8000000 in
set_option maxRecDepth 100000 in
theorem impl_TableOk_1.calls (k : Nat) (a0_0 : ByteArray) (a0_1 : ByteArray) (a0_2 : Bool) (r : Bool) (w : World) (h : impl_TableOk_1.f k a0_0 a0_1 a0_2 = some r) :
  Calls Try.prog 54 #[.agg #[.string a0_0, .string a0_1, .bool a0_2]] w fun e w' => e = .returned (.bool r) ∧ Below w.heap.size w w' := by
 have hu36 := Try.underlying36
 have HB := Aside0.mk (Below.refl w.heap.size w)
 have H : ((impl_FieldOk.f k a0_0 a0_1 a0_2).bind fun t383 => (if t383 = true then (some a0_2) else (some true))) = some r := h
 clear h
 obtain ⟨t383, A2, H⟩ := ob H
 (try dsimp only at H)
 by_cases c3 : t383 = true
 ·subst c3
  rw [if_pos rfl] at H
  obtain rfl := Option.some.inj H
  go_enter Try.func54, Try.ntmps54
  go_wp2_with (first | ((with_reducible refine gd 1 rfl ?_); refine bx (N := 1) (cs := #[.string a0_0, .string a0_1, .bool a0_2]) (t := 36) ?_; intro gb382 hg w4 hbox hb; have BK382 := Aside0.mk (hbox); have GW382 := gw HB hg; have GE382 := GW382; replace HB := Aside0.mk (below_step (zb HB) hb); clear hb hbox hg; obtain ⟨hcz5_0, hcz5_1, hcz5_2, hfz5_0, hfz5_1, hfz5_2⟩ := c3 BK382) | ((with_reducible refine gq 55 rfl ?_); refine gl (some 4) Try.func55 #[.agg #[.string a0_0, .string a0_1, .bool a0_2]] ?_; (with_reducible refine (impl_FieldOk.calls k a0_0 a0_1 a0_2 true _ A2.out).mono ?_); rintro e w6 ⟨rfl, hb⟩; refine ⟨_, rfl, ?_⟩; replace BK382 := kb BK382 hb; replace HB := Aside0.mk (below_step (zb HB) hb); (try clear hb); obtain ⟨hcz7_0, hcz7_1, hcz7_2, hfz7_0, hfz7_1, hfz7_2⟩ := c3 BK382))
  go_ret
  exact ⟨ze, zb HB⟩
 ·replace c3 := Bool.eq_false_iff.mpr c3
  subst c3
  rw [if_neg (show ¬ (false = true) by decide)] at H
  obtain rfl := Option.some.inj H
  go_enter Try.func54, Try.ntmps54
  go_wp2_with (first | ((with_reducible refine gd 1 rfl ?_); refine bx (N := 1) (cs := #[.string a0_0, .string a0_1, .bool a0_2]) (t := 36) ?_; intro gb382 hg w8 hbox hb; have BK382 := Aside0.mk (hbox); have GW382 := gw HB hg; have GE382 := GW382; replace HB := Aside0.mk (below_step (zb HB) hb); clear hb hbox hg; obtain ⟨hcz9_0, hcz9_1, hcz9_2, hfz9_0, hfz9_1, hfz9_2⟩ := c3 BK382) | ((with_reducible refine gq 55 rfl ?_); refine gl (some 4) Try.func55 #[.agg #[.string a0_0, .string a0_1, .bool a0_2]] ?_; (with_reducible refine (impl_FieldOk.calls k a0_0 a0_1 a0_2 false _ A2.out).mono ?_); rintro e w10 ⟨rfl, hb⟩; refine ⟨_, rfl, ?_⟩; replace BK382 := kb BK382 hb; replace HB := Aside0.mk (below_step (zb HB) hb); (try clear hb)))
  go_ret
  exact ⟨ze, zb HB⟩

/-! ### IndexFunc_Field: function 71 -/
-- by hand
theorem load_list (P : Program) (W : World) (a : Addr) (cs : List Value) (k : Nat) (hk : cs.length = k) (h : ∀ j v, cs[j]? = some v → W.cell? (a.add j) = some v) :
    Sem.run P (loadCellsFrom a 0 k #[]) W = .ok cs.toArray W := by
  have := run_loadCells_list (P := P) (w := W) a cs h
  rw [hk] at this
  exact this
/-- The first place, from i on, at which p says yes; -1, if there is none. -/
def idxFrom (p : S36 → Option Bool) : List (S36) → Int → Option Int
  | [], _ => some (-1)
  | x :: l, i => (p x).bind fun b => if b then some i else idxFrom p l (i + 1)
/-- What a predicate's value does when it is called. -/
def PredIs (P : Program) (g : Nat) (lb : Array Value) (p : S36 → Option Bool) (w : World) : Prop :=
  ∀ (W : World) (x : S36) (b : Bool), Below w.heap.size w W → p x = some b → Calls P g (#[.agg #[.string x.f0, .string x.f1, .bool x.f2]] ++ lb) W fun e w' => e = .returned (.bool b) ∧ Below w.heap.size w w'
set_option maxHeartbeats 4000000 in
set_option maxRecDepth 100000 in
theorem IndexFunc_calls (g : Nat) (lb : Array Value) (p : S36 → Option Bool) (eg : ∀ args w, (callFunc g args).run Try.prog w = .ok (.enter g args) w) (A0 : Option Addr) (c0 : Nat) (l0 : List (S36)) (r : Int) (w : World) (hr0 : Kd.C k36 w A0 l0.length l0) (hc0 : l0.length ≤ c0)
    (hp : PredIs Try.prog g lb p w) (h : idxFrom p l0 0 = some r) (hl : l0.length ≤ 1000000000) :
    Calls Try.prog 71 #[.slice A0 l0.length c0, .func (.func g) #[] lb] w fun e w' => e = .returned (.int .i64 r) ∧ Below w.heap.size w w' := by
  have HR0 := Aside0.mk hr0
  have HP := Aside0.mk hp
  have H := Aside0.mk h
  clear hr0 hp h
  go_enter Try.func71, Try.ntmps71
  go_wp2
  go_loopg [5, 8] (l0.length) (fun kq v5 v8 w' => ∃ i : Nat, v8 = .int .i64 i ∧ Aside0 (kq + i = l0.length) ∧ Aside0 (idxFrom p (l0.drop i) i = some r) ∧ Aside0 (Below w.heap.size w w'))
  case atStart => exact ⟨0, rfl, ⟨by omega⟩, ⟨by simpa using H.out⟩, ⟨Below.refl _ _⟩⟩
  case round =>
    obtain ⟨i, rfl, HK, HX, HB⟩ := hrel
    have hk := HK.out
    by_cases hj : i < l0.length
    · have h0 : (0 : Int) ≤ (i : Int) := by omega
      have h1 : (i : Int) < (l0.length : Int) := by omega
      obtain ⟨x, hx⟩ : ∃ x, l0[i]? = some x := ⟨_, List.getElem?_eq_getElem hj⟩
      have hdrop : l0.drop i = x :: l0.drop (i + 1) := by
        rw [List.drop_eq_getElem_cons hj]
        rw [List.getElem?_eq_getElem hj] at hx
        rw [Option.some.inj hx]
      obtain ⟨_, _, hrd⟩ := Kd.C_below HR0.out HB.out
      obtain ⟨ad, e1, hcell⟩ := hrd (by omega)
      obtain ⟨c, hc1, hc2, hc3⟩ := hcell i x hx
      have hc4 := k36_open hc2
      subst hc4
      subst e1
      have q0 : wr.cell? (ad.add (i * 3)) = some (.string x.f0) := by have h9 := hc3 0 _ rfl; exact h9
      have q1 : wr.cell? ⟨(ad.add (i * 3)).block, (ad.add (i * 3)).off + 1, none⟩ = some (.string x.f1) := by have h9 := hc3 1 _ rfl; rw [← Go.Addr.add_add] at h9; exact h9
      have q2 : wr.cell? ⟨(ad.add (i * 3)).block, (ad.add (i * 3)).off + 2, none⟩ = some (.bool x.f2) := by have h9 := hc3 2 _ rfl; rw [← Go.Addr.add_add] at h9; exact h9
      have hX := HX.out
      rw [hdrop, idxFrom] at hX
      obtain ⟨b, hb1, hb2⟩ := Option.bind_eq_some_iff.1 hX
      have hcall := HP.out wr x b HB.out hb1
      have HX2 := Aside0.mk hb2
      cases gk with
      | zero => omega
      | succ k1 =>
      clear hk hX hb2 hrd hcell hc1 hc2 hc3 hdrop
      cases b with
      | true =>
        go_wp2_with (go_at_fn g; refine hcall.mono ?_; rintro e w' ⟨rfl, hb'⟩)
        go_ret
        have h9 : some (i : Int) = some r := by simpa using HX2.out
        exact ⟨by rw [← Option.some.inj h9]; rfl, hb'⟩
      | false =>
        go_wp2_with (go_at_fn g; refine hcall.mono ?_; rintro e w' ⟨rfl, hb'⟩)
        go_roundg k1
        case measure => have := HK.out; omega
        case rel =>
          refine ⟨i + 1, by go_num, ⟨by have := HK.out; omega⟩, ⟨?_⟩, ⟨hb'⟩⟩
          have h9 := HX2.out
          rw [if_neg (by decide)] at h9
          rw [show ((i + 1 : Nat) : Int) = (i : Int) + 1 by omega]
          exact h9
    · have e : i = l0.length := by omega
      have hltz : ¬ (i : Int) < (l0.length : Int) := by omega
      clear hk hj
      have HE := Aside0.mk e
      clear e
      go_wp2
      go_ret
      have e := HE.out
      subst e
      have hX := HX.out
      rw [List.drop_length, idxFrom] at hX
      exact ⟨by rw [← Option.some.inj hX]; rfl, HB.out⟩

/-! ### impl_HeadOk_1: function 81 -/
-- thin
def impl_HeadOk_1.f (k : Nat) (a0_0 : ByteArray) (a0_1 : ByteArray) (a0_2 : Bool) : Option (Bool) := (impl_FieldOk.f k a0_0 a0_1 a0_2).bind fun t385 => (some (!t385))
theorem impl_HeadOk_1.mono : ∀ a0 a1 a2 k, LeO (impl_HeadOk_1.f k a0 a1 a2) (impl_HeadOk_1.f (k + 1) a0 a1 a2) := by
 intro a0 a1 a2 k
 unfold impl_HeadOk_1.f
 have m0 := @impl_FieldOk.mono
 exact zm
set_option maxHeartbeats 8000000 in
set_option maxRecDepth 100000 in
theorem impl_HeadOk_1.calls (k : Nat) (a0_0 : ByteArray) (a0_1 : ByteArray) (a0_2 : Bool) (r : Bool) (w : World) (h : impl_HeadOk_1.f k a0_0 a0_1 a0_2 = some r) :
  Calls Try.prog 81 #[.agg #[.string a0_0, .string a0_1, .bool a0_2]] w fun e w' => e = .returned (.bool r) ∧ Below w.heap.size w w' := by
 have hu36 := Try.underlying36
 have HB := Aside0.mk (Below.refl w.heap.size w)
 have H : ((impl_FieldOk.f k a0_0 a0_1 a0_2).bind fun t385 => (some (!t385))) = some r := h
 clear h
 obtain ⟨t385, A2, H⟩ := ob H
 (try dsimp only at H)
 obtain rfl := Option.some.inj H
 go_enter Try.func81, Try.ntmps81
 go_wp2_with (first | ((with_reducible refine gd 1 rfl ?_); refine bx (N := 1) (cs := #[.string a0_0, .string a0_1, .bool a0_2]) (t := 36) ?_; intro gb384 hg w3 hbox hb; have BK384 := Aside0.mk (hbox); have GW384 := gw HB hg; have GE384 := GW384; replace HB := Aside0.mk (below_step (zb HB) hb); clear hb hbox hg; obtain ⟨hcz4_0, hcz4_1, hcz4_2, hfz4_0, hfz4_1, hfz4_2⟩ := c3 BK384) | ((with_reducible refine gq 55 rfl ?_); refine gl (some 4) Try.func55 #[.agg #[.string a0_0, .string a0_1, .bool a0_2]] ?_; (with_reducible refine (impl_FieldOk.calls k a0_0 a0_1 a0_2 t385 _ A2.out).mono ?_); rintro e w5 ⟨rfl, hb⟩; refine ⟨_, rfl, ?_⟩; replace BK384 := kb BK384 hb; replace HB := Aside0.mk (below_step (zb HB) hb); (try clear hb)))
 go_ret
 exact ⟨ze, zb HB⟩

/-! ### ContainsFunc_Field: function 53 -/
-- by hand
set_option maxHeartbeats 4000000 in
set_option maxRecDepth 100000 in
theorem ContainsFunc_calls (g : Nat) (lb : Array Value) (p : S36 → Option Bool) (eg : ∀ args w, (callFunc g args).run Try.prog w = .ok (.enter g args) w) (A0 : Option Addr) (c0 : Nat) (l0 : List (S36)) (r : Int) (w : World) (hr0 : Kd.C k36 w A0 l0.length l0) (hc0 : l0.length ≤ c0)
    (hp : PredIs Try.prog g lb p w) (h : idxFrom p l0 0 = some r) (hl : l0.length ≤ 1000000000) :
    Calls Try.prog 53 #[.slice A0 l0.length c0, .func (.func g) #[] lb] w fun e w' => e = .returned (.bool (decide (0 ≤ r))) ∧ Below w.heap.size w w' := by
  go_enter Try.func53, Try.ntmps53
  go_wp2_with (go_at_call 71; refine (IndexFunc_calls g lb p eg A0 c0 l0 r _ hr0 hc0 hp h hl).mono ?_; rintro e w' ⟨rfl, hb'⟩)
  go_ret
  exact ⟨rfl, hb'⟩
/-- What function g says of a field. -/
def ContainsFunc_Field.p (k : Nat) (g : Nat) (x : S36) : Option Bool := if g = 54 then impl_TableOk_1.f k x.f0 x.f1 x.f2 else if g = 81 then impl_HeadOk_1.f k x.f0 x.f1 x.f2 else none
def ContainsFunc_Field.known (g : Nat) : Prop := g = 54 ∨ g = 81 ∨ False
instance (g : Nat) : Decidable (ContainsFunc_Field.known g) := by unfold ContainsFunc_Field.known; infer_instance
def ContainsFunc_Field.f (k : Nat) (l0 : List (S36)) (a1 : Nat) : Option Bool :=
  if l0.length ≤ 1000000000 ∧ ContainsFunc_Field.known a1 then (idxFrom (ContainsFunc_Field.p k a1) l0 0).bind fun r => some (decide (0 ≤ r)) else none
theorem idxFrom_mono {p q : S36 → Option Bool} (hpq : ∀ x, LeO (p x) (q x)) : ∀ (l : List (S36)) (i : Int), LeO (idxFrom p l i) (idxFrom q l i)
  | [], _ => fun r h => h
  | x :: l, i => by
    intro r h
    unfold idxFrom at h ⊢
    obtain ⟨b, hb, hr⟩ := Option.bind_eq_some_iff.1 h
    rw [hpq x b hb]
    simp only [Option.bind_some]
    cases b with
    | true => exact hr
    | false => exact idxFrom_mono hpq l (i + 1) r hr
theorem ContainsFunc_Field.p_mono (k g : Nat) (x : S36) : LeO (ContainsFunc_Field.p k g x) (ContainsFunc_Field.p (k + 1) g x) := by
  unfold ContainsFunc_Field.p
  refine LeO.ite (impl_TableOk_1.mono _ _ _ _) ?_
  refine LeO.ite (impl_HeadOk_1.mono _ _ _ _) ?_
  exact LeO.refl _
theorem ContainsFunc_Field.mono : ∀ a0 a1 k, LeO (ContainsFunc_Field.f k a0 a1) (ContainsFunc_Field.f (k + 1) a0 a1) := by
  intro a0 a1 k
  unfold ContainsFunc_Field.f
  refine LeO.ite ?_ (LeO.refl _)
  exact LeO.bind (idxFrom_mono (fun x => ContainsFunc_Field.p_mono k a1 x) a0 0) (fun _ => LeO.refl _)
theorem ContainsFunc_Field.enters (a1 : Nat) (h : ContainsFunc_Field.known a1) : ∀ args w, (callFunc a1 args).run Try.prog w = .ok (.enter a1 args) w := by
  unfold ContainsFunc_Field.known at h
  rcases h with e | h
  · subst e; exact enters_of Try.func54 (by kernel_rfl) rfl
  rcases h with e | h
  · subst e; exact enters_of Try.func81 (by kernel_rfl) rfl
  cases h
theorem ContainsFunc_Field.pred (k a1 : Nat) (w : World) : PredIs Try.prog a1 #[] (ContainsFunc_Field.p k a1) w := by
  intro W x b hW h
  unfold ContainsFunc_Field.p at h
  split at h
  · rename_i e; subst e; rw [Array.append_empty]; exact (impl_TableOk_1.calls k x.f0 x.f1 x.f2 b W h).mono fun e w2 h2 => ⟨h2.1, below_step hW h2.2⟩
  split at h
  · rename_i e; subst e; rw [Array.append_empty]; exact (impl_HeadOk_1.calls k x.f0 x.f1 x.f2 b W h).mono fun e w2 h2 => ⟨h2.1, below_step hW h2.2⟩
  cases h
set_option maxHeartbeats 4000000 in
set_option maxRecDepth 100000 in
theorem ContainsFunc_Field.calls (k : Nat) (A0 : Option Addr) (c0 : Nat) (l0 : List (S36)) (a1 : Nat) (r : Bool) (w : World) (hr0 : Kd.C k36 w A0 l0.length l0) (hc0 : l0.length ≤ c0) (h : ContainsFunc_Field.f k l0 a1 = some r) :
    Calls Try.prog 53 #[.slice A0 l0.length c0, .func (.func a1) #[] #[]] w fun e w' => e = .returned (.bool r) ∧ Below w.heap.size w w' := by
  unfold ContainsFunc_Field.f at h
  split at h
  case isFalse => cases h
  rename_i hl
  obtain ⟨i, hi, hr⟩ := Option.bind_eq_some_iff.1 h
  obtain rfl := Option.some.inj hr
  exact ContainsFunc_calls a1 #[] _ (ContainsFunc_Field.enters a1 hl.2) A0 c0 _ i w hr0 hc0 (ContainsFunc_Field.pred k a1 w) hi hl.1

end Go.Proofs.Ytdhahifdcoinhaa.PFnHeadFixed
