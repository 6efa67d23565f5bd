-- WRITTEN BY a turned print (wip/tools of the prover's repo)
import Derived.Test.YtlpibelofcabhaaPFnHeadBackx0
import Derived.Test.YtlpibelofcabhaaPFnHeadBackx4
import Derived.Test.YtlpibelofcabhaaPFnHeadBackx5
import Derived.Test.YtlpibelofcabhaaPFnHeadBackx7
import Derived.Test.YtlpibelofcabhaaPFnHeadBackx8
import Derived.Test.YtlpibelofcabhaaPFnHeadBackx10
import Derived.Test.YtlpibelofcabhaaPFnHeadBackx13
namespace Go.Proofs.Ytlpibelofcabhaa.PFnHeadBack
open Go.RowKit Go.Proofs.YtlpibelofcabhaaW.PrintWords Go.Proofs.YtlpibelofcabhaaW.PrintLast Go.Proofs.YtlpibelofcabhaaW.PrintMore Go.Proofs.Ytlpibelofcabhaa.Lm
attribute [local go_sem] max2_int min2_int max_two min_two max_three min_three max_four min_four   -- for this text's walks alone
set_option linter.unusedVariables false
set_option linter.unusedSimpArgs false

/-! ### impl_HeadRead: function 17 -/
-- thin
mutual
def impl_HeadRead.j0 : Nat → ByteArray → Bool → List (S88) → Int → Option ((List (S88)) × Int × (List (S88)) × Bool)
 | 0, _, _, _, _ => none
 | k + 1, x1, x19, x529000, x529001 => if x19 = true then (some (([] : List (S88)), 0, ([] : List (S88)), false)) else (impl_HeadRead.l0 k x1 ([] : List (S88)) x529000 x529001)
def impl_HeadRead.l0 : Nat → ByteArray → List (S88) → List (S88) → Int → Option ((List (S88)) × Int × (List (S88)) × Bool)
 | 0, _, _, _, _ => none
 | k + 1, x1, x7, x529000, x529001 => if x1.toList = ([] : List UInt8) then ((impl_Table_clone.f x529000 x529001).bind fun bt531 => (some (bt531.1, bt531.2, x7, true))) else ((impl_Table_field.f k x529000 x529001 x1).bind fun bt535 => (if bt535.2.2.2.2.2 = true then (impl_HeadRead.j2 k x1 x7 bt535.2.2.2.1 bt535.2.2.2.2.1 ((x7.length : Int) == 6) x529000 x529001 bt535.1 bt535.2.1 bt535.2.2.1) else (impl_HeadRead.j2 k x1 x7 bt535.2.2.2.1 bt535.2.2.2.2.1 true x529000 x529001 bt535.1 bt535.2.1 bt535.2.2.1)))
def impl_HeadRead.j2 : Nat → ByteArray → List (S88) → Int → Int → Bool → List (S88) → Int → ByteArray → ByteArray → Bool → Option ((List (S88)) × Int × (List (S88)) × Bool)
 | 0, _, _, _, _, _, _, _, _, _, _ => none
 | k + 1, x1, x7, x9, x10, x37, x529000, x529001, x542000, x542001, x542002 => if x37 = true then (some (([] : List (S88)), 0, ([] : List (S88)), false)) else (if x10 = 6 then ((impl_Table_add.f k x529000 x529001 x542000 x542001 x542002).bind fun bt542 => (if x7.length < 3518437208883 then (if 0 ≤ x9 then (if x9 ≤ (x1.size : Int) then (impl_HeadRead.l0 k (x1.extract (x9 : Int).toNat x1.size) (x7 ++ [(⟨x542000, x542001, x542002⟩ : S88)]) bt542.1 bt542.2) else (none)) else (none)) else (none))) else (if x7.length < 3518437208883 then (if 0 ≤ x9 then (if x9 ≤ (x1.size : Int) then (impl_HeadRead.l0 k (x1.extract (x9 : Int).toNat x1.size) (x7 ++ [(⟨x542000, x542001, x542002⟩ : S88)]) x529000 x529001) else (none)) else (none)) else (none)))
end
def impl_HeadRead.f (k : Nat) (l0_0 : List (S88)) (a0_1 : Int) (a1 : ByteArray) : Option ((List (S88)) × Int × (List (S88)) × Bool) := (impl_TableOk.f k l0_0 a0_1).bind fun t530 => (if t530 = true then (impl_HeadRead.j0 k a1 (decide ((a1.size : Int) > 250)) l0_0 a0_1) else (impl_HeadRead.j0 k a1 true l0_0 a0_1))
theorem impl_HeadRead.mono_l : ∀ k, (∀ y0 y1 y2 y3, LeO (impl_HeadRead.j0 k y0 y1 y2 y3) (impl_HeadRead.j0 (k + 1) y0 y1 y2 y3)) ∧ (∀ y0 y1 y2 y3, LeO (impl_HeadRead.l0 k y0 y1 y2 y3) (impl_HeadRead.l0 (k + 1) y0 y1 y2 y3)) ∧ (∀ y0 y1 y2 y3 y4 y5 y6 y7 y8 y9, LeO (impl_HeadRead.j2 k y0 y1 y2 y3 y4 y5 y6 y7 y8 y9) (impl_HeadRead.j2 (k + 1) y0 y1 y2 y3 y4 y5 y6 y7 y8 y9))
 | 0 => ⟨fun _ _ _ _ r h => by simp [impl_HeadRead.j0] at h, fun _ _ _ _ r h => by simp [impl_HeadRead.l0] at h, fun _ _ _ _ _ _ _ _ _ _ r h => by simp [impl_HeadRead.j2] at h⟩
 | k + 1 => by
  obtain ⟨ih0, ih1, ih2⟩ := impl_HeadRead.mono_l k
  refine ⟨?_, ?_, ?_⟩
  ·intro y0 y1 y2 y3
   unfold impl_HeadRead.j0
   have m0 := @impl_TableOk.mono
   have m1 := @impl_Table_add.mono
   have m2 := @impl_Table_field.mono
   exact zm
  ·intro y0 y1 y2 y3
   unfold impl_HeadRead.l0
   have m0 := @impl_TableOk.mono
   have m1 := @impl_Table_add.mono
   have m2 := @impl_Table_field.mono
   exact zm
  ·intro y0 y1 y2 y3 y4 y5 y6 y7 y8 y9
   unfold impl_HeadRead.j2
   have m0 := @impl_TableOk.mono
   have m1 := @impl_Table_add.mono
   have m2 := @impl_Table_field.mono
   exact zm
theorem impl_HeadRead.mono : ∀ a0 a1 a2 k, LeO (impl_HeadRead.f k a0 a1 a2) (impl_HeadRead.f (k + 1) a0 a1 a2) := by
 intro a0 a1 a2 k
 obtain ⟨ih0, ih1, ih2⟩ := impl_HeadRead.mono_l k
 unfold impl_HeadRead.f
 have m0 := @impl_TableOk.mono
 have m1 := @impl_Table_add.mono
 have m2 := @impl_Table_field.mono
 exact zm
set_option maxHeartbeats 8000000 in
set_option maxRecDepth 100000 in
theorem impl_HeadRead.calls (k : Nat) (P0_0_ : Nat → Prop) (A0_0 : Option Addr) (c0_0 : Nat) (l0_0 : List (S88)) (a0_1 : Int) (a1 : ByteArray) (r1 : List (S88)) (r2 : Int) (r3 : List (S88)) (r4 : Bool) (w : World) (hs0_0 : Kd.V k88 88 w w.heap.size (fun k_ => P0_0_ k_) (.slice A0_0 l0_0.length c0_0) l0_0) (h : impl_HeadRead.f k l0_0 a0_1 a1 = some (r1, r2, r3, r4)) :
  Calls Try.prog 17 #[.agg #[.slice A0_0 l0_0.length c0_0, .int .i64 a0_1], .string a1] w fun e w' => ∃ v0_ v2_ : Value, e = .returned (.tuple #[.agg #[v0_, .int .i64 r2], v2_, .bool r4]) ∧ Kd.R k88 88 w' w.heap.size (fun k_ => (w.heap.size ≤ k_) ∧ some k_ ≠ (v2_ : Value).ownBlock) v0_ r1 ∧ Kd.R k88 88 w' w.heap.size (fun k_ => (w.heap.size ≤ k_) ∧ some k_ ≠ (v0_ : Value).ownBlock) v2_ r3 ∧ Below w.heap.size w w' := by
 have hu25 := Try.underlying25
 have hu88 := Try.underlying88
 have HO0_0 := Aside0.mk (show Kd.V k88 88 w w.heap.size (fun k_ => (P0_0_ k_ ∨ w.heap.size ≤ k_)) (.slice A0_0 l0_0.length c0_0) l0_0 from Kd.V_mono hs0_0 (fun k_ hk => .inl hk))
 have HB := Aside0.mk (Below.refl w.heap.size w)
 have H : ((impl_TableOk.f k l0_0 a0_1).bind fun t530 => (if t530 = true then (impl_HeadRead.j0 k a1 (decide ((a1.size : Int) > 250)) l0_0 a0_1) else (impl_HeadRead.j0 k a1 true l0_0 a0_1))) = some (r1, r2, r3, r4) := h
 clear h
 have HC3 := Aside0.mk H
 clear H
 go_enter Try.func17, Try.ntmps17
 go_upto_region 1 with (first | ((with_reducible refine gd 2 rfl ?_); (try (refine gate_guard (by rfl) ?_; dsimp only)); refine bx (N := 2) (cs := #[.slice A0_0 l0_0.length c0_0, .int .i64 a0_1]) (t := 25) ?_; intro gb528 hg w4 hbox hb; replace HO0_0 := Aside0.mk (Kd.V_below (Kd.V_elderB (zV HO0_0) gb528 (Nat.le_of_eq hg.symm)) hb); have BK528 := Aside0.mk (hbox); have GW528 := gw HB hg; have GE528 := GW528; replace HB := Aside0.mk (below_step (zb HB) hb); clear hb hbox hg) | ((with_reducible refine gd 4 rfl ?_); (try (refine gate_guard (by rfl) ?_; dsimp only)); refine bx (N := 4) (cs := #[.slice none 0 0, .int .i64 0]) (t := 25) ?_; intro gb529 hg w5 hbox hb; replace HO0_0 := Aside0.mk (Kd.V_below (Kd.V_elderB (zV HO0_0) gb529 (Nat.le_of_eq hg.symm)) hb); have BK529 := Aside0.mk (hbox); have GW529 := gw HB hg; have GE529 := GW529; replace HB := Aside0.mk (below_step (zb HB) hb); obtain ⟨NB528_529, NB529_528⟩ := nb BK528 hg; replace BK528 := kb BK528 hb; clear hb hbox hg))
 (try simp only [Act.put, s1, s2, s3])
 go_cut [19] (fun v19 wc => ∃ (kq : Nat) (x19_2 : Bool), v19 = .bool x19_2 ∧ Aside0 (impl_HeadRead.j0 kq a1 x19_2 l0_0 a0_1 = some (r1, r2, r3, r4)) ∧ Aside0 (kq ≤ k) ∧ Aside0 (Kd.V k88 88 wc w.heap.size (fun k_ => (P0_0_ k_ ∨ w.heap.size ≤ k_) ∧ k_ ≠ gb528 ∧ k_ ≠ gb529) (.slice A0_0 l0_0.length c0_0) l0_0) ∧ Aside0 (wc.heap[gb528]? = some (.cells #[(.slice A0_0 l0_0.length c0_0), .int .i64 a0_1] 25 (0, 0))) ∧ Aside0 (wc.heap[gb529]? = some (.cells #[(.slice none 0 0), .int .i64 0] 25 (0, 0))) ∧ Aside0 (Below w.heap.size w wc))
 case first =>
  have H := HC3.out
  clear HC3
  obtain ⟨t530, A6, H⟩ := ob H
  (try dsimp only at H)
  by_cases c7 : t530 = true
  ·subst c7
   rw [if_pos rfl] at H
   have H' := Aside0.mk H
   clear H
   have hnb8 := NB528_529.out
   have hnc8 := NB529_528.out
   obtain ⟨hcz9_0, hcz9_1, hfz9_0, hfz9_1⟩ := c2 BK528
   go_wp2_with (first | ((with_reducible refine gq 19 rfl ?_); refine gl (some 13) Try.func19 #[.agg #[.slice A0_0 l0_0.length c0_0, .int .i64 a0_1]] ?_; (with_reducible refine (impl_TableOk.calls k _ _ l0_0 a0_1 true _ ?side1 ?side2 A6.out).mono ?_); (case side1 => exact zc (Kd.V_reads' HO0_0.out).2.2); (case side2 => exact (Kd.V_reads' HO0_0.out).2.1); rintro e w10 ⟨rfl, hb⟩; refine ⟨_, rfl, ?_⟩; replace HO0_0 := Aside0.mk (Kd.V_below (zV HO0_0) hb); replace BK528 := kb BK528 hb; replace BK529 := kb BK529 hb; replace HB := Aside0.mk (below_step (zb HB) hb); (try clear hb)))
   go_meet
   case rel => exact ⟨_, (decide ((a1.size : Int) > 250)), zs, H', ⟨by first | omega | exact Nat.le_refl _⟩, ⟨by (with_reducible repeat (first | apply Kd.V_alloc | apply Kd.V_drewN | apply Kd.V_drew)); exact Kd.V_mono HO0_0.out (fun _ hk => ⟨hk.1.1, ⟨hk.1.2, hk.2⟩⟩)⟩, ⟨by exact zk BK528⟩, ⟨by exact zk BK529⟩, ⟨zb HB⟩⟩
  ·replace c7 := Bool.eq_false_iff.mpr c7
   subst c7
   rw [if_neg (show ¬ (false = true) by decide)] at H
   have H' := Aside0.mk H
   clear H
   have hnb11 := NB528_529.out
   have hnc11 := NB529_528.out
   obtain ⟨hcz12_0, hcz12_1, hfz12_0, hfz12_1⟩ := c2 BK528
   go_wp2_with (first | ((with_reducible refine gq 19 rfl ?_); refine gl (some 13) Try.func19 #[.agg #[.slice A0_0 l0_0.length c0_0, .int .i64 a0_1]] ?_; (with_reducible refine (impl_TableOk.calls k _ _ l0_0 a0_1 false _ ?side1 ?side2 A6.out).mono ?_); (case side1 => exact zc (Kd.V_reads' HO0_0.out).2.2); (case side2 => exact (Kd.V_reads' HO0_0.out).2.1); rintro e w13 ⟨rfl, hb⟩; refine ⟨_, rfl, ?_⟩; replace HO0_0 := Aside0.mk (Kd.V_below (zV HO0_0) hb); replace BK528 := kb BK528 hb; replace BK529 := kb BK529 hb; replace HB := Aside0.mk (below_step (zb HB) hb); (try clear hb)))
   go_meet
   case rel => exact ⟨_, (true), zs, H', ⟨by first | omega | exact Nat.le_refl _⟩, ⟨by (with_reducible repeat (first | apply Kd.V_alloc | apply Kd.V_drewN | apply Kd.V_drew)); exact Kd.V_mono HO0_0.out (fun _ hk => ⟨hk.1.1, ⟨hk.1.2, hk.2⟩⟩)⟩, ⟨by exact zk BK528⟩, ⟨by exact zk BK529⟩, ⟨zb HB⟩⟩
 case rest =>
  clear HC3
  try clear c1
  try clear p2
  try clear c7
  try clear c8
  try clear c11
  try clear hcz12_0
  try clear hcz12_1
  try clear hcz9_0
  try clear hcz9_1
  try clear hfz12_0
  try clear hfz12_1
  try clear hfz9_0
  try clear hfz9_1
  obtain ⟨kq, x19_2, rfl, HA, HJ2, HO_529000, BK528, BK529, HB⟩ := hcut
  cases kq with
  | zero => exact absurd HA.out (by simp [impl_HeadRead.j0])
  | succ kj2 =>
   have H := HA.out
   clear HA
   simp only [impl_HeadRead.j0] at H
   by_cases c14 : x19_2 = true
   ·subst c14
    rw [if_pos rfl] at H
    simp only [Option.some.injEq, Prod.mk.injEq] at H
    obtain ⟨rfl, rfl, rfl, rfl⟩ := H
    have hnb15 := NB529_528.out
    have hnc15 := NB528_529.out
    obtain ⟨hcz16_0, hcz16_1, hfz16_0, hfz16_1⟩ := c2 BK529
    go_wp2
    refine bodyPost_ret (results_ctt rfl _ _ gb529 25 #[.slice none 0 0, .int .i64 0] (0, 0) _ rfl (by (with_reducible repeat (first | refine blk_drewN ?_ _ | refine blk_drew ?_ | refine blk_alloc ?_ _)); refine blk_put (cs := #[.slice none 0 0, .int .i64 0]) ?_ 1 _ rfl; (with_reducible repeat (first | refine blk_drewN ?_ _ | refine blk_drew ?_ | refine blk_alloc ?_ _)); refine blk_put (cs := #[.slice none 0 0, .int .i64 0]) ?_ 0 _ rfl; exact zk BK529) Try.underlying25 rfl (by kernel_rfl)) rfl ?_
    exact ⟨_, _, ze, by first | exact Kd.R_nil _ _ _ _ _ | exact Kd.N_nil _ _ _ _ _ | exact Kd.V_nil _ _ _ _ _ | exact Kd.Q_nil _ _ _ _ _ | exact Kd.S_nil _ _ _ _ _, by first | exact Kd.R_nil _ _ _ _ _ | exact Kd.N_nil _ _ _ _ _ | exact Kd.V_nil _ _ _ _ _ | exact Kd.Q_nil _ _ _ _ _ | exact Kd.S_nil _ _ _ _ _, zb HB⟩
   ·replace c14 := Bool.eq_false_iff.mpr c14
    subst c14
    rw [if_neg (show ¬ (false = true) by decide)] at H
    have H' := Aside0.mk H
    clear H
    go_wp2
    go_loopg [1, 7] kj2 (fun kq v1 v7 w' => ∃ (x1_2 : ByteArray) (x7_2 : List (S88)) (x529000_2 : List (S88)) (x529001_2 : Int) (x530001_2 : Int) (u529000 : Value), v1 = .string x1_2 ∧ Aside0 (impl_HeadRead.l0 kq x1_2 x7_2 x529000_2 x529001_2 = some (r1, r2, r3, r4)) ∧ Aside0 (kq ≤ kj2) ∧ Aside0 (Kd.R k88 88 w' w.heap.size (fun k_ => (w.heap.size ≤ k_)) v7 x7_2) ∧ Aside0 (Kd.V k88 88 w' w.heap.size (fun k_ => (P0_0_ k_ ∨ w.heap.size ≤ k_) ∧ some k_ ≠ (v7 : Value).ownBlock ∧ k_ ≠ gb528 ∧ k_ ≠ gb529) u529000 x529000_2) ∧ Aside0 (w'.heap[gb528]? = some (.cells #[u529000, .int .i64 x529001_2] 25 (0, 0))) ∧ Aside0 (w'.heap[gb529]? = some (.cells #[(.slice none 0 0), .int .i64 x530001_2] 25 (0, 0))) ∧ Aside0 (Below w.heap.size w w'))
    case atStart => exact ⟨(a1), (([] : List (S88))), (l0_0), (a0_1), (0), (.slice A0_0 l0_0.length c0_0), zs, H', ⟨Nat.le_refl _⟩, ⟨by first | exact Kd.R_nil _ _ _ _ _ | exact Kd.N_nil _ _ _ _ _ | exact Kd.V_nil _ _ _ _ _ | exact Kd.Q_nil _ _ _ _ _ | exact Kd.S_nil _ _ _ _ _⟩, ⟨by (with_reducible repeat (first | apply Kd.V_alloc | apply Kd.V_drewN | apply Kd.V_drew)); exact Kd.V_mono HO_529000.out (fun _ hk => ⟨hk.1, ⟨(by simp [Value.ownBlock]), ⟨hk.2.1, hk.2.2⟩⟩⟩)⟩, ⟨by exact zk BK528⟩, ⟨by exact zk BK529⟩, ⟨zb HB⟩⟩
    case round =>
     clear H'
     try clear c1
     try clear p2
     try clear c7
     try clear c8
     try clear c11
     try clear c14
     try clear c15
     try clear hcz12_0
     try clear hcz12_1
     try clear hcz16_0
     try clear hcz16_1
     try clear hcz9_0
     try clear hcz9_1
     try clear hfz12_0
     try clear hfz12_1
     try clear hfz16_0
     try clear hfz16_1
     try clear hfz9_0
     try clear hfz9_1
     try clear p2
     obtain ⟨x1_2, x7_2, x529000_2, x529001_2, x530001_2, u529000, rfl, HA, HK2, HO_7, HO_529000, BK528, BK529, HB⟩ := hrel
     cases gk with
     | zero => exact absurd HA.out (by simp [impl_HeadRead.l0])
     | succ k2 =>
      have H := HA.out
      clear HA
      simp only [impl_HeadRead.l0] at H
      replace H := sp H
      rcases H with ⟨c17, H⟩ | ⟨c17, H⟩
      ·skip
       have c17b0 : (x1_2.toList == ([] : List UInt8)) = true := beq_iff_eq.mpr c17
       have c17b1 : (x1_2.toList != ([] : List UInt8)) = false := bne_eq_false_iff_eq.mpr c17
       clear c17
       obtain ⟨⟨t531, t534⟩, A18, H⟩ := ob H
       (try dsimp only at H)
       simp only [Option.some.injEq, Prod.mk.injEq] at H
       obtain ⟨rfl, rfl, rfl, rfl⟩ := H
       have hnb19 := NB528_529.out
       have hnc19 := NB529_528.out
       obtain ⟨hcz20_0, hcz20_1, hfz20_0, hfz20_1⟩ := c2 BK528
       obtain ⟨Ao21, co21, eo21⟩ := Kd.V_slice HO_529000.out
       subst eo21
       go_wp2_with (first | ((with_reducible refine gq 60 rfl ?_); refine gl (some 52) Try.func60 #[.agg #[.slice Ao21 x529000_2.length co21, .int .i64 x529001_2]] ?_; (with_reducible refine (impl_Table_clone.calls _ _ x529000_2 x529001_2 t531 t534 _ ?side1 ?side2 A18.out).mono ?_); (case side1 => exact zc (Kd.V_reads' HO_529000.out).2.2); (case side2 => exact (Kd.V_reads' HO_529000.out).2.1); rintro e w22 ⟨v532, rfl, ho0, hb⟩; refine ⟨_, rfl, ?_⟩; replace HO_529000 := Aside0.mk (Kd.V_elder' (zV HO_529000) (Kd.R_base ho0) hb); have HO533 := Aside0.mk (Kd.R_lower (Kd.R_new' (Kd.R_newM (M := fun k_ => (w.heap.size ≤ k_)) ho0 (below_size (zb HB)) (fun k_ h_ => h_)) (Kd.R_lt (zr HO_7))) (below_size (zb HB))); replace HO_7 := Aside0.mk (Kd.R_elder' (zr HO_7) (Kd.R_base ho0) hb); replace BK528 := kb BK528 hb; replace BK529 := kb BK529 hb; replace HB := Aside0.mk (below_step (zb HB) hb); (try clear hb); (try clear ho0); obtain ⟨Ao23, co23, eo23⟩ := Kd.R_slice HO533.out; subst eo23; obtain ⟨hcz24_0, hcz24_1, hfz24_0, hfz24_1⟩ := c2 BK529))
       refine bodyPost_ret (results_ctt rfl _ _ gb529 25 #[.slice Ao23 t531.length co23, .int .i64 t534] (0, 0) _ rfl (by (with_reducible repeat (first | refine blk_drewN ?_ _ | refine blk_drew ?_ | refine blk_alloc ?_ _)); refine blk_put (cs := #[.slice Ao23 t531.length co23, .int .i64 x530001_2]) ?_ 1 _ rfl; (with_reducible repeat (first | refine blk_drewN ?_ _ | refine blk_drew ?_ | refine blk_alloc ?_ _)); refine blk_put (cs := #[.slice none 0 0, .int .i64 x530001_2]) ?_ 0 _ rfl; exact zk BK529) Try.underlying25 rfl (by kernel_rfl)) rfl ?_
       exact ⟨_, _, ze, by (with_reducible repeat (first | apply Kd.R_alloc | apply Kd.R_drewN | apply Kd.R_drew)); exact Kd.R_mono (Kd.R_far (p := ⟨gb529, 1, none⟩) (Kd.R_far (p := ⟨gb529, 0, none⟩) (Kd.R_types HO533.out BK529.out (by decide)) (fun _ hk => hk.2) (.slice Ao23 t531.length co23)) (fun _ hk => hk.2) (.int .i64 t534)) (fun _ hk => ⟨hk.1.1.1, hk.1.2⟩), by (with_reducible repeat (first | apply Kd.R_alloc | apply Kd.R_drewN | apply Kd.R_drew)); exact Kd.R_mono (Kd.R_far (p := ⟨gb529, 1, none⟩) (Kd.R_far (p := ⟨gb529, 0, none⟩) (Kd.R_types HO_7.out BK529.out (by decide)) (fun _ hk => hk.2) (.slice Ao23 t531.length co23)) (fun _ hk => hk.2) (.int .i64 t534)) (fun _ hk => ⟨hk.1.1, hk.1.2⟩), zb HB⟩
      ·skip
       have c17b0 : (x1_2.toList == ([] : List UInt8)) = false := beq_eq_false_iff_ne.mpr c17
       have c17b1 : (x1_2.toList != ([] : List UInt8)) = true := bne_iff_ne.mpr c17
       obtain ⟨⟨t535, t536, t537, t538, t539, t540⟩, A25, H⟩ := ob H
       (try dsimp only at H)
       have HC26 := Aside0.mk H
       clear H
       have hnb27 := NB528_529.out
       have hnc27 := NB529_528.out
       obtain ⟨hcz28_0, hcz28_1, hfz28_0, hfz28_1⟩ := c2 BK528
       obtain ⟨Ao29, co29, eo29⟩ := Kd.V_slice HO_529000.out
       subst eo29
       go_upto_region 6 with (first | ((with_reducible refine gq 58 rfl ?_); refine gl (some 26) Try.func58 #[.agg #[.slice Ao29 x529000_2.length co29, .int .i64 x529001_2], .string x1_2] ?_; (with_reducible refine (impl_Table_field.calls k2 _ _ x529000_2 x529001_2 x1_2 t535 t536 t537 t538 t539 t540 _ ?side1 ?side2 A25.out).mono ?_); (case side1 => exact zc (Kd.V_reads' HO_529000.out).2.2); (case side2 => exact (Kd.V_reads' HO_529000.out).2.1); rintro e w30 ⟨rfl, hb⟩; refine ⟨_, rfl, ?_⟩; replace HO_7 := Aside0.mk (Kd.R_below (zr HO_7) hb); replace HO_529000 := Aside0.mk (Kd.V_below (zV HO_529000) hb); replace BK528 := kb BK528 hb; replace BK529 := kb BK529 hb; replace HB := Aside0.mk (below_step (zb HB) hb); (try clear hb)) | ((with_reducible refine gd 8 rfl ?_); (try (refine gate_guard (by rfl) ?_; dsimp only)); refine bx (N := 8) (cs := #[.string (⟨#[]⟩ : ByteArray), .string (⟨#[]⟩ : ByteArray), .bool false]) (t := 88) ?_; intro gb541 hg w31 hbox hb; replace HO_7 := Aside0.mk (Kd.R_below (Kd.R_elderB (zr HO_7) gb541 (Nat.le_of_eq hg.symm)) hb); replace HO_529000 := Aside0.mk (Kd.V_below (Kd.V_elderB (zV HO_529000) gb541 (Nat.le_of_eq hg.symm)) hb); have BK541 := Aside0.mk (hbox); have GW541 := gw HB hg; have GE541 := GW541; replace HB := Aside0.mk (below_step (zb HB) hb); obtain ⟨NB528_541, NB541_528⟩ := nb BK528 hg; replace BK528 := kb BK528 hb; obtain ⟨NB529_541, NB541_529⟩ := nb BK529 hg; replace BK529 := kb BK529 hb; clear hb hbox hg; have hnb32 := NB541_528.out; have hnc32 := NB528_541.out; have hnb33 := NB541_529.out; have hnc33 := NB529_541.out; obtain ⟨hcz34_0, hcz34_1, hcz34_2, hfz34_0, hfz34_1, hfz34_2⟩ := c3 BK541))
       (try simp only [Act.put, s1, s2, s3])
       go_cut [37] (fun v37 wc => ∃ (kq : Nat) (x37_25 : Bool), v37 = .bool x37_25 ∧ Aside0 (impl_HeadRead.j2 kq x1_2 x7_2 t538 t539 x37_25 x529000_2 x529001_2 t535 t536 t537 = some (r1, r2, r3, r4)) ∧ Aside0 (kq ≤ k2) ∧ Aside0 (Kd.R k88 88 wc w.heap.size (fun k_ => (w.heap.size ≤ k_) ∧ k_ ≠ gb541) u7 x7_2) ∧ Aside0 (Kd.V k88 88 wc w.heap.size (fun k_ => (P0_0_ k_ ∨ w.heap.size ≤ k_) ∧ some k_ ≠ (u7 : Value).ownBlock ∧ k_ ≠ gb528 ∧ k_ ≠ gb529 ∧ k_ ≠ gb541) (.slice Ao29 x529000_2.length co29) x529000_2) ∧ Aside0 (wc.heap[gb528]? = some (.cells #[(.slice Ao29 x529000_2.length co29), .int .i64 x529001_2] 25 (0, 0))) ∧ Aside0 (wc.heap[gb529]? = some (.cells #[(.slice none 0 0), .int .i64 x530001_2] 25 (0, 0))) ∧ Aside0 (wc.heap[gb541]? = some (.cells #[.string t535, .string t536, .bool t537] 88 (0, 0))) ∧ Aside0 (Below w.heap.size w wc))
       case first =>
        have H := HC26.out
        clear HC26
        by_cases c35 : t540 = true
        ·subst c35
         rw [if_pos rfl] at H
         have H' := Aside0.mk H
         clear H
         obtain ⟨Ao36, co36, eo36⟩ := Kd.R_slice HO_7.out
         subst eo36
         go_wp2
         go_meet
         case rel => exact ⟨_, (((x7_2.length : Int) == 6)), zs, H', ⟨by have := HJ2.out; have := HK2.out; first | omega | exact Nat.le_refl _⟩, ⟨by (with_reducible repeat (first | apply Kd.R_alloc | apply Kd.R_drewN | apply Kd.R_drew)); exact Kd.R_mono (Kd.R_far (p := ⟨gb541, 2, none⟩) (Kd.R_far (p := ⟨gb541, 1, none⟩) (Kd.R_far (p := ⟨gb541, 0, none⟩) (Kd.R_mono HO_7.out (fun k_ hk => (⟨hk, hk.2⟩ : _ ∧ k_ ≠ gb541))) (fun _ hk => hk.2) (.string t535)) (fun _ hk => hk.2) (.string t536)) (fun _ hk => hk.2) (.bool t537)) (fun _ hk => ⟨hk.1.1, hk.1.2⟩)⟩, ⟨by (with_reducible repeat (first | apply Kd.V_alloc | apply Kd.V_drewN | apply Kd.V_drew)); exact Kd.V_mono (Kd.V_far (p := ⟨gb541, 2, none⟩) (Kd.V_far (p := ⟨gb541, 1, none⟩) (Kd.V_far (p := ⟨gb541, 0, none⟩) (Kd.V_mono HO_529000.out (fun k_ hk => (⟨hk, hk.2⟩ : _ ∧ k_ ≠ gb541))) (fun _ hk => hk.2) (.string t535)) (fun _ hk => hk.2) (.string t536)) (fun _ hk => hk.2) (.bool t537)) (fun _ hk => ⟨hk.1.1.1, ⟨hk.1.1.2.1, ⟨hk.1.1.2.2.1, ⟨hk.1.1.2.2.2, hk.1.2⟩⟩⟩⟩)⟩, ⟨by (with_reducible repeat (first | refine blk_drewN ?_ _ | refine blk_drew ?_ | refine blk_alloc ?_ _)); refine blk_far ?_ NB528_541.out _; (with_reducible repeat (first | refine blk_drewN ?_ _ | refine blk_drew ?_ | refine blk_alloc ?_ _)); refine blk_far ?_ NB528_541.out _; (with_reducible repeat (first | refine blk_drewN ?_ _ | refine blk_drew ?_ | refine blk_alloc ?_ _)); refine blk_far ?_ NB528_541.out _; exact zk BK528⟩, ⟨by (with_reducible repeat (first | refine blk_drewN ?_ _ | refine blk_drew ?_ | refine blk_alloc ?_ _)); refine blk_far ?_ NB529_541.out _; (with_reducible repeat (first | refine blk_drewN ?_ _ | refine blk_drew ?_ | refine blk_alloc ?_ _)); refine blk_far ?_ NB529_541.out _; (with_reducible repeat (first | refine blk_drewN ?_ _ | refine blk_drew ?_ | refine blk_alloc ?_ _)); refine blk_far ?_ NB529_541.out _; exact zk BK529⟩, ⟨by (with_reducible repeat (first | refine blk_drewN ?_ _ | refine blk_drew ?_ | refine blk_alloc ?_ _)); refine blk_put (cs := #[.string t535, .string t536, .bool false]) ?_ 2 _ rfl; (with_reducible repeat (first | refine blk_drewN ?_ _ | refine blk_drew ?_ | refine blk_alloc ?_ _)); refine blk_put (cs := #[.string t535, .string (⟨#[]⟩ : ByteArray), .bool false]) ?_ 1 _ rfl; (with_reducible repeat (first | refine blk_drewN ?_ _ | refine blk_drew ?_ | refine blk_alloc ?_ _)); refine blk_put (cs := #[.string (⟨#[]⟩ : ByteArray), .string (⟨#[]⟩ : ByteArray), .bool false]) ?_ 0 _ rfl; exact zk BK541⟩, ⟨zb HB⟩⟩
        ·replace c35 := Bool.eq_false_iff.mpr c35
         subst c35
         rw [if_neg (show ¬ (false = true) by decide)] at H
         have H' := Aside0.mk H
         clear H
         go_wp2
         go_meet
         case rel => exact ⟨_, (true), zs, H', ⟨by have := HJ2.out; have := HK2.out; first | omega | exact Nat.le_refl _⟩, ⟨by (with_reducible repeat (first | apply Kd.R_alloc | apply Kd.R_drewN | apply Kd.R_drew)); exact Kd.R_mono (Kd.R_far (p := ⟨gb541, 2, none⟩) (Kd.R_far (p := ⟨gb541, 1, none⟩) (Kd.R_far (p := ⟨gb541, 0, none⟩) (Kd.R_mono HO_7.out (fun k_ hk => (⟨hk, hk.2⟩ : _ ∧ k_ ≠ gb541))) (fun _ hk => hk.2) (.string t535)) (fun _ hk => hk.2) (.string t536)) (fun _ hk => hk.2) (.bool t537)) (fun _ hk => ⟨hk.1.1, hk.1.2⟩)⟩, ⟨by (with_reducible repeat (first | apply Kd.V_alloc | apply Kd.V_drewN | apply Kd.V_drew)); exact Kd.V_mono (Kd.V_far (p := ⟨gb541, 2, none⟩) (Kd.V_far (p := ⟨gb541, 1, none⟩) (Kd.V_far (p := ⟨gb541, 0, none⟩) (Kd.V_mono HO_529000.out (fun k_ hk => (⟨hk, hk.2⟩ : _ ∧ k_ ≠ gb541))) (fun _ hk => hk.2) (.string t535)) (fun _ hk => hk.2) (.string t536)) (fun _ hk => hk.2) (.bool t537)) (fun _ hk => ⟨hk.1.1.1, ⟨hk.1.1.2.1, ⟨hk.1.1.2.2.1, ⟨hk.1.1.2.2.2, hk.1.2⟩⟩⟩⟩)⟩, ⟨by (with_reducible repeat (first | refine blk_drewN ?_ _ | refine blk_drew ?_ | refine blk_alloc ?_ _)); refine blk_far ?_ NB528_541.out _; (with_reducible repeat (first | refine blk_drewN ?_ _ | refine blk_drew ?_ | refine blk_alloc ?_ _)); refine blk_far ?_ NB528_541.out _; (with_reducible repeat (first | refine blk_drewN ?_ _ | refine blk_drew ?_ | refine blk_alloc ?_ _)); refine blk_far ?_ NB528_541.out _; exact zk BK528⟩, ⟨by (with_reducible repeat (first | refine blk_drewN ?_ _ | refine blk_drew ?_ | refine blk_alloc ?_ _)); refine blk_far ?_ NB529_541.out _; (with_reducible repeat (first | refine blk_drewN ?_ _ | refine blk_drew ?_ | refine blk_alloc ?_ _)); refine blk_far ?_ NB529_541.out _; (with_reducible repeat (first | refine blk_drewN ?_ _ | refine blk_drew ?_ | refine blk_alloc ?_ _)); refine blk_far ?_ NB529_541.out _; exact zk BK529⟩, ⟨by (with_reducible repeat (first | refine blk_drewN ?_ _ | refine blk_drew ?_ | refine blk_alloc ?_ _)); refine blk_put (cs := #[.string t535, .string t536, .bool false]) ?_ 2 _ rfl; (with_reducible repeat (first | refine blk_drewN ?_ _ | refine blk_drew ?_ | refine blk_alloc ?_ _)); refine blk_put (cs := #[.string t535, .string (⟨#[]⟩ : ByteArray), .bool false]) ?_ 1 _ rfl; (with_reducible repeat (first | refine blk_drewN ?_ _ | refine blk_drew ?_ | refine blk_alloc ?_ _)); refine blk_put (cs := #[.string (⟨#[]⟩ : ByteArray), .string (⟨#[]⟩ : ByteArray), .bool false]) ?_ 0 _ rfl; exact zk BK541⟩, ⟨zb HB⟩⟩
       case rest =>
        clear HC26
        try clear c1
        try clear c2
        try clear p2
        try clear c3
        try clear c5
        try clear c6
        try clear c7
        try clear c8
        try clear c11
        try clear c14
        try clear c15
        try clear c17
        try clear c17b0
        try clear c17b1
        try clear c19
        try clear c27
        try clear c32
        try clear c33
        try clear c35
        try clear hcz12_0
        try clear hcz12_1
        try clear hcz16_0
        try clear hcz16_1
        try clear hcz20_0
        try clear hcz20_1
        try clear hcz24_0
        try clear hcz24_1
        try clear hcz28_0
        try clear hcz28_1
        try clear hcz34_0
        try clear hcz34_1
        try clear hcz34_2
        try clear hcz9_0
        try clear hcz9_1
        try clear hfz12_0
        try clear hfz12_1
        try clear hfz16_0
        try clear hfz16_1
        try clear hfz20_0
        try clear hfz20_1
        try clear hfz24_0
        try clear hfz24_1
        try clear hfz28_0
        try clear hfz28_1
        try clear hfz34_0
        try clear hfz34_1
        try clear hfz34_2
        try clear hfz9_0
        try clear hfz9_1
        try clear p2
        obtain ⟨kq, x37_25, rfl, HA, HJ25, HO_7, HO_529000, BK528, BK529, BK541, HB⟩ := hcut
        cases kq with
        | zero => exact absurd HA.out (by simp [impl_HeadRead.j2])
        | succ kj25 =>
         have H := HA.out
         clear HA
         simp only [impl_HeadRead.j2] at H
         by_cases c37 : x37_25 = true
         ·subst c37
          rw [if_pos rfl] at H
          simp only [Option.some.injEq, Prod.mk.injEq] at H
          obtain ⟨rfl, rfl, rfl, rfl⟩ := H
          have hnb38 := NB529_528.out
          have hnc38 := NB528_529.out
          have hnb39 := NB529_541.out
          have hnc39 := NB541_529.out
          obtain ⟨hcz40_0, hcz40_1, hfz40_0, hfz40_1⟩ := c2 BK529
          go_wp2
          refine bodyPost_ret (results_ctt rfl _ _ gb529 25 #[.slice none 0 0, .int .i64 0] (0, 0) _ rfl (by (with_reducible repeat (first | refine blk_drewN ?_ _ | refine blk_drew ?_ | refine blk_alloc ?_ _)); refine blk_put (cs := #[.slice none 0 0, .int .i64 x530001_2]) ?_ 1 _ rfl; (with_reducible repeat (first | refine blk_drewN ?_ _ | refine blk_drew ?_ | refine blk_alloc ?_ _)); refine blk_put (cs := #[.slice none 0 0, .int .i64 x530001_2]) ?_ 0 _ rfl; exact zk BK529) Try.underlying25 rfl (by kernel_rfl)) rfl ?_
          exact ⟨_, _, ze, by first | exact Kd.R_nil _ _ _ _ _ | exact Kd.N_nil _ _ _ _ _ | exact Kd.V_nil _ _ _ _ _ | exact Kd.Q_nil _ _ _ _ _ | exact Kd.S_nil _ _ _ _ _, by first | exact Kd.R_nil _ _ _ _ _ | exact Kd.N_nil _ _ _ _ _ | exact Kd.V_nil _ _ _ _ _ | exact Kd.Q_nil _ _ _ _ _ | exact Kd.S_nil _ _ _ _ _, zb HB⟩
         ·replace c37 := Bool.eq_false_iff.mpr c37
          subst c37
          rw [if_neg (show ¬ (false = true) by decide)] at H
          replace H := sp H
          rcases H with ⟨c41, H⟩ | ⟨c41, H⟩
          ·skip
           have c41b0 : (t539 == 6) = true := beq_iff_eq.mpr c41
           have c41b1 : (t539 != 6) = false := bne_eq_false_iff_eq.mpr c41
           clear c41
           obtain ⟨⟨t542, t545⟩, A42, H⟩ := ob H
           (try dsimp only at H)
           by_cases c43 : x7_2.length < 3518437208883
           ·rw [if_pos c43] at H
            have LMc43 := Aside0.mk c43
            clear c43
            obtain ⟨y546, hy546⟩ : ∃ y_ : List (S88), y_ = (x7_2 ++ [(⟨t535, t536, t537⟩ : S88)]) := ⟨_, rfl⟩
            replace H : (if 0 ≤ t538 then (if t538 ≤ (x1_2.size : Int) then (impl_HeadRead.l0 kj25 (x1_2.extract (t538 : Int).toNat x1_2.size) y546 t542 t545) else (none)) else (none)) = some (r1, r2, r3, r4) := by first | (rw [hy546]; with_reducible exact H) | (have H2_ := (Option.bind_some _ _).symm.trans H; rw [hy546]; with_reducible exact H2_) | (have H2_ := (Option.bind_some _ _).symm.trans H; with_reducible exact H2_) | with_reducible exact H | (rw [hy546]; exact H) | exact H
            have Ny546 := Aside0.mk hy546
            clear hy546
            by_cases c44 : 0 ≤ t538
            ·rw [if_pos c44] at H
             have c44b0 := eq_true c44
             have c44b1 := decide_eq_true c44
             clear c44
             by_cases c45 : t538 ≤ (x1_2.size : Int)
             ·rw [if_pos c45] at H
              have c45b0 := eq_true c45
              have c45b1 := decide_eq_true c45
              clear c45
              have H' := Aside0.mk H
              clear H
              have hnb46 := NB528_529.out
              have hnc46 := NB529_528.out
              have hnb47 := NB528_541.out
              have hnc47 := NB541_528.out
              obtain ⟨hcz48_0, hcz48_1, hfz48_0, hfz48_1⟩ := c2 BK528
              have hnb49 := NB541_529.out
              have hnc49 := NB529_541.out
              obtain ⟨hcz50_0, hcz50_1, hcz50_2, hfz50_0, hfz50_1, hfz50_2⟩ := c3 BK541
              go_wp2_with (first | ((with_reducible refine gq 59 rfl ?_); refine gl (some 43) Try.func59 #[.agg #[.slice Ao29 x529000_2.length co29, .int .i64 x529001_2], .agg #[.string t535, .string t536, .bool t537]] ?_; (with_reducible refine (impl_Table_add.calls kj25 (fun k_ => ((P0_0_ k_ ∨ w.heap.size ≤ k_) ∧ (some k_ ≠ (u7 : Value).ownBlock ∧ (k_ ≠ gb528 ∧ (k_ ≠ gb529 ∧ k_ ≠ gb541))))) _ _ x529000_2 x529001_2 t535 t536 t537 t542 t545 _ ?side1 A42.out).mono ?_); (case side1 => exact HO_529000.out); rintro e w51 ⟨v543, rfl, ho0, hb⟩; refine ⟨_, rfl, ?_⟩; replace HO_529000 := Aside0.mk (Kd.V_elder' (zV HO_529000) (Kd.R_base ho0) hb); have HO544 := Aside0.mk (Kd.R_lower (Kd.R_newB (Kd.R_new' (Kd.R_newM (M := fun k_ => (w.heap.size ≤ k_)) (Kd.R_mono (ok' := fun k_ => True) ho0 (fun _ hk_ => trivial)) (below_size (zb HB)) (fun k_ h_ => h_)) (Kd.R_lt (zr HO_7))) (zk BK541)) (below_size (zb HB))); replace HO_7 := Aside0.mk (Kd.R_elder' (zr HO_7) (Kd.R_base ho0) hb); replace BK528 := kb BK528 hb; replace BK529 := kb BK529 hb; replace BK541 := kb BK541 hb; replace HB := Aside0.mk (below_step (zb HB) hb); (try clear hb); (try clear ho0); obtain ⟨Ao52, co52, eo52⟩ := Kd.R_slice HO544.out; subst eo52; obtain ⟨hcz53_0, hcz53_1, hfz53_0, hfz53_1⟩ := c2 BK528; obtain ⟨hcz54_0, hcz54_1, hcz54_2, hfz54_0, hfz54_1, hfz54_2⟩ := c3 BK541) | ((with_reducible refine gate_builtin (b := .append) (xs := #[.tmp 44, .tmp 46]) rfl ?_); (try (refine gate_guard (by rfl) ?_; dsimp only)); at_builtin; refine Kd.R_append k88 (w0 := w) w.heap.size rfl (.tmp 44) (.tmp 46) 23 88 (.agg #[(.string ⟨#[]⟩), (.string ⟨#[]⟩), (.bool false)]) 40 rfl Try.underlying23 info88 rfl (by decide) (by omega) u7 x7_2 (⟨t535, t536, t537⟩ : S88) [.string t535, .string t536, .bool t537] (fun k_ => (w.heap.size ≤ k_) ∧ some k_ ≠ (.slice Ao52 t542.length co52 : Value).ownBlock ∧ k_ ≠ gb541) (fun _ => False) rfl (by first | (go_simp; done) | (go_simp; rfl)) ?aP (fun _ hk => hk.elim) ?aF ?aO ?aB ?aS ?aL ?_; (case aP => exact k88_mkM _ _ _ (⟨t535, t536, t537⟩ : S88)); (case aB => exact (zb HB)); (case aF => exact (fun k_ hk => ⟨(Nat.le_trans (below_size (zb HB)) hk), Kd.fresh' (Kd.R_lt (by (with_reducible repeat (first | apply Kd.R_alloc | apply Kd.R_drewN | apply Kd.R_drew)); exact (Kd.R_mono (Kd.R_far (p := ⟨gb528, 1, none⟩) (Kd.R_far (p := ⟨gb528, 0, none⟩) (Kd.R_types HO544.out BK528.out (by decide)) (fun _ hk => hk.2) (.slice Ao52 t542.length co52)) (fun _ hk => hk.2) (.int .i64 t545)) (fun _ h_ => h_.1)))) k_ hk, Kd.freshB (g := gb541) (o := .cells #[.string t535, .string t536, .bool t537] 88 (0, 0)) (by (with_reducible repeat (first | refine blk_drewN ?_ _ | refine blk_drew ?_ | refine blk_alloc ?_ _)); refine blk_far ?_ NB541_528.out _; (with_reducible repeat (first | refine blk_drewN ?_ _ | refine blk_drew ?_ | refine blk_alloc ?_ _)); refine blk_far ?_ NB541_528.out _; exact zk BK541) k_ hk⟩)); (case aO => exact (by (with_reducible repeat (first | apply Kd.R_alloc | apply Kd.R_drewN | apply Kd.R_drew)); exact Kd.R_mono (Kd.R_far (p := ⟨gb528, 1, none⟩) (Kd.R_far (p := ⟨gb528, 0, none⟩) (Kd.R_types HO_7.out BK528.out (by decide)) (fun _ hk => hk.2) (.slice Ao52 t542.length co52)) (fun _ hk => hk.2) (.int .i64 t545)) (fun _ hk => ⟨hk.1.1.1, ⟨hk.1.2, hk.1.1.2⟩⟩))); (case aS => exact (below_size (zb HB))); (case aL => have := LMc43.out; omega); intro v547 w55 ho hb hg hat; rw [← Ny546.out] at ho; replace HO_529000 := Aside0.mk (Kd.V_afterv (ok := (fun k_ => (P0_0_ k_ ∨ w.heap.size ≤ k_) ∧ some k_ ≠ (.slice Ao52 t542.length co52 : Value).ownBlock ∧ k_ ≠ gb528 ∧ k_ ≠ gb529 ∧ k_ ≠ gb541)) (by (with_reducible repeat (first | apply Kd.V_alloc | apply Kd.V_drewN | apply Kd.V_drew)); exact Kd.V_mono (Kd.V_far (p := ⟨gb528, 1, none⟩) (Kd.V_far (p := ⟨gb528, 0, none⟩) (Kd.V_mono HO_529000.out (fun k_ hk => (⟨hk, hk.1.2.2.1⟩ : _ ∧ k_ ≠ gb528))) (fun _ hk => hk.2) (.slice Ao52 t542.length co52)) (fun _ hk => hk.2) (.int .i64 t545)) (fun _ hk => ⟨⟨hk.1.1.1, ⟨hk.1.2, ⟨hk.1.1.2.2.1, ⟨hk.1.1.2.2.2.1, hk.1.1.2.2.2.2⟩⟩⟩⟩, hk.1.1.2.1⟩)) hg hat); replace BK529 := Aside0.mk (blk_grown (g := gb529) (o := .cells #[.slice none 0 0, .int .i64 x530001_2] 25 (0, 0)) (by (with_reducible repeat (first | refine blk_drewN ?_ _ | refine blk_drew ?_ | refine blk_alloc ?_ _)); refine blk_far ?_ NB529_528.out _; (with_reducible repeat (first | refine blk_drewN ?_ _ | refine blk_drew ?_ | refine blk_alloc ?_ _)); refine blk_far ?_ NB529_528.out _; exact zk BK529) hg (Kd.R_ne HO_7.out BK529.out (by decide))); replace BK541 := Aside0.mk (blk_grown (g := gb541) (o := .cells #[.string t535, .string t536, .bool t537] 88 (0, 0)) (by (with_reducible repeat (first | refine blk_drewN ?_ _ | refine blk_drew ?_ | refine blk_alloc ?_ _)); refine blk_far ?_ NB541_528.out _; (with_reducible repeat (first | refine blk_drewN ?_ _ | refine blk_drew ?_ | refine blk_alloc ?_ _)); refine blk_far ?_ NB541_528.out _; exact zk BK541) hg (Kd.R_away HO_7.out (fun _ hk => hk.1.2))); replace HO544 := Aside0.mk (Kd.R_after (ok := (fun k_ => (w.heap.size ≤ k_) ∧ k_ ≠ gb541)) (by (with_reducible repeat (first | apply Kd.R_alloc | apply Kd.R_drewN | apply Kd.R_drew)); exact Kd.R_mono (Kd.R_far (p := ⟨gb528, 1, none⟩) (Kd.R_far (p := ⟨gb528, 0, none⟩) (Kd.R_types HO544.out BK528.out (by decide)) (fun _ hk => hk.2) (.slice Ao52 t542.length co52)) (fun _ hk => hk.2) (.int .i64 t545)) (fun _ hk => ⟨⟨hk.1.1.1.1, hk.1.2⟩, hk.1.1.2⟩)) hg hat); replace BK528 := Aside0.mk (blk_grown (g := gb528) (o := .cells #[.slice Ao52 t542.length co52, .int .i64 t545] 25 (0, 0)) (by (with_reducible repeat (first | refine blk_drewN ?_ _ | refine blk_drew ?_ | refine blk_alloc ?_ _)); refine blk_put (cs := #[.slice Ao52 t542.length co52, .int .i64 x529001_2]) ?_ 1 _ rfl; (with_reducible repeat (first | refine blk_drewN ?_ _ | refine blk_drew ?_ | refine blk_alloc ?_ _)); refine blk_put (cs := #[.slice Ao29 x529000_2.length co29, .int .i64 x529001_2]) ?_ 0 _ rfl; exact zk BK528) hg (Kd.R_ne HO_7.out BK528.out (by decide))); replace HB := Aside0.mk (hb); have HO548 := Aside0.mk (ho); clear HO_7; clear ho hb hg hat))
              go_roundg kj25
              case measure => have := HJ2.out; have := HK2.out; have := HJ25.out; omega
              case rel => exact ⟨(x1_2.extract (t538 : Int).toNat x1_2.size), (y546), (t542), (t545), (x530001_2), (.slice Ao52 t542.length co52), zs, H', ⟨by have := HJ2.out; have := HK2.out; have := HJ25.out; omega⟩, ⟨by (with_reducible repeat (first | apply Kd.R_alloc | apply Kd.R_drewN | apply Kd.R_drew)); exact Kd.R_mono HO548.out (fun _ hk => hk.1)⟩, ⟨by first | (refine Kd.V_mono (Kd.R_V (base := w.heap.size) ?h_) (fun k_ (hk : ((w.heap.size ≤ k_)) ∧ _) => ⟨(.inr (hk.1)), hk.2⟩); exact (by (with_reducible repeat (first | apply Kd.R_alloc | apply Kd.R_drewN | apply Kd.R_drew)); exact Kd.R_mono (Kd.R_types (Kd.R_types HO544.out BK528.out (by decide)) BK529.out (by decide)) (fun _ hk => ⟨hk.1.1.1.1, ⟨hk.1.1.2, ⟨hk.1.2, hk.2⟩⟩⟩))) | (refine Kd.V_mono (Kd.R_V (base := w.heap.size) ?h_) (fun k_ (hk : (w.heap.size ≤ k_)) => (.inr (hk))); exact (by (with_reducible repeat (first | apply Kd.R_alloc | apply Kd.R_drewN | apply Kd.R_drew)); exact Kd.R_mono (Kd.R_types (Kd.R_types HO544.out BK528.out (by decide)) BK529.out (by decide)) (fun _ hk => ⟨hk.1.1.1.1, ⟨hk.1.1.2, ⟨hk.1.2, hk.2⟩⟩⟩)))⟩, ⟨by exact zk BK528⟩, ⟨by exact zk BK529⟩, ⟨zb HB⟩⟩
             ·rw [if_neg c45] at H
              exact absurd H (by simp)
            ·rw [if_neg c44] at H
             exact absurd H (by simp)
           ·rw [if_neg c43] at H
            exact absurd H (by simp)
          ·skip
           have c41b0 : (t539 == 6) = false := beq_eq_false_iff_ne.mpr c41
           have c41b1 : (t539 != 6) = true := bne_iff_ne.mpr c41
           replace H := sp H
           rcases H with ⟨c56, H⟩ | ⟨c56, H⟩
           ·skip
            have LMc56 := Aside0.mk c56
            clear c56
            obtain ⟨y549, hy549⟩ : ∃ y_ : List (S88), y_ = (x7_2 ++ [(⟨t535, t536, t537⟩ : S88)]) := ⟨_, rfl⟩
            replace H : (if 0 ≤ t538 then (if t538 ≤ (x1_2.size : Int) then (impl_HeadRead.l0 kj25 (x1_2.extract (t538 : Int).toNat x1_2.size) y549 x529000_2 x529001_2) else (none)) else (none)) = some (r1, r2, r3, r4) := by first | (rw [hy549]; with_reducible exact H) | (have H2_ := (Option.bind_some _ _).symm.trans H; rw [hy549]; with_reducible exact H2_) | (have H2_ := (Option.bind_some _ _).symm.trans H; with_reducible exact H2_) | with_reducible exact H | (rw [hy549]; exact H) | exact H
            have Ny549 := Aside0.mk hy549
            clear hy549
            by_cases c57 : 0 ≤ t538
            ·rw [if_pos c57] at H
             have c57b0 := eq_true c57
             have c57b1 := decide_eq_true c57
             clear c57
             by_cases c58 : t538 ≤ (x1_2.size : Int)
             ·rw [if_pos c58] at H
              have c58b0 := eq_true c58
              have c58b1 := decide_eq_true c58
              clear c58
              have H' := Aside0.mk H
              clear H
              have hnb59 := NB541_528.out
              have hnc59 := NB528_541.out
              have hnb60 := NB541_529.out
              have hnc60 := NB529_541.out
              obtain ⟨hcz61_0, hcz61_1, hcz61_2, hfz61_0, hfz61_1, hfz61_2⟩ := c3 BK541
              go_wp2_with (first | ((with_reducible refine gate_builtin (b := .append) (xs := #[.tmp 44, .tmp 46]) rfl ?_); (try (refine gate_guard (by rfl) ?_; dsimp only)); at_builtin; refine Kd.R_append k88 (w0 := w) w.heap.size rfl (.tmp 44) (.tmp 46) 23 88 (.agg #[(.string ⟨#[]⟩), (.string ⟨#[]⟩), (.bool false)]) 40 rfl Try.underlying23 info88 rfl (by decide) (by omega) u7 x7_2 (⟨t535, t536, t537⟩ : S88) [.string t535, .string t536, .bool t537] (fun k_ => (w.heap.size ≤ k_) ∧ k_ ≠ gb541) (fun _ => False) rfl rfl ?aP (fun _ hk => hk.elim) ?aF ?aO ?aB ?aS ?aL ?_; (case aP => exact k88_mkM _ _ _ (⟨t535, t536, t537⟩ : S88)); (case aB => exact (zb HB)); (case aF => exact (fun k_ hk => ⟨(Nat.le_trans (below_size (zb HB)) hk), Kd.freshB (zk BK541) k_ hk⟩)); (case aO => exact (zr HO_7)); (case aS => exact (below_size (zb HB))); (case aL => have := LMc56.out; omega); intro v550 w62 ho hb hg hat; rw [← Ny549.out] at ho; replace HO_529000 := Aside0.mk (Kd.V_afterv (ok := (fun k_ => (P0_0_ k_ ∨ w.heap.size ≤ k_) ∧ k_ ≠ gb528 ∧ k_ ≠ gb529 ∧ k_ ≠ gb541)) (by (with_reducible repeat (first | apply Kd.V_alloc | apply Kd.V_drewN | apply Kd.V_drew)); exact Kd.V_mono HO_529000.out (fun _ hk => ⟨⟨hk.1, ⟨hk.2.2.1, ⟨hk.2.2.2.1, hk.2.2.2.2⟩⟩⟩, hk.2.1⟩)) hg hat); replace BK528 := Aside0.mk (blk_grown (zk BK528) hg (Kd.R_ne HO_7.out BK528.out (by decide))); replace BK529 := Aside0.mk (blk_grown (zk BK529) hg (Kd.R_ne HO_7.out BK529.out (by decide))); replace BK541 := Aside0.mk (blk_grown (zk BK541) hg (Kd.R_away HO_7.out (fun _ hk => hk.2))); replace HB := Aside0.mk (hb); have HO551 := Aside0.mk (ho); clear HO_7; clear ho hb hg hat))
              go_roundg kj25
              case measure => have := HJ2.out; have := HK2.out; have := HJ25.out; omega
              case rel => exact ⟨(x1_2.extract (t538 : Int).toNat x1_2.size), (y549), (x529000_2), (x529001_2), (x530001_2), (.slice Ao29 x529000_2.length co29), zs, H', ⟨by have := HJ2.out; have := HK2.out; have := HJ25.out; omega⟩, ⟨by (with_reducible repeat (first | apply Kd.R_alloc | apply Kd.R_drewN | apply Kd.R_drew)); exact Kd.R_mono HO551.out (fun _ hk => hk.1)⟩, ⟨by (with_reducible repeat (first | apply Kd.V_alloc | apply Kd.V_drewN | apply Kd.V_drew)); exact Kd.V_mono HO_529000.out (fun _ hk => ⟨hk.1.1, ⟨hk.2, ⟨hk.1.2.1, hk.1.2.2.1⟩⟩⟩)⟩, ⟨by exact zk BK528⟩, ⟨by exact zk BK529⟩, ⟨zb HB⟩⟩
             ·rw [if_neg c58] at H
              exact absurd H (by simp)
            ·rw [if_neg c57] at H
             exact absurd H (by simp)
           ·skip
            exact absurd H (by simp)

/-! ### laws_FnHeadBack: function 3 -/
-- thin
def laws_FnHeadBack.j0 : Nat → List (S88) → ByteArray → ByteArray → Bool → List (S88) → Int → List (S88) → Int → List (S88) → Int → Option (Bool)
 | 0, _, _, _, _, _, _, _, _, _, _ => none
 | k + 1, x4, x6, x8, x50, x560000, x560001, x566000, x566001, x572000, x572001 => if x50 = true then (if x8.toList = x6.toList then ((laws_lkTable.f k x572000 x572001 x566000 x566001).bind fun t575 => (some t575)) else (some false)) else ((impl_HeadRead.f k x560000 x560001 x8).bind fun bt576 => (if bt576.2.2.2 = true then ((laws_lkFields.f k bt576.2.2.1 x4).bind fun t585 => (if t585 = true then ((laws_lkTable.f k bt576.1 bt576.2.1 x572000 x572001).bind fun t586 => (if t586 = true then ((impl_TableOk.f k x572000 x572001).bind fun t587 => (some t587)) else (some false))) else (some false))) else (some false)))
def laws_FnHeadBack.f (k : Nat) (l0 : List Int) : Option (Bool) := if (l0.length : Int) > 1048576 then (some true) else ((spec_DrawHeadWrite.f k l0).bind fun bt552 => ((spec_HeadWrite.f k bt552.1 bt552.2.1 bt552.2.2).bind fun bt560 => ((impl_HeadWrite.f k bt552.1 bt552.2.1 bt552.2.2).bind fun bt566 => (if bt566.2.2.toList = bt560.2.2.toList then ((laws_lkTable.f k bt566.1 bt566.2.1 bt560.1 bt560.2.1).bind fun t572 => (if t572 = true then ((spec_TableOk.f k bt552.1 bt552.2.1).bind fun t573 => (if t573 = true then ((spec_HeadOk.f k bt552.2.2).bind fun t574 => (laws_FnHeadBack.j0 k bt552.2.2 bt560.2.2 bt566.2.2 (!t574) bt552.1 bt552.2.1 bt560.1 bt560.2.1 bt566.1 bt566.2.1)) else (laws_FnHeadBack.j0 k bt552.2.2 bt560.2.2 bt566.2.2 true bt552.1 bt552.2.1 bt560.1 bt560.2.1 bt566.1 bt566.2.1))) else (laws_FnHeadBack.j0 k bt552.2.2 bt560.2.2 bt566.2.2 true bt552.1 bt552.2.1 bt560.1 bt560.2.1 bt566.1 bt566.2.1))) else (laws_FnHeadBack.j0 k bt552.2.2 bt560.2.2 bt566.2.2 true bt552.1 bt552.2.1 bt560.1 bt560.2.1 bt566.1 bt566.2.1)))))
theorem laws_FnHeadBack.mono_l : ∀ k, (∀ y0 y1 y2 y3 y4 y5 y6 y7 y8 y9, LeO (laws_FnHeadBack.j0 k y0 y1 y2 y3 y4 y5 y6 y7 y8 y9) (laws_FnHeadBack.j0 (k + 1) y0 y1 y2 y3 y4 y5 y6 y7 y8 y9))
 | 0 => fun _ _ _ _ _ _ _ _ _ _ r h => by simp [laws_FnHeadBack.j0] at h
 | k + 1 => by
  have ih0 := laws_FnHeadBack.mono_l k
  ·intro y0 y1 y2 y3 y4 y5 y6 y7 y8 y9
   unfold laws_FnHeadBack.j0
   have m0 := @impl_HeadRead.mono
   have m1 := @impl_HeadWrite.mono
   have m2 := @impl_TableOk.mono
   have m3 := @laws_lkFields.mono
   have m4 := @laws_lkTable.mono
   have m5 := @spec_DrawHeadWrite.mono
   have m6 := @spec_HeadOk.mono
   have m7 := @spec_HeadWrite.mono
   have m8 := @spec_TableOk.mono
   exact zm
theorem laws_FnHeadBack.mono : ∀ a0 k, LeO (laws_FnHeadBack.f k a0) (laws_FnHeadBack.f (k + 1) a0) := by
 intro a0 k
 have ih0 := laws_FnHeadBack.mono_l k
 unfold laws_FnHeadBack.f
 have m0 := @impl_HeadRead.mono
 have m1 := @impl_HeadWrite.mono
 have m2 := @impl_TableOk.mono
 have m3 := @laws_lkFields.mono
 have m4 := @laws_lkTable.mono
 have m5 := @spec_DrawHeadWrite.mono
 have m6 := @spec_HeadOk.mono
 have m7 := @spec_HeadWrite.mono
 have m8 := @spec_TableOk.mono
 exact zm
set_option maxHeartbeats 8000000 in
set_option maxRecDepth 100000 in
theorem laws_FnHeadBack.calls (k : Nat) (A0 : Option Addr) (c0 : Nat) (l0 : List Int) (r : Bool) (w : World) (hr0 : Kd.C (Kd.int .u8) w A0 l0.length l0) (hc0 : l0.length ≤ c0) (h : laws_FnHeadBack.f k l0 = some r) :
  Calls Try.prog 3 #[.slice A0 l0.length c0] w fun e w' => e = .returned (.bool r) ∧ Below w.heap.size w w' := by
 have hu25 := Try.underlying25
 have HR0 := Aside0.mk hr0
 have HC0 := Aside0.mk hc0
 clear hr0 hc0
 have HB := Aside0.mk (Below.refl w.heap.size w)
 have H : (if (l0.length : Int) > 1048576 then (some true) else ((spec_DrawHeadWrite.f k l0).bind fun bt552 => ((spec_HeadWrite.f k bt552.1 bt552.2.1 bt552.2.2).bind fun bt560 => ((impl_HeadWrite.f k bt552.1 bt552.2.1 bt552.2.2).bind fun bt566 => (if bt566.2.2.toList = bt560.2.2.toList then ((laws_lkTable.f k bt566.1 bt566.2.1 bt560.1 bt560.2.1).bind fun t572 => (if t572 = true then ((spec_TableOk.f k bt552.1 bt552.2.1).bind fun t573 => (if t573 = true then ((spec_HeadOk.f k bt552.2.2).bind fun t574 => (laws_FnHeadBack.j0 k bt552.2.2 bt560.2.2 bt566.2.2 (!t574) bt552.1 bt552.2.1 bt560.1 bt560.2.1 bt566.1 bt566.2.1)) else (laws_FnHeadBack.j0 k bt552.2.2 bt560.2.2 bt566.2.2 true bt552.1 bt552.2.1 bt560.1 bt560.2.1 bt566.1 bt566.2.1))) else (laws_FnHeadBack.j0 k bt552.2.2 bt560.2.2 bt566.2.2 true bt552.1 bt552.2.1 bt560.1 bt560.2.1 bt566.1 bt566.2.1))) else (laws_FnHeadBack.j0 k bt552.2.2 bt560.2.2 bt566.2.2 true bt552.1 bt552.2.1 bt560.1 bt560.2.1 bt566.1 bt566.2.1)))))) = some r := h
 clear h
 replace H := sp H
 rcases H with ⟨c2, H⟩ | ⟨c2, H⟩
 ·skip
  have c2b0 := decide_eq_true c2
  have c2b1 := decide_eq_true (by omega)
  clear c2
  obtain rfl := Option.some.inj H
  go_enter Try.func3, Try.ntmps3
  go_wp2
  go_ret
  exact ⟨ze, zb HB⟩
 ·skip
  have c2b0 := decide_eq_false c2
  have c2b1 := decide_eq_false (by omega)
  clear c2
  obtain ⟨⟨t552, t555, t556⟩, A3, H⟩ := ob H
  (try dsimp only at H)
  obtain ⟨⟨t560, t563, t564⟩, A4, H⟩ := ob H
  (try dsimp only at H)
  obtain ⟨⟨t566, t569, t570⟩, A5, H⟩ := ob H
  (try dsimp only at H)
  have HC6 := Aside0.mk H
  clear H
  go_enter Try.func3, Try.ntmps3
  go_upto_region 6 with (first | ((with_reducible refine gq 11 rfl ?_); refine gl (some 17) Try.func11 #[.slice A0 l0.length c0] ?_; (with_reducible refine (spec_DrawHeadWrite.calls k _ _ l0 t552 t555 t556 _ ?side1 ?side2 A3.out).mono ?_); (case side1 => exact zc HR0.out); (case side2 => exact HC0.out); rintro e w7 ⟨v553, v557, rfl, ho0, ho1, hb⟩; refine ⟨_, rfl, ?_⟩; have HO554 := Aside0.mk (Kd.R_lower ho0 (below_size (zb HB))); have HO558 := Aside0.mk (Kd.R_lower ho1 (below_size (zb HB))); replace HB := Aside0.mk (below_step (zb HB) hb); (try clear hb); (try clear ho0); (try clear ho1)) | ((with_reducible refine gd 3 rfl ?_); refine bx (N := 3) (cs := #[.slice none 0 0, .int .i64 0]) (t := 25) ?_; intro gb559 hg w8 hbox hb; replace HO554 := Aside0.mk (Kd.R_below (zr HO554) hb); replace HO558 := Aside0.mk (Kd.R_below (zr HO558) hb); have BK559 := Aside0.mk (hbox); have GW559 := gw HB hg; have GE559 := GW559; replace HB := Aside0.mk (below_step (zb HB) hb); clear hb hbox hg; obtain ⟨Ao9, co9, eo9⟩ := Kd.R_slice HO554.out; subst eo9; obtain ⟨hcz10_0, hcz10_1, hfz10_0, hfz10_1⟩ := c2 BK559; obtain ⟨Ao11, co11, eo11⟩ := Kd.R_slice HO558.out; subst eo11) | ((with_reducible refine gq 12 rfl ?_); refine gl (some 23) Try.func12 #[.agg #[.slice Ao9 t552.length co9, .int .i64 t555], .slice Ao11 t556.length co11] ?_; (with_reducible refine (spec_HeadWrite.calls k _ _ t552 t555 _ _ t556 t560 t563 t564 _ ?side1 ?side2 ?side3 ?side4 A4.out).mono ?_); (case side1 => refine (Kd.R_reads' (e := 88) (base := w.heap.size) (ok := fun k_ => some k_ ≠ (.slice Ao11 t556.length co11 : Value).ownBlock) (n := t552.length) (c := co9) ?_).2.2; exact (by (with_reducible repeat (first | apply Kd.R_alloc | apply Kd.R_drewN | apply Kd.R_drew)); exact (Kd.R_mono (Kd.R_far (p := ⟨gb559, 1, none⟩) (Kd.R_far (p := ⟨gb559, 0, none⟩) (Kd.R_types HO554.out BK559.out (by decide)) (fun _ hk => hk.2) (.slice Ao9 t552.length co9)) (fun _ hk => hk.2) (.int .i64 t555)) (fun _ h_ => h_.1)))); (case side2 => exact (Kd.R_reads' HO554.out).2.1); (case side3 => refine (Kd.R_reads' (e := 88) (base := w.heap.size) (ok := fun k_ => some k_ ≠ (.slice Ao9 t552.length co9 : Value).ownBlock) (n := t556.length) (c := co11) ?_).2.2; exact (by (with_reducible repeat (first | apply Kd.R_alloc | apply Kd.R_drewN | apply Kd.R_drew)); exact (Kd.R_mono (Kd.R_far (p := ⟨gb559, 1, none⟩) (Kd.R_far (p := ⟨gb559, 0, none⟩) (Kd.R_types HO558.out BK559.out (by decide)) (fun _ hk => hk.2) (.slice Ao9 t552.length co9)) (fun _ hk => hk.2) (.int .i64 t555)) (fun _ h_ => h_.1)))); (case side4 => exact (Kd.R_reads' HO558.out).2.1); rintro e w12 ⟨v561, rfl, ho0, hb⟩; refine ⟨_, rfl, ?_⟩; have HO562 := Aside0.mk (Kd.R_lower (Kd.R_new' (Kd.R_new' ho0 (Kd.R_lt (by (with_reducible repeat (first | apply Kd.R_alloc | apply Kd.R_drewN | apply Kd.R_drew)); exact (Kd.R_mono (Kd.R_far (p := ⟨gb559, 1, none⟩) (Kd.R_far (p := ⟨gb559, 0, none⟩) (Kd.R_types HO554.out BK559.out (by decide)) (fun _ hk => hk.2) (.slice Ao9 t552.length co9)) (fun _ hk => hk.2) (.int .i64 t555)) (fun _ h_ => h_.1))))) (Kd.R_lt (by (with_reducible repeat (first | apply Kd.R_alloc | apply Kd.R_drewN | apply Kd.R_drew)); exact (Kd.R_mono (Kd.R_far (p := ⟨gb559, 1, none⟩) (Kd.R_far (p := ⟨gb559, 0, none⟩) (Kd.R_types HO558.out BK559.out (by decide)) (fun _ hk => hk.2) (.slice Ao9 t552.length co9)) (fun _ hk => hk.2) (.int .i64 t555)) (fun _ h_ => h_.1))))) (below_size (zb HB))); replace HO554 := Aside0.mk (Kd.R_elder' (by (with_reducible repeat (first | apply Kd.R_alloc | apply Kd.R_drewN | apply Kd.R_drew)); exact (Kd.R_mono (Kd.R_far (p := ⟨gb559, 1, none⟩) (Kd.R_far (p := ⟨gb559, 0, none⟩) (Kd.R_types HO554.out BK559.out (by decide)) (fun _ hk => hk.2) (.slice Ao9 t552.length co9)) (fun _ hk => hk.2) (.int .i64 t555)) (fun _ h_ => h_.1))) (Kd.R_base ho0) hb); replace HO558 := Aside0.mk (Kd.R_elder' (by (with_reducible repeat (first | apply Kd.R_alloc | apply Kd.R_drewN | apply Kd.R_drew)); exact (Kd.R_mono (Kd.R_far (p := ⟨gb559, 1, none⟩) (Kd.R_far (p := ⟨gb559, 0, none⟩) (Kd.R_types HO558.out BK559.out (by decide)) (fun _ hk => hk.2) (.slice Ao9 t552.length co9)) (fun _ hk => hk.2) (.int .i64 t555)) (fun _ h_ => h_.1))) (Kd.R_base ho0) hb); replace BK559 := Aside0.mk (blk_below (g := gb559) (o := .cells #[.slice Ao9 t552.length co9, .int .i64 t555] 25 (0, 0)) (by (with_reducible repeat (first | refine blk_drewN ?_ _ | refine blk_drew ?_ | refine blk_alloc ?_ _)); refine blk_put (cs := #[.slice Ao9 t552.length co9, .int .i64 0]) ?_ 1 _ rfl; (with_reducible repeat (first | refine blk_drewN ?_ _ | refine blk_drew ?_ | refine blk_alloc ?_ _)); refine blk_put (cs := #[.slice none 0 0, .int .i64 0]) ?_ 0 _ rfl; exact zk BK559) hb); replace HB := Aside0.mk (below_step (zb HB) hb); (try clear hb); (try clear hk); (try clear ho0)) | ((with_reducible refine gd 5 rfl ?_); refine bx (N := 5) (cs := #[.slice none 0 0, .int .i64 0]) (t := 25) ?_; intro gb565 hg w13 hbox hb; replace HO554 := Aside0.mk (Kd.R_below (zr HO554) hb); replace HO558 := Aside0.mk (Kd.R_below (zr HO558) hb); replace HO562 := Aside0.mk (Kd.R_below (zr HO562) hb); have BK565 := Aside0.mk (hbox); have GW565 := gw HB hg; have GE565 := GW565; replace HB := Aside0.mk (below_step (zb HB) hb); obtain ⟨NB559_565, NB565_559⟩ := nb BK559 hg; replace BK559 := kb BK559 hb; clear hb hbox hg; obtain ⟨Ao14, co14, eo14⟩ := Kd.R_slice HO562.out; subst eo14; have hnb15 := NB565_559.out; have hnc15 := NB559_565.out; obtain ⟨hcz16_0, hcz16_1, hfz16_0, hfz16_1⟩ := c2 BK565; obtain ⟨hcz17_0, hcz17_1, hfz17_0, hfz17_1⟩ := c2 BK559) | ((with_reducible refine gq 13 rfl ?_); refine gl (some 29) Try.func13 #[.agg #[.slice Ao9 t552.length co9, .int .i64 t555], .slice Ao11 t556.length co11] ?_; (with_reducible refine (impl_HeadWrite.calls k _ _ t552 t555 _ _ t556 t566 t569 t570 _ ?side1 ?side2 ?side3 ?side4 A5.out).mono ?_); (case side1 => refine (Kd.R_reads' (e := 88) (base := w.heap.size) (ok := fun k_ => (some k_ ≠ (.slice Ao11 t556.length co11 : Value).ownBlock ∧ some k_ ≠ (.slice Ao14 t560.length co14 : Value).ownBlock)) (n := t552.length) (c := co9) ?_).2.2; exact (by (with_reducible repeat (first | apply Kd.R_alloc | apply Kd.R_drewN | apply Kd.R_drew)); exact (Kd.R_mono (Kd.R_far (p := ⟨gb565, 1, none⟩) (Kd.R_far (p := ⟨gb565, 0, none⟩) (Kd.R_types HO554.out BK565.out (by decide)) (fun _ hk => hk.2) (.slice Ao14 t560.length co14)) (fun _ hk => hk.2) (.int .i64 t563)) (fun _ h_ => h_.1)))); (case side2 => exact (Kd.R_reads' HO554.out).2.1); (case side3 => refine (Kd.R_reads' (e := 88) (base := w.heap.size) (ok := fun k_ => (some k_ ≠ (.slice Ao9 t552.length co9 : Value).ownBlock ∧ some k_ ≠ (.slice Ao14 t560.length co14 : Value).ownBlock)) (n := t556.length) (c := co11) ?_).2.2; exact (by (with_reducible repeat (first | apply Kd.R_alloc | apply Kd.R_drewN | apply Kd.R_drew)); exact (Kd.R_mono (Kd.R_far (p := ⟨gb565, 1, none⟩) (Kd.R_far (p := ⟨gb565, 0, none⟩) (Kd.R_types HO558.out BK565.out (by decide)) (fun _ hk => hk.2) (.slice Ao14 t560.length co14)) (fun _ hk => hk.2) (.int .i64 t563)) (fun _ h_ => h_.1)))); (case side4 => exact (Kd.R_reads' HO558.out).2.1); rintro e w18 ⟨v567, rfl, ho0, hb⟩; refine ⟨_, rfl, ?_⟩; have HO568 := Aside0.mk (Kd.R_lower (Kd.R_new' (Kd.R_new' (Kd.R_new' ho0 (Kd.R_lt (by (with_reducible repeat (first | apply Kd.R_alloc | apply Kd.R_drewN | apply Kd.R_drew)); exact (Kd.R_mono (Kd.R_far (p := ⟨gb565, 1, none⟩) (Kd.R_far (p := ⟨gb565, 0, none⟩) (Kd.R_types HO554.out BK565.out (by decide)) (fun _ hk => hk.2) (.slice Ao14 t560.length co14)) (fun _ hk => hk.2) (.int .i64 t563)) (fun _ h_ => h_.1))))) (Kd.R_lt (by (with_reducible repeat (first | apply Kd.R_alloc | apply Kd.R_drewN | apply Kd.R_drew)); exact (Kd.R_mono (Kd.R_far (p := ⟨gb565, 1, none⟩) (Kd.R_far (p := ⟨gb565, 0, none⟩) (Kd.R_types HO558.out BK565.out (by decide)) (fun _ hk => hk.2) (.slice Ao14 t560.length co14)) (fun _ hk => hk.2) (.int .i64 t563)) (fun _ h_ => h_.1))))) (Kd.R_lt (by (with_reducible repeat (first | apply Kd.R_alloc | apply Kd.R_drewN | apply Kd.R_drew)); exact (Kd.R_mono (Kd.R_far (p := ⟨gb565, 1, none⟩) (Kd.R_far (p := ⟨gb565, 0, none⟩) (Kd.R_types HO562.out BK565.out (by decide)) (fun _ hk => hk.2) (.slice Ao14 t560.length co14)) (fun _ hk => hk.2) (.int .i64 t563)) (fun _ h_ => h_.1))))) (below_size (zb HB))); replace HO554 := Aside0.mk (Kd.R_elder' (by (with_reducible repeat (first | apply Kd.R_alloc | apply Kd.R_drewN | apply Kd.R_drew)); exact (Kd.R_mono (Kd.R_far (p := ⟨gb565, 1, none⟩) (Kd.R_far (p := ⟨gb565, 0, none⟩) (Kd.R_types HO554.out BK565.out (by decide)) (fun _ hk => hk.2) (.slice Ao14 t560.length co14)) (fun _ hk => hk.2) (.int .i64 t563)) (fun _ h_ => h_.1))) (Kd.R_base ho0) hb); replace HO558 := Aside0.mk (Kd.R_elder' (by (with_reducible repeat (first | apply Kd.R_alloc | apply Kd.R_drewN | apply Kd.R_drew)); exact (Kd.R_mono (Kd.R_far (p := ⟨gb565, 1, none⟩) (Kd.R_far (p := ⟨gb565, 0, none⟩) (Kd.R_types HO558.out BK565.out (by decide)) (fun _ hk => hk.2) (.slice Ao14 t560.length co14)) (fun _ hk => hk.2) (.int .i64 t563)) (fun _ h_ => h_.1))) (Kd.R_base ho0) hb); replace HO562 := Aside0.mk (Kd.R_elder' (by (with_reducible repeat (first | apply Kd.R_alloc | apply Kd.R_drewN | apply Kd.R_drew)); exact (Kd.R_mono (Kd.R_far (p := ⟨gb565, 1, none⟩) (Kd.R_far (p := ⟨gb565, 0, none⟩) (Kd.R_types HO562.out BK565.out (by decide)) (fun _ hk => hk.2) (.slice Ao14 t560.length co14)) (fun _ hk => hk.2) (.int .i64 t563)) (fun _ h_ => h_.1))) (Kd.R_base ho0) hb); replace BK559 := Aside0.mk (blk_below (g := gb559) (o := .cells #[.slice Ao9 t552.length co9, .int .i64 t555] 25 (0, 0)) (by (with_reducible repeat (first | refine blk_drewN ?_ _ | refine blk_drew ?_ | refine blk_alloc ?_ _)); refine blk_far ?_ NB559_565.out _; (with_reducible repeat (first | refine blk_drewN ?_ _ | refine blk_drew ?_ | refine blk_alloc ?_ _)); refine blk_far ?_ NB559_565.out _; exact zk BK559) hb); replace BK565 := Aside0.mk (blk_below (g := gb565) (o := .cells #[.slice Ao14 t560.length co14, .int .i64 t563] 25 (0, 0)) (by (with_reducible repeat (first | refine blk_drewN ?_ _ | refine blk_drew ?_ | refine blk_alloc ?_ _)); refine blk_put (cs := #[.slice Ao14 t560.length co14, .int .i64 0]) ?_ 1 _ rfl; (with_reducible repeat (first | refine blk_drewN ?_ _ | refine blk_drew ?_ | refine blk_alloc ?_ _)); refine blk_put (cs := #[.slice none 0 0, .int .i64 0]) ?_ 0 _ rfl; exact zk BK565) hb); replace HB := Aside0.mk (below_step (zb HB) hb); (try clear hb); (try clear hk); (try clear ho0)) | ((with_reducible refine gd 7 rfl ?_); refine bx (N := 7) (cs := #[.slice none 0 0, .int .i64 0]) (t := 25) ?_; intro gb571 hg w19 hbox hb; replace HO554 := Aside0.mk (Kd.R_below (zr HO554) hb); replace HO558 := Aside0.mk (Kd.R_below (zr HO558) hb); replace HO562 := Aside0.mk (Kd.R_below (zr HO562) hb); replace HO568 := Aside0.mk (Kd.R_below (zr HO568) hb); have BK571 := Aside0.mk (hbox); have GW571 := gw HB hg; have GE571 := GW571; replace HB := Aside0.mk (below_step (zb HB) hb); obtain ⟨NB559_571, NB571_559⟩ := nb BK559 hg; replace BK559 := kb BK559 hb; obtain ⟨NB565_571, NB571_565⟩ := nb BK565 hg; replace BK565 := kb BK565 hb; clear hb hbox hg; obtain ⟨Ao20, co20, eo20⟩ := Kd.R_slice HO568.out; subst eo20; have hnb21 := NB571_559.out; have hnc21 := NB559_571.out; have hnb22 := NB571_565.out; have hnc22 := NB565_571.out; obtain ⟨hcz23_0, hcz23_1, hfz23_0, hfz23_1⟩ := c2 BK571))
  (try simp only [Act.put, s1, s2, s3])
  go_cut [50] (fun v50 wc => ∃ (kq : Nat) (x50_5 : Bool), v50 = .bool x50_5 ∧ Aside0 (laws_FnHeadBack.j0 kq t556 t564 t570 x50_5 t552 t555 t560 t563 t566 t569 = some r) ∧ Aside0 (kq ≤ k) ∧ Aside0 (Kd.R k88 88 wc w.heap.size (fun k_ => some k_ ≠ ((.slice Ao9 t552.length co9) : Value).ownBlock ∧ some k_ ≠ ((.slice Ao14 t560.length co14) : Value).ownBlock ∧ some k_ ≠ ((.slice Ao20 t566.length co20) : Value).ownBlock) (.slice Ao11 t556.length co11) t556) ∧ Aside0 (Kd.R k88 88 wc w.heap.size (fun k_ => some k_ ≠ ((.slice Ao11 t556.length co11) : Value).ownBlock ∧ some k_ ≠ ((.slice Ao14 t560.length co14) : Value).ownBlock ∧ some k_ ≠ ((.slice Ao20 t566.length co20) : Value).ownBlock) (.slice Ao9 t552.length co9) t552) ∧ Aside0 (Kd.R k88 88 wc w.heap.size (fun k_ => some k_ ≠ ((.slice Ao11 t556.length co11) : Value).ownBlock ∧ some k_ ≠ ((.slice Ao9 t552.length co9) : Value).ownBlock ∧ some k_ ≠ ((.slice Ao20 t566.length co20) : Value).ownBlock) (.slice Ao14 t560.length co14) t560) ∧ Aside0 (Kd.R k88 88 wc w.heap.size (fun k_ => some k_ ≠ ((.slice Ao11 t556.length co11) : Value).ownBlock ∧ some k_ ≠ ((.slice Ao9 t552.length co9) : Value).ownBlock ∧ some k_ ≠ ((.slice Ao14 t560.length co14) : Value).ownBlock) (.slice Ao20 t566.length co20) t566) ∧ Aside0 (wc.heap[gb559]? = some (.cells #[(.slice Ao9 t552.length co9), .int .i64 t555] 25 (0, 0))) ∧ Aside0 (wc.heap[gb565]? = some (.cells #[(.slice Ao14 t560.length co14), .int .i64 t563] 25 (0, 0))) ∧ Aside0 (wc.heap[gb571]? = some (.cells #[(.slice Ao20 t566.length co20), .int .i64 t569] 25 (0, 0))) ∧ Aside0 (Below w.heap.size w wc))
  case first =>
   have H := HC6.out
   clear HC6
   replace H := sp H
   rcases H with ⟨c24, H⟩ | ⟨c24, H⟩
   ·skip
    have c24b0 : (t570.toList == t564.toList) = true := beq_iff_eq.mpr c24
    have c24b1 : (t570.toList != t564.toList) = false := bne_eq_false_iff_eq.mpr c24
    clear c24
    (first | rw [c24b0] | rw [c24b1] | (simp only [i64_w, i32_w]; rw [c24b0]) | skip)
    obtain ⟨t572, A25, H⟩ := ob H
    (try dsimp only at H)
    by_cases c26 : t572 = true
    ·subst c26
     rw [if_pos rfl] at H
     obtain ⟨t573, A27, H⟩ := ob H
     (try dsimp only at H)
     by_cases c28 : t573 = true
     ·subst c28
      rw [if_pos rfl] at H
      obtain ⟨t574, A29, H⟩ := ob H
      (try dsimp only at H)
      have H' := Aside0.mk H
      clear H
      have hnb30 := NB571_559.out
      have hnc30 := NB559_571.out
      have hnb31 := NB571_565.out
      have hnc31 := NB565_571.out
      obtain ⟨hcz32_0, hcz32_1, hfz32_0, hfz32_1⟩ := c2 BK571
      have hnb33 := NB565_559.out
      have hnc33 := NB559_565.out
      obtain ⟨hcz34_0, hcz34_1, hfz34_0, hfz34_1⟩ := c2 BK565
      go_wp2_with (first | (go_at_call 14; (with_reducible refine (laws_lkTable.calls k _ _ t566 t569 _ _ t560 t563 true _ ?side1 ?side2 ?side3 ?side4 A25.out).mono ?_); (case side1 => refine (Kd.R_reads' (e := 88) (base := w.heap.size) (ok := fun k_ => (((True ∧ some k_ ≠ (.slice Ao9 t552.length co9 : Value).ownBlock) ∧ some k_ ≠ (.slice Ao11 t556.length co11 : Value).ownBlock) ∧ some k_ ≠ (.slice Ao14 t560.length co14 : Value).ownBlock)) (n := t566.length) (c := co20) ?_).2.2; exact (by (with_reducible repeat (first | apply Kd.R_alloc | apply Kd.R_drewN | apply Kd.R_drew)); exact (Kd.R_mono (Kd.R_far (p := ⟨gb571, 1, none⟩) (Kd.R_far (p := ⟨gb571, 0, none⟩) (Kd.R_types HO568.out BK571.out (by decide)) (fun _ hk => hk.2) (.slice Ao20 t566.length co20)) (fun _ hk => hk.2) (.int .i64 t569)) (fun _ h_ => h_.1)))); (case side2 => exact (Kd.R_reads' HO568.out).2.1); (case side3 => refine (Kd.R_reads' (e := 88) (base := w.heap.size) (ok := fun k_ => (((True ∧ some k_ ≠ (.slice Ao9 t552.length co9 : Value).ownBlock) ∧ some k_ ≠ (.slice Ao11 t556.length co11 : Value).ownBlock) ∧ some k_ ≠ (.slice Ao20 t566.length co20 : Value).ownBlock)) (n := t560.length) (c := co14) ?_).2.2; exact (by (with_reducible repeat (first | apply Kd.R_alloc | apply Kd.R_drewN | apply Kd.R_drew)); exact (Kd.R_mono (Kd.R_far (p := ⟨gb571, 1, none⟩) (Kd.R_far (p := ⟨gb571, 0, none⟩) (Kd.R_types HO562.out BK571.out (by decide)) (fun _ hk => hk.2) (.slice Ao20 t566.length co20)) (fun _ hk => hk.2) (.int .i64 t569)) (fun _ h_ => h_.1)))); (case side4 => exact (Kd.R_reads' HO562.out).2.1); rintro e w35 ⟨rfl, hb⟩; replace HO554 := Aside0.mk (Kd.R_below (by (with_reducible repeat (first | apply Kd.R_alloc | apply Kd.R_drewN | apply Kd.R_drew)); exact (Kd.R_mono (Kd.R_far (p := ⟨gb571, 1, none⟩) (Kd.R_far (p := ⟨gb571, 0, none⟩) (Kd.R_types HO554.out BK571.out (by decide)) (fun _ hk => hk.2) (.slice Ao20 t566.length co20)) (fun _ hk => hk.2) (.int .i64 t569)) (fun _ h_ => h_.1))) hb); replace HO558 := Aside0.mk (Kd.R_below (by (with_reducible repeat (first | apply Kd.R_alloc | apply Kd.R_drewN | apply Kd.R_drew)); exact (Kd.R_mono (Kd.R_far (p := ⟨gb571, 1, none⟩) (Kd.R_far (p := ⟨gb571, 0, none⟩) (Kd.R_types HO558.out BK571.out (by decide)) (fun _ hk => hk.2) (.slice Ao20 t566.length co20)) (fun _ hk => hk.2) (.int .i64 t569)) (fun _ h_ => h_.1))) hb); replace HO562 := Aside0.mk (Kd.R_below (by (with_reducible repeat (first | apply Kd.R_alloc | apply Kd.R_drewN | apply Kd.R_drew)); exact (Kd.R_mono (Kd.R_far (p := ⟨gb571, 1, none⟩) (Kd.R_far (p := ⟨gb571, 0, none⟩) (Kd.R_types HO562.out BK571.out (by decide)) (fun _ hk => hk.2) (.slice Ao20 t566.length co20)) (fun _ hk => hk.2) (.int .i64 t569)) (fun _ h_ => h_.1))) hb); replace HO568 := Aside0.mk (Kd.R_below (by (with_reducible repeat (first | apply Kd.R_alloc | apply Kd.R_drewN | apply Kd.R_drew)); exact (Kd.R_mono (Kd.R_far (p := ⟨gb571, 1, none⟩) (Kd.R_far (p := ⟨gb571, 0, none⟩) (Kd.R_types HO568.out BK571.out (by decide)) (fun _ hk => hk.2) (.slice Ao20 t566.length co20)) (fun _ hk => hk.2) (.int .i64 t569)) (fun _ h_ => h_.1))) hb); replace BK559 := Aside0.mk (blk_below (g := gb559) (o := .cells #[.slice Ao9 t552.length co9, .int .i64 t555] 25 (0, 0)) (by (with_reducible repeat (first | refine blk_drewN ?_ _ | refine blk_drew ?_ | refine blk_alloc ?_ _)); refine blk_far ?_ NB559_571.out _; (with_reducible repeat (first | refine blk_drewN ?_ _ | refine blk_drew ?_ | refine blk_alloc ?_ _)); refine blk_far ?_ NB559_571.out _; exact zk BK559) hb); replace BK565 := Aside0.mk (blk_below (g := gb565) (o := .cells #[.slice Ao14 t560.length co14, .int .i64 t563] 25 (0, 0)) (by (with_reducible repeat (first | refine blk_drewN ?_ _ | refine blk_drew ?_ | refine blk_alloc ?_ _)); refine blk_far ?_ NB565_571.out _; (with_reducible repeat (first | refine blk_drewN ?_ _ | refine blk_drew ?_ | refine blk_alloc ?_ _)); refine blk_far ?_ NB565_571.out _; exact zk BK565) hb); replace BK571 := Aside0.mk (blk_below (g := gb571) (o := .cells #[.slice Ao20 t566.length co20, .int .i64 t569] 25 (0, 0)) (by (with_reducible repeat (first | refine blk_drewN ?_ _ | refine blk_drew ?_ | refine blk_alloc ?_ _)); refine blk_put (cs := #[.slice Ao20 t566.length co20, .int .i64 0]) ?_ 1 _ rfl; (with_reducible repeat (first | refine blk_drewN ?_ _ | refine blk_drew ?_ | refine blk_alloc ?_ _)); refine blk_put (cs := #[.slice none 0 0, .int .i64 0]) ?_ 0 _ rfl; exact zk BK571) hb); replace HB := Aside0.mk (below_step (zb HB) hb); (try clear hb); (try clear hk); obtain ⟨hcz36_0, hcz36_1, hfz36_0, hfz36_1⟩ := c2 BK559) | (go_at_call 15; (with_reducible refine (spec_TableOk.calls k _ _ t552 t555 true _ ?side1 ?side2 A27.out).mono ?_); (case side1 => exact zc (Kd.R_reads' HO554.out).2.2); (case side2 => exact (Kd.R_reads' HO554.out).2.1); rintro e w37 ⟨rfl, hb⟩; replace HO554 := Aside0.mk (Kd.R_below (zr HO554) hb); replace HO558 := Aside0.mk (Kd.R_below (zr HO558) hb); replace HO562 := Aside0.mk (Kd.R_below (zr HO562) hb); replace HO568 := Aside0.mk (Kd.R_below (zr HO568) hb); replace BK559 := kb BK559 hb; replace BK565 := kb BK565 hb; replace BK571 := kb BK571 hb; replace HB := Aside0.mk (below_step (zb HB) hb); (try clear hb)) | (go_at_call 16; (with_reducible refine (spec_HeadOk.calls k _ _ t556 t574 _ ?side1 ?side2 A29.out).mono ?_); (case side1 => exact zc (Kd.R_reads' HO558.out).2.2); (case side2 => exact (Kd.R_reads' HO558.out).2.1); rintro e w38 ⟨rfl, hb⟩; replace HO554 := Aside0.mk (Kd.R_below (zr HO554) hb); replace HO558 := Aside0.mk (Kd.R_below (zr HO558) hb); replace HO562 := Aside0.mk (Kd.R_below (zr HO562) hb); replace HO568 := Aside0.mk (Kd.R_below (zr HO568) hb); replace BK559 := kb BK559 hb; replace BK565 := kb BK565 hb; replace BK571 := kb BK571 hb; replace HB := Aside0.mk (below_step (zb HB) hb); (try clear hb)))
      go_meet
      case rel => exact ⟨_, (!t574), zs, H', ⟨by first | omega | exact Nat.le_refl _⟩, ⟨by (with_reducible repeat (first | apply Kd.R_alloc | apply Kd.R_drewN | apply Kd.R_drew)); exact Kd.R_mono HO558.out (fun _ hk => ⟨hk.1.1, ⟨hk.1.2, hk.2⟩⟩)⟩, ⟨by (with_reducible repeat (first | apply Kd.R_alloc | apply Kd.R_drewN | apply Kd.R_drew)); exact Kd.R_mono HO554.out (fun _ hk => ⟨hk.1.1, ⟨hk.1.2, hk.2⟩⟩)⟩, ⟨by (with_reducible repeat (first | apply Kd.R_alloc | apply Kd.R_drewN | apply Kd.R_drew)); exact Kd.R_mono HO562.out (fun _ hk => ⟨hk.1.2, ⟨hk.1.1.2, hk.2⟩⟩)⟩, ⟨by (with_reducible repeat (first | apply Kd.R_alloc | apply Kd.R_drewN | apply Kd.R_drew)); exact Kd.R_mono HO568.out (fun _ hk => ⟨hk.1.2, ⟨hk.1.1.2, hk.2⟩⟩)⟩, ⟨by exact zk BK559⟩, ⟨by exact zk BK565⟩, ⟨by exact zk BK571⟩, ⟨zb HB⟩⟩
     ·replace c28 := Bool.eq_false_iff.mpr c28
      subst c28
      rw [if_neg (show ¬ (false = true) by decide)] at H
      have H' := Aside0.mk H
      clear H
      have hnb39 := NB571_559.out
      have hnc39 := NB559_571.out
      have hnb40 := NB571_565.out
      have hnc40 := NB565_571.out
      obtain ⟨hcz41_0, hcz41_1, hfz41_0, hfz41_1⟩ := c2 BK571
      have hnb42 := NB565_559.out
      have hnc42 := NB559_565.out
      obtain ⟨hcz43_0, hcz43_1, hfz43_0, hfz43_1⟩ := c2 BK565
      go_wp2_with (first | (go_at_call 14; (with_reducible refine (laws_lkTable.calls k _ _ t566 t569 _ _ t560 t563 true _ ?side1 ?side2 ?side3 ?side4 A25.out).mono ?_); (case side1 => refine (Kd.R_reads' (e := 88) (base := w.heap.size) (ok := fun k_ => (((True ∧ some k_ ≠ (.slice Ao9 t552.length co9 : Value).ownBlock) ∧ some k_ ≠ (.slice Ao11 t556.length co11 : Value).ownBlock) ∧ some k_ ≠ (.slice Ao14 t560.length co14 : Value).ownBlock)) (n := t566.length) (c := co20) ?_).2.2; exact (by (with_reducible repeat (first | apply Kd.R_alloc | apply Kd.R_drewN | apply Kd.R_drew)); exact (Kd.R_mono (Kd.R_far (p := ⟨gb571, 1, none⟩) (Kd.R_far (p := ⟨gb571, 0, none⟩) (Kd.R_types HO568.out BK571.out (by decide)) (fun _ hk => hk.2) (.slice Ao20 t566.length co20)) (fun _ hk => hk.2) (.int .i64 t569)) (fun _ h_ => h_.1)))); (case side2 => exact (Kd.R_reads' HO568.out).2.1); (case side3 => refine (Kd.R_reads' (e := 88) (base := w.heap.size) (ok := fun k_ => (((True ∧ some k_ ≠ (.slice Ao9 t552.length co9 : Value).ownBlock) ∧ some k_ ≠ (.slice Ao11 t556.length co11 : Value).ownBlock) ∧ some k_ ≠ (.slice Ao20 t566.length co20 : Value).ownBlock)) (n := t560.length) (c := co14) ?_).2.2; exact (by (with_reducible repeat (first | apply Kd.R_alloc | apply Kd.R_drewN | apply Kd.R_drew)); exact (Kd.R_mono (Kd.R_far (p := ⟨gb571, 1, none⟩) (Kd.R_far (p := ⟨gb571, 0, none⟩) (Kd.R_types HO562.out BK571.out (by decide)) (fun _ hk => hk.2) (.slice Ao20 t566.length co20)) (fun _ hk => hk.2) (.int .i64 t569)) (fun _ h_ => h_.1)))); (case side4 => exact (Kd.R_reads' HO562.out).2.1); rintro e w44 ⟨rfl, hb⟩; replace HO554 := Aside0.mk (Kd.R_below (by (with_reducible repeat (first | apply Kd.R_alloc | apply Kd.R_drewN | apply Kd.R_drew)); exact (Kd.R_mono (Kd.R_far (p := ⟨gb571, 1, none⟩) (Kd.R_far (p := ⟨gb571, 0, none⟩) (Kd.R_types HO554.out BK571.out (by decide)) (fun _ hk => hk.2) (.slice Ao20 t566.length co20)) (fun _ hk => hk.2) (.int .i64 t569)) (fun _ h_ => h_.1))) hb); replace HO558 := Aside0.mk (Kd.R_below (by (with_reducible repeat (first | apply Kd.R_alloc | apply Kd.R_drewN | apply Kd.R_drew)); exact (Kd.R_mono (Kd.R_far (p := ⟨gb571, 1, none⟩) (Kd.R_far (p := ⟨gb571, 0, none⟩) (Kd.R_types HO558.out BK571.out (by decide)) (fun _ hk => hk.2) (.slice Ao20 t566.length co20)) (fun _ hk => hk.2) (.int .i64 t569)) (fun _ h_ => h_.1))) hb); replace HO562 := Aside0.mk (Kd.R_below (by (with_reducible repeat (first | apply Kd.R_alloc | apply Kd.R_drewN | apply Kd.R_drew)); exact (Kd.R_mono (Kd.R_far (p := ⟨gb571, 1, none⟩) (Kd.R_far (p := ⟨gb571, 0, none⟩) (Kd.R_types HO562.out BK571.out (by decide)) (fun _ hk => hk.2) (.slice Ao20 t566.length co20)) (fun _ hk => hk.2) (.int .i64 t569)) (fun _ h_ => h_.1))) hb); replace HO568 := Aside0.mk (Kd.R_below (by (with_reducible repeat (first | apply Kd.R_alloc | apply Kd.R_drewN | apply Kd.R_drew)); exact (Kd.R_mono (Kd.R_far (p := ⟨gb571, 1, none⟩) (Kd.R_far (p := ⟨gb571, 0, none⟩) (Kd.R_types HO568.out BK571.out (by decide)) (fun _ hk => hk.2) (.slice Ao20 t566.length co20)) (fun _ hk => hk.2) (.int .i64 t569)) (fun _ h_ => h_.1))) hb); replace BK559 := Aside0.mk (blk_below (g := gb559) (o := .cells #[.slice Ao9 t552.length co9, .int .i64 t555] 25 (0, 0)) (by (with_reducible repeat (first | refine blk_drewN ?_ _ | refine blk_drew ?_ | refine blk_alloc ?_ _)); refine blk_far ?_ NB559_571.out _; (with_reducible repeat (first | refine blk_drewN ?_ _ | refine blk_drew ?_ | refine blk_alloc ?_ _)); refine blk_far ?_ NB559_571.out _; exact zk BK559) hb); replace BK565 := Aside0.mk (blk_below (g := gb565) (o := .cells #[.slice Ao14 t560.length co14, .int .i64 t563] 25 (0, 0)) (by (with_reducible repeat (first | refine blk_drewN ?_ _ | refine blk_drew ?_ | refine blk_alloc ?_ _)); refine blk_far ?_ NB565_571.out _; (with_reducible repeat (first | refine blk_drewN ?_ _ | refine blk_drew ?_ | refine blk_alloc ?_ _)); refine blk_far ?_ NB565_571.out _; exact zk BK565) hb); replace BK571 := Aside0.mk (blk_below (g := gb571) (o := .cells #[.slice Ao20 t566.length co20, .int .i64 t569] 25 (0, 0)) (by (with_reducible repeat (first | refine blk_drewN ?_ _ | refine blk_drew ?_ | refine blk_alloc ?_ _)); refine blk_put (cs := #[.slice Ao20 t566.length co20, .int .i64 0]) ?_ 1 _ rfl; (with_reducible repeat (first | refine blk_drewN ?_ _ | refine blk_drew ?_ | refine blk_alloc ?_ _)); refine blk_put (cs := #[.slice none 0 0, .int .i64 0]) ?_ 0 _ rfl; exact zk BK571) hb); replace HB := Aside0.mk (below_step (zb HB) hb); (try clear hb); (try clear hk); obtain ⟨hcz45_0, hcz45_1, hfz45_0, hfz45_1⟩ := c2 BK559) | (go_at_call 15; (with_reducible refine (spec_TableOk.calls k _ _ t552 t555 false _ ?side1 ?side2 A27.out).mono ?_); (case side1 => exact zc (Kd.R_reads' HO554.out).2.2); (case side2 => exact (Kd.R_reads' HO554.out).2.1); rintro e w46 ⟨rfl, hb⟩; replace HO554 := Aside0.mk (Kd.R_below (zr HO554) hb); replace HO558 := Aside0.mk (Kd.R_below (zr HO558) hb); replace HO562 := Aside0.mk (Kd.R_below (zr HO562) hb); replace HO568 := Aside0.mk (Kd.R_below (zr HO568) hb); replace BK559 := kb BK559 hb; replace BK565 := kb BK565 hb; replace BK571 := kb BK571 hb; replace HB := Aside0.mk (below_step (zb HB) hb); (try clear hb)))
      go_meet
      case rel => exact ⟨_, (true), zs, H', ⟨by first | omega | exact Nat.le_refl _⟩, ⟨by (with_reducible repeat (first | apply Kd.R_alloc | apply Kd.R_drewN | apply Kd.R_drew)); exact Kd.R_mono HO558.out (fun _ hk => ⟨hk.1.1, ⟨hk.1.2, hk.2⟩⟩)⟩, ⟨by (with_reducible repeat (first | apply Kd.R_alloc | apply Kd.R_drewN | apply Kd.R_drew)); exact Kd.R_mono HO554.out (fun _ hk => ⟨hk.1.1, ⟨hk.1.2, hk.2⟩⟩)⟩, ⟨by (with_reducible repeat (first | apply Kd.R_alloc | apply Kd.R_drewN | apply Kd.R_drew)); exact Kd.R_mono HO562.out (fun _ hk => ⟨hk.1.2, ⟨hk.1.1.2, hk.2⟩⟩)⟩, ⟨by (with_reducible repeat (first | apply Kd.R_alloc | apply Kd.R_drewN | apply Kd.R_drew)); exact Kd.R_mono HO568.out (fun _ hk => ⟨hk.1.2, ⟨hk.1.1.2, hk.2⟩⟩)⟩, ⟨by exact zk BK559⟩, ⟨by exact zk BK565⟩, ⟨by exact zk BK571⟩, ⟨zb HB⟩⟩
    ·replace c26 := Bool.eq_false_iff.mpr c26
     subst c26
     rw [if_neg (show ¬ (false = true) by decide)] at H
     have H' := Aside0.mk H
     clear H
     have hnb47 := NB571_559.out
     have hnc47 := NB559_571.out
     have hnb48 := NB571_565.out
     have hnc48 := NB565_571.out
     obtain ⟨hcz49_0, hcz49_1, hfz49_0, hfz49_1⟩ := c2 BK571
     have hnb50 := NB565_559.out
     have hnc50 := NB559_565.out
     obtain ⟨hcz51_0, hcz51_1, hfz51_0, hfz51_1⟩ := c2 BK565
     go_wp2_with (first | (go_at_call 14; (with_reducible refine (laws_lkTable.calls k _ _ t566 t569 _ _ t560 t563 false _ ?side1 ?side2 ?side3 ?side4 A25.out).mono ?_); (case side1 => refine (Kd.R_reads' (e := 88) (base := w.heap.size) (ok := fun k_ => (((True ∧ some k_ ≠ (.slice Ao9 t552.length co9 : Value).ownBlock) ∧ some k_ ≠ (.slice Ao11 t556.length co11 : Value).ownBlock) ∧ some k_ ≠ (.slice Ao14 t560.length co14 : Value).ownBlock)) (n := t566.length) (c := co20) ?_).2.2; exact (by (with_reducible repeat (first | apply Kd.R_alloc | apply Kd.R_drewN | apply Kd.R_drew)); exact (Kd.R_mono (Kd.R_far (p := ⟨gb571, 1, none⟩) (Kd.R_far (p := ⟨gb571, 0, none⟩) (Kd.R_types HO568.out BK571.out (by decide)) (fun _ hk => hk.2) (.slice Ao20 t566.length co20)) (fun _ hk => hk.2) (.int .i64 t569)) (fun _ h_ => h_.1)))); (case side2 => exact (Kd.R_reads' HO568.out).2.1); (case side3 => refine (Kd.R_reads' (e := 88) (base := w.heap.size) (ok := fun k_ => (((True ∧ some k_ ≠ (.slice Ao9 t552.length co9 : Value).ownBlock) ∧ some k_ ≠ (.slice Ao11 t556.length co11 : Value).ownBlock) ∧ some k_ ≠ (.slice Ao20 t566.length co20 : Value).ownBlock)) (n := t560.length) (c := co14) ?_).2.2; exact (by (with_reducible repeat (first | apply Kd.R_alloc | apply Kd.R_drewN | apply Kd.R_drew)); exact (Kd.R_mono (Kd.R_far (p := ⟨gb571, 1, none⟩) (Kd.R_far (p := ⟨gb571, 0, none⟩) (Kd.R_types HO562.out BK571.out (by decide)) (fun _ hk => hk.2) (.slice Ao20 t566.length co20)) (fun _ hk => hk.2) (.int .i64 t569)) (fun _ h_ => h_.1)))); (case side4 => exact (Kd.R_reads' HO562.out).2.1); rintro e w52 ⟨rfl, hb⟩; replace HO554 := Aside0.mk (Kd.R_below (by (with_reducible repeat (first | apply Kd.R_alloc | apply Kd.R_drewN | apply Kd.R_drew)); exact (Kd.R_mono (Kd.R_far (p := ⟨gb571, 1, none⟩) (Kd.R_far (p := ⟨gb571, 0, none⟩) (Kd.R_types HO554.out BK571.out (by decide)) (fun _ hk => hk.2) (.slice Ao20 t566.length co20)) (fun _ hk => hk.2) (.int .i64 t569)) (fun _ h_ => h_.1))) hb); replace HO558 := Aside0.mk (Kd.R_below (by (with_reducible repeat (first | apply Kd.R_alloc | apply Kd.R_drewN | apply Kd.R_drew)); exact (Kd.R_mono (Kd.R_far (p := ⟨gb571, 1, none⟩) (Kd.R_far (p := ⟨gb571, 0, none⟩) (Kd.R_types HO558.out BK571.out (by decide)) (fun _ hk => hk.2) (.slice Ao20 t566.length co20)) (fun _ hk => hk.2) (.int .i64 t569)) (fun _ h_ => h_.1))) hb); replace HO562 := Aside0.mk (Kd.R_below (by (with_reducible repeat (first | apply Kd.R_alloc | apply Kd.R_drewN | apply Kd.R_drew)); exact (Kd.R_mono (Kd.R_far (p := ⟨gb571, 1, none⟩) (Kd.R_far (p := ⟨gb571, 0, none⟩) (Kd.R_types HO562.out BK571.out (by decide)) (fun _ hk => hk.2) (.slice Ao20 t566.length co20)) (fun _ hk => hk.2) (.int .i64 t569)) (fun _ h_ => h_.1))) hb); replace HO568 := Aside0.mk (Kd.R_below (by (with_reducible repeat (first | apply Kd.R_alloc | apply Kd.R_drewN | apply Kd.R_drew)); exact (Kd.R_mono (Kd.R_far (p := ⟨gb571, 1, none⟩) (Kd.R_far (p := ⟨gb571, 0, none⟩) (Kd.R_types HO568.out BK571.out (by decide)) (fun _ hk => hk.2) (.slice Ao20 t566.length co20)) (fun _ hk => hk.2) (.int .i64 t569)) (fun _ h_ => h_.1))) hb); replace BK559 := Aside0.mk (blk_below (g := gb559) (o := .cells #[.slice Ao9 t552.length co9, .int .i64 t555] 25 (0, 0)) (by (with_reducible repeat (first | refine blk_drewN ?_ _ | refine blk_drew ?_ | refine blk_alloc ?_ _)); refine blk_far ?_ NB559_571.out _; (with_reducible repeat (first | refine blk_drewN ?_ _ | refine blk_drew ?_ | refine blk_alloc ?_ _)); refine blk_far ?_ NB559_571.out _; exact zk BK559) hb); replace BK565 := Aside0.mk (blk_below (g := gb565) (o := .cells #[.slice Ao14 t560.length co14, .int .i64 t563] 25 (0, 0)) (by (with_reducible repeat (first | refine blk_drewN ?_ _ | refine blk_drew ?_ | refine blk_alloc ?_ _)); refine blk_far ?_ NB565_571.out _; (with_reducible repeat (first | refine blk_drewN ?_ _ | refine blk_drew ?_ | refine blk_alloc ?_ _)); refine blk_far ?_ NB565_571.out _; exact zk BK565) hb); replace BK571 := Aside0.mk (blk_below (g := gb571) (o := .cells #[.slice Ao20 t566.length co20, .int .i64 t569] 25 (0, 0)) (by (with_reducible repeat (first | refine blk_drewN ?_ _ | refine blk_drew ?_ | refine blk_alloc ?_ _)); refine blk_put (cs := #[.slice Ao20 t566.length co20, .int .i64 0]) ?_ 1 _ rfl; (with_reducible repeat (first | refine blk_drewN ?_ _ | refine blk_drew ?_ | refine blk_alloc ?_ _)); refine blk_put (cs := #[.slice none 0 0, .int .i64 0]) ?_ 0 _ rfl; exact zk BK571) hb); replace HB := Aside0.mk (below_step (zb HB) hb); (try clear hb); (try clear hk)))
     go_meet
     case rel => exact ⟨_, (true), zs, H', ⟨by first | omega | exact Nat.le_refl _⟩, ⟨by (with_reducible repeat (first | apply Kd.R_alloc | apply Kd.R_drewN | apply Kd.R_drew)); exact Kd.R_mono HO558.out (fun _ hk => ⟨hk.1.1, ⟨hk.1.2, hk.2⟩⟩)⟩, ⟨by (with_reducible repeat (first | apply Kd.R_alloc | apply Kd.R_drewN | apply Kd.R_drew)); exact Kd.R_mono HO554.out (fun _ hk => ⟨hk.1.1, ⟨hk.1.2, hk.2⟩⟩)⟩, ⟨by (with_reducible repeat (first | apply Kd.R_alloc | apply Kd.R_drewN | apply Kd.R_drew)); exact Kd.R_mono HO562.out (fun _ hk => ⟨hk.1.2, ⟨hk.1.1.2, hk.2⟩⟩)⟩, ⟨by (with_reducible repeat (first | apply Kd.R_alloc | apply Kd.R_drewN | apply Kd.R_drew)); exact Kd.R_mono HO568.out (fun _ hk => ⟨hk.1.2, ⟨hk.1.1.2, hk.2⟩⟩)⟩, ⟨by exact zk BK559⟩, ⟨by exact zk BK565⟩, ⟨by exact zk BK571⟩, ⟨zb HB⟩⟩
   ·skip
    have c24b0 : (t570.toList == t564.toList) = false := beq_eq_false_iff_ne.mpr c24
    have c24b1 : (t570.toList != t564.toList) = true := bne_iff_ne.mpr c24
    (first | rw [c24b0] | rw [c24b1] | (simp only [i64_w, i32_w]; rw [c24b0]) | skip)
    have H' := Aside0.mk H
    clear H
    go_wp2
    go_meet
    case rel => exact ⟨_, (true), zs, H', ⟨by first | omega | exact Nat.le_refl _⟩, ⟨by (with_reducible repeat (first | apply Kd.R_alloc | apply Kd.R_drewN | apply Kd.R_drew)); exact Kd.R_mono (Kd.R_far (p := ⟨gb571, 1, none⟩) (Kd.R_far (p := ⟨gb571, 0, none⟩) (Kd.R_types HO558.out BK571.out (by decide)) (fun _ hk => hk.2) (.slice Ao20 t566.length co20)) (fun _ hk => hk.2) (.int .i64 t569)) (fun _ hk => ⟨hk.1.1.1, ⟨hk.1.1.2, hk.1.2⟩⟩)⟩, ⟨by (with_reducible repeat (first | apply Kd.R_alloc | apply Kd.R_drewN | apply Kd.R_drew)); exact Kd.R_mono (Kd.R_far (p := ⟨gb571, 1, none⟩) (Kd.R_far (p := ⟨gb571, 0, none⟩) (Kd.R_types HO554.out BK571.out (by decide)) (fun _ hk => hk.2) (.slice Ao20 t566.length co20)) (fun _ hk => hk.2) (.int .i64 t569)) (fun _ hk => ⟨hk.1.1.1, ⟨hk.1.1.2, hk.1.2⟩⟩)⟩, ⟨by (with_reducible repeat (first | apply Kd.R_alloc | apply Kd.R_drewN | apply Kd.R_drew)); exact Kd.R_mono (Kd.R_far (p := ⟨gb571, 1, none⟩) (Kd.R_far (p := ⟨gb571, 0, none⟩) (Kd.R_types HO562.out BK571.out (by decide)) (fun _ hk => hk.2) (.slice Ao20 t566.length co20)) (fun _ hk => hk.2) (.int .i64 t569)) (fun _ hk => ⟨hk.1.1.2, ⟨hk.1.1.1.2, hk.1.2⟩⟩)⟩, ⟨by (with_reducible repeat (first | apply Kd.R_alloc | apply Kd.R_drewN | apply Kd.R_drew)); exact Kd.R_mono (Kd.R_far (p := ⟨gb571, 1, none⟩) (Kd.R_far (p := ⟨gb571, 0, none⟩) (Kd.R_types HO568.out BK571.out (by decide)) (fun _ hk => hk.2) (.slice Ao20 t566.length co20)) (fun _ hk => hk.2) (.int .i64 t569)) (fun _ hk => ⟨hk.1.1.2, ⟨hk.1.1.1.2, hk.1.2⟩⟩)⟩, ⟨by (with_reducible repeat (first | refine blk_drewN ?_ _ | refine blk_drew ?_ | refine blk_alloc ?_ _)); refine blk_far ?_ NB559_571.out _; (with_reducible repeat (first | refine blk_drewN ?_ _ | refine blk_drew ?_ | refine blk_alloc ?_ _)); refine blk_far ?_ NB559_571.out _; exact zk BK559⟩, ⟨by (with_reducible repeat (first | refine blk_drewN ?_ _ | refine blk_drew ?_ | refine blk_alloc ?_ _)); refine blk_far ?_ NB565_571.out _; (with_reducible repeat (first | refine blk_drewN ?_ _ | refine blk_drew ?_ | refine blk_alloc ?_ _)); refine blk_far ?_ NB565_571.out _; exact zk BK565⟩, ⟨by (with_reducible repeat (first | refine blk_drewN ?_ _ | refine blk_drew ?_ | refine blk_alloc ?_ _)); refine blk_put (cs := #[.slice Ao20 t566.length co20, .int .i64 0]) ?_ 1 _ rfl; (with_reducible repeat (first | refine blk_drewN ?_ _ | refine blk_drew ?_ | refine blk_alloc ?_ _)); refine blk_put (cs := #[.slice none 0 0, .int .i64 0]) ?_ 0 _ rfl; exact zk BK571⟩, ⟨zb HB⟩⟩
  case rest =>
   clear HC6
   try clear c1
   try clear c2
   try clear c2b0
   try clear c2b1
   try clear p2
   try clear c3
   try clear c4
   try clear c5
   try clear c11
   try clear c12
   try clear c13
   try clear c15
   try clear c21
   try clear c22
   try clear c24
   try clear c24b0
   try clear c24b1
   try clear c26
   try clear c28
   try clear c30
   try clear c31
   try clear c33
   try clear c39
   try clear c40
   try clear c42
   try clear c47
   try clear c48
   try clear c50
   try clear hcz10_0
   try clear hcz10_1
   try clear hcz16_0
   try clear hcz16_1
   try clear hcz17_0
   try clear hcz17_1
   try clear hcz23_0
   try clear hcz23_1
   try clear hcz32_0
   try clear hcz32_1
   try clear hcz34_0
   try clear hcz34_1
   try clear hcz36_0
   try clear hcz36_1
   try clear hcz41_0
   try clear hcz41_1
   try clear hcz43_0
   try clear hcz43_1
   try clear hcz45_0
   try clear hcz45_1
   try clear hcz49_0
   try clear hcz49_1
   try clear hcz51_0
   try clear hcz51_1
   try clear hfz10_0
   try clear hfz10_1
   try clear hfz16_0
   try clear hfz16_1
   try clear hfz17_0
   try clear hfz17_1
   try clear hfz23_0
   try clear hfz23_1
   try clear hfz32_0
   try clear hfz32_1
   try clear hfz34_0
   try clear hfz34_1
   try clear hfz36_0
   try clear hfz36_1
   try clear hfz41_0
   try clear hfz41_1
   try clear hfz43_0
   try clear hfz43_1
   try clear hfz45_0
   try clear hfz45_1
   try clear hfz49_0
   try clear hfz49_1
   try clear hfz51_0
   try clear hfz51_1
   obtain ⟨kq, x50_5, rfl, HA, HJ5, HO_4, HO_560000, HO_566000, HO_572000, BK559, BK565, BK571, HB⟩ := hcut
   cases kq with
   | zero => exact absurd HA.out (by simp [laws_FnHeadBack.j0])
   | succ kj5 =>
    have H := HA.out
    clear HA
    simp only [laws_FnHeadBack.j0] at H
    by_cases c53 : x50_5 = true
    ·subst c53
     rw [if_pos rfl] at H
     replace H := sp H
     rcases H with ⟨c54, H⟩ | ⟨c54, H⟩
     ·skip
      have c54b0 : (t570.toList == t564.toList) = true := beq_iff_eq.mpr c54
      have c54b1 : (t570.toList != t564.toList) = false := bne_eq_false_iff_eq.mpr c54
      clear c54
      obtain ⟨t575, A55, H⟩ := ob H
      (try dsimp only at H)
      obtain rfl := Option.some.inj H
      have hnb56 := NB571_559.out
      have hnc56 := NB559_571.out
      have hnb57 := NB571_565.out
      have hnc57 := NB565_571.out
      obtain ⟨hcz58_0, hcz58_1, hfz58_0, hfz58_1⟩ := c2 BK571
      have hnb59 := NB565_559.out
      have hnc59 := NB559_565.out
      obtain ⟨hcz60_0, hcz60_1, hfz60_0, hfz60_1⟩ := c2 BK565
      go_wp2_with (first | (go_at_call 14; (with_reducible refine (laws_lkTable.calls kj5 _ _ t566 t569 _ _ t560 t563 t575 _ ?side1 ?side2 ?side3 ?side4 A55.out).mono ?_); (case side1 => exact zc (Kd.R_reads' HO_572000.out).2.2); (case side2 => exact (Kd.R_reads' HO_572000.out).2.1); (case side3 => exact zc (Kd.R_reads' HO_566000.out).2.2); (case side4 => exact (Kd.R_reads' HO_566000.out).2.1); rintro e w61 ⟨rfl, hb⟩; replace HO_4 := Aside0.mk (Kd.R_below (zr HO_4) hb); replace HO_560000 := Aside0.mk (Kd.R_below (zr HO_560000) hb); replace HO_566000 := Aside0.mk (Kd.R_below (zr HO_566000) hb); replace HO_572000 := Aside0.mk (Kd.R_below (zr HO_572000) hb); replace BK559 := kb BK559 hb; replace BK565 := kb BK565 hb; replace BK571 := kb BK571 hb; replace HB := Aside0.mk (below_step (zb HB) hb); (try clear hb)))
      go_ret
      exact ⟨ze, zb HB⟩
     ·skip
      have c54b0 : (t570.toList == t564.toList) = false := beq_eq_false_iff_ne.mpr c54
      have c54b1 : (t570.toList != t564.toList) = true := bne_iff_ne.mpr c54
      obtain rfl := Option.some.inj H
      go_wp2
      go_ret
      exact ⟨ze, zb HB⟩
    ·replace c53 := Bool.eq_false_iff.mpr c53
     subst c53
     rw [if_neg (show ¬ (false = true) by decide)] at H
     obtain ⟨⟨t576, t579, t580, t583⟩, A62, H⟩ := ob H
     (try dsimp only at H)
     by_cases c63 : t583 = true
     ·subst c63
      rw [if_pos rfl] at H
      obtain ⟨t585, A64, H⟩ := ob H
      (try dsimp only at H)
      by_cases c65 : t585 = true
      ·subst c65
       rw [if_pos rfl] at H
       obtain ⟨t586, A66, H⟩ := ob H
       (try dsimp only at H)
       by_cases c67 : t586 = true
       ·subst c67
        rw [if_pos rfl] at H
        obtain ⟨t587, A68, H⟩ := ob H
        (try dsimp only at H)
        obtain rfl := Option.some.inj H
        have hnb69 := NB559_565.out
        have hnc69 := NB565_559.out
        have hnb70 := NB559_571.out
        have hnc70 := NB571_559.out
        obtain ⟨hcz71_0, hcz71_1, hfz71_0, hfz71_1⟩ := c2 BK559
        go_wp2_with (first | ((with_reducible refine gq 17 rfl ?_); refine gl (some 62) Try.func17 #[.agg #[.slice Ao9 t552.length co9, .int .i64 t555], .string t570] ?_; (with_reducible refine (impl_HeadRead.calls kj5 (fun k_ => some k_ = (.slice Ao9 t552.length co9 : Value).ownBlock) _ _ t552 t555 t570 t576 t579 t580 true _ ?side1 A62.out).mono ?_); (case side1 => exact Kd.R_V (Kd.R_tight rfl (Kd.R_types (Kd.R_types (Kd.R_types (HO_560000.out) BK559.out (by decide)) BK565.out (by decide)) BK571.out (by decide)))); rintro e w72 ⟨v577, v581, rfl, ho0, ho1, hb⟩; refine ⟨_, rfl, ?_⟩; have HO578 := Aside0.mk (Kd.R_lower (Kd.R_new' (Kd.R_new' (Kd.R_new' (Kd.R_new' (Kd.R_mono (ok' := fun k_ => some k_ ≠ (v581 : Value).ownBlock) ho0 (fun _ hk_ => hk_.2)) (Kd.R_lt (zr HO_4))) (Kd.R_lt (zr HO_560000))) (Kd.R_lt (zr HO_566000))) (Kd.R_lt (zr HO_572000))) (below_size (zb HB))); have HO582 := Aside0.mk (Kd.R_lower (Kd.R_new' (Kd.R_new' (Kd.R_new' (Kd.R_new' (Kd.R_mono (ok' := fun k_ => some k_ ≠ (v577 : Value).ownBlock) ho1 (fun _ hk_ => hk_.2)) (Kd.R_lt (zr HO_4))) (Kd.R_lt (zr HO_560000))) (Kd.R_lt (zr HO_566000))) (Kd.R_lt (zr HO_572000))) (below_size (zb HB))); replace HO_4 := Aside0.mk (Kd.R_mono (Kd.R_told (Kd.R_told (Kd.R_old (zr HO_4) hb) (Kd.R_base ho0)) (Kd.R_base ho1)) (fun _ h_ => h_.1)); replace HO_560000 := Aside0.mk (Kd.R_mono (Kd.R_told (Kd.R_told (Kd.R_old (zr HO_560000) hb) (Kd.R_base ho0)) (Kd.R_base ho1)) (fun _ h_ => h_.1)); replace HO_566000 := Aside0.mk (Kd.R_mono (Kd.R_told (Kd.R_told (Kd.R_old (zr HO_566000) hb) (Kd.R_base ho0)) (Kd.R_base ho1)) (fun _ h_ => h_.1)); replace HO_572000 := Aside0.mk (Kd.R_mono (Kd.R_told (Kd.R_told (Kd.R_old (zr HO_572000) hb) (Kd.R_base ho0)) (Kd.R_base ho1)) (fun _ h_ => h_.1)); replace BK559 := kb BK559 hb; replace BK565 := kb BK565 hb; replace BK571 := kb BK571 hb; replace HB := Aside0.mk (below_step (zb HB) hb); (try clear hb); (try clear ho0); (try clear ho1)) | ((with_reducible refine gd 9 rfl ?_); refine bx (N := 9) (cs := #[.slice none 0 0, .int .i64 0]) (t := 25) ?_; intro gb584 hg w73 hbox hb; replace HO_4 := Aside0.mk (Kd.R_below (zr HO_4) hb); replace HO_560000 := Aside0.mk (Kd.R_below (zr HO_560000) hb); replace HO_566000 := Aside0.mk (Kd.R_below (zr HO_566000) hb); replace HO_572000 := Aside0.mk (Kd.R_below (zr HO_572000) hb); replace HO578 := Aside0.mk (Kd.R_below (zr HO578) hb); replace HO582 := Aside0.mk (Kd.R_below (zr HO582) hb); have BK584 := Aside0.mk (hbox); have GW584 := gw HB hg; have GE584 := GW584; replace HB := Aside0.mk (below_step (zb HB) hb); obtain ⟨NB559_584, NB584_559⟩ := nb BK559 hg; replace BK559 := kb BK559 hb; obtain ⟨NB565_584, NB584_565⟩ := nb BK565 hg; replace BK565 := kb BK565 hb; obtain ⟨NB571_584, NB584_571⟩ := nb BK571 hg; replace BK571 := kb BK571 hb; clear hb hbox hg; obtain ⟨Ao74, co74, eo74⟩ := Kd.R_slice HO578.out; subst eo74; have hnb75 := NB584_559.out; have hnc75 := NB559_584.out; have hnb76 := NB584_565.out; have hnc76 := NB565_584.out; have hnb77 := NB584_571.out; have hnc77 := NB571_584.out; obtain ⟨hcz78_0, hcz78_1, hfz78_0, hfz78_1⟩ := c2 BK584; obtain ⟨Ao79, co79, eo79⟩ := Kd.R_slice HO582.out; subst eo79) | (go_at_call 18; (with_reducible refine (laws_lkFields.calls kj5 _ _ t580 _ _ t556 true _ ?side1 ?side2 ?side3 ?side4 A64.out).mono ?_); (case side1 => refine (Kd.R_reads' (e := 88) (base := w.heap.size) (ok := fun k_ => ((((some k_ ≠ (.slice Ao74 t576.length co74 : Value).ownBlock ∧ some k_ ≠ (.slice Ao11 t556.length co11 : Value).ownBlock) ∧ some k_ ≠ (.slice Ao9 t552.length co9 : Value).ownBlock) ∧ some k_ ≠ (.slice Ao14 t560.length co14 : Value).ownBlock) ∧ some k_ ≠ (.slice Ao20 t566.length co20 : Value).ownBlock)) (n := t580.length) (c := co79) ?_).2.2; exact (by (with_reducible repeat (first | apply Kd.R_alloc | apply Kd.R_drewN | apply Kd.R_drew)); exact (Kd.R_mono (Kd.R_far (p := ⟨gb584, 1, none⟩) (Kd.R_far (p := ⟨gb584, 0, none⟩) (Kd.R_types HO582.out BK584.out (by decide)) (fun _ hk => hk.2) (.slice Ao74 t576.length co74)) (fun _ hk => hk.2) (.int .i64 t579)) (fun _ h_ => h_.1)))); (case side2 => exact (Kd.R_reads' HO582.out).2.1); (case side3 => refine (Kd.R_reads' (e := 88) (base := w.heap.size) (ok := fun k_ => (((some k_ ≠ (.slice Ao9 t552.length co9 : Value).ownBlock ∧ (some k_ ≠ (.slice Ao14 t560.length co14 : Value).ownBlock ∧ some k_ ≠ (.slice Ao20 t566.length co20 : Value).ownBlock)) ∧ some k_ ≠ (.slice Ao74 t576.length co74 : Value).ownBlock) ∧ some k_ ≠ (.slice Ao79 t580.length co79 : Value).ownBlock)) (n := t556.length) (c := co11) ?_).2.2; exact (by (with_reducible repeat (first | apply Kd.R_alloc | apply Kd.R_drewN | apply Kd.R_drew)); exact (Kd.R_mono (Kd.R_far (p := ⟨gb584, 1, none⟩) (Kd.R_far (p := ⟨gb584, 0, none⟩) (Kd.R_types HO_4.out BK584.out (by decide)) (fun _ hk => hk.2) (.slice Ao74 t576.length co74)) (fun _ hk => hk.2) (.int .i64 t579)) (fun _ h_ => h_.1)))); (case side4 => exact (Kd.R_reads' HO_4.out).2.1); rintro e w' ⟨rfl, ⟨nd, rfl⟩⟩; have hnb80 := NB571_565.out; have hnc80 := NB565_571.out; obtain ⟨hcz81_0, hcz81_1, hfz81_0, hfz81_1⟩ := c2 BK571) | (go_at_call 14; (with_reducible refine (laws_lkTable.calls kj5 _ _ t576 t579 _ _ t566 t569 true _ ?side1 ?side2 ?side3 ?side4 A66.out).mono ?_); (case side1 => refine (Kd.R_reads' (e := 88) (base := w.heap.size) (ok := fun k_ => ((((some k_ ≠ (.slice Ao79 t580.length co79 : Value).ownBlock ∧ some k_ ≠ (.slice Ao11 t556.length co11 : Value).ownBlock) ∧ some k_ ≠ (.slice Ao9 t552.length co9 : Value).ownBlock) ∧ some k_ ≠ (.slice Ao14 t560.length co14 : Value).ownBlock) ∧ some k_ ≠ (.slice Ao20 t566.length co20 : Value).ownBlock)) (n := t576.length) (c := co74) ?_).2.2; exact (by (with_reducible repeat (first | apply Kd.R_alloc | apply Kd.R_drewN | apply Kd.R_drew)); exact (Kd.R_mono (Kd.R_far (p := ⟨gb584, 1, none⟩) (Kd.R_far (p := ⟨gb584, 0, none⟩) (Kd.R_types HO578.out BK584.out (by decide)) (fun _ hk => hk.2) (.slice Ao74 t576.length co74)) (fun _ hk => hk.2) (.int .i64 t579)) (fun _ h_ => h_.1)))); (case side2 => exact (Kd.R_reads' HO578.out).2.1); (case side3 => refine (Kd.R_reads' (e := 88) (base := w.heap.size) (ok := fun k_ => (((some k_ ≠ (.slice Ao11 t556.length co11 : Value).ownBlock ∧ (some k_ ≠ (.slice Ao9 t552.length co9 : Value).ownBlock ∧ some k_ ≠ (.slice Ao14 t560.length co14 : Value).ownBlock)) ∧ some k_ ≠ (.slice Ao74 t576.length co74 : Value).ownBlock) ∧ some k_ ≠ (.slice Ao79 t580.length co79 : Value).ownBlock)) (n := t566.length) (c := co20) ?_).2.2; exact (by (with_reducible repeat (first | apply Kd.R_alloc | apply Kd.R_drewN | apply Kd.R_drew)); exact (Kd.R_mono (Kd.R_far (p := ⟨gb584, 1, none⟩) (Kd.R_far (p := ⟨gb584, 0, none⟩) (Kd.R_types HO_572000.out BK584.out (by decide)) (fun _ hk => hk.2) (.slice Ao74 t576.length co74)) (fun _ hk => hk.2) (.int .i64 t579)) (fun _ h_ => h_.1)))); (case side4 => exact (Kd.R_reads' HO_572000.out).2.1); rintro e w82 ⟨rfl, hb⟩; replace HO_4 := Aside0.mk (Kd.R_below (by (with_reducible repeat (first | apply Kd.R_alloc | apply Kd.R_drewN | apply Kd.R_drew)); exact (Kd.R_mono (Kd.R_far (p := ⟨gb584, 1, none⟩) (Kd.R_far (p := ⟨gb584, 0, none⟩) (Kd.R_types HO_4.out BK584.out (by decide)) (fun _ hk => hk.2) (.slice Ao74 t576.length co74)) (fun _ hk => hk.2) (.int .i64 t579)) (fun _ h_ => h_.1))) hb); replace HO_560000 := Aside0.mk (Kd.R_below (by (with_reducible repeat (first | apply Kd.R_alloc | apply Kd.R_drewN | apply Kd.R_drew)); exact (Kd.R_mono (Kd.R_far (p := ⟨gb584, 1, none⟩) (Kd.R_far (p := ⟨gb584, 0, none⟩) (Kd.R_types HO_560000.out BK584.out (by decide)) (fun _ hk => hk.2) (.slice Ao74 t576.length co74)) (fun _ hk => hk.2) (.int .i64 t579)) (fun _ h_ => h_.1))) hb); replace HO_566000 := Aside0.mk (Kd.R_below (by (with_reducible repeat (first | apply Kd.R_alloc | apply Kd.R_drewN | apply Kd.R_drew)); exact (Kd.R_mono (Kd.R_far (p := ⟨gb584, 1, none⟩) (Kd.R_far (p := ⟨gb584, 0, none⟩) (Kd.R_types HO_566000.out BK584.out (by decide)) (fun _ hk => hk.2) (.slice Ao74 t576.length co74)) (fun _ hk => hk.2) (.int .i64 t579)) (fun _ h_ => h_.1))) hb); replace HO_572000 := Aside0.mk (Kd.R_below (by (with_reducible repeat (first | apply Kd.R_alloc | apply Kd.R_drewN | apply Kd.R_drew)); exact (Kd.R_mono (Kd.R_far (p := ⟨gb584, 1, none⟩) (Kd.R_far (p := ⟨gb584, 0, none⟩) (Kd.R_types HO_572000.out BK584.out (by decide)) (fun _ hk => hk.2) (.slice Ao74 t576.length co74)) (fun _ hk => hk.2) (.int .i64 t579)) (fun _ h_ => h_.1))) hb); replace HO578 := Aside0.mk (Kd.R_below (by (with_reducible repeat (first | apply Kd.R_alloc | apply Kd.R_drewN | apply Kd.R_drew)); exact (Kd.R_mono (Kd.R_far (p := ⟨gb584, 1, none⟩) (Kd.R_far (p := ⟨gb584, 0, none⟩) (Kd.R_types HO578.out BK584.out (by decide)) (fun _ hk => hk.2) (.slice Ao74 t576.length co74)) (fun _ hk => hk.2) (.int .i64 t579)) (fun _ h_ => h_.1))) hb); replace HO582 := Aside0.mk (Kd.R_below (by (with_reducible repeat (first | apply Kd.R_alloc | apply Kd.R_drewN | apply Kd.R_drew)); exact (Kd.R_mono (Kd.R_far (p := ⟨gb584, 1, none⟩) (Kd.R_far (p := ⟨gb584, 0, none⟩) (Kd.R_types HO582.out BK584.out (by decide)) (fun _ hk => hk.2) (.slice Ao74 t576.length co74)) (fun _ hk => hk.2) (.int .i64 t579)) (fun _ h_ => h_.1))) hb); replace BK559 := Aside0.mk (blk_below (g := gb559) (o := .cells #[.slice Ao9 t552.length co9, .int .i64 t555] 25 (0, 0)) (by (with_reducible repeat (first | refine blk_drewN ?_ _ | refine blk_drew ?_ | refine blk_alloc ?_ _)); refine blk_far ?_ NB559_584.out _; (with_reducible repeat (first | refine blk_drewN ?_ _ | refine blk_drew ?_ | refine blk_alloc ?_ _)); refine blk_far ?_ NB559_584.out _; exact zk BK559) hb); replace BK565 := Aside0.mk (blk_below (g := gb565) (o := .cells #[.slice Ao14 t560.length co14, .int .i64 t563] 25 (0, 0)) (by (with_reducible repeat (first | refine blk_drewN ?_ _ | refine blk_drew ?_ | refine blk_alloc ?_ _)); refine blk_far ?_ NB565_584.out _; (with_reducible repeat (first | refine blk_drewN ?_ _ | refine blk_drew ?_ | refine blk_alloc ?_ _)); refine blk_far ?_ NB565_584.out _; exact zk BK565) hb); replace BK571 := Aside0.mk (blk_below (g := gb571) (o := .cells #[.slice Ao20 t566.length co20, .int .i64 t569] 25 (0, 0)) (by (with_reducible repeat (first | refine blk_drewN ?_ _ | refine blk_drew ?_ | refine blk_alloc ?_ _)); refine blk_far ?_ NB571_584.out _; (with_reducible repeat (first | refine blk_drewN ?_ _ | refine blk_drew ?_ | refine blk_alloc ?_ _)); refine blk_far ?_ NB571_584.out _; exact zk BK571) hb); replace BK584 := Aside0.mk (blk_below (g := gb584) (o := .cells #[.slice Ao74 t576.length co74, .int .i64 t579] 25 (0, 0)) (by (with_reducible repeat (first | refine blk_drewN ?_ _ | refine blk_drew ?_ | refine blk_alloc ?_ _)); refine blk_put (cs := #[.slice Ao74 t576.length co74, .int .i64 0]) ?_ 1 _ rfl; (with_reducible repeat (first | refine blk_drewN ?_ _ | refine blk_drew ?_ | refine blk_alloc ?_ _)); refine blk_put (cs := #[.slice none 0 0, .int .i64 0]) ?_ 0 _ rfl; exact zk BK584) hb); replace HB := Aside0.mk (below_step (zb HB) hb); (try clear hb); (try clear hk); obtain ⟨hcz83_0, hcz83_1, hfz83_0, hfz83_1⟩ := c2 BK571) | (go_at_call 19; (with_reducible refine (impl_TableOk.calls kj5 _ _ t566 t569 t587 _ ?side1 ?side2 A68.out).mono ?_); (case side1 => exact zc (Kd.R_reads' HO_572000.out).2.2); (case side2 => exact (Kd.R_reads' HO_572000.out).2.1); rintro e w84 ⟨rfl, hb⟩; replace HO_4 := Aside0.mk (Kd.R_below (zr HO_4) hb); replace HO_560000 := Aside0.mk (Kd.R_below (zr HO_560000) hb); replace HO_566000 := Aside0.mk (Kd.R_below (zr HO_566000) hb); replace HO_572000 := Aside0.mk (Kd.R_below (zr HO_572000) hb); replace HO578 := Aside0.mk (Kd.R_below (zr HO578) hb); replace HO582 := Aside0.mk (Kd.R_below (zr HO582) hb); replace BK559 := kb BK559 hb; replace BK565 := kb BK565 hb; replace BK571 := kb BK571 hb; replace BK584 := kb BK584 hb; replace HB := Aside0.mk (below_step (zb HB) hb); (try clear hb)))
        go_ret
        exact ⟨ze, zb HB⟩
       ·replace c67 := Bool.eq_false_iff.mpr c67
        subst c67
        rw [if_neg (show ¬ (false = true) by decide)] at H
        obtain rfl := Option.some.inj H
        have hnb85 := NB559_565.out
        have hnc85 := NB565_559.out
        have hnb86 := NB559_571.out
        have hnc86 := NB571_559.out
        obtain ⟨hcz87_0, hcz87_1, hfz87_0, hfz87_1⟩ := c2 BK559
        go_wp2_with (first | ((with_reducible refine gq 17 rfl ?_); refine gl (some 62) Try.func17 #[.agg #[.slice Ao9 t552.length co9, .int .i64 t555], .string t570] ?_; (with_reducible refine (impl_HeadRead.calls kj5 (fun k_ => some k_ = (.slice Ao9 t552.length co9 : Value).ownBlock) _ _ t552 t555 t570 t576 t579 t580 true _ ?side1 A62.out).mono ?_); (case side1 => exact Kd.R_V (Kd.R_tight rfl (Kd.R_types (Kd.R_types (Kd.R_types (HO_560000.out) BK559.out (by decide)) BK565.out (by decide)) BK571.out (by decide)))); rintro e w88 ⟨v577, v581, rfl, ho0, ho1, hb⟩; refine ⟨_, rfl, ?_⟩; have HO578 := Aside0.mk (Kd.R_lower (Kd.R_new' (Kd.R_new' (Kd.R_new' (Kd.R_new' (Kd.R_mono (ok' := fun k_ => some k_ ≠ (v581 : Value).ownBlock) ho0 (fun _ hk_ => hk_.2)) (Kd.R_lt (zr HO_4))) (Kd.R_lt (zr HO_560000))) (Kd.R_lt (zr HO_566000))) (Kd.R_lt (zr HO_572000))) (below_size (zb HB))); have HO582 := Aside0.mk (Kd.R_lower (Kd.R_new' (Kd.R_new' (Kd.R_new' (Kd.R_new' (Kd.R_mono (ok' := fun k_ => some k_ ≠ (v577 : Value).ownBlock) ho1 (fun _ hk_ => hk_.2)) (Kd.R_lt (zr HO_4))) (Kd.R_lt (zr HO_560000))) (Kd.R_lt (zr HO_566000))) (Kd.R_lt (zr HO_572000))) (below_size (zb HB))); replace HO_4 := Aside0.mk (Kd.R_mono (Kd.R_told (Kd.R_told (Kd.R_old (zr HO_4) hb) (Kd.R_base ho0)) (Kd.R_base ho1)) (fun _ h_ => h_.1)); replace HO_560000 := Aside0.mk (Kd.R_mono (Kd.R_told (Kd.R_told (Kd.R_old (zr HO_560000) hb) (Kd.R_base ho0)) (Kd.R_base ho1)) (fun _ h_ => h_.1)); replace HO_566000 := Aside0.mk (Kd.R_mono (Kd.R_told (Kd.R_told (Kd.R_old (zr HO_566000) hb) (Kd.R_base ho0)) (Kd.R_base ho1)) (fun _ h_ => h_.1)); replace HO_572000 := Aside0.mk (Kd.R_mono (Kd.R_told (Kd.R_told (Kd.R_old (zr HO_572000) hb) (Kd.R_base ho0)) (Kd.R_base ho1)) (fun _ h_ => h_.1)); replace BK559 := kb BK559 hb; replace BK565 := kb BK565 hb; replace BK571 := kb BK571 hb; replace HB := Aside0.mk (below_step (zb HB) hb); (try clear hb); (try clear ho0); (try clear ho1)) | ((with_reducible refine gd 9 rfl ?_); refine bx (N := 9) (cs := #[.slice none 0 0, .int .i64 0]) (t := 25) ?_; intro gb584 hg w89 hbox hb; replace HO_4 := Aside0.mk (Kd.R_below (zr HO_4) hb); replace HO_560000 := Aside0.mk (Kd.R_below (zr HO_560000) hb); replace HO_566000 := Aside0.mk (Kd.R_below (zr HO_566000) hb); replace HO_572000 := Aside0.mk (Kd.R_below (zr HO_572000) hb); replace HO578 := Aside0.mk (Kd.R_below (zr HO578) hb); replace HO582 := Aside0.mk (Kd.R_below (zr HO582) hb); have BK584 := Aside0.mk (hbox); have GW584 := gw HB hg; have GE584 := GW584; replace HB := Aside0.mk (below_step (zb HB) hb); obtain ⟨NB559_584, NB584_559⟩ := nb BK559 hg; replace BK559 := kb BK559 hb; obtain ⟨NB565_584, NB584_565⟩ := nb BK565 hg; replace BK565 := kb BK565 hb; obtain ⟨NB571_584, NB584_571⟩ := nb BK571 hg; replace BK571 := kb BK571 hb; clear hb hbox hg; obtain ⟨Ao90, co90, eo90⟩ := Kd.R_slice HO578.out; subst eo90; have hnb91 := NB584_559.out; have hnc91 := NB559_584.out; have hnb92 := NB584_565.out; have hnc92 := NB565_584.out; have hnb93 := NB584_571.out; have hnc93 := NB571_584.out; obtain ⟨hcz94_0, hcz94_1, hfz94_0, hfz94_1⟩ := c2 BK584; obtain ⟨Ao95, co95, eo95⟩ := Kd.R_slice HO582.out; subst eo95) | (go_at_call 18; (with_reducible refine (laws_lkFields.calls kj5 _ _ t580 _ _ t556 true _ ?side1 ?side2 ?side3 ?side4 A64.out).mono ?_); (case side1 => refine (Kd.R_reads' (e := 88) (base := w.heap.size) (ok := fun k_ => ((((some k_ ≠ (.slice Ao90 t576.length co90 : Value).ownBlock ∧ some k_ ≠ (.slice Ao11 t556.length co11 : Value).ownBlock) ∧ some k_ ≠ (.slice Ao9 t552.length co9 : Value).ownBlock) ∧ some k_ ≠ (.slice Ao14 t560.length co14 : Value).ownBlock) ∧ some k_ ≠ (.slice Ao20 t566.length co20 : Value).ownBlock)) (n := t580.length) (c := co95) ?_).2.2; exact (by (with_reducible repeat (first | apply Kd.R_alloc | apply Kd.R_drewN | apply Kd.R_drew)); exact (Kd.R_mono (Kd.R_far (p := ⟨gb584, 1, none⟩) (Kd.R_far (p := ⟨gb584, 0, none⟩) (Kd.R_types HO582.out BK584.out (by decide)) (fun _ hk => hk.2) (.slice Ao90 t576.length co90)) (fun _ hk => hk.2) (.int .i64 t579)) (fun _ h_ => h_.1)))); (case side2 => exact (Kd.R_reads' HO582.out).2.1); (case side3 => refine (Kd.R_reads' (e := 88) (base := w.heap.size) (ok := fun k_ => (((some k_ ≠ (.slice Ao9 t552.length co9 : Value).ownBlock ∧ (some k_ ≠ (.slice Ao14 t560.length co14 : Value).ownBlock ∧ some k_ ≠ (.slice Ao20 t566.length co20 : Value).ownBlock)) ∧ some k_ ≠ (.slice Ao90 t576.length co90 : Value).ownBlock) ∧ some k_ ≠ (.slice Ao95 t580.length co95 : Value).ownBlock)) (n := t556.length) (c := co11) ?_).2.2; exact (by (with_reducible repeat (first | apply Kd.R_alloc | apply Kd.R_drewN | apply Kd.R_drew)); exact (Kd.R_mono (Kd.R_far (p := ⟨gb584, 1, none⟩) (Kd.R_far (p := ⟨gb584, 0, none⟩) (Kd.R_types HO_4.out BK584.out (by decide)) (fun _ hk => hk.2) (.slice Ao90 t576.length co90)) (fun _ hk => hk.2) (.int .i64 t579)) (fun _ h_ => h_.1)))); (case side4 => exact (Kd.R_reads' HO_4.out).2.1); rintro e w' ⟨rfl, ⟨nd, rfl⟩⟩; have hnb96 := NB571_565.out; have hnc96 := NB565_571.out; obtain ⟨hcz97_0, hcz97_1, hfz97_0, hfz97_1⟩ := c2 BK571) | (go_at_call 14; (with_reducible refine (laws_lkTable.calls kj5 _ _ t576 t579 _ _ t566 t569 false _ ?side1 ?side2 ?side3 ?side4 A66.out).mono ?_); (case side1 => refine (Kd.R_reads' (e := 88) (base := w.heap.size) (ok := fun k_ => ((((some k_ ≠ (.slice Ao95 t580.length co95 : Value).ownBlock ∧ some k_ ≠ (.slice Ao11 t556.length co11 : Value).ownBlock) ∧ some k_ ≠ (.slice Ao9 t552.length co9 : Value).ownBlock) ∧ some k_ ≠ (.slice Ao14 t560.length co14 : Value).ownBlock) ∧ some k_ ≠ (.slice Ao20 t566.length co20 : Value).ownBlock)) (n := t576.length) (c := co90) ?_).2.2; exact (by (with_reducible repeat (first | apply Kd.R_alloc | apply Kd.R_drewN | apply Kd.R_drew)); exact (Kd.R_mono (Kd.R_far (p := ⟨gb584, 1, none⟩) (Kd.R_far (p := ⟨gb584, 0, none⟩) (Kd.R_types HO578.out BK584.out (by decide)) (fun _ hk => hk.2) (.slice Ao90 t576.length co90)) (fun _ hk => hk.2) (.int .i64 t579)) (fun _ h_ => h_.1)))); (case side2 => exact (Kd.R_reads' HO578.out).2.1); (case side3 => refine (Kd.R_reads' (e := 88) (base := w.heap.size) (ok := fun k_ => (((some k_ ≠ (.slice Ao11 t556.length co11 : Value).ownBlock ∧ (some k_ ≠ (.slice Ao9 t552.length co9 : Value).ownBlock ∧ some k_ ≠ (.slice Ao14 t560.length co14 : Value).ownBlock)) ∧ some k_ ≠ (.slice Ao90 t576.length co90 : Value).ownBlock) ∧ some k_ ≠ (.slice Ao95 t580.length co95 : Value).ownBlock)) (n := t566.length) (c := co20) ?_).2.2; exact (by (with_reducible repeat (first | apply Kd.R_alloc | apply Kd.R_drewN | apply Kd.R_drew)); exact (Kd.R_mono (Kd.R_far (p := ⟨gb584, 1, none⟩) (Kd.R_far (p := ⟨gb584, 0, none⟩) (Kd.R_types HO_572000.out BK584.out (by decide)) (fun _ hk => hk.2) (.slice Ao90 t576.length co90)) (fun _ hk => hk.2) (.int .i64 t579)) (fun _ h_ => h_.1)))); (case side4 => exact (Kd.R_reads' HO_572000.out).2.1); rintro e w98 ⟨rfl, hb⟩; replace HO_4 := Aside0.mk (Kd.R_below (by (with_reducible repeat (first | apply Kd.R_alloc | apply Kd.R_drewN | apply Kd.R_drew)); exact (Kd.R_mono (Kd.R_far (p := ⟨gb584, 1, none⟩) (Kd.R_far (p := ⟨gb584, 0, none⟩) (Kd.R_types HO_4.out BK584.out (by decide)) (fun _ hk => hk.2) (.slice Ao90 t576.length co90)) (fun _ hk => hk.2) (.int .i64 t579)) (fun _ h_ => h_.1))) hb); replace HO_560000 := Aside0.mk (Kd.R_below (by (with_reducible repeat (first | apply Kd.R_alloc | apply Kd.R_drewN | apply Kd.R_drew)); exact (Kd.R_mono (Kd.R_far (p := ⟨gb584, 1, none⟩) (Kd.R_far (p := ⟨gb584, 0, none⟩) (Kd.R_types HO_560000.out BK584.out (by decide)) (fun _ hk => hk.2) (.slice Ao90 t576.length co90)) (fun _ hk => hk.2) (.int .i64 t579)) (fun _ h_ => h_.1))) hb); replace HO_566000 := Aside0.mk (Kd.R_below (by (with_reducible repeat (first | apply Kd.R_alloc | apply Kd.R_drewN | apply Kd.R_drew)); exact (Kd.R_mono (Kd.R_far (p := ⟨gb584, 1, none⟩) (Kd.R_far (p := ⟨gb584, 0, none⟩) (Kd.R_types HO_566000.out BK584.out (by decide)) (fun _ hk => hk.2) (.slice Ao90 t576.length co90)) (fun _ hk => hk.2) (.int .i64 t579)) (fun _ h_ => h_.1))) hb); replace HO_572000 := Aside0.mk (Kd.R_below (by (with_reducible repeat (first | apply Kd.R_alloc | apply Kd.R_drewN | apply Kd.R_drew)); exact (Kd.R_mono (Kd.R_far (p := ⟨gb584, 1, none⟩) (Kd.R_far (p := ⟨gb584, 0, none⟩) (Kd.R_types HO_572000.out BK584.out (by decide)) (fun _ hk => hk.2) (.slice Ao90 t576.length co90)) (fun _ hk => hk.2) (.int .i64 t579)) (fun _ h_ => h_.1))) hb); replace HO578 := Aside0.mk (Kd.R_below (by (with_reducible repeat (first | apply Kd.R_alloc | apply Kd.R_drewN | apply Kd.R_drew)); exact (Kd.R_mono (Kd.R_far (p := ⟨gb584, 1, none⟩) (Kd.R_far (p := ⟨gb584, 0, none⟩) (Kd.R_types HO578.out BK584.out (by decide)) (fun _ hk => hk.2) (.slice Ao90 t576.length co90)) (fun _ hk => hk.2) (.int .i64 t579)) (fun _ h_ => h_.1))) hb); replace HO582 := Aside0.mk (Kd.R_below (by (with_reducible repeat (first | apply Kd.R_alloc | apply Kd.R_drewN | apply Kd.R_drew)); exact (Kd.R_mono (Kd.R_far (p := ⟨gb584, 1, none⟩) (Kd.R_far (p := ⟨gb584, 0, none⟩) (Kd.R_types HO582.out BK584.out (by decide)) (fun _ hk => hk.2) (.slice Ao90 t576.length co90)) (fun _ hk => hk.2) (.int .i64 t579)) (fun _ h_ => h_.1))) hb); replace BK559 := Aside0.mk (blk_below (g := gb559) (o := .cells #[.slice Ao9 t552.length co9, .int .i64 t555] 25 (0, 0)) (by (with_reducible repeat (first | refine blk_drewN ?_ _ | refine blk_drew ?_ | refine blk_alloc ?_ _)); refine blk_far ?_ NB559_584.out _; (with_reducible repeat (first | refine blk_drewN ?_ _ | refine blk_drew ?_ | refine blk_alloc ?_ _)); refine blk_far ?_ NB559_584.out _; exact zk BK559) hb); replace BK565 := Aside0.mk (blk_below (g := gb565) (o := .cells #[.slice Ao14 t560.length co14, .int .i64 t563] 25 (0, 0)) (by (with_reducible repeat (first | refine blk_drewN ?_ _ | refine blk_drew ?_ | refine blk_alloc ?_ _)); refine blk_far ?_ NB565_584.out _; (with_reducible repeat (first | refine blk_drewN ?_ _ | refine blk_drew ?_ | refine blk_alloc ?_ _)); refine blk_far ?_ NB565_584.out _; exact zk BK565) hb); replace BK571 := Aside0.mk (blk_below (g := gb571) (o := .cells #[.slice Ao20 t566.length co20, .int .i64 t569] 25 (0, 0)) (by (with_reducible repeat (first | refine blk_drewN ?_ _ | refine blk_drew ?_ | refine blk_alloc ?_ _)); refine blk_far ?_ NB571_584.out _; (with_reducible repeat (first | refine blk_drewN ?_ _ | refine blk_drew ?_ | refine blk_alloc ?_ _)); refine blk_far ?_ NB571_584.out _; exact zk BK571) hb); replace BK584 := Aside0.mk (blk_below (g := gb584) (o := .cells #[.slice Ao90 t576.length co90, .int .i64 t579] 25 (0, 0)) (by (with_reducible repeat (first | refine blk_drewN ?_ _ | refine blk_drew ?_ | refine blk_alloc ?_ _)); refine blk_put (cs := #[.slice Ao90 t576.length co90, .int .i64 0]) ?_ 1 _ rfl; (with_reducible repeat (first | refine blk_drewN ?_ _ | refine blk_drew ?_ | refine blk_alloc ?_ _)); refine blk_put (cs := #[.slice none 0 0, .int .i64 0]) ?_ 0 _ rfl; exact zk BK584) hb); replace HB := Aside0.mk (below_step (zb HB) hb); (try clear hb); (try clear hk)))
        go_ret
        exact ⟨ze, zb HB⟩
      ·replace c65 := Bool.eq_false_iff.mpr c65
       subst c65
       rw [if_neg (show ¬ (false = true) by decide)] at H
       obtain rfl := Option.some.inj H
       have hnb99 := NB559_565.out
       have hnc99 := NB565_559.out
       have hnb100 := NB559_571.out
       have hnc100 := NB571_559.out
       obtain ⟨hcz101_0, hcz101_1, hfz101_0, hfz101_1⟩ := c2 BK559
       go_wp2_with (first | ((with_reducible refine gq 17 rfl ?_); refine gl (some 62) Try.func17 #[.agg #[.slice Ao9 t552.length co9, .int .i64 t555], .string t570] ?_; (with_reducible refine (impl_HeadRead.calls kj5 (fun k_ => some k_ = (.slice Ao9 t552.length co9 : Value).ownBlock) _ _ t552 t555 t570 t576 t579 t580 true _ ?side1 A62.out).mono ?_); (case side1 => exact Kd.R_V (Kd.R_tight rfl (Kd.R_types (Kd.R_types (Kd.R_types (HO_560000.out) BK559.out (by decide)) BK565.out (by decide)) BK571.out (by decide)))); rintro e w102 ⟨v577, v581, rfl, ho0, ho1, hb⟩; refine ⟨_, rfl, ?_⟩; have HO578 := Aside0.mk (Kd.R_lower (Kd.R_new' (Kd.R_new' (Kd.R_new' (Kd.R_new' (Kd.R_mono (ok' := fun k_ => some k_ ≠ (v581 : Value).ownBlock) ho0 (fun _ hk_ => hk_.2)) (Kd.R_lt (zr HO_4))) (Kd.R_lt (zr HO_560000))) (Kd.R_lt (zr HO_566000))) (Kd.R_lt (zr HO_572000))) (below_size (zb HB))); have HO582 := Aside0.mk (Kd.R_lower (Kd.R_new' (Kd.R_new' (Kd.R_new' (Kd.R_new' (Kd.R_mono (ok' := fun k_ => some k_ ≠ (v577 : Value).ownBlock) ho1 (fun _ hk_ => hk_.2)) (Kd.R_lt (zr HO_4))) (Kd.R_lt (zr HO_560000))) (Kd.R_lt (zr HO_566000))) (Kd.R_lt (zr HO_572000))) (below_size (zb HB))); replace HO_4 := Aside0.mk (Kd.R_mono (Kd.R_told (Kd.R_told (Kd.R_old (zr HO_4) hb) (Kd.R_base ho0)) (Kd.R_base ho1)) (fun _ h_ => h_.1)); replace HO_560000 := Aside0.mk (Kd.R_mono (Kd.R_told (Kd.R_told (Kd.R_old (zr HO_560000) hb) (Kd.R_base ho0)) (Kd.R_base ho1)) (fun _ h_ => h_.1)); replace HO_566000 := Aside0.mk (Kd.R_mono (Kd.R_told (Kd.R_told (Kd.R_old (zr HO_566000) hb) (Kd.R_base ho0)) (Kd.R_base ho1)) (fun _ h_ => h_.1)); replace HO_572000 := Aside0.mk (Kd.R_mono (Kd.R_told (Kd.R_told (Kd.R_old (zr HO_572000) hb) (Kd.R_base ho0)) (Kd.R_base ho1)) (fun _ h_ => h_.1)); replace BK559 := kb BK559 hb; replace BK565 := kb BK565 hb; replace BK571 := kb BK571 hb; replace HB := Aside0.mk (below_step (zb HB) hb); (try clear hb); (try clear ho0); (try clear ho1)) | ((with_reducible refine gd 9 rfl ?_); refine bx (N := 9) (cs := #[.slice none 0 0, .int .i64 0]) (t := 25) ?_; intro gb584 hg w103 hbox hb; replace HO_4 := Aside0.mk (Kd.R_below (zr HO_4) hb); replace HO_560000 := Aside0.mk (Kd.R_below (zr HO_560000) hb); replace HO_566000 := Aside0.mk (Kd.R_below (zr HO_566000) hb); replace HO_572000 := Aside0.mk (Kd.R_below (zr HO_572000) hb); replace HO578 := Aside0.mk (Kd.R_below (zr HO578) hb); replace HO582 := Aside0.mk (Kd.R_below (zr HO582) hb); have BK584 := Aside0.mk (hbox); have GW584 := gw HB hg; have GE584 := GW584; replace HB := Aside0.mk (below_step (zb HB) hb); obtain ⟨NB559_584, NB584_559⟩ := nb BK559 hg; replace BK559 := kb BK559 hb; obtain ⟨NB565_584, NB584_565⟩ := nb BK565 hg; replace BK565 := kb BK565 hb; obtain ⟨NB571_584, NB584_571⟩ := nb BK571 hg; replace BK571 := kb BK571 hb; clear hb hbox hg; obtain ⟨Ao104, co104, eo104⟩ := Kd.R_slice HO578.out; subst eo104; have hnb105 := NB584_559.out; have hnc105 := NB559_584.out; have hnb106 := NB584_565.out; have hnc106 := NB565_584.out; have hnb107 := NB584_571.out; have hnc107 := NB571_584.out; obtain ⟨hcz108_0, hcz108_1, hfz108_0, hfz108_1⟩ := c2 BK584; obtain ⟨Ao109, co109, eo109⟩ := Kd.R_slice HO582.out; subst eo109) | (go_at_call 18; (with_reducible refine (laws_lkFields.calls kj5 _ _ t580 _ _ t556 false _ ?side1 ?side2 ?side3 ?side4 A64.out).mono ?_); (case side1 => refine (Kd.R_reads' (e := 88) (base := w.heap.size) (ok := fun k_ => ((((some k_ ≠ (.slice Ao104 t576.length co104 : Value).ownBlock ∧ some k_ ≠ (.slice Ao11 t556.length co11 : Value).ownBlock) ∧ some k_ ≠ (.slice Ao9 t552.length co9 : Value).ownBlock) ∧ some k_ ≠ (.slice Ao14 t560.length co14 : Value).ownBlock) ∧ some k_ ≠ (.slice Ao20 t566.length co20 : Value).ownBlock)) (n := t580.length) (c := co109) ?_).2.2; exact (by (with_reducible repeat (first | apply Kd.R_alloc | apply Kd.R_drewN | apply Kd.R_drew)); exact (Kd.R_mono (Kd.R_far (p := ⟨gb584, 1, none⟩) (Kd.R_far (p := ⟨gb584, 0, none⟩) (Kd.R_types HO582.out BK584.out (by decide)) (fun _ hk => hk.2) (.slice Ao104 t576.length co104)) (fun _ hk => hk.2) (.int .i64 t579)) (fun _ h_ => h_.1)))); (case side2 => exact (Kd.R_reads' HO582.out).2.1); (case side3 => refine (Kd.R_reads' (e := 88) (base := w.heap.size) (ok := fun k_ => (((some k_ ≠ (.slice Ao9 t552.length co9 : Value).ownBlock ∧ (some k_ ≠ (.slice Ao14 t560.length co14 : Value).ownBlock ∧ some k_ ≠ (.slice Ao20 t566.length co20 : Value).ownBlock)) ∧ some k_ ≠ (.slice Ao104 t576.length co104 : Value).ownBlock) ∧ some k_ ≠ (.slice Ao109 t580.length co109 : Value).ownBlock)) (n := t556.length) (c := co11) ?_).2.2; exact (by (with_reducible repeat (first | apply Kd.R_alloc | apply Kd.R_drewN | apply Kd.R_drew)); exact (Kd.R_mono (Kd.R_far (p := ⟨gb584, 1, none⟩) (Kd.R_far (p := ⟨gb584, 0, none⟩) (Kd.R_types HO_4.out BK584.out (by decide)) (fun _ hk => hk.2) (.slice Ao104 t576.length co104)) (fun _ hk => hk.2) (.int .i64 t579)) (fun _ h_ => h_.1)))); (case side4 => exact (Kd.R_reads' HO_4.out).2.1); rintro e w' ⟨rfl, ⟨nd, rfl⟩⟩))
       go_ret
       exact ⟨ze, zb HB⟩
     ·replace c63 := Bool.eq_false_iff.mpr c63
      subst c63
      rw [if_neg (show ¬ (false = true) by decide)] at H
      obtain rfl := Option.some.inj H
      have hnb110 := NB559_565.out
      have hnc110 := NB565_559.out
      have hnb111 := NB559_571.out
      have hnc111 := NB571_559.out
      obtain ⟨hcz112_0, hcz112_1, hfz112_0, hfz112_1⟩ := c2 BK559
      go_wp2_with (first | ((with_reducible refine gq 17 rfl ?_); refine gl (some 62) Try.func17 #[.agg #[.slice Ao9 t552.length co9, .int .i64 t555], .string t570] ?_; (with_reducible refine (impl_HeadRead.calls kj5 (fun k_ => some k_ = (.slice Ao9 t552.length co9 : Value).ownBlock) _ _ t552 t555 t570 t576 t579 t580 false _ ?side1 A62.out).mono ?_); (case side1 => exact Kd.R_V (Kd.R_tight rfl (Kd.R_types (Kd.R_types (Kd.R_types (HO_560000.out) BK559.out (by decide)) BK565.out (by decide)) BK571.out (by decide)))); rintro e w113 ⟨v577, v581, rfl, ho0, ho1, hb⟩; refine ⟨_, rfl, ?_⟩; have HO578 := Aside0.mk (Kd.R_lower (Kd.R_new' (Kd.R_new' (Kd.R_new' (Kd.R_new' (Kd.R_mono (ok' := fun k_ => some k_ ≠ (v581 : Value).ownBlock) ho0 (fun _ hk_ => hk_.2)) (Kd.R_lt (zr HO_4))) (Kd.R_lt (zr HO_560000))) (Kd.R_lt (zr HO_566000))) (Kd.R_lt (zr HO_572000))) (below_size (zb HB))); have HO582 := Aside0.mk (Kd.R_lower (Kd.R_new' (Kd.R_new' (Kd.R_new' (Kd.R_new' (Kd.R_mono (ok' := fun k_ => some k_ ≠ (v577 : Value).ownBlock) ho1 (fun _ hk_ => hk_.2)) (Kd.R_lt (zr HO_4))) (Kd.R_lt (zr HO_560000))) (Kd.R_lt (zr HO_566000))) (Kd.R_lt (zr HO_572000))) (below_size (zb HB))); replace HO_4 := Aside0.mk (Kd.R_mono (Kd.R_told (Kd.R_told (Kd.R_old (zr HO_4) hb) (Kd.R_base ho0)) (Kd.R_base ho1)) (fun _ h_ => h_.1)); replace HO_560000 := Aside0.mk (Kd.R_mono (Kd.R_told (Kd.R_told (Kd.R_old (zr HO_560000) hb) (Kd.R_base ho0)) (Kd.R_base ho1)) (fun _ h_ => h_.1)); replace HO_566000 := Aside0.mk (Kd.R_mono (Kd.R_told (Kd.R_told (Kd.R_old (zr HO_566000) hb) (Kd.R_base ho0)) (Kd.R_base ho1)) (fun _ h_ => h_.1)); replace HO_572000 := Aside0.mk (Kd.R_mono (Kd.R_told (Kd.R_told (Kd.R_old (zr HO_572000) hb) (Kd.R_base ho0)) (Kd.R_base ho1)) (fun _ h_ => h_.1)); replace BK559 := kb BK559 hb; replace BK565 := kb BK565 hb; replace BK571 := kb BK571 hb; replace HB := Aside0.mk (below_step (zb HB) hb); (try clear hb); (try clear ho0); (try clear ho1)) | ((with_reducible refine gd 9 rfl ?_); refine bx (N := 9) (cs := #[.slice none 0 0, .int .i64 0]) (t := 25) ?_; intro gb584 hg w114 hbox hb; replace HO_4 := Aside0.mk (Kd.R_below (zr HO_4) hb); replace HO_560000 := Aside0.mk (Kd.R_below (zr HO_560000) hb); replace HO_566000 := Aside0.mk (Kd.R_below (zr HO_566000) hb); replace HO_572000 := Aside0.mk (Kd.R_below (zr HO_572000) hb); replace HO578 := Aside0.mk (Kd.R_below (zr HO578) hb); replace HO582 := Aside0.mk (Kd.R_below (zr HO582) hb); have BK584 := Aside0.mk (hbox); have GW584 := gw HB hg; have GE584 := GW584; replace HB := Aside0.mk (below_step (zb HB) hb); obtain ⟨NB559_584, NB584_559⟩ := nb BK559 hg; replace BK559 := kb BK559 hb; obtain ⟨NB565_584, NB584_565⟩ := nb BK565 hg; replace BK565 := kb BK565 hb; obtain ⟨NB571_584, NB584_571⟩ := nb BK571 hg; replace BK571 := kb BK571 hb; clear hb hbox hg; obtain ⟨Ao115, co115, eo115⟩ := Kd.R_slice HO578.out; subst eo115; have hnb116 := NB584_559.out; have hnc116 := NB559_584.out; have hnb117 := NB584_565.out; have hnc117 := NB565_584.out; have hnb118 := NB584_571.out; have hnc118 := NB571_584.out; obtain ⟨hcz119_0, hcz119_1, hfz119_0, hfz119_1⟩ := c2 BK584))
      go_ret
      exact ⟨ze, zb HB⟩

/-- THE ONE PURE STATEMENT of laws_FnHeadBack: yours. -/
def laws_FnHeadBack.Pure : Prop := ∀ (l0 : List Int), l0.length ≤ maxLen → l0.length * 1 ≤ 140737488351232 → (∀ x ∈ l0, (Lit.int .u8 x).wf = true) → ∃ k, laws_FnHeadBack.f k l0 = some true
theorem laws_FnHeadBack.walk (P : laws_FnHeadBack.Pure) (a0 : Option Addr) (len0 cap0 : Nat) (z0 : List Int) (w : World) (w0 : (a0 = none ∧ len0 = 0 ∧ cap0 = 0 ∧ z0 = []) ∨ ∃ x, a0 = some x ∧ len0 ≤ cap0 ∧ cap0 ≤ maxLen ∧ z0.length = cap0 ∧ (∀ i, i < z0.length → w.cell? (x.add i) = some (.int .u8 (z0.getD i 0))) ∧ ∀ n ∈ z0, (Lit.int .u8 n).wf = true) (y0 : len0 * 1 ≤ 140737488351232) :
  Calls Try.prog 3 #[.slice a0 len0 cap0] w fun e w' => e = .returned (.bool true) ∧ Below w.heap.size w w' := by
 obtain ⟨l0, rfl, hr0, hm0, hw0, hc0⟩ := ReadsInt.ofRowC w0
 obtain ⟨k, h⟩ := P l0 hm0 y0 hw0
 refine (laws_FnHeadBack.calls k _ _ l0 true w (Kd.C_of_reads (d := (0 : Int)) (h1 := fun _ => rfl) hr0) hc0 h).mono ?_
 rintro e w' ⟨rfl, hd⟩
 exact ⟨rfl, hd⟩

end Go.Proofs.Ytlpibelofcabhaa.PFnHeadBack
