-- WRITTEN BY a turned print (wip/tools of the prover's repo)
import Derived.Test.YtdhahifdcoinhaaPFnExactHeadWritex0
import Derived.Test.YtdhahifdcoinhaaPFnExactHeadWritex2
namespace Go.Proofs.Ytdhahifdcoinhaa.PFnExactHeadWrite
open Go.RowKit Go.Proofs.YtdhahifdcoinhaaW.PrintWords Go.Proofs.YtdhahifdcoinhaaW.PrintLast Go.Proofs.YtdhahifdcoinhaaW.PrintMore Go.Proofs.Ytdhahifdcoinhaa.Lm
attribute [local go_sem] max2_int min2_int max_two min_two max_three min_three max_four min_four   -- for this text's walks alone
set_option linter.unusedVariables false
set_option linter.unusedSimpArgs false

/-! ### spec_l3Size: function 52 -/
-- thin
def spec_l3Size.l0 : Nat → List (S36) → Int → Int → Option (Int)
 | 0, _, _, _ => none
 | k + 1, x0, x3, x4 => if x4 < (x0.length : Int) then (if 0 ≤ x4 then ((spec_l3One.f ((rd_T36 x0 x4).f0) ((rd_T36 x0 x4).f1) ((rd_T36 x0 x4).f2)).bind fun t155 => (spec_l3Size.l0 k x0 (wrap64 (x3 + t155)) (wrap64 (x4 + 1)))) else (none)) else (some x3)
def spec_l3Size.f (k : Nat) (l0 : List (S36)) : Option (Int) := spec_l3Size.l0 k l0 0 0
theorem spec_l3Size.mono_l : ∀ k, (∀ y0 y1 y2, LeO (spec_l3Size.l0 k y0 y1 y2) (spec_l3Size.l0 (k + 1) y0 y1 y2))
 | 0 => fun _ _ _ r h => by simp [spec_l3Size.l0] at h
 | k + 1 => by
  have ih0 := spec_l3Size.mono_l k
  ·intro y0 y1 y2
   unfold spec_l3Size.l0
   repeat' first
   | (with_reducible exact ih0 _ _ _)
   | (with_reducible exact LeO.refl _)
   | (with_reducible exact LeO.none _)
   | (with_reducible refine LeO.ite ?_ ?_)
   | (with_reducible refine LeO.bind ?_ (fun _ => ?_))
   | exact ih0 _ _ _
   | exact LeO.none _
   | refine LeO.ite ?_ ?_
   | refine LeO.bind ?_ (fun _ => ?_)
theorem spec_l3Size.mono : ∀ a0 k, LeO (spec_l3Size.f k a0) (spec_l3Size.f (k + 1) a0) := by
 intro a0 k
 have ih0 := spec_l3Size.mono_l k
 unfold spec_l3Size.f
 repeat' first
   | (with_reducible exact ih0 _ _ _)
   | (with_reducible exact LeO.refl _)
   | (with_reducible exact LeO.none _)
   | (with_reducible refine LeO.ite ?_ ?_)
   | (with_reducible refine LeO.bind ?_ (fun _ => ?_))
   | exact ih0 _ _ _
   | exact LeO.none _
   | refine LeO.ite ?_ ?_
   | refine LeO.bind ?_ (fun _ => ?_)
set_option maxHeartbeats 8000000 in
set_option maxRecDepth 100000 in
theorem spec_l3Size.calls (k : Nat) (A0 : Option Addr) (c0 : Nat) (l0 : List (S36)) (r : Int) (w : World) (hr0 : Kd.C k36 w A0 l0.length l0) (hc0 : l0.length ≤ c0) (h : spec_l3Size.f k l0 = some r) :
  Calls Try.prog 52 #[.slice A0 l0.length c0] w fun e w' => e = .returned (.int .i64 r) ∧ Below w.heap.size w w' := by
 have hu36 := Try.underlying36
 have HR0 := Aside0.mk hr0
 have HC0 := Aside0.mk hc0
 clear hr0 hc0
 have HB := Aside0.mk (Below.refl w.heap.size w)
 have H : (spec_l3Size.l0 k l0 0 0) = some r := h
 clear h
 have H' := Aside0.mk H
 clear H
 go_enter Try.func52, Try.ntmps52
 go_wp2
 go_loopg [3, 4] k (fun kq v3 v4 w' => ∃ (x3_1 : Int) (x4_1 : Int), v3 = .int .i64 x3_1 ∧ v4 = .int .i64 x4_1 ∧ Aside0 (spec_l3Size.l0 kq l0 x3_1 x4_1 = some r) ∧ Aside0 (kq ≤ k) ∧ Aside0 (Below w.heap.size w w'))
 case atStart => exact ⟨(0), (0), zs, zs, H', ⟨Nat.le_refl _⟩, ⟨zb HB⟩⟩
 case round =>
  clear H'
  obtain ⟨x3_1, x4_1, rfl, rfl, HA, HK1, HB⟩ := hrel
  cases gk with
  | zero => exact absurd HA.out (by simp [spec_l3Size.l0])
  | succ k1 =>
   have H := HA.out
   clear HA
   simp only [spec_l3Size.l0] at H
   by_cases c2 : x4_1 < (l0.length : Int)
   ·rw [if_pos c2] at H
    have c2b0 : decide (x4_1 < (l0.length : Int)) = true := decide_eq_true c2
    clear c2
    by_cases c3 : 0 ≤ x4_1
    ·rw [if_pos c3] at H
     have c3b0 : decide (0 ≤ x4_1) = true := decide_eq_true c3
     clear c3
     replace H := Option.bind_eq_some_iff.mp H
     obtain ⟨t155, A40, H⟩ := H
     replace H : (spec_l3Size.l0 k1 l0 (wrap64 (x3_1 + t155)) (wrap64 (x4_1 + 1))) = some r := H
     have A4 := Aside0.mk A40
     clear A40
     have H' := Aside0.mk H
     clear H
     have p154 : 0 ≤ (x4_1 : Int) := of_decide_eq_true za
     have q154 : x4_1 < (l0.length : Int) := of_decide_eq_true za
     obtain ⟨ad154, e154, hx154_0, hx154_1, hx154_2⟩ := at_T36 HR0.out x4_1 p154 q154
     cases e154
     replace hx154_0 := (HB.out.cell (World.block_lt_of_cell? w _ hx154_0)).trans hx154_0
     replace hx154_1 := (HB.out.cell (World.block_lt_of_cell? w _ hx154_1)).trans hx154_1
     replace hx154_2 := (HB.out.cell (World.block_lt_of_cell? w _ hx154_2)).trans hx154_2
     replace p154 := eq_true p154
     replace q154 := eq_true q154
     go_wp2_with (first | ((with_reducible refine gq 70 rfl ?_); refine gl (some 16) Try.func70 #[.agg #[.string ((rd_T36 l0 x4_1).f0), .string ((rd_T36 l0 x4_1).f1), .bool ((rd_T36 l0 x4_1).f2)]] ?_; (with_reducible refine (spec_l3One.calls ((rd_T36 l0 x4_1).f0) ((rd_T36 l0 x4_1).f1) ((rd_T36 l0 x4_1).f2) t155 _ A4.out).mono ?_); rintro e w5 ⟨rfl, hb⟩; refine ⟨_, rfl, ?_⟩; replace HB := Aside0.mk (below_step (zb HB) hb); (try clear hb)))
     go_roundg k1
     case measure => have := HK1.out; omega
     case rel => exact ⟨(wrap64 (x3_1 + t155)), (wrap64 (x4_1 + 1)), zs, zs, H', ⟨by have := HK1.out; omega⟩, ⟨zb HB⟩⟩
    ·rw [if_neg c3] at H
     exact absurd H (by simp)
   ·rw [if_neg c2] at H
    have c2b0 : decide (x4_1 < (l0.length : Int)) = false := decide_eq_false c2
    clear c2
    obtain rfl := Option.some.inj H
    go_wp2
    go_ret
    exact ⟨ze, zb HB⟩

/-! ### spec_TableOk: function 19 -/
-- thin
def spec_TableOk.l0 : Nat → Int → List (S36) → Int → Option (Bool)
 | 0, _, _, _ => none
 | k + 1, x3, x157000, x157001 => if x3 < (x157000.length : Int) then (if 0 ≤ x3 then ((spec_FieldOk.f k ((rd_T36 x157000 x3).f0) ((rd_T36 x157000 x3).f1) ((rd_T36 x157000 x3).f2)).bind fun t158 => (if t158 = true then (if (rd_T36 x157000 x3).f2 = true then (some false) else (spec_TableOk.l0 k (wrap64 (x3 + 1)) x157000 x157001)) else (some false))) else (none)) else ((spec_l6In.f x157001 0 64).bind fun t160 => (if t160 = true then ((spec_l3Size.f k x157000).bind fun t161 => (some (decide (t161 ≤ x157001)))) else (some false)))
def spec_TableOk.f (k : Nat) (l0_0 : List (S36)) (a0_1 : Int) : Option (Bool) := spec_TableOk.l0 k 0 l0_0 a0_1
theorem spec_TableOk.mono_l : ∀ k, (∀ y0 y1 y2, LeO (spec_TableOk.l0 k y0 y1 y2) (spec_TableOk.l0 (k + 1) y0 y1 y2))
 | 0 => fun _ _ _ r h => by simp [spec_TableOk.l0] at h
 | k + 1 => by
  have ih0 := spec_TableOk.mono_l k
  ·intro y0 y1 y2
   unfold spec_TableOk.l0
   repeat' first
   | (with_reducible exact ih0 _ _ _)
   | (with_reducible exact spec_FieldOk.mono _ _ _ _)
   | (with_reducible exact spec_l3Size.mono _ _)
   | (with_reducible exact LeO.refl _)
   | (with_reducible exact LeO.none _)
   | (with_reducible refine LeO.ite ?_ ?_)
   | (with_reducible refine LeO.bind ?_ (fun _ => ?_))
   | exact ih0 _ _ _
   | exact spec_FieldOk.mono _ _ _ _
   | exact spec_l3Size.mono _ _
   | exact LeO.none _
   | refine LeO.ite ?_ ?_
   | refine LeO.bind ?_ (fun _ => ?_)
theorem spec_TableOk.mono : ∀ a0 a1 k, LeO (spec_TableOk.f k a0 a1) (spec_TableOk.f (k + 1) a0 a1) := by
 intro a0 a1 k
 have ih0 := spec_TableOk.mono_l k
 unfold spec_TableOk.f
 repeat' first
   | (with_reducible exact ih0 _ _ _)
   | (with_reducible exact spec_FieldOk.mono _ _ _ _)
   | (with_reducible exact spec_l3Size.mono _ _)
   | (with_reducible exact LeO.refl _)
   | (with_reducible exact LeO.none _)
   | (with_reducible refine LeO.ite ?_ ?_)
   | (with_reducible refine LeO.bind ?_ (fun _ => ?_))
   | exact ih0 _ _ _
   | exact spec_FieldOk.mono _ _ _ _
   | exact spec_l3Size.mono _ _
   | exact LeO.none _
   | refine LeO.ite ?_ ?_
   | refine LeO.bind ?_ (fun _ => ?_)
def spec_TableOk.T6 : Bool × List (List Nat × List Nat) := (true, [([], []), ([0], [0]), ([1], [1]), ([2, 2], [2]), ([3], [3]), ([4, 3], [3, 4]), ([5, 3, 3], [3, 5]), ([3], [3]), ([7, 3], [3, 7]), ([6, 8, 3], [3, 6, 8]), ([3, 9], [3, 9]), ([10, 6, 0, 1, 2, 3, 4, 5, 6, 7, 8, 9, 10], [10])])
def spec_TableOk.B6 : List Nat := [0, 1, 3, 7, 15, 31, 63, 15, 143, 511, 1023, 2047]
theorem spec_TableOk.tab6 : rtab .any (opsOf Try.f19 6) = spec_TableOk.T6 := by kernel_rfl
theorem spec_TableOk.bits6 : waitsOk spec_TableOk.T6.2 spec_TableOk.B6 = true := by kernel_rfl
set_option maxHeartbeats 8000000 in
set_option maxRecDepth 100000 in
theorem spec_TableOk.calls (k : Nat) (A0_0 : Option Addr) (c0_0 : Nat) (l0_0 : List (S36)) (a0_1 : Int) (r : Bool) (w : World) (hr0_0 : Kd.C k36 w A0_0 l0_0.length l0_0) (hc0_0 : l0_0.length ≤ c0_0) (h : spec_TableOk.f k l0_0 a0_1 = some r) :
  Calls Try.prog 19 #[.agg #[.slice A0_0 l0_0.length c0_0, .int .i64 a0_1]] w fun e w' => e = .returned (.bool r) ∧ Below w.heap.size w w' := by
 have hu25 := Try.underlying25
 have hu36 := Try.underlying36
 have HR0_0 := Aside0.mk hr0_0
 have HC0_0 := Aside0.mk hc0_0
 clear hr0_0 hc0_0
 have HB := Aside0.mk (Below.refl w.heap.size w)
 have H : (spec_TableOk.l0 k 0 l0_0 a0_1) = some r := h
 clear h
 have H' := Aside0.mk H
 clear H
 go_enter Try.func19, Try.ntmps19
 go_wp2_with (first | ((with_reducible refine gd 1 rfl ?_); refine bx (N := 1) (cs := #[.slice A0_0 l0_0.length c0_0, .int .i64 a0_1]) (t := 25) ?_; intro gb156 hg w2 hbox hb; have BK156 := Aside0.mk (hbox); have GW156 := Aside0.mk ((by rw [hg]; exact (below_size (zb HB)) : w.heap.size ≤ gb156)); have GE156 := Aside0.mk ((by rw [hg]; exact (below_size (zb HB)) : w.heap.size ≤ gb156)); replace HB := Aside0.mk (below_step (zb HB) hb); clear hb hbox hg))
 go_loopg [3] k (fun kq v3 w' => ∃ (x3_1 : Int), v3 = .int .i64 x3_1 ∧ Aside0 (spec_TableOk.l0 kq x3_1 l0_0 a0_1 = some r) ∧ Aside0 (kq ≤ k) ∧ Aside0 (w'.heap[gb156]? = some (.cells #[(.slice A0_0 l0_0.length c0_0), .int .i64 a0_1] 25 (0, 0))) ∧ Aside0 (Below w.heap.size w w'))
 case atStart => exact ⟨(0), zs, H', ⟨Nat.le_refl _⟩, ⟨by exact zk BK156⟩, ⟨zb HB⟩⟩
 case round =>
  clear H'
  try clear c1
  try clear p2
  obtain ⟨x3_1, rfl, HA, HK1, BK156, HB⟩ := hrel
  cases gk with
  | zero => exact absurd HA.out (by simp [spec_TableOk.l0])
  | succ k1 =>
   have H := HA.out
   clear HA
   simp only [spec_TableOk.l0] at H
   by_cases c3 : x3_1 < (l0_0.length : Int)
   ·rw [if_pos c3] at H
    have c3b0 : decide (x3_1 < (l0_0.length : Int)) = true := decide_eq_true c3
    clear c3
    by_cases c4 : 0 ≤ x3_1
    ·rw [if_pos c4] at H
     have c4b0 : decide (0 ≤ x3_1) = true := decide_eq_true c4
     clear c4
     replace H := Option.bind_eq_some_iff.mp H
     obtain ⟨t158, A50, H⟩ := H
     replace H : (if t158 = true then (if (rd_T36 l0_0 x3_1).f2 = true then (some false) else (spec_TableOk.l0 k1 (wrap64 (x3_1 + 1)) l0_0 a0_1)) else (some false)) = some r := H
     have A5 := Aside0.mk A50
     clear A50
     by_cases c6 : t158 = true
     ·subst c6
      have H1 : (if (rd_T36 l0_0 x3_1).f2 = true then (some false) else (spec_TableOk.l0 k1 (wrap64 (x3_1 + 1)) l0_0 a0_1)) = some r := by rw [if_pos rfl] at H; exact H
      clear H
      have H := H1
      clear H1
      have HC7 := Aside0.mk H
      clear H
      have hcz8_0 : wr.cell? ⟨gb156, 0, none⟩ = some (.slice A0_0 l0_0.length c0_0) := (blk_cell BK156.out 0).trans rfl
      have hcz8_1 : wr.cell? ⟨gb156, 1, none⟩ = some (.int .i64 a0_1) := (blk_cell BK156.out 1).trans rfl
      have hfz8_0 := blk_frozen BK156.out 0
      have hfz8_1 := blk_frozen BK156.out 1
      have p157 : 0 ≤ (x3_1 : Int) := of_decide_eq_true za
      have q157 : x3_1 < (l0_0.length : Int) := of_decide_eq_true za
      obtain ⟨ad157, e157, hx157_0, hx157_1, hx157_2⟩ := at_T36 HR0_0.out x3_1 p157 q157
      cases e157
      replace hx157_0 := (HB.out.cell (World.block_lt_of_cell? w _ hx157_0)).trans hx157_0
      replace hx157_1 := (HB.out.cell (World.block_lt_of_cell? w _ hx157_1)).trans hx157_1
      replace hx157_2 := (HB.out.cell (World.block_lt_of_cell? w _ hx157_2)).trans hx157_2
      replace p157 := eq_true p157
      replace q157 := eq_true q157
      go_upto_if 25 with (first | ((with_reducible refine gq 32 rfl ?_); refine gl (some 16) Try.func32 #[.agg #[.string ((rd_T36 l0_0 x3_1).f0), .string ((rd_T36 l0_0 x3_1).f1), .bool ((rd_T36 l0_0 x3_1).f2)]] ?_; (with_reducible refine (spec_FieldOk.calls k1 ((rd_T36 l0_0 x3_1).f0) ((rd_T36 l0_0 x3_1).f1) ((rd_T36 l0_0 x3_1).f2) true _ A5.out).mono ?_); rintro e w9 ⟨rfl, hb⟩; refine ⟨_, rfl, ?_⟩; replace BK156 := Aside0.mk (blk_below (g := gb156) (o := .cells #[.slice (some ad157) l0_0.length c0_0, .int .i64 a0_1] 25 (0, 0)) (zk BK156) hb); replace HB := Aside0.mk (below_step (zb HB) hb); (try clear hb); have hcz10_0 : w9.cell? ⟨gb156, 0, none⟩ = some (.slice (some ad157) l0_0.length c0_0) := (blk_cell BK156.out 0).trans rfl; have hcz10_1 : w9.cell? ⟨gb156, 1, none⟩ = some (.int .i64 a0_1) := (blk_cell BK156.out 1).trans rfl; have hfz10_0 := blk_frozen BK156.out 0; have hfz10_1 := blk_frozen BK156.out 1; have p159 : 0 ≤ (x3_1 : Int) := of_decide_eq_true za; have q159 : x3_1 < (l0_0.length : Int) := of_decide_eq_true za; obtain ⟨ad159, e159, hx159_0, hx159_1, hx159_2⟩ := at_T36 HR0_0.out x3_1 p159 q159; obtain rfl : ad157 = ad159 := (by injection e159); replace hx159_0 := (HB.out.cell (World.block_lt_of_cell? w _ hx159_0)).trans hx159_0; replace hx159_1 := (HB.out.cell (World.block_lt_of_cell? w _ hx159_1)).trans hx159_1; replace hx159_2 := (HB.out.cell (World.block_lt_of_cell? w _ hx159_2)).trans hx159_2; replace p159 := eq_true p159; replace q159 := eq_true q159))
      (try simp only [Act.put, s1, s2, s3])
      have H := HC7.out
      clear HC7
      obtain ⟨bq11, hbq11⟩ : ∃ b_ : Bool, b_ = ((rd_T36 l0_0 x3_1).f2) := ⟨_, rfl⟩
      replace H : (if bq11 = true then (some false) else (spec_TableOk.l0 k1 (wrap64 (x3_1 + 1)) l0_0 a0_1)) = some r := by rw [← hbq11] at H; exact H
      have Nbq11 := Aside0.mk hbq11
      clear hbq11
      (try rw [← Nbq11.out])
      (try rw [← Nbq11.out] at BK156)
      by_cases c12 : bq11 = true
      ·subst c12
       have H1 : (some false) = some r := by rw [if_pos rfl] at H; exact H
       clear H
       have H := H1
       clear H1
       obtain rfl := Option.some.inj H
       go_wp2
       go_ret
       exact ⟨ze, zb HB⟩
      ·replace c12 := Bool.eq_false_iff.mpr c12
       subst c12
       have H1 : (spec_TableOk.l0 k1 (wrap64 (x3_1 + 1)) l0_0 a0_1) = some r := by rw [if_neg (show ¬ (false = true) by decide)] at H; exact H
       clear H
       have H := H1
       clear H1
       have H' := Aside0.mk H
       clear H
       go_wp2
       go_roundg k1
       case measure => have := HK1.out; omega
       case rel => exact ⟨(wrap64 (x3_1 + 1)), zs, H', ⟨by have := HK1.out; omega⟩, ⟨by exact zk BK156⟩, ⟨zb HB⟩⟩
     ·replace c6 := Bool.eq_false_iff.mpr c6
      subst c6
      have H1 : (some false) = some r := by rw [if_neg (show ¬ (false = true) by decide)] at H; exact H
      clear H
      have H := H1
      clear H1
      obtain rfl := Option.some.inj H
      have hcz13_0 : wr.cell? ⟨gb156, 0, none⟩ = some (.slice A0_0 l0_0.length c0_0) := (blk_cell BK156.out 0).trans rfl
      have hcz13_1 : wr.cell? ⟨gb156, 1, none⟩ = some (.int .i64 a0_1) := (blk_cell BK156.out 1).trans rfl
      have hfz13_0 := blk_frozen BK156.out 0
      have hfz13_1 := blk_frozen BK156.out 1
      have p157 : 0 ≤ (x3_1 : Int) := of_decide_eq_true za
      have q157 : x3_1 < (l0_0.length : Int) := of_decide_eq_true za
      obtain ⟨ad157, e157, hx157_0, hx157_1, hx157_2⟩ := at_T36 HR0_0.out x3_1 p157 q157
      cases e157
      replace hx157_0 := (HB.out.cell (World.block_lt_of_cell? w _ hx157_0)).trans hx157_0
      replace hx157_1 := (HB.out.cell (World.block_lt_of_cell? w _ hx157_1)).trans hx157_1
      replace hx157_2 := (HB.out.cell (World.block_lt_of_cell? w _ hx157_2)).trans hx157_2
      replace p157 := eq_true p157
      replace q157 := eq_true q157
      go_wp2_with (first | ((with_reducible refine gq 32 rfl ?_); refine gl (some 16) Try.func32 #[.agg #[.string ((rd_T36 l0_0 x3_1).f0), .string ((rd_T36 l0_0 x3_1).f1), .bool ((rd_T36 l0_0 x3_1).f2)]] ?_; (with_reducible refine (spec_FieldOk.calls k1 ((rd_T36 l0_0 x3_1).f0) ((rd_T36 l0_0 x3_1).f1) ((rd_T36 l0_0 x3_1).f2) false _ A5.out).mono ?_); rintro e w14 ⟨rfl, hb⟩; refine ⟨_, rfl, ?_⟩; replace BK156 := Aside0.mk (blk_below (g := gb156) (o := .cells #[.slice (some ad157) l0_0.length c0_0, .int .i64 a0_1] 25 (0, 0)) (zk BK156) hb); replace HB := Aside0.mk (below_step (zb HB) hb); (try clear hb)))
      go_ret
      exact ⟨ze, zb HB⟩
    ·rw [if_neg c4] at H
     exact absurd H (by simp)
   ·rw [if_neg c3] at H
    have c3b0 : decide (x3_1 < (l0_0.length : Int)) = false := decide_eq_false c3
    clear c3
    replace H := Option.bind_eq_some_iff.mp H
    obtain ⟨t160, A150, H⟩ := H
    replace H : (if t160 = true then ((spec_l3Size.f k1 l0_0).bind fun t161 => (some (decide (t161 ≤ a0_1)))) else (some false)) = some r := H
    have A15 := Aside0.mk A150
    clear A150
    by_cases c16 : t160 = true
    ·subst c16
     have H1 : ((spec_l3Size.f k1 l0_0).bind fun t161 => (some (decide (t161 ≤ a0_1)))) = some r := by rw [if_pos rfl] at H; exact H
     clear H
     have H := H1
     clear H1
     replace H := Option.bind_eq_some_iff.mp H
     obtain ⟨t161, A170, H⟩ := H
     replace H : (some (decide (t161 ≤ a0_1))) = some r := H
     have A17 := Aside0.mk A170
     clear A170
     obtain rfl := Option.some.inj H
     have hcz18_0 : wr.cell? ⟨gb156, 0, none⟩ = some (.slice A0_0 l0_0.length c0_0) := (blk_cell BK156.out 0).trans rfl
     have hcz18_1 : wr.cell? ⟨gb156, 1, none⟩ = some (.int .i64 a0_1) := (blk_cell BK156.out 1).trans rfl
     have hfz18_0 := blk_frozen BK156.out 0
     have hfz18_1 := blk_frozen BK156.out 1
     try go_wp2
     replace BK156 := Aside0.mk (blk_drew BK156.out)
     replace HB := Aside0.mk (below_drew1 HB.out)
     refine start_ (n := 12) (S := fun w' => w'.cell? ⟨gb156, 0, none⟩ = some (.slice A0_0 l0_0.length c0_0) ∧ w'.cell? ⟨gb156, 1, none⟩ = some (.int .i64 a0_1)) (ds := []) #[false, false, false, false, false, false, false, false, false, false, false, false] (by kernel_rfl) rfl rfl ⟨(blk_cell BK156.out 0).trans rfl, (blk_cell BK156.out 1).trans rfl⟩ (fun hHeld => ?_); refine with_tabW spec_TableOk.tab6 spec_TableOk.bits6 (fun HT_ HW_ => ?_)
     generalize wr.drew = w19 at BK156 HB hHeld ⊢
     refine pu 0 (some 26) (bm 12 1) rfl rfl ?_
     refine tk2 1 (some 27) (bm 12 3) rfl rfl hHeld ?_
     refine one_ (i := 2) (N := some 28) (bm 12 7) rfl rfl (one_of HT_.out (by kernel_rfl)) (by decide) (fun K hK => ?_)
     refine gs Try.func50 #[.int .i64 a0_1, .int .i64 0, .int .i64 64] ?_
     with_reducible refine (spec_l6In.calls a0_1 0 64 true _ A15.out).mono ?_
     rintro e w' ⟨rfl, ⟨nd, rfl⟩⟩
     refine ⟨_, rfl, ?_⟩
     refine hK.out _ _ ⟨(blk_cell BK156.out 0).trans rfl, (blk_cell BK156.out 1).trans rfl⟩ (fun hHeld => ?_)
     clear hK K
     refine nm ?_
     refine pu 3 (some 29) (bm 12 15) rfl rfl ?_
     refine pu 4 (some 30) (bm 12 31) rfl rfl ?_
     refine pu 7 (some 33) (bm 12 159) rfl rfl ?_
     refine tk2 5 (some 31) (bm 12 191) rfl rfl hHeld ?_
     refine tk2 8 (some 34) (bm 12 447) rfl rfl hHeld ?_
     refine one_ (i := 6) (N := some 32) (bm 12 511) rfl rfl (one_of HT_.out (by kernel_rfl)) (by decide) (fun K hK => ?_)
     refine gs Try.func52 #[.slice A0_0 l0_0.length c0_0] ?_
     with_reducible refine (spec_l3Size.calls k1 _ _ l0_0 t161 _ ?side1 ?side2 A17.out).mono ?_
     (case side1 => exact (Kd.C_below HR0_0.out (zb HB)))
     (case side2 => exact HC0_0.out)
     rintro e w20 ⟨rfl, hb⟩
     refine ⟨_, rfl, ?_⟩
     replace BK156 := Aside0.mk (blk_below (g := gb156) (o := .cells #[.slice A0_0 l0_0.length c0_0, .int .i64 a0_1] 25 (0, 0)) (zk BK156) hb)
     replace HB := Aside0.mk (below_step (zb HB) hb)
     (try clear hb)
     refine hK.out _ _ ⟨(blk_cell BK156.out 0).trans rfl, (blk_cell BK156.out 1).trans rfl⟩ (fun hHeld => ?_)
     clear hK K
     refine nm ?_
     refine pu 9 (some 35) (bm 12 1023) rfl rfl ?_
     refine pu 10 (some 36) (bm 12 2047) rfl rfl ?_
     refine pu 11 (some 2) (bm 12 4095) rfl rfl ?_
     refine done_ (done_of HT_.out (by kernel_rfl)) ?_
     try go_wp2
     go_ret
     exact ⟨ze, zb HB⟩
    ·replace c16 := Bool.eq_false_iff.mpr c16
     subst c16
     have H1 : (some false) = some r := by rw [if_neg (show ¬ (false = true) by decide)] at H; exact H
     clear H
     have H := H1
     clear H1
     obtain rfl := Option.some.inj H
     have hcz21_0 : wr.cell? ⟨gb156, 0, none⟩ = some (.slice A0_0 l0_0.length c0_0) := (blk_cell BK156.out 0).trans rfl
     have hcz21_1 : wr.cell? ⟨gb156, 1, none⟩ = some (.int .i64 a0_1) := (blk_cell BK156.out 1).trans rfl
     have hfz21_0 := blk_frozen BK156.out 0
     have hfz21_1 := blk_frozen BK156.out 1
     try go_wp2
     replace BK156 := Aside0.mk (blk_drew BK156.out)
     replace HB := Aside0.mk (below_drew1 HB.out)
     refine start_ (n := 12) (S := fun w' => w'.cell? ⟨gb156, 0, none⟩ = some (.slice A0_0 l0_0.length c0_0) ∧ w'.cell? ⟨gb156, 1, none⟩ = some (.int .i64 a0_1)) (ds := []) #[false, false, false, false, false, false, false, false, false, false, false, false] (by kernel_rfl) rfl rfl ⟨(blk_cell BK156.out 0).trans rfl, (blk_cell BK156.out 1).trans rfl⟩ (fun hHeld => ?_); refine with_tabW spec_TableOk.tab6 spec_TableOk.bits6 (fun HT_ HW_ => ?_)
     generalize wr.drew = w22 at BK156 HB hHeld ⊢
     refine pu 0 (some 26) (bm 12 1) rfl rfl ?_
     refine tk2 1 (some 27) (bm 12 3) rfl rfl hHeld ?_
     refine one_ (i := 2) (N := some 28) (bm 12 7) rfl rfl (one_of HT_.out (by kernel_rfl)) (by decide) (fun K hK => ?_)
     refine gs Try.func50 #[.int .i64 a0_1, .int .i64 0, .int .i64 64] ?_
     with_reducible refine (spec_l6In.calls a0_1 0 64 false _ A15.out).mono ?_
     rintro e w' ⟨rfl, ⟨nd, rfl⟩⟩
     refine ⟨_, rfl, ?_⟩
     refine hK.out _ _ ⟨(blk_cell BK156.out 0).trans rfl, (blk_cell BK156.out 1).trans rfl⟩ (fun hHeld => ?_)
     clear hK K
     refine nm ?_
     refine pu 3 (some 29) (bm 12 15) rfl rfl ?_
     refine pv 4 (some 30) (bm 12 31) rfl rfl ?_
     refine pv 5 (some 31) (bm 12 63) rfl rfl ?_
     refine pv 6 (some 32) (bm 12 127) rfl rfl ?_
     refine pv 7 (some 33) (bm 12 255) rfl rfl ?_
     refine pv 8 (some 34) (bm 12 511) rfl rfl ?_
     refine pv 9 (some 35) (bm 12 1023) rfl rfl ?_
     refine pu 10 (some 36) (bm 12 2047) rfl rfl ?_
     refine pu 11 (some 2) (bm 12 4095) rfl rfl ?_
     refine done_ (done_of HT_.out (by kernel_rfl)) ?_
     try go_wp2
     go_ret
     exact ⟨ze, zb HB⟩

/-! ### spec_HeadOk: function 40 -/
-- thin
def spec_HeadOk.l0 : Nat → List (S36) → Int → Option (Bool)
 | 0, _, _ => none
 | k + 1, x0, x3 => if x3 < (x0.length : Int) then (if 0 ≤ x3 then ((spec_FieldOk.f k ((rd_T36 x0 x3).f0) ((rd_T36 x0 x3).f1) ((rd_T36 x0 x3).f2)).bind fun t163 => (if t163 = true then (spec_HeadOk.l0 k x0 (wrap64 (x3 + 1))) else (some false))) else (none)) else (some (decide ((x0.length : Int) ≤ 6)))
def spec_HeadOk.f (k : Nat) (l0 : List (S36)) : Option (Bool) := spec_HeadOk.l0 k l0 0
theorem spec_HeadOk.mono_l : ∀ k, (∀ y0 y1, LeO (spec_HeadOk.l0 k y0 y1) (spec_HeadOk.l0 (k + 1) y0 y1))
 | 0 => fun _ _ r h => by simp [spec_HeadOk.l0] at h
 | k + 1 => by
  have ih0 := spec_HeadOk.mono_l k
  ·intro y0 y1
   unfold spec_HeadOk.l0
   repeat' first
   | (with_reducible exact ih0 _ _)
   | (with_reducible exact spec_FieldOk.mono _ _ _ _)
   | (with_reducible exact LeO.refl _)
   | (with_reducible exact LeO.none _)
   | (with_reducible refine LeO.ite ?_ ?_)
   | (with_reducible refine LeO.bind ?_ (fun _ => ?_))
   | exact ih0 _ _
   | exact spec_FieldOk.mono _ _ _ _
   | exact LeO.none _
   | refine LeO.ite ?_ ?_
   | refine LeO.bind ?_ (fun _ => ?_)
theorem spec_HeadOk.mono : ∀ a0 k, LeO (spec_HeadOk.f k a0) (spec_HeadOk.f (k + 1) a0) := by
 intro a0 k
 have ih0 := spec_HeadOk.mono_l k
 unfold spec_HeadOk.f
 repeat' first
   | (with_reducible exact ih0 _ _)
   | (with_reducible exact spec_FieldOk.mono _ _ _ _)
   | (with_reducible exact LeO.refl _)
   | (with_reducible exact LeO.none _)
   | (with_reducible refine LeO.ite ?_ ?_)
   | (with_reducible refine LeO.bind ?_ (fun _ => ?_))
   | exact ih0 _ _
   | exact spec_FieldOk.mono _ _ _ _
   | exact LeO.none _
   | refine LeO.ite ?_ ?_
   | refine LeO.bind ?_ (fun _ => ?_)
set_option maxHeartbeats 8000000 in
set_option maxRecDepth 100000 in
theorem spec_HeadOk.calls (k : Nat) (A0 : Option Addr) (c0 : Nat) (l0 : List (S36)) (r : Bool) (w : World) (hr0 : Kd.C k36 w A0 l0.length l0) (hc0 : l0.length ≤ c0) (h : spec_HeadOk.f k l0 = some r) :
  Calls Try.prog 40 #[.slice A0 l0.length c0] w fun e w' => e = .returned (.bool r) ∧ Below w.heap.size w w' := by
 have hu36 := Try.underlying36
 have HR0 := Aside0.mk hr0
 have HC0 := Aside0.mk hc0
 clear hr0 hc0
 have HB := Aside0.mk (Below.refl w.heap.size w)
 have H : (spec_HeadOk.l0 k l0 0) = some r := h
 clear h
 have H' := Aside0.mk H
 clear H
 go_enter Try.func40, Try.ntmps40
 go_wp2
 go_loopg [3] k (fun kq v3 w' => ∃ (x3_1 : Int), v3 = .int .i64 x3_1 ∧ Aside0 (spec_HeadOk.l0 kq l0 x3_1 = some r) ∧ Aside0 (kq ≤ k) ∧ Aside0 (Below w.heap.size w w'))
 case atStart => exact ⟨(0), zs, H', ⟨Nat.le_refl _⟩, ⟨zb HB⟩⟩
 case round =>
  clear H'
  obtain ⟨x3_1, rfl, HA, HK1, HB⟩ := hrel
  cases gk with
  | zero => exact absurd HA.out (by simp [spec_HeadOk.l0])
  | succ k1 =>
   have H := HA.out
   clear HA
   simp only [spec_HeadOk.l0] at H
   by_cases c2 : x3_1 < (l0.length : Int)
   ·rw [if_pos c2] at H
    have c2b0 : decide (x3_1 < (l0.length : Int)) = true := decide_eq_true c2
    clear c2
    by_cases c3 : 0 ≤ x3_1
    ·rw [if_pos c3] at H
     have c3b0 : decide (0 ≤ x3_1) = true := decide_eq_true c3
     clear c3
     replace H := Option.bind_eq_some_iff.mp H
     obtain ⟨t163, A40, H⟩ := H
     replace H : (if t163 = true then (spec_HeadOk.l0 k1 l0 (wrap64 (x3_1 + 1))) else (some false)) = some r := H
     have A4 := Aside0.mk A40
     clear A40
     have HC5 := Aside0.mk H
     clear H
     have p162 : 0 ≤ (x3_1 : Int) := of_decide_eq_true za
     have q162 : x3_1 < (l0.length : Int) := of_decide_eq_true za
     obtain ⟨ad162, e162, hx162_0, hx162_1, hx162_2⟩ := at_T36 HR0.out x3_1 p162 q162
     cases e162
     replace hx162_0 := (HB.out.cell (World.block_lt_of_cell? w _ hx162_0)).trans hx162_0
     replace hx162_1 := (HB.out.cell (World.block_lt_of_cell? w _ hx162_1)).trans hx162_1
     replace hx162_2 := (HB.out.cell (World.block_lt_of_cell? w _ hx162_2)).trans hx162_2
     replace p162 := eq_true p162
     replace q162 := eq_true q162
     go_upto_if 15 with (first | ((with_reducible refine gq 32 rfl ?_); refine gl (some 14) Try.func32 #[.agg #[.string ((rd_T36 l0 x3_1).f0), .string ((rd_T36 l0 x3_1).f1), .bool ((rd_T36 l0 x3_1).f2)]] ?_; (with_reducible refine (spec_FieldOk.calls k1 ((rd_T36 l0 x3_1).f0) ((rd_T36 l0 x3_1).f1) ((rd_T36 l0 x3_1).f2) t163 _ A4.out).mono ?_); rintro e w6 ⟨rfl, hb⟩; refine ⟨_, rfl, ?_⟩; replace HB := Aside0.mk (below_step (zb HB) hb); (try clear hb)))
     (try simp only [Act.put, s1, s2, s3])
     have H := HC5.out
     clear HC5
     by_cases c7 : t163 = true
     ·subst c7
      have H1 : (spec_HeadOk.l0 k1 l0 (wrap64 (x3_1 + 1))) = some r := by rw [if_pos rfl] at H; exact H
      clear H
      have H := H1
      clear H1
      have H' := Aside0.mk H
      clear H
      go_wp2
      go_roundg k1
      case measure => have := HK1.out; omega
      case rel => exact ⟨(wrap64 (x3_1 + 1)), zs, H', ⟨by have := HK1.out; omega⟩, ⟨zb HB⟩⟩
     ·replace c7 := Bool.eq_false_iff.mpr c7
      subst c7
      have H1 : (some false) = some r := by rw [if_neg (show ¬ (false = true) by decide)] at H; exact H
      clear H
      have H := H1
      clear H1
      obtain rfl := Option.some.inj H
      go_wp2
      go_ret
      exact ⟨ze, zb HB⟩
    ·rw [if_neg c3] at H
     exact absurd H (by simp)
   ·rw [if_neg c2] at H
    have c2b0 : decide (x3_1 < (l0.length : Int)) = false := decide_eq_false c2
    clear c2
    obtain rfl := Option.some.inj H
    go_wp2
    go_ret
    exact ⟨ze, zb HB⟩

/-! ### spec_l3Fit: function 51 -/
-- thin
def spec_l3Fit.l0 : Nat → List (S36) → List (S36) → Int → Option ((List (S36)) × Int)
 | 0, _, _, _ => none
 | k + 1, x3, x165000, x165001 => (spec_l3Size.f k x3).bind fun t172 => (if t172 > x165001 then (if 0 ≤ (wrap64 ((x3.length : Int) - 1)) then (if (wrap64 ((x3.length : Int) - 1)) ≤ (x3.length : Int) then (spec_l3Fit.l0 k (x3.take ((wrap64 ((x3.length : Int) - 1)) : Int).toNat) x165000 x165001) else (none)) else (none)) else (some (x3, x165001)))
def spec_l3Fit.f (k : Nat) (l0_0 : List (S36)) (a0_1 : Int) : Option ((List (S36)) × Int) := (some (([] : List (S36)) : List (S36))).bind fun y166 => (if y166.length + l0_0.length < 3518437208883 then (spec_l3Fit.l0 k (y166 ++ l0_0) l0_0 a0_1) else (none))
theorem spec_l3Fit.mono_l : ∀ k, (∀ y0 y1 y2, LeO (spec_l3Fit.l0 k y0 y1 y2) (spec_l3Fit.l0 (k + 1) y0 y1 y2))
 | 0 => fun _ _ _ r h => by simp [spec_l3Fit.l0] at h
 | k + 1 => by
  have ih0 := spec_l3Fit.mono_l k
  ·intro y0 y1 y2
   unfold spec_l3Fit.l0
   repeat' first
   | (with_reducible exact ih0 _ _ _)
   | (with_reducible exact spec_l3Size.mono _ _)
   | (with_reducible exact LeO.refl _)
   | (with_reducible exact LeO.none _)
   | (with_reducible refine LeO.ite ?_ ?_)
   | (with_reducible refine LeO.bind ?_ (fun _ => ?_))
   | exact ih0 _ _ _
   | exact spec_l3Size.mono _ _
   | exact LeO.none _
   | refine LeO.ite ?_ ?_
   | refine LeO.bind ?_ (fun _ => ?_)
theorem spec_l3Fit.mono : ∀ a0 a1 k, LeO (spec_l3Fit.f k a0 a1) (spec_l3Fit.f (k + 1) a0 a1) := by
 intro a0 a1 k
 have ih0 := spec_l3Fit.mono_l k
 unfold spec_l3Fit.f
 repeat' first
   | (with_reducible exact ih0 _ _ _)
   | (with_reducible exact spec_l3Size.mono _ _)
   | (with_reducible exact LeO.refl _)
   | (with_reducible exact LeO.none _)
   | (with_reducible refine LeO.ite ?_ ?_)
   | (with_reducible refine LeO.bind ?_ (fun _ => ?_))
   | exact ih0 _ _ _
   | exact spec_l3Size.mono _ _
   | exact LeO.none _
   | refine LeO.ite ?_ ?_
   | refine LeO.bind ?_ (fun _ => ?_)
set_option maxHeartbeats 8000000 in
set_option maxRecDepth 100000 in
theorem spec_l3Fit.calls (k : Nat) (A0_0 : Option Addr) (c0_0 : Nat) (l0_0 : List (S36)) (a0_1 : Int) (r1 : List (S36)) (r2 : Int) (w : World) (hr0_0 : Kd.C k36 w A0_0 l0_0.length l0_0) (hc0_0 : l0_0.length ≤ c0_0) (h : spec_l3Fit.f k l0_0 a0_1 = some (r1, r2)) :
  Calls Try.prog 51 #[.agg #[.slice A0_0 l0_0.length c0_0, .int .i64 a0_1]] w fun e w' => ∃ v0_ : Value, e = .returned (.agg #[v0_, .int .i64 r2]) ∧ Kd.R k36 36 w' w.heap.size (fun _ => True) v0_ r1 ∧ Below w.heap.size w w' := by
 have hu25 := Try.underlying25
 have HR0_0 := Aside0.mk hr0_0
 have HC0_0 := Aside0.mk hc0_0
 clear hr0_0 hc0_0
 have HB := Aside0.mk (Below.refl w.heap.size w)
 have H : ((some (([] : List (S36)) : List (S36))).bind fun y166 => (if y166.length + l0_0.length < 3518437208883 then (spec_l3Fit.l0 k (y166 ++ l0_0) l0_0 a0_1) else (none))) = some (r1, r2) := h
 clear h
 obtain ⟨y166, hy166⟩ : ∃ y_ : List (S36), y_ = (([] : List (S36))) := ⟨_, rfl⟩
 replace H : (if y166.length + l0_0.length < 3518437208883 then (spec_l3Fit.l0 k (y166 ++ l0_0) l0_0 a0_1) else (none)) = some (r1, r2) := by first | (rw [hy166]; with_reducible exact H) | (have H2_ := (Option.bind_some _ _).symm.trans H; rw [hy166]; with_reducible exact H2_) | (have H2_ := (Option.bind_some _ _).symm.trans H; with_reducible exact H2_) | with_reducible exact H | (rw [hy166]; exact H) | exact H
 have Ny166 := Aside0.mk hy166
 clear hy166
 by_cases c2 : y166.length + l0_0.length < 3518437208883
 ·rw [if_pos c2] at H
  have LMc2 := Aside0.mk c2
  clear c2
  obtain ⟨y169, hy169⟩ : ∃ y_ : List (S36), y_ = (y166 ++ l0_0) := ⟨_, rfl⟩
  replace H : (spec_l3Fit.l0 k y169 l0_0 a0_1) = some (r1, r2) := by first | (rw [hy169]; with_reducible exact H) | (have H2_ := (Option.bind_some _ _).symm.trans H; rw [hy169]; with_reducible exact H2_) | (have H2_ := (Option.bind_some _ _).symm.trans H; with_reducible exact H2_) | with_reducible exact H | (rw [hy169]; exact H) | exact H
  have Ny169 := Aside0.mk hy169
  clear hy169
  have H' := Aside0.mk H
  clear H
  go_enter Try.func51, Try.ntmps51
  go_wp2_with (first | ((with_reducible refine gd 1 rfl ?_); refine bx (N := 1) (cs := #[.slice A0_0 l0_0.length c0_0, .int .i64 a0_1]) (t := 25) ?_; intro gb164 hg w3 hbox hb; have BK164 := Aside0.mk (hbox); have GW164 := Aside0.mk ((by rw [hg]; exact (below_size (zb HB)) : w.heap.size ≤ gb164)); have GE164 := Aside0.mk ((by rw [hg]; exact (below_size (zb HB)) : w.heap.size ≤ gb164)); replace HB := Aside0.mk (below_step (zb HB) hb); clear hb hbox hg) | ((with_reducible refine gd 2 rfl ?_); refine bx (N := 2) (cs := #[.slice none 0 0, .int .i64 0]) (t := 25) ?_; intro gb165 hg w4 hbox hb; have BK165 := Aside0.mk (hbox); have GW165 := Aside0.mk ((by rw [hg]; exact (below_size (zb HB)) : w.heap.size ≤ gb165)); have GE165 := Aside0.mk ((by rw [hg]; exact (below_size (zb HB)) : w.heap.size ≤ gb165)); replace HB := Aside0.mk (below_step (zb HB) hb); have NB164_165 := Aside0.mk ((by rw [hg]; exact Nat.ne_of_lt (blk_lt (g := gb164) (o := .cells #[.slice A0_0 l0_0.length c0_0, .int .i64 a0_1] 25 (0, 0)) (zk BK164)) : gb164 ≠ gb165)); have NB165_164 := Aside0.mk ((by rw [hg]; exact Nat.ne_of_gt (blk_lt (g := gb164) (o := .cells #[.slice A0_0 l0_0.length c0_0, .int .i64 a0_1] 25 (0, 0)) (zk BK164)) : gb165 ≠ gb164)); replace BK164 := Aside0.mk (blk_below (g := gb164) (o := .cells #[.slice A0_0 l0_0.length c0_0, .int .i64 a0_1] 25 (0, 0)) (zk BK164) hb); clear hb hbox hg) | ((with_reducible refine gd 4 rfl ?_); refine Kd.R_lit k36 _ 36 ?hg (N := 4) ?hd (xs := ([] : List (S36))) (inner := []) (ok := fun _ => True) (okp := fun _ => True) ?hr ?hp (fun _ hk => hk) trivial (Below.refl _ _) (Nat.le_refl _) (by simp) ?_; (case hd => rfl); (case hg => rfl); (case hr => first | (go_simp; done) | (go_simp; rfl)); (case hp => exact (Reps.none _ _)); intro v167 w5 ho6 hb hg_ hnew_; clear hg_ hnew_; (first | rw [← Ny166.out] at ho6 | (simp only [Int.reduceToNat] at ho6; rw [← Ny166.out] at ho6)); have HO168 := Aside0.mk (Kd.R_lower ho6 (below_size (zb HB))); replace BK164 := Aside0.mk (blk_below (g := gb164) (o := .cells #[.slice A0_0 l0_0.length c0_0, .int .i64 a0_1] 25 (0, 0)) (zk BK164) hb); replace BK165 := Aside0.mk (blk_below (g := gb165) (o := .cells #[.slice none 0 0, .int .i64 0] 25 (0, 0)) (zk BK165) hb); replace HB := Aside0.mk (below_step (zb HB) hb); clear hb ho6; have hnb7 := NB164_165.out; have hnc7 := NB165_164.out; have hcz8_0 : w5.cell? ⟨gb164, 0, none⟩ = some (.slice A0_0 l0_0.length c0_0) := (blk_cell BK164.out 0).trans rfl; have hcz8_1 : w5.cell? ⟨gb164, 1, none⟩ = some (.int .i64 a0_1) := (blk_cell BK164.out 1).trans rfl; have hfz8_0 := blk_frozen BK164.out 0; have hfz8_1 := blk_frozen BK164.out 1) | ((with_reducible refine gate_builtin (b := .append) (xs := #[.tmp 4, .tmp 6]) rfl ?_); at_builtin; refine Kd.R_append_rows k36 (w0 := w) w.heap.size rfl (.tmp 4) (.tmp 6) 23 36 (.agg #[(.string ⟨#[]⟩), (.string ⟨#[]⟩), (.bool false)]) 40 rfl Try.underlying23 info36 rfl (by decide) (by omega) v167 y166 l0_0 _ _ _ (fun _ => True) (fun _ => False) rfl rfl ?aO ?aR (fun _ _ h => h) (fun _ h => h.elim) ?aF ?aB ?aS ?aL ?_; (case aR => exact zc (Kd.C_below HR0_0.out HB.out)); (case aB => exact (zb HB)); (case aF => exact (fun _ _ => trivial)); (case aO => exact (zr HO168)); (case aS => exact (below_size (zb HB))); (case aL => have := LMc2.out; omega); intro v170 w9 ho hb hg hat; rw [← Ny169.out] at ho; replace BK164 := Aside0.mk (blk_grown (g := gb164) (o := .cells #[.slice A0_0 l0_0.length c0_0, .int .i64 a0_1] 25 (0, 0)) (zk BK164) hg (Kd.R_ne HO168.out BK164.out (by decide))); replace BK165 := Aside0.mk (blk_grown (g := gb165) (o := .cells #[.slice none 0 0, .int .i64 0] 25 (0, 0)) (zk BK165) hg (Kd.R_ne HO168.out BK165.out (by decide))); replace HB := Aside0.mk (hb); have HO171 := Aside0.mk (ho); clear HO168; clear ho hb hg hat))
  go_loopg [3] k (fun kq v3 w' => ∃ (x3_1 : List (S36)), Aside0 (spec_l3Fit.l0 kq x3_1 l0_0 a0_1 = some (r1, r2)) ∧ Aside0 (kq ≤ k) ∧ Aside0 (Kd.R k36 36 w' w.heap.size (fun _ => True) v3 x3_1) ∧ Aside0 (w'.heap[gb164]? = some (.cells #[(.slice A0_0 l0_0.length c0_0), .int .i64 a0_1] 25 (0, 0))) ∧ Aside0 (w'.heap[gb165]? = some (.cells #[(.slice none 0 0), .int .i64 0] 25 (0, 0))) ∧ Aside0 (Below w.heap.size w w'))
  case atStart => exact ⟨(y169), H', ⟨Nat.le_refl _⟩, ⟨by exact zr HO171⟩, ⟨by exact zk BK164⟩, ⟨by exact zk BK165⟩, ⟨zb HB⟩⟩
  case round =>
   clear H'
   try clear c2
   try clear p2
   try clear c5
   try clear c7
   try clear hcz8_0
   try clear hcz8_1
   try clear hfz8_0
   try clear hfz8_1
   obtain ⟨x3_1, HA, HK1, HO_3, BK164, BK165, HB⟩ := hrel
   cases gk with
   | zero => exact absurd HA.out (by simp [spec_l3Fit.l0])
   | succ k1 =>
    have H := HA.out
    clear HA
    simp only [spec_l3Fit.l0] at H
    replace H := Option.bind_eq_some_iff.mp H
    obtain ⟨t172, A100, H⟩ := H
    replace H : (if t172 > a0_1 then (if 0 ≤ (wrap64 ((x3_1.length : Int) - 1)) then (if (wrap64 ((x3_1.length : Int) - 1)) ≤ (x3_1.length : Int) then (spec_l3Fit.l0 k1 (x3_1.take ((wrap64 ((x3_1.length : Int) - 1)) : Int).toNat) l0_0 a0_1) else (none)) else (none)) else (some (x3_1, a0_1))) = some (r1, r2) := H
    have A10 := Aside0.mk A100
    clear A100
    by_cases c11 : t172 > a0_1
    ·rw [if_pos c11] at H
     have c11b0 : decide (a0_1 < t172) = true := decide_eq_true c11
     clear c11
     obtain ⟨ji12, hji12⟩ : ∃ j_ : Int, (wrap64 ((x3_1.length : Int) - 1)) = j_ := ⟨_, rfl⟩
     replace H : (if 0 ≤ (ji12) then (if (ji12) ≤ (x3_1.length : Int) then (spec_l3Fit.l0 k1 (x3_1.take ((ji12) : Int).toNat) l0_0 a0_1) else (none)) else (none)) = some (r1, r2) := by first | (rw [hji12] at H; exact H) | (simp only [hji12] at H ⊢; exact H)
     (try rw [hji12] at A10)
     have hji12w : (IntKind.i64.wrap ((x3_1.length : Int) - 1)) = ji12 := (i64_w _).trans hji12
     by_cases c13 : 0 ≤ (ji12)
     ·rw [if_pos c13] at H
      have c13b0 := eq_true c13
      have c13b1 : decide (0 ≤ (ji12)) = true := decide_eq_true c13
      clear c13
      by_cases c14 : (ji12) ≤ (x3_1.length : Int)
      ·rw [if_pos c14] at H
       have c14b0 := eq_true c14
       have c14b1 : decide ((ji12) ≤ (x3_1.length : Int)) = true := decide_eq_true c14
       clear c14
       obtain ⟨y173, hy173⟩ : ∃ y_ : List (S36), y_ = (x3_1.take ((ji12) : Int).toNat) := ⟨_, rfl⟩
       replace H : (spec_l3Fit.l0 k1 y173 l0_0 a0_1) = some (r1, r2) := by first | (rw [hy173]; with_reducible exact H) | (have H2_ := (Option.bind_some _ _).symm.trans H; rw [hy173]; with_reducible exact H2_) | (have H2_ := (Option.bind_some _ _).symm.trans H; with_reducible exact H2_) | with_reducible exact H | (rw [hy173]; exact H) | exact H
       have Ny173 := Aside0.mk hy173
       clear hy173
       have H' := Aside0.mk H
       clear H
       try go_wp2
       replace HO_3 := Aside0.mk (Kd.R_drew HO_3.out)
       replace BK164 := Aside0.mk (blk_drew BK164.out)
       replace BK165 := Aside0.mk (blk_drew BK165.out)
       replace HB := Aside0.mk (below_drew1 HB.out)
       obtain ⟨Ao16, co16, eo16⟩ := Kd.R_slice HO_3.out
       (first | subst eo16 | (injection eo16 with f1_ f2_ f3_; have f4_ := f1_.symm; have f5_ := f3_.symm; clear f1_ f2_ f3_; subst f4_; subst f5_))
       refine start_ (n := 5) (S := fun w' => w'.cell? ⟨gb164, 0, none⟩ = some (.slice A0_0 l0_0.length c0_0) ∧ w'.cell? ⟨gb164, 1, none⟩ = some (.int .i64 a0_1)) (ds := []) #[false, false, false, false, false] (by kernel_rfl) rfl rfl ⟨(blk_cell BK164.out 0).trans rfl, (blk_cell BK164.out 1).trans rfl⟩ (fun hHeld => ?_)
       generalize wr.drew = w15 at HO_3 BK164 BK165 HB hHeld ⊢
       refine pu 0 (some 8) (bm 5 1) rfl rfl ?_
       refine pu 2 (some 10) (bm 5 5) rfl rfl ?_
       refine tk2 3 (some 11) (bm 5 13) rfl rfl hHeld ?_
       refine one_ (i := 1) (N := some 9) (bm 5 15) rfl rfl (by kernel_rfl) (by decide) (fun K hK => ?_)
       refine gs Try.func52 #[.slice Ao16 x3_1.length co16] ?_
       with_reducible refine (spec_l3Size.calls k1 _ _ x3_1 t172 _ ?side1 ?side2 A10.out).mono ?_
       (case side1 => exact zc (Kd.R_reads' HO_3.out).2.2)
       (case side2 => exact (Kd.R_reads' HO_3.out).2.1)
       rintro e w17 ⟨rfl, hb⟩
       refine ⟨_, rfl, ?_⟩
       replace HO_3 := Aside0.mk (Kd.R_below (zr HO_3) hb)
       replace BK164 := Aside0.mk (blk_below (g := gb164) (o := .cells #[.slice A0_0 l0_0.length c0_0, .int .i64 a0_1] 25 (0, 0)) (zk BK164) hb)
       replace BK165 := Aside0.mk (blk_below (g := gb165) (o := .cells #[.slice none 0 0, .int .i64 0] 25 (0, 0)) (zk BK165) hb)
       replace HB := Aside0.mk (below_step (zb HB) hb)
       (try clear hb)
       refine hK.out _ _ ⟨(blk_cell BK164.out 0).trans rfl, (blk_cell BK164.out 1).trans rfl⟩ (fun hHeld => ?_)
       clear hK K
       refine nm ?_
       refine pu 4 (some 12) (bm 5 31) rfl rfl ?_
       refine done_ (by kernel_rfl) ?_
       have q18 : ((ji12) : Int) ≤ ((x3_1.length : Int) : Int) := of_decide_eq_true za
       obtain ⟨i018, hi018, _, hsz18, _⟩ := info_parts info36
       have hcut18 := cut_to (P := Try.prog) 23 36 .i64 Try.underlying23 hi018 Ao16 x3_1.length co16 (ji12) (of_decide_eq_true za) q18 (Kd.R_reads' HO_3.out).2.1
       have hr18 := Kd.R_take (m := ((ji12) : Int).toNat) HO_3.out (by omega)
       have hy18 : y173.length = ((ji12) : Int).toNat := (by rw [Ny173.out, List.length_take]; omega)
       rw [← Ny173.out] at hr18
       rw [← hy18] at hr18 hcut18
       clear hy18 hi018 hsz18 HO_3
       have HO175 := Aside0.mk hr18
       clear hr18
       replace q18 := eq_true q18
       try go_wp2
       go_roundg k1
       case measure => have := HK1.out; omega
       case rel => exact ⟨(y173), H', ⟨by have := HK1.out; omega⟩, ⟨by exact zr HO175⟩, ⟨by exact zk BK164⟩, ⟨by exact zk BK165⟩, ⟨zb HB⟩⟩
      ·rw [if_neg c14] at H
       exact absurd H (by simp)
     ·rw [if_neg c13] at H
      exact absurd H (by simp)
    ·rw [if_neg c11] at H
     have c11b0 : decide (a0_1 < t172) = false := decide_eq_false c11
     clear c11
     simp only [Option.some.injEq, Prod.mk.injEq] at H
     obtain ⟨rfl, rfl⟩ := H
     try go_wp2
     replace HO_3 := Aside0.mk (Kd.R_drew HO_3.out)
     replace BK164 := Aside0.mk (blk_drew BK164.out)
     replace BK165 := Aside0.mk (blk_drew BK165.out)
     replace HB := Aside0.mk (below_drew1 HB.out)
     obtain ⟨Ao20, co20, eo20⟩ := Kd.R_slice HO_3.out
     (first | subst eo20 | (injection eo20 with f1_ f2_ f3_; have f4_ := f1_.symm; have f5_ := f3_.symm; clear f1_ f2_ f3_; subst f4_; subst f5_))
     refine start_ (n := 5) (S := fun w' => w'.cell? ⟨gb164, 0, none⟩ = some (.slice A0_0 l0_0.length c0_0) ∧ w'.cell? ⟨gb164, 1, none⟩ = some (.int .i64 a0_1)) (ds := []) #[false, false, false, false, false] (by kernel_rfl) rfl rfl ⟨(blk_cell BK164.out 0).trans rfl, (blk_cell BK164.out 1).trans rfl⟩ (fun hHeld => ?_)
     generalize wr.drew = w19 at HO_3 BK164 BK165 HB hHeld ⊢
     refine pu 0 (some 8) (bm 5 1) rfl rfl ?_
     refine pu 2 (some 10) (bm 5 5) rfl rfl ?_
     refine tk2 3 (some 11) (bm 5 13) rfl rfl hHeld ?_
     refine one_ (i := 1) (N := some 9) (bm 5 15) rfl rfl (by kernel_rfl) (by decide) (fun K hK => ?_)
     refine gs Try.func52 #[.slice Ao20 x3_1.length co20] ?_
     with_reducible refine (spec_l3Size.calls k1 _ _ x3_1 t172 _ ?side1 ?side2 A10.out).mono ?_
     (case side1 => exact zc (Kd.R_reads' HO_3.out).2.2)
     (case side2 => exact (Kd.R_reads' HO_3.out).2.1)
     rintro e w21 ⟨rfl, hb⟩
     refine ⟨_, rfl, ?_⟩
     replace HO_3 := Aside0.mk (Kd.R_below (zr HO_3) hb)
     replace BK164 := Aside0.mk (blk_below (g := gb164) (o := .cells #[.slice A0_0 l0_0.length c0_0, .int .i64 a0_1] 25 (0, 0)) (zk BK164) hb)
     replace BK165 := Aside0.mk (blk_below (g := gb165) (o := .cells #[.slice none 0 0, .int .i64 0] 25 (0, 0)) (zk BK165) hb)
     replace HB := Aside0.mk (below_step (zb HB) hb)
     (try clear hb)
     refine hK.out _ _ ⟨(blk_cell BK164.out 0).trans rfl, (blk_cell BK164.out 1).trans rfl⟩ (fun hHeld => ?_)
     clear hK K
     refine nm ?_
     refine pu 4 (some 12) (bm 5 31) rfl rfl ?_
     refine done_ (by kernel_rfl) ?_
     have hnb22 := NB164_165.out
     have hnc22 := NB165_164.out
     have hcz23_0 : w21.cell? ⟨gb164, 0, none⟩ = some (.slice A0_0 l0_0.length c0_0) := (blk_cell BK164.out 0).trans rfl
     have hcz23_1 : w21.cell? ⟨gb164, 1, none⟩ = some (.int .i64 a0_1) := (blk_cell BK164.out 1).trans rfl
     have hfz23_0 := blk_frozen BK164.out 0
     have hfz23_1 := blk_frozen BK164.out 1
     have hcz24_0 : w21.cell? ⟨gb165, 0, none⟩ = some (.slice none 0 0) := (blk_cell BK165.out 0).trans rfl
     have hcz24_1 : w21.cell? ⟨gb165, 1, none⟩ = some (.int .i64 0) := (blk_cell BK165.out 1).trans rfl
     have hfz24_0 := blk_frozen BK165.out 0
     have hfz24_1 := blk_frozen BK165.out 1
     try go_wp2
     refine bodyPost_ret (results_cell_row rfl _ _ gb165 25 #[.slice Ao20 x3_1.length co20, .int .i64 a0_1] (0, 0) _ rfl (by (with_reducible repeat (first | refine blk_drewN ?_ _ | refine blk_drew ?_ | refine blk_alloc ?_ _)); refine blk_put (cs := #[.slice Ao20 x3_1.length co20, .int .i64 0]) ?_ 1 _ rfl; (with_reducible repeat (first | refine blk_drewN ?_ _ | refine blk_drew ?_ | refine blk_alloc ?_ _)); refine blk_put (cs := #[.slice none 0 0, .int .i64 0]) ?_ 0 _ rfl; exact zk BK165) Try.underlying25 rfl (by kernel_rfl)) rfl ?_
     exact ⟨_, ze, by (with_reducible repeat (first | apply Kd.R_alloc | apply Kd.R_drewN | apply Kd.R_drew)); exact Kd.R_mono (Kd.R_far (p := ⟨gb165, 1, none⟩) (Kd.R_far (p := ⟨gb165, 0, none⟩) (Kd.R_types HO_3.out BK165.out (by decide)) (fun _ hk => hk.2) (.slice Ao20 x3_1.length co20)) (fun _ hk => hk.2) (.int .i64 a0_1)) (fun _ hk => trivial), zb HB⟩
 ·rw [if_neg c2] at H
  exact absurd H (by simp)

/-! ### spec_l3Add: function 60 -/
-- thin
def spec_l3Add.f (k : Nat) (l0_0 : List (S36)) (a0_1 : Int) (a1_0 : ByteArray) (a1_1 : ByteArray) (a1_2 : Bool) : Option ((List (S36)) × Int) := (some (([(⟨a1_0, a1_1, false⟩ : S36)] : List (S36)) : List (S36))).bind fun y179 => (if y179.length + l0_0.length < 3518437208883 then ((spec_l3Fit.f k (y179 ++ l0_0) a0_1).bind fun bt185 => (some (bt185.1, bt185.2))) else (none))
theorem spec_l3Add.mono : ∀ a0 a1 a2 a3 a4 k, LeO (spec_l3Add.f k a0 a1 a2 a3 a4) (spec_l3Add.f (k + 1) a0 a1 a2 a3 a4) := by
 intro a0 a1 a2 a3 a4 k
 unfold spec_l3Add.f
 repeat' first
   | (with_reducible exact spec_l3Fit.mono _ _ _)
   | (with_reducible exact LeO.refl _)
   | (with_reducible exact LeO.none _)
   | (with_reducible refine LeO.ite ?_ ?_)
   | (with_reducible refine LeO.bind ?_ (fun _ => ?_))
   | exact spec_l3Fit.mono _ _ _
   | exact LeO.none _
   | refine LeO.ite ?_ ?_
   | refine LeO.bind ?_ (fun _ => ?_)
def spec_l3Add.T2 : Bool × List (List Nat × List Nat) := (true, [([], []), ([0], [0]), ([], []), ([2], [2]), ([1, 3], [1, 3]), ([], []), ([5], [5]), ([4, 6], [4, 6]), ([7, 4], [7]), ([8, 8, 0, 1, 2, 3, 4, 5, 6, 7, 8], [8])])
def spec_l3Add.B2 : List Nat := [0, 1, 0, 4, 15, 0, 32, 127, 255, 511]
theorem spec_l3Add.tab2 : rtab .any (opsOf Try.f60 2) = spec_l3Add.T2 := by kernel_rfl
theorem spec_l3Add.bits2 : waitsOk spec_l3Add.T2.2 spec_l3Add.B2 = true := by kernel_rfl
set_option maxHeartbeats 8000000 in
set_option maxRecDepth 100000 in
theorem spec_l3Add.calls (k : Nat) (A0_0 : Option Addr) (c0_0 : Nat) (l0_0 : List (S36)) (a0_1 : Int) (a1_0 : ByteArray) (a1_1 : ByteArray) (a1_2 : Bool) (r1 : List (S36)) (r2 : Int) (w : World) (hr0_0 : Kd.C k36 w A0_0 l0_0.length l0_0) (hc0_0 : l0_0.length ≤ c0_0) (h : spec_l3Add.f k l0_0 a0_1 a1_0 a1_1 a1_2 = some (r1, r2)) :
  Calls Try.prog 60 #[.agg #[.slice A0_0 l0_0.length c0_0, .int .i64 a0_1], .agg #[.string a1_0, .string a1_1, .bool a1_2]] w fun e w' => ∃ v0_ : Value, e = .returned (.agg #[v0_, .int .i64 r2]) ∧ Kd.R k36 36 w' w.heap.size (fun _ => True) v0_ r1 ∧ Below w.heap.size w w' := by
 have hu25 := Try.underlying25
 have hu36 := Try.underlying36
 have HR0_0 := Aside0.mk hr0_0
 have HC0_0 := Aside0.mk hc0_0
 clear hr0_0 hc0_0
 have HB := Aside0.mk (Below.refl w.heap.size w)
 have H : ((some (([(⟨a1_0, a1_1, false⟩ : S36)] : List (S36)) : List (S36))).bind fun y179 => (if y179.length + l0_0.length < 3518437208883 then ((spec_l3Fit.f k (y179 ++ l0_0) a0_1).bind fun bt185 => (some (bt185.1, bt185.2))) else (none))) = some (r1, r2) := h
 clear h
 obtain ⟨y179, hy179⟩ : ∃ y_ : List (S36), y_ = (([(⟨a1_0, a1_1, false⟩ : S36)] : List (S36))) := ⟨_, rfl⟩
 replace H : (if y179.length + l0_0.length < 3518437208883 then ((spec_l3Fit.f k (y179 ++ l0_0) a0_1).bind fun bt185 => (some (bt185.1, bt185.2))) else (none)) = some (r1, r2) := by first | (rw [hy179]; with_reducible exact H) | (have H2_ := (Option.bind_some _ _).symm.trans H; rw [hy179]; with_reducible exact H2_) | (have H2_ := (Option.bind_some _ _).symm.trans H; with_reducible exact H2_) | with_reducible exact H | (rw [hy179]; exact H) | exact H
 have Ny179 := Aside0.mk hy179
 clear hy179
 by_cases c3 : y179.length + l0_0.length < 3518437208883
 ·rw [if_pos c3] at H
  have LMc3 := Aside0.mk c3
  clear c3
  obtain ⟨y182, hy182⟩ : ∃ y_ : List (S36), y_ = (y179 ++ l0_0) := ⟨_, rfl⟩
  replace H : ((spec_l3Fit.f k y182 a0_1).bind fun bt185 => (some (bt185.1, bt185.2))) = some (r1, r2) := by first | (rw [hy182]; with_reducible exact H) | (have H2_ := (Option.bind_some _ _).symm.trans H; rw [hy182]; with_reducible exact H2_) | (have H2_ := (Option.bind_some _ _).symm.trans H; with_reducible exact H2_) | with_reducible exact H | (rw [hy182]; exact H) | exact H
  have Ny182 := Aside0.mk hy182
  clear hy182
  replace H := Option.bind_eq_some_iff.mp H
  obtain ⟨⟨t185, t188⟩, A40, H⟩ := H
  replace H : (some (t185, t188)) = some (r1, r2) := H
  have A4 := Aside0.mk A40
  clear A40
  simp only [Option.some.injEq, Prod.mk.injEq] at H
  obtain ⟨rfl, rfl⟩ := H
  go_enter Try.func60, Try.ntmps60
  try go_wp2_with (first | ((with_reducible refine gd 2 rfl ?_); refine bx (N := 2) (cs := #[.slice A0_0 l0_0.length c0_0, .int .i64 a0_1]) (t := 25) ?_; intro gb176 hg w5 hbox hb; have BK176 := Aside0.mk (hbox); have GW176 := Aside0.mk ((by rw [hg]; exact (below_size (zb HB)) : w.heap.size ≤ gb176)); have GE176 := Aside0.mk ((by rw [hg]; exact (below_size (zb HB)) : w.heap.size ≤ gb176)); replace HB := Aside0.mk (below_step (zb HB) hb); clear hb hbox hg) | ((with_reducible refine gd 3 rfl ?_); refine bx (N := 3) (cs := #[.string a1_0, .string a1_1, .bool a1_2]) (t := 36) ?_; intro gb177 hg w6 hbox hb; have BK177 := Aside0.mk (hbox); have GW177 := Aside0.mk ((by rw [hg]; exact (below_size (zb HB)) : w.heap.size ≤ gb177)); have GE177 := Aside0.mk ((by rw [hg]; exact (below_size (zb HB)) : w.heap.size ≤ gb177)); replace HB := Aside0.mk (below_step (zb HB) hb); have NB176_177 := Aside0.mk ((by rw [hg]; exact Nat.ne_of_lt (blk_lt (g := gb176) (o := .cells #[.slice A0_0 l0_0.length c0_0, .int .i64 a0_1] 25 (0, 0)) (zk BK176)) : gb176 ≠ gb177)); have NB177_176 := Aside0.mk ((by rw [hg]; exact Nat.ne_of_gt (blk_lt (g := gb176) (o := .cells #[.slice A0_0 l0_0.length c0_0, .int .i64 a0_1] 25 (0, 0)) (zk BK176)) : gb177 ≠ gb176)); replace BK176 := Aside0.mk (blk_below (g := gb176) (o := .cells #[.slice A0_0 l0_0.length c0_0, .int .i64 a0_1] 25 (0, 0)) (zk BK176) hb); clear hb hbox hg) | ((with_reducible refine gd 4 rfl ?_); refine bx (N := 4) (cs := #[.slice none 0 0, .int .i64 0]) (t := 25) ?_; intro gb178 hg w7 hbox hb; have BK178 := Aside0.mk (hbox); have GW178 := Aside0.mk ((by rw [hg]; exact (below_size (zb HB)) : w.heap.size ≤ gb178)); have GE178 := Aside0.mk ((by rw [hg]; exact (below_size (zb HB)) : w.heap.size ≤ gb178)); replace HB := Aside0.mk (below_step (zb HB) hb); have NB176_178 := Aside0.mk ((by rw [hg]; exact Nat.ne_of_lt (blk_lt (g := gb176) (o := .cells #[.slice A0_0 l0_0.length c0_0, .int .i64 a0_1] 25 (0, 0)) (zk BK176)) : gb176 ≠ gb178)); have NB178_176 := Aside0.mk ((by rw [hg]; exact Nat.ne_of_gt (blk_lt (g := gb176) (o := .cells #[.slice A0_0 l0_0.length c0_0, .int .i64 a0_1] 25 (0, 0)) (zk BK176)) : gb178 ≠ gb176)); replace BK176 := Aside0.mk (blk_below (g := gb176) (o := .cells #[.slice A0_0 l0_0.length c0_0, .int .i64 a0_1] 25 (0, 0)) (zk BK176) hb); have NB177_178 := Aside0.mk ((by rw [hg]; exact Nat.ne_of_lt (blk_lt (g := gb177) (o := .cells #[.string a1_0, .string a1_1, .bool a1_2] 36 (0, 0)) (zk BK177)) : gb177 ≠ gb178)); have NB178_177 := Aside0.mk ((by rw [hg]; exact Nat.ne_of_gt (blk_lt (g := gb177) (o := .cells #[.string a1_0, .string a1_1, .bool a1_2] 36 (0, 0)) (zk BK177)) : gb178 ≠ gb177)); replace BK177 := Aside0.mk (blk_below (g := gb177) (o := .cells #[.string a1_0, .string a1_1, .bool a1_2] 36 (0, 0)) (zk BK177) hb); clear hb hbox hg; have hnb8 := NB177_176.out; have hnc8 := NB176_177.out; have hnb9 := NB177_178.out; have hnc9 := NB178_177.out; have hcz10_0 : w7.cell? ⟨gb177, 0, none⟩ = some (.string a1_0) := (blk_cell BK177.out 0).trans rfl; have hcz10_1 : w7.cell? ⟨gb177, 1, none⟩ = some (.string a1_1) := (blk_cell BK177.out 1).trans rfl; have hcz10_2 : w7.cell? ⟨gb177, 2, none⟩ = some (.bool a1_2) := (blk_cell BK177.out 2).trans rfl; have hfz10_0 := blk_frozen BK177.out 0; have hfz10_1 := blk_frozen BK177.out 1; have hfz10_2 := blk_frozen BK177.out 2))
  have n0_ : Aside0 ((w7.setCell ⟨gb177, 2, none⟩ (.bool false)).heap[gb176]? = some (.cells #[.slice A0_0 l0_0.length c0_0, .int .i64 a0_1] 25 (0, 0))) := ⟨by (with_reducible repeat (first | refine blk_drewN ?_ _ | refine blk_drew ?_ | refine blk_alloc ?_ _)); refine blk_far ?_ NB176_177.out _; exact zk BK176⟩
  have n1_ : Aside0 ((w7.setCell ⟨gb177, 2, none⟩ (.bool false)).heap[gb177]? = some (.cells #[.string a1_0, .string a1_1, .bool false] 36 (0, 0))) := ⟨by (with_reducible repeat (first | refine blk_drewN ?_ _ | refine blk_drew ?_ | refine blk_alloc ?_ _)); refine blk_put (cs := #[.string a1_0, .string a1_1, .bool a1_2]) ?_ 2 _ rfl; exact zk BK177⟩
  have n2_ : Aside0 ((w7.setCell ⟨gb177, 2, none⟩ (.bool false)).heap[gb178]? = some (.cells #[.slice none 0 0, .int .i64 0] 25 (0, 0))) := ⟨by (with_reducible repeat (first | refine blk_drewN ?_ _ | refine blk_drew ?_ | refine blk_alloc ?_ _)); refine blk_far ?_ NB178_177.out _; exact zk BK178⟩
  have n3_ : Aside0 (Below w.heap.size w (w7.setCell ⟨gb177, 2, none⟩ (.bool false))) := ⟨zb HB⟩
  (try clear BK176)
  (try clear BK177)
  (try clear BK178)
  (try clear HB)
  generalize (w7.setCell ⟨gb177, 2, none⟩ (.bool false)) = w11 at n0_ n1_ n2_ n3_ ⊢
  have BK176 := n0_
  have BK177 := n1_
  have BK178 := n2_
  have HB := n3_
  clear n0_ n1_ n2_ n3_
  replace BK176 := Aside0.mk (blk_drew BK176.out)
  replace BK177 := Aside0.mk (blk_drew BK177.out)
  replace BK178 := Aside0.mk (blk_drew BK178.out)
  replace HB := Aside0.mk (below_drew1 HB.out)
  refine start_ (n := 10) (S := fun w' => w'.cell? ⟨gb177, 0, none⟩ = some (.string a1_0) ∧ w'.cell? ⟨gb177, 1, none⟩ = some (.string a1_1) ∧ w'.cell? ⟨gb177, 2, none⟩ = some (.bool false) ∧ w'.cell? ⟨gb176, 0, none⟩ = some (.slice A0_0 l0_0.length c0_0) ∧ w'.cell? ⟨gb176, 1, none⟩ = some (.int .i64 a0_1)) (ds := []) #[false, false, false, false, false, false, false, false, false, false] (by kernel_rfl) rfl rfl ⟨(blk_cell BK177.out 0).trans rfl, (blk_cell BK177.out 1).trans rfl, (blk_cell BK177.out 2).trans rfl, (blk_cell BK176.out 0).trans rfl, (blk_cell BK176.out 1).trans rfl⟩ (fun hHeld => ?_); refine with_tabW spec_l3Add.tab2 spec_l3Add.bits2 (fun HT_ HW_ => ?_)
  generalize w11.drew = w12 at BK176 BK177 BK178 HB hHeld ⊢
  refine pu 2 (some 8) (bm 10 4) rfl rfl ?_
  refine pu 5 (some 11) (bm 10 36) rfl rfl ?_
  refine tk5 0 (some 6) (bm 10 37) rfl rfl hHeld ?_
  refine tk5 3 (some 9) (bm 10 45) rfl rfl hHeld ?_
  refine tk5 6 (some 12) (bm 10 109) rfl rfl hHeld ?_
  refine one_ (i := 1) (N := some 7) (bm 10 111) rfl rfl (one_of HT_.out (by kernel_rfl)) (by decide) (fun K hK => ?_)
  refine Kd.R_lit_step k36 _ 36 ?hg (N := 7) ?hd (xs := ([(⟨a1_0, a1_1, false⟩ : S36)] : List (S36))) (inner := [.string a1_0, .string a1_1, .bool false]) (ok := fun _ => True) (okp := fun _ => True) ?hr ?hp (fun _ hk => hk) trivial (Below.refl _ _) (Nat.le_refl _) (by simp) ?_; (case hd => rfl); (case hg => rfl); (case hr => first | (go_simp; done) | (go_simp; rfl)); (case hp => exact (Reps.c3 (show Kd.M k36 _ _ _ (⟨a1_0, a1_1, false⟩ : S36) [.string a1_0, .string a1_1, .bool false] from (k36_mkM _ _ _ (⟨a1_0, a1_1, false⟩ : S36) )) (Reps.none _ _)))
  intro v180 w13 ho14 hb hg_ hnew_
  clear hg_ hnew_
  (first | rw [← Ny179.out] at ho14 | (simp only [Int.reduceToNat] at ho14; rw [← Ny179.out] at ho14))
  have HO181 := Aside0.mk (Kd.R_lower (Kd.R_newB ho14 (g := gb177) (o := .cells #[.string a1_0, .string a1_1, .bool false] 36 (0, 0)) (zk BK177)) (below_size (zb HB)))
  replace BK176 := Aside0.mk (blk_below (g := gb176) (o := .cells #[.slice A0_0 l0_0.length c0_0, .int .i64 a0_1] 25 (0, 0)) (zk BK176) hb)
  replace BK177 := Aside0.mk (blk_below (g := gb177) (o := .cells #[.string a1_0, .string a1_1, .bool false] 36 (0, 0)) (zk BK177) hb)
  replace BK178 := Aside0.mk (blk_below (g := gb178) (o := .cells #[.slice none 0 0, .int .i64 0] 25 (0, 0)) (zk BK178) hb)
  replace HB := Aside0.mk (below_step (zb HB) hb)
  clear hb ho14
  refine hK.out _ _ ⟨(blk_cell BK177.out 0).trans rfl, (blk_cell BK177.out 1).trans rfl, (blk_cell BK177.out 2).trans rfl, (blk_cell BK176.out 0).trans rfl, (blk_cell BK176.out 1).trans rfl⟩ (fun hHeld => ?_)
  clear hK K
  refine nm ?_
  refine one_ (i := 4) (N := some 10) (bm 10 127) rfl rfl (one_of HT_.out (by kernel_rfl)) (by decide) (fun K hK => ?_)
  refine Kd.R_append_rows_step k36 (w0 := w) w.heap.size (by rfl) (.tmp 7) (.tmp 9) 23 36 (.agg #[(.string ⟨#[]⟩), (.string ⟨#[]⟩), (.bool false)]) 40 rfl Try.underlying23 info36 rfl (by decide) (by omega) v180 y179 l0_0 _ _ _ (fun k_ => k_ ≠ gb177) (fun _ => False) rfl rfl ?aO ?aR (fun _ _ h => h) (fun _ h => h.elim) ?aF ?aB ?aS ?aL ?_
  (case aR => exact zc (Kd.C_below HR0_0.out HB.out))
  (case aB => exact (zb HB))
  (case aF => exact (fun k_ hk => Kd.freshB (g := gb177) (o := .cells #[.string a1_0, .string a1_1, .bool false] 36 (0, 0)) (zk BK177) k_ hk))
  (case aO => exact (by (with_reducible repeat (first | apply Kd.R_alloc | apply Kd.R_drewN | apply Kd.R_drew)); exact Kd.R_mono HO181.out (fun _ hk => hk.2)))
  (case aS => exact (below_size (zb HB)))
  (case aL => have := LMc3.out; omega)
  intro v183 w15 ho hb hg hat
  rw [← Ny182.out] at ho
  replace BK176 := Aside0.mk (blk_grown (g := gb176) (o := .cells #[.slice A0_0 l0_0.length c0_0, .int .i64 a0_1] 25 (0, 0)) (zk BK176) hg (Kd.R_ne HO181.out BK176.out (by decide)))
  replace BK177 := Aside0.mk (blk_grown (g := gb177) (o := .cells #[.string a1_0, .string a1_1, .bool false] 36 (0, 0)) (zk BK177) hg (Kd.R_away HO181.out (fun _ hk => hk.2)))
  replace BK178 := Aside0.mk (blk_grown (g := gb178) (o := .cells #[.slice none 0 0, .int .i64 0] 25 (0, 0)) (zk BK178) hg (Kd.R_ne HO181.out BK178.out (by decide)))
  replace HB := Aside0.mk (hb)
  have HO184 := Aside0.mk (ho)
  clear HO181
  clear ho hb hg hat
  obtain ⟨Ao16, co16, eo16⟩ := Kd.R_slice HO184.out
  (first | subst eo16 | (injection eo16 with f1_ f2_ f3_; have f4_ := f1_.symm; have f5_ := f3_.symm; clear f1_ f2_ f3_; subst f4_; subst f5_))
  refine hK.out _ _ ⟨(blk_cell BK177.out 0).trans rfl, (blk_cell BK177.out 1).trans rfl, (blk_cell BK177.out 2).trans rfl, (blk_cell BK176.out 0).trans rfl, (blk_cell BK176.out 1).trans rfl⟩ (fun hHeld => ?_)
  clear hK K
  refine nm ?_
  refine pu 7 (some 13) (bm 10 255) rfl rfl ?_
  refine one_ (i := 8) (N := some 14) (bm 10 511) rfl rfl (one_of HT_.out (by kernel_rfl)) (by decide) (fun K hK => ?_)
  refine gs Try.func51 #[.agg #[.slice Ao16 y182.length co16, .int .i64 a0_1]] ?_
  with_reducible refine (spec_l3Fit.calls k _ _ y182 a0_1 t185 t188 _ ?side1 ?side2 A4.out).mono ?_
  (case side1 => exact zc (Kd.R_reads' HO184.out).2.2)
  (case side2 => exact (Kd.R_reads' HO184.out).2.1)
  rintro e w17 ⟨v186, rfl, ho0, hb⟩
  refine ⟨_, rfl, ?_⟩
  have HO187 := Aside0.mk (Kd.R_lower (Kd.R_newB (Kd.R_new' ho0 (Kd.R_lt (zr HO184))) (g := gb177) (o := .cells #[.string a1_0, .string a1_1, .bool false] 36 (0, 0)) (zk BK177)) (below_size (zb HB)))
  replace HO184 := Aside0.mk (Kd.R_elder' (zr HO184) (Kd.R_base ho0) hb)
  replace BK176 := Aside0.mk (blk_below (g := gb176) (o := .cells #[.slice A0_0 l0_0.length c0_0, .int .i64 a0_1] 25 (0, 0)) (zk BK176) hb)
  replace BK177 := Aside0.mk (blk_below (g := gb177) (o := .cells #[.string a1_0, .string a1_1, .bool false] 36 (0, 0)) (zk BK177) hb)
  replace BK178 := Aside0.mk (blk_below (g := gb178) (o := .cells #[.slice none 0 0, .int .i64 0] 25 (0, 0)) (zk BK178) hb)
  replace HB := Aside0.mk (below_step (zb HB) hb)
  (try clear hb)
  (try clear ho0)
  obtain ⟨Ao18, co18, eo18⟩ := Kd.R_slice HO187.out
  (first | subst eo18 | (injection eo18 with f1_ f2_ f3_; have f4_ := f1_.symm; have f5_ := f3_.symm; clear f1_ f2_ f3_; subst f4_; subst f5_))
  refine hK.out _ _ ⟨(blk_cell BK177.out 0).trans rfl, (blk_cell BK177.out 1).trans rfl, (blk_cell BK177.out 2).trans rfl, (blk_cell BK176.out 0).trans rfl, (blk_cell BK176.out 1).trans rfl⟩ (fun hHeld => ?_)
  clear hK K
  refine nm ?_
  refine one_ (i := 9) (N := none) (bm 10 1023) rfl rfl (one_of HT_.out (by kernel_rfl)) (by decide) (fun K hK => ?_)
  have hs19 : w17.cell? ⟨gb178, 0, none⟩ = some (.slice none 0 0) := (blk_cell BK178.out 0).trans rfl
  have hfs19 := blk_frozen BK178.out 0
  have hns19_0 := NB176_178.out
  have hns19_1 := NB177_178.out
  have hms19_0 := NB178_176.out
  have hms19_1 := NB178_177.out
  have hs20 : w17.cell? ⟨gb178, 1, none⟩ = some (.int .i64 0) := (blk_cell BK178.out 1).trans rfl
  have hfs20 := blk_frozen BK178.out 1
  have hns20_0 := NB176_178.out
  have hns20_1 := NB177_178.out
  have hms20_0 := NB178_176.out
  have hms20_1 := NB178_177.out
  refine skip_ (w1 := ?_) (by rfl) rfl ?_ ?_
  rotate_left
  ·go_simp
   rfl
  refine hK.out _ _ ⟨((cell_far (p := ⟨gb178, _, none⟩) NB177_178.out _).trans (((cell_far (p := ⟨gb178, _, none⟩) NB177_178.out _).trans (hHeld.1)))), ((cell_far (p := ⟨gb178, _, none⟩) NB177_178.out _).trans (((cell_far (p := ⟨gb178, _, none⟩) NB177_178.out _).trans (hHeld.2.1)))), ((cell_far (p := ⟨gb178, _, none⟩) NB177_178.out _).trans (((cell_far (p := ⟨gb178, _, none⟩) NB177_178.out _).trans (hHeld.2.2.1)))), ((cell_far (p := ⟨gb178, _, none⟩) NB176_178.out _).trans (((cell_far (p := ⟨gb178, _, none⟩) NB176_178.out _).trans (hHeld.2.2.2.1)))), ((cell_far (p := ⟨gb178, _, none⟩) NB176_178.out _).trans (((cell_far (p := ⟨gb178, _, none⟩) NB176_178.out _).trans (hHeld.2.2.2.2))))⟩ (fun hHeld => ?_)
  clear hK K
  refine done_ (done_of HT_.out (by kernel_rfl)) ?_
  try go_wp2
  refine bodyPost_ret (results_cell_row rfl _ _ gb178 25 #[.slice Ao18 t185.length co18, .int .i64 t188] (0, 0) _ rfl (by (with_reducible repeat (first | refine blk_drewN ?_ _ | refine blk_drew ?_ | refine blk_alloc ?_ _)); refine blk_put (cs := #[.slice Ao18 t185.length co18, .int .i64 0]) ?_ 1 _ rfl; (with_reducible repeat (first | refine blk_drewN ?_ _ | refine blk_drew ?_ | refine blk_alloc ?_ _)); refine blk_put (cs := #[.slice none 0 0, .int .i64 0]) ?_ 0 _ rfl; exact zk BK178) Try.underlying25 rfl (by kernel_rfl)) rfl ?_
  exact ⟨_, ze, by (with_reducible repeat (first | apply Kd.R_alloc | apply Kd.R_drewN | apply Kd.R_drew)); exact Kd.R_mono (Kd.R_far (p := ⟨gb178, 1, none⟩) (Kd.R_far (p := ⟨gb178, 0, none⟩) (Kd.R_types HO187.out BK178.out (by decide)) (fun _ hk => hk.2) (.slice Ao18 t185.length co18)) (fun _ hk => hk.2) (.int .i64 t188)) (fun _ hk => trivial), zb HB⟩
 ·rw [if_neg c3] at H
  exact absurd H (by simp)

/-! ### spec_TableFixed: function 100 -/
-- thin
def spec_TableFixed.f  : Option ((List (S36))) := some (([(⟨(⟨#[58, 112, 97, 116, 104]⟩ : ByteArray), (⟨#[]⟩ : ByteArray), false⟩ : S36), (⟨(⟨#[58, 115, 116, 97, 116, 117, 115]⟩ : ByteArray), (⟨#[48]⟩ : ByteArray), false⟩ : S36), (⟨(⟨#[58, 115, 116, 97, 116, 117, 115]⟩ : ByteArray), (⟨#[49, 50]⟩ : ByteArray), false⟩ : S36), (⟨(⟨#[107, 105, 110, 100]⟩ : ByteArray), (⟨#[116, 101, 120, 116]⟩ : ByteArray), false⟩ : S36), (⟨(⟨#[115, 105, 122, 101]⟩ : ByteArray), (⟨#[]⟩ : ByteArray), false⟩ : S36), (⟨(⟨#[116, 101]⟩ : ByteArray), (⟨#[116, 114, 97, 105, 108, 101, 114, 115]⟩ : ByteArray), false⟩ : S36)] : List (S36)))
set_option maxHeartbeats 8000000 in
set_option maxRecDepth 100000 in
theorem spec_TableFixed.calls  (r : List (S36)) (w : World) (h : spec_TableFixed.f  = some r) :
  Calls Try.prog 100 #[] w fun e w' => ∃ v0_ : Value, e = .returned (v0_) ∧ Kd.R k36 36 w' w.heap.size (fun _ => True) v0_ r ∧ Below w.heap.size w w' := by
 have hu36 := Try.underlying36
 have HB := Aside0.mk (Below.refl w.heap.size w)
 have H : (some (([(⟨(⟨#[58, 112, 97, 116, 104]⟩ : ByteArray), (⟨#[]⟩ : ByteArray), false⟩ : S36), (⟨(⟨#[58, 115, 116, 97, 116, 117, 115]⟩ : ByteArray), (⟨#[48]⟩ : ByteArray), false⟩ : S36), (⟨(⟨#[58, 115, 116, 97, 116, 117, 115]⟩ : ByteArray), (⟨#[49, 50]⟩ : ByteArray), false⟩ : S36), (⟨(⟨#[107, 105, 110, 100]⟩ : ByteArray), (⟨#[116, 101, 120, 116]⟩ : ByteArray), false⟩ : S36), (⟨(⟨#[115, 105, 122, 101]⟩ : ByteArray), (⟨#[]⟩ : ByteArray), false⟩ : S36), (⟨(⟨#[116, 101]⟩ : ByteArray), (⟨#[116, 114, 97, 105, 108, 101, 114, 115]⟩ : ByteArray), false⟩ : S36)] : List (S36)))) = some r := h
 clear h
 obtain ⟨y189, hy189⟩ : ∃ y_ : List (S36), y_ = (([(⟨(⟨#[58, 112, 97, 116, 104]⟩ : ByteArray), (⟨#[]⟩ : ByteArray), false⟩ : S36), (⟨(⟨#[58, 115, 116, 97, 116, 117, 115]⟩ : ByteArray), (⟨#[48]⟩ : ByteArray), false⟩ : S36), (⟨(⟨#[58, 115, 116, 97, 116, 117, 115]⟩ : ByteArray), (⟨#[49, 50]⟩ : ByteArray), false⟩ : S36), (⟨(⟨#[107, 105, 110, 100]⟩ : ByteArray), (⟨#[116, 101, 120, 116]⟩ : ByteArray), false⟩ : S36), (⟨(⟨#[115, 105, 122, 101]⟩ : ByteArray), (⟨#[]⟩ : ByteArray), false⟩ : S36), (⟨(⟨#[116, 101]⟩ : ByteArray), (⟨#[116, 114, 97, 105, 108, 101, 114, 115]⟩ : ByteArray), false⟩ : S36)] : List (S36))) := ⟨_, rfl⟩
 replace H : (some y189) = some r := by first | (rw [hy189]; with_reducible exact H) | (have H2_ := (Option.bind_some _ _).symm.trans H; rw [hy189]; with_reducible exact H2_) | (have H2_ := (Option.bind_some _ _).symm.trans H; with_reducible exact H2_) | with_reducible exact H | (rw [hy189]; exact H) | exact H
 have Ny189 := Aside0.mk hy189
 clear hy189
 obtain rfl := Option.some.inj H
 go_enter Try.func100, Try.ntmps100
 go_wp2_with (first | ((with_reducible refine gd 7 rfl ?_); refine Kd.R_lit k36 _ 36 ?hg (N := 7) ?hd (xs := ([(⟨(⟨#[58, 112, 97, 116, 104]⟩ : ByteArray), (⟨#[]⟩ : ByteArray), false⟩ : S36), (⟨(⟨#[58, 115, 116, 97, 116, 117, 115]⟩ : ByteArray), (⟨#[48]⟩ : ByteArray), false⟩ : S36), (⟨(⟨#[58, 115, 116, 97, 116, 117, 115]⟩ : ByteArray), (⟨#[49, 50]⟩ : ByteArray), false⟩ : S36), (⟨(⟨#[107, 105, 110, 100]⟩ : ByteArray), (⟨#[116, 101, 120, 116]⟩ : ByteArray), false⟩ : S36), (⟨(⟨#[115, 105, 122, 101]⟩ : ByteArray), (⟨#[]⟩ : ByteArray), false⟩ : S36), (⟨(⟨#[116, 101]⟩ : ByteArray), (⟨#[116, 114, 97, 105, 108, 101, 114, 115]⟩ : ByteArray), false⟩ : S36)] : List (S36))) (inner := [.string (⟨#[58, 112, 97, 116, 104]⟩ : ByteArray), .string (⟨#[]⟩ : ByteArray), .bool false, .string (⟨#[58, 115, 116, 97, 116, 117, 115]⟩ : ByteArray), .string (⟨#[48]⟩ : ByteArray), .bool false, .string (⟨#[58, 115, 116, 97, 116, 117, 115]⟩ : ByteArray), .string (⟨#[49, 50]⟩ : ByteArray), .bool false, .string (⟨#[107, 105, 110, 100]⟩ : ByteArray), .string (⟨#[116, 101, 120, 116]⟩ : ByteArray), .bool false, .string (⟨#[115, 105, 122, 101]⟩ : ByteArray), .string (⟨#[]⟩ : ByteArray), .bool false, .string (⟨#[116, 101]⟩ : ByteArray), .string (⟨#[116, 114, 97, 105, 108, 101, 114, 115]⟩ : ByteArray), .bool false]) (ok := fun _ => True) (okp := fun _ => True) ?hr ?hp (fun _ hk => hk) trivial (Below.refl _ _) (Nat.le_refl _) (by simp) ?_; (case hd => rfl); (case hg => rfl); (case hr => first | (go_simp; done) | (go_simp; rfl)); (case hp => exact (Reps.c3 (show Kd.M k36 _ _ _ (⟨(⟨#[58, 112, 97, 116, 104]⟩ : ByteArray), (⟨#[]⟩ : ByteArray), false⟩ : S36) [.string (⟨#[58, 112, 97, 116, 104]⟩ : ByteArray), .string (⟨#[]⟩ : ByteArray), .bool false] from (k36_mkM _ _ _ (⟨(⟨#[58, 112, 97, 116, 104]⟩ : ByteArray), (⟨#[]⟩ : ByteArray), false⟩ : S36) )) (Reps.c3 (show Kd.M k36 _ _ _ (⟨(⟨#[58, 115, 116, 97, 116, 117, 115]⟩ : ByteArray), (⟨#[48]⟩ : ByteArray), false⟩ : S36) [.string (⟨#[58, 115, 116, 97, 116, 117, 115]⟩ : ByteArray), .string (⟨#[48]⟩ : ByteArray), .bool false] from (k36_mkM _ _ _ (⟨(⟨#[58, 115, 116, 97, 116, 117, 115]⟩ : ByteArray), (⟨#[48]⟩ : ByteArray), false⟩ : S36) )) (Reps.c3 (show Kd.M k36 _ _ _ (⟨(⟨#[58, 115, 116, 97, 116, 117, 115]⟩ : ByteArray), (⟨#[49, 50]⟩ : ByteArray), false⟩ : S36) [.string (⟨#[58, 115, 116, 97, 116, 117, 115]⟩ : ByteArray), .string (⟨#[49, 50]⟩ : ByteArray), .bool false] from (k36_mkM _ _ _ (⟨(⟨#[58, 115, 116, 97, 116, 117, 115]⟩ : ByteArray), (⟨#[49, 50]⟩ : ByteArray), false⟩ : S36) )) (Reps.c3 (show Kd.M k36 _ _ _ (⟨(⟨#[107, 105, 110, 100]⟩ : ByteArray), (⟨#[116, 101, 120, 116]⟩ : ByteArray), false⟩ : S36) [.string (⟨#[107, 105, 110, 100]⟩ : ByteArray), .string (⟨#[116, 101, 120, 116]⟩ : ByteArray), .bool false] from (k36_mkM _ _ _ (⟨(⟨#[107, 105, 110, 100]⟩ : ByteArray), (⟨#[116, 101, 120, 116]⟩ : ByteArray), false⟩ : S36) )) (Reps.c3 (show Kd.M k36 _ _ _ (⟨(⟨#[115, 105, 122, 101]⟩ : ByteArray), (⟨#[]⟩ : ByteArray), false⟩ : S36) [.string (⟨#[115, 105, 122, 101]⟩ : ByteArray), .string (⟨#[]⟩ : ByteArray), .bool false] from (k36_mkM _ _ _ (⟨(⟨#[115, 105, 122, 101]⟩ : ByteArray), (⟨#[]⟩ : ByteArray), false⟩ : S36) )) (Reps.c3 (show Kd.M k36 _ _ _ (⟨(⟨#[116, 101]⟩ : ByteArray), (⟨#[116, 114, 97, 105, 108, 101, 114, 115]⟩ : ByteArray), false⟩ : S36) [.string (⟨#[116, 101]⟩ : ByteArray), .string (⟨#[116, 114, 97, 105, 108, 101, 114, 115]⟩ : ByteArray), .bool false] from (k36_mkM _ _ _ (⟨(⟨#[116, 101]⟩ : ByteArray), (⟨#[116, 114, 97, 105, 108, 101, 114, 115]⟩ : ByteArray), false⟩ : S36) )) (Reps.none _ _)))))))); intro v190 w1 ho2 hb hg_ hnew_; clear hg_ hnew_; (first | rw [← Ny189.out] at ho2 | (simp only [Int.reduceToNat] at ho2; rw [← Ny189.out] at ho2)); have HO191 := Aside0.mk (Kd.R_lower ho2 (below_size (zb HB))); replace HB := Aside0.mk (below_step (zb HB) hb); clear hb ho2))
 go_ret
 exact ⟨_, ze, by (with_reducible repeat (first | apply Kd.R_alloc | apply Kd.R_drewN | apply Kd.R_drew)); exact HO191.out, zb HB⟩

end Go.Proofs.Ytdhahifdcoinhaa.PFnExactHeadWrite
