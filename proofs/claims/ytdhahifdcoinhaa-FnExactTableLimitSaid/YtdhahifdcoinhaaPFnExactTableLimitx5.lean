-- WRITTEN BY a turned print (wip/tools of the prover's repo)
import Derived.Test.YtdhahifdcoinhaaPFnExactTableLimitx0
import Derived.Test.YtdhahifdcoinhaaPFnExactTableLimitx2
import Derived.Test.YtdhahifdcoinhaaPFnExactTableLimitx3
import Derived.Test.YtdhahifdcoinhaaPFnExactTableLimitx4
namespace Go.Proofs.Ytdhahifdcoinhaa.PFnExactTableLimit
open Go.RowKit Go.Proofs.YtdhahifdcoinhaaW.PrintWords Go.Proofs.YtdhahifdcoinhaaW.PrintLast Go.Proofs.YtdhahifdcoinhaaW.PrintMore Go.Proofs.Ytdhahifdcoinhaa.Lm
attribute [local go_sem] max2_int min2_int max_two min_two max_three min_three max_four min_four   -- for this text's walks alone
set_option linter.unusedVariables false
set_option linter.unusedSimpArgs false

/-! ### laws_heldFieldS: function 57 -/
-- thin
def laws_heldFieldS.l0 : Nat → List (S36) → Int → Int → Option (Int)
 | 0, _, _, _ => none
 | k + 1, x0, x1, x5 => if x5 < (x0.length : Int) then (if 0 ≤ x5 then ((laws_markText.f k x1).bind fun t219 => (if ((rd_T36 x0 x5).f0).toList = t219.toList then ((laws_markText.f k (wrap64 (x1 + 1))).bind fun t221 => (if ((rd_T36 x0 x5).f1).toList = t221.toList then (if (((rd_T36 x0 x5).f2) != ((Int.tmod (wrap64 ((wrap64 (x1 + 1)) + 1)) 3) == 0)) = true then (some (-1)) else (laws_heldFieldS.l0 k x0 (wrap64 ((wrap64 ((wrap64 (x1 + 1)) + 1)) + 1)) (wrap64 (x5 + 1)))) else (some (-1)))) else (some (-1)))) else (none)) else (some x1)
def laws_heldFieldS.f (k : Nat) (l0 : List (S36)) (a1 : Int) : Option (Int) := laws_heldFieldS.l0 k l0 a1 0
theorem laws_heldFieldS.mono_l : ∀ k, (∀ y0 y1 y2, LeO (laws_heldFieldS.l0 k y0 y1 y2) (laws_heldFieldS.l0 (k + 1) y0 y1 y2))
 | 0 => fun _ _ _ r h => by simp [laws_heldFieldS.l0] at h
 | k + 1 => by
  have ih0 := laws_heldFieldS.mono_l k
  ·intro y0 y1 y2
   unfold laws_heldFieldS.l0
   repeat' first
   | (with_reducible exact ih0 _ _ _)
   | (with_reducible exact laws_markText.mono _ _)
   | (with_reducible exact LeO.refl _)
   | (with_reducible exact LeO.none _)
   | (with_reducible refine LeO.ite ?_ ?_)
   | (with_reducible refine LeO.bind ?_ (fun _ => ?_))
   | exact ih0 _ _ _
   | exact laws_markText.mono _ _
   | exact LeO.none _
   | refine LeO.ite ?_ ?_
   | refine LeO.bind ?_ (fun _ => ?_)
theorem laws_heldFieldS.mono : ∀ a0 a1 k, LeO (laws_heldFieldS.f k a0 a1) (laws_heldFieldS.f (k + 1) a0 a1) := by
 intro a0 a1 k
 have ih0 := laws_heldFieldS.mono_l k
 unfold laws_heldFieldS.f
 repeat' first
   | (with_reducible exact ih0 _ _ _)
   | (with_reducible exact laws_markText.mono _ _)
   | (with_reducible exact LeO.refl _)
   | (with_reducible exact LeO.none _)
   | (with_reducible refine LeO.ite ?_ ?_)
   | (with_reducible refine LeO.bind ?_ (fun _ => ?_))
   | exact ih0 _ _ _
   | exact laws_markText.mono _ _
   | exact LeO.none _
   | refine LeO.ite ?_ ?_
   | refine LeO.bind ?_ (fun _ => ?_)
def laws_heldFieldS.T4 : Bool × List (List Nat × List Nat) := (true, [([], []), ([], []), ([0, 1], [0, 1]), ([2], [2]), ([3], [3]), ([], []), ([5], [5]), ([4, 6], [4, 6])])
def laws_heldFieldS.B4 : List Nat := [0, 0, 3, 7, 15, 0, 32, 127]
theorem laws_heldFieldS.tab4 : rtab .any (opsOf Try.f57 4) = laws_heldFieldS.T4 := by kernel_rfl
theorem laws_heldFieldS.bits4 : waitsOk laws_heldFieldS.T4.2 laws_heldFieldS.B4 = true := by kernel_rfl
def laws_heldFieldS.T7 : Bool × List (List Nat × List Nat) := (true, [([], []), ([], []), ([0, 1], [0, 1]), ([2], [2]), ([3], [3]), ([], []), ([5], [5]), ([4, 6], [4, 6])])
def laws_heldFieldS.B7 : List Nat := [0, 0, 3, 7, 15, 0, 32, 127]
theorem laws_heldFieldS.tab7 : rtab .any (opsOf Try.f57 7) = laws_heldFieldS.T7 := by kernel_rfl
theorem laws_heldFieldS.bits7 : waitsOk laws_heldFieldS.T7.2 laws_heldFieldS.B7 = true := by kernel_rfl
set_option maxHeartbeats 8000000 in
set_option maxRecDepth 100000 in
theorem laws_heldFieldS.calls (k : Nat) (A0 : Option Addr) (c0 : Nat) (l0 : List (S36)) (a1 : Int) (r : Int) (w : World) (hr0 : Kd.C k36 w A0 l0.length l0) (hc0 : l0.length ≤ c0) (h : laws_heldFieldS.f k l0 a1 = some r) :
  Calls Try.prog 57 #[.slice A0 l0.length c0, .int .i64 a1] w fun e w' => e = .returned (.int .i64 r) ∧ Below w.heap.size w w' := by
 have HR0 := Aside0.mk hr0
 have HC0 := Aside0.mk hc0
 clear hr0 hc0
 have HB := Aside0.mk (Below.refl w.heap.size w)
 have H : (laws_heldFieldS.l0 k l0 a1 0) = some r := h
 clear h
 have H' := Aside0.mk H
 clear H
 go_enter Try.func57, Try.ntmps57
 go_wp2
 go_loopg [1, 5] k (fun kq v1 v5 w' => ∃ (x1_1 : Int) (x5_1 : Int), v1 = .int .i64 x1_1 ∧ v5 = .int .i64 x5_1 ∧ Aside0 (laws_heldFieldS.l0 kq l0 x1_1 x5_1 = some r) ∧ Aside0 (kq ≤ k) ∧ Aside0 (Below w.heap.size w w'))
 case atStart => exact ⟨(a1), (0), zs, zs, H', ⟨Nat.le_refl _⟩, ⟨zb HB⟩⟩
 case round =>
  clear H'
  try clear p2
  obtain ⟨x1_1, x5_1, rfl, rfl, HA, HK1, HB⟩ := hrel
  cases gk with
  | zero => exact absurd HA.out (by simp [laws_heldFieldS.l0])
  | succ k1 =>
   have H := HA.out
   clear HA
   simp only [laws_heldFieldS.l0] at H
   by_cases c3 : x5_1 < (l0.length : Int)
   ·rw [if_pos c3] at H
    have c3b0 : decide (x5_1 < (l0.length : Int)) = true := decide_eq_true c3
    clear c3
    by_cases c4 : 0 ≤ x5_1
    ·rw [if_pos c4] at H
     have c4b0 : decide (0 ≤ x5_1) = true := decide_eq_true c4
     clear c4
     replace H := Option.bind_eq_some_iff.mp H
     obtain ⟨t219, A50, H⟩ := H
     replace H : (if ((rd_T36 l0 x5_1).f0).toList = t219.toList then ((laws_markText.f k1 (wrap64 (x1_1 + 1))).bind fun t221 => (if ((rd_T36 l0 x5_1).f1).toList = t221.toList then (if (((rd_T36 l0 x5_1).f2) != ((Int.tmod (wrap64 ((wrap64 (x1_1 + 1)) + 1)) 3) == 0)) = true then (some (-1)) else (laws_heldFieldS.l0 k1 l0 (wrap64 ((wrap64 ((wrap64 (x1_1 + 1)) + 1)) + 1)) (wrap64 (x5_1 + 1)))) else (some (-1)))) else (some (-1))) = some r := H
     have A5 := Aside0.mk A50
     clear A50
     have HC6 := Aside0.mk H
     clear H
     try go_wp2
     replace HB := Aside0.mk (below_drew1 HB.out)
     have p218 : 0 ≤ (x5_1 : Int) := of_decide_eq_true za
     have q218 : x5_1 < (l0.length : Int) := of_decide_eq_true za
     obtain ⟨ad218, e218, hx218_0, hx218_1, hx218_2⟩ := at_T36 HR0.out x5_1 p218 q218
     have hw218_2 := hx218_2
     have hw218_1 := hx218_1
     have hw218_0 := hx218_0
     cases e218
     replace hx218_0 := (HB.out.cell (World.block_lt_of_cell? w _ hx218_0)).trans hx218_0
     replace hx218_1 := (HB.out.cell (World.block_lt_of_cell? w _ hx218_1)).trans hx218_1
     replace hx218_2 := (HB.out.cell (World.block_lt_of_cell? w _ hx218_2)).trans hx218_2
     replace p218 := eq_true p218
     replace q218 := eq_true q218
     refine start_ (n := 8) (S := fun w' => w'.cell? (ad218.add ((x5_1).toNat * 3)) = some (.string ((rd_T36 l0 x5_1).f0)) ∧ w'.cell? ⟨(ad218.add ((x5_1).toNat * 3)).block, (ad218.add ((x5_1).toNat * 3)).off + 1, none⟩ = some (.string ((rd_T36 l0 x5_1).f1)) ∧ w'.cell? ⟨(ad218.add ((x5_1).toNat * 3)).block, (ad218.add ((x5_1).toNat * 3)).off + 2, none⟩ = some (.bool ((rd_T36 l0 x5_1).f2))) (ds := []) #[false, false, false, false, false, false, false, false] (by kernel_rfl) rfl rfl ⟨((HB.out.cell (World.block_lt_of_cell? w _ hw218_0)).trans hw218_0), ((HB.out.cell (World.block_lt_of_cell? w _ hw218_1)).trans hw218_1), ((HB.out.cell (World.block_lt_of_cell? w _ hw218_2)).trans hw218_2)⟩ (fun hHeld => ?_); refine with_tabW laws_heldFieldS.tab4 laws_heldFieldS.bits4 (fun HT_ HW_ => ?_)
     generalize wr.drew = w7 at HB hx218_0 hx218_1 hx218_2 hHeld ⊢
     refine pu 0 (some 12) (bm 8 1) rfl rfl ?_
     refine pu 1 (some 13) (bm 8 3) rfl rfl ?_
     refine pu 2 (some 14) (bm 8 7) rfl rfl ?_
     refine pu 3 (some 15) (bm 8 15) rfl rfl ?_
     refine pu 5 (some 17) (bm 8 47) rfl rfl ?_
     refine tk3 4 (some 16) (bm 8 63) rfl rfl hHeld ?_
     refine one_ (i := 6) (N := some 18) (bm 8 127) rfl rfl (one_of HT_.out (by kernel_rfl)) (by decide) (fun K hK => ?_)
     refine gs Try.func68 #[.int .i64 x1_1] ?_
     with_reducible refine (laws_markText.calls k1 x1_1 t219 _ A5.out).mono ?_
     rintro e w8 ⟨rfl, hb⟩
     refine ⟨_, rfl, ?_⟩
     replace HB := Aside0.mk (below_step (zb HB) hb)
     (try clear hb)
     refine hK.out _ _ ⟨((HB.out.cell (World.block_lt_of_cell? w _ hw218_0)).trans hw218_0), ((HB.out.cell (World.block_lt_of_cell? w _ hw218_1)).trans hw218_1), ((HB.out.cell (World.block_lt_of_cell? w _ hw218_2)).trans hw218_2)⟩ (fun hHeld => ?_)
     clear hK K
     refine nm ?_
     refine pu 7 (some 19) (bm 8 255) rfl rfl ?_
     refine done_ (done_of HT_.out (by kernel_rfl)) ?_
     go_upto_if 19 with (fail)
     have H := HC6.out
     clear HC6
     by_cases c9 : ((rd_T36 l0 x5_1).f0).toList = t219.toList
     ·rw [if_pos c9] at H
      have c9b0 : (((rd_T36 l0 x5_1).f0).toList == t219.toList) = true := beq_iff_eq.mpr c9
      have c9b1 : (((rd_T36 l0 x5_1).f0).toList != t219.toList) = false := bne_eq_false_iff_eq.mpr c9
      clear c9
      (first | rw [c9b0] | (simp only [i64_w, i32_w]; rw [c9b0]) | skip)
      replace H := Option.bind_eq_some_iff.mp H
      obtain ⟨t221, A100, H⟩ := H
      replace H : (if ((rd_T36 l0 x5_1).f1).toList = t221.toList then (if (((rd_T36 l0 x5_1).f2) != ((Int.tmod (wrap64 ((wrap64 (x1_1 + 1)) + 1)) 3) == 0)) = true then (some (-1)) else (laws_heldFieldS.l0 k1 l0 (wrap64 ((wrap64 ((wrap64 (x1_1 + 1)) + 1)) + 1)) (wrap64 (x5_1 + 1)))) else (some (-1))) = some r := H
      have A10 := Aside0.mk A100
      clear A100
      have HC11 := Aside0.mk H
      clear H
      try go_wp2
      replace HB := Aside0.mk (below_drew1 HB.out)
      have p220 : 0 ≤ (x5_1 : Int) := of_decide_eq_true za
      have q220 : x5_1 < (l0.length : Int) := of_decide_eq_true za
      obtain ⟨ad220, e220, hx220_0, hx220_1, hx220_2⟩ := at_T36 HR0.out x5_1 p220 q220
      have hw220_2 := hx220_2
      have hw220_1 := hx220_1
      have hw220_0 := hx220_0
      obtain rfl : ad218 = ad220 := (by injection e220)
      replace hx220_0 := (HB.out.cell (World.block_lt_of_cell? w _ hx220_0)).trans hx220_0
      replace hx220_1 := (HB.out.cell (World.block_lt_of_cell? w _ hx220_1)).trans hx220_1
      replace hx220_2 := (HB.out.cell (World.block_lt_of_cell? w _ hx220_2)).trans hx220_2
      replace p220 := eq_true p220
      replace q220 := eq_true q220
      refine start_ (n := 8) (S := fun w' => w'.cell? (ad218.add ((x5_1).toNat * 3)) = some (.string ((rd_T36 l0 x5_1).f0)) ∧ w'.cell? ⟨(ad218.add ((x5_1).toNat * 3)).block, (ad218.add ((x5_1).toNat * 3)).off + 1, none⟩ = some (.string ((rd_T36 l0 x5_1).f1)) ∧ w'.cell? ⟨(ad218.add ((x5_1).toNat * 3)).block, (ad218.add ((x5_1).toNat * 3)).off + 2, none⟩ = some (.bool ((rd_T36 l0 x5_1).f2))) (ds := []) #[false, false, false, false, false, false, false, false] (by kernel_rfl) rfl rfl ⟨((HB.out.cell (World.block_lt_of_cell? w _ hw220_0)).trans hw220_0), ((HB.out.cell (World.block_lt_of_cell? w _ hw220_1)).trans hw220_1), ((HB.out.cell (World.block_lt_of_cell? w _ hw220_2)).trans hw220_2)⟩ (fun hHeld => ?_); refine with_tabW laws_heldFieldS.tab7 laws_heldFieldS.bits7 (fun HT_ HW_ => ?_)
      generalize w8.drew = w12 at HB hx220_0 hx220_1 hx220_2 hHeld ⊢
      refine pu 0 (some 22) (bm 8 1) rfl rfl ?_
      refine pu 1 (some 23) (bm 8 3) rfl rfl ?_
      refine pu 2 (some 24) (bm 8 7) rfl rfl ?_
      refine pu 3 (some 25) (bm 8 15) rfl rfl ?_
      refine pu 5 (some 27) (bm 8 47) rfl rfl ?_
      refine tk3 4 (some 26) (bm 8 63) rfl rfl hHeld ?_
      refine one_ (i := 6) (N := some 28) (bm 8 127) rfl rfl (one_of HT_.out (by kernel_rfl)) (by decide) (fun K hK => ?_)
      refine gs Try.func68 #[.int .i64 (wrap64 (x1_1 + 1))] ?_
      with_reducible refine (laws_markText.calls k1 (wrap64 (x1_1 + 1)) t221 _ A10.out).mono ?_
      rintro e w13 ⟨rfl, hb⟩
      refine ⟨_, rfl, ?_⟩
      replace HB := Aside0.mk (below_step (zb HB) hb)
      (try clear hb)
      refine hK.out _ _ ⟨((HB.out.cell (World.block_lt_of_cell? w _ hw220_0)).trans hw220_0), ((HB.out.cell (World.block_lt_of_cell? w _ hw220_1)).trans hw220_1), ((HB.out.cell (World.block_lt_of_cell? w _ hw220_2)).trans hw220_2)⟩ (fun hHeld => ?_)
      clear hK K
      refine nm ?_
      refine pu 7 (some 29) (bm 8 255) rfl rfl ?_
      refine done_ (done_of HT_.out (by kernel_rfl)) ?_
      go_upto_if 29 with (fail)
      have H := HC11.out
      clear HC11
      by_cases c14 : ((rd_T36 l0 x5_1).f1).toList = t221.toList
      ·rw [if_pos c14] at H
       have c14b0 : (((rd_T36 l0 x5_1).f1).toList == t221.toList) = true := beq_iff_eq.mpr c14
       have c14b1 : (((rd_T36 l0 x5_1).f1).toList != t221.toList) = false := bne_eq_false_iff_eq.mpr c14
       clear c14
       (first | rw [c14b0] | (simp only [i64_w, i32_w]; rw [c14b0]) | skip)
       by_cases c15 : (((rd_T36 l0 x5_1).f2) != ((Int.tmod (wrap64 ((wrap64 (x1_1 + 1)) + 1)) 3) == 0)) = true
       ·rw [if_pos c15] at H
        have c15b0 : (((rd_T36 l0 x5_1).f2) != ((Int.tmod (wrap64 ((wrap64 (x1_1 + 1)) + 1)) 3) == 0)) = true := c15
        (try (have c15b1 : decide (((rd_T36 l0 x5_1).f2) = ((Int.tmod (wrap64 ((wrap64 (x1_1 + 1)) + 1)) 3) == 0)) = false := by simpa using c15))
        (try (have c15b2 : (((rd_T36 l0 x5_1).f2) == ((Int.tmod (wrap64 ((wrap64 (x1_1 + 1)) + 1)) 3) == 0)) = false := by simpa using c15))
        (try (have c15b3 : ¬ (((rd_T36 l0 x5_1).f2) = ((Int.tmod (wrap64 ((wrap64 (x1_1 + 1)) + 1)) 3) == 0)) := by simpa using c15))
        clear c15
        obtain rfl := Option.some.inj H
        have p222 : 0 ≤ (x5_1 : Int) := of_decide_eq_true za
        have q222 : x5_1 < (l0.length : Int) := of_decide_eq_true za
        obtain ⟨ad222, e222, hx222_0, hx222_1, hx222_2⟩ := at_T36 HR0.out x5_1 p222 q222
        obtain rfl : ad218 = ad222 := (by injection e222)
        replace hx222_0 := (HB.out.cell (World.block_lt_of_cell? w _ hx222_0)).trans hx222_0
        replace hx222_1 := (HB.out.cell (World.block_lt_of_cell? w _ hx222_1)).trans hx222_1
        replace hx222_2 := (HB.out.cell (World.block_lt_of_cell? w _ hx222_2)).trans hx222_2
        replace p222 := eq_true p222
        replace q222 := eq_true q222
        go_wp2
        go_ret
        exact ⟨ze, zb HB⟩
       ·rw [if_neg c15] at H
        have c15b0 : (((rd_T36 l0 x5_1).f2) != ((Int.tmod (wrap64 ((wrap64 (x1_1 + 1)) + 1)) 3) == 0)) = false := by simpa using c15
        (try (have c15b1 : decide (((rd_T36 l0 x5_1).f2) = ((Int.tmod (wrap64 ((wrap64 (x1_1 + 1)) + 1)) 3) == 0)) = true := by simpa using c15))
        (try (have c15b2 : (((rd_T36 l0 x5_1).f2) == ((Int.tmod (wrap64 ((wrap64 (x1_1 + 1)) + 1)) 3) == 0)) = true := by simpa using c15))
        clear c15
        have H' := Aside0.mk H
        clear H
        have p222 : 0 ≤ (x5_1 : Int) := of_decide_eq_true za
        have q222 : x5_1 < (l0.length : Int) := of_decide_eq_true za
        obtain ⟨ad222, e222, hx222_0, hx222_1, hx222_2⟩ := at_T36 HR0.out x5_1 p222 q222
        obtain rfl : ad218 = ad222 := (by injection e222)
        replace hx222_0 := (HB.out.cell (World.block_lt_of_cell? w _ hx222_0)).trans hx222_0
        replace hx222_1 := (HB.out.cell (World.block_lt_of_cell? w _ hx222_1)).trans hx222_1
        replace hx222_2 := (HB.out.cell (World.block_lt_of_cell? w _ hx222_2)).trans hx222_2
        replace p222 := eq_true p222
        replace q222 := eq_true q222
        go_wp2
        go_roundg k1
        case measure => have := HK1.out; omega
        case rel => exact ⟨(wrap64 ((wrap64 ((wrap64 (x1_1 + 1)) + 1)) + 1)), (wrap64 (x5_1 + 1)), zs, zs, H', ⟨by have := HK1.out; omega⟩, ⟨zb HB⟩⟩
      ·rw [if_neg c14] at H
       have c14b0 : (((rd_T36 l0 x5_1).f1).toList == t221.toList) = false := beq_eq_false_iff_ne.mpr c14
       have c14b1 : (((rd_T36 l0 x5_1).f1).toList != t221.toList) = true := bne_iff_ne.mpr c14
       (first | rw [c14b0] | (simp only [i64_w, i32_w]; rw [c14b0]) | skip)
       obtain rfl := Option.some.inj H
       go_wp2
       go_ret
       exact ⟨ze, zb HB⟩
     ·rw [if_neg c9] at H
      have c9b0 : (((rd_T36 l0 x5_1).f0).toList == t219.toList) = false := beq_eq_false_iff_ne.mpr c9
      have c9b1 : (((rd_T36 l0 x5_1).f0).toList != t219.toList) = true := bne_iff_ne.mpr c9
      (first | rw [c9b0] | (simp only [i64_w, i32_w]; rw [c9b0]) | skip)
      obtain rfl := Option.some.inj H
      go_wp2
      go_ret
      exact ⟨ze, zb HB⟩
    ·rw [if_neg c4] at H
     exact absurd H (by simp)
   ·rw [if_neg c3] at H
    have c3b0 : decide (x5_1 < (l0.length : Int)) = false := decide_eq_false c3
    clear c3
    obtain rfl := Option.some.inj H
    go_wp2
    go_ret
    exact ⟨ze, zb HB⟩

/-! ### laws_heldTable: function 28 -/
-- thin
def laws_heldTable.f (k : Nat) (l0_0 : List (S36)) (a0_1 : Int) (a1 : Int) : Option (Int) := (laws_heldFieldS.f k l0_0 a1).bind fun t224 => (if t224 < 0 then (some (-1)) else (some t224))
theorem laws_heldTable.mono : ∀ a0 a1 a2 k, LeO (laws_heldTable.f k a0 a1 a2) (laws_heldTable.f (k + 1) a0 a1 a2) := by
 intro a0 a1 a2 k
 unfold laws_heldTable.f
 repeat' first
   | (with_reducible exact laws_heldFieldS.mono _ _ _)
   | (with_reducible exact LeO.refl _)
   | (with_reducible exact LeO.none _)
   | (with_reducible refine LeO.ite ?_ ?_)
   | (with_reducible refine LeO.bind ?_ (fun _ => ?_))
   | exact laws_heldFieldS.mono _ _ _
   | exact LeO.none _
   | refine LeO.ite ?_ ?_
   | refine LeO.bind ?_ (fun _ => ?_)
set_option maxHeartbeats 8000000 in
set_option maxRecDepth 100000 in
theorem laws_heldTable.calls (k : Nat) (A0_0 : Option Addr) (c0_0 : Nat) (l0_0 : List (S36)) (a0_1 : Int) (a1 : Int) (r : Int) (w : World) (hr0_0 : Kd.C k36 w A0_0 l0_0.length l0_0) (hc0_0 : l0_0.length ≤ c0_0) (h : laws_heldTable.f k l0_0 a0_1 a1 = some r) :
  Calls Try.prog 28 #[.agg #[.slice A0_0 l0_0.length c0_0, .int .i64 a0_1], .int .i64 a1] w fun e w' => e = .returned (.int .i64 r) ∧ Below w.heap.size w w' := by
 have hu25 := Try.underlying25
 have HR0_0 := Aside0.mk hr0_0
 have HC0_0 := Aside0.mk hc0_0
 clear hr0_0 hc0_0
 have HB := Aside0.mk (Below.refl w.heap.size w)
 have H : ((laws_heldFieldS.f k l0_0 a1).bind fun t224 => (if t224 < 0 then (some (-1)) else (some t224))) = some r := h
 clear h
 replace H := Option.bind_eq_some_iff.mp H
 obtain ⟨t224, A30, H⟩ := H
 replace H : (if t224 < 0 then (some (-1)) else (some t224)) = some r := H
 have A3 := Aside0.mk A30
 clear A30
 have HC4 := Aside0.mk H
 clear H
 go_enter Try.func28, Try.ntmps28
 go_upto_if 10 with (first | ((with_reducible refine gd 2 rfl ?_); refine bx (N := 2) (cs := #[.slice A0_0 l0_0.length c0_0, .int .i64 a0_1]) (t := 25) ?_; intro gb223 hg w5 hbox hb; have BK223 := Aside0.mk (hbox); have GW223 := Aside0.mk ((by rw [hg]; exact (below_size (zb HB)) : w.heap.size ≤ gb223)); have GE223 := Aside0.mk ((by rw [hg]; exact (below_size (zb HB)) : w.heap.size ≤ gb223)); replace HB := Aside0.mk (below_step (zb HB) hb); clear hb hbox hg; have hcz6_0 : w5.cell? ⟨gb223, 0, none⟩ = some (.slice A0_0 l0_0.length c0_0) := (blk_cell BK223.out 0).trans rfl; have hcz6_1 : w5.cell? ⟨gb223, 1, none⟩ = some (.int .i64 a0_1) := (blk_cell BK223.out 1).trans rfl; have hfz6_0 := blk_frozen BK223.out 0; have hfz6_1 := blk_frozen BK223.out 1) | ((with_reducible refine gq 57 rfl ?_); refine gl (some 8) Try.func57 #[.slice A0_0 l0_0.length c0_0, .int .i64 a1] ?_; (with_reducible refine (laws_heldFieldS.calls k _ _ l0_0 a1 t224 _ ?side1 ?side2 A3.out).mono ?_); (case side1 => exact zc (Kd.C_below HR0_0.out HB.out)); (case side2 => exact HC0_0.out); rintro e w7 ⟨rfl, hb⟩; refine ⟨_, rfl, ?_⟩; replace BK223 := Aside0.mk (blk_below (g := gb223) (o := .cells #[.slice A0_0 l0_0.length c0_0, .int .i64 a0_1] 25 (0, 0)) (zk BK223) hb); replace HB := Aside0.mk (below_step (zb HB) hb); (try clear hb)))
 (try simp only [Act.put, s1, s2, s3])
 have H := HC4.out
 clear HC4
 by_cases c8 : t224 < 0
 ·rw [if_pos c8] at H
  have c8b0 : decide (t224 < 0) = true := decide_eq_true c8
  clear c8
  (first | rw [c8b0] | (simp only [i64_w, i32_w]; rw [c8b0]) | skip)
  obtain rfl := Option.some.inj H
  go_wp2
  go_ret
  exact ⟨ze, zb HB⟩
 ·rw [if_neg c8] at H
  have c8b0 : decide (t224 < 0) = false := decide_eq_false c8
  clear c8
  (first | rw [c8b0] | (simp only [i64_w, i32_w]; rw [c8b0]) | skip)
  obtain rfl := Option.some.inj H
  go_wp2
  go_ret
  exact ⟨ze, zb HB⟩

/-! ### laws_FnExactTableLimit: function 5 -/
-- thin
def laws_FnExactTableLimit.j0 : Nat → Int → Bool → List (S53) → Int → List (S36) → Int → List (S36) → Int → Option (Bool)
 | 0, _, _, _, _, _, _, _, _ => none
 | k + 1, x1, x46, x226000, x226001, x236000, x236001, x246000, x246001 => if x46 = true then (some false) else ((laws_markTable.f k x246000 x246001 1).bind fun bt255 => ((laws_heldTable.f k bt255.2 x246001 1).bind fun t257 => (if t257 < 0 then (some false) else (if t257 = bt255.1 then ((laws_toTable.f k x226000 x226001).bind fun bt258 => ((impl_TableLimit.f k bt258.1 bt258.2 x1).bind fun bt262 => ((laws_eqTable.f k bt262.1 bt262.2 x236000 x236001).bind fun t267 => (if t267 = true then ((laws_heldTable.f k bt255.2 x246001 1).bind fun t268 => (if t268 < 0 then (some false) else (if t268 = bt255.1 then (some true) else (some false)))) else (some false))))) else (some false)))))
def laws_FnExactTableLimit.f (k : Nat) (l0_0 : List (S53)) (a0_1 : Int) (a1 : Int) : Option (Bool) := (laws_szTable.f k l0_0 a0_1 1048576).bind fun t226 => (if t226 < 0 then (some true) else ((laws_toTable.f k l0_0 a0_1).bind fun bt227 => ((spec_TableLimit.f k bt227.1 bt227.2 a1).bind fun bt231 => ((laws_toTable.f k l0_0 a0_1).bind fun bt236 => ((impl_TableLimit.f k bt236.1 bt236.2 a1).bind fun bt241 => ((laws_eqTable.f k bt241.1 bt241.2 bt231.1 bt231.2).bind fun t246 => (if t246 = true then ((laws_toTable.f k l0_0 a0_1).bind fun bt247 => ((laws_eqTable.f k bt236.1 bt236.2 bt247.1 bt247.2).bind fun t251 => (if t251 = true then ((laws_markTable.f k bt236.1 bt236.2 1).bind fun bt252 => (if bt252.1 < 0 then (laws_FnExactTableLimit.j0 k a1 true l0_0 a0_1 bt231.1 bt231.2 bt241.1 bt241.2) else ((laws_eqTable.f k bt241.1 bt241.2 bt231.1 bt231.2).bind fun t254 => (laws_FnExactTableLimit.j0 k a1 (!t254) l0_0 a0_1 bt231.1 bt231.2 bt241.1 bt241.2)))) else (some false)))) else (some false))))))))
theorem laws_FnExactTableLimit.mono_l : ∀ k, (∀ y0 y1 y2 y3 y4 y5 y6 y7, LeO (laws_FnExactTableLimit.j0 k y0 y1 y2 y3 y4 y5 y6 y7) (laws_FnExactTableLimit.j0 (k + 1) y0 y1 y2 y3 y4 y5 y6 y7))
 | 0 => fun _ _ _ _ _ _ _ _ r h => by simp [laws_FnExactTableLimit.j0] at h
 | k + 1 => by
  have ih0 := laws_FnExactTableLimit.mono_l k
  ·intro y0 y1 y2 y3 y4 y5 y6 y7
   unfold laws_FnExactTableLimit.j0
   repeat' first
   | (with_reducible exact ih0 _ _ _ _ _ _ _ _)
   | (with_reducible exact impl_TableLimit.mono _ _ _ _)
   | (with_reducible exact laws_eqTable.mono _ _ _ _ _)
   | (with_reducible exact laws_heldTable.mono _ _ _ _)
   | (with_reducible exact laws_markTable.mono _ _ _ _)
   | (with_reducible exact laws_szTable.mono _ _ _ _)
   | (with_reducible exact laws_toTable.mono _ _ _)
   | (with_reducible exact spec_TableLimit.mono _ _ _ _)
   | (with_reducible exact LeO.refl _)
   | (with_reducible exact LeO.none _)
   | (with_reducible refine LeO.ite ?_ ?_)
   | (with_reducible refine LeO.bind ?_ (fun _ => ?_))
   | exact ih0 _ _ _ _ _ _ _ _
   | exact impl_TableLimit.mono _ _ _ _
   | exact laws_eqTable.mono _ _ _ _ _
   | exact laws_heldTable.mono _ _ _ _
   | exact laws_markTable.mono _ _ _ _
   | exact laws_szTable.mono _ _ _ _
   | exact laws_toTable.mono _ _ _
   | exact spec_TableLimit.mono _ _ _ _
   | exact LeO.none _
   | refine LeO.ite ?_ ?_
   | refine LeO.bind ?_ (fun _ => ?_)
theorem laws_FnExactTableLimit.mono : ∀ a0 a1 a2 k, LeO (laws_FnExactTableLimit.f k a0 a1 a2) (laws_FnExactTableLimit.f (k + 1) a0 a1 a2) := by
 intro a0 a1 a2 k
 have ih0 := laws_FnExactTableLimit.mono_l k
 unfold laws_FnExactTableLimit.f
 repeat' first
   | (with_reducible exact ih0 _ _ _ _ _ _ _ _)
   | (with_reducible exact impl_TableLimit.mono _ _ _ _)
   | (with_reducible exact laws_eqTable.mono _ _ _ _ _)
   | (with_reducible exact laws_heldTable.mono _ _ _ _)
   | (with_reducible exact laws_markTable.mono _ _ _ _)
   | (with_reducible exact laws_szTable.mono _ _ _ _)
   | (with_reducible exact laws_toTable.mono _ _ _)
   | (with_reducible exact spec_TableLimit.mono _ _ _ _)
   | (with_reducible exact LeO.refl _)
   | (with_reducible exact LeO.none _)
   | (with_reducible refine LeO.ite ?_ ?_)
   | (with_reducible refine LeO.bind ?_ (fun _ => ?_))
   | exact ih0 _ _ _ _ _ _ _ _
   | exact impl_TableLimit.mono _ _ _ _
   | exact laws_eqTable.mono _ _ _ _ _
   | exact laws_heldTable.mono _ _ _ _
   | exact laws_markTable.mono _ _ _ _
   | exact laws_szTable.mono _ _ _ _
   | exact laws_toTable.mono _ _ _
   | exact spec_TableLimit.mono _ _ _ _
   | exact LeO.none _
   | refine LeO.ite ?_ ?_
   | refine LeO.bind ?_ (fun _ => ?_)
set_option maxHeartbeats 8000000 in
set_option maxRecDepth 100000 in
theorem laws_FnExactTableLimit.calls (k : Nat) (A0_0 : Option Addr) (c0_0 : Nat) (l0_0 : List (S53)) (a0_1 : Int) (a1 : Int) (r : Bool) (w : World) (hr0_0 : Kd.C k53 w A0_0 l0_0.length l0_0) (hc0_0 : l0_0.length ≤ c0_0) (h : laws_FnExactTableLimit.f k l0_0 a0_1 a1 = some r) :
  Calls Try.prog 5 #[.agg #[.slice A0_0 l0_0.length c0_0, .int .i64 a0_1], .int .i64 a1] w fun e w' => e = .returned (.bool r) ∧ Below w.heap.size w w' := by
 have hu40 := Try.underlying40
 have hu25 := Try.underlying25
 have HR0_0 := Aside0.mk hr0_0
 have HC0_0 := Aside0.mk hc0_0
 clear hr0_0 hc0_0
 have HB := Aside0.mk (Below.refl w.heap.size w)
 have H : ((laws_szTable.f k l0_0 a0_1 1048576).bind fun t226 => (if t226 < 0 then (some true) else ((laws_toTable.f k l0_0 a0_1).bind fun bt227 => ((spec_TableLimit.f k bt227.1 bt227.2 a1).bind fun bt231 => ((laws_toTable.f k l0_0 a0_1).bind fun bt236 => ((impl_TableLimit.f k bt236.1 bt236.2 a1).bind fun bt241 => ((laws_eqTable.f k bt241.1 bt241.2 bt231.1 bt231.2).bind fun t246 => (if t246 = true then ((laws_toTable.f k l0_0 a0_1).bind fun bt247 => ((laws_eqTable.f k bt236.1 bt236.2 bt247.1 bt247.2).bind fun t251 => (if t251 = true then ((laws_markTable.f k bt236.1 bt236.2 1).bind fun bt252 => (if bt252.1 < 0 then (laws_FnExactTableLimit.j0 k a1 true l0_0 a0_1 bt231.1 bt231.2 bt241.1 bt241.2) else ((laws_eqTable.f k bt241.1 bt241.2 bt231.1 bt231.2).bind fun t254 => (laws_FnExactTableLimit.j0 k a1 (!t254) l0_0 a0_1 bt231.1 bt231.2 bt241.1 bt241.2)))) else (some false)))) else (some false))))))))) = some r := h
 clear h
 replace H := Option.bind_eq_some_iff.mp H
 obtain ⟨t226, A30, H⟩ := H
 replace H : (if t226 < 0 then (some true) else ((laws_toTable.f k l0_0 a0_1).bind fun bt227 => ((spec_TableLimit.f k bt227.1 bt227.2 a1).bind fun bt231 => ((laws_toTable.f k l0_0 a0_1).bind fun bt236 => ((impl_TableLimit.f k bt236.1 bt236.2 a1).bind fun bt241 => ((laws_eqTable.f k bt241.1 bt241.2 bt231.1 bt231.2).bind fun t246 => (if t246 = true then ((laws_toTable.f k l0_0 a0_1).bind fun bt247 => ((laws_eqTable.f k bt236.1 bt236.2 bt247.1 bt247.2).bind fun t251 => (if t251 = true then ((laws_markTable.f k bt236.1 bt236.2 1).bind fun bt252 => (if bt252.1 < 0 then (laws_FnExactTableLimit.j0 k a1 true l0_0 a0_1 bt231.1 bt231.2 bt241.1 bt241.2) else ((laws_eqTable.f k bt241.1 bt241.2 bt231.1 bt231.2).bind fun t254 => (laws_FnExactTableLimit.j0 k a1 (!t254) l0_0 a0_1 bt231.1 bt231.2 bt241.1 bt241.2)))) else (some false)))) else (some false)))))))) = some r := H
 have A3 := Aside0.mk A30
 clear A30
 have HC4 := Aside0.mk H
 clear H
 go_enter Try.func5, Try.ntmps5
 go_upto_if 17 with (first | ((with_reducible refine gd 2 rfl ?_); refine bx (N := 2) (cs := #[.slice A0_0 l0_0.length c0_0, .int .i64 a0_1]) (t := 40) ?_; intro gb225 hg w5 hbox hb; have BK225 := Aside0.mk (hbox); have GW225 := Aside0.mk ((by rw [hg]; exact (below_size (zb HB)) : w.heap.size ≤ gb225)); have GE225 := Aside0.mk ((by rw [hg]; exact (below_size (zb HB)) : w.heap.size ≤ gb225)); replace HB := Aside0.mk (below_step (zb HB) hb); clear hb hbox hg; have hcz6_0 : w5.cell? ⟨gb225, 0, none⟩ = some (.slice A0_0 l0_0.length c0_0) := (blk_cell BK225.out 0).trans rfl; have hcz6_1 : w5.cell? ⟨gb225, 1, none⟩ = some (.int .i64 a0_1) := (blk_cell BK225.out 1).trans rfl; have hfz6_0 := blk_frozen BK225.out 0; have hfz6_1 := blk_frozen BK225.out 1) | ((with_reducible refine gq 24 rfl ?_); refine gl (some 15) Try.func24 #[.agg #[.slice A0_0 l0_0.length c0_0, .int .i64 a0_1], .int .i64 1048576] ?_; (with_reducible refine (laws_szTable.calls k _ _ l0_0 a0_1 1048576 t226 _ ?side1 ?side2 A3.out).mono ?_); (case side1 => exact zc (Kd.C_below HR0_0.out HB.out)); (case side2 => exact HC0_0.out); rintro e w7 ⟨rfl, hb⟩; refine ⟨_, rfl, ?_⟩; replace BK225 := Aside0.mk (blk_below (g := gb225) (o := .cells #[.slice A0_0 l0_0.length c0_0, .int .i64 a0_1] 40 (0, 0)) (zk BK225) hb); replace HB := Aside0.mk (below_step (zb HB) hb); (try clear hb)))
 (try simp only [Act.put, s1, s2, s3])
 have H := HC4.out
 clear HC4
 by_cases c8 : t226 < 0
 ·rw [if_pos c8] at H
  have c8b0 : decide (t226 < 0) = true := decide_eq_true c8
  clear c8
  (first | rw [c8b0] | (simp only [i64_w, i32_w]; rw [c8b0]) | skip)
  obtain rfl := Option.some.inj H
  go_wp2
  go_ret
  exact ⟨ze, zb HB⟩
 ·rw [if_neg c8] at H
  have c8b0 : decide (t226 < 0) = false := decide_eq_false c8
  clear c8
  (first | rw [c8b0] | (simp only [i64_w, i32_w]; rw [c8b0]) | skip)
  replace H := Option.bind_eq_some_iff.mp H
  obtain ⟨⟨t227, t230⟩, A90, H⟩ := H
  replace H : ((spec_TableLimit.f k t227 t230 a1).bind fun bt231 => ((laws_toTable.f k l0_0 a0_1).bind fun bt236 => ((impl_TableLimit.f k bt236.1 bt236.2 a1).bind fun bt241 => ((laws_eqTable.f k bt241.1 bt241.2 bt231.1 bt231.2).bind fun t246 => (if t246 = true then ((laws_toTable.f k l0_0 a0_1).bind fun bt247 => ((laws_eqTable.f k bt236.1 bt236.2 bt247.1 bt247.2).bind fun t251 => (if t251 = true then ((laws_markTable.f k bt236.1 bt236.2 1).bind fun bt252 => (if bt252.1 < 0 then (laws_FnExactTableLimit.j0 k a1 true l0_0 a0_1 bt231.1 bt231.2 bt241.1 bt241.2) else ((laws_eqTable.f k bt241.1 bt241.2 bt231.1 bt231.2).bind fun t254 => (laws_FnExactTableLimit.j0 k a1 (!t254) l0_0 a0_1 bt231.1 bt231.2 bt241.1 bt241.2)))) else (some false)))) else (some false)))))) = some r := H
  have A9 := Aside0.mk A90
  clear A90
  replace H := Option.bind_eq_some_iff.mp H
  obtain ⟨⟨t231, t234⟩, A100, H⟩ := H
  replace H : ((laws_toTable.f k l0_0 a0_1).bind fun bt236 => ((impl_TableLimit.f k bt236.1 bt236.2 a1).bind fun bt241 => ((laws_eqTable.f k bt241.1 bt241.2 t231 t234).bind fun t246 => (if t246 = true then ((laws_toTable.f k l0_0 a0_1).bind fun bt247 => ((laws_eqTable.f k bt236.1 bt236.2 bt247.1 bt247.2).bind fun t251 => (if t251 = true then ((laws_markTable.f k bt236.1 bt236.2 1).bind fun bt252 => (if bt252.1 < 0 then (laws_FnExactTableLimit.j0 k a1 true l0_0 a0_1 t231 t234 bt241.1 bt241.2) else ((laws_eqTable.f k bt241.1 bt241.2 t231 t234).bind fun t254 => (laws_FnExactTableLimit.j0 k a1 (!t254) l0_0 a0_1 t231 t234 bt241.1 bt241.2)))) else (some false)))) else (some false))))) = some r := H
  have A10 := Aside0.mk A100
  clear A100
  replace H := Option.bind_eq_some_iff.mp H
  obtain ⟨⟨t236, t239⟩, A110, H⟩ := H
  replace H : ((impl_TableLimit.f k t236 t239 a1).bind fun bt241 => ((laws_eqTable.f k bt241.1 bt241.2 t231 t234).bind fun t246 => (if t246 = true then ((laws_toTable.f k l0_0 a0_1).bind fun bt247 => ((laws_eqTable.f k t236 t239 bt247.1 bt247.2).bind fun t251 => (if t251 = true then ((laws_markTable.f k t236 t239 1).bind fun bt252 => (if bt252.1 < 0 then (laws_FnExactTableLimit.j0 k a1 true l0_0 a0_1 t231 t234 bt241.1 bt241.2) else ((laws_eqTable.f k bt241.1 bt241.2 t231 t234).bind fun t254 => (laws_FnExactTableLimit.j0 k a1 (!t254) l0_0 a0_1 t231 t234 bt241.1 bt241.2)))) else (some false)))) else (some false)))) = some r := H
  have A11 := Aside0.mk A110
  clear A110
  replace H := Option.bind_eq_some_iff.mp H
  obtain ⟨⟨t241, t244⟩, A120, H⟩ := H
  replace H : ((laws_eqTable.f k t241 t244 t231 t234).bind fun t246 => (if t246 = true then ((laws_toTable.f k l0_0 a0_1).bind fun bt247 => ((laws_eqTable.f k t236 t239 bt247.1 bt247.2).bind fun t251 => (if t251 = true then ((laws_markTable.f k t236 t239 1).bind fun bt252 => (if bt252.1 < 0 then (laws_FnExactTableLimit.j0 k a1 true l0_0 a0_1 t231 t234 t241 t244) else ((laws_eqTable.f k t241 t244 t231 t234).bind fun t254 => (laws_FnExactTableLimit.j0 k a1 (!t254) l0_0 a0_1 t231 t234 t241 t244)))) else (some false)))) else (some false))) = some r := H
  have A12 := Aside0.mk A120
  clear A120
  replace H := Option.bind_eq_some_iff.mp H
  obtain ⟨t246, A130, H⟩ := H
  replace H : (if t246 = true then ((laws_toTable.f k l0_0 a0_1).bind fun bt247 => ((laws_eqTable.f k t236 t239 bt247.1 bt247.2).bind fun t251 => (if t251 = true then ((laws_markTable.f k t236 t239 1).bind fun bt252 => (if bt252.1 < 0 then (laws_FnExactTableLimit.j0 k a1 true l0_0 a0_1 t231 t234 t241 t244) else ((laws_eqTable.f k t241 t244 t231 t234).bind fun t254 => (laws_FnExactTableLimit.j0 k a1 (!t254) l0_0 a0_1 t231 t234 t241 t244)))) else (some false)))) else (some false)) = some r := H
  have A13 := Aside0.mk A130
  clear A130
  have HC14 := Aside0.mk H
  clear H
  have hcz15_0 : w7.cell? ⟨gb225, 0, none⟩ = some (.slice A0_0 l0_0.length c0_0) := (blk_cell BK225.out 0).trans rfl
  have hcz15_1 : w7.cell? ⟨gb225, 1, none⟩ = some (.int .i64 a0_1) := (blk_cell BK225.out 1).trans rfl
  have hfz15_0 := blk_frozen BK225.out 0
  have hfz15_1 := blk_frozen BK225.out 1
  go_upto_if 30 with (first | ((with_reducible refine gq 25 rfl ?_); refine gl (some 19) Try.func25 #[.agg #[.slice A0_0 l0_0.length c0_0, .int .i64 a0_1]] ?_; (with_reducible refine (laws_toTable.calls k _ _ l0_0 a0_1 t227 t230 _ ?side1 ?side2 A9.out).mono ?_); (case side1 => exact zc (Kd.C_below HR0_0.out HB.out)); (case side2 => exact HC0_0.out); rintro e w16 ⟨v228, rfl, ho0, hb⟩; refine ⟨_, rfl, ?_⟩; have HO229 := Aside0.mk (Kd.R_lower ho0 (below_size (zb HB))); replace BK225 := Aside0.mk (blk_below (g := gb225) (o := .cells #[.slice A0_0 l0_0.length c0_0, .int .i64 a0_1] 40 (0, 0)) (zk BK225) hb); replace HB := Aside0.mk (below_step (zb HB) hb); (try clear hb); (try clear ho0); obtain ⟨Ao17, co17, eo17⟩ := Kd.R_slice HO229.out; subst eo17) | ((with_reducible refine gq 18 rfl ?_); refine gl (some 21) Try.func18 #[.agg #[.slice Ao17 t227.length co17, .int .i64 t230], .int .i64 a1] ?_; (with_reducible refine (spec_TableLimit.calls k _ _ t227 t230 a1 t231 t234 _ ?side1 ?side2 A10.out).mono ?_); (case side1 => exact zc (Kd.R_reads' HO229.out).2.2); (case side2 => exact (Kd.R_reads' HO229.out).2.1); rintro e w18 ⟨v232, rfl, ho0, hb⟩; refine ⟨_, rfl, ?_⟩; have HO233 := Aside0.mk (Kd.R_lower (Kd.R_new' ho0 (Kd.R_lt (zr HO229))) (below_size (zb HB))); replace HO229 := Aside0.mk (Kd.R_elder' (zr HO229) (Kd.R_base ho0) hb); replace BK225 := Aside0.mk (blk_below (g := gb225) (o := .cells #[.slice A0_0 l0_0.length c0_0, .int .i64 a0_1] 40 (0, 0)) (zk BK225) hb); replace HB := Aside0.mk (below_step (zb HB) hb); (try clear hb); (try clear ho0)) | ((with_reducible refine gd 6 rfl ?_); refine bx (N := 6) (cs := #[.slice none 0 0, .int .i64 0]) (t := 25) ?_; intro gb235 hg w19 hbox hb; replace HO229 := Aside0.mk (Kd.R_below (zr HO229) hb); replace HO233 := Aside0.mk (Kd.R_below (zr HO233) hb); have BK235 := Aside0.mk (hbox); have GW235 := Aside0.mk ((by rw [hg]; exact (below_size (zb HB)) : w.heap.size ≤ gb235)); have GE235 := Aside0.mk ((by rw [hg]; exact (below_size (zb HB)) : w.heap.size ≤ gb235)); replace HB := Aside0.mk (below_step (zb HB) hb); have NB225_235 := Aside0.mk ((by rw [hg]; exact Nat.ne_of_lt (blk_lt (g := gb225) (o := .cells #[.slice A0_0 l0_0.length c0_0, .int .i64 a0_1] 40 (0, 0)) (zk BK225)) : gb225 ≠ gb235)); have NB235_225 := Aside0.mk ((by rw [hg]; exact Nat.ne_of_gt (blk_lt (g := gb225) (o := .cells #[.slice A0_0 l0_0.length c0_0, .int .i64 a0_1] 40 (0, 0)) (zk BK225)) : gb235 ≠ gb225)); replace BK225 := Aside0.mk (blk_below (g := gb225) (o := .cells #[.slice A0_0 l0_0.length c0_0, .int .i64 a0_1] 40 (0, 0)) (zk BK225) hb); clear hb hbox hg; obtain ⟨Ao20, co20, eo20⟩ := Kd.R_slice HO233.out; subst eo20; have hnb21 := NB235_225.out; have hnc21 := NB225_235.out; have hcz22_0 : w19.cell? ⟨gb235, 0, none⟩ = some (.slice none 0 0) := (blk_cell BK235.out 0).trans rfl; have hcz22_1 : w19.cell? ⟨gb235, 1, none⟩ = some (.int .i64 0) := (blk_cell BK235.out 1).trans rfl; have hfz22_0 := blk_frozen BK235.out 0; have hfz22_1 := blk_frozen BK235.out 1; have hcz23_0 : w19.cell? ⟨gb225, 0, none⟩ = some (.slice A0_0 l0_0.length c0_0) := (blk_cell BK225.out 0).trans rfl; have hcz23_1 : w19.cell? ⟨gb225, 1, none⟩ = some (.int .i64 a0_1) := (blk_cell BK225.out 1).trans rfl; have hfz23_0 := blk_frozen BK225.out 0; have hfz23_1 := blk_frozen BK225.out 1) | ((with_reducible refine gq 25 rfl ?_); refine gl (some 23) Try.func25 #[.agg #[.slice A0_0 l0_0.length c0_0, .int .i64 a0_1]] ?_; (with_reducible refine (laws_toTable.calls k _ _ l0_0 a0_1 t236 t239 _ ?side1 ?side2 A11.out).mono ?_); (case side1 => exact Kd.C_below HR0_0.out (zb HB)); (case side2 => exact HC0_0.out); rintro e w24 ⟨v237, rfl, ho0, hb⟩; refine ⟨_, rfl, ?_⟩; have HO238 := Aside0.mk (Kd.R_lower (Kd.R_new' (Kd.R_new' ho0 (Kd.R_lt (by (with_reducible repeat (first | apply Kd.R_alloc | apply Kd.R_drewN | apply Kd.R_drew)); exact (Kd.R_mono (Kd.R_far (p := ⟨gb235, 1, none⟩) (Kd.R_far (p := ⟨gb235, 0, none⟩) (Kd.R_types HO229.out BK235.out (by decide)) (fun _ hk => hk.2) (.slice Ao20 t231.length co20)) (fun _ hk => hk.2) (.int .i64 t234)) (fun _ h_ => h_.1))))) (Kd.R_lt (by (with_reducible repeat (first | apply Kd.R_alloc | apply Kd.R_drewN | apply Kd.R_drew)); exact (Kd.R_mono (Kd.R_far (p := ⟨gb235, 1, none⟩) (Kd.R_far (p := ⟨gb235, 0, none⟩) (Kd.R_types HO233.out BK235.out (by decide)) (fun _ hk => hk.2) (.slice Ao20 t231.length co20)) (fun _ hk => hk.2) (.int .i64 t234)) (fun _ h_ => h_.1))))) (below_size (zb HB))); replace HO229 := Aside0.mk (Kd.R_elder' (by (with_reducible repeat (first | apply Kd.R_alloc | apply Kd.R_drewN | apply Kd.R_drew)); exact (Kd.R_mono (Kd.R_far (p := ⟨gb235, 1, none⟩) (Kd.R_far (p := ⟨gb235, 0, none⟩) (Kd.R_types HO229.out BK235.out (by decide)) (fun _ hk => hk.2) (.slice Ao20 t231.length co20)) (fun _ hk => hk.2) (.int .i64 t234)) (fun _ h_ => h_.1))) (Kd.R_base ho0) hb); replace HO233 := Aside0.mk (Kd.R_elder' (by (with_reducible repeat (first | apply Kd.R_alloc | apply Kd.R_drewN | apply Kd.R_drew)); exact (Kd.R_mono (Kd.R_far (p := ⟨gb235, 1, none⟩) (Kd.R_far (p := ⟨gb235, 0, none⟩) (Kd.R_types HO233.out BK235.out (by decide)) (fun _ hk => hk.2) (.slice Ao20 t231.length co20)) (fun _ hk => hk.2) (.int .i64 t234)) (fun _ h_ => h_.1))) (Kd.R_base ho0) hb); replace BK225 := Aside0.mk (blk_below (g := gb225) (o := .cells #[.slice A0_0 l0_0.length c0_0, .int .i64 a0_1] 40 (0, 0)) (by (with_reducible repeat (first | refine blk_drewN ?_ _ | refine blk_drew ?_ | refine blk_alloc ?_ _)); refine blk_far ?_ NB225_235.out _; (with_reducible repeat (first | refine blk_drewN ?_ _ | refine blk_drew ?_ | refine blk_alloc ?_ _)); refine blk_far ?_ NB225_235.out _; exact zk BK225) hb); replace BK235 := Aside0.mk (blk_below (g := gb235) (o := .cells #[.slice Ao20 t231.length co20, .int .i64 t234] 25 (0, 0)) (by (with_reducible repeat (first | refine blk_drewN ?_ _ | refine blk_drew ?_ | refine blk_alloc ?_ _)); refine blk_put (cs := #[.slice Ao20 t231.length co20, .int .i64 0]) ?_ 1 _ rfl; (with_reducible repeat (first | refine blk_drewN ?_ _ | refine blk_drew ?_ | refine blk_alloc ?_ _)); refine blk_put (cs := #[.slice none 0 0, .int .i64 0]) ?_ 0 _ rfl; exact zk BK235) hb); replace HB := Aside0.mk (below_step (zb HB) hb); (try clear hb); (try clear ho0)) | ((with_reducible refine gd 7 rfl ?_); refine bx (N := 7) (cs := #[.slice none 0 0, .int .i64 0]) (t := 25) ?_; intro gb240 hg w25 hbox hb; replace HO229 := Aside0.mk (Kd.R_below (zr HO229) hb); replace HO233 := Aside0.mk (Kd.R_below (zr HO233) hb); replace HO238 := Aside0.mk (Kd.R_below (zr HO238) hb); have BK240 := Aside0.mk (hbox); have GW240 := Aside0.mk ((by rw [hg]; exact (below_size (zb HB)) : w.heap.size ≤ gb240)); have GE240 := Aside0.mk ((by rw [hg]; exact (below_size (zb HB)) : w.heap.size ≤ gb240)); replace HB := Aside0.mk (below_step (zb HB) hb); have NB225_240 := Aside0.mk ((by rw [hg]; exact Nat.ne_of_lt (blk_lt (g := gb225) (o := .cells #[.slice A0_0 l0_0.length c0_0, .int .i64 a0_1] 40 (0, 0)) (zk BK225)) : gb225 ≠ gb240)); have NB240_225 := Aside0.mk ((by rw [hg]; exact Nat.ne_of_gt (blk_lt (g := gb225) (o := .cells #[.slice A0_0 l0_0.length c0_0, .int .i64 a0_1] 40 (0, 0)) (zk BK225)) : gb240 ≠ gb225)); replace BK225 := Aside0.mk (blk_below (g := gb225) (o := .cells #[.slice A0_0 l0_0.length c0_0, .int .i64 a0_1] 40 (0, 0)) (zk BK225) hb); have NB235_240 := Aside0.mk ((by rw [hg]; exact Nat.ne_of_lt (blk_lt (g := gb235) (o := .cells #[.slice Ao20 t231.length co20, .int .i64 t234] 25 (0, 0)) (zk BK235)) : gb235 ≠ gb240)); have NB240_235 := Aside0.mk ((by rw [hg]; exact Nat.ne_of_gt (blk_lt (g := gb235) (o := .cells #[.slice Ao20 t231.length co20, .int .i64 t234] 25 (0, 0)) (zk BK235)) : gb240 ≠ gb235)); replace BK235 := Aside0.mk (blk_below (g := gb235) (o := .cells #[.slice Ao20 t231.length co20, .int .i64 t234] 25 (0, 0)) (zk BK235) hb); clear hb hbox hg; obtain ⟨Ao26, co26, eo26⟩ := Kd.R_slice HO238.out; subst eo26; have hnb27 := NB240_225.out; have hnc27 := NB225_240.out; have hnb28 := NB240_235.out; have hnc28 := NB235_240.out; have hcz29_0 : w25.cell? ⟨gb240, 0, none⟩ = some (.slice none 0 0) := (blk_cell BK240.out 0).trans rfl; have hcz29_1 : w25.cell? ⟨gb240, 1, none⟩ = some (.int .i64 0) := (blk_cell BK240.out 1).trans rfl; have hfz29_0 := blk_frozen BK240.out 0; have hfz29_1 := blk_frozen BK240.out 1) | ((with_reducible refine gq 16 rfl ?_); refine gl (some 26) Try.func16 #[.agg #[.slice Ao26 t236.length co26, .int .i64 t239], .int .i64 a1] ?_; (with_reducible refine (impl_TableLimit.calls k _ _ t236 t239 a1 t241 t244 _ ?side1 ?side2 A12.out).mono ?_); (case side1 => refine (Kd.R_reads' (e := 36) (base := w.heap.size) (ok := fun k_ => ((True ∧ some k_ ≠ (.slice Ao17 t227.length co17 : Value).ownBlock) ∧ some k_ ≠ (.slice Ao20 t231.length co20 : Value).ownBlock)) (n := t236.length) (c := co26) ?_).2.2; exact (by (with_reducible repeat (first | apply Kd.R_alloc | apply Kd.R_drewN | apply Kd.R_drew)); exact (Kd.R_mono (Kd.R_far (p := ⟨gb240, 1, none⟩) (Kd.R_far (p := ⟨gb240, 0, none⟩) (Kd.R_types HO238.out BK240.out (by decide)) (fun _ hk => hk.2) (.slice Ao26 t236.length co26)) (fun _ hk => hk.2) (.int .i64 t239)) (fun _ h_ => h_.1)))); (case side2 => exact (Kd.R_reads' HO238.out).2.1); rintro e w30 ⟨v242, rfl, ho0, hb⟩; refine ⟨_, rfl, ?_⟩; have HO243 := Aside0.mk (Kd.R_lower (Kd.R_new' (Kd.R_new' (Kd.R_new' ho0 (Kd.R_lt (by (with_reducible repeat (first | apply Kd.R_alloc | apply Kd.R_drewN | apply Kd.R_drew)); exact (Kd.R_mono (Kd.R_far (p := ⟨gb240, 1, none⟩) (Kd.R_far (p := ⟨gb240, 0, none⟩) (Kd.R_types HO229.out BK240.out (by decide)) (fun _ hk => hk.2) (.slice Ao26 t236.length co26)) (fun _ hk => hk.2) (.int .i64 t239)) (fun _ h_ => h_.1))))) (Kd.R_lt (by (with_reducible repeat (first | apply Kd.R_alloc | apply Kd.R_drewN | apply Kd.R_drew)); exact (Kd.R_mono (Kd.R_far (p := ⟨gb240, 1, none⟩) (Kd.R_far (p := ⟨gb240, 0, none⟩) (Kd.R_types HO233.out BK240.out (by decide)) (fun _ hk => hk.2) (.slice Ao26 t236.length co26)) (fun _ hk => hk.2) (.int .i64 t239)) (fun _ h_ => h_.1))))) (Kd.R_lt (by (with_reducible repeat (first | apply Kd.R_alloc | apply Kd.R_drewN | apply Kd.R_drew)); exact (Kd.R_mono (Kd.R_far (p := ⟨gb240, 1, none⟩) (Kd.R_far (p := ⟨gb240, 0, none⟩) (Kd.R_types HO238.out BK240.out (by decide)) (fun _ hk => hk.2) (.slice Ao26 t236.length co26)) (fun _ hk => hk.2) (.int .i64 t239)) (fun _ h_ => h_.1))))) (below_size (zb HB))); replace HO229 := Aside0.mk (Kd.R_elder' (by (with_reducible repeat (first | apply Kd.R_alloc | apply Kd.R_drewN | apply Kd.R_drew)); exact (Kd.R_mono (Kd.R_far (p := ⟨gb240, 1, none⟩) (Kd.R_far (p := ⟨gb240, 0, none⟩) (Kd.R_types HO229.out BK240.out (by decide)) (fun _ hk => hk.2) (.slice Ao26 t236.length co26)) (fun _ hk => hk.2) (.int .i64 t239)) (fun _ h_ => h_.1))) (Kd.R_base ho0) hb); replace HO233 := Aside0.mk (Kd.R_elder' (by (with_reducible repeat (first | apply Kd.R_alloc | apply Kd.R_drewN | apply Kd.R_drew)); exact (Kd.R_mono (Kd.R_far (p := ⟨gb240, 1, none⟩) (Kd.R_far (p := ⟨gb240, 0, none⟩) (Kd.R_types HO233.out BK240.out (by decide)) (fun _ hk => hk.2) (.slice Ao26 t236.length co26)) (fun _ hk => hk.2) (.int .i64 t239)) (fun _ h_ => h_.1))) (Kd.R_base ho0) hb); replace HO238 := Aside0.mk (Kd.R_elder' (by (with_reducible repeat (first | apply Kd.R_alloc | apply Kd.R_drewN | apply Kd.R_drew)); exact (Kd.R_mono (Kd.R_far (p := ⟨gb240, 1, none⟩) (Kd.R_far (p := ⟨gb240, 0, none⟩) (Kd.R_types HO238.out BK240.out (by decide)) (fun _ hk => hk.2) (.slice Ao26 t236.length co26)) (fun _ hk => hk.2) (.int .i64 t239)) (fun _ h_ => h_.1))) (Kd.R_base ho0) hb); replace BK225 := Aside0.mk (blk_below (g := gb225) (o := .cells #[.slice A0_0 l0_0.length c0_0, .int .i64 a0_1] 40 (0, 0)) (by (with_reducible repeat (first | refine blk_drewN ?_ _ | refine blk_drew ?_ | refine blk_alloc ?_ _)); refine blk_far ?_ NB225_240.out _; (with_reducible repeat (first | refine blk_drewN ?_ _ | refine blk_drew ?_ | refine blk_alloc ?_ _)); refine blk_far ?_ NB225_240.out _; exact zk BK225) hb); replace BK235 := Aside0.mk (blk_below (g := gb235) (o := .cells #[.slice Ao20 t231.length co20, .int .i64 t234] 25 (0, 0)) (by (with_reducible repeat (first | refine blk_drewN ?_ _ | refine blk_drew ?_ | refine blk_alloc ?_ _)); refine blk_far ?_ NB235_240.out _; (with_reducible repeat (first | refine blk_drewN ?_ _ | refine blk_drew ?_ | refine blk_alloc ?_ _)); refine blk_far ?_ NB235_240.out _; exact zk BK235) hb); replace BK240 := Aside0.mk (blk_below (g := gb240) (o := .cells #[.slice Ao26 t236.length co26, .int .i64 t239] 25 (0, 0)) (by (with_reducible repeat (first | refine blk_drewN ?_ _ | refine blk_drew ?_ | refine blk_alloc ?_ _)); refine blk_put (cs := #[.slice Ao26 t236.length co26, .int .i64 0]) ?_ 1 _ rfl; (with_reducible repeat (first | refine blk_drewN ?_ _ | refine blk_drew ?_ | refine blk_alloc ?_ _)); refine blk_put (cs := #[.slice none 0 0, .int .i64 0]) ?_ 0 _ rfl; exact zk BK240) hb); replace HB := Aside0.mk (below_step (zb HB) hb); (try clear hb); (try clear hk); (try clear ho0)) | ((with_reducible refine gd 8 rfl ?_); refine bx (N := 8) (cs := #[.slice none 0 0, .int .i64 0]) (t := 25) ?_; intro gb245 hg w31 hbox hb; replace HO229 := Aside0.mk (Kd.R_below (zr HO229) hb); replace HO233 := Aside0.mk (Kd.R_below (zr HO233) hb); replace HO238 := Aside0.mk (Kd.R_below (zr HO238) hb); replace HO243 := Aside0.mk (Kd.R_below (zr HO243) hb); have BK245 := Aside0.mk (hbox); have GW245 := Aside0.mk ((by rw [hg]; exact (below_size (zb HB)) : w.heap.size ≤ gb245)); have GE245 := Aside0.mk ((by rw [hg]; exact (below_size (zb HB)) : w.heap.size ≤ gb245)); replace HB := Aside0.mk (below_step (zb HB) hb); have NB225_245 := Aside0.mk ((by rw [hg]; exact Nat.ne_of_lt (blk_lt (g := gb225) (o := .cells #[.slice A0_0 l0_0.length c0_0, .int .i64 a0_1] 40 (0, 0)) (zk BK225)) : gb225 ≠ gb245)); have NB245_225 := Aside0.mk ((by rw [hg]; exact Nat.ne_of_gt (blk_lt (g := gb225) (o := .cells #[.slice A0_0 l0_0.length c0_0, .int .i64 a0_1] 40 (0, 0)) (zk BK225)) : gb245 ≠ gb225)); replace BK225 := Aside0.mk (blk_below (g := gb225) (o := .cells #[.slice A0_0 l0_0.length c0_0, .int .i64 a0_1] 40 (0, 0)) (zk BK225) hb); have NB235_245 := Aside0.mk ((by rw [hg]; exact Nat.ne_of_lt (blk_lt (g := gb235) (o := .cells #[.slice Ao20 t231.length co20, .int .i64 t234] 25 (0, 0)) (zk BK235)) : gb235 ≠ gb245)); have NB245_235 := Aside0.mk ((by rw [hg]; exact Nat.ne_of_gt (blk_lt (g := gb235) (o := .cells #[.slice Ao20 t231.length co20, .int .i64 t234] 25 (0, 0)) (zk BK235)) : gb245 ≠ gb235)); replace BK235 := Aside0.mk (blk_below (g := gb235) (o := .cells #[.slice Ao20 t231.length co20, .int .i64 t234] 25 (0, 0)) (zk BK235) hb); have NB240_245 := Aside0.mk ((by rw [hg]; exact Nat.ne_of_lt (blk_lt (g := gb240) (o := .cells #[.slice Ao26 t236.length co26, .int .i64 t239] 25 (0, 0)) (zk BK240)) : gb240 ≠ gb245)); have NB245_240 := Aside0.mk ((by rw [hg]; exact Nat.ne_of_gt (blk_lt (g := gb240) (o := .cells #[.slice Ao26 t236.length co26, .int .i64 t239] 25 (0, 0)) (zk BK240)) : gb245 ≠ gb240)); replace BK240 := Aside0.mk (blk_below (g := gb240) (o := .cells #[.slice Ao26 t236.length co26, .int .i64 t239] 25 (0, 0)) (zk BK240) hb); clear hb hbox hg; obtain ⟨Ao32, co32, eo32⟩ := Kd.R_slice HO243.out; subst eo32; have hnb33 := NB245_225.out; have hnc33 := NB225_245.out; have hnb34 := NB245_235.out; have hnc34 := NB235_245.out; have hnb35 := NB245_240.out; have hnc35 := NB240_245.out; have hcz36_0 : w31.cell? ⟨gb245, 0, none⟩ = some (.slice none 0 0) := (blk_cell BK245.out 0).trans rfl; have hcz36_1 : w31.cell? ⟨gb245, 1, none⟩ = some (.int .i64 0) := (blk_cell BK245.out 1).trans rfl; have hfz36_0 := blk_frozen BK245.out 0; have hfz36_1 := blk_frozen BK245.out 1; have hcz37_0 : w31.cell? ⟨gb235, 0, none⟩ = some (.slice Ao20 t231.length co20) := (blk_cell BK235.out 0).trans rfl; have hcz37_1 : w31.cell? ⟨gb235, 1, none⟩ = some (.int .i64 t234) := (blk_cell BK235.out 1).trans rfl; have hfz37_0 := blk_frozen BK235.out 0; have hfz37_1 := blk_frozen BK235.out 1) | ((with_reducible refine gq 26 rfl ?_); refine gl (some 29) Try.func26 #[.agg #[.slice Ao32 t241.length co32, .int .i64 t244], .agg #[.slice Ao20 t231.length co20, .int .i64 t234]] ?_; (with_reducible refine (laws_eqTable.calls k _ _ t241 t244 _ _ t231 t234 t246 _ ?side1 ?side2 ?side3 ?side4 A13.out).mono ?_); (case side1 => refine (Kd.R_reads' (e := 36) (base := w.heap.size) (ok := fun k_ => (((True ∧ some k_ ≠ (.slice Ao17 t227.length co17 : Value).ownBlock) ∧ some k_ ≠ (.slice Ao20 t231.length co20 : Value).ownBlock) ∧ some k_ ≠ (.slice Ao26 t236.length co26 : Value).ownBlock)) (n := t241.length) (c := co32) ?_).2.2; exact (by (with_reducible repeat (first | apply Kd.R_alloc | apply Kd.R_drewN | apply Kd.R_drew)); exact (Kd.R_mono (Kd.R_far (p := ⟨gb245, 1, none⟩) (Kd.R_far (p := ⟨gb245, 0, none⟩) (Kd.R_types HO243.out BK245.out (by decide)) (fun _ hk => hk.2) (.slice Ao32 t241.length co32)) (fun _ hk => hk.2) (.int .i64 t244)) (fun _ h_ => h_.1)))); (case side2 => exact (Kd.R_reads' HO243.out).2.1); (case side3 => refine (Kd.R_reads' (e := 36) (base := w.heap.size) (ok := fun k_ => (((True ∧ some k_ ≠ (.slice Ao17 t227.length co17 : Value).ownBlock) ∧ some k_ ≠ (.slice Ao26 t236.length co26 : Value).ownBlock) ∧ some k_ ≠ (.slice Ao32 t241.length co32 : Value).ownBlock)) (n := t231.length) (c := co20) ?_).2.2; exact (by (with_reducible repeat (first | apply Kd.R_alloc | apply Kd.R_drewN | apply Kd.R_drew)); exact (Kd.R_mono (Kd.R_far (p := ⟨gb245, 1, none⟩) (Kd.R_far (p := ⟨gb245, 0, none⟩) (Kd.R_types HO233.out BK245.out (by decide)) (fun _ hk => hk.2) (.slice Ao32 t241.length co32)) (fun _ hk => hk.2) (.int .i64 t244)) (fun _ h_ => h_.1)))); (case side4 => exact (Kd.R_reads' HO233.out).2.1); rintro e w38 ⟨rfl, hb⟩; refine ⟨_, rfl, ?_⟩; replace HO229 := Aside0.mk (Kd.R_below (by (with_reducible repeat (first | apply Kd.R_alloc | apply Kd.R_drewN | apply Kd.R_drew)); exact (Kd.R_mono (Kd.R_far (p := ⟨gb245, 1, none⟩) (Kd.R_far (p := ⟨gb245, 0, none⟩) (Kd.R_types HO229.out BK245.out (by decide)) (fun _ hk => hk.2) (.slice Ao32 t241.length co32)) (fun _ hk => hk.2) (.int .i64 t244)) (fun _ h_ => h_.1))) hb); replace HO233 := Aside0.mk (Kd.R_below (by (with_reducible repeat (first | apply Kd.R_alloc | apply Kd.R_drewN | apply Kd.R_drew)); exact (Kd.R_mono (Kd.R_far (p := ⟨gb245, 1, none⟩) (Kd.R_far (p := ⟨gb245, 0, none⟩) (Kd.R_types HO233.out BK245.out (by decide)) (fun _ hk => hk.2) (.slice Ao32 t241.length co32)) (fun _ hk => hk.2) (.int .i64 t244)) (fun _ h_ => h_.1))) hb); replace HO238 := Aside0.mk (Kd.R_below (by (with_reducible repeat (first | apply Kd.R_alloc | apply Kd.R_drewN | apply Kd.R_drew)); exact (Kd.R_mono (Kd.R_far (p := ⟨gb245, 1, none⟩) (Kd.R_far (p := ⟨gb245, 0, none⟩) (Kd.R_types HO238.out BK245.out (by decide)) (fun _ hk => hk.2) (.slice Ao32 t241.length co32)) (fun _ hk => hk.2) (.int .i64 t244)) (fun _ h_ => h_.1))) hb); replace HO243 := Aside0.mk (Kd.R_below (by (with_reducible repeat (first | apply Kd.R_alloc | apply Kd.R_drewN | apply Kd.R_drew)); exact (Kd.R_mono (Kd.R_far (p := ⟨gb245, 1, none⟩) (Kd.R_far (p := ⟨gb245, 0, none⟩) (Kd.R_types HO243.out BK245.out (by decide)) (fun _ hk => hk.2) (.slice Ao32 t241.length co32)) (fun _ hk => hk.2) (.int .i64 t244)) (fun _ h_ => h_.1))) hb); replace BK225 := Aside0.mk (blk_below (g := gb225) (o := .cells #[.slice A0_0 l0_0.length c0_0, .int .i64 a0_1] 40 (0, 0)) (by (with_reducible repeat (first | refine blk_drewN ?_ _ | refine blk_drew ?_ | refine blk_alloc ?_ _)); refine blk_far ?_ NB225_245.out _; (with_reducible repeat (first | refine blk_drewN ?_ _ | refine blk_drew ?_ | refine blk_alloc ?_ _)); refine blk_far ?_ NB225_245.out _; exact zk BK225) hb); replace BK235 := Aside0.mk (blk_below (g := gb235) (o := .cells #[.slice Ao20 t231.length co20, .int .i64 t234] 25 (0, 0)) (by (with_reducible repeat (first | refine blk_drewN ?_ _ | refine blk_drew ?_ | refine blk_alloc ?_ _)); refine blk_far ?_ NB235_245.out _; (with_reducible repeat (first | refine blk_drewN ?_ _ | refine blk_drew ?_ | refine blk_alloc ?_ _)); refine blk_far ?_ NB235_245.out _; exact zk BK235) hb); replace BK240 := Aside0.mk (blk_below (g := gb240) (o := .cells #[.slice Ao26 t236.length co26, .int .i64 t239] 25 (0, 0)) (by (with_reducible repeat (first | refine blk_drewN ?_ _ | refine blk_drew ?_ | refine blk_alloc ?_ _)); refine blk_far ?_ NB240_245.out _; (with_reducible repeat (first | refine blk_drewN ?_ _ | refine blk_drew ?_ | refine blk_alloc ?_ _)); refine blk_far ?_ NB240_245.out _; exact zk BK240) hb); replace BK245 := Aside0.mk (blk_below (g := gb245) (o := .cells #[.slice Ao32 t241.length co32, .int .i64 t244] 25 (0, 0)) (by (with_reducible repeat (first | refine blk_drewN ?_ _ | refine blk_drew ?_ | refine blk_alloc ?_ _)); refine blk_put (cs := #[.slice Ao32 t241.length co32, .int .i64 0]) ?_ 1 _ rfl; (with_reducible repeat (first | refine blk_drewN ?_ _ | refine blk_drew ?_ | refine blk_alloc ?_ _)); refine blk_put (cs := #[.slice none 0 0, .int .i64 0]) ?_ 0 _ rfl; exact zk BK245) hb); replace HB := Aside0.mk (below_step (zb HB) hb); (try clear hb); (try clear hk)))
  (try simp only [Act.put, s1, s2, s3])
  have H := HC14.out
  clear HC14
  by_cases c39 : t246 = true
  ·subst c39
   have H1 : ((laws_toTable.f k l0_0 a0_1).bind fun bt247 => ((laws_eqTable.f k t236 t239 bt247.1 bt247.2).bind fun t251 => (if t251 = true then ((laws_markTable.f k t236 t239 1).bind fun bt252 => (if bt252.1 < 0 then (laws_FnExactTableLimit.j0 k a1 true l0_0 a0_1 t231 t234 t241 t244) else ((laws_eqTable.f k t241 t244 t231 t234).bind fun t254 => (laws_FnExactTableLimit.j0 k a1 (!t254) l0_0 a0_1 t231 t234 t241 t244)))) else (some false)))) = some r := by rw [if_pos rfl] at H; exact H
   clear H
   have H := H1
   clear H1
   replace H := Option.bind_eq_some_iff.mp H
   obtain ⟨⟨t247, t250⟩, A400, H⟩ := H
   replace H : ((laws_eqTable.f k t236 t239 t247 t250).bind fun t251 => (if t251 = true then ((laws_markTable.f k t236 t239 1).bind fun bt252 => (if bt252.1 < 0 then (laws_FnExactTableLimit.j0 k a1 true l0_0 a0_1 t231 t234 t241 t244) else ((laws_eqTable.f k t241 t244 t231 t234).bind fun t254 => (laws_FnExactTableLimit.j0 k a1 (!t254) l0_0 a0_1 t231 t234 t241 t244)))) else (some false))) = some r := H
   have A40 := Aside0.mk A400
   clear A400
   replace H := Option.bind_eq_some_iff.mp H
   obtain ⟨t251, A410, H⟩ := H
   replace H : (if t251 = true then ((laws_markTable.f k t236 t239 1).bind fun bt252 => (if bt252.1 < 0 then (laws_FnExactTableLimit.j0 k a1 true l0_0 a0_1 t231 t234 t241 t244) else ((laws_eqTable.f k t241 t244 t231 t234).bind fun t254 => (laws_FnExactTableLimit.j0 k a1 (!t254) l0_0 a0_1 t231 t234 t241 t244)))) else (some false)) = some r := H
   have A41 := Aside0.mk A410
   clear A410
   have HC42 := Aside0.mk H
   clear H
   try go_wp2
   replace HO229 := Aside0.mk (Kd.R_drew HO229.out)
   replace HO233 := Aside0.mk (Kd.R_drew HO233.out)
   replace HO238 := Aside0.mk (Kd.R_drew HO238.out)
   replace HO243 := Aside0.mk (Kd.R_drew HO243.out)
   replace BK225 := Aside0.mk (blk_drew BK225.out)
   replace BK235 := Aside0.mk (blk_drew BK235.out)
   replace BK240 := Aside0.mk (blk_drew BK240.out)
   replace BK245 := Aside0.mk (blk_drew BK245.out)
   replace HB := Aside0.mk (below_drew1 HB.out)
   refine start_ (n := 5) (S := fun w' => w'.cell? ⟨gb240, 0, none⟩ = some (.slice Ao26 t236.length co26) ∧ w'.cell? ⟨gb240, 1, none⟩ = some (.int .i64 t239) ∧ w'.cell? ⟨gb225, 0, none⟩ = some (.slice A0_0 l0_0.length c0_0) ∧ w'.cell? ⟨gb225, 1, none⟩ = some (.int .i64 a0_1)) (ds := []) #[false, false, false, false, false] (by kernel_rfl) rfl rfl ⟨(blk_cell BK240.out 0).trans rfl, (blk_cell BK240.out 1).trans rfl, (blk_cell BK225.out 0).trans rfl, (blk_cell BK225.out 1).trans rfl⟩ (fun hHeld => ?_)
   generalize w38.drew = w43 at HO229 HO233 HO238 HO243 BK225 BK235 BK240 BK245 HB hHeld ⊢
   refine tk4 0 (some 31) (bm 5 1) rfl rfl hHeld ?_
   refine tk4 1 (some 32) (bm 5 3) rfl rfl hHeld ?_
   refine one_ (i := 2) (N := some 33) (bm 5 7) rfl rfl (by kernel_rfl) (by decide) (fun K hK => ?_)
   refine gs Try.func25 #[.agg #[.slice A0_0 l0_0.length c0_0, .int .i64 a0_1]] ?_
   with_reducible refine (laws_toTable.calls k _ _ l0_0 a0_1 t247 t250 _ ?side1 ?side2 A40.out).mono ?_
   (case side1 => exact zc (Kd.C_below HR0_0.out HB.out))
   (case side2 => exact HC0_0.out)
   rintro e w44 ⟨v248, rfl, ho0, hb⟩
   refine ⟨_, rfl, ?_⟩
   have HO249 := Aside0.mk (Kd.R_lower (Kd.R_new' (Kd.R_new' (Kd.R_new' (Kd.R_new' ho0 (Kd.R_lt (zr HO229))) (Kd.R_lt (zr HO233))) (Kd.R_lt (zr HO238))) (Kd.R_lt (zr HO243))) (below_size (zb HB)))
   replace HO229 := Aside0.mk (Kd.R_elder' (zr HO229) (Kd.R_base ho0) hb)
   replace HO233 := Aside0.mk (Kd.R_elder' (zr HO233) (Kd.R_base ho0) hb)
   replace HO238 := Aside0.mk (Kd.R_elder' (zr HO238) (Kd.R_base ho0) hb)
   replace HO243 := Aside0.mk (Kd.R_elder' (zr HO243) (Kd.R_base ho0) hb)
   replace BK225 := Aside0.mk (blk_below (g := gb225) (o := .cells #[.slice A0_0 l0_0.length c0_0, .int .i64 a0_1] 40 (0, 0)) (zk BK225) hb)
   replace BK235 := Aside0.mk (blk_below (g := gb235) (o := .cells #[.slice Ao20 t231.length co20, .int .i64 t234] 25 (0, 0)) (zk BK235) hb)
   replace BK240 := Aside0.mk (blk_below (g := gb240) (o := .cells #[.slice Ao26 t236.length co26, .int .i64 t239] 25 (0, 0)) (zk BK240) hb)
   replace BK245 := Aside0.mk (blk_below (g := gb245) (o := .cells #[.slice Ao32 t241.length co32, .int .i64 t244] 25 (0, 0)) (zk BK245) hb)
   replace HB := Aside0.mk (below_step (zb HB) hb)
   (try clear hb)
   (try clear ho0)
   obtain ⟨Ao45, co45, eo45⟩ := Kd.R_slice HO249.out
   (first | subst eo45 | (injection eo45 with f1_ f2_ f3_; have f4_ := f1_.symm; have f5_ := f3_.symm; clear f1_ f2_ f3_; subst f4_; subst f5_))
   refine hK.out _ _ ⟨(blk_cell BK240.out 0).trans rfl, (blk_cell BK240.out 1).trans rfl, (blk_cell BK225.out 0).trans rfl, (blk_cell BK225.out 1).trans rfl⟩ (fun hHeld => ?_)
   clear hK K
   refine nm ?_
   refine one_ (i := 3) (N := some 34) (bm 5 15) rfl rfl (by kernel_rfl) (by decide) (fun K hK => ?_)
   refine gs Try.func26 #[.agg #[.slice Ao26 t236.length co26, .int .i64 t239], .agg #[.slice Ao45 t247.length co45, .int .i64 t250]] ?_
   with_reducible refine (laws_eqTable.calls k _ _ t236 t239 _ _ t247 t250 t251 _ ?side1 ?side2 ?side3 ?side4 A41.out).mono ?_
   (case side1 => exact zc (Kd.R_reads' HO238.out).2.2)
   (case side2 => exact (Kd.R_reads' HO238.out).2.1)
   (case side3 => exact zc (Kd.R_reads' HO249.out).2.2)
   (case side4 => exact (Kd.R_reads' HO249.out).2.1)
   rintro e w46 ⟨rfl, hb⟩
   refine ⟨_, rfl, ?_⟩
   replace HO229 := Aside0.mk (Kd.R_below (zr HO229) hb)
   replace HO233 := Aside0.mk (Kd.R_below (zr HO233) hb)
   replace HO238 := Aside0.mk (Kd.R_below (zr HO238) hb)
   replace HO243 := Aside0.mk (Kd.R_below (zr HO243) hb)
   replace HO249 := Aside0.mk (Kd.R_below (zr HO249) hb)
   replace BK225 := Aside0.mk (blk_below (g := gb225) (o := .cells #[.slice A0_0 l0_0.length c0_0, .int .i64 a0_1] 40 (0, 0)) (zk BK225) hb)
   replace BK235 := Aside0.mk (blk_below (g := gb235) (o := .cells #[.slice Ao20 t231.length co20, .int .i64 t234] 25 (0, 0)) (zk BK235) hb)
   replace BK240 := Aside0.mk (blk_below (g := gb240) (o := .cells #[.slice Ao26 t236.length co26, .int .i64 t239] 25 (0, 0)) (zk BK240) hb)
   replace BK245 := Aside0.mk (blk_below (g := gb245) (o := .cells #[.slice Ao32 t241.length co32, .int .i64 t244] 25 (0, 0)) (zk BK245) hb)
   replace HB := Aside0.mk (below_step (zb HB) hb)
   (try clear hb)
   refine hK.out _ _ ⟨(blk_cell BK240.out 0).trans rfl, (blk_cell BK240.out 1).trans rfl, (blk_cell BK225.out 0).trans rfl, (blk_cell BK225.out 1).trans rfl⟩ (fun hHeld => ?_)
   clear hK K
   refine nm ?_
   refine pu 4 (some 35) (bm 5 31) rfl rfl ?_
   refine done_ (by kernel_rfl) ?_
   go_upto_if 35 with (fail)
   have H := HC42.out
   clear HC42
   by_cases c47 : t251 = true
   ·subst c47
    have H1 : ((laws_markTable.f k t236 t239 1).bind fun bt252 => (if bt252.1 < 0 then (laws_FnExactTableLimit.j0 k a1 true l0_0 a0_1 t231 t234 t241 t244) else ((laws_eqTable.f k t241 t244 t231 t234).bind fun t254 => (laws_FnExactTableLimit.j0 k a1 (!t254) l0_0 a0_1 t231 t234 t241 t244)))) = some r := by rw [if_pos rfl] at H; exact H
    clear H
    have H := H1
    clear H1
    replace H := Option.bind_eq_some_iff.mp H
    obtain ⟨⟨t252, t253⟩, A480, H⟩ := H
    replace H : (if t252 < 0 then (laws_FnExactTableLimit.j0 k a1 true l0_0 a0_1 t231 t234 t241 t244) else ((laws_eqTable.f k t241 t244 t231 t234).bind fun t254 => (laws_FnExactTableLimit.j0 k a1 (!t254) l0_0 a0_1 t231 t234 t241 t244))) = some r := H
    have A48 := Aside0.mk A480
    clear A480
    have HC49 := Aside0.mk H
    clear H
    have hnb50 := NB240_225.out
    have hnc50 := NB225_240.out
    have hnb51 := NB240_235.out
    have hnc51 := NB235_240.out
    have hnb52 := NB240_245.out
    have hnc52 := NB245_240.out
    have hcz53_0 : w46.cell? ⟨gb240, 0, none⟩ = some (.slice Ao26 t236.length co26) := (blk_cell BK240.out 0).trans rfl
    have hcz53_1 : w46.cell? ⟨gb240, 1, none⟩ = some (.int .i64 t239) := (blk_cell BK240.out 1).trans rfl
    have hfz53_0 := blk_frozen BK240.out 0
    have hfz53_1 := blk_frozen BK240.out 1
    go_upto_region 14 with (first | ((with_reducible refine gq 27 rfl ?_); refine gl (some 38) Try.func27 #[.agg #[.slice Ao26 t236.length co26, .int .i64 t239], .int .i64 1] ?_; (with_reducible refine (laws_markTable.calls k (fun k_ => some k_ = (.slice Ao26 t236.length co26 : Value).ownBlock) (.slice Ao26 t236.length co26) t236 t239 1 t252 t253 w _ ?side1 ?side2 A48.out).mono ?_); (case side1 => exact zb HB); (case side2 => exact Kd.R_tight rfl HO238.out); rintro e w54 ⟨rfl, hy0, hb, hkp⟩; refine ⟨_, rfl, ?_⟩; replace BK225 := Aside0.mk (blk_kept (zk BK225) hkp (fun hs_ => (fun e_ => (Kd.R_ne HO238.out BK225.out (by decide)) e_) hs_)); replace HO229 := Aside0.mk (Kd.R_mono (ok' := fun k_ => some k_ ≠ (.slice Ao20 t231.length co20 : Value).ownBlock ∧ some k_ ≠ (.slice Ao26 t236.length co26 : Value).ownBlock ∧ some k_ ≠ (.slice Ao32 t241.length co32 : Value).ownBlock ∧ some k_ ≠ (.slice Ao45 t247.length co45 : Value).ownBlock) (Kd.R_keptB (HO229.out) hkp (fun k_ hk_ hs_ => (hk_.1.1.2) hs_)) (fun k_ hk_ => ⟨hk_.1.1.1.1.2, hk_.1.1.1.2, hk_.1.1.2, hk_.1.2⟩)); replace HO233 := Aside0.mk (Kd.R_mono (ok' := fun k_ => some k_ ≠ (.slice Ao17 t227.length co17 : Value).ownBlock ∧ some k_ ≠ (.slice Ao26 t236.length co26 : Value).ownBlock ∧ some k_ ≠ (.slice Ao32 t241.length co32 : Value).ownBlock ∧ some k_ ≠ (.slice Ao45 t247.length co45 : Value).ownBlock) (Kd.R_keptB (HO233.out) hkp (fun k_ hk_ hs_ => (hk_.1.1.2) hs_)) (fun k_ hk_ => ⟨hk_.1.1.1.1.2, hk_.1.1.1.2, hk_.1.1.2, hk_.1.2⟩)); replace BK235 := Aside0.mk (blk_kept (zk BK235) hkp (fun hs_ => (fun e_ => (Kd.R_ne HO238.out BK235.out (by decide)) e_) hs_)); replace BK240 := Aside0.mk (blk_kept (zk BK240) hkp (fun hs_ => (fun e_ => (Kd.R_ne HO238.out BK240.out (by decide)) e_) hs_)); replace HO243 := Aside0.mk (Kd.R_mono (ok' := fun k_ => some k_ ≠ (.slice Ao17 t227.length co17 : Value).ownBlock ∧ some k_ ≠ (.slice Ao20 t231.length co20 : Value).ownBlock ∧ some k_ ≠ (.slice Ao26 t236.length co26 : Value).ownBlock ∧ some k_ ≠ (.slice Ao45 t247.length co45 : Value).ownBlock) (Kd.R_keptB (HO243.out) hkp (fun k_ hk_ hs_ => (hk_.1.2) hs_)) (fun k_ hk_ => ⟨hk_.1.1.1.1.2, hk_.1.1.1.2, hk_.1.1.2, hk_.1.2⟩)); replace BK245 := Aside0.mk (blk_kept (zk BK245) hkp (fun hs_ => (fun e_ => (Kd.R_ne HO238.out BK245.out (by decide)) e_) hs_)); replace HO238 := Aside0.mk (Kd.R_reok rfl hy0 (fun k_ e_ => HO238.out.1 k_ e_)); replace HO249 := Aside0.mk (Kd.R_mono (ok' := fun k_ => some k_ ≠ (.slice Ao17 t227.length co17 : Value).ownBlock ∧ some k_ ≠ (.slice Ao20 t231.length co20 : Value).ownBlock ∧ some k_ ≠ (.slice Ao26 t236.length co26 : Value).ownBlock ∧ some k_ ≠ (.slice Ao32 t241.length co32 : Value).ownBlock) (Kd.R_keptB (HO249.out) hkp (fun k_ hk_ hs_ => (hk_.1.2) hs_)) (fun k_ hk_ => ⟨hk_.1.1.1.1.2, hk_.1.1.1.2, hk_.1.1.2, hk_.1.2⟩)); replace HB := Aside0.mk (hb); (try clear hb); (try clear hkp); (try clear hy0)))
    (try simp only [Act.put, s1, s2, s3])
    go_cut [46] (fun v46 wc => ∃ (kq : Nat) (x46_48 : Bool), v46 = .bool x46_48 ∧ Aside0 (laws_FnExactTableLimit.j0 kq a1 x46_48 l0_0 a0_1 t231 t234 t241 t244 = some r) ∧ Aside0 (kq ≤ k) ∧ Aside0 (Kd.R k36 36 wc w.heap.size (fun k_ => some k_ ≠ ((.slice Ao26 t236.length co26) : Value).ownBlock ∧ some k_ ≠ ((.slice Ao32 t241.length co32) : Value).ownBlock) (.slice Ao20 t231.length co20) t231) ∧ Aside0 (Kd.R k36 36 wc w.heap.size (fun k_ => some k_ ≠ ((.slice Ao20 t231.length co20) : Value).ownBlock ∧ some k_ ≠ ((.slice Ao32 t241.length co32) : Value).ownBlock) (.slice Ao26 t236.length co26) t253) ∧ Aside0 (Kd.R k36 36 wc w.heap.size (fun k_ => some k_ ≠ ((.slice Ao20 t231.length co20) : Value).ownBlock ∧ some k_ ≠ ((.slice Ao26 t236.length co26) : Value).ownBlock) (.slice Ao32 t241.length co32) t241) ∧ Aside0 (wc.heap[gb225]? = some (.cells #[(.slice A0_0 l0_0.length c0_0), .int .i64 a0_1] 40 (0, 0))) ∧ Aside0 (wc.heap[gb235]? = some (.cells #[(.slice Ao20 t231.length co20), .int .i64 t234] 25 (0, 0))) ∧ Aside0 (wc.heap[gb240]? = some (.cells #[(.slice Ao26 t236.length co26), .int .i64 t239] 25 (0, 0))) ∧ Aside0 (wc.heap[gb245]? = some (.cells #[(.slice Ao32 t241.length co32), .int .i64 t244] 25 (0, 0))) ∧ Aside0 (Below w.heap.size w wc))
    case first =>
     have H := HC49.out
     clear HC49
     by_cases c55 : t252 < 0
     ·rw [if_pos c55] at H
      have c55b0 : decide (t252 < 0) = true := decide_eq_true c55
      clear c55
      (first | rw [c55b0] | (simp only [i64_w, i32_w]; rw [c55b0]) | skip)
      have H' := Aside0.mk H
      clear H
      go_wp2
      go_meet
      case rel => exact ⟨_, (true), zs, H', ⟨by first | omega | exact Nat.le_refl _⟩, ⟨by (with_reducible repeat (first | apply Kd.R_alloc | apply Kd.R_drewN | apply Kd.R_drew)); exact Kd.R_mono HO233.out (fun _ hk => ⟨hk.2.1, hk.2.2.1⟩)⟩, ⟨by (with_reducible repeat (first | apply Kd.R_alloc | apply Kd.R_drewN | apply Kd.R_drew)); exact Kd.R_mono HO238.out (fun _ hk => ⟨hk.1.1.2, hk.1.2⟩)⟩, ⟨by (with_reducible repeat (first | apply Kd.R_alloc | apply Kd.R_drewN | apply Kd.R_drew)); exact Kd.R_mono HO243.out (fun _ hk => ⟨hk.2.1, hk.2.2.1⟩)⟩, ⟨by exact zk BK225⟩, ⟨by exact zk BK235⟩, ⟨by exact zk BK240⟩, ⟨by exact zk BK245⟩, ⟨zb HB⟩⟩
     ·rw [if_neg c55] at H
      have c55b0 : decide (t252 < 0) = false := decide_eq_false c55
      clear c55
      (first | rw [c55b0] | (simp only [i64_w, i32_w]; rw [c55b0]) | skip)
      replace H := Option.bind_eq_some_iff.mp H
      obtain ⟨t254, A560, H⟩ := H
      replace H : (laws_FnExactTableLimit.j0 k a1 (!t254) l0_0 a0_1 t231 t234 t241 t244) = some r := H
      have A56 := Aside0.mk A560
      clear A560
      have H' := Aside0.mk H
      clear H
      have hnb57 := NB245_225.out
      have hnc57 := NB225_245.out
      have hnb58 := NB245_235.out
      have hnc58 := NB235_245.out
      have hnb59 := NB245_240.out
      have hnc59 := NB240_245.out
      have hcz60_0 : w54.cell? ⟨gb245, 0, none⟩ = some (.slice Ao32 t241.length co32) := (blk_cell BK245.out 0).trans rfl
      have hcz60_1 : w54.cell? ⟨gb245, 1, none⟩ = some (.int .i64 t244) := (blk_cell BK245.out 1).trans rfl
      have hfz60_0 := blk_frozen BK245.out 0
      have hfz60_1 := blk_frozen BK245.out 1
      have hnb61 := NB235_225.out
      have hnc61 := NB225_235.out
      have hnb62 := NB235_240.out
      have hnc62 := NB240_235.out
      have hcz63_0 : w54.cell? ⟨gb235, 0, none⟩ = some (.slice Ao20 t231.length co20) := (blk_cell BK235.out 0).trans rfl
      have hcz63_1 : w54.cell? ⟨gb235, 1, none⟩ = some (.int .i64 t234) := (blk_cell BK235.out 1).trans rfl
      have hfz63_0 := blk_frozen BK235.out 0
      have hfz63_1 := blk_frozen BK235.out 1
      go_wp2_with (first | (go_at_call 26; (with_reducible refine (laws_eqTable.calls k _ _ t241 t244 _ _ t231 t234 t254 _ ?side1 ?side2 ?side3 ?side4 A56.out).mono ?_); (case side1 => exact zc (Kd.R_reads' HO243.out).2.2); (case side2 => exact (Kd.R_reads' HO243.out).2.1); (case side3 => exact zc (Kd.R_reads' HO233.out).2.2); (case side4 => exact (Kd.R_reads' HO233.out).2.1); rintro e w64 ⟨rfl, hb⟩; replace HO229 := Aside0.mk (Kd.R_below (zr HO229) hb); replace HO233 := Aside0.mk (Kd.R_below (zr HO233) hb); replace HO238 := Aside0.mk (Kd.R_below (zr HO238) hb); replace HO243 := Aside0.mk (Kd.R_below (zr HO243) hb); replace HO249 := Aside0.mk (Kd.R_below (zr HO249) hb); replace BK225 := Aside0.mk (blk_below (g := gb225) (o := .cells #[.slice A0_0 l0_0.length c0_0, .int .i64 a0_1] 40 (0, 0)) (zk BK225) hb); replace BK235 := Aside0.mk (blk_below (g := gb235) (o := .cells #[.slice Ao20 t231.length co20, .int .i64 t234] 25 (0, 0)) (zk BK235) hb); replace BK240 := Aside0.mk (blk_below (g := gb240) (o := .cells #[.slice Ao26 t236.length co26, .int .i64 t239] 25 (0, 0)) (zk BK240) hb); replace BK245 := Aside0.mk (blk_below (g := gb245) (o := .cells #[.slice Ao32 t241.length co32, .int .i64 t244] 25 (0, 0)) (zk BK245) hb); replace HB := Aside0.mk (below_step (zb HB) hb); (try clear hb)))
      go_meet
      case rel => exact ⟨_, (!t254), zs, H', ⟨by first | omega | exact Nat.le_refl _⟩, ⟨by (with_reducible repeat (first | apply Kd.R_alloc | apply Kd.R_drewN | apply Kd.R_drew)); exact Kd.R_mono HO233.out (fun _ hk => ⟨hk.2.1, hk.2.2.1⟩)⟩, ⟨by (with_reducible repeat (first | apply Kd.R_alloc | apply Kd.R_drewN | apply Kd.R_drew)); exact Kd.R_mono HO238.out (fun _ hk => ⟨hk.1.1.2, hk.1.2⟩)⟩, ⟨by (with_reducible repeat (first | apply Kd.R_alloc | apply Kd.R_drewN | apply Kd.R_drew)); exact Kd.R_mono HO243.out (fun _ hk => ⟨hk.2.1, hk.2.2.1⟩)⟩, ⟨by exact zk BK225⟩, ⟨by exact zk BK235⟩, ⟨by exact zk BK240⟩, ⟨by exact zk BK245⟩, ⟨zb HB⟩⟩
    case rest =>
     clear HC49
     try clear c1
     try clear c2
     try clear p2
     try clear c3
     try clear c4
     try clear c5
     try clear c6
     try clear c8
     try clear c8b0
     try clear c16
     try clear c18
     try clear c21
     try clear c24
     try clear c25
     try clear c26
     try clear c27
     try clear c28
     try clear c33
     try clear c34
     try clear c35
     try clear c39
     try clear c47
     try clear c50
     try clear c51
     try clear c52
     try clear c55
     try clear c55b0
     try clear c57
     try clear c58
     try clear c59
     try clear c61
     try clear c62
     try clear hcz15_0
     try clear hcz15_1
     try clear hcz22_0
     try clear hcz22_1
     try clear hcz23_0
     try clear hcz23_1
     try clear hcz29_0
     try clear hcz29_1
     try clear hcz36_0
     try clear hcz36_1
     try clear hcz37_0
     try clear hcz37_1
     try clear hcz53_0
     try clear hcz53_1
     try clear hcz60_0
     try clear hcz60_1
     try clear hcz63_0
     try clear hcz63_1
     try clear hcz6_0
     try clear hcz6_1
     try clear hfz15_0
     try clear hfz15_1
     try clear hfz22_0
     try clear hfz22_1
     try clear hfz23_0
     try clear hfz23_1
     try clear hfz29_0
     try clear hfz29_1
     try clear hfz36_0
     try clear hfz36_1
     try clear hfz37_0
     try clear hfz37_1
     try clear hfz53_0
     try clear hfz53_1
     try clear hfz60_0
     try clear hfz60_1
     try clear hfz63_0
     try clear hfz63_1
     try clear hfz6_0
     try clear hfz6_1
     obtain ⟨kq, x46_48, rfl, HA, HJ48, HO_236000, HO_241000, HO_246000, BK225, BK235, BK240, BK245, HB⟩ := hcut
     have hl241000_48 := (Kd.R_reads' HO_241000.out).1
     rw [hl241000_48] at HO_241000
     (try simp only [hl241000_48])
     (try simp only [hl241000_48] at BK225)
     (try simp only [hl241000_48] at BK235)
     (try simp only [hl241000_48] at BK240)
     (try simp only [hl241000_48] at BK245)
     (try simp only [hl241000_48] at HO_236000)
     (try simp only [hl241000_48] at HO_246000)
     cases kq with
     | zero => exact absurd HA.out (by simp [laws_FnExactTableLimit.j0])
     | succ kj48 =>
      have H := HA.out
      clear HA
      simp only [laws_FnExactTableLimit.j0] at H
      by_cases c65 : x46_48 = true
      ·subst c65
       have H1 : (some false) = some r := by rw [if_pos rfl] at H; exact H
       clear H
       have H := H1
       clear H1
       obtain rfl := Option.some.inj H
       go_wp2
       go_ret
       exact ⟨ze, zb HB⟩
      ·replace c65 := Bool.eq_false_iff.mpr c65
       subst c65
       have H1 : ((laws_markTable.f kj48 t241 t244 1).bind fun bt255 => ((laws_heldTable.f kj48 bt255.2 t244 1).bind fun t257 => (if t257 < 0 then (some false) else (if t257 = bt255.1 then ((laws_toTable.f kj48 l0_0 a0_1).bind fun bt258 => ((impl_TableLimit.f kj48 bt258.1 bt258.2 a1).bind fun bt262 => ((laws_eqTable.f kj48 bt262.1 bt262.2 t231 t234).bind fun t267 => (if t267 = true then ((laws_heldTable.f kj48 bt255.2 t244 1).bind fun t268 => (if t268 < 0 then (some false) else (if t268 = bt255.1 then (some true) else (some false)))) else (some false))))) else (some false))))) = some r := by rw [if_neg (show ¬ (false = true) by decide)] at H; exact H
       clear H
       have H := H1
       clear H1
       replace H := Option.bind_eq_some_iff.mp H
       obtain ⟨⟨t255, t256⟩, A660, H⟩ := H
       replace H : ((laws_heldTable.f kj48 t256 t244 1).bind fun t257 => (if t257 < 0 then (some false) else (if t257 = t255 then ((laws_toTable.f kj48 l0_0 a0_1).bind fun bt258 => ((impl_TableLimit.f kj48 bt258.1 bt258.2 a1).bind fun bt262 => ((laws_eqTable.f kj48 bt262.1 bt262.2 t231 t234).bind fun t267 => (if t267 = true then ((laws_heldTable.f kj48 t256 t244 1).bind fun t268 => (if t268 < 0 then (some false) else (if t268 = t255 then (some true) else (some false)))) else (some false))))) else (some false)))) = some r := H
       have A66 := Aside0.mk A660
       clear A660
       replace H := Option.bind_eq_some_iff.mp H
       obtain ⟨t257, A670, H⟩ := H
       replace H : (if t257 < 0 then (some false) else (if t257 = t255 then ((laws_toTable.f kj48 l0_0 a0_1).bind fun bt258 => ((impl_TableLimit.f kj48 bt258.1 bt258.2 a1).bind fun bt262 => ((laws_eqTable.f kj48 bt262.1 bt262.2 t231 t234).bind fun t267 => (if t267 = true then ((laws_heldTable.f kj48 t256 t244 1).bind fun t268 => (if t268 < 0 then (some false) else (if t268 = t255 then (some true) else (some false)))) else (some false))))) else (some false))) = some r := H
       have A67 := Aside0.mk A670
       clear A670
       have HC68 := Aside0.mk H
       clear H
       have hnb69 := NB245_225.out
       have hnc69 := NB225_245.out
       have hnb70 := NB245_235.out
       have hnc70 := NB235_245.out
       have hnb71 := NB245_240.out
       have hnc71 := NB240_245.out
       have hcz72_0 : wc.cell? ⟨gb245, 0, none⟩ = some (.slice Ao32 t241.length co32) := (blk_cell BK245.out 0).trans rfl
       have hcz72_1 : wc.cell? ⟨gb245, 1, none⟩ = some (.int .i64 t244) := (blk_cell BK245.out 1).trans rfl
       have hfz72_0 := blk_frozen BK245.out 0
       have hfz72_1 := blk_frozen BK245.out 1
       go_upto_if 54 with (first | ((with_reducible refine gq 27 rfl ?_); refine gl (some 49) Try.func27 #[.agg #[.slice Ao32 t241.length co32, .int .i64 t244], .int .i64 1] ?_; (with_reducible refine (laws_markTable.calls kj48 (fun k_ => some k_ = (.slice Ao32 t241.length co32 : Value).ownBlock) (.slice Ao32 t241.length co32) t241 t244 1 t255 t256 w _ ?side1 ?side2 A66.out).mono ?_); (case side1 => exact zb HB); (case side2 => exact Kd.R_tight rfl HO_246000.out); rintro e w73 ⟨rfl, hy0, hb, hkp⟩; refine ⟨_, rfl, ?_⟩; replace HO_236000 := Aside0.mk (Kd.R_mono (ok' := fun k_ => some k_ ≠ (.slice Ao26 t253.length co26 : Value).ownBlock ∧ some k_ ≠ (.slice Ao32 t241.length co32 : Value).ownBlock) (Kd.R_keptB (HO_236000.out) hkp (fun k_ hk_ hs_ => (hk_.2) hs_)) (fun k_ hk_ => ⟨hk_.1.1, hk_.1.2⟩)); replace HO_241000 := Aside0.mk (Kd.R_mono (ok' := fun k_ => some k_ ≠ (.slice Ao20 t231.length co20 : Value).ownBlock ∧ some k_ ≠ (.slice Ao32 t241.length co32 : Value).ownBlock) (Kd.R_keptB (HO_241000.out) hkp (fun k_ hk_ hs_ => (hk_.2) hs_)) (fun k_ hk_ => ⟨hk_.1.1, hk_.1.2⟩)); replace BK225 := Aside0.mk (blk_kept (zk BK225) hkp (fun hs_ => (fun e_ => (Kd.R_ne HO_246000.out BK225.out (by decide)) e_) hs_)); replace BK235 := Aside0.mk (blk_kept (zk BK235) hkp (fun hs_ => (fun e_ => (Kd.R_ne HO_246000.out BK235.out (by decide)) e_) hs_)); replace BK240 := Aside0.mk (blk_kept (zk BK240) hkp (fun hs_ => (fun e_ => (Kd.R_ne HO_246000.out BK240.out (by decide)) e_) hs_)); replace BK245 := Aside0.mk (blk_kept (zk BK245) hkp (fun hs_ => (fun e_ => (Kd.R_ne HO_246000.out BK245.out (by decide)) e_) hs_)); replace HO_246000 := Aside0.mk (Kd.R_reok rfl hy0 (fun k_ e_ => HO_246000.out.1 k_ e_)); replace HB := Aside0.mk (hb); (try clear hb); (try clear hkp); (try clear hy0); have hcz74_0 : w73.cell? ⟨gb245, 0, none⟩ = some (.slice Ao32 t241.length co32) := (blk_cell BK245.out 0).trans rfl; have hcz74_1 : w73.cell? ⟨gb245, 1, none⟩ = some (.int .i64 t244) := (blk_cell BK245.out 1).trans rfl; have hfz74_0 := blk_frozen BK245.out 0; have hfz74_1 := blk_frozen BK245.out 1) | ((with_reducible refine gq 28 rfl ?_); refine goesL_ (some 52) rfl rfl Try.func28 (by kernel_rfl) rfl #[.agg #[.slice Ao32 t256.length co32, .int .i64 t244], .int .i64 1] rfl (by (try simp only [List.map_toArray, List.map_cons, List.map_nil]); first | done | (rw [show t256.length = t241.length from (Kd.R_reads' HO_246000.out).1.symm] <;> rfl) | rfl | (simp only [List.length_drop, List.length_take]; rfl)) ?_; (with_reducible refine (laws_heldTable.calls kj48 _ _ t256 t244 1 t257 _ ?side1 ?side2 A67.out).mono ?_); (case side1 => exact zc (Kd.R_reads' HO_246000.out).2.2); (case side2 => rw [show t256.length = t241.length from (Kd.R_reads' HO_246000.out).1.symm]; exact (Kd.R_reads' HO_246000.out).2.1); rintro e w75 ⟨rfl, hb⟩; refine ⟨_, rfl, ?_⟩; replace HO_236000 := Aside0.mk (Kd.R_below (zr HO_236000) hb); replace HO_241000 := Aside0.mk (Kd.R_below (zr HO_241000) hb); replace HO_246000 := Aside0.mk (Kd.R_below (zr HO_246000) hb); replace BK225 := Aside0.mk (blk_below (g := gb225) (o := .cells #[.slice A0_0 l0_0.length c0_0, .int .i64 a0_1] 40 (0, 0)) (zk BK225) hb); replace BK235 := Aside0.mk (blk_below (g := gb235) (o := .cells #[.slice Ao20 t231.length co20, .int .i64 t234] 25 (0, 0)) (zk BK235) hb); replace BK240 := Aside0.mk (blk_below (g := gb240) (o := .cells #[.slice Ao26 t253.length co26, .int .i64 t239] 25 (0, 0)) (zk BK240) hb); replace BK245 := Aside0.mk (blk_below (g := gb245) (o := .cells #[.slice Ao32 t241.length co32, .int .i64 t244] 25 (0, 0)) (zk BK245) hb); replace HB := Aside0.mk (below_step (zb HB) hb); (try clear hb)))
       (try simp only [Act.put, s1, s2, s3])
       have H := HC68.out
       clear HC68
       by_cases c76 : t257 < 0
       ·rw [if_pos c76] at H
        have c76b0 : decide (t257 < 0) = true := decide_eq_true c76
        clear c76
        (first | rw [c76b0] | (simp only [i64_w, i32_w]; rw [c76b0]) | skip)
        obtain rfl := Option.some.inj H
        go_wp2
        go_ret
        exact ⟨ze, zb HB⟩
       ·rw [if_neg c76] at H
        have c76b0 : decide (t257 < 0) = false := decide_eq_false c76
        clear c76
        (first | rw [c76b0] | (simp only [i64_w, i32_w]; rw [c76b0]) | skip)
        by_cases c77 : t257 = t255
        ·rw [if_pos c77] at H
         have c77b0 : (t257 == t255) = true := beq_iff_eq.mpr c77
         have c77b1 : (t257 != t255) = false := bne_eq_false_iff_eq.mpr c77
         clear c77
         replace H := Option.bind_eq_some_iff.mp H
         obtain ⟨⟨t258, t261⟩, A780, H⟩ := H
         replace H : ((impl_TableLimit.f kj48 t258 t261 a1).bind fun bt262 => ((laws_eqTable.f kj48 bt262.1 bt262.2 t231 t234).bind fun t267 => (if t267 = true then ((laws_heldTable.f kj48 t256 t244 1).bind fun t268 => (if t268 < 0 then (some false) else (if t268 = t255 then (some true) else (some false)))) else (some false)))) = some r := H
         have A78 := Aside0.mk A780
         clear A780
         replace H := Option.bind_eq_some_iff.mp H
         obtain ⟨⟨t262, t265⟩, A790, H⟩ := H
         replace H : ((laws_eqTable.f kj48 t262 t265 t231 t234).bind fun t267 => (if t267 = true then ((laws_heldTable.f kj48 t256 t244 1).bind fun t268 => (if t268 < 0 then (some false) else (if t268 = t255 then (some true) else (some false)))) else (some false))) = some r := H
         have A79 := Aside0.mk A790
         clear A790
         replace H := Option.bind_eq_some_iff.mp H
         obtain ⟨t267, A800, H⟩ := H
         replace H : (if t267 = true then ((laws_heldTable.f kj48 t256 t244 1).bind fun t268 => (if t268 < 0 then (some false) else (if t268 = t255 then (some true) else (some false)))) else (some false)) = some r := H
         have A80 := Aside0.mk A800
         clear A800
         have HC81 := Aside0.mk H
         clear H
         have hnb82 := NB225_235.out
         have hnc82 := NB235_225.out
         have hnb83 := NB225_240.out
         have hnc83 := NB240_225.out
         have hnb84 := NB225_245.out
         have hnc84 := NB245_225.out
         have hcz85_0 : w75.cell? ⟨gb225, 0, none⟩ = some (.slice A0_0 l0_0.length c0_0) := (blk_cell BK225.out 0).trans rfl
         have hcz85_1 : w75.cell? ⟨gb225, 1, none⟩ = some (.int .i64 a0_1) := (blk_cell BK225.out 1).trans rfl
         have hfz85_0 := blk_frozen BK225.out 0
         have hfz85_1 := blk_frozen BK225.out 1
         go_upto_if 65 with (first | ((with_reducible refine gq 25 rfl ?_); refine gl (some 59) Try.func25 #[.agg #[.slice A0_0 l0_0.length c0_0, .int .i64 a0_1]] ?_; (with_reducible refine (laws_toTable.calls kj48 _ _ l0_0 a0_1 t258 t261 _ ?side1 ?side2 A78.out).mono ?_); (case side1 => exact zc (Kd.C_below HR0_0.out HB.out)); (case side2 => exact HC0_0.out); rintro e w86 ⟨v259, rfl, ho0, hb⟩; refine ⟨_, rfl, ?_⟩; have HO260 := Aside0.mk (Kd.R_lower (Kd.R_new' (Kd.R_new' (Kd.R_new' ho0 (Kd.R_lt (zr HO_236000))) (Kd.R_lt (zr HO_241000))) (Kd.R_lt (zr HO_246000))) (below_size (zb HB))); replace HO_236000 := Aside0.mk (Kd.R_elder' (zr HO_236000) (Kd.R_base ho0) hb); replace HO_241000 := Aside0.mk (Kd.R_elder' (zr HO_241000) (Kd.R_base ho0) hb); replace HO_246000 := Aside0.mk (Kd.R_elder' (zr HO_246000) (Kd.R_base ho0) hb); replace BK225 := Aside0.mk (blk_below (g := gb225) (o := .cells #[.slice A0_0 l0_0.length c0_0, .int .i64 a0_1] 40 (0, 0)) (zk BK225) hb); replace BK235 := Aside0.mk (blk_below (g := gb235) (o := .cells #[.slice Ao20 t231.length co20, .int .i64 t234] 25 (0, 0)) (zk BK235) hb); replace BK240 := Aside0.mk (blk_below (g := gb240) (o := .cells #[.slice Ao26 t253.length co26, .int .i64 t239] 25 (0, 0)) (zk BK240) hb); replace BK245 := Aside0.mk (blk_below (g := gb245) (o := .cells #[.slice Ao32 t241.length co32, .int .i64 t244] 25 (0, 0)) (zk BK245) hb); replace HB := Aside0.mk (below_step (zb HB) hb); (try clear hb); (try clear ho0); obtain ⟨Ao87, co87, eo87⟩ := Kd.R_slice HO260.out; subst eo87) | ((with_reducible refine gq 16 rfl ?_); refine gl (some 61) Try.func16 #[.agg #[.slice Ao87 t258.length co87, .int .i64 t261], .int .i64 a1] ?_; (with_reducible refine (impl_TableLimit.calls kj48 _ _ t258 t261 a1 t262 t265 _ ?side1 ?side2 A79.out).mono ?_); (case side1 => exact zc (Kd.R_reads' HO260.out).2.2); (case side2 => exact (Kd.R_reads' HO260.out).2.1); rintro e w88 ⟨v263, rfl, ho0, hb⟩; refine ⟨_, rfl, ?_⟩; have HO264 := Aside0.mk (Kd.R_lower (Kd.R_new' (Kd.R_new' (Kd.R_new' (Kd.R_new' ho0 (Kd.R_lt (zr HO_236000))) (Kd.R_lt (zr HO_241000))) (Kd.R_lt (zr HO_246000))) (Kd.R_lt (zr HO260))) (below_size (zb HB))); replace HO_236000 := Aside0.mk (Kd.R_elder' (zr HO_236000) (Kd.R_base ho0) hb); replace HO_241000 := Aside0.mk (Kd.R_elder' (zr HO_241000) (Kd.R_base ho0) hb); replace HO_246000 := Aside0.mk (Kd.R_elder' (zr HO_246000) (Kd.R_base ho0) hb); replace HO260 := Aside0.mk (Kd.R_elder' (zr HO260) (Kd.R_base ho0) hb); replace BK225 := Aside0.mk (blk_below (g := gb225) (o := .cells #[.slice A0_0 l0_0.length c0_0, .int .i64 a0_1] 40 (0, 0)) (zk BK225) hb); replace BK235 := Aside0.mk (blk_below (g := gb235) (o := .cells #[.slice Ao20 t231.length co20, .int .i64 t234] 25 (0, 0)) (zk BK235) hb); replace BK240 := Aside0.mk (blk_below (g := gb240) (o := .cells #[.slice Ao26 t253.length co26, .int .i64 t239] 25 (0, 0)) (zk BK240) hb); replace BK245 := Aside0.mk (blk_below (g := gb245) (o := .cells #[.slice Ao32 t241.length co32, .int .i64 t244] 25 (0, 0)) (zk BK245) hb); replace HB := Aside0.mk (below_step (zb HB) hb); (try clear hb); (try clear ho0)) | ((with_reducible refine gd 12 rfl ?_); refine bx (N := 12) (cs := #[.slice none 0 0, .int .i64 0]) (t := 25) ?_; intro gb266 hg w89 hbox hb; replace HO_236000 := Aside0.mk (Kd.R_below (zr HO_236000) hb); replace HO_241000 := Aside0.mk (Kd.R_below (zr HO_241000) hb); replace HO_246000 := Aside0.mk (Kd.R_below (zr HO_246000) hb); replace HO260 := Aside0.mk (Kd.R_below (zr HO260) hb); replace HO264 := Aside0.mk (Kd.R_below (zr HO264) hb); have BK266 := Aside0.mk (hbox); have GW266 := Aside0.mk ((by rw [hg]; exact (below_size (zb HB)) : w.heap.size ≤ gb266)); have GE266 := Aside0.mk ((by rw [hg]; exact (below_size (zb HB)) : w.heap.size ≤ gb266)); replace HB := Aside0.mk (below_step (zb HB) hb); have NB225_266 := Aside0.mk ((by rw [hg]; exact Nat.ne_of_lt (blk_lt (g := gb225) (o := .cells #[.slice A0_0 l0_0.length c0_0, .int .i64 a0_1] 40 (0, 0)) (zk BK225)) : gb225 ≠ gb266)); have NB266_225 := Aside0.mk ((by rw [hg]; exact Nat.ne_of_gt (blk_lt (g := gb225) (o := .cells #[.slice A0_0 l0_0.length c0_0, .int .i64 a0_1] 40 (0, 0)) (zk BK225)) : gb266 ≠ gb225)); replace BK225 := Aside0.mk (blk_below (g := gb225) (o := .cells #[.slice A0_0 l0_0.length c0_0, .int .i64 a0_1] 40 (0, 0)) (zk BK225) hb); have NB235_266 := Aside0.mk ((by rw [hg]; exact Nat.ne_of_lt (blk_lt (g := gb235) (o := .cells #[.slice Ao20 t231.length co20, .int .i64 t234] 25 (0, 0)) (zk BK235)) : gb235 ≠ gb266)); have NB266_235 := Aside0.mk ((by rw [hg]; exact Nat.ne_of_gt (blk_lt (g := gb235) (o := .cells #[.slice Ao20 t231.length co20, .int .i64 t234] 25 (0, 0)) (zk BK235)) : gb266 ≠ gb235)); replace BK235 := Aside0.mk (blk_below (g := gb235) (o := .cells #[.slice Ao20 t231.length co20, .int .i64 t234] 25 (0, 0)) (zk BK235) hb); have NB240_266 := Aside0.mk ((by rw [hg]; exact Nat.ne_of_lt (blk_lt (g := gb240) (o := .cells #[.slice Ao26 t253.length co26, .int .i64 t239] 25 (0, 0)) (zk BK240)) : gb240 ≠ gb266)); have NB266_240 := Aside0.mk ((by rw [hg]; exact Nat.ne_of_gt (blk_lt (g := gb240) (o := .cells #[.slice Ao26 t253.length co26, .int .i64 t239] 25 (0, 0)) (zk BK240)) : gb266 ≠ gb240)); replace BK240 := Aside0.mk (blk_below (g := gb240) (o := .cells #[.slice Ao26 t253.length co26, .int .i64 t239] 25 (0, 0)) (zk BK240) hb); have NB245_266 := Aside0.mk ((by rw [hg]; exact Nat.ne_of_lt (blk_lt (g := gb245) (o := .cells #[.slice Ao32 t241.length co32, .int .i64 t244] 25 (0, 0)) (zk BK245)) : gb245 ≠ gb266)); have NB266_245 := Aside0.mk ((by rw [hg]; exact Nat.ne_of_gt (blk_lt (g := gb245) (o := .cells #[.slice Ao32 t241.length co32, .int .i64 t244] 25 (0, 0)) (zk BK245)) : gb266 ≠ gb245)); replace BK245 := Aside0.mk (blk_below (g := gb245) (o := .cells #[.slice Ao32 t241.length co32, .int .i64 t244] 25 (0, 0)) (zk BK245) hb); clear hb hbox hg; obtain ⟨Ao90, co90, eo90⟩ := Kd.R_slice HO264.out; subst eo90; have hnb91 := NB266_225.out; have hnc91 := NB225_266.out; have hnb92 := NB266_235.out; have hnc92 := NB235_266.out; have hnb93 := NB266_240.out; have hnc93 := NB240_266.out; have hnb94 := NB266_245.out; have hnc94 := NB245_266.out; have hcz95_0 : w89.cell? ⟨gb266, 0, none⟩ = some (.slice none 0 0) := (blk_cell BK266.out 0).trans rfl; have hcz95_1 : w89.cell? ⟨gb266, 1, none⟩ = some (.int .i64 0) := (blk_cell BK266.out 1).trans rfl; have hfz95_0 := blk_frozen BK266.out 0; have hfz95_1 := blk_frozen BK266.out 1; have hnb96 := NB235_240.out; have hnc96 := NB240_235.out; have hnb97 := NB235_245.out; have hnc97 := NB245_235.out; have hcz98_0 : w89.cell? ⟨gb235, 0, none⟩ = some (.slice Ao20 t231.length co20) := (blk_cell BK235.out 0).trans rfl; have hcz98_1 : w89.cell? ⟨gb235, 1, none⟩ = some (.int .i64 t234) := (blk_cell BK235.out 1).trans rfl; have hfz98_0 := blk_frozen BK235.out 0; have hfz98_1 := blk_frozen BK235.out 1) | ((with_reducible refine gq 26 rfl ?_); refine gl (some 64) Try.func26 #[.agg #[.slice Ao90 t262.length co90, .int .i64 t265], .agg #[.slice Ao20 t231.length co20, .int .i64 t234]] ?_; (with_reducible refine (laws_eqTable.calls kj48 _ _ t262 t265 _ _ t231 t234 t267 _ ?side1 ?side2 ?side3 ?side4 A80.out).mono ?_); (case side1 => refine (Kd.R_reads' (e := 36) (base := w.heap.size) (ok := fun k_ => ((((True ∧ some k_ ≠ (.slice Ao20 t231.length co20 : Value).ownBlock) ∧ some k_ ≠ (.slice Ao26 t253.length co26 : Value).ownBlock) ∧ some k_ ≠ (.slice Ao32 t241.length co32 : Value).ownBlock) ∧ some k_ ≠ (.slice Ao87 t258.length co87 : Value).ownBlock)) (n := t262.length) (c := co90) ?_).2.2; exact (by (with_reducible repeat (first | apply Kd.R_alloc | apply Kd.R_drewN | apply Kd.R_drew)); exact (Kd.R_mono (Kd.R_far (p := ⟨gb266, 1, none⟩) (Kd.R_far (p := ⟨gb266, 0, none⟩) (Kd.R_types HO264.out BK266.out (by decide)) (fun _ hk => hk.2) (.slice Ao90 t262.length co90)) (fun _ hk => hk.2) (.int .i64 t265)) (fun _ h_ => h_.1)))); (case side2 => exact (Kd.R_reads' HO264.out).2.1); (case side3 => refine (Kd.R_reads' (e := 36) (base := w.heap.size) (ok := fun k_ => (((some k_ ≠ (.slice Ao26 t253.length co26 : Value).ownBlock ∧ some k_ ≠ (.slice Ao32 t241.length co32 : Value).ownBlock) ∧ some k_ ≠ (.slice Ao87 t258.length co87 : Value).ownBlock) ∧ some k_ ≠ (.slice Ao90 t262.length co90 : Value).ownBlock)) (n := t231.length) (c := co20) ?_).2.2; exact (by (with_reducible repeat (first | apply Kd.R_alloc | apply Kd.R_drewN | apply Kd.R_drew)); exact (Kd.R_mono (Kd.R_far (p := ⟨gb266, 1, none⟩) (Kd.R_far (p := ⟨gb266, 0, none⟩) (Kd.R_types HO_236000.out BK266.out (by decide)) (fun _ hk => hk.2) (.slice Ao90 t262.length co90)) (fun _ hk => hk.2) (.int .i64 t265)) (fun _ h_ => h_.1)))); (case side4 => exact (Kd.R_reads' HO_236000.out).2.1); rintro e w99 ⟨rfl, hb⟩; refine ⟨_, rfl, ?_⟩; replace HO_236000 := Aside0.mk (Kd.R_below (by (with_reducible repeat (first | apply Kd.R_alloc | apply Kd.R_drewN | apply Kd.R_drew)); exact (Kd.R_mono (Kd.R_far (p := ⟨gb266, 1, none⟩) (Kd.R_far (p := ⟨gb266, 0, none⟩) (Kd.R_types HO_236000.out BK266.out (by decide)) (fun _ hk => hk.2) (.slice Ao90 t262.length co90)) (fun _ hk => hk.2) (.int .i64 t265)) (fun _ h_ => h_.1))) hb); replace HO_241000 := Aside0.mk (Kd.R_below (by (with_reducible repeat (first | apply Kd.R_alloc | apply Kd.R_drewN | apply Kd.R_drew)); exact (Kd.R_mono (Kd.R_far (p := ⟨gb266, 1, none⟩) (Kd.R_far (p := ⟨gb266, 0, none⟩) (Kd.R_types HO_241000.out BK266.out (by decide)) (fun _ hk => hk.2) (.slice Ao90 t262.length co90)) (fun _ hk => hk.2) (.int .i64 t265)) (fun _ h_ => h_.1))) hb); replace HO_246000 := Aside0.mk (Kd.R_below (by (with_reducible repeat (first | apply Kd.R_alloc | apply Kd.R_drewN | apply Kd.R_drew)); exact (Kd.R_mono (Kd.R_far (p := ⟨gb266, 1, none⟩) (Kd.R_far (p := ⟨gb266, 0, none⟩) (Kd.R_types HO_246000.out BK266.out (by decide)) (fun _ hk => hk.2) (.slice Ao90 t262.length co90)) (fun _ hk => hk.2) (.int .i64 t265)) (fun _ h_ => h_.1))) hb); replace HO260 := Aside0.mk (Kd.R_below (by (with_reducible repeat (first | apply Kd.R_alloc | apply Kd.R_drewN | apply Kd.R_drew)); exact (Kd.R_mono (Kd.R_far (p := ⟨gb266, 1, none⟩) (Kd.R_far (p := ⟨gb266, 0, none⟩) (Kd.R_types HO260.out BK266.out (by decide)) (fun _ hk => hk.2) (.slice Ao90 t262.length co90)) (fun _ hk => hk.2) (.int .i64 t265)) (fun _ h_ => h_.1))) hb); replace HO264 := Aside0.mk (Kd.R_below (by (with_reducible repeat (first | apply Kd.R_alloc | apply Kd.R_drewN | apply Kd.R_drew)); exact (Kd.R_mono (Kd.R_far (p := ⟨gb266, 1, none⟩) (Kd.R_far (p := ⟨gb266, 0, none⟩) (Kd.R_types HO264.out BK266.out (by decide)) (fun _ hk => hk.2) (.slice Ao90 t262.length co90)) (fun _ hk => hk.2) (.int .i64 t265)) (fun _ h_ => h_.1))) hb); replace BK225 := Aside0.mk (blk_below (g := gb225) (o := .cells #[.slice A0_0 l0_0.length c0_0, .int .i64 a0_1] 40 (0, 0)) (by (with_reducible repeat (first | refine blk_drewN ?_ _ | refine blk_drew ?_ | refine blk_alloc ?_ _)); refine blk_far ?_ NB225_266.out _; (with_reducible repeat (first | refine blk_drewN ?_ _ | refine blk_drew ?_ | refine blk_alloc ?_ _)); refine blk_far ?_ NB225_266.out _; exact zk BK225) hb); replace BK235 := Aside0.mk (blk_below (g := gb235) (o := .cells #[.slice Ao20 t231.length co20, .int .i64 t234] 25 (0, 0)) (by (with_reducible repeat (first | refine blk_drewN ?_ _ | refine blk_drew ?_ | refine blk_alloc ?_ _)); refine blk_far ?_ NB235_266.out _; (with_reducible repeat (first | refine blk_drewN ?_ _ | refine blk_drew ?_ | refine blk_alloc ?_ _)); refine blk_far ?_ NB235_266.out _; exact zk BK235) hb); replace BK240 := Aside0.mk (blk_below (g := gb240) (o := .cells #[.slice Ao26 t253.length co26, .int .i64 t239] 25 (0, 0)) (by (with_reducible repeat (first | refine blk_drewN ?_ _ | refine blk_drew ?_ | refine blk_alloc ?_ _)); refine blk_far ?_ NB240_266.out _; (with_reducible repeat (first | refine blk_drewN ?_ _ | refine blk_drew ?_ | refine blk_alloc ?_ _)); refine blk_far ?_ NB240_266.out _; exact zk BK240) hb); replace BK245 := Aside0.mk (blk_below (g := gb245) (o := .cells #[.slice Ao32 t241.length co32, .int .i64 t244] 25 (0, 0)) (by (with_reducible repeat (first | refine blk_drewN ?_ _ | refine blk_drew ?_ | refine blk_alloc ?_ _)); refine blk_far ?_ NB245_266.out _; (with_reducible repeat (first | refine blk_drewN ?_ _ | refine blk_drew ?_ | refine blk_alloc ?_ _)); refine blk_far ?_ NB245_266.out _; exact zk BK245) hb); replace BK266 := Aside0.mk (blk_below (g := gb266) (o := .cells #[.slice Ao90 t262.length co90, .int .i64 t265] 25 (0, 0)) (by (with_reducible repeat (first | refine blk_drewN ?_ _ | refine blk_drew ?_ | refine blk_alloc ?_ _)); refine blk_put (cs := #[.slice Ao90 t262.length co90, .int .i64 0]) ?_ 1 _ rfl; (with_reducible repeat (first | refine blk_drewN ?_ _ | refine blk_drew ?_ | refine blk_alloc ?_ _)); refine blk_put (cs := #[.slice none 0 0, .int .i64 0]) ?_ 0 _ rfl; exact zk BK266) hb); replace HB := Aside0.mk (below_step (zb HB) hb); (try clear hb); (try clear hk)))
         (try simp only [Act.put, s1, s2, s3])
         have H := HC81.out
         clear HC81
         by_cases c100 : t267 = true
         ·subst c100
          have H1 : ((laws_heldTable.f kj48 t256 t244 1).bind fun t268 => (if t268 < 0 then (some false) else (if t268 = t255 then (some true) else (some false)))) = some r := by rw [if_pos rfl] at H; exact H
          clear H
          have H := H1
          clear H1
          replace H := Option.bind_eq_some_iff.mp H
          obtain ⟨t268, A1010, H⟩ := H
          replace H : (if t268 < 0 then (some false) else (if t268 = t255 then (some true) else (some false))) = some r := H
          have A101 := Aside0.mk A1010
          clear A1010
          by_cases c102 : t268 < 0
          ·rw [if_pos c102] at H
           have c102b0 : decide (t268 < 0) = true := decide_eq_true c102
           clear c102
           (first | rw [c102b0] | (simp only [i64_w, i32_w]; rw [c102b0]) | skip)
           obtain rfl := Option.some.inj H
           have hnb103 := NB245_225.out
           have hnc103 := NB225_245.out
           have hnb104 := NB245_235.out
           have hnc104 := NB235_245.out
           have hnb105 := NB245_240.out
           have hnc105 := NB240_245.out
           have hnb106 := NB245_266.out
           have hnc106 := NB266_245.out
           have hcz107_0 : w99.cell? ⟨gb245, 0, none⟩ = some (.slice Ao32 t241.length co32) := (blk_cell BK245.out 0).trans rfl
           have hcz107_1 : w99.cell? ⟨gb245, 1, none⟩ = some (.int .i64 t244) := (blk_cell BK245.out 1).trans rfl
           have hfz107_0 := blk_frozen BK245.out 0
           have hfz107_1 := blk_frozen BK245.out 1
           go_wp2_with (first | ((with_reducible refine gq 28 rfl ?_); refine goesL_ (some 68) rfl rfl Try.func28 (by kernel_rfl) rfl #[.agg #[.slice Ao32 t256.length co32, .int .i64 t244], .int .i64 1] rfl (by (try simp only [List.map_toArray, List.map_cons, List.map_nil]); first | done | (rw [show t256.length = t241.length from (Kd.R_reads' HO_246000.out).1.symm] <;> rfl) | rfl | (simp only [List.length_drop, List.length_take]; rfl)) ?_; (with_reducible refine (laws_heldTable.calls kj48 _ _ t256 t244 1 t268 _ ?side1 ?side2 A101.out).mono ?_); (case side1 => exact zc (Kd.R_reads' HO_246000.out).2.2); (case side2 => rw [show t256.length = t241.length from (Kd.R_reads' HO_246000.out).1.symm]; exact (Kd.R_reads' HO_246000.out).2.1); rintro e w108 ⟨rfl, hb⟩; refine ⟨_, rfl, ?_⟩; replace HO_236000 := Aside0.mk (Kd.R_below (zr HO_236000) hb); replace HO_241000 := Aside0.mk (Kd.R_below (zr HO_241000) hb); replace HO_246000 := Aside0.mk (Kd.R_below (zr HO_246000) hb); replace HO260 := Aside0.mk (Kd.R_below (zr HO260) hb); replace HO264 := Aside0.mk (Kd.R_below (zr HO264) hb); replace BK225 := Aside0.mk (blk_below (g := gb225) (o := .cells #[.slice A0_0 l0_0.length c0_0, .int .i64 a0_1] 40 (0, 0)) (zk BK225) hb); replace BK235 := Aside0.mk (blk_below (g := gb235) (o := .cells #[.slice Ao20 t231.length co20, .int .i64 t234] 25 (0, 0)) (zk BK235) hb); replace BK240 := Aside0.mk (blk_below (g := gb240) (o := .cells #[.slice Ao26 t253.length co26, .int .i64 t239] 25 (0, 0)) (zk BK240) hb); replace BK245 := Aside0.mk (blk_below (g := gb245) (o := .cells #[.slice Ao32 t241.length co32, .int .i64 t244] 25 (0, 0)) (zk BK245) hb); replace BK266 := Aside0.mk (blk_below (g := gb266) (o := .cells #[.slice Ao90 t262.length co90, .int .i64 t265] 25 (0, 0)) (zk BK266) hb); replace HB := Aside0.mk (below_step (zb HB) hb); (try clear hb)))
           go_ret
           exact ⟨ze, zb HB⟩
          ·rw [if_neg c102] at H
           have c102b0 : decide (t268 < 0) = false := decide_eq_false c102
           clear c102
           (first | rw [c102b0] | (simp only [i64_w, i32_w]; rw [c102b0]) | skip)
           by_cases c109 : t268 = t255
           ·rw [if_pos c109] at H
            have c109b0 : (t268 == t255) = true := beq_iff_eq.mpr c109
            have c109b1 : (t268 != t255) = false := bne_eq_false_iff_eq.mpr c109
            clear c109
            obtain rfl := Option.some.inj H
            have hnb110 := NB245_225.out
            have hnc110 := NB225_245.out
            have hnb111 := NB245_235.out
            have hnc111 := NB235_245.out
            have hnb112 := NB245_240.out
            have hnc112 := NB240_245.out
            have hnb113 := NB245_266.out
            have hnc113 := NB266_245.out
            have hcz114_0 : w99.cell? ⟨gb245, 0, none⟩ = some (.slice Ao32 t241.length co32) := (blk_cell BK245.out 0).trans rfl
            have hcz114_1 : w99.cell? ⟨gb245, 1, none⟩ = some (.int .i64 t244) := (blk_cell BK245.out 1).trans rfl
            have hfz114_0 := blk_frozen BK245.out 0
            have hfz114_1 := blk_frozen BK245.out 1
            go_wp2_with (first | ((with_reducible refine gq 28 rfl ?_); refine goesL_ (some 68) rfl rfl Try.func28 (by kernel_rfl) rfl #[.agg #[.slice Ao32 t256.length co32, .int .i64 t244], .int .i64 1] rfl (by (try simp only [List.map_toArray, List.map_cons, List.map_nil]); first | done | (rw [show t256.length = t241.length from (Kd.R_reads' HO_246000.out).1.symm] <;> rfl) | rfl | (simp only [List.length_drop, List.length_take]; rfl)) ?_; (with_reducible refine (laws_heldTable.calls kj48 _ _ t256 t244 1 t268 _ ?side1 ?side2 A101.out).mono ?_); (case side1 => exact zc (Kd.R_reads' HO_246000.out).2.2); (case side2 => rw [show t256.length = t241.length from (Kd.R_reads' HO_246000.out).1.symm]; exact (Kd.R_reads' HO_246000.out).2.1); rintro e w115 ⟨rfl, hb⟩; refine ⟨_, rfl, ?_⟩; replace HO_236000 := Aside0.mk (Kd.R_below (zr HO_236000) hb); replace HO_241000 := Aside0.mk (Kd.R_below (zr HO_241000) hb); replace HO_246000 := Aside0.mk (Kd.R_below (zr HO_246000) hb); replace HO260 := Aside0.mk (Kd.R_below (zr HO260) hb); replace HO264 := Aside0.mk (Kd.R_below (zr HO264) hb); replace BK225 := Aside0.mk (blk_below (g := gb225) (o := .cells #[.slice A0_0 l0_0.length c0_0, .int .i64 a0_1] 40 (0, 0)) (zk BK225) hb); replace BK235 := Aside0.mk (blk_below (g := gb235) (o := .cells #[.slice Ao20 t231.length co20, .int .i64 t234] 25 (0, 0)) (zk BK235) hb); replace BK240 := Aside0.mk (blk_below (g := gb240) (o := .cells #[.slice Ao26 t253.length co26, .int .i64 t239] 25 (0, 0)) (zk BK240) hb); replace BK245 := Aside0.mk (blk_below (g := gb245) (o := .cells #[.slice Ao32 t241.length co32, .int .i64 t244] 25 (0, 0)) (zk BK245) hb); replace BK266 := Aside0.mk (blk_below (g := gb266) (o := .cells #[.slice Ao90 t262.length co90, .int .i64 t265] 25 (0, 0)) (zk BK266) hb); replace HB := Aside0.mk (below_step (zb HB) hb); (try clear hb)))
            go_ret
            exact ⟨ze, zb HB⟩
           ·rw [if_neg c109] at H
            have c109b0 : (t268 == t255) = false := beq_eq_false_iff_ne.mpr c109
            have c109b1 : (t268 != t255) = true := bne_iff_ne.mpr c109
            obtain rfl := Option.some.inj H
            have hnb116 := NB245_225.out
            have hnc116 := NB225_245.out
            have hnb117 := NB245_235.out
            have hnc117 := NB235_245.out
            have hnb118 := NB245_240.out
            have hnc118 := NB240_245.out
            have hnb119 := NB245_266.out
            have hnc119 := NB266_245.out
            have hcz120_0 : w99.cell? ⟨gb245, 0, none⟩ = some (.slice Ao32 t241.length co32) := (blk_cell BK245.out 0).trans rfl
            have hcz120_1 : w99.cell? ⟨gb245, 1, none⟩ = some (.int .i64 t244) := (blk_cell BK245.out 1).trans rfl
            have hfz120_0 := blk_frozen BK245.out 0
            have hfz120_1 := blk_frozen BK245.out 1
            go_wp2_with (first | ((with_reducible refine gq 28 rfl ?_); refine goesL_ (some 68) rfl rfl Try.func28 (by kernel_rfl) rfl #[.agg #[.slice Ao32 t256.length co32, .int .i64 t244], .int .i64 1] rfl (by (try simp only [List.map_toArray, List.map_cons, List.map_nil]); first | done | (rw [show t256.length = t241.length from (Kd.R_reads' HO_246000.out).1.symm] <;> rfl) | rfl | (simp only [List.length_drop, List.length_take]; rfl)) ?_; (with_reducible refine (laws_heldTable.calls kj48 _ _ t256 t244 1 t268 _ ?side1 ?side2 A101.out).mono ?_); (case side1 => exact zc (Kd.R_reads' HO_246000.out).2.2); (case side2 => rw [show t256.length = t241.length from (Kd.R_reads' HO_246000.out).1.symm]; exact (Kd.R_reads' HO_246000.out).2.1); rintro e w121 ⟨rfl, hb⟩; refine ⟨_, rfl, ?_⟩; replace HO_236000 := Aside0.mk (Kd.R_below (zr HO_236000) hb); replace HO_241000 := Aside0.mk (Kd.R_below (zr HO_241000) hb); replace HO_246000 := Aside0.mk (Kd.R_below (zr HO_246000) hb); replace HO260 := Aside0.mk (Kd.R_below (zr HO260) hb); replace HO264 := Aside0.mk (Kd.R_below (zr HO264) hb); replace BK225 := Aside0.mk (blk_below (g := gb225) (o := .cells #[.slice A0_0 l0_0.length c0_0, .int .i64 a0_1] 40 (0, 0)) (zk BK225) hb); replace BK235 := Aside0.mk (blk_below (g := gb235) (o := .cells #[.slice Ao20 t231.length co20, .int .i64 t234] 25 (0, 0)) (zk BK235) hb); replace BK240 := Aside0.mk (blk_below (g := gb240) (o := .cells #[.slice Ao26 t253.length co26, .int .i64 t239] 25 (0, 0)) (zk BK240) hb); replace BK245 := Aside0.mk (blk_below (g := gb245) (o := .cells #[.slice Ao32 t241.length co32, .int .i64 t244] 25 (0, 0)) (zk BK245) hb); replace BK266 := Aside0.mk (blk_below (g := gb266) (o := .cells #[.slice Ao90 t262.length co90, .int .i64 t265] 25 (0, 0)) (zk BK266) hb); replace HB := Aside0.mk (below_step (zb HB) hb); (try clear hb)))
            go_ret
            exact ⟨ze, zb HB⟩
         ·replace c100 := Bool.eq_false_iff.mpr c100
          subst c100
          have H1 : (some false) = some r := by rw [if_neg (show ¬ (false = true) by decide)] at H; exact H
          clear H
          have H := H1
          clear H1
          obtain rfl := Option.some.inj H
          go_wp2
          go_ret
          exact ⟨ze, zb HB⟩
        ·rw [if_neg c77] at H
         have c77b0 : (t257 == t255) = false := beq_eq_false_iff_ne.mpr c77
         have c77b1 : (t257 != t255) = true := bne_iff_ne.mpr c77
         obtain rfl := Option.some.inj H
         go_wp2
         go_ret
         exact ⟨ze, zb HB⟩
   ·replace c47 := Bool.eq_false_iff.mpr c47
    subst c47
    have H1 : (some false) = some r := by rw [if_neg (show ¬ (false = true) by decide)] at H; exact H
    clear H
    have H := H1
    clear H1
    obtain rfl := Option.some.inj H
    go_wp2
    go_ret
    exact ⟨ze, zb HB⟩
  ·replace c39 := Bool.eq_false_iff.mpr c39
   subst c39
   have H1 : (some false) = some r := by rw [if_neg (show ¬ (false = true) by decide)] at H; exact H
   clear H
   have H := H1
   clear H1
   obtain rfl := Option.some.inj H
   go_wp2
   go_ret
   exact ⟨ze, zb HB⟩

end Go.Proofs.Ytdhahifdcoinhaa.PFnExactTableLimit
