-- WRITTEN BY a turned print (wip/tools of the prover's repo)
import Derived.Test.YtlpibelofcabhaaPFnExactWorldFramesx0
import Derived.Test.YtlpibelofcabhaaPFnExactWorldFramesx2
namespace Go.Proofs.Ytlpibelofcabhaa.PFnExactWorldFrames
open Go.RowKit Go.Proofs.YtlpibelofcabhaaW.PrintWords Go.Proofs.YtlpibelofcabhaaW.PrintLast Go.Proofs.YtlpibelofcabhaaW.PrintMore Go.Proofs.Ytlpibelofcabhaa.Lm
attribute [local go_sem] max2_int min2_int max_two min_two max_three min_three max_four min_four   -- for this text's walks alone
set_option linter.unusedVariables false
set_option linter.unusedSimpArgs false

/-! ### laws_heldFrameS: function 46 -/
-- thin
def laws_heldFrameS.l0 : Nat → List (S110) → Int → Int → Option (Int)
 | 0, _, _, _ => none
 | k + 1, x0, x1, x5 => if x5 < (x0.length : Int) then (if 0 ≤ x5 then (if ((rd_T110 x0 x5).f0) = x1 then (if (((rd_T110 x0 x5).f1) != ((Int.tmod (wrap64 (x1 + 1)) 3) == 0)) = true then (some (-1)) else (if ((rd_T110 x0 x5).f2) = (wrap64 ((wrap64 (x1 + 1)) + 1)) then ((laws_markText.f k (wrap64 ((wrap64 ((wrap64 (x1 + 1)) + 1)) + 1))).bind fun t399 => (if ((rd_T110 x0 x5).f3).toList = t399.toList then (laws_heldFrameS.l0 k x0 (wrap64 ((wrap64 ((wrap64 ((wrap64 (x1 + 1)) + 1)) + 1)) + 1)) (wrap64 (x5 + 1))) else (some (-1)))) else (some (-1)))) else (some (-1))) else (none)) else (some x1)
def laws_heldFrameS.f (k : Nat) (l0 : List (S110)) (a1 : Int) : Option (Int) := laws_heldFrameS.l0 k l0 a1 0
theorem laws_heldFrameS.mono_l : ∀ k, (∀ y0 y1 y2, LeO (laws_heldFrameS.l0 k y0 y1 y2) (laws_heldFrameS.l0 (k + 1) y0 y1 y2))
 | 0 => fun _ _ _ r h => by simp [laws_heldFrameS.l0] at h
 | k + 1 => by
  have ih0 := laws_heldFrameS.mono_l k
  ·intro y0 y1 y2
   unfold laws_heldFrameS.l0
   have m0 := @laws_markText.mono
   exact zm
theorem laws_heldFrameS.mono : ∀ a0 a1 k, LeO (laws_heldFrameS.f k a0 a1) (laws_heldFrameS.f (k + 1) a0 a1) := by
 intro a0 a1 k
 have ih0 := laws_heldFrameS.mono_l k
 unfold laws_heldFrameS.f
 have m0 := @laws_markText.mono
 exact zm
def laws_heldFrameS.T13 : Bool × List (List Nat × List Nat) := (true, [([], []), ([], []), ([0, 1], [0, 1]), ([2], [2]), ([3], [3]), ([], []), ([5], [5]), ([4, 6], [4, 6])])
def laws_heldFrameS.B13 : List Nat := [0, 0, 3, 7, 15, 0, 32, 127]
theorem laws_heldFrameS.tab13 : rtab .any (opsOf Try.f46 13) = laws_heldFrameS.T13 := by kernel_rfl
theorem laws_heldFrameS.bits13 : waitsOk laws_heldFrameS.T13.2 laws_heldFrameS.B13 = true := by kernel_rfl
set_option maxHeartbeats 8000000 in
set_option maxRecDepth 100000 in
theorem laws_heldFrameS.calls (k : Nat) (A0 : Option Addr) (c0 : Nat) (l0 : List (S110)) (a1 : Int) (r : Int) (w : World) (hr0 : Kd.C k110 w A0 l0.length l0) (hc0 : l0.length ≤ c0) (h : laws_heldFrameS.f k l0 a1 = some r) :
  Calls Try.prog 46 #[.slice A0 l0.length c0, .int .i64 a1] w fun e w' => e = .returned (.int .i64 r) ∧ Below w.heap.size w w' := by
 have HR0 := Aside0.mk hr0
 have HC0 := Aside0.mk hc0
 clear hr0 hc0
 have HB := Aside0.mk (Below.refl w.heap.size w)
 have H : (laws_heldFrameS.l0 k l0 a1 0) = some r := h
 clear h
 have H' := Aside0.mk H
 clear H
 go_enter Try.func46, Try.ntmps46
 go_wp2
 go_loopg [1, 5] k (fun kq v1 v5 w' => ∃ (x1_1 : Int) (x5_1 : Int), v1 = .int .i64 x1_1 ∧ v5 = .int .i64 x5_1 ∧ Aside0 (laws_heldFrameS.l0 kq l0 x1_1 x5_1 = some r) ∧ Aside0 (kq ≤ k) ∧ Aside0 (Below w.heap.size w w'))
 case atStart => exact ⟨(a1), (0), zs, zs, H', ⟨Nat.le_refl _⟩, ⟨zb HB⟩⟩
 case round =>
  clear H'
  try clear p2
  obtain ⟨x1_1, x5_1, rfl, rfl, HA, HK1, HB⟩ := hrel
  cases gk with
  | zero => exact absurd HA.out (by simp [laws_heldFrameS.l0])
  | succ k1 =>
   have H := HA.out
   clear HA
   simp only [laws_heldFrameS.l0] at H
   replace H := sp H
   rcases H with ⟨c3, H⟩ | ⟨c3, H⟩
   ·skip
    have c3b0 := decide_eq_true c3
    clear c3
    by_cases c4 : 0 ≤ x5_1
    ·rw [if_pos c4] at H
     have c4b0 := decide_eq_true c4
     clear c4
     by_cases c5 : ((rd_T110 l0 x5_1).f0) = x1_1
     ·rw [if_pos c5] at H
      have c5b0 : (((rd_T110 l0 x5_1).f0) == x1_1) = true := beq_iff_eq.mpr c5
      have c5b1 : (((rd_T110 l0 x5_1).f0) != x1_1) = false := bne_eq_false_iff_eq.mpr c5
      clear c5
      have HC6 := Aside0.mk H
      clear H
      have p395 : 0 ≤ (x5_1 : Int) := of_decide_eq_true za
      have q395 : x5_1 < (l0.length : Int) := of_decide_eq_true za
      obtain ⟨ad395, e395, hx395_0, hx395_1, hx395_2, hx395_3⟩ := at_T110 HR0.out x5_1 p395 q395
      cases e395
      replace hx395_0 := cb0 hx395_0 HB
      replace hx395_1 := cb0 hx395_1 HB
      replace hx395_2 := cb0 hx395_2 HB
      replace hx395_3 := cb0 hx395_3 HB
      replace p395 := eq_true p395
      replace q395 := eq_true q395
      have p396 : 0 ≤ (x5_1 : Int) := of_decide_eq_true za
      have q396 : x5_1 < (l0.length : Int) := of_decide_eq_true za
      obtain ⟨ad396, e396, hx396_0, hx396_1, hx396_2, hx396_3⟩ := at_T110 HR0.out x5_1 p396 q396
      obtain rfl : ad395 = ad396 := (by injection e396)
      replace hx396_0 := cb0 hx396_0 HB
      replace hx396_1 := cb0 hx396_1 HB
      replace hx396_2 := cb0 hx396_2 HB
      replace hx396_3 := cb0 hx396_3 HB
      replace p396 := eq_true p396
      replace q396 := eq_true q396
      go_upto_if 29 with (fail)
      have H := HC6.out
      clear HC6
      by_cases c7 : (((rd_T110 l0 x5_1).f1) != ((Int.tmod (wrap64 (x1_1 + 1)) 3) == 0)) = true
      ·rw [if_pos c7] at H
       have c7b0 : (((rd_T110 l0 x5_1).f1) != ((Int.tmod (wrap64 (x1_1 + 1)) 3) == 0)) = true := c7
       (try (have c7b1 : decide (((rd_T110 l0 x5_1).f1) = ((Int.tmod (wrap64 (x1_1 + 1)) 3) == 0)) = false := by simpa using c7))
       (try (have c7b2 : (((rd_T110 l0 x5_1).f1) == ((Int.tmod (wrap64 (x1_1 + 1)) 3) == 0)) = false := by simpa using c7))
       (try (have c7b3 : ¬ (((rd_T110 l0 x5_1).f1) = ((Int.tmod (wrap64 (x1_1 + 1)) 3) == 0)) := by simpa using c7))
       clear c7
       (first | rw [c7b0] | rw [c7b1] | rw [c7b2] | (simp only [i64_w, i32_w]; rw [c7b0]) | skip)
       obtain rfl := Option.some.inj H
       go_wp2
       go_ret
       exact ⟨ze, zb HB⟩
      ·rw [if_neg c7] at H
       have c7b0 : (((rd_T110 l0 x5_1).f1) != ((Int.tmod (wrap64 (x1_1 + 1)) 3) == 0)) = false := by simpa using c7
       (try (have c7b1 : decide (((rd_T110 l0 x5_1).f1) = ((Int.tmod (wrap64 (x1_1 + 1)) 3) == 0)) = true := by simpa using c7))
       (try (have c7b2 : (((rd_T110 l0 x5_1).f1) == ((Int.tmod (wrap64 (x1_1 + 1)) 3) == 0)) = true := by simpa using c7))
       clear c7
       (first | rw [c7b0] | rw [c7b1] | rw [c7b2] | (simp only [i64_w, i32_w]; rw [c7b0]) | skip)
       by_cases c8 : ((rd_T110 l0 x5_1).f2) = (wrap64 ((wrap64 (x1_1 + 1)) + 1))
       ·rw [if_pos c8] at H
        have c8b0 : (((rd_T110 l0 x5_1).f2) == (wrap64 ((wrap64 (x1_1 + 1)) + 1))) = true := beq_iff_eq.mpr c8
        have c8b1 : (((rd_T110 l0 x5_1).f2) != (wrap64 ((wrap64 (x1_1 + 1)) + 1))) = false := bne_eq_false_iff_eq.mpr c8
        clear c8
        obtain ⟨t399, A9, H⟩ := ob H
        (try dsimp only at H)
        have HC10 := Aside0.mk H
        clear H
        have p397 : 0 ≤ (x5_1 : Int) := of_decide_eq_true za
        have q397 : x5_1 < (l0.length : Int) := of_decide_eq_true za
        obtain ⟨ad397, e397, hx397_0, hx397_1, hx397_2, hx397_3⟩ := at_T110 HR0.out x5_1 p397 q397
        obtain rfl : ad395 = ad397 := (by injection e397)
        replace hx397_0 := cb0 hx397_0 HB
        replace hx397_1 := cb0 hx397_1 HB
        replace hx397_2 := cb0 hx397_2 HB
        replace hx397_3 := cb0 hx397_3 HB
        replace p397 := eq_true p397
        replace q397 := eq_true q397
        try go_wp2
        replace HB := Aside0.mk (below_drew1 HB.out)
        have p398 : 0 ≤ (x5_1 : Int) := of_decide_eq_true za
        have q398 : x5_1 < (l0.length : Int) := of_decide_eq_true za
        obtain ⟨ad398, e398, hx398_0, hx398_1, hx398_2, hx398_3⟩ := at_T110 HR0.out x5_1 p398 q398
        have hw398_3 := hx398_3
        have hw398_2 := hx398_2
        have hw398_1 := hx398_1
        have hw398_0 := hx398_0
        obtain rfl : ad395 = ad398 := (by injection e398)
        replace hx398_0 := cb0 hx398_0 HB
        replace hx398_1 := cb0 hx398_1 HB
        replace hx398_2 := cb0 hx398_2 HB
        replace hx398_3 := cb0 hx398_3 HB
        replace p398 := eq_true p398
        replace q398 := eq_true q398
        refine st 8 (an (cb hw398_0 HB) (an (cb hw398_1 HB) (an (cb hw398_2 HB) (cb hw398_3 HB)))) (fun hHeld => ?_); refine with_tabW laws_heldFrameS.tab13 laws_heldFrameS.bits13 (fun HT_ HW_ => ?_)
        generalize wr.drew = w11 at HB hx398_0 hx398_1 hx398_2 hx398_3 hHeld ⊢
        refine pu 0 (some 41) (bm 8 1) rfl rfl ?_
        refine pu 1 (some 42) (bm 8 3) rfl rfl ?_
        refine pu 2 (some 43) (bm 8 7) rfl rfl ?_
        refine pu 3 (some 44) (bm 8 15) rfl rfl ?_
        refine pu 5 (some 46) (bm 8 47) rfl rfl ?_
        refine tk 4 (some 45) (bm 8 63) rfl rfl hHeld ?_
        refine one_ (i := 6) (N := some 47) (bm 8 127) rfl rfl (one_of HT_.out (by kernel_rfl)) (by decide) (fun K hK => ?_)
        refine gs Try.func102 #[.int .i64 (wrap64 ((wrap64 ((wrap64 (x1_1 + 1)) + 1)) + 1))] ?_
        with_reducible refine (laws_markText.calls k1 (wrap64 ((wrap64 ((wrap64 (x1_1 + 1)) + 1)) + 1)) t399 _ A9.out).mono ?_
        rintro e w12 ⟨rfl, hb⟩
        refine ⟨_, rfl, ?_⟩
        replace HB := Aside0.mk (below_step (zb HB) hb)
        (try clear hb)
        refine hK.out _ _ (an (cb hw398_0 HB) (an (cb hw398_1 HB) (an (cb hw398_2 HB) (cb hw398_3 HB)))) (fun hHeld => ?_)
        clear hK K
        refine nm ?_
        refine pu 7 (some 48) (bm 8 255) rfl rfl ?_
        refine done_ (done_of HT_.out (by kernel_rfl)) ?_
        go_upto_if 48 with (fail)
        have H := HC10.out
        clear HC10
        by_cases c13 : ((rd_T110 l0 x5_1).f3).toList = t399.toList
        ·rw [if_pos c13] at H
         have c13b0 : (((rd_T110 l0 x5_1).f3).toList == t399.toList) = true := beq_iff_eq.mpr c13
         have c13b1 : (((rd_T110 l0 x5_1).f3).toList != t399.toList) = false := bne_eq_false_iff_eq.mpr c13
         clear c13
         (first | rw [c13b0] | rw [c13b1] | rw [c13b2] | (simp only [i64_w, i32_w]; rw [c13b0]) | skip)
         have H' := Aside0.mk H
         clear H
         go_wp2
         go_roundg k1
         case measure => have := HK1.out; omega
         case rel => exact ⟨(wrap64 ((wrap64 ((wrap64 ((wrap64 (x1_1 + 1)) + 1)) + 1)) + 1)), (wrap64 (x5_1 + 1)), zs, zs, H', ⟨by have := HK1.out; omega⟩, ⟨zb HB⟩⟩
        ·rw [if_neg c13] at H
         have c13b0 : (((rd_T110 l0 x5_1).f3).toList == t399.toList) = false := beq_eq_false_iff_ne.mpr c13
         have c13b1 : (((rd_T110 l0 x5_1).f3).toList != t399.toList) = true := bne_iff_ne.mpr c13
         (first | rw [c13b0] | rw [c13b1] | rw [c13b2] | (simp only [i64_w, i32_w]; rw [c13b0]) | skip)
         obtain rfl := Option.some.inj H
         go_wp2
         go_ret
         exact ⟨ze, zb HB⟩
       ·rw [if_neg c8] at H
        have c8b0 : (((rd_T110 l0 x5_1).f2) == (wrap64 ((wrap64 (x1_1 + 1)) + 1))) = false := beq_eq_false_iff_ne.mpr c8
        have c8b1 : (((rd_T110 l0 x5_1).f2) != (wrap64 ((wrap64 (x1_1 + 1)) + 1))) = true := bne_iff_ne.mpr c8
        obtain rfl := Option.some.inj H
        have p397 : 0 ≤ (x5_1 : Int) := of_decide_eq_true za
        have q397 : x5_1 < (l0.length : Int) := of_decide_eq_true za
        obtain ⟨ad397, e397, hx397_0, hx397_1, hx397_2, hx397_3⟩ := at_T110 HR0.out x5_1 p397 q397
        obtain rfl : ad395 = ad397 := (by injection e397)
        replace hx397_0 := cb0 hx397_0 HB
        replace hx397_1 := cb0 hx397_1 HB
        replace hx397_2 := cb0 hx397_2 HB
        replace hx397_3 := cb0 hx397_3 HB
        replace p397 := eq_true p397
        replace q397 := eq_true q397
        go_wp2
        go_ret
        exact ⟨ze, zb HB⟩
     ·rw [if_neg c5] at H
      have c5b0 : (((rd_T110 l0 x5_1).f0) == x1_1) = false := beq_eq_false_iff_ne.mpr c5
      have c5b1 : (((rd_T110 l0 x5_1).f0) != x1_1) = true := bne_iff_ne.mpr c5
      obtain rfl := Option.some.inj H
      have p395 : 0 ≤ (x5_1 : Int) := of_decide_eq_true za
      have q395 : x5_1 < (l0.length : Int) := of_decide_eq_true za
      obtain ⟨ad395, e395, hx395_0, hx395_1, hx395_2, hx395_3⟩ := at_T110 HR0.out x5_1 p395 q395
      cases e395
      replace hx395_0 := cb0 hx395_0 HB
      replace hx395_1 := cb0 hx395_1 HB
      replace hx395_2 := cb0 hx395_2 HB
      replace hx395_3 := cb0 hx395_3 HB
      replace p395 := eq_true p395
      replace q395 := eq_true q395
      go_wp2
      go_ret
      exact ⟨ze, zb HB⟩
    ·rw [if_neg c4] at H
     exact absurd H (by simp)
   ·skip
    have c3b0 := decide_eq_false c3
    clear c3
    obtain rfl := Option.some.inj H
    go_wp2
    go_ret
    exact ⟨ze, zb HB⟩

end Go.Proofs.Ytlpibelofcabhaa.PFnExactWorldFrames
