-- WRITTEN BY a turned print (wip/tools of the prover's repo)
import Derived.Test.YtlpibelofcabhaaDoorPFnExactEndCallx0
import Derived.Test.YtlpibelofcabhaaDoorPFnExactEndCallx11
import Derived.Test.YtlpibelofcabhaaDoorPFnExactEndCallx12
import Derived.Test.YtlpibelofcabhaaDoorPFnExactEndCallx13
namespace Go.Proofs.YtlpibelofcabhaaDoor.PFnExactEndCall
open Go.RowKit Go.Proofs.YtlpibelofcabhaaDoorW.PrintWords Go.Proofs.YtlpibelofcabhaaDoorW.PrintLast Go.Proofs.YtlpibelofcabhaaDoorW.PrintMore Go.Proofs.YtlpibelofcabhaaDoor.Lm
attribute [local go_sem] max2_int min2_int max_two min_two max_three min_three max_four min_four   -- for this text's walks alone
set_option linter.unusedVariables false
set_option linter.unusedSimpArgs false

/-! ### laws_heldFrameS: function 35 -/
-- thin
def laws_heldFrameS.l0 : Nat → List (S79) → Int → Int → Option (Int)
 | 0, _, _, _ => none
 | k + 1, x0, x1, x5 => if x5 < (x0.length : Int) then (if 0 ≤ x5 then (if ((rd_T79 x0 x5).f0) = x1 then (if (((rd_T79 x0 x5).f1) != ((Int.tmod (wrap64 (x1 + 1)) 3) == 0)) = true then (some (-1)) else (if ((rd_T79 x0 x5).f2) = (wrap64 ((wrap64 (x1 + 1)) + 1)) then ((laws_markText.f k (wrap64 ((wrap64 ((wrap64 (x1 + 1)) + 1)) + 1))).bind fun t563 => (if ((rd_T79 x0 x5).f3).toList = t563.toList then (laws_heldFrameS.l0 k x0 (wrap64 ((wrap64 ((wrap64 ((wrap64 (x1 + 1)) + 1)) + 1)) + 1)) (wrap64 (x5 + 1))) else (some (-1)))) else (some (-1)))) else (some (-1))) else (none)) else (some x1)
def laws_heldFrameS.f (k : Nat) (l0 : List (S79)) (a1 : Int) : Option (Int) := laws_heldFrameS.l0 k l0 a1 0
theorem laws_heldFrameS.mono_l : ∀ k, (∀ y0 y1 y2, LeO (laws_heldFrameS.l0 k y0 y1 y2) (laws_heldFrameS.l0 (k + 1) y0 y1 y2))
 | 0 => fun _ _ _ r h => by simp [laws_heldFrameS.l0] at h
 | k + 1 => by
  have ih0 := laws_heldFrameS.mono_l k
  ·intro y0 y1 y2
   unfold laws_heldFrameS.l0
   have m0 := @laws_markText.mono
   exact zm
theorem laws_heldFrameS.mono : ∀ a0 a1 k, LeO (laws_heldFrameS.f k a0 a1) (laws_heldFrameS.f (k + 1) a0 a1) := by
 intro a0 a1 k
 have ih0 := laws_heldFrameS.mono_l k
 unfold laws_heldFrameS.f
 have m0 := @laws_markText.mono
 exact zm
def laws_heldFrameS.T13 : Bool × List (List Nat × List Nat) := (true, [([], []), ([], []), ([0, 1], [0, 1]), ([2], [2]), ([3], [3]), ([], []), ([5], [5]), ([4, 6], [4, 6])])
def laws_heldFrameS.B13 : List Nat := [0, 0, 3, 7, 15, 0, 32, 127]
theorem laws_heldFrameS.tab13 : rtab .any (opsOf Tryd.f35 13) = laws_heldFrameS.T13 := by kernel_rfl
theorem laws_heldFrameS.bits13 : waitsOk laws_heldFrameS.T13.2 laws_heldFrameS.B13 = true := by kernel_rfl
set_option maxHeartbeats 8000000 in
set_option maxRecDepth 100000 in
theorem laws_heldFrameS.calls (k : Nat) (A0 : Option Addr) (c0 : Nat) (l0 : List (S79)) (a1 : Int) (r : Int) (w : World) (hr0 : Kd.C k79 w A0 l0.length l0) (hc0 : l0.length ≤ c0) (h : laws_heldFrameS.f k l0 a1 = some r) :
  Calls Tryd.prog 35 #[.slice A0 l0.length c0, .int .i64 a1] w fun e w' => e = .returned (.int .i64 r) ∧ Below w.heap.size w w' := by
 have HR0 := Aside0.mk hr0
 have HC0 := Aside0.mk hc0
 clear hr0 hc0
 have HB := Aside0.mk (Below.refl w.heap.size w)
 have H : (laws_heldFrameS.l0 k l0 a1 0) = some r := h
 clear h
 have H' := Aside0.mk H
 clear H
 go_enter Tryd.func35, Tryd.ntmps35
 go_wp2
 go_loopg [1, 5] k (fun kq v1 v5 w' => ∃ (x1_1 : Int) (x5_1 : Int), v1 = .int .i64 x1_1 ∧ v5 = .int .i64 x5_1 ∧ Aside0 (laws_heldFrameS.l0 kq l0 x1_1 x5_1 = some r) ∧ Aside0 (kq ≤ k) ∧ Aside0 (Below w.heap.size w w'))
 case atStart => exact ⟨(a1), (0), zs, zs, H', ⟨Nat.le_refl _⟩, ⟨zb HB⟩⟩
 case round =>
  clear H'
  try clear p2
  obtain ⟨x1_1, x5_1, rfl, rfl, HA, HK1, HB⟩ := hrel
  cases gk with
  | zero => exact absurd HA.out (by simp [laws_heldFrameS.l0])
  | succ k1 =>
   have H := HA.out
   clear HA
   simp only [laws_heldFrameS.l0] at H
   replace H := sp H
   rcases H with ⟨c3, H⟩ | ⟨c3, H⟩
   ·skip
    have c3b0 := decide_eq_true c3
    clear c3
    by_cases c4 : 0 ≤ x5_1
    ·rw [if_pos c4] at H
     have c4b0 := decide_eq_true c4
     clear c4
     by_cases c5 : ((rd_T79 l0 x5_1).f0) = x1_1
     ·rw [if_pos c5] at H
      have c5b0 : (((rd_T79 l0 x5_1).f0) == x1_1) = true := beq_iff_eq.mpr c5
      have c5b1 : (((rd_T79 l0 x5_1).f0) != x1_1) = false := bne_eq_false_iff_eq.mpr c5
      clear c5
      have HC6 := Aside0.mk H
      clear H
      have p559 : 0 ≤ (x5_1 : Int) := of_decide_eq_true za
      have q559 : x5_1 < (l0.length : Int) := of_decide_eq_true za
      obtain ⟨ad559, e559, hx559_0, hx559_1, hx559_2, hx559_3⟩ := at_T79 HR0.out x5_1 p559 q559
      cases e559
      replace hx559_0 := cb0 hx559_0 HB
      replace hx559_1 := cb0 hx559_1 HB
      replace hx559_2 := cb0 hx559_2 HB
      replace hx559_3 := cb0 hx559_3 HB
      replace p559 := eq_true p559
      replace q559 := eq_true q559
      have p560 : 0 ≤ (x5_1 : Int) := of_decide_eq_true za
      have q560 : x5_1 < (l0.length : Int) := of_decide_eq_true za
      obtain ⟨ad560, e560, hx560_0, hx560_1, hx560_2, hx560_3⟩ := at_T79 HR0.out x5_1 p560 q560
      obtain rfl : ad559 = ad560 := (by injection e560)
      replace hx560_0 := cb0 hx560_0 HB
      replace hx560_1 := cb0 hx560_1 HB
      replace hx560_2 := cb0 hx560_2 HB
      replace hx560_3 := cb0 hx560_3 HB
      replace p560 := eq_true p560
      replace q560 := eq_true q560
      go_upto_if 29 with (fail)
      have H := HC6.out
      clear HC6
      by_cases c7 : (((rd_T79 l0 x5_1).f1) != ((Int.tmod (wrap64 (x1_1 + 1)) 3) == 0)) = true
      ·rw [if_pos c7] at H
       have c7b0 : (((rd_T79 l0 x5_1).f1) != ((Int.tmod (wrap64 (x1_1 + 1)) 3) == 0)) = true := c7
       (try (have c7b1 : decide (((rd_T79 l0 x5_1).f1) = ((Int.tmod (wrap64 (x1_1 + 1)) 3) == 0)) = false := by simpa using c7))
       (try (have c7b2 : (((rd_T79 l0 x5_1).f1) == ((Int.tmod (wrap64 (x1_1 + 1)) 3) == 0)) = false := by simpa using c7))
       (try (have c7b3 : ¬ (((rd_T79 l0 x5_1).f1) = ((Int.tmod (wrap64 (x1_1 + 1)) 3) == 0)) := by simpa using c7))
       clear c7
       (first | rw [c7b0] | rw [c7b1] | rw [c7b2] | (simp only [i64_w, i32_w]; rw [c7b0]) | skip)
       obtain rfl := Option.some.inj H
       go_wp2
       go_ret
       exact ⟨ze, zb HB⟩
      ·rw [if_neg c7] at H
       have c7b0 : (((rd_T79 l0 x5_1).f1) != ((Int.tmod (wrap64 (x1_1 + 1)) 3) == 0)) = false := by simpa using c7
       (try (have c7b1 : decide (((rd_T79 l0 x5_1).f1) = ((Int.tmod (wrap64 (x1_1 + 1)) 3) == 0)) = true := by simpa using c7))
       (try (have c7b2 : (((rd_T79 l0 x5_1).f1) == ((Int.tmod (wrap64 (x1_1 + 1)) 3) == 0)) = true := by simpa using c7))
       clear c7
       (first | rw [c7b0] | rw [c7b1] | rw [c7b2] | (simp only [i64_w, i32_w]; rw [c7b0]) | skip)
       by_cases c8 : ((rd_T79 l0 x5_1).f2) = (wrap64 ((wrap64 (x1_1 + 1)) + 1))
       ·rw [if_pos c8] at H
        have c8b0 : (((rd_T79 l0 x5_1).f2) == (wrap64 ((wrap64 (x1_1 + 1)) + 1))) = true := beq_iff_eq.mpr c8
        have c8b1 : (((rd_T79 l0 x5_1).f2) != (wrap64 ((wrap64 (x1_1 + 1)) + 1))) = false := bne_eq_false_iff_eq.mpr c8
        clear c8
        obtain ⟨t563, A9, H⟩ := ob H
        (try dsimp only at H)
        have HC10 := Aside0.mk H
        clear H
        have p561 : 0 ≤ (x5_1 : Int) := of_decide_eq_true za
        have q561 : x5_1 < (l0.length : Int) := of_decide_eq_true za
        obtain ⟨ad561, e561, hx561_0, hx561_1, hx561_2, hx561_3⟩ := at_T79 HR0.out x5_1 p561 q561
        obtain rfl : ad559 = ad561 := (by injection e561)
        replace hx561_0 := cb0 hx561_0 HB
        replace hx561_1 := cb0 hx561_1 HB
        replace hx561_2 := cb0 hx561_2 HB
        replace hx561_3 := cb0 hx561_3 HB
        replace p561 := eq_true p561
        replace q561 := eq_true q561
        try go_wp2
        replace HB := Aside0.mk (below_drew1 HB.out)
        have p562 : 0 ≤ (x5_1 : Int) := of_decide_eq_true za
        have q562 : x5_1 < (l0.length : Int) := of_decide_eq_true za
        obtain ⟨ad562, e562, hx562_0, hx562_1, hx562_2, hx562_3⟩ := at_T79 HR0.out x5_1 p562 q562
        have hw562_3 := hx562_3
        have hw562_2 := hx562_2
        have hw562_1 := hx562_1
        have hw562_0 := hx562_0
        obtain rfl : ad559 = ad562 := (by injection e562)
        replace hx562_0 := cb0 hx562_0 HB
        replace hx562_1 := cb0 hx562_1 HB
        replace hx562_2 := cb0 hx562_2 HB
        replace hx562_3 := cb0 hx562_3 HB
        replace p562 := eq_true p562
        replace q562 := eq_true q562
        refine st 8 (an (cb hw562_0 HB) (an (cb hw562_1 HB) (an (cb hw562_2 HB) (cb hw562_3 HB)))) (fun hHeld => ?_); refine with_tabW laws_heldFrameS.tab13 laws_heldFrameS.bits13 (fun HT_ HW_ => ?_)
        generalize wr.drew = w11 at HB hx562_0 hx562_1 hx562_2 hx562_3 hHeld ⊢
        refine pu 0 (some 41) (bm 8 1) rfl rfl ?_
        refine pu 1 (some 42) (bm 8 3) rfl rfl ?_
        refine pu 2 (some 43) (bm 8 7) rfl rfl ?_
        refine pu 3 (some 44) (bm 8 15) rfl rfl ?_
        refine pu 5 (some 46) (bm 8 47) rfl rfl ?_
        refine tk 4 (some 45) (bm 8 63) rfl rfl hHeld ?_
        refine one_ (i := 6) (N := some 47) (bm 8 127) rfl rfl (one_of HT_.out (by kernel_rfl)) (by decide) (fun K hK => ?_)
        refine gs Tryd.func66 #[.int .i64 (wrap64 ((wrap64 ((wrap64 (x1_1 + 1)) + 1)) + 1))] ?_
        with_reducible refine (laws_markText.calls k1 (wrap64 ((wrap64 ((wrap64 (x1_1 + 1)) + 1)) + 1)) t563 _ A9.out).mono ?_
        rintro e w12 ⟨rfl, hb⟩
        refine ⟨_, rfl, ?_⟩
        replace HB := Aside0.mk (below_step (zb HB) hb)
        (try clear hb)
        refine hK.out _ _ (an (cb hw562_0 HB) (an (cb hw562_1 HB) (an (cb hw562_2 HB) (cb hw562_3 HB)))) (fun hHeld => ?_)
        clear hK K
        refine nm ?_
        refine pu 7 (some 48) (bm 8 255) rfl rfl ?_
        refine done_ (done_of HT_.out (by kernel_rfl)) ?_
        go_upto_if 48 with (fail)
        have H := HC10.out
        clear HC10
        by_cases c13 : ((rd_T79 l0 x5_1).f3).toList = t563.toList
        ·rw [if_pos c13] at H
         have c13b0 : (((rd_T79 l0 x5_1).f3).toList == t563.toList) = true := beq_iff_eq.mpr c13
         have c13b1 : (((rd_T79 l0 x5_1).f3).toList != t563.toList) = false := bne_eq_false_iff_eq.mpr c13
         clear c13
         (first | rw [c13b0] | rw [c13b1] | rw [c13b2] | (simp only [i64_w, i32_w]; rw [c13b0]) | skip)
         have H' := Aside0.mk H
         clear H
         go_wp2
         go_roundg k1
         case measure => have := HK1.out; omega
         case rel => exact ⟨(wrap64 ((wrap64 ((wrap64 ((wrap64 (x1_1 + 1)) + 1)) + 1)) + 1)), (wrap64 (x5_1 + 1)), zs, zs, H', ⟨by have := HK1.out; omega⟩, ⟨zb HB⟩⟩
        ·rw [if_neg c13] at H
         have c13b0 : (((rd_T79 l0 x5_1).f3).toList == t563.toList) = false := beq_eq_false_iff_ne.mpr c13
         have c13b1 : (((rd_T79 l0 x5_1).f3).toList != t563.toList) = true := bne_iff_ne.mpr c13
         (first | rw [c13b0] | rw [c13b1] | rw [c13b2] | (simp only [i64_w, i32_w]; rw [c13b0]) | skip)
         obtain rfl := Option.some.inj H
         go_wp2
         go_ret
         exact ⟨ze, zb HB⟩
       ·rw [if_neg c8] at H
        have c8b0 : (((rd_T79 l0 x5_1).f2) == (wrap64 ((wrap64 (x1_1 + 1)) + 1))) = false := beq_eq_false_iff_ne.mpr c8
        have c8b1 : (((rd_T79 l0 x5_1).f2) != (wrap64 ((wrap64 (x1_1 + 1)) + 1))) = true := bne_iff_ne.mpr c8
        obtain rfl := Option.some.inj H
        have p561 : 0 ≤ (x5_1 : Int) := of_decide_eq_true za
        have q561 : x5_1 < (l0.length : Int) := of_decide_eq_true za
        obtain ⟨ad561, e561, hx561_0, hx561_1, hx561_2, hx561_3⟩ := at_T79 HR0.out x5_1 p561 q561
        obtain rfl : ad559 = ad561 := (by injection e561)
        replace hx561_0 := cb0 hx561_0 HB
        replace hx561_1 := cb0 hx561_1 HB
        replace hx561_2 := cb0 hx561_2 HB
        replace hx561_3 := cb0 hx561_3 HB
        replace p561 := eq_true p561
        replace q561 := eq_true q561
        go_wp2
        go_ret
        exact ⟨ze, zb HB⟩
     ·rw [if_neg c5] at H
      have c5b0 : (((rd_T79 l0 x5_1).f0) == x1_1) = false := beq_eq_false_iff_ne.mpr c5
      have c5b1 : (((rd_T79 l0 x5_1).f0) != x1_1) = true := bne_iff_ne.mpr c5
      obtain rfl := Option.some.inj H
      have p559 : 0 ≤ (x5_1 : Int) := of_decide_eq_true za
      have q559 : x5_1 < (l0.length : Int) := of_decide_eq_true za
      obtain ⟨ad559, e559, hx559_0, hx559_1, hx559_2, hx559_3⟩ := at_T79 HR0.out x5_1 p559 q559
      cases e559
      replace hx559_0 := cb0 hx559_0 HB
      replace hx559_1 := cb0 hx559_1 HB
      replace hx559_2 := cb0 hx559_2 HB
      replace hx559_3 := cb0 hx559_3 HB
      replace p559 := eq_true p559
      replace q559 := eq_true q559
      go_wp2
      go_ret
      exact ⟨ze, zb HB⟩
    ·rw [if_neg c4] at H
     exact absurd H (by simp)
   ·skip
    have c3b0 := decide_eq_false c3
    clear c3
    obtain rfl := Option.some.inj H
    go_wp2
    go_ret
    exact ⟨ze, zb HB⟩

/-! ### laws_heldEnd: function 10 -/
-- thin
def laws_heldEnd.f (k : Nat) (a0_0 : Bool) (l0_1 : List (S61)) (a0_2 : Int) (l0_3 : List (S61)) (a0_4 : Int) (a0_5 : ByteArray) (l0_6 : List (S58)) (a0_7 : Int) (a0_8 : Int) (l0_9 : List (S79)) (a0_10 : Bool) (a1 : Int) : Option (Int) := (laws_heldTable.f k l0_1 a0_2 a1).bind fun t565 => (if t565 < 0 then (some (-1)) else ((laws_heldTable.f k l0_3 a0_4 t565).bind fun t566 => (if t566 < 0 then (some (-1)) else ((laws_heldStreamS.f k l0_6 t566).bind fun t567 => (if t567 < 0 then (some (-1)) else ((laws_heldFrameS.f k l0_9 t567).bind fun t568 => (if t568 < 0 then (some (-1)) else (some t568))))))))
theorem laws_heldEnd.mono : ∀ a0 a1 a2 a3 a4 a5 a6 a7 a8 a9 a10 a11 k, LeO (laws_heldEnd.f k a0 a1 a2 a3 a4 a5 a6 a7 a8 a9 a10 a11) (laws_heldEnd.f (k + 1) a0 a1 a2 a3 a4 a5 a6 a7 a8 a9 a10 a11) := by
 intro a0 a1 a2 a3 a4 a5 a6 a7 a8 a9 a10 a11 k
 unfold laws_heldEnd.f
 have m0 := @laws_heldFrameS.mono
 have m1 := @laws_heldStreamS.mono
 have m2 := @laws_heldTable.mono
 exact zm
set_option maxHeartbeats 8000000 in
set_option maxRecDepth 100000 in
theorem laws_heldEnd.calls (k : Nat) (a0_0 : Bool) (A0_1 : Option Addr) (c0_1 : Nat) (l0_1 : List (S61)) (a0_2 : Int) (A0_3 : Option Addr) (c0_3 : Nat) (l0_3 : List (S61)) (a0_4 : Int) (a0_5 : ByteArray) (A0_6 : Option Addr) (c0_6 : Nat) (l0_6 : List (S58)) (a0_7 : Int) (a0_8 : Int) (A0_9 : Option Addr) (c0_9 : Nat) (l0_9 : List (S79)) (a0_10 : Bool) (a1 : Int) (r : Int) (w : World) (hr0_1 : Kd.C k61 w A0_1 l0_1.length l0_1) (hc0_1 : l0_1.length ≤ c0_1) (hr0_3 : Kd.C k61 w A0_3 l0_3.length l0_3) (hc0_3 : l0_3.length ≤ c0_3) (hr0_6 : Kd.C k58 w A0_6 l0_6.length l0_6) (hc0_6 : l0_6.length ≤ c0_6) (hr0_9 : Kd.C k79 w A0_9 l0_9.length l0_9) (hc0_9 : l0_9.length ≤ c0_9) (h : laws_heldEnd.f k a0_0 l0_1 a0_2 l0_3 a0_4 a0_5 l0_6 a0_7 a0_8 l0_9 a0_10 a1 = some r) :
  Calls Tryd.prog 10 #[.agg #[.bool a0_0, .slice A0_1 l0_1.length c0_1, .int .i64 a0_2, .slice A0_3 l0_3.length c0_3, .int .i64 a0_4, .string a0_5, .slice A0_6 l0_6.length c0_6, .int .i64 a0_7, .int .i64 a0_8, .slice A0_9 l0_9.length c0_9, .bool a0_10], .int .i64 a1] w fun e w' => e = .returned (.int .i64 r) ∧ Below w.heap.size w w' := by
 have hu39 := Tryd.underlying39
 have hu34 := Tryd.underlying34
 have HR0_1 := Aside0.mk hr0_1
 have HC0_1 := Aside0.mk hc0_1
 clear hr0_1 hc0_1
 have HR0_3 := Aside0.mk hr0_3
 have HC0_3 := Aside0.mk hc0_3
 clear hr0_3 hc0_3
 have HR0_6 := Aside0.mk hr0_6
 have HC0_6 := Aside0.mk hc0_6
 clear hr0_6 hc0_6
 have HR0_9 := Aside0.mk hr0_9
 have HC0_9 := Aside0.mk hc0_9
 clear hr0_9 hc0_9
 have HB := Aside0.mk (Below.refl w.heap.size w)
 have H : ((laws_heldTable.f k l0_1 a0_2 a1).bind fun t565 => (if t565 < 0 then (some (-1)) else ((laws_heldTable.f k l0_3 a0_4 t565).bind fun t566 => (if t566 < 0 then (some (-1)) else ((laws_heldStreamS.f k l0_6 t566).bind fun t567 => (if t567 < 0 then (some (-1)) else ((laws_heldFrameS.f k l0_9 t567).bind fun t568 => (if t568 < 0 then (some (-1)) else (some t568))))))))) = some r := h
 clear h
 obtain ⟨t565, A3, H⟩ := ob H
 (try dsimp only at H)
 have HC4 := Aside0.mk H
 clear H
 go_enter Tryd.func10, Tryd.ntmps10
 go_upto_if 10 with (first | ((with_reducible refine gd 2 rfl ?_); refine bx (N := 2) (cs := #[.bool a0_0, .slice A0_1 l0_1.length c0_1, .int .i64 a0_2, .slice A0_3 l0_3.length c0_3, .int .i64 a0_4, .string a0_5, .slice A0_6 l0_6.length c0_6, .int .i64 a0_7, .int .i64 a0_8, .slice A0_9 l0_9.length c0_9, .bool a0_10]) (t := 39) ?_; intro gb564 hg w5 hbox hb; have BK564 := Aside0.mk (hbox); have GW564 := gw HB hg; have GE564 := GW564; replace HB := Aside0.mk (below_step (zb HB) hb); clear hb hbox hg; obtain ⟨hcz6_0, hcz6_1, hcz6_2, hcz6_3, hcz6_4, hcz6_5, hcz6_6, hcz6_7, hcz6_8, hcz6_9, hcz6_10, hfz6_0, hfz6_1, hfz6_2, hfz6_3, hfz6_4, hfz6_5, hfz6_6, hfz6_7, hfz6_8, hfz6_9, hfz6_10⟩ := c11 BK564) | ((with_reducible refine gq 33 rfl ?_); refine gl (some 8) Tryd.func33 #[.agg #[.slice A0_1 l0_1.length c0_1, .int .i64 a0_2], .int .i64 a1] ?_; (with_reducible refine (laws_heldTable.calls k _ _ l0_1 a0_2 a1 t565 _ ?side1 ?side2 A3.out).mono ?_); (case side1 => exact zc (Kd.C_below HR0_1.out HB.out)); (case side2 => exact HC0_1.out); rintro e w7 ⟨rfl, hb⟩; refine ⟨_, rfl, ?_⟩; replace BK564 := kb BK564 hb; replace HB := Aside0.mk (below_step (zb HB) hb); (try clear hb)))
 (try simp only [Act.put, s1, s2, s3])
 have H := HC4.out
 clear HC4
 replace H := sp H
 rcases H with ⟨c8, H⟩ | ⟨c8, H⟩
 ·skip
  have c8b0 := decide_eq_true c8
  clear c8
  (first | rw [c8b0] | rw [c8b1] | rw [c8b2] | (simp only [i64_w, i32_w]; rw [c8b0]) | skip)
  obtain rfl := Option.some.inj H
  go_wp2
  go_ret
  exact ⟨ze, zb HB⟩
 ·skip
  have c8b0 := decide_eq_false c8
  clear c8
  (first | rw [c8b0] | rw [c8b1] | rw [c8b2] | (simp only [i64_w, i32_w]; rw [c8b0]) | skip)
  obtain ⟨t566, A9, H⟩ := ob H
  (try dsimp only at H)
  replace H := sp H
  rcases H with ⟨c10, H⟩ | ⟨c10, H⟩
  ·skip
   have c10b0 := decide_eq_true c10
   clear c10
   obtain rfl := Option.some.inj H
   obtain ⟨hcz11_0, hcz11_1, hcz11_2, hcz11_3, hcz11_4, hcz11_5, hcz11_6, hcz11_7, hcz11_8, hcz11_9, hcz11_10, hfz11_0, hfz11_1, hfz11_2, hfz11_3, hfz11_4, hfz11_5, hfz11_6, hfz11_7, hfz11_8, hfz11_9, hfz11_10⟩ := c11 BK564
   go_wp2_with (first | ((with_reducible refine gq 33 rfl ?_); refine gl (some 14) Tryd.func33 #[.agg #[.slice A0_3 l0_3.length c0_3, .int .i64 a0_4], .int .i64 t565] ?_; (with_reducible refine (laws_heldTable.calls k _ _ l0_3 a0_4 t565 t566 _ ?side1 ?side2 A9.out).mono ?_); (case side1 => exact zc (Kd.C_below HR0_3.out HB.out)); (case side2 => exact HC0_3.out); rintro e w12 ⟨rfl, hb⟩; refine ⟨_, rfl, ?_⟩; replace BK564 := kb BK564 hb; replace HB := Aside0.mk (below_step (zb HB) hb); (try clear hb)))
   go_ret
   exact ⟨ze, zb HB⟩
  ·skip
   have c10b0 := decide_eq_false c10
   clear c10
   obtain ⟨t567, A13, H⟩ := ob H
   (try dsimp only at H)
   have HC14 := Aside0.mk H
   clear H
   obtain ⟨hcz15_0, hcz15_1, hcz15_2, hcz15_3, hcz15_4, hcz15_5, hcz15_6, hcz15_7, hcz15_8, hcz15_9, hcz15_10, hfz15_0, hfz15_1, hfz15_2, hfz15_3, hfz15_4, hfz15_5, hfz15_6, hfz15_7, hfz15_8, hfz15_9, hfz15_10⟩ := c11 BK564
   go_upto_if 22 with (first | ((with_reducible refine gq 33 rfl ?_); refine gl (some 14) Tryd.func33 #[.agg #[.slice A0_3 l0_3.length c0_3, .int .i64 a0_4], .int .i64 t565] ?_; (with_reducible refine (laws_heldTable.calls k _ _ l0_3 a0_4 t565 t566 _ ?side1 ?side2 A9.out).mono ?_); (case side1 => exact zc (Kd.C_below HR0_3.out HB.out)); (case side2 => exact HC0_3.out); rintro e w16 ⟨rfl, hb⟩; refine ⟨_, rfl, ?_⟩; replace BK564 := kb BK564 hb; replace HB := Aside0.mk (below_step (zb HB) hb); (try clear hb); obtain ⟨hcz17_0, hcz17_1, hcz17_2, hcz17_3, hcz17_4, hcz17_5, hcz17_6, hcz17_7, hcz17_8, hcz17_9, hcz17_10, hfz17_0, hfz17_1, hfz17_2, hfz17_3, hfz17_4, hfz17_5, hfz17_6, hfz17_7, hfz17_8, hfz17_9, hfz17_10⟩ := c11 BK564) | ((with_reducible refine gq 34 rfl ?_); refine gl (some 20) Tryd.func34 #[.slice A0_6 l0_6.length c0_6, .int .i64 t566] ?_; (with_reducible refine (laws_heldStreamS.calls k _ _ l0_6 t566 t567 _ ?side1 ?side2 A13.out).mono ?_); (case side1 => exact zc (Kd.C_below HR0_6.out HB.out)); (case side2 => exact HC0_6.out); rintro e w18 ⟨rfl, hb⟩; refine ⟨_, rfl, ?_⟩; replace BK564 := kb BK564 hb; replace HB := Aside0.mk (below_step (zb HB) hb); (try clear hb)))
   (try simp only [Act.put, s1, s2, s3])
   have H := HC14.out
   clear HC14
   replace H := sp H
   rcases H with ⟨c19, H⟩ | ⟨c19, H⟩
   ·skip
    have c19b0 := decide_eq_true c19
    clear c19
    (first | rw [c19b0] | rw [c19b1] | rw [c19b2] | (simp only [i64_w, i32_w]; rw [c19b0]) | skip)
    obtain rfl := Option.some.inj H
    go_wp2
    go_ret
    exact ⟨ze, zb HB⟩
   ·skip
    have c19b0 := decide_eq_false c19
    clear c19
    (first | rw [c19b0] | rw [c19b1] | rw [c19b2] | (simp only [i64_w, i32_w]; rw [c19b0]) | skip)
    obtain ⟨t568, A20, H⟩ := ob H
    (try dsimp only at H)
    replace H := sp H
    rcases H with ⟨c21, H⟩ | ⟨c21, H⟩
    ·skip
     have c21b0 := decide_eq_true c21
     clear c21
     obtain rfl := Option.some.inj H
     obtain ⟨hcz22_0, hcz22_1, hcz22_2, hcz22_3, hcz22_4, hcz22_5, hcz22_6, hcz22_7, hcz22_8, hcz22_9, hcz22_10, hfz22_0, hfz22_1, hfz22_2, hfz22_3, hfz22_4, hfz22_5, hfz22_6, hfz22_7, hfz22_8, hfz22_9, hfz22_10⟩ := c11 BK564
     go_wp2_with (first | ((with_reducible refine gq 35 rfl ?_); refine gl (some 26) Tryd.func35 #[.slice A0_9 l0_9.length c0_9, .int .i64 t567] ?_; (with_reducible refine (laws_heldFrameS.calls k _ _ l0_9 t567 t568 _ ?side1 ?side2 A20.out).mono ?_); (case side1 => exact zc (Kd.C_below HR0_9.out HB.out)); (case side2 => exact HC0_9.out); rintro e w23 ⟨rfl, hb⟩; refine ⟨_, rfl, ?_⟩; replace BK564 := kb BK564 hb; replace HB := Aside0.mk (below_step (zb HB) hb); (try clear hb)))
     go_ret
     exact ⟨ze, zb HB⟩
    ·skip
     have c21b0 := decide_eq_false c21
     clear c21
     obtain rfl := Option.some.inj H
     obtain ⟨hcz24_0, hcz24_1, hcz24_2, hcz24_3, hcz24_4, hcz24_5, hcz24_6, hcz24_7, hcz24_8, hcz24_9, hcz24_10, hfz24_0, hfz24_1, hfz24_2, hfz24_3, hfz24_4, hfz24_5, hfz24_6, hfz24_7, hfz24_8, hfz24_9, hfz24_10⟩ := c11 BK564
     go_wp2_with (first | ((with_reducible refine gq 35 rfl ?_); refine gl (some 26) Tryd.func35 #[.slice A0_9 l0_9.length c0_9, .int .i64 t567] ?_; (with_reducible refine (laws_heldFrameS.calls k _ _ l0_9 t567 t568 _ ?side1 ?side2 A20.out).mono ?_); (case side1 => exact zc (Kd.C_below HR0_9.out HB.out)); (case side2 => exact HC0_9.out); rintro e w25 ⟨rfl, hb⟩; refine ⟨_, rfl, ?_⟩; replace BK564 := kb BK564 hb; replace HB := Aside0.mk (below_step (zb HB) hb); (try clear hb)))
     go_ret
     exact ⟨ze, zb HB⟩

-- NOT PRINTED: function 3 (laws_FnExactEndCall)

end Go.Proofs.YtlpibelofcabhaaDoor.PFnExactEndCall
