-- WRITTEN BY a turned print (wip/tools of the prover's repo)
import Derived.Test.YtlpibelofcabhaaDoorPFnExactEndCallx0
import Derived.Test.YtlpibelofcabhaaDoorPFnExactEndCallx11
import Derived.Test.YtlpibelofcabhaaDoorPFnExactEndCallx12
namespace Go.Proofs.YtlpibelofcabhaaDoor.PFnExactEndCall
open Go.RowKit Go.Proofs.YtlpibelofcabhaaDoorW.PrintWords Go.Proofs.YtlpibelofcabhaaDoorW.PrintLast Go.Proofs.YtlpibelofcabhaaDoorW.PrintMore Go.Proofs.YtlpibelofcabhaaDoor.Lm
attribute [local go_sem] max2_int min2_int max_two min_two max_three min_three max_four min_four   -- for this text's walks alone
set_option linter.unusedVariables false
set_option linter.unusedSimpArgs false

/-! ### laws_heldStreamS: function 34 -/
-- thin
def laws_heldStreamS.l0 : Nat → List (S58) → Int → Int → Option (Int)
 | 0, _, _, _ => none
 | k + 1, x0, x1, x5 => if x5 < (x0.length : Int) then (if 0 ≤ x5 then (if ((rd_T58 x0 x5).f0) = x1 then (if ((rd_T58 x0 x5).f1) = (wrap64 (x1 + 1)) then ((laws_heldFieldS.f k ((rd_T58 x0 x5).f2) (wrap64 ((wrap64 (x1 + 1)) + 1))).bind fun t546 => (if t546 < 0 then (some (-1)) else ((laws_markText.f k t546).bind fun t548 => (if ((rd_T58 x0 x5).f3).toList = t548.toList then (if (((rd_T58 x0 x5).f4) != ((Int.tmod (wrap64 (t546 + 1)) 3) == 0)) = true then (some (-1)) else (if (((rd_T58 x0 x5).f5) != ((Int.tmod (wrap64 ((wrap64 (t546 + 1)) + 1)) 3) == 0)) = true then (some (-1)) else (if ((rd_T58 x0 x5).f6) = (wrap64 ((wrap64 ((wrap64 (t546 + 1)) + 1)) + 1)) then ((laws_heldFieldS.f k ((rd_T58 x0 x5).f7) (wrap64 ((wrap64 ((wrap64 ((wrap64 (t546 + 1)) + 1)) + 1)) + 1))).bind fun t553 => (if t553 < 0 then (some (-1)) else ((laws_markText.f k t553).bind fun t555 => (if ((rd_T58 x0 x5).f8).toList = t555.toList then (if (((rd_T58 x0 x5).f9) != ((Int.tmod (wrap64 (t553 + 1)) 3) == 0)) = true then (some (-1)) else (if ((rd_T58 x0 x5).f10.f0) = (wrap64 ((wrap64 (t553 + 1)) + 1)) then (if ((rd_T58 x0 x5).f10.f1) = (wrap64 ((wrap64 ((wrap64 (t553 + 1)) + 1)) + 1)) then (laws_heldStreamS.l0 k x0 (wrap64 ((wrap64 ((wrap64 ((wrap64 (t553 + 1)) + 1)) + 1)) + 1)) (wrap64 (x5 + 1))) else (some (-1))) else (some (-1)))) else (some (-1)))))) else (some (-1))))) else (some (-1)))))) else (some (-1))) else (some (-1))) else (none)) else (some x1)
def laws_heldStreamS.f (k : Nat) (l0 : List (S58)) (a1 : Int) : Option (Int) := laws_heldStreamS.l0 k l0 a1 0
theorem laws_heldStreamS.mono_l : ∀ k, (∀ y0 y1 y2, LeO (laws_heldStreamS.l0 k y0 y1 y2) (laws_heldStreamS.l0 (k + 1) y0 y1 y2))
 | 0 => fun _ _ _ r h => by simp [laws_heldStreamS.l0] at h
 | k + 1 => by
  have ih0 := laws_heldStreamS.mono_l k
  ·intro y0 y1 y2
   unfold laws_heldStreamS.l0
   have m0 := @laws_heldFieldS.mono
   have m1 := @laws_markText.mono
   exact zm
theorem laws_heldStreamS.mono : ∀ a0 a1 k, LeO (laws_heldStreamS.f k a0 a1) (laws_heldStreamS.f (k + 1) a0 a1) := by
 intro a0 a1 k
 have ih0 := laws_heldStreamS.mono_l k
 unfold laws_heldStreamS.f
 have m0 := @laws_heldFieldS.mono
 have m1 := @laws_markText.mono
 exact zm
def laws_heldStreamS.T13 : Bool × List (List Nat × List Nat) := (true, [([], []), ([], []), ([0, 1], [0, 1]), ([2], [2]), ([3], [3]), ([], []), ([5], [5]), ([4, 6], [4, 6])])
def laws_heldStreamS.B13 : List Nat := [0, 0, 3, 7, 15, 0, 32, 127]
theorem laws_heldStreamS.tab13 : rtab .any (opsOf Tryd.f34 13) = laws_heldStreamS.T13 := by kernel_rfl
theorem laws_heldStreamS.bits13 : waitsOk laws_heldStreamS.T13.2 laws_heldStreamS.B13 = true := by kernel_rfl
def laws_heldStreamS.T28 : Bool × List (List Nat × List Nat) := (true, [([], []), ([], []), ([0, 1], [0, 1]), ([2], [2]), ([3], [3]), ([], []), ([5], [5]), ([4, 6], [4, 6])])
def laws_heldStreamS.B28 : List Nat := [0, 0, 3, 7, 15, 0, 32, 127]
theorem laws_heldStreamS.tab28 : rtab .any (opsOf Tryd.f34 28) = laws_heldStreamS.T28 := by kernel_rfl
theorem laws_heldStreamS.bits28 : waitsOk laws_heldStreamS.T28.2 laws_heldStreamS.B28 = true := by kernel_rfl
set_option maxHeartbeats 8000000 in
set_option maxRecDepth 100000 in
theorem laws_heldStreamS.calls (k : Nat) (A0 : Option Addr) (c0 : Nat) (l0 : List (S58)) (a1 : Int) (r : Int) (w : World) (hr0 : Kd.C k58 w A0 l0.length l0) (hc0 : l0.length ≤ c0) (h : laws_heldStreamS.f k l0 a1 = some r) :
  Calls Tryd.prog 34 #[.slice A0 l0.length c0, .int .i64 a1] w fun e w' => e = .returned (.int .i64 r) ∧ Below w.heap.size w w' := by
 have HR0 := Aside0.mk hr0
 have HC0 := Aside0.mk hc0
 clear hr0 hc0
 have HB := Aside0.mk (Below.refl w.heap.size w)
 have H : (laws_heldStreamS.l0 k l0 a1 0) = some r := h
 clear h
 have H' := Aside0.mk H
 clear H
 go_enter Tryd.func34, Tryd.ntmps34
 go_wp2
 go_loopg [1, 5] k (fun kq v1 v5 w' => ∃ (x1_1 : Int) (x5_1 : Int), v1 = .int .i64 x1_1 ∧ v5 = .int .i64 x5_1 ∧ Aside0 (laws_heldStreamS.l0 kq l0 x1_1 x5_1 = some r) ∧ Aside0 (kq ≤ k) ∧ Aside0 (Below w.heap.size w w'))
 case atStart => exact ⟨(a1), (0), zs, zs, H', ⟨Nat.le_refl _⟩, ⟨zb HB⟩⟩
 case round =>
  clear H'
  try clear p2
  obtain ⟨x1_1, x5_1, rfl, rfl, HA, HK1, HB⟩ := hrel
  cases gk with
  | zero => exact absurd HA.out (by simp [laws_heldStreamS.l0])
  | succ k1 =>
   have H := HA.out
   clear HA
   simp only [laws_heldStreamS.l0] at H
   replace H := sp H
   rcases H with ⟨c3, H⟩ | ⟨c3, H⟩
   ·skip
    have c3b0 := decide_eq_true c3
    clear c3
    by_cases c4 : 0 ≤ x5_1
    ·rw [if_pos c4] at H
     have c4b0 := decide_eq_true c4
     clear c4
     by_cases c5 : ((rd_T58 l0 x5_1).f0) = x1_1
     ·rw [if_pos c5] at H
      have c5b0 : (((rd_T58 l0 x5_1).f0) == x1_1) = true := beq_iff_eq.mpr c5
      have c5b1 : (((rd_T58 l0 x5_1).f0) != x1_1) = false := bne_eq_false_iff_eq.mpr c5
      clear c5
      have HC6 := Aside0.mk H
      clear H
      have p543 : 0 ≤ (x5_1 : Int) := of_decide_eq_true za
      have q543 : x5_1 < (l0.length : Int) := of_decide_eq_true za
      obtain ⟨ad543, A543_2, c543_2, A543_7, c543_7, e543, hx543_0, hx543_1, hx543_2, hx543_3, hx543_4, hx543_5, hx543_6, hx543_7, hx543_8, hx543_9, hx543_10, hx543_11, hl543_2, hi543_2, hl543_7, hi543_7⟩ := at_T58 HR0.out x5_1 p543 q543
      cases e543
      replace hx543_0 := cb0 hx543_0 HB
      replace hx543_1 := cb0 hx543_1 HB
      replace hx543_2 := cb0 hx543_2 HB
      replace hx543_3 := cb0 hx543_3 HB
      replace hx543_4 := cb0 hx543_4 HB
      replace hx543_5 := cb0 hx543_5 HB
      replace hx543_6 := cb0 hx543_6 HB
      replace hx543_7 := cb0 hx543_7 HB
      replace hx543_8 := cb0 hx543_8 HB
      replace hx543_9 := cb0 hx543_9 HB
      replace hx543_10 := cb0 hx543_10 HB
      replace hx543_11 := cb0 hx543_11 HB
      have HR543_2 := Aside0.mk hi543_2
      have HC543_2 := Aside0.mk hl543_2
      clear hi543_2 hl543_2
      have HR543_7 := Aside0.mk hi543_7
      have HC543_7 := Aside0.mk hl543_7
      clear hi543_7 hl543_7
      replace p543 := eq_true p543
      replace q543 := eq_true q543
      have p544 : 0 ≤ (x5_1 : Int) := of_decide_eq_true za
      have q544 : x5_1 < (l0.length : Int) := of_decide_eq_true za
      obtain ⟨ad544, A544_2, c544_2, A544_7, c544_7, e544, hx544_0, hx544_1, hx544_2, hx544_3, hx544_4, hx544_5, hx544_6, hx544_7, hx544_8, hx544_9, hx544_10, hx544_11, hl544_2, hi544_2, hl544_7, hi544_7⟩ := at_T58 HR0.out x5_1 p544 q544
      obtain rfl : ad543 = ad544 := (by injection e544)
      replace hx544_0 := cb0 hx544_0 HB
      replace hx544_1 := cb0 hx544_1 HB
      replace hx544_2 := cb0 hx544_2 HB
      replace hx544_3 := cb0 hx544_3 HB
      replace hx544_4 := cb0 hx544_4 HB
      replace hx544_5 := cb0 hx544_5 HB
      replace hx544_6 := cb0 hx544_6 HB
      replace hx544_7 := cb0 hx544_7 HB
      replace hx544_8 := cb0 hx544_8 HB
      replace hx544_9 := cb0 hx544_9 HB
      replace hx544_10 := cb0 hx544_10 HB
      replace hx544_11 := cb0 hx544_11 HB
      have HR544_2 := Aside0.mk hi544_2
      have HC544_2 := Aside0.mk hl544_2
      clear hi544_2 hl544_2
      have HR544_7 := Aside0.mk hi544_7
      have HC544_7 := Aside0.mk hl544_7
      clear hi544_7 hl544_7
      replace p544 := eq_true p544
      replace q544 := eq_true q544
      have ea_ := Option.some.inj (hx543_2.symm.trans hx544_2)
      injection ea_ with ea_ en_ ec_
      subst ea_
      subst ec_
      clear en_
      have ea_ := Option.some.inj (hx543_7.symm.trans hx544_7)
      injection ea_ with ea_ en_ ec_
      subst ea_
      subst ec_
      clear en_
      go_upto_if 27 with (fail)
      have H := HC6.out
      clear HC6
      by_cases c7 : ((rd_T58 l0 x5_1).f1) = (wrap64 (x1_1 + 1))
      ·rw [if_pos c7] at H
       have c7b0 : (((rd_T58 l0 x5_1).f1) == (wrap64 (x1_1 + 1))) = true := beq_iff_eq.mpr c7
       have c7b1 : (((rd_T58 l0 x5_1).f1) != (wrap64 (x1_1 + 1))) = false := bne_eq_false_iff_eq.mpr c7
       clear c7
       (first | rw [c7b0] | rw [c7b1] | rw [c7b2] | (simp only [i64_w, i32_w]; rw [c7b0]) | skip)
       obtain ⟨t546, A8, H⟩ := ob H
       (try dsimp only at H)
       have HC9 := Aside0.mk H
       clear H
       have p545 : 0 ≤ (x5_1 : Int) := of_decide_eq_true za
       have q545 : x5_1 < (l0.length : Int) := of_decide_eq_true za
       try clear hx543_2
       try clear hx543_7
       try clear hx544_2
       try clear hx544_7
       obtain ⟨ad545, A545_2, c545_2, A545_7, c545_7, e545, hx545_0, hx545_1, hx545_2, hx545_3, hx545_4, hx545_5, hx545_6, hx545_7, hx545_8, hx545_9, hx545_10, hx545_11, hl545_2, hi545_2, hl545_7, hi545_7⟩ := at_T58 HR0.out x5_1 p545 q545
       obtain rfl : ad543 = ad545 := (by injection e545)
       replace hx545_0 := cb0 hx545_0 HB
       replace hx545_1 := cb0 hx545_1 HB
       replace hx545_2 := cb0 hx545_2 HB
       replace hx545_3 := cb0 hx545_3 HB
       replace hx545_4 := cb0 hx545_4 HB
       replace hx545_5 := cb0 hx545_5 HB
       replace hx545_6 := cb0 hx545_6 HB
       replace hx545_7 := cb0 hx545_7 HB
       replace hx545_8 := cb0 hx545_8 HB
       replace hx545_9 := cb0 hx545_9 HB
       replace hx545_10 := cb0 hx545_10 HB
       replace hx545_11 := cb0 hx545_11 HB
       have HR545_2 := Aside0.mk hi545_2
       have HC545_2 := Aside0.mk hl545_2
       clear hi545_2 hl545_2
       have HR545_7 := Aside0.mk hi545_7
       have HC545_7 := Aside0.mk hl545_7
       clear hi545_7 hl545_7
       replace p545 := eq_true p545
       replace q545 := eq_true q545
       go_upto_if 38 with (first | ((with_reducible refine gq 67 rfl ?_); refine gl (some 36) Tryd.func67 #[.slice A545_2 ((rd_T58 l0 x5_1).f2).length c545_2, .int .i64 (wrap64 ((wrap64 (x1_1 + 1)) + 1))] ?_; (with_reducible refine (laws_heldFieldS.calls k1 _ _ ((rd_T58 l0 x5_1).f2) (wrap64 ((wrap64 (x1_1 + 1)) + 1)) t546 _ ?side1 ?side2 A8.out).mono ?_); (case side1 => exact zc (Kd.C_below HR545_2.out HB.out)); (case side2 => exact HC545_2.out); rintro e w10 ⟨rfl, hb⟩; refine ⟨_, rfl, ?_⟩; replace HB := Aside0.mk (below_step (zb HB) hb); (try clear hb)))
       (try simp only [Act.put, s1, s2, s3])
       have H := HC9.out
       clear HC9
       by_cases c11 : t546 < 0
       ·rw [if_pos c11] at H
        have c11b0 := decide_eq_true c11
        clear c11
        (first | rw [c11b0] | rw [c11b1] | rw [c11b2] | (simp only [i64_w, i32_w]; rw [c11b0]) | skip)
        obtain rfl := Option.some.inj H
        go_wp2
        go_ret
        exact ⟨ze, zb HB⟩
       ·rw [if_neg c11] at H
        have c11b0 := decide_eq_false c11
        clear c11
        (first | rw [c11b0] | rw [c11b1] | rw [c11b2] | (simp only [i64_w, i32_w]; rw [c11b0]) | skip)
        obtain ⟨t548, A12, H⟩ := ob H
        (try dsimp only at H)
        have HC13 := Aside0.mk H
        clear H
        try go_wp2
        replace HB := Aside0.mk (below_drew1 HB.out)
        have p547 : 0 ≤ (x5_1 : Int) := of_decide_eq_true za
        have q547 : x5_1 < (l0.length : Int) := of_decide_eq_true za
        try clear hx543_2
        try clear hx543_7
        try clear hx544_2
        try clear hx544_7
        try clear hx545_2
        try clear hx545_7
        obtain ⟨ad547, A547_2, c547_2, A547_7, c547_7, e547, hx547_0, hx547_1, hx547_2, hx547_3, hx547_4, hx547_5, hx547_6, hx547_7, hx547_8, hx547_9, hx547_10, hx547_11, hl547_2, hi547_2, hl547_7, hi547_7⟩ := at_T58 HR0.out x5_1 p547 q547
        have hw547_11 := hx547_11
        have hw547_10 := hx547_10
        have hw547_9 := hx547_9
        have hw547_8 := hx547_8
        have hw547_7 := hx547_7
        have hw547_6 := hx547_6
        have hw547_5 := hx547_5
        have hw547_4 := hx547_4
        have hw547_3 := hx547_3
        have hw547_2 := hx547_2
        have hw547_1 := hx547_1
        have hw547_0 := hx547_0
        obtain rfl : ad543 = ad547 := (by injection e547)
        replace hx547_0 := cb0 hx547_0 HB
        replace hx547_1 := cb0 hx547_1 HB
        replace hx547_2 := cb0 hx547_2 HB
        replace hx547_3 := cb0 hx547_3 HB
        replace hx547_4 := cb0 hx547_4 HB
        replace hx547_5 := cb0 hx547_5 HB
        replace hx547_6 := cb0 hx547_6 HB
        replace hx547_7 := cb0 hx547_7 HB
        replace hx547_8 := cb0 hx547_8 HB
        replace hx547_9 := cb0 hx547_9 HB
        replace hx547_10 := cb0 hx547_10 HB
        replace hx547_11 := cb0 hx547_11 HB
        have HR547_2 := Aside0.mk hi547_2
        have HC547_2 := Aside0.mk hl547_2
        clear hi547_2 hl547_2
        have HR547_7 := Aside0.mk hi547_7
        have HC547_7 := Aside0.mk hl547_7
        clear hi547_7 hl547_7
        replace p547 := eq_true p547
        replace q547 := eq_true q547
        refine st 8 (an (cb hw547_0 HB) (an (cb hw547_1 HB) (an (cb hw547_2 HB) (an (cb hw547_3 HB) (an (cb hw547_4 HB) (an (cb hw547_5 HB) (an (cb hw547_6 HB) (an (cb hw547_7 HB) (an (cb hw547_8 HB) (an (cb hw547_9 HB) (an (cb hw547_10 HB) (cb hw547_11 HB)))))))))))) (fun hHeld => ?_); refine with_tabW laws_heldStreamS.tab13 laws_heldStreamS.bits13 (fun HT_ HW_ => ?_)
        generalize w10.drew = w14 at HB HR547_2 HR547_7 hx547_0 hx547_1 hx547_10 hx547_11 hx547_2 hx547_3 hx547_4 hx547_5 hx547_6 hx547_7 hx547_8 hx547_9 hHeld ⊢
        refine pu 0 (some 39) (bm 8 1) rfl rfl ?_
        refine pu 1 (some 40) (bm 8 3) rfl rfl ?_
        refine pu 2 (some 41) (bm 8 7) rfl rfl ?_
        refine pu 3 (some 42) (bm 8 15) rfl rfl ?_
        refine pu 5 (some 44) (bm 8 47) rfl rfl ?_
        refine tk 4 (some 43) (bm 8 63) rfl rfl hHeld ?_
        refine one_ (i := 6) (N := some 45) (bm 8 127) rfl rfl (one_of HT_.out (by kernel_rfl)) (by decide) (fun K hK => ?_)
        refine gs Tryd.func66 #[.int .i64 t546] ?_
        with_reducible refine (laws_markText.calls k1 t546 t548 _ A12.out).mono ?_
        rintro e w15 ⟨rfl, hb⟩
        refine ⟨_, rfl, ?_⟩
        replace HB := Aside0.mk (below_step (zb HB) hb)
        (try clear hb)
        refine hK.out _ _ (an (cb hw547_0 HB) (an (cb hw547_1 HB) (an (cb hw547_2 HB) (an (cb hw547_3 HB) (an (cb hw547_4 HB) (an (cb hw547_5 HB) (an (cb hw547_6 HB) (an (cb hw547_7 HB) (an (cb hw547_8 HB) (an (cb hw547_9 HB) (an (cb hw547_10 HB) (cb hw547_11 HB)))))))))))) (fun hHeld => ?_)
        clear hK K
        refine nm ?_
        refine pu 7 (some 46) (bm 8 255) rfl rfl ?_
        refine done_ (done_of HT_.out (by kernel_rfl)) ?_
        go_upto_if 46 with (fail)
        have H := HC13.out
        clear HC13
        by_cases c16 : ((rd_T58 l0 x5_1).f3).toList = t548.toList
        ·rw [if_pos c16] at H
         have c16b0 : (((rd_T58 l0 x5_1).f3).toList == t548.toList) = true := beq_iff_eq.mpr c16
         have c16b1 : (((rd_T58 l0 x5_1).f3).toList != t548.toList) = false := bne_eq_false_iff_eq.mpr c16
         clear c16
         (first | rw [c16b0] | rw [c16b1] | rw [c16b2] | (simp only [i64_w, i32_w]; rw [c16b0]) | skip)
         by_cases c17 : (((rd_T58 l0 x5_1).f4) != ((Int.tmod (wrap64 (t546 + 1)) 3) == 0)) = true
         ·rw [if_pos c17] at H
          have c17b0 : (((rd_T58 l0 x5_1).f4) != ((Int.tmod (wrap64 (t546 + 1)) 3) == 0)) = true := c17
          (try (have c17b1 : decide (((rd_T58 l0 x5_1).f4) = ((Int.tmod (wrap64 (t546 + 1)) 3) == 0)) = false := by simpa using c17))
          (try (have c17b2 : (((rd_T58 l0 x5_1).f4) == ((Int.tmod (wrap64 (t546 + 1)) 3) == 0)) = false := by simpa using c17))
          (try (have c17b3 : ¬ (((rd_T58 l0 x5_1).f4) = ((Int.tmod (wrap64 (t546 + 1)) 3) == 0)) := by simpa using c17))
          clear c17
          obtain rfl := Option.some.inj H
          have p549 : 0 ≤ (x5_1 : Int) := of_decide_eq_true za
          have q549 : x5_1 < (l0.length : Int) := of_decide_eq_true za
          try clear hHeld
          try clear hx543_2
          try clear hx543_7
          try clear hx544_2
          try clear hx544_7
          try clear hx545_2
          try clear hx545_7
          try clear hx547_2
          try clear hx547_7
          obtain ⟨ad549, A549_2, c549_2, A549_7, c549_7, e549, hx549_0, hx549_1, hx549_2, hx549_3, hx549_4, hx549_5, hx549_6, hx549_7, hx549_8, hx549_9, hx549_10, hx549_11, hl549_2, hi549_2, hl549_7, hi549_7⟩ := at_T58 HR0.out x5_1 p549 q549
          obtain rfl : ad543 = ad549 := (by injection e549)
          replace hx549_0 := cb0 hx549_0 HB
          replace hx549_1 := cb0 hx549_1 HB
          replace hx549_2 := cb0 hx549_2 HB
          replace hx549_3 := cb0 hx549_3 HB
          replace hx549_4 := cb0 hx549_4 HB
          replace hx549_5 := cb0 hx549_5 HB
          replace hx549_6 := cb0 hx549_6 HB
          replace hx549_7 := cb0 hx549_7 HB
          replace hx549_8 := cb0 hx549_8 HB
          replace hx549_9 := cb0 hx549_9 HB
          replace hx549_10 := cb0 hx549_10 HB
          replace hx549_11 := cb0 hx549_11 HB
          have HR549_2 := Aside0.mk hi549_2
          have HC549_2 := Aside0.mk hl549_2
          clear hi549_2 hl549_2
          have HR549_7 := Aside0.mk hi549_7
          have HC549_7 := Aside0.mk hl549_7
          clear hi549_7 hl549_7
          replace p549 := eq_true p549
          replace q549 := eq_true q549
          go_wp2
          go_ret
          exact ⟨ze, zb HB⟩
         ·rw [if_neg c17] at H
          have c17b0 : (((rd_T58 l0 x5_1).f4) != ((Int.tmod (wrap64 (t546 + 1)) 3) == 0)) = false := by simpa using c17
          (try (have c17b1 : decide (((rd_T58 l0 x5_1).f4) = ((Int.tmod (wrap64 (t546 + 1)) 3) == 0)) = true := by simpa using c17))
          (try (have c17b2 : (((rd_T58 l0 x5_1).f4) == ((Int.tmod (wrap64 (t546 + 1)) 3) == 0)) = true := by simpa using c17))
          clear c17
          have HC18 := Aside0.mk H
          clear H
          have p549 : 0 ≤ (x5_1 : Int) := of_decide_eq_true za
          have q549 : x5_1 < (l0.length : Int) := of_decide_eq_true za
          try clear hHeld
          try clear hx543_2
          try clear hx543_7
          try clear hx544_2
          try clear hx544_7
          try clear hx545_2
          try clear hx545_7
          try clear hx547_2
          try clear hx547_7
          obtain ⟨ad549, A549_2, c549_2, A549_7, c549_7, e549, hx549_0, hx549_1, hx549_2, hx549_3, hx549_4, hx549_5, hx549_6, hx549_7, hx549_8, hx549_9, hx549_10, hx549_11, hl549_2, hi549_2, hl549_7, hi549_7⟩ := at_T58 HR0.out x5_1 p549 q549
          obtain rfl : ad543 = ad549 := (by injection e549)
          replace hx549_0 := cb0 hx549_0 HB
          replace hx549_1 := cb0 hx549_1 HB
          replace hx549_2 := cb0 hx549_2 HB
          replace hx549_3 := cb0 hx549_3 HB
          replace hx549_4 := cb0 hx549_4 HB
          replace hx549_5 := cb0 hx549_5 HB
          replace hx549_6 := cb0 hx549_6 HB
          replace hx549_7 := cb0 hx549_7 HB
          replace hx549_8 := cb0 hx549_8 HB
          replace hx549_9 := cb0 hx549_9 HB
          replace hx549_10 := cb0 hx549_10 HB
          replace hx549_11 := cb0 hx549_11 HB
          have HR549_2 := Aside0.mk hi549_2
          have HC549_2 := Aside0.mk hl549_2
          clear hi549_2 hl549_2
          have HR549_7 := Aside0.mk hi549_7
          have HC549_7 := Aside0.mk hl549_7
          clear hi549_7 hl549_7
          replace p549 := eq_true p549
          replace q549 := eq_true q549
          have p550 : 0 ≤ (x5_1 : Int) := of_decide_eq_true za
          have q550 : x5_1 < (l0.length : Int) := of_decide_eq_true za
          try clear hHeld
          try clear hx543_2
          try clear hx543_7
          try clear hx544_2
          try clear hx544_7
          try clear hx545_2
          try clear hx545_7
          try clear hx547_2
          try clear hx547_7
          obtain ⟨ad550, A550_2, c550_2, A550_7, c550_7, e550, hx550_0, hx550_1, hx550_2, hx550_3, hx550_4, hx550_5, hx550_6, hx550_7, hx550_8, hx550_9, hx550_10, hx550_11, hl550_2, hi550_2, hl550_7, hi550_7⟩ := at_T58 HR0.out x5_1 p550 q550
          obtain rfl : ad543 = ad550 := (by injection e550)
          replace hx550_0 := cb0 hx550_0 HB
          replace hx550_1 := cb0 hx550_1 HB
          replace hx550_2 := cb0 hx550_2 HB
          replace hx550_3 := cb0 hx550_3 HB
          replace hx550_4 := cb0 hx550_4 HB
          replace hx550_5 := cb0 hx550_5 HB
          replace hx550_6 := cb0 hx550_6 HB
          replace hx550_7 := cb0 hx550_7 HB
          replace hx550_8 := cb0 hx550_8 HB
          replace hx550_9 := cb0 hx550_9 HB
          replace hx550_10 := cb0 hx550_10 HB
          replace hx550_11 := cb0 hx550_11 HB
          have HR550_2 := Aside0.mk hi550_2
          have HC550_2 := Aside0.mk hl550_2
          clear hi550_2 hl550_2
          have HR550_7 := Aside0.mk hi550_7
          have HC550_7 := Aside0.mk hl550_7
          clear hi550_7 hl550_7
          replace p550 := eq_true p550
          replace q550 := eq_true q550
          have ea_ := Option.some.inj (hx549_2.symm.trans hx550_2)
          injection ea_ with ea_ en_ ec_
          subst ea_
          subst ec_
          clear en_
          have ea_ := Option.some.inj (hx549_7.symm.trans hx550_7)
          injection ea_ with ea_ en_ ec_
          subst ea_
          subst ec_
          clear en_
          go_upto_if 68 with (fail)
          have H := HC18.out
          clear HC18
          by_cases c19 : (((rd_T58 l0 x5_1).f5) != ((Int.tmod (wrap64 ((wrap64 (t546 + 1)) + 1)) 3) == 0)) = true
          ·rw [if_pos c19] at H
           have c19b0 : (((rd_T58 l0 x5_1).f5) != ((Int.tmod (wrap64 ((wrap64 (t546 + 1)) + 1)) 3) == 0)) = true := c19
           (try (have c19b1 : decide (((rd_T58 l0 x5_1).f5) = ((Int.tmod (wrap64 ((wrap64 (t546 + 1)) + 1)) 3) == 0)) = false := by simpa using c19))
           (try (have c19b2 : (((rd_T58 l0 x5_1).f5) == ((Int.tmod (wrap64 ((wrap64 (t546 + 1)) + 1)) 3) == 0)) = false := by simpa using c19))
           (try (have c19b3 : ¬ (((rd_T58 l0 x5_1).f5) = ((Int.tmod (wrap64 ((wrap64 (t546 + 1)) + 1)) 3) == 0)) := by simpa using c19))
           clear c19
           (first | rw [c19b0] | rw [c19b1] | rw [c19b2] | (simp only [i64_w, i32_w]; rw [c19b0]) | skip)
           obtain rfl := Option.some.inj H
           go_wp2
           go_ret
           exact ⟨ze, zb HB⟩
          ·rw [if_neg c19] at H
           have c19b0 : (((rd_T58 l0 x5_1).f5) != ((Int.tmod (wrap64 ((wrap64 (t546 + 1)) + 1)) 3) == 0)) = false := by simpa using c19
           (try (have c19b1 : decide (((rd_T58 l0 x5_1).f5) = ((Int.tmod (wrap64 ((wrap64 (t546 + 1)) + 1)) 3) == 0)) = true := by simpa using c19))
           (try (have c19b2 : (((rd_T58 l0 x5_1).f5) == ((Int.tmod (wrap64 ((wrap64 (t546 + 1)) + 1)) 3) == 0)) = true := by simpa using c19))
           clear c19
           (first | rw [c19b0] | rw [c19b1] | rw [c19b2] | (simp only [i64_w, i32_w]; rw [c19b0]) | skip)
           by_cases c20 : ((rd_T58 l0 x5_1).f6) = (wrap64 ((wrap64 ((wrap64 (t546 + 1)) + 1)) + 1))
           ·rw [if_pos c20] at H
            have c20b0 : (((rd_T58 l0 x5_1).f6) == (wrap64 ((wrap64 ((wrap64 (t546 + 1)) + 1)) + 1))) = true := beq_iff_eq.mpr c20
            have c20b1 : (((rd_T58 l0 x5_1).f6) != (wrap64 ((wrap64 ((wrap64 (t546 + 1)) + 1)) + 1))) = false := bne_eq_false_iff_eq.mpr c20
            clear c20
            obtain ⟨t553, A21, H⟩ := ob H
            (try dsimp only at H)
            have HC22 := Aside0.mk H
            clear H
            have p551 : 0 ≤ (x5_1 : Int) := of_decide_eq_true za
            have q551 : x5_1 < (l0.length : Int) := of_decide_eq_true za
            try clear hHeld
            try clear hx543_2
            try clear hx543_7
            try clear hx544_2
            try clear hx544_7
            try clear hx545_2
            try clear hx545_7
            try clear hx547_2
            try clear hx547_7
            try clear hx549_2
            try clear hx549_7
            try clear hx550_2
            try clear hx550_7
            obtain ⟨ad551, A551_2, c551_2, A551_7, c551_7, e551, hx551_0, hx551_1, hx551_2, hx551_3, hx551_4, hx551_5, hx551_6, hx551_7, hx551_8, hx551_9, hx551_10, hx551_11, hl551_2, hi551_2, hl551_7, hi551_7⟩ := at_T58 HR0.out x5_1 p551 q551
            obtain rfl : ad543 = ad551 := (by injection e551)
            replace hx551_0 := cb0 hx551_0 HB
            replace hx551_1 := cb0 hx551_1 HB
            replace hx551_2 := cb0 hx551_2 HB
            replace hx551_3 := cb0 hx551_3 HB
            replace hx551_4 := cb0 hx551_4 HB
            replace hx551_5 := cb0 hx551_5 HB
            replace hx551_6 := cb0 hx551_6 HB
            replace hx551_7 := cb0 hx551_7 HB
            replace hx551_8 := cb0 hx551_8 HB
            replace hx551_9 := cb0 hx551_9 HB
            replace hx551_10 := cb0 hx551_10 HB
            replace hx551_11 := cb0 hx551_11 HB
            have HR551_2 := Aside0.mk hi551_2
            have HC551_2 := Aside0.mk hl551_2
            clear hi551_2 hl551_2
            have HR551_7 := Aside0.mk hi551_7
            have HC551_7 := Aside0.mk hl551_7
            clear hi551_7 hl551_7
            replace p551 := eq_true p551
            replace q551 := eq_true q551
            have p552 : 0 ≤ (x5_1 : Int) := of_decide_eq_true za
            have q552 : x5_1 < (l0.length : Int) := of_decide_eq_true za
            try clear hHeld
            try clear hx543_2
            try clear hx543_7
            try clear hx544_2
            try clear hx544_7
            try clear hx545_2
            try clear hx545_7
            try clear hx547_2
            try clear hx547_7
            try clear hx549_2
            try clear hx549_7
            try clear hx550_2
            try clear hx550_7
            obtain ⟨ad552, A552_2, c552_2, A552_7, c552_7, e552, hx552_0, hx552_1, hx552_2, hx552_3, hx552_4, hx552_5, hx552_6, hx552_7, hx552_8, hx552_9, hx552_10, hx552_11, hl552_2, hi552_2, hl552_7, hi552_7⟩ := at_T58 HR0.out x5_1 p552 q552
            obtain rfl : ad543 = ad552 := (by injection e552)
            replace hx552_0 := cb0 hx552_0 HB
            replace hx552_1 := cb0 hx552_1 HB
            replace hx552_2 := cb0 hx552_2 HB
            replace hx552_3 := cb0 hx552_3 HB
            replace hx552_4 := cb0 hx552_4 HB
            replace hx552_5 := cb0 hx552_5 HB
            replace hx552_6 := cb0 hx552_6 HB
            replace hx552_7 := cb0 hx552_7 HB
            replace hx552_8 := cb0 hx552_8 HB
            replace hx552_9 := cb0 hx552_9 HB
            replace hx552_10 := cb0 hx552_10 HB
            replace hx552_11 := cb0 hx552_11 HB
            have HR552_2 := Aside0.mk hi552_2
            have HC552_2 := Aside0.mk hl552_2
            clear hi552_2 hl552_2
            have HR552_7 := Aside0.mk hi552_7
            have HC552_7 := Aside0.mk hl552_7
            clear hi552_7 hl552_7
            replace p552 := eq_true p552
            replace q552 := eq_true q552
            have ea_ := Option.some.inj (hx551_2.symm.trans hx552_2)
            injection ea_ with ea_ en_ ec_
            subst ea_
            subst ec_
            clear en_
            have ea_ := Option.some.inj (hx551_7.symm.trans hx552_7)
            injection ea_ with ea_ en_ ec_
            subst ea_
            subst ec_
            clear en_
            go_upto_if 88 with (first | ((with_reducible refine gq 67 rfl ?_); refine gl (some 86) Tryd.func67 #[.slice A551_7 ((rd_T58 l0 x5_1).f7).length c551_7, .int .i64 (wrap64 ((wrap64 ((wrap64 ((wrap64 (t546 + 1)) + 1)) + 1)) + 1))] ?_; (with_reducible refine (laws_heldFieldS.calls k1 _ _ ((rd_T58 l0 x5_1).f7) (wrap64 ((wrap64 ((wrap64 ((wrap64 (t546 + 1)) + 1)) + 1)) + 1)) t553 _ ?side1 ?side2 A21.out).mono ?_); (case side1 => exact zc (Kd.C_below HR552_7.out HB.out)); (case side2 => exact HC552_7.out); rintro e w23 ⟨rfl, hb⟩; refine ⟨_, rfl, ?_⟩; replace HB := Aside0.mk (below_step (zb HB) hb); (try clear hb)))
            (try simp only [Act.put, s1, s2, s3])
            have H := HC22.out
            clear HC22
            by_cases c24 : t553 < 0
            ·rw [if_pos c24] at H
             have c24b0 := decide_eq_true c24
             clear c24
             (first | rw [c24b0] | rw [c24b1] | rw [c24b2] | (simp only [i64_w, i32_w]; rw [c24b0]) | skip)
             obtain rfl := Option.some.inj H
             go_wp2
             go_ret
             exact ⟨ze, zb HB⟩
            ·rw [if_neg c24] at H
             have c24b0 := decide_eq_false c24
             clear c24
             (first | rw [c24b0] | rw [c24b1] | rw [c24b2] | (simp only [i64_w, i32_w]; rw [c24b0]) | skip)
             obtain ⟨t555, A25, H⟩ := ob H
             (try dsimp only at H)
             have HC26 := Aside0.mk H
             clear H
             try go_wp2
             replace HB := Aside0.mk (below_drew1 HB.out)
             have p554 : 0 ≤ (x5_1 : Int) := of_decide_eq_true za
             have q554 : x5_1 < (l0.length : Int) := of_decide_eq_true za
             try clear hHeld
             try clear hx543_2
             try clear hx543_7
             try clear hx544_2
             try clear hx544_7
             try clear hx545_2
             try clear hx545_7
             try clear hx547_2
             try clear hx547_7
             try clear hx549_2
             try clear hx549_7
             try clear hx550_2
             try clear hx550_7
             try clear hx551_2
             try clear hx551_7
             try clear hx552_2
             try clear hx552_7
             obtain ⟨ad554, A554_2, c554_2, A554_7, c554_7, e554, hx554_0, hx554_1, hx554_2, hx554_3, hx554_4, hx554_5, hx554_6, hx554_7, hx554_8, hx554_9, hx554_10, hx554_11, hl554_2, hi554_2, hl554_7, hi554_7⟩ := at_T58 HR0.out x5_1 p554 q554
             have hw554_11 := hx554_11
             have hw554_10 := hx554_10
             have hw554_9 := hx554_9
             have hw554_8 := hx554_8
             have hw554_7 := hx554_7
             have hw554_6 := hx554_6
             have hw554_5 := hx554_5
             have hw554_4 := hx554_4
             have hw554_3 := hx554_3
             have hw554_2 := hx554_2
             have hw554_1 := hx554_1
             have hw554_0 := hx554_0
             obtain rfl : ad543 = ad554 := (by injection e554)
             replace hx554_0 := cb0 hx554_0 HB
             replace hx554_1 := cb0 hx554_1 HB
             replace hx554_2 := cb0 hx554_2 HB
             replace hx554_3 := cb0 hx554_3 HB
             replace hx554_4 := cb0 hx554_4 HB
             replace hx554_5 := cb0 hx554_5 HB
             replace hx554_6 := cb0 hx554_6 HB
             replace hx554_7 := cb0 hx554_7 HB
             replace hx554_8 := cb0 hx554_8 HB
             replace hx554_9 := cb0 hx554_9 HB
             replace hx554_10 := cb0 hx554_10 HB
             replace hx554_11 := cb0 hx554_11 HB
             have HR554_2 := Aside0.mk hi554_2
             have HC554_2 := Aside0.mk hl554_2
             clear hi554_2 hl554_2
             have HR554_7 := Aside0.mk hi554_7
             have HC554_7 := Aside0.mk hl554_7
             clear hi554_7 hl554_7
             replace p554 := eq_true p554
             replace q554 := eq_true q554
             refine st 8 (an (cb hw554_0 HB) (an (cb hw554_1 HB) (an (cb hw554_2 HB) (an (cb hw554_3 HB) (an (cb hw554_4 HB) (an (cb hw554_5 HB) (an (cb hw554_6 HB) (an (cb hw554_7 HB) (an (cb hw554_8 HB) (an (cb hw554_9 HB) (an (cb hw554_10 HB) (cb hw554_11 HB)))))))))))) (fun hHeld => ?_); refine with_tabW laws_heldStreamS.tab28 laws_heldStreamS.bits28 (fun HT_ HW_ => ?_)
             generalize w23.drew = w27 at HB HR554_2 HR554_7 hx554_0 hx554_1 hx554_10 hx554_11 hx554_2 hx554_3 hx554_4 hx554_5 hx554_6 hx554_7 hx554_8 hx554_9 hHeld ⊢
             refine pu 0 (some 89) (bm 8 1) rfl rfl ?_
             refine pu 1 (some 90) (bm 8 3) rfl rfl ?_
             refine pu 2 (some 91) (bm 8 7) rfl rfl ?_
             refine pu 3 (some 92) (bm 8 15) rfl rfl ?_
             refine pu 5 (some 94) (bm 8 47) rfl rfl ?_
             refine tk 4 (some 93) (bm 8 63) rfl rfl hHeld ?_
             refine one_ (i := 6) (N := some 95) (bm 8 127) rfl rfl (one_of HT_.out (by kernel_rfl)) (by decide) (fun K hK => ?_)
             refine gs Tryd.func66 #[.int .i64 t553] ?_
             with_reducible refine (laws_markText.calls k1 t553 t555 _ A25.out).mono ?_
             rintro e w28 ⟨rfl, hb⟩
             refine ⟨_, rfl, ?_⟩
             replace HB := Aside0.mk (below_step (zb HB) hb)
             (try clear hb)
             refine hK.out _ _ (an (cb hw554_0 HB) (an (cb hw554_1 HB) (an (cb hw554_2 HB) (an (cb hw554_3 HB) (an (cb hw554_4 HB) (an (cb hw554_5 HB) (an (cb hw554_6 HB) (an (cb hw554_7 HB) (an (cb hw554_8 HB) (an (cb hw554_9 HB) (an (cb hw554_10 HB) (cb hw554_11 HB)))))))))))) (fun hHeld => ?_)
             clear hK K
             refine nm ?_
             refine pu 7 (some 96) (bm 8 255) rfl rfl ?_
             refine done_ (done_of HT_.out (by kernel_rfl)) ?_
             go_upto_if 96 with (fail)
             have H := HC26.out
             clear HC26
             by_cases c29 : ((rd_T58 l0 x5_1).f8).toList = t555.toList
             ·rw [if_pos c29] at H
              have c29b0 : (((rd_T58 l0 x5_1).f8).toList == t555.toList) = true := beq_iff_eq.mpr c29
              have c29b1 : (((rd_T58 l0 x5_1).f8).toList != t555.toList) = false := bne_eq_false_iff_eq.mpr c29
              clear c29
              (first | rw [c29b0] | rw [c29b1] | rw [c29b2] | (simp only [i64_w, i32_w]; rw [c29b0]) | skip)
              by_cases c30 : (((rd_T58 l0 x5_1).f9) != ((Int.tmod (wrap64 (t553 + 1)) 3) == 0)) = true
              ·rw [if_pos c30] at H
               have c30b0 : (((rd_T58 l0 x5_1).f9) != ((Int.tmod (wrap64 (t553 + 1)) 3) == 0)) = true := c30
               (try (have c30b1 : decide (((rd_T58 l0 x5_1).f9) = ((Int.tmod (wrap64 (t553 + 1)) 3) == 0)) = false := by simpa using c30))
               (try (have c30b2 : (((rd_T58 l0 x5_1).f9) == ((Int.tmod (wrap64 (t553 + 1)) 3) == 0)) = false := by simpa using c30))
               (try (have c30b3 : ¬ (((rd_T58 l0 x5_1).f9) = ((Int.tmod (wrap64 (t553 + 1)) 3) == 0)) := by simpa using c30))
               clear c30
               obtain rfl := Option.some.inj H
               have p556 : 0 ≤ (x5_1 : Int) := of_decide_eq_true za
               have q556 : x5_1 < (l0.length : Int) := of_decide_eq_true za
               try clear hHeld
               try clear hx543_2
               try clear hx543_7
               try clear hx544_2
               try clear hx544_7
               try clear hx545_2
               try clear hx545_7
               try clear hx547_2
               try clear hx547_7
               try clear hx549_2
               try clear hx549_7
               try clear hx550_2
               try clear hx550_7
               try clear hx551_2
               try clear hx551_7
               try clear hx552_2
               try clear hx552_7
               try clear hx554_2
               try clear hx554_7
               obtain ⟨ad556, A556_2, c556_2, A556_7, c556_7, e556, hx556_0, hx556_1, hx556_2, hx556_3, hx556_4, hx556_5, hx556_6, hx556_7, hx556_8, hx556_9, hx556_10, hx556_11, hl556_2, hi556_2, hl556_7, hi556_7⟩ := at_T58 HR0.out x5_1 p556 q556
               obtain rfl : ad543 = ad556 := (by injection e556)
               replace hx556_0 := cb0 hx556_0 HB
               replace hx556_1 := cb0 hx556_1 HB
               replace hx556_2 := cb0 hx556_2 HB
               replace hx556_3 := cb0 hx556_3 HB
               replace hx556_4 := cb0 hx556_4 HB
               replace hx556_5 := cb0 hx556_5 HB
               replace hx556_6 := cb0 hx556_6 HB
               replace hx556_7 := cb0 hx556_7 HB
               replace hx556_8 := cb0 hx556_8 HB
               replace hx556_9 := cb0 hx556_9 HB
               replace hx556_10 := cb0 hx556_10 HB
               replace hx556_11 := cb0 hx556_11 HB
               have HR556_2 := Aside0.mk hi556_2
               have HC556_2 := Aside0.mk hl556_2
               clear hi556_2 hl556_2
               have HR556_7 := Aside0.mk hi556_7
               have HC556_7 := Aside0.mk hl556_7
               clear hi556_7 hl556_7
               replace p556 := eq_true p556
               replace q556 := eq_true q556
               go_wp2
               go_ret
               exact ⟨ze, zb HB⟩
              ·rw [if_neg c30] at H
               have c30b0 : (((rd_T58 l0 x5_1).f9) != ((Int.tmod (wrap64 (t553 + 1)) 3) == 0)) = false := by simpa using c30
               (try (have c30b1 : decide (((rd_T58 l0 x5_1).f9) = ((Int.tmod (wrap64 (t553 + 1)) 3) == 0)) = true := by simpa using c30))
               (try (have c30b2 : (((rd_T58 l0 x5_1).f9) == ((Int.tmod (wrap64 (t553 + 1)) 3) == 0)) = true := by simpa using c30))
               clear c30
               have HC31 := Aside0.mk H
               clear H
               have p556 : 0 ≤ (x5_1 : Int) := of_decide_eq_true za
               have q556 : x5_1 < (l0.length : Int) := of_decide_eq_true za
               try clear hHeld
               try clear hx543_2
               try clear hx543_7
               try clear hx544_2
               try clear hx544_7
               try clear hx545_2
               try clear hx545_7
               try clear hx547_2
               try clear hx547_7
               try clear hx549_2
               try clear hx549_7
               try clear hx550_2
               try clear hx550_7
               try clear hx551_2
               try clear hx551_7
               try clear hx552_2
               try clear hx552_7
               try clear hx554_2
               try clear hx554_7
               obtain ⟨ad556, A556_2, c556_2, A556_7, c556_7, e556, hx556_0, hx556_1, hx556_2, hx556_3, hx556_4, hx556_5, hx556_6, hx556_7, hx556_8, hx556_9, hx556_10, hx556_11, hl556_2, hi556_2, hl556_7, hi556_7⟩ := at_T58 HR0.out x5_1 p556 q556
               obtain rfl : ad543 = ad556 := (by injection e556)
               replace hx556_0 := cb0 hx556_0 HB
               replace hx556_1 := cb0 hx556_1 HB
               replace hx556_2 := cb0 hx556_2 HB
               replace hx556_3 := cb0 hx556_3 HB
               replace hx556_4 := cb0 hx556_4 HB
               replace hx556_5 := cb0 hx556_5 HB
               replace hx556_6 := cb0 hx556_6 HB
               replace hx556_7 := cb0 hx556_7 HB
               replace hx556_8 := cb0 hx556_8 HB
               replace hx556_9 := cb0 hx556_9 HB
               replace hx556_10 := cb0 hx556_10 HB
               replace hx556_11 := cb0 hx556_11 HB
               have HR556_2 := Aside0.mk hi556_2
               have HC556_2 := Aside0.mk hl556_2
               clear hi556_2 hl556_2
               have HR556_7 := Aside0.mk hi556_7
               have HC556_7 := Aside0.mk hl556_7
               clear hi556_7 hl556_7
               replace p556 := eq_true p556
               replace q556 := eq_true q556
               have p557 : 0 ≤ (x5_1 : Int) := of_decide_eq_true za
               have q557 : x5_1 < (l0.length : Int) := of_decide_eq_true za
               try clear hHeld
               try clear hx543_2
               try clear hx543_7
               try clear hx544_2
               try clear hx544_7
               try clear hx545_2
               try clear hx545_7
               try clear hx547_2
               try clear hx547_7
               try clear hx549_2
               try clear hx549_7
               try clear hx550_2
               try clear hx550_7
               try clear hx551_2
               try clear hx551_7
               try clear hx552_2
               try clear hx552_7
               try clear hx554_2
               try clear hx554_7
               obtain ⟨ad557, A557_2, c557_2, A557_7, c557_7, e557, hx557_0, hx557_1, hx557_2, hx557_3, hx557_4, hx557_5, hx557_6, hx557_7, hx557_8, hx557_9, hx557_10, hx557_11, hl557_2, hi557_2, hl557_7, hi557_7⟩ := at_T58 HR0.out x5_1 p557 q557
               obtain rfl : ad543 = ad557 := (by injection e557)
               replace hx557_0 := cb0 hx557_0 HB
               replace hx557_1 := cb0 hx557_1 HB
               replace hx557_2 := cb0 hx557_2 HB
               replace hx557_3 := cb0 hx557_3 HB
               replace hx557_4 := cb0 hx557_4 HB
               replace hx557_5 := cb0 hx557_5 HB
               replace hx557_6 := cb0 hx557_6 HB
               replace hx557_7 := cb0 hx557_7 HB
               replace hx557_8 := cb0 hx557_8 HB
               replace hx557_9 := cb0 hx557_9 HB
               replace hx557_10 := cb0 hx557_10 HB
               replace hx557_11 := cb0 hx557_11 HB
               have HR557_2 := Aside0.mk hi557_2
               have HC557_2 := Aside0.mk hl557_2
               clear hi557_2 hl557_2
               have HR557_7 := Aside0.mk hi557_7
               have HC557_7 := Aside0.mk hl557_7
               clear hi557_7 hl557_7
               replace p557 := eq_true p557
               replace q557 := eq_true q557
               have ea_ := Option.some.inj (hx556_2.symm.trans hx557_2)
               injection ea_ with ea_ en_ ec_
               subst ea_
               subst ec_
               clear en_
               have ea_ := Option.some.inj (hx556_7.symm.trans hx557_7)
               injection ea_ with ea_ en_ ec_
               subst ea_
               subst ec_
               clear en_
               go_upto_if 117 with (fail)
               have H := HC31.out
               clear HC31
               by_cases c32 : ((rd_T58 l0 x5_1).f10.f0) = (wrap64 ((wrap64 (t553 + 1)) + 1))
               ·rw [if_pos c32] at H
                have c32b0 : (((rd_T58 l0 x5_1).f10.f0) == (wrap64 ((wrap64 (t553 + 1)) + 1))) = true := beq_iff_eq.mpr c32
                have c32b1 : (((rd_T58 l0 x5_1).f10.f0) != (wrap64 ((wrap64 (t553 + 1)) + 1))) = false := bne_eq_false_iff_eq.mpr c32
                clear c32
                (first | rw [c32b0] | rw [c32b1] | rw [c32b2] | (simp only [i64_w, i32_w]; rw [c32b0]) | skip)
                by_cases c33 : ((rd_T58 l0 x5_1).f10.f1) = (wrap64 ((wrap64 ((wrap64 (t553 + 1)) + 1)) + 1))
                ·rw [if_pos c33] at H
                 have c33b0 : (((rd_T58 l0 x5_1).f10.f1) == (wrap64 ((wrap64 ((wrap64 (t553 + 1)) + 1)) + 1))) = true := beq_iff_eq.mpr c33
                 have c33b1 : (((rd_T58 l0 x5_1).f10.f1) != (wrap64 ((wrap64 ((wrap64 (t553 + 1)) + 1)) + 1))) = false := bne_eq_false_iff_eq.mpr c33
                 clear c33
                 have H' := Aside0.mk H
                 clear H
                 have p558 : 0 ≤ (x5_1 : Int) := of_decide_eq_true za
                 have q558 : x5_1 < (l0.length : Int) := of_decide_eq_true za
                 try clear hHeld
                 try clear hx543_2
                 try clear hx543_7
                 try clear hx544_2
                 try clear hx544_7
                 try clear hx545_2
                 try clear hx545_7
                 try clear hx547_2
                 try clear hx547_7
                 try clear hx549_2
                 try clear hx549_7
                 try clear hx550_2
                 try clear hx550_7
                 try clear hx551_2
                 try clear hx551_7
                 try clear hx552_2
                 try clear hx552_7
                 try clear hx554_2
                 try clear hx554_7
                 try clear hx556_2
                 try clear hx556_7
                 try clear hx557_2
                 try clear hx557_7
                 obtain ⟨ad558, A558_2, c558_2, A558_7, c558_7, e558, hx558_0, hx558_1, hx558_2, hx558_3, hx558_4, hx558_5, hx558_6, hx558_7, hx558_8, hx558_9, hx558_10, hx558_11, hl558_2, hi558_2, hl558_7, hi558_7⟩ := at_T58 HR0.out x5_1 p558 q558
                 obtain rfl : ad543 = ad558 := (by injection e558)
                 replace hx558_0 := cb0 hx558_0 HB
                 replace hx558_1 := cb0 hx558_1 HB
                 replace hx558_2 := cb0 hx558_2 HB
                 replace hx558_3 := cb0 hx558_3 HB
                 replace hx558_4 := cb0 hx558_4 HB
                 replace hx558_5 := cb0 hx558_5 HB
                 replace hx558_6 := cb0 hx558_6 HB
                 replace hx558_7 := cb0 hx558_7 HB
                 replace hx558_8 := cb0 hx558_8 HB
                 replace hx558_9 := cb0 hx558_9 HB
                 replace hx558_10 := cb0 hx558_10 HB
                 replace hx558_11 := cb0 hx558_11 HB
                 have HR558_2 := Aside0.mk hi558_2
                 have HC558_2 := Aside0.mk hl558_2
                 clear hi558_2 hl558_2
                 have HR558_7 := Aside0.mk hi558_7
                 have HC558_7 := Aside0.mk hl558_7
                 clear hi558_7 hl558_7
                 replace p558 := eq_true p558
                 replace q558 := eq_true q558
                 go_wp2
                 go_roundg k1
                 case measure => have := HK1.out; omega
                 case rel => exact ⟨(wrap64 ((wrap64 ((wrap64 ((wrap64 (t553 + 1)) + 1)) + 1)) + 1)), (wrap64 (x5_1 + 1)), zs, zs, H', ⟨by have := HK1.out; omega⟩, ⟨zb HB⟩⟩
                ·rw [if_neg c33] at H
                 have c33b0 : (((rd_T58 l0 x5_1).f10.f1) == (wrap64 ((wrap64 ((wrap64 (t553 + 1)) + 1)) + 1))) = false := beq_eq_false_iff_ne.mpr c33
                 have c33b1 : (((rd_T58 l0 x5_1).f10.f1) != (wrap64 ((wrap64 ((wrap64 (t553 + 1)) + 1)) + 1))) = true := bne_iff_ne.mpr c33
                 obtain rfl := Option.some.inj H
                 have p558 : 0 ≤ (x5_1 : Int) := of_decide_eq_true za
                 have q558 : x5_1 < (l0.length : Int) := of_decide_eq_true za
                 try clear hHeld
                 try clear hx543_2
                 try clear hx543_7
                 try clear hx544_2
                 try clear hx544_7
                 try clear hx545_2
                 try clear hx545_7
                 try clear hx547_2
                 try clear hx547_7
                 try clear hx549_2
                 try clear hx549_7
                 try clear hx550_2
                 try clear hx550_7
                 try clear hx551_2
                 try clear hx551_7
                 try clear hx552_2
                 try clear hx552_7
                 try clear hx554_2
                 try clear hx554_7
                 try clear hx556_2
                 try clear hx556_7
                 try clear hx557_2
                 try clear hx557_7
                 obtain ⟨ad558, A558_2, c558_2, A558_7, c558_7, e558, hx558_0, hx558_1, hx558_2, hx558_3, hx558_4, hx558_5, hx558_6, hx558_7, hx558_8, hx558_9, hx558_10, hx558_11, hl558_2, hi558_2, hl558_7, hi558_7⟩ := at_T58 HR0.out x5_1 p558 q558
                 obtain rfl : ad543 = ad558 := (by injection e558)
                 replace hx558_0 := cb0 hx558_0 HB
                 replace hx558_1 := cb0 hx558_1 HB
                 replace hx558_2 := cb0 hx558_2 HB
                 replace hx558_3 := cb0 hx558_3 HB
                 replace hx558_4 := cb0 hx558_4 HB
                 replace hx558_5 := cb0 hx558_5 HB
                 replace hx558_6 := cb0 hx558_6 HB
                 replace hx558_7 := cb0 hx558_7 HB
                 replace hx558_8 := cb0 hx558_8 HB
                 replace hx558_9 := cb0 hx558_9 HB
                 replace hx558_10 := cb0 hx558_10 HB
                 replace hx558_11 := cb0 hx558_11 HB
                 have HR558_2 := Aside0.mk hi558_2
                 have HC558_2 := Aside0.mk hl558_2
                 clear hi558_2 hl558_2
                 have HR558_7 := Aside0.mk hi558_7
                 have HC558_7 := Aside0.mk hl558_7
                 clear hi558_7 hl558_7
                 replace p558 := eq_true p558
                 replace q558 := eq_true q558
                 go_wp2
                 go_ret
                 exact ⟨ze, zb HB⟩
               ·rw [if_neg c32] at H
                have c32b0 : (((rd_T58 l0 x5_1).f10.f0) == (wrap64 ((wrap64 (t553 + 1)) + 1))) = false := beq_eq_false_iff_ne.mpr c32
                have c32b1 : (((rd_T58 l0 x5_1).f10.f0) != (wrap64 ((wrap64 (t553 + 1)) + 1))) = true := bne_iff_ne.mpr c32
                (first | rw [c32b0] | rw [c32b1] | rw [c32b2] | (simp only [i64_w, i32_w]; rw [c32b0]) | skip)
                obtain rfl := Option.some.inj H
                go_wp2
                go_ret
                exact ⟨ze, zb HB⟩
             ·rw [if_neg c29] at H
              have c29b0 : (((rd_T58 l0 x5_1).f8).toList == t555.toList) = false := beq_eq_false_iff_ne.mpr c29
              have c29b1 : (((rd_T58 l0 x5_1).f8).toList != t555.toList) = true := bne_iff_ne.mpr c29
              (first | rw [c29b0] | rw [c29b1] | rw [c29b2] | (simp only [i64_w, i32_w]; rw [c29b0]) | skip)
              obtain rfl := Option.some.inj H
              go_wp2
              go_ret
              exact ⟨ze, zb HB⟩
           ·rw [if_neg c20] at H
            have c20b0 : (((rd_T58 l0 x5_1).f6) == (wrap64 ((wrap64 ((wrap64 (t546 + 1)) + 1)) + 1))) = false := beq_eq_false_iff_ne.mpr c20
            have c20b1 : (((rd_T58 l0 x5_1).f6) != (wrap64 ((wrap64 ((wrap64 (t546 + 1)) + 1)) + 1))) = true := bne_iff_ne.mpr c20
            obtain rfl := Option.some.inj H
            have p551 : 0 ≤ (x5_1 : Int) := of_decide_eq_true za
            have q551 : x5_1 < (l0.length : Int) := of_decide_eq_true za
            try clear hHeld
            try clear hx543_2
            try clear hx543_7
            try clear hx544_2
            try clear hx544_7
            try clear hx545_2
            try clear hx545_7
            try clear hx547_2
            try clear hx547_7
            try clear hx549_2
            try clear hx549_7
            try clear hx550_2
            try clear hx550_7
            try clear hx552_2
            try clear hx552_7
            try clear hx554_2
            try clear hx554_7
            try clear hx556_2
            try clear hx556_7
            try clear hx557_2
            try clear hx557_7
            obtain ⟨ad551, A551_2, c551_2, A551_7, c551_7, e551, hx551_0, hx551_1, hx551_2, hx551_3, hx551_4, hx551_5, hx551_6, hx551_7, hx551_8, hx551_9, hx551_10, hx551_11, hl551_2, hi551_2, hl551_7, hi551_7⟩ := at_T58 HR0.out x5_1 p551 q551
            obtain rfl : ad543 = ad551 := (by injection e551)
            replace hx551_0 := cb0 hx551_0 HB
            replace hx551_1 := cb0 hx551_1 HB
            replace hx551_2 := cb0 hx551_2 HB
            replace hx551_3 := cb0 hx551_3 HB
            replace hx551_4 := cb0 hx551_4 HB
            replace hx551_5 := cb0 hx551_5 HB
            replace hx551_6 := cb0 hx551_6 HB
            replace hx551_7 := cb0 hx551_7 HB
            replace hx551_8 := cb0 hx551_8 HB
            replace hx551_9 := cb0 hx551_9 HB
            replace hx551_10 := cb0 hx551_10 HB
            replace hx551_11 := cb0 hx551_11 HB
            have HR551_2 := Aside0.mk hi551_2
            have HC551_2 := Aside0.mk hl551_2
            clear hi551_2 hl551_2
            have HR551_7 := Aside0.mk hi551_7
            have HC551_7 := Aside0.mk hl551_7
            clear hi551_7 hl551_7
            replace p551 := eq_true p551
            replace q551 := eq_true q551
            go_wp2
            go_ret
            exact ⟨ze, zb HB⟩
        ·rw [if_neg c16] at H
         have c16b0 : (((rd_T58 l0 x5_1).f3).toList == t548.toList) = false := beq_eq_false_iff_ne.mpr c16
         have c16b1 : (((rd_T58 l0 x5_1).f3).toList != t548.toList) = true := bne_iff_ne.mpr c16
         (first | rw [c16b0] | rw [c16b1] | rw [c16b2] | (simp only [i64_w, i32_w]; rw [c16b0]) | skip)
         obtain rfl := Option.some.inj H
         go_wp2
         go_ret
         exact ⟨ze, zb HB⟩
      ·rw [if_neg c7] at H
       have c7b0 : (((rd_T58 l0 x5_1).f1) == (wrap64 (x1_1 + 1))) = false := beq_eq_false_iff_ne.mpr c7
       have c7b1 : (((rd_T58 l0 x5_1).f1) != (wrap64 (x1_1 + 1))) = true := bne_iff_ne.mpr c7
       (first | rw [c7b0] | rw [c7b1] | rw [c7b2] | (simp only [i64_w, i32_w]; rw [c7b0]) | skip)
       obtain rfl := Option.some.inj H
       go_wp2
       go_ret
       exact ⟨ze, zb HB⟩
     ·rw [if_neg c5] at H
      have c5b0 : (((rd_T58 l0 x5_1).f0) == x1_1) = false := beq_eq_false_iff_ne.mpr c5
      have c5b1 : (((rd_T58 l0 x5_1).f0) != x1_1) = true := bne_iff_ne.mpr c5
      obtain rfl := Option.some.inj H
      have p543 : 0 ≤ (x5_1 : Int) := of_decide_eq_true za
      have q543 : x5_1 < (l0.length : Int) := of_decide_eq_true za
      try clear hHeld
      try clear hx544_2
      try clear hx544_7
      try clear hx545_2
      try clear hx545_7
      try clear hx547_2
      try clear hx547_7
      try clear hx549_2
      try clear hx549_7
      try clear hx550_2
      try clear hx550_7
      try clear hx551_2
      try clear hx551_7
      try clear hx552_2
      try clear hx552_7
      try clear hx554_2
      try clear hx554_7
      try clear hx556_2
      try clear hx556_7
      try clear hx557_2
      try clear hx557_7
      obtain ⟨ad543, A543_2, c543_2, A543_7, c543_7, e543, hx543_0, hx543_1, hx543_2, hx543_3, hx543_4, hx543_5, hx543_6, hx543_7, hx543_8, hx543_9, hx543_10, hx543_11, hl543_2, hi543_2, hl543_7, hi543_7⟩ := at_T58 HR0.out x5_1 p543 q543
      cases e543
      replace hx543_0 := cb0 hx543_0 HB
      replace hx543_1 := cb0 hx543_1 HB
      replace hx543_2 := cb0 hx543_2 HB
      replace hx543_3 := cb0 hx543_3 HB
      replace hx543_4 := cb0 hx543_4 HB
      replace hx543_5 := cb0 hx543_5 HB
      replace hx543_6 := cb0 hx543_6 HB
      replace hx543_7 := cb0 hx543_7 HB
      replace hx543_8 := cb0 hx543_8 HB
      replace hx543_9 := cb0 hx543_9 HB
      replace hx543_10 := cb0 hx543_10 HB
      replace hx543_11 := cb0 hx543_11 HB
      have HR543_2 := Aside0.mk hi543_2
      have HC543_2 := Aside0.mk hl543_2
      clear hi543_2 hl543_2
      have HR543_7 := Aside0.mk hi543_7
      have HC543_7 := Aside0.mk hl543_7
      clear hi543_7 hl543_7
      replace p543 := eq_true p543
      replace q543 := eq_true q543
      go_wp2
      go_ret
      exact ⟨ze, zb HB⟩
    ·rw [if_neg c4] at H
     exact absurd H (by simp)
   ·skip
    have c3b0 := decide_eq_false c3
    clear c3
    obtain rfl := Option.some.inj H
    go_wp2
    go_ret
    exact ⟨ze, zb HB⟩

end Go.Proofs.YtlpibelofcabhaaDoor.PFnExactEndCall
