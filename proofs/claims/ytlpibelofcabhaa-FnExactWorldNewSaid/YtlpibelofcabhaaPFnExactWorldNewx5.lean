-- WRITTEN BY a turned print (wip/tools of the prover's repo)
import Derived.Test.YtlpibelofcabhaaPFnExactWorldNewx0
import Derived.Test.YtlpibelofcabhaaPFnExactWorldNewx3
import Derived.Test.YtlpibelofcabhaaPFnExactWorldNewx4
namespace Go.Proofs.Ytlpibelofcabhaa.PFnExactWorldNew
open Go.RowKit Go.Proofs.YtlpibelofcabhaaW.PrintWords Go.Proofs.YtlpibelofcabhaaW.PrintLast Go.Proofs.YtlpibelofcabhaaW.PrintMore Go.Proofs.Ytlpibelofcabhaa.Lm
attribute [local go_sem] max2_int min2_int max_two min_two max_three min_three max_four min_four   -- for this text's walks alone
set_option linter.unusedVariables false
set_option linter.unusedSimpArgs false

/-! ### laws_heldStreamS: function 73 -/
-- thin
def laws_heldStreamS.l0 : Nat → List (S104) → Int → Int → Option (Int)
 | 0, _, _, _ => none
 | k + 1, x0, x1, x5 => if x5 < (x0.length : Int) then (if 0 ≤ x5 then (if ((rd_T104 x0 x5).f0) = x1 then (if ((rd_T104 x0 x5).f1) = (wrap64 (x1 + 1)) then ((laws_heldFieldS.f k ((rd_T104 x0 x5).f2) (wrap64 ((wrap64 (x1 + 1)) + 1))).bind fun t203 => (if t203 < 0 then (some (-1)) else ((laws_markText.f k t203).bind fun t205 => (if ((rd_T104 x0 x5).f3).toList = t205.toList then (if (((rd_T104 x0 x5).f4) != ((Int.tmod (wrap64 (t203 + 1)) 3) == 0)) = true then (some (-1)) else (if (((rd_T104 x0 x5).f5) != ((Int.tmod (wrap64 ((wrap64 (t203 + 1)) + 1)) 3) == 0)) = true then (some (-1)) else (if ((rd_T104 x0 x5).f6) = (wrap64 ((wrap64 ((wrap64 (t203 + 1)) + 1)) + 1)) then ((laws_heldFieldS.f k ((rd_T104 x0 x5).f7) (wrap64 ((wrap64 ((wrap64 ((wrap64 (t203 + 1)) + 1)) + 1)) + 1))).bind fun t210 => (if t210 < 0 then (some (-1)) else ((laws_markText.f k t210).bind fun t212 => (if ((rd_T104 x0 x5).f8).toList = t212.toList then (if (((rd_T104 x0 x5).f9) != ((Int.tmod (wrap64 (t210 + 1)) 3) == 0)) = true then (some (-1)) else (if ((rd_T104 x0 x5).f10.f0) = (wrap64 ((wrap64 (t210 + 1)) + 1)) then (if ((rd_T104 x0 x5).f10.f1) = (wrap64 ((wrap64 ((wrap64 (t210 + 1)) + 1)) + 1)) then (laws_heldStreamS.l0 k x0 (wrap64 ((wrap64 ((wrap64 ((wrap64 (t210 + 1)) + 1)) + 1)) + 1)) (wrap64 (x5 + 1))) else (some (-1))) else (some (-1)))) else (some (-1)))))) else (some (-1))))) else (some (-1)))))) else (some (-1))) else (some (-1))) else (none)) else (some x1)
def laws_heldStreamS.f (k : Nat) (l0 : List (S104)) (a1 : Int) : Option (Int) := laws_heldStreamS.l0 k l0 a1 0
theorem laws_heldStreamS.mono_l : ∀ k, (∀ y0 y1 y2, LeO (laws_heldStreamS.l0 k y0 y1 y2) (laws_heldStreamS.l0 (k + 1) y0 y1 y2))
 | 0 => fun _ _ _ r h => by simp [laws_heldStreamS.l0] at h
 | k + 1 => by
  have ih0 := laws_heldStreamS.mono_l k
  ·intro y0 y1 y2
   unfold laws_heldStreamS.l0
   have m0 := @laws_heldFieldS.mono
   have m1 := @laws_markText.mono
   exact zm
theorem laws_heldStreamS.mono : ∀ a0 a1 k, LeO (laws_heldStreamS.f k a0 a1) (laws_heldStreamS.f (k + 1) a0 a1) := by
 intro a0 a1 k
 have ih0 := laws_heldStreamS.mono_l k
 unfold laws_heldStreamS.f
 have m0 := @laws_heldFieldS.mono
 have m1 := @laws_markText.mono
 exact zm
def laws_heldStreamS.T13 : Bool × List (List Nat × List Nat) := (true, [([], []), ([], []), ([0, 1], [0, 1]), ([2], [2]), ([3], [3]), ([], []), ([5], [5]), ([4, 6], [4, 6])])
def laws_heldStreamS.B13 : List Nat := [0, 0, 3, 7, 15, 0, 32, 127]
theorem laws_heldStreamS.tab13 : rtab .any (opsOf Try.f73 13) = laws_heldStreamS.T13 := by kernel_rfl
theorem laws_heldStreamS.bits13 : waitsOk laws_heldStreamS.T13.2 laws_heldStreamS.B13 = true := by kernel_rfl
def laws_heldStreamS.T28 : Bool × List (List Nat × List Nat) := (true, [([], []), ([], []), ([0, 1], [0, 1]), ([2], [2]), ([3], [3]), ([], []), ([5], [5]), ([4, 6], [4, 6])])
def laws_heldStreamS.B28 : List Nat := [0, 0, 3, 7, 15, 0, 32, 127]
theorem laws_heldStreamS.tab28 : rtab .any (opsOf Try.f73 28) = laws_heldStreamS.T28 := by kernel_rfl
theorem laws_heldStreamS.bits28 : waitsOk laws_heldStreamS.T28.2 laws_heldStreamS.B28 = true := by kernel_rfl
set_option maxHeartbeats 8000000 in
set_option maxRecDepth 100000 in
theorem laws_heldStreamS.calls (k : Nat) (A0 : Option Addr) (c0 : Nat) (l0 : List (S104)) (a1 : Int) (r : Int) (w : World) (hr0 : Kd.C k104 w A0 l0.length l0) (hc0 : l0.length ≤ c0) (h : laws_heldStreamS.f k l0 a1 = some r) :
  Calls Try.prog 73 #[.slice A0 l0.length c0, .int .i64 a1] w fun e w' => e = .returned (.int .i64 r) ∧ Below w.heap.size w w' := by
 have HR0 := Aside0.mk hr0
 have HC0 := Aside0.mk hc0
 clear hr0 hc0
 have HB := Aside0.mk (Below.refl w.heap.size w)
 have H : (laws_heldStreamS.l0 k l0 a1 0) = some r := h
 clear h
 have H' := Aside0.mk H
 clear H
 go_enter Try.func73, Try.ntmps73
 go_wp2
 go_loopg [1, 5] k (fun kq v1 v5 w' => ∃ (x1_1 : Int) (x5_1 : Int), v1 = .int .i64 x1_1 ∧ v5 = .int .i64 x5_1 ∧ Aside0 (laws_heldStreamS.l0 kq l0 x1_1 x5_1 = some r) ∧ Aside0 (kq ≤ k) ∧ Aside0 (Below w.heap.size w w'))
 case atStart => exact ⟨(a1), (0), zs, zs, H', ⟨Nat.le_refl _⟩, ⟨zb HB⟩⟩
 case round =>
  clear H'
  try clear p2
  obtain ⟨x1_1, x5_1, rfl, rfl, HA, HK1, HB⟩ := hrel
  cases gk with
  | zero => exact absurd HA.out (by simp [laws_heldStreamS.l0])
  | succ k1 =>
   have H := HA.out
   clear HA
   simp only [laws_heldStreamS.l0] at H
   replace H := sp H
   rcases H with ⟨c3, H⟩ | ⟨c3, H⟩
   ·skip
    have c3b0 := decide_eq_true c3
    clear c3
    by_cases c4 : 0 ≤ x5_1
    ·rw [if_pos c4] at H
     have c4b0 := decide_eq_true c4
     clear c4
     by_cases c5 : ((rd_T104 l0 x5_1).f0) = x1_1
     ·rw [if_pos c5] at H
      have c5b0 : (((rd_T104 l0 x5_1).f0) == x1_1) = true := beq_iff_eq.mpr c5
      have c5b1 : (((rd_T104 l0 x5_1).f0) != x1_1) = false := bne_eq_false_iff_eq.mpr c5
      clear c5
      have HC6 := Aside0.mk H
      clear H
      have p200 : 0 ≤ (x5_1 : Int) := of_decide_eq_true za
      have q200 : x5_1 < (l0.length : Int) := of_decide_eq_true za
      obtain ⟨ad200, A200_2, c200_2, A200_7, c200_7, e200, hx200_0, hx200_1, hx200_2, hx200_3, hx200_4, hx200_5, hx200_6, hx200_7, hx200_8, hx200_9, hx200_10, hx200_11, hl200_2, hi200_2, hl200_7, hi200_7⟩ := at_T104 HR0.out x5_1 p200 q200
      cases e200
      replace hx200_0 := cb0 hx200_0 HB
      replace hx200_1 := cb0 hx200_1 HB
      replace hx200_2 := cb0 hx200_2 HB
      replace hx200_3 := cb0 hx200_3 HB
      replace hx200_4 := cb0 hx200_4 HB
      replace hx200_5 := cb0 hx200_5 HB
      replace hx200_6 := cb0 hx200_6 HB
      replace hx200_7 := cb0 hx200_7 HB
      replace hx200_8 := cb0 hx200_8 HB
      replace hx200_9 := cb0 hx200_9 HB
      replace hx200_10 := cb0 hx200_10 HB
      replace hx200_11 := cb0 hx200_11 HB
      have HR200_2 := Aside0.mk hi200_2
      have HC200_2 := Aside0.mk hl200_2
      clear hi200_2 hl200_2
      have HR200_7 := Aside0.mk hi200_7
      have HC200_7 := Aside0.mk hl200_7
      clear hi200_7 hl200_7
      replace p200 := eq_true p200
      replace q200 := eq_true q200
      have p201 : 0 ≤ (x5_1 : Int) := of_decide_eq_true za
      have q201 : x5_1 < (l0.length : Int) := of_decide_eq_true za
      obtain ⟨ad201, A201_2, c201_2, A201_7, c201_7, e201, hx201_0, hx201_1, hx201_2, hx201_3, hx201_4, hx201_5, hx201_6, hx201_7, hx201_8, hx201_9, hx201_10, hx201_11, hl201_2, hi201_2, hl201_7, hi201_7⟩ := at_T104 HR0.out x5_1 p201 q201
      obtain rfl : ad200 = ad201 := (by injection e201)
      replace hx201_0 := cb0 hx201_0 HB
      replace hx201_1 := cb0 hx201_1 HB
      replace hx201_2 := cb0 hx201_2 HB
      replace hx201_3 := cb0 hx201_3 HB
      replace hx201_4 := cb0 hx201_4 HB
      replace hx201_5 := cb0 hx201_5 HB
      replace hx201_6 := cb0 hx201_6 HB
      replace hx201_7 := cb0 hx201_7 HB
      replace hx201_8 := cb0 hx201_8 HB
      replace hx201_9 := cb0 hx201_9 HB
      replace hx201_10 := cb0 hx201_10 HB
      replace hx201_11 := cb0 hx201_11 HB
      have HR201_2 := Aside0.mk hi201_2
      have HC201_2 := Aside0.mk hl201_2
      clear hi201_2 hl201_2
      have HR201_7 := Aside0.mk hi201_7
      have HC201_7 := Aside0.mk hl201_7
      clear hi201_7 hl201_7
      replace p201 := eq_true p201
      replace q201 := eq_true q201
      have ea_ := Option.some.inj (hx200_2.symm.trans hx201_2)
      injection ea_ with ea_ en_ ec_
      subst ea_
      subst ec_
      clear en_
      have ea_ := Option.some.inj (hx200_7.symm.trans hx201_7)
      injection ea_ with ea_ en_ ec_
      subst ea_
      subst ec_
      clear en_
      go_upto_if 27 with (fail)
      have H := HC6.out
      clear HC6
      by_cases c7 : ((rd_T104 l0 x5_1).f1) = (wrap64 (x1_1 + 1))
      ·rw [if_pos c7] at H
       have c7b0 : (((rd_T104 l0 x5_1).f1) == (wrap64 (x1_1 + 1))) = true := beq_iff_eq.mpr c7
       have c7b1 : (((rd_T104 l0 x5_1).f1) != (wrap64 (x1_1 + 1))) = false := bne_eq_false_iff_eq.mpr c7
       clear c7
       (first | rw [c7b0] | rw [c7b1] | rw [c7b2] | (simp only [i64_w, i32_w]; rw [c7b0]) | skip)
       obtain ⟨t203, A8, H⟩ := ob H
       (try dsimp only at H)
       have HC9 := Aside0.mk H
       clear H
       have p202 : 0 ≤ (x5_1 : Int) := of_decide_eq_true za
       have q202 : x5_1 < (l0.length : Int) := of_decide_eq_true za
       try clear hx200_2
       try clear hx200_7
       try clear hx201_2
       try clear hx201_7
       obtain ⟨ad202, A202_2, c202_2, A202_7, c202_7, e202, hx202_0, hx202_1, hx202_2, hx202_3, hx202_4, hx202_5, hx202_6, hx202_7, hx202_8, hx202_9, hx202_10, hx202_11, hl202_2, hi202_2, hl202_7, hi202_7⟩ := at_T104 HR0.out x5_1 p202 q202
       obtain rfl : ad200 = ad202 := (by injection e202)
       replace hx202_0 := cb0 hx202_0 HB
       replace hx202_1 := cb0 hx202_1 HB
       replace hx202_2 := cb0 hx202_2 HB
       replace hx202_3 := cb0 hx202_3 HB
       replace hx202_4 := cb0 hx202_4 HB
       replace hx202_5 := cb0 hx202_5 HB
       replace hx202_6 := cb0 hx202_6 HB
       replace hx202_7 := cb0 hx202_7 HB
       replace hx202_8 := cb0 hx202_8 HB
       replace hx202_9 := cb0 hx202_9 HB
       replace hx202_10 := cb0 hx202_10 HB
       replace hx202_11 := cb0 hx202_11 HB
       have HR202_2 := Aside0.mk hi202_2
       have HC202_2 := Aside0.mk hl202_2
       clear hi202_2 hl202_2
       have HR202_7 := Aside0.mk hi202_7
       have HC202_7 := Aside0.mk hl202_7
       clear hi202_7 hl202_7
       replace p202 := eq_true p202
       replace q202 := eq_true q202
       go_upto_if 38 with (first | ((with_reducible refine gq 126 rfl ?_); refine gl (some 36) Try.func126 #[.slice A202_2 ((rd_T104 l0 x5_1).f2).length c202_2, .int .i64 (wrap64 ((wrap64 (x1_1 + 1)) + 1))] ?_; (with_reducible refine (laws_heldFieldS.calls k1 _ _ ((rd_T104 l0 x5_1).f2) (wrap64 ((wrap64 (x1_1 + 1)) + 1)) t203 _ ?side1 ?side2 A8.out).mono ?_); (case side1 => exact zc (Kd.C_below HR202_2.out HB.out)); (case side2 => exact HC202_2.out); rintro e w10 ⟨rfl, hb⟩; refine ⟨_, rfl, ?_⟩; replace HB := Aside0.mk (below_step (zb HB) hb); (try clear hb)))
       (try simp only [Act.put, s1, s2, s3])
       have H := HC9.out
       clear HC9
       by_cases c11 : t203 < 0
       ·rw [if_pos c11] at H
        have c11b0 := decide_eq_true c11
        clear c11
        (first | rw [c11b0] | rw [c11b1] | rw [c11b2] | (simp only [i64_w, i32_w]; rw [c11b0]) | skip)
        obtain rfl := Option.some.inj H
        go_wp2
        go_ret
        exact ⟨ze, zb HB⟩
       ·rw [if_neg c11] at H
        have c11b0 := decide_eq_false c11
        clear c11
        (first | rw [c11b0] | rw [c11b1] | rw [c11b2] | (simp only [i64_w, i32_w]; rw [c11b0]) | skip)
        obtain ⟨t205, A12, H⟩ := ob H
        (try dsimp only at H)
        have HC13 := Aside0.mk H
        clear H
        try go_wp2
        replace HB := Aside0.mk (below_drew1 HB.out)
        have p204 : 0 ≤ (x5_1 : Int) := of_decide_eq_true za
        have q204 : x5_1 < (l0.length : Int) := of_decide_eq_true za
        try clear hx200_2
        try clear hx200_7
        try clear hx201_2
        try clear hx201_7
        try clear hx202_2
        try clear hx202_7
        obtain ⟨ad204, A204_2, c204_2, A204_7, c204_7, e204, hx204_0, hx204_1, hx204_2, hx204_3, hx204_4, hx204_5, hx204_6, hx204_7, hx204_8, hx204_9, hx204_10, hx204_11, hl204_2, hi204_2, hl204_7, hi204_7⟩ := at_T104 HR0.out x5_1 p204 q204
        have hw204_11 := hx204_11
        have hw204_10 := hx204_10
        have hw204_9 := hx204_9
        have hw204_8 := hx204_8
        have hw204_7 := hx204_7
        have hw204_6 := hx204_6
        have hw204_5 := hx204_5
        have hw204_4 := hx204_4
        have hw204_3 := hx204_3
        have hw204_2 := hx204_2
        have hw204_1 := hx204_1
        have hw204_0 := hx204_0
        obtain rfl : ad200 = ad204 := (by injection e204)
        replace hx204_0 := cb0 hx204_0 HB
        replace hx204_1 := cb0 hx204_1 HB
        replace hx204_2 := cb0 hx204_2 HB
        replace hx204_3 := cb0 hx204_3 HB
        replace hx204_4 := cb0 hx204_4 HB
        replace hx204_5 := cb0 hx204_5 HB
        replace hx204_6 := cb0 hx204_6 HB
        replace hx204_7 := cb0 hx204_7 HB
        replace hx204_8 := cb0 hx204_8 HB
        replace hx204_9 := cb0 hx204_9 HB
        replace hx204_10 := cb0 hx204_10 HB
        replace hx204_11 := cb0 hx204_11 HB
        have HR204_2 := Aside0.mk hi204_2
        have HC204_2 := Aside0.mk hl204_2
        clear hi204_2 hl204_2
        have HR204_7 := Aside0.mk hi204_7
        have HC204_7 := Aside0.mk hl204_7
        clear hi204_7 hl204_7
        replace p204 := eq_true p204
        replace q204 := eq_true q204
        refine st 8 (an (cb hw204_0 HB) (an (cb hw204_1 HB) (an (cb hw204_2 HB) (an (cb hw204_3 HB) (an (cb hw204_4 HB) (an (cb hw204_5 HB) (an (cb hw204_6 HB) (an (cb hw204_7 HB) (an (cb hw204_8 HB) (an (cb hw204_9 HB) (an (cb hw204_10 HB) (cb hw204_11 HB)))))))))))) (fun hHeld => ?_); refine with_tabW laws_heldStreamS.tab13 laws_heldStreamS.bits13 (fun HT_ HW_ => ?_)
        generalize w10.drew = w14 at HB HR204_2 HR204_7 hx204_0 hx204_1 hx204_10 hx204_11 hx204_2 hx204_3 hx204_4 hx204_5 hx204_6 hx204_7 hx204_8 hx204_9 hHeld ⊢
        refine pu 0 (some 39) (bm 8 1) rfl rfl ?_
        refine pu 1 (some 40) (bm 8 3) rfl rfl ?_
        refine pu 2 (some 41) (bm 8 7) rfl rfl ?_
        refine pu 3 (some 42) (bm 8 15) rfl rfl ?_
        refine pu 5 (some 44) (bm 8 47) rfl rfl ?_
        refine tk 4 (some 43) (bm 8 63) rfl rfl hHeld ?_
        refine one_ (i := 6) (N := some 45) (bm 8 127) rfl rfl (one_of HT_.out (by kernel_rfl)) (by decide) (fun K hK => ?_)
        refine gs Try.func102 #[.int .i64 t203] ?_
        with_reducible refine (laws_markText.calls k1 t203 t205 _ A12.out).mono ?_
        rintro e w15 ⟨rfl, hb⟩
        refine ⟨_, rfl, ?_⟩
        replace HB := Aside0.mk (below_step (zb HB) hb)
        (try clear hb)
        refine hK.out _ _ (an (cb hw204_0 HB) (an (cb hw204_1 HB) (an (cb hw204_2 HB) (an (cb hw204_3 HB) (an (cb hw204_4 HB) (an (cb hw204_5 HB) (an (cb hw204_6 HB) (an (cb hw204_7 HB) (an (cb hw204_8 HB) (an (cb hw204_9 HB) (an (cb hw204_10 HB) (cb hw204_11 HB)))))))))))) (fun hHeld => ?_)
        clear hK K
        refine nm ?_
        refine pu 7 (some 46) (bm 8 255) rfl rfl ?_
        refine done_ (done_of HT_.out (by kernel_rfl)) ?_
        go_upto_if 46 with (fail)
        have H := HC13.out
        clear HC13
        by_cases c16 : ((rd_T104 l0 x5_1).f3).toList = t205.toList
        ·rw [if_pos c16] at H
         have c16b0 : (((rd_T104 l0 x5_1).f3).toList == t205.toList) = true := beq_iff_eq.mpr c16
         have c16b1 : (((rd_T104 l0 x5_1).f3).toList != t205.toList) = false := bne_eq_false_iff_eq.mpr c16
         clear c16
         (first | rw [c16b0] | rw [c16b1] | rw [c16b2] | (simp only [i64_w, i32_w]; rw [c16b0]) | skip)
         by_cases c17 : (((rd_T104 l0 x5_1).f4) != ((Int.tmod (wrap64 (t203 + 1)) 3) == 0)) = true
         ·rw [if_pos c17] at H
          have c17b0 : (((rd_T104 l0 x5_1).f4) != ((Int.tmod (wrap64 (t203 + 1)) 3) == 0)) = true := c17
          (try (have c17b1 : decide (((rd_T104 l0 x5_1).f4) = ((Int.tmod (wrap64 (t203 + 1)) 3) == 0)) = false := by simpa using c17))
          (try (have c17b2 : (((rd_T104 l0 x5_1).f4) == ((Int.tmod (wrap64 (t203 + 1)) 3) == 0)) = false := by simpa using c17))
          (try (have c17b3 : ¬ (((rd_T104 l0 x5_1).f4) = ((Int.tmod (wrap64 (t203 + 1)) 3) == 0)) := by simpa using c17))
          clear c17
          obtain rfl := Option.some.inj H
          have p206 : 0 ≤ (x5_1 : Int) := of_decide_eq_true za
          have q206 : x5_1 < (l0.length : Int) := of_decide_eq_true za
          try clear hHeld
          try clear hx200_2
          try clear hx200_7
          try clear hx201_2
          try clear hx201_7
          try clear hx202_2
          try clear hx202_7
          try clear hx204_2
          try clear hx204_7
          obtain ⟨ad206, A206_2, c206_2, A206_7, c206_7, e206, hx206_0, hx206_1, hx206_2, hx206_3, hx206_4, hx206_5, hx206_6, hx206_7, hx206_8, hx206_9, hx206_10, hx206_11, hl206_2, hi206_2, hl206_7, hi206_7⟩ := at_T104 HR0.out x5_1 p206 q206
          obtain rfl : ad200 = ad206 := (by injection e206)
          replace hx206_0 := cb0 hx206_0 HB
          replace hx206_1 := cb0 hx206_1 HB
          replace hx206_2 := cb0 hx206_2 HB
          replace hx206_3 := cb0 hx206_3 HB
          replace hx206_4 := cb0 hx206_4 HB
          replace hx206_5 := cb0 hx206_5 HB
          replace hx206_6 := cb0 hx206_6 HB
          replace hx206_7 := cb0 hx206_7 HB
          replace hx206_8 := cb0 hx206_8 HB
          replace hx206_9 := cb0 hx206_9 HB
          replace hx206_10 := cb0 hx206_10 HB
          replace hx206_11 := cb0 hx206_11 HB
          have HR206_2 := Aside0.mk hi206_2
          have HC206_2 := Aside0.mk hl206_2
          clear hi206_2 hl206_2
          have HR206_7 := Aside0.mk hi206_7
          have HC206_7 := Aside0.mk hl206_7
          clear hi206_7 hl206_7
          replace p206 := eq_true p206
          replace q206 := eq_true q206
          go_wp2
          go_ret
          exact ⟨ze, zb HB⟩
         ·rw [if_neg c17] at H
          have c17b0 : (((rd_T104 l0 x5_1).f4) != ((Int.tmod (wrap64 (t203 + 1)) 3) == 0)) = false := by simpa using c17
          (try (have c17b1 : decide (((rd_T104 l0 x5_1).f4) = ((Int.tmod (wrap64 (t203 + 1)) 3) == 0)) = true := by simpa using c17))
          (try (have c17b2 : (((rd_T104 l0 x5_1).f4) == ((Int.tmod (wrap64 (t203 + 1)) 3) == 0)) = true := by simpa using c17))
          clear c17
          have HC18 := Aside0.mk H
          clear H
          have p206 : 0 ≤ (x5_1 : Int) := of_decide_eq_true za
          have q206 : x5_1 < (l0.length : Int) := of_decide_eq_true za
          try clear hHeld
          try clear hx200_2
          try clear hx200_7
          try clear hx201_2
          try clear hx201_7
          try clear hx202_2
          try clear hx202_7
          try clear hx204_2
          try clear hx204_7
          obtain ⟨ad206, A206_2, c206_2, A206_7, c206_7, e206, hx206_0, hx206_1, hx206_2, hx206_3, hx206_4, hx206_5, hx206_6, hx206_7, hx206_8, hx206_9, hx206_10, hx206_11, hl206_2, hi206_2, hl206_7, hi206_7⟩ := at_T104 HR0.out x5_1 p206 q206
          obtain rfl : ad200 = ad206 := (by injection e206)
          replace hx206_0 := cb0 hx206_0 HB
          replace hx206_1 := cb0 hx206_1 HB
          replace hx206_2 := cb0 hx206_2 HB
          replace hx206_3 := cb0 hx206_3 HB
          replace hx206_4 := cb0 hx206_4 HB
          replace hx206_5 := cb0 hx206_5 HB
          replace hx206_6 := cb0 hx206_6 HB
          replace hx206_7 := cb0 hx206_7 HB
          replace hx206_8 := cb0 hx206_8 HB
          replace hx206_9 := cb0 hx206_9 HB
          replace hx206_10 := cb0 hx206_10 HB
          replace hx206_11 := cb0 hx206_11 HB
          have HR206_2 := Aside0.mk hi206_2
          have HC206_2 := Aside0.mk hl206_2
          clear hi206_2 hl206_2
          have HR206_7 := Aside0.mk hi206_7
          have HC206_7 := Aside0.mk hl206_7
          clear hi206_7 hl206_7
          replace p206 := eq_true p206
          replace q206 := eq_true q206
          have p207 : 0 ≤ (x5_1 : Int) := of_decide_eq_true za
          have q207 : x5_1 < (l0.length : Int) := of_decide_eq_true za
          try clear hHeld
          try clear hx200_2
          try clear hx200_7
          try clear hx201_2
          try clear hx201_7
          try clear hx202_2
          try clear hx202_7
          try clear hx204_2
          try clear hx204_7
          obtain ⟨ad207, A207_2, c207_2, A207_7, c207_7, e207, hx207_0, hx207_1, hx207_2, hx207_3, hx207_4, hx207_5, hx207_6, hx207_7, hx207_8, hx207_9, hx207_10, hx207_11, hl207_2, hi207_2, hl207_7, hi207_7⟩ := at_T104 HR0.out x5_1 p207 q207
          obtain rfl : ad200 = ad207 := (by injection e207)
          replace hx207_0 := cb0 hx207_0 HB
          replace hx207_1 := cb0 hx207_1 HB
          replace hx207_2 := cb0 hx207_2 HB
          replace hx207_3 := cb0 hx207_3 HB
          replace hx207_4 := cb0 hx207_4 HB
          replace hx207_5 := cb0 hx207_5 HB
          replace hx207_6 := cb0 hx207_6 HB
          replace hx207_7 := cb0 hx207_7 HB
          replace hx207_8 := cb0 hx207_8 HB
          replace hx207_9 := cb0 hx207_9 HB
          replace hx207_10 := cb0 hx207_10 HB
          replace hx207_11 := cb0 hx207_11 HB
          have HR207_2 := Aside0.mk hi207_2
          have HC207_2 := Aside0.mk hl207_2
          clear hi207_2 hl207_2
          have HR207_7 := Aside0.mk hi207_7
          have HC207_7 := Aside0.mk hl207_7
          clear hi207_7 hl207_7
          replace p207 := eq_true p207
          replace q207 := eq_true q207
          have ea_ := Option.some.inj (hx206_2.symm.trans hx207_2)
          injection ea_ with ea_ en_ ec_
          subst ea_
          subst ec_
          clear en_
          have ea_ := Option.some.inj (hx206_7.symm.trans hx207_7)
          injection ea_ with ea_ en_ ec_
          subst ea_
          subst ec_
          clear en_
          go_upto_if 68 with (fail)
          have H := HC18.out
          clear HC18
          by_cases c19 : (((rd_T104 l0 x5_1).f5) != ((Int.tmod (wrap64 ((wrap64 (t203 + 1)) + 1)) 3) == 0)) = true
          ·rw [if_pos c19] at H
           have c19b0 : (((rd_T104 l0 x5_1).f5) != ((Int.tmod (wrap64 ((wrap64 (t203 + 1)) + 1)) 3) == 0)) = true := c19
           (try (have c19b1 : decide (((rd_T104 l0 x5_1).f5) = ((Int.tmod (wrap64 ((wrap64 (t203 + 1)) + 1)) 3) == 0)) = false := by simpa using c19))
           (try (have c19b2 : (((rd_T104 l0 x5_1).f5) == ((Int.tmod (wrap64 ((wrap64 (t203 + 1)) + 1)) 3) == 0)) = false := by simpa using c19))
           (try (have c19b3 : ¬ (((rd_T104 l0 x5_1).f5) = ((Int.tmod (wrap64 ((wrap64 (t203 + 1)) + 1)) 3) == 0)) := by simpa using c19))
           clear c19
           (first | rw [c19b0] | rw [c19b1] | rw [c19b2] | (simp only [i64_w, i32_w]; rw [c19b0]) | skip)
           obtain rfl := Option.some.inj H
           go_wp2
           go_ret
           exact ⟨ze, zb HB⟩
          ·rw [if_neg c19] at H
           have c19b0 : (((rd_T104 l0 x5_1).f5) != ((Int.tmod (wrap64 ((wrap64 (t203 + 1)) + 1)) 3) == 0)) = false := by simpa using c19
           (try (have c19b1 : decide (((rd_T104 l0 x5_1).f5) = ((Int.tmod (wrap64 ((wrap64 (t203 + 1)) + 1)) 3) == 0)) = true := by simpa using c19))
           (try (have c19b2 : (((rd_T104 l0 x5_1).f5) == ((Int.tmod (wrap64 ((wrap64 (t203 + 1)) + 1)) 3) == 0)) = true := by simpa using c19))
           clear c19
           (first | rw [c19b0] | rw [c19b1] | rw [c19b2] | (simp only [i64_w, i32_w]; rw [c19b0]) | skip)
           by_cases c20 : ((rd_T104 l0 x5_1).f6) = (wrap64 ((wrap64 ((wrap64 (t203 + 1)) + 1)) + 1))
           ·rw [if_pos c20] at H
            have c20b0 : (((rd_T104 l0 x5_1).f6) == (wrap64 ((wrap64 ((wrap64 (t203 + 1)) + 1)) + 1))) = true := beq_iff_eq.mpr c20
            have c20b1 : (((rd_T104 l0 x5_1).f6) != (wrap64 ((wrap64 ((wrap64 (t203 + 1)) + 1)) + 1))) = false := bne_eq_false_iff_eq.mpr c20
            clear c20
            obtain ⟨t210, A21, H⟩ := ob H
            (try dsimp only at H)
            have HC22 := Aside0.mk H
            clear H
            have p208 : 0 ≤ (x5_1 : Int) := of_decide_eq_true za
            have q208 : x5_1 < (l0.length : Int) := of_decide_eq_true za
            try clear hHeld
            try clear hx200_2
            try clear hx200_7
            try clear hx201_2
            try clear hx201_7
            try clear hx202_2
            try clear hx202_7
            try clear hx204_2
            try clear hx204_7
            try clear hx206_2
            try clear hx206_7
            try clear hx207_2
            try clear hx207_7
            obtain ⟨ad208, A208_2, c208_2, A208_7, c208_7, e208, hx208_0, hx208_1, hx208_2, hx208_3, hx208_4, hx208_5, hx208_6, hx208_7, hx208_8, hx208_9, hx208_10, hx208_11, hl208_2, hi208_2, hl208_7, hi208_7⟩ := at_T104 HR0.out x5_1 p208 q208
            obtain rfl : ad200 = ad208 := (by injection e208)
            replace hx208_0 := cb0 hx208_0 HB
            replace hx208_1 := cb0 hx208_1 HB
            replace hx208_2 := cb0 hx208_2 HB
            replace hx208_3 := cb0 hx208_3 HB
            replace hx208_4 := cb0 hx208_4 HB
            replace hx208_5 := cb0 hx208_5 HB
            replace hx208_6 := cb0 hx208_6 HB
            replace hx208_7 := cb0 hx208_7 HB
            replace hx208_8 := cb0 hx208_8 HB
            replace hx208_9 := cb0 hx208_9 HB
            replace hx208_10 := cb0 hx208_10 HB
            replace hx208_11 := cb0 hx208_11 HB
            have HR208_2 := Aside0.mk hi208_2
            have HC208_2 := Aside0.mk hl208_2
            clear hi208_2 hl208_2
            have HR208_7 := Aside0.mk hi208_7
            have HC208_7 := Aside0.mk hl208_7
            clear hi208_7 hl208_7
            replace p208 := eq_true p208
            replace q208 := eq_true q208
            have p209 : 0 ≤ (x5_1 : Int) := of_decide_eq_true za
            have q209 : x5_1 < (l0.length : Int) := of_decide_eq_true za
            try clear hHeld
            try clear hx200_2
            try clear hx200_7
            try clear hx201_2
            try clear hx201_7
            try clear hx202_2
            try clear hx202_7
            try clear hx204_2
            try clear hx204_7
            try clear hx206_2
            try clear hx206_7
            try clear hx207_2
            try clear hx207_7
            obtain ⟨ad209, A209_2, c209_2, A209_7, c209_7, e209, hx209_0, hx209_1, hx209_2, hx209_3, hx209_4, hx209_5, hx209_6, hx209_7, hx209_8, hx209_9, hx209_10, hx209_11, hl209_2, hi209_2, hl209_7, hi209_7⟩ := at_T104 HR0.out x5_1 p209 q209
            obtain rfl : ad200 = ad209 := (by injection e209)
            replace hx209_0 := cb0 hx209_0 HB
            replace hx209_1 := cb0 hx209_1 HB
            replace hx209_2 := cb0 hx209_2 HB
            replace hx209_3 := cb0 hx209_3 HB
            replace hx209_4 := cb0 hx209_4 HB
            replace hx209_5 := cb0 hx209_5 HB
            replace hx209_6 := cb0 hx209_6 HB
            replace hx209_7 := cb0 hx209_7 HB
            replace hx209_8 := cb0 hx209_8 HB
            replace hx209_9 := cb0 hx209_9 HB
            replace hx209_10 := cb0 hx209_10 HB
            replace hx209_11 := cb0 hx209_11 HB
            have HR209_2 := Aside0.mk hi209_2
            have HC209_2 := Aside0.mk hl209_2
            clear hi209_2 hl209_2
            have HR209_7 := Aside0.mk hi209_7
            have HC209_7 := Aside0.mk hl209_7
            clear hi209_7 hl209_7
            replace p209 := eq_true p209
            replace q209 := eq_true q209
            have ea_ := Option.some.inj (hx208_2.symm.trans hx209_2)
            injection ea_ with ea_ en_ ec_
            subst ea_
            subst ec_
            clear en_
            have ea_ := Option.some.inj (hx208_7.symm.trans hx209_7)
            injection ea_ with ea_ en_ ec_
            subst ea_
            subst ec_
            clear en_
            go_upto_if 88 with (first | ((with_reducible refine gq 126 rfl ?_); refine gl (some 86) Try.func126 #[.slice A208_7 ((rd_T104 l0 x5_1).f7).length c208_7, .int .i64 (wrap64 ((wrap64 ((wrap64 ((wrap64 (t203 + 1)) + 1)) + 1)) + 1))] ?_; (with_reducible refine (laws_heldFieldS.calls k1 _ _ ((rd_T104 l0 x5_1).f7) (wrap64 ((wrap64 ((wrap64 ((wrap64 (t203 + 1)) + 1)) + 1)) + 1)) t210 _ ?side1 ?side2 A21.out).mono ?_); (case side1 => exact zc (Kd.C_below HR209_7.out HB.out)); (case side2 => exact HC209_7.out); rintro e w23 ⟨rfl, hb⟩; refine ⟨_, rfl, ?_⟩; replace HB := Aside0.mk (below_step (zb HB) hb); (try clear hb)))
            (try simp only [Act.put, s1, s2, s3])
            have H := HC22.out
            clear HC22
            by_cases c24 : t210 < 0
            ·rw [if_pos c24] at H
             have c24b0 := decide_eq_true c24
             clear c24
             (first | rw [c24b0] | rw [c24b1] | rw [c24b2] | (simp only [i64_w, i32_w]; rw [c24b0]) | skip)
             obtain rfl := Option.some.inj H
             go_wp2
             go_ret
             exact ⟨ze, zb HB⟩
            ·rw [if_neg c24] at H
             have c24b0 := decide_eq_false c24
             clear c24
             (first | rw [c24b0] | rw [c24b1] | rw [c24b2] | (simp only [i64_w, i32_w]; rw [c24b0]) | skip)
             obtain ⟨t212, A25, H⟩ := ob H
             (try dsimp only at H)
             have HC26 := Aside0.mk H
             clear H
             try go_wp2
             replace HB := Aside0.mk (below_drew1 HB.out)
             have p211 : 0 ≤ (x5_1 : Int) := of_decide_eq_true za
             have q211 : x5_1 < (l0.length : Int) := of_decide_eq_true za
             try clear hHeld
             try clear hx200_2
             try clear hx200_7
             try clear hx201_2
             try clear hx201_7
             try clear hx202_2
             try clear hx202_7
             try clear hx204_2
             try clear hx204_7
             try clear hx206_2
             try clear hx206_7
             try clear hx207_2
             try clear hx207_7
             try clear hx208_2
             try clear hx208_7
             try clear hx209_2
             try clear hx209_7
             obtain ⟨ad211, A211_2, c211_2, A211_7, c211_7, e211, hx211_0, hx211_1, hx211_2, hx211_3, hx211_4, hx211_5, hx211_6, hx211_7, hx211_8, hx211_9, hx211_10, hx211_11, hl211_2, hi211_2, hl211_7, hi211_7⟩ := at_T104 HR0.out x5_1 p211 q211
             have hw211_11 := hx211_11
             have hw211_10 := hx211_10
             have hw211_9 := hx211_9
             have hw211_8 := hx211_8
             have hw211_7 := hx211_7
             have hw211_6 := hx211_6
             have hw211_5 := hx211_5
             have hw211_4 := hx211_4
             have hw211_3 := hx211_3
             have hw211_2 := hx211_2
             have hw211_1 := hx211_1
             have hw211_0 := hx211_0
             obtain rfl : ad200 = ad211 := (by injection e211)
             replace hx211_0 := cb0 hx211_0 HB
             replace hx211_1 := cb0 hx211_1 HB
             replace hx211_2 := cb0 hx211_2 HB
             replace hx211_3 := cb0 hx211_3 HB
             replace hx211_4 := cb0 hx211_4 HB
             replace hx211_5 := cb0 hx211_5 HB
             replace hx211_6 := cb0 hx211_6 HB
             replace hx211_7 := cb0 hx211_7 HB
             replace hx211_8 := cb0 hx211_8 HB
             replace hx211_9 := cb0 hx211_9 HB
             replace hx211_10 := cb0 hx211_10 HB
             replace hx211_11 := cb0 hx211_11 HB
             have HR211_2 := Aside0.mk hi211_2
             have HC211_2 := Aside0.mk hl211_2
             clear hi211_2 hl211_2
             have HR211_7 := Aside0.mk hi211_7
             have HC211_7 := Aside0.mk hl211_7
             clear hi211_7 hl211_7
             replace p211 := eq_true p211
             replace q211 := eq_true q211
             refine st 8 (an (cb hw211_0 HB) (an (cb hw211_1 HB) (an (cb hw211_2 HB) (an (cb hw211_3 HB) (an (cb hw211_4 HB) (an (cb hw211_5 HB) (an (cb hw211_6 HB) (an (cb hw211_7 HB) (an (cb hw211_8 HB) (an (cb hw211_9 HB) (an (cb hw211_10 HB) (cb hw211_11 HB)))))))))))) (fun hHeld => ?_); refine with_tabW laws_heldStreamS.tab28 laws_heldStreamS.bits28 (fun HT_ HW_ => ?_)
             generalize w23.drew = w27 at HB HR211_2 HR211_7 hx211_0 hx211_1 hx211_10 hx211_11 hx211_2 hx211_3 hx211_4 hx211_5 hx211_6 hx211_7 hx211_8 hx211_9 hHeld ⊢
             refine pu 0 (some 89) (bm 8 1) rfl rfl ?_
             refine pu 1 (some 90) (bm 8 3) rfl rfl ?_
             refine pu 2 (some 91) (bm 8 7) rfl rfl ?_
             refine pu 3 (some 92) (bm 8 15) rfl rfl ?_
             refine pu 5 (some 94) (bm 8 47) rfl rfl ?_
             refine tk 4 (some 93) (bm 8 63) rfl rfl hHeld ?_
             refine one_ (i := 6) (N := some 95) (bm 8 127) rfl rfl (one_of HT_.out (by kernel_rfl)) (by decide) (fun K hK => ?_)
             refine gs Try.func102 #[.int .i64 t210] ?_
             with_reducible refine (laws_markText.calls k1 t210 t212 _ A25.out).mono ?_
             rintro e w28 ⟨rfl, hb⟩
             refine ⟨_, rfl, ?_⟩
             replace HB := Aside0.mk (below_step (zb HB) hb)
             (try clear hb)
             refine hK.out _ _ (an (cb hw211_0 HB) (an (cb hw211_1 HB) (an (cb hw211_2 HB) (an (cb hw211_3 HB) (an (cb hw211_4 HB) (an (cb hw211_5 HB) (an (cb hw211_6 HB) (an (cb hw211_7 HB) (an (cb hw211_8 HB) (an (cb hw211_9 HB) (an (cb hw211_10 HB) (cb hw211_11 HB)))))))))))) (fun hHeld => ?_)
             clear hK K
             refine nm ?_
             refine pu 7 (some 96) (bm 8 255) rfl rfl ?_
             refine done_ (done_of HT_.out (by kernel_rfl)) ?_
             go_upto_if 96 with (fail)
             have H := HC26.out
             clear HC26
             by_cases c29 : ((rd_T104 l0 x5_1).f8).toList = t212.toList
             ·rw [if_pos c29] at H
              have c29b0 : (((rd_T104 l0 x5_1).f8).toList == t212.toList) = true := beq_iff_eq.mpr c29
              have c29b1 : (((rd_T104 l0 x5_1).f8).toList != t212.toList) = false := bne_eq_false_iff_eq.mpr c29
              clear c29
              (first | rw [c29b0] | rw [c29b1] | rw [c29b2] | (simp only [i64_w, i32_w]; rw [c29b0]) | skip)
              by_cases c30 : (((rd_T104 l0 x5_1).f9) != ((Int.tmod (wrap64 (t210 + 1)) 3) == 0)) = true
              ·rw [if_pos c30] at H
               have c30b0 : (((rd_T104 l0 x5_1).f9) != ((Int.tmod (wrap64 (t210 + 1)) 3) == 0)) = true := c30
               (try (have c30b1 : decide (((rd_T104 l0 x5_1).f9) = ((Int.tmod (wrap64 (t210 + 1)) 3) == 0)) = false := by simpa using c30))
               (try (have c30b2 : (((rd_T104 l0 x5_1).f9) == ((Int.tmod (wrap64 (t210 + 1)) 3) == 0)) = false := by simpa using c30))
               (try (have c30b3 : ¬ (((rd_T104 l0 x5_1).f9) = ((Int.tmod (wrap64 (t210 + 1)) 3) == 0)) := by simpa using c30))
               clear c30
               obtain rfl := Option.some.inj H
               have p213 : 0 ≤ (x5_1 : Int) := of_decide_eq_true za
               have q213 : x5_1 < (l0.length : Int) := of_decide_eq_true za
               try clear hHeld
               try clear hx200_2
               try clear hx200_7
               try clear hx201_2
               try clear hx201_7
               try clear hx202_2
               try clear hx202_7
               try clear hx204_2
               try clear hx204_7
               try clear hx206_2
               try clear hx206_7
               try clear hx207_2
               try clear hx207_7
               try clear hx208_2
               try clear hx208_7
               try clear hx209_2
               try clear hx209_7
               try clear hx211_2
               try clear hx211_7
               obtain ⟨ad213, A213_2, c213_2, A213_7, c213_7, e213, hx213_0, hx213_1, hx213_2, hx213_3, hx213_4, hx213_5, hx213_6, hx213_7, hx213_8, hx213_9, hx213_10, hx213_11, hl213_2, hi213_2, hl213_7, hi213_7⟩ := at_T104 HR0.out x5_1 p213 q213
               obtain rfl : ad200 = ad213 := (by injection e213)
               replace hx213_0 := cb0 hx213_0 HB
               replace hx213_1 := cb0 hx213_1 HB
               replace hx213_2 := cb0 hx213_2 HB
               replace hx213_3 := cb0 hx213_3 HB
               replace hx213_4 := cb0 hx213_4 HB
               replace hx213_5 := cb0 hx213_5 HB
               replace hx213_6 := cb0 hx213_6 HB
               replace hx213_7 := cb0 hx213_7 HB
               replace hx213_8 := cb0 hx213_8 HB
               replace hx213_9 := cb0 hx213_9 HB
               replace hx213_10 := cb0 hx213_10 HB
               replace hx213_11 := cb0 hx213_11 HB
               have HR213_2 := Aside0.mk hi213_2
               have HC213_2 := Aside0.mk hl213_2
               clear hi213_2 hl213_2
               have HR213_7 := Aside0.mk hi213_7
               have HC213_7 := Aside0.mk hl213_7
               clear hi213_7 hl213_7
               replace p213 := eq_true p213
               replace q213 := eq_true q213
               go_wp2
               go_ret
               exact ⟨ze, zb HB⟩
              ·rw [if_neg c30] at H
               have c30b0 : (((rd_T104 l0 x5_1).f9) != ((Int.tmod (wrap64 (t210 + 1)) 3) == 0)) = false := by simpa using c30
               (try (have c30b1 : decide (((rd_T104 l0 x5_1).f9) = ((Int.tmod (wrap64 (t210 + 1)) 3) == 0)) = true := by simpa using c30))
               (try (have c30b2 : (((rd_T104 l0 x5_1).f9) == ((Int.tmod (wrap64 (t210 + 1)) 3) == 0)) = true := by simpa using c30))
               clear c30
               have HC31 := Aside0.mk H
               clear H
               have p213 : 0 ≤ (x5_1 : Int) := of_decide_eq_true za
               have q213 : x5_1 < (l0.length : Int) := of_decide_eq_true za
               try clear hHeld
               try clear hx200_2
               try clear hx200_7
               try clear hx201_2
               try clear hx201_7
               try clear hx202_2
               try clear hx202_7
               try clear hx204_2
               try clear hx204_7
               try clear hx206_2
               try clear hx206_7
               try clear hx207_2
               try clear hx207_7
               try clear hx208_2
               try clear hx208_7
               try clear hx209_2
               try clear hx209_7
               try clear hx211_2
               try clear hx211_7
               obtain ⟨ad213, A213_2, c213_2, A213_7, c213_7, e213, hx213_0, hx213_1, hx213_2, hx213_3, hx213_4, hx213_5, hx213_6, hx213_7, hx213_8, hx213_9, hx213_10, hx213_11, hl213_2, hi213_2, hl213_7, hi213_7⟩ := at_T104 HR0.out x5_1 p213 q213
               obtain rfl : ad200 = ad213 := (by injection e213)
               replace hx213_0 := cb0 hx213_0 HB
               replace hx213_1 := cb0 hx213_1 HB
               replace hx213_2 := cb0 hx213_2 HB
               replace hx213_3 := cb0 hx213_3 HB
               replace hx213_4 := cb0 hx213_4 HB
               replace hx213_5 := cb0 hx213_5 HB
               replace hx213_6 := cb0 hx213_6 HB
               replace hx213_7 := cb0 hx213_7 HB
               replace hx213_8 := cb0 hx213_8 HB
               replace hx213_9 := cb0 hx213_9 HB
               replace hx213_10 := cb0 hx213_10 HB
               replace hx213_11 := cb0 hx213_11 HB
               have HR213_2 := Aside0.mk hi213_2
               have HC213_2 := Aside0.mk hl213_2
               clear hi213_2 hl213_2
               have HR213_7 := Aside0.mk hi213_7
               have HC213_7 := Aside0.mk hl213_7
               clear hi213_7 hl213_7
               replace p213 := eq_true p213
               replace q213 := eq_true q213
               have p214 : 0 ≤ (x5_1 : Int) := of_decide_eq_true za
               have q214 : x5_1 < (l0.length : Int) := of_decide_eq_true za
               try clear hHeld
               try clear hx200_2
               try clear hx200_7
               try clear hx201_2
               try clear hx201_7
               try clear hx202_2
               try clear hx202_7
               try clear hx204_2
               try clear hx204_7
               try clear hx206_2
               try clear hx206_7
               try clear hx207_2
               try clear hx207_7
               try clear hx208_2
               try clear hx208_7
               try clear hx209_2
               try clear hx209_7
               try clear hx211_2
               try clear hx211_7
               obtain ⟨ad214, A214_2, c214_2, A214_7, c214_7, e214, hx214_0, hx214_1, hx214_2, hx214_3, hx214_4, hx214_5, hx214_6, hx214_7, hx214_8, hx214_9, hx214_10, hx214_11, hl214_2, hi214_2, hl214_7, hi214_7⟩ := at_T104 HR0.out x5_1 p214 q214
               obtain rfl : ad200 = ad214 := (by injection e214)
               replace hx214_0 := cb0 hx214_0 HB
               replace hx214_1 := cb0 hx214_1 HB
               replace hx214_2 := cb0 hx214_2 HB
               replace hx214_3 := cb0 hx214_3 HB
               replace hx214_4 := cb0 hx214_4 HB
               replace hx214_5 := cb0 hx214_5 HB
               replace hx214_6 := cb0 hx214_6 HB
               replace hx214_7 := cb0 hx214_7 HB
               replace hx214_8 := cb0 hx214_8 HB
               replace hx214_9 := cb0 hx214_9 HB
               replace hx214_10 := cb0 hx214_10 HB
               replace hx214_11 := cb0 hx214_11 HB
               have HR214_2 := Aside0.mk hi214_2
               have HC214_2 := Aside0.mk hl214_2
               clear hi214_2 hl214_2
               have HR214_7 := Aside0.mk hi214_7
               have HC214_7 := Aside0.mk hl214_7
               clear hi214_7 hl214_7
               replace p214 := eq_true p214
               replace q214 := eq_true q214
               have ea_ := Option.some.inj (hx213_2.symm.trans hx214_2)
               injection ea_ with ea_ en_ ec_
               subst ea_
               subst ec_
               clear en_
               have ea_ := Option.some.inj (hx213_7.symm.trans hx214_7)
               injection ea_ with ea_ en_ ec_
               subst ea_
               subst ec_
               clear en_
               go_upto_if 117 with (fail)
               have H := HC31.out
               clear HC31
               by_cases c32 : ((rd_T104 l0 x5_1).f10.f0) = (wrap64 ((wrap64 (t210 + 1)) + 1))
               ·rw [if_pos c32] at H
                have c32b0 : (((rd_T104 l0 x5_1).f10.f0) == (wrap64 ((wrap64 (t210 + 1)) + 1))) = true := beq_iff_eq.mpr c32
                have c32b1 : (((rd_T104 l0 x5_1).f10.f0) != (wrap64 ((wrap64 (t210 + 1)) + 1))) = false := bne_eq_false_iff_eq.mpr c32
                clear c32
                (first | rw [c32b0] | rw [c32b1] | rw [c32b2] | (simp only [i64_w, i32_w]; rw [c32b0]) | skip)
                by_cases c33 : ((rd_T104 l0 x5_1).f10.f1) = (wrap64 ((wrap64 ((wrap64 (t210 + 1)) + 1)) + 1))
                ·rw [if_pos c33] at H
                 have c33b0 : (((rd_T104 l0 x5_1).f10.f1) == (wrap64 ((wrap64 ((wrap64 (t210 + 1)) + 1)) + 1))) = true := beq_iff_eq.mpr c33
                 have c33b1 : (((rd_T104 l0 x5_1).f10.f1) != (wrap64 ((wrap64 ((wrap64 (t210 + 1)) + 1)) + 1))) = false := bne_eq_false_iff_eq.mpr c33
                 clear c33
                 have H' := Aside0.mk H
                 clear H
                 have p215 : 0 ≤ (x5_1 : Int) := of_decide_eq_true za
                 have q215 : x5_1 < (l0.length : Int) := of_decide_eq_true za
                 try clear hHeld
                 try clear hx200_2
                 try clear hx200_7
                 try clear hx201_2
                 try clear hx201_7
                 try clear hx202_2
                 try clear hx202_7
                 try clear hx204_2
                 try clear hx204_7
                 try clear hx206_2
                 try clear hx206_7
                 try clear hx207_2
                 try clear hx207_7
                 try clear hx208_2
                 try clear hx208_7
                 try clear hx209_2
                 try clear hx209_7
                 try clear hx211_2
                 try clear hx211_7
                 try clear hx213_2
                 try clear hx213_7
                 try clear hx214_2
                 try clear hx214_7
                 obtain ⟨ad215, A215_2, c215_2, A215_7, c215_7, e215, hx215_0, hx215_1, hx215_2, hx215_3, hx215_4, hx215_5, hx215_6, hx215_7, hx215_8, hx215_9, hx215_10, hx215_11, hl215_2, hi215_2, hl215_7, hi215_7⟩ := at_T104 HR0.out x5_1 p215 q215
                 obtain rfl : ad200 = ad215 := (by injection e215)
                 replace hx215_0 := cb0 hx215_0 HB
                 replace hx215_1 := cb0 hx215_1 HB
                 replace hx215_2 := cb0 hx215_2 HB
                 replace hx215_3 := cb0 hx215_3 HB
                 replace hx215_4 := cb0 hx215_4 HB
                 replace hx215_5 := cb0 hx215_5 HB
                 replace hx215_6 := cb0 hx215_6 HB
                 replace hx215_7 := cb0 hx215_7 HB
                 replace hx215_8 := cb0 hx215_8 HB
                 replace hx215_9 := cb0 hx215_9 HB
                 replace hx215_10 := cb0 hx215_10 HB
                 replace hx215_11 := cb0 hx215_11 HB
                 have HR215_2 := Aside0.mk hi215_2
                 have HC215_2 := Aside0.mk hl215_2
                 clear hi215_2 hl215_2
                 have HR215_7 := Aside0.mk hi215_7
                 have HC215_7 := Aside0.mk hl215_7
                 clear hi215_7 hl215_7
                 replace p215 := eq_true p215
                 replace q215 := eq_true q215
                 go_wp2
                 go_roundg k1
                 case measure => have := HK1.out; omega
                 case rel => exact ⟨(wrap64 ((wrap64 ((wrap64 ((wrap64 (t210 + 1)) + 1)) + 1)) + 1)), (wrap64 (x5_1 + 1)), zs, zs, H', ⟨by have := HK1.out; omega⟩, ⟨zb HB⟩⟩
                ·rw [if_neg c33] at H
                 have c33b0 : (((rd_T104 l0 x5_1).f10.f1) == (wrap64 ((wrap64 ((wrap64 (t210 + 1)) + 1)) + 1))) = false := beq_eq_false_iff_ne.mpr c33
                 have c33b1 : (((rd_T104 l0 x5_1).f10.f1) != (wrap64 ((wrap64 ((wrap64 (t210 + 1)) + 1)) + 1))) = true := bne_iff_ne.mpr c33
                 obtain rfl := Option.some.inj H
                 have p215 : 0 ≤ (x5_1 : Int) := of_decide_eq_true za
                 have q215 : x5_1 < (l0.length : Int) := of_decide_eq_true za
                 try clear hHeld
                 try clear hx200_2
                 try clear hx200_7
                 try clear hx201_2
                 try clear hx201_7
                 try clear hx202_2
                 try clear hx202_7
                 try clear hx204_2
                 try clear hx204_7
                 try clear hx206_2
                 try clear hx206_7
                 try clear hx207_2
                 try clear hx207_7
                 try clear hx208_2
                 try clear hx208_7
                 try clear hx209_2
                 try clear hx209_7
                 try clear hx211_2
                 try clear hx211_7
                 try clear hx213_2
                 try clear hx213_7
                 try clear hx214_2
                 try clear hx214_7
                 obtain ⟨ad215, A215_2, c215_2, A215_7, c215_7, e215, hx215_0, hx215_1, hx215_2, hx215_3, hx215_4, hx215_5, hx215_6, hx215_7, hx215_8, hx215_9, hx215_10, hx215_11, hl215_2, hi215_2, hl215_7, hi215_7⟩ := at_T104 HR0.out x5_1 p215 q215
                 obtain rfl : ad200 = ad215 := (by injection e215)
                 replace hx215_0 := cb0 hx215_0 HB
                 replace hx215_1 := cb0 hx215_1 HB
                 replace hx215_2 := cb0 hx215_2 HB
                 replace hx215_3 := cb0 hx215_3 HB
                 replace hx215_4 := cb0 hx215_4 HB
                 replace hx215_5 := cb0 hx215_5 HB
                 replace hx215_6 := cb0 hx215_6 HB
                 replace hx215_7 := cb0 hx215_7 HB
                 replace hx215_8 := cb0 hx215_8 HB
                 replace hx215_9 := cb0 hx215_9 HB
                 replace hx215_10 := cb0 hx215_10 HB
                 replace hx215_11 := cb0 hx215_11 HB
                 have HR215_2 := Aside0.mk hi215_2
                 have HC215_2 := Aside0.mk hl215_2
                 clear hi215_2 hl215_2
                 have HR215_7 := Aside0.mk hi215_7
                 have HC215_7 := Aside0.mk hl215_7
                 clear hi215_7 hl215_7
                 replace p215 := eq_true p215
                 replace q215 := eq_true q215
                 go_wp2
                 go_ret
                 exact ⟨ze, zb HB⟩
               ·rw [if_neg c32] at H
                have c32b0 : (((rd_T104 l0 x5_1).f10.f0) == (wrap64 ((wrap64 (t210 + 1)) + 1))) = false := beq_eq_false_iff_ne.mpr c32
                have c32b1 : (((rd_T104 l0 x5_1).f10.f0) != (wrap64 ((wrap64 (t210 + 1)) + 1))) = true := bne_iff_ne.mpr c32
                (first | rw [c32b0] | rw [c32b1] | rw [c32b2] | (simp only [i64_w, i32_w]; rw [c32b0]) | skip)
                obtain rfl := Option.some.inj H
                go_wp2
                go_ret
                exact ⟨ze, zb HB⟩
             ·rw [if_neg c29] at H
              have c29b0 : (((rd_T104 l0 x5_1).f8).toList == t212.toList) = false := beq_eq_false_iff_ne.mpr c29
              have c29b1 : (((rd_T104 l0 x5_1).f8).toList != t212.toList) = true := bne_iff_ne.mpr c29
              (first | rw [c29b0] | rw [c29b1] | rw [c29b2] | (simp only [i64_w, i32_w]; rw [c29b0]) | skip)
              obtain rfl := Option.some.inj H
              go_wp2
              go_ret
              exact ⟨ze, zb HB⟩
           ·rw [if_neg c20] at H
            have c20b0 : (((rd_T104 l0 x5_1).f6) == (wrap64 ((wrap64 ((wrap64 (t203 + 1)) + 1)) + 1))) = false := beq_eq_false_iff_ne.mpr c20
            have c20b1 : (((rd_T104 l0 x5_1).f6) != (wrap64 ((wrap64 ((wrap64 (t203 + 1)) + 1)) + 1))) = true := bne_iff_ne.mpr c20
            obtain rfl := Option.some.inj H
            have p208 : 0 ≤ (x5_1 : Int) := of_decide_eq_true za
            have q208 : x5_1 < (l0.length : Int) := of_decide_eq_true za
            try clear hHeld
            try clear hx200_2
            try clear hx200_7
            try clear hx201_2
            try clear hx201_7
            try clear hx202_2
            try clear hx202_7
            try clear hx204_2
            try clear hx204_7
            try clear hx206_2
            try clear hx206_7
            try clear hx207_2
            try clear hx207_7
            try clear hx209_2
            try clear hx209_7
            try clear hx211_2
            try clear hx211_7
            try clear hx213_2
            try clear hx213_7
            try clear hx214_2
            try clear hx214_7
            obtain ⟨ad208, A208_2, c208_2, A208_7, c208_7, e208, hx208_0, hx208_1, hx208_2, hx208_3, hx208_4, hx208_5, hx208_6, hx208_7, hx208_8, hx208_9, hx208_10, hx208_11, hl208_2, hi208_2, hl208_7, hi208_7⟩ := at_T104 HR0.out x5_1 p208 q208
            obtain rfl : ad200 = ad208 := (by injection e208)
            replace hx208_0 := cb0 hx208_0 HB
            replace hx208_1 := cb0 hx208_1 HB
            replace hx208_2 := cb0 hx208_2 HB
            replace hx208_3 := cb0 hx208_3 HB
            replace hx208_4 := cb0 hx208_4 HB
            replace hx208_5 := cb0 hx208_5 HB
            replace hx208_6 := cb0 hx208_6 HB
            replace hx208_7 := cb0 hx208_7 HB
            replace hx208_8 := cb0 hx208_8 HB
            replace hx208_9 := cb0 hx208_9 HB
            replace hx208_10 := cb0 hx208_10 HB
            replace hx208_11 := cb0 hx208_11 HB
            have HR208_2 := Aside0.mk hi208_2
            have HC208_2 := Aside0.mk hl208_2
            clear hi208_2 hl208_2
            have HR208_7 := Aside0.mk hi208_7
            have HC208_7 := Aside0.mk hl208_7
            clear hi208_7 hl208_7
            replace p208 := eq_true p208
            replace q208 := eq_true q208
            go_wp2
            go_ret
            exact ⟨ze, zb HB⟩
        ·rw [if_neg c16] at H
         have c16b0 : (((rd_T104 l0 x5_1).f3).toList == t205.toList) = false := beq_eq_false_iff_ne.mpr c16
         have c16b1 : (((rd_T104 l0 x5_1).f3).toList != t205.toList) = true := bne_iff_ne.mpr c16
         (first | rw [c16b0] | rw [c16b1] | rw [c16b2] | (simp only [i64_w, i32_w]; rw [c16b0]) | skip)
         obtain rfl := Option.some.inj H
         go_wp2
         go_ret
         exact ⟨ze, zb HB⟩
      ·rw [if_neg c7] at H
       have c7b0 : (((rd_T104 l0 x5_1).f1) == (wrap64 (x1_1 + 1))) = false := beq_eq_false_iff_ne.mpr c7
       have c7b1 : (((rd_T104 l0 x5_1).f1) != (wrap64 (x1_1 + 1))) = true := bne_iff_ne.mpr c7
       (first | rw [c7b0] | rw [c7b1] | rw [c7b2] | (simp only [i64_w, i32_w]; rw [c7b0]) | skip)
       obtain rfl := Option.some.inj H
       go_wp2
       go_ret
       exact ⟨ze, zb HB⟩
     ·rw [if_neg c5] at H
      have c5b0 : (((rd_T104 l0 x5_1).f0) == x1_1) = false := beq_eq_false_iff_ne.mpr c5
      have c5b1 : (((rd_T104 l0 x5_1).f0) != x1_1) = true := bne_iff_ne.mpr c5
      obtain rfl := Option.some.inj H
      have p200 : 0 ≤ (x5_1 : Int) := of_decide_eq_true za
      have q200 : x5_1 < (l0.length : Int) := of_decide_eq_true za
      try clear hHeld
      try clear hx201_2
      try clear hx201_7
      try clear hx202_2
      try clear hx202_7
      try clear hx204_2
      try clear hx204_7
      try clear hx206_2
      try clear hx206_7
      try clear hx207_2
      try clear hx207_7
      try clear hx208_2
      try clear hx208_7
      try clear hx209_2
      try clear hx209_7
      try clear hx211_2
      try clear hx211_7
      try clear hx213_2
      try clear hx213_7
      try clear hx214_2
      try clear hx214_7
      obtain ⟨ad200, A200_2, c200_2, A200_7, c200_7, e200, hx200_0, hx200_1, hx200_2, hx200_3, hx200_4, hx200_5, hx200_6, hx200_7, hx200_8, hx200_9, hx200_10, hx200_11, hl200_2, hi200_2, hl200_7, hi200_7⟩ := at_T104 HR0.out x5_1 p200 q200
      cases e200
      replace hx200_0 := cb0 hx200_0 HB
      replace hx200_1 := cb0 hx200_1 HB
      replace hx200_2 := cb0 hx200_2 HB
      replace hx200_3 := cb0 hx200_3 HB
      replace hx200_4 := cb0 hx200_4 HB
      replace hx200_5 := cb0 hx200_5 HB
      replace hx200_6 := cb0 hx200_6 HB
      replace hx200_7 := cb0 hx200_7 HB
      replace hx200_8 := cb0 hx200_8 HB
      replace hx200_9 := cb0 hx200_9 HB
      replace hx200_10 := cb0 hx200_10 HB
      replace hx200_11 := cb0 hx200_11 HB
      have HR200_2 := Aside0.mk hi200_2
      have HC200_2 := Aside0.mk hl200_2
      clear hi200_2 hl200_2
      have HR200_7 := Aside0.mk hi200_7
      have HC200_7 := Aside0.mk hl200_7
      clear hi200_7 hl200_7
      replace p200 := eq_true p200
      replace q200 := eq_true q200
      go_wp2
      go_ret
      exact ⟨ze, zb HB⟩
    ·rw [if_neg c4] at H
     exact absurd H (by simp)
   ·skip
    have c3b0 := decide_eq_false c3
    clear c3
    obtain rfl := Option.some.inj H
    go_wp2
    go_ret
    exact ⟨ze, zb HB⟩

end Go.Proofs.Ytlpibelofcabhaa.PFnExactWorldNew
