-- WRITTEN BY a turned print (wip/tools of the prover's repo)
import Derived.Test.YtlpibelofcabhaaPFnExactEndLeavex0
import Derived.Test.YtlpibelofcabhaaPFnExactEndLeavex2
import Derived.Test.YtlpibelofcabhaaPFnExactEndLeavex3
namespace Go.Proofs.Ytlpibelofcabhaa.PFnExactEndLeave
open Go.RowKit Go.Proofs.YtlpibelofcabhaaW.PrintWords Go.Proofs.YtlpibelofcabhaaW.PrintLast Go.Proofs.YtlpibelofcabhaaW.PrintMore Go.Proofs.Ytlpibelofcabhaa.Lm
attribute [local go_sem] max2_int min2_int max_two min_two max_three min_three max_four min_four   -- for this text's walks alone
set_option linter.unusedVariables false
set_option linter.unusedSimpArgs false

/-! ### laws_heldStreamS: function 73 -/
-- thin
def laws_heldStreamS.l0 : Nat → List (S104) → Int → Int → Option (Int)
 | 0, _, _, _ => none
 | k + 1, x0, x1, x5 => if x5 < (x0.length : Int) then (if 0 ≤ x5 then (if ((rd_T104 x0 x5).f0) = x1 then (if ((rd_T104 x0 x5).f1) = (wrap64 (x1 + 1)) then ((laws_heldFieldS.f k ((rd_T104 x0 x5).f2) (wrap64 ((wrap64 (x1 + 1)) + 1))).bind fun t162 => (if t162 < 0 then (some (-1)) else ((laws_markText.f k t162).bind fun t164 => (if ((rd_T104 x0 x5).f3).toList = t164.toList then (if (((rd_T104 x0 x5).f4) != ((Int.tmod (wrap64 (t162 + 1)) 3) == 0)) = true then (some (-1)) else (if (((rd_T104 x0 x5).f5) != ((Int.tmod (wrap64 ((wrap64 (t162 + 1)) + 1)) 3) == 0)) = true then (some (-1)) else (if ((rd_T104 x0 x5).f6) = (wrap64 ((wrap64 ((wrap64 (t162 + 1)) + 1)) + 1)) then ((laws_heldFieldS.f k ((rd_T104 x0 x5).f7) (wrap64 ((wrap64 ((wrap64 ((wrap64 (t162 + 1)) + 1)) + 1)) + 1))).bind fun t169 => (if t169 < 0 then (some (-1)) else ((laws_markText.f k t169).bind fun t171 => (if ((rd_T104 x0 x5).f8).toList = t171.toList then (if (((rd_T104 x0 x5).f9) != ((Int.tmod (wrap64 (t169 + 1)) 3) == 0)) = true then (some (-1)) else (if ((rd_T104 x0 x5).f10.f0) = (wrap64 ((wrap64 (t169 + 1)) + 1)) then (if ((rd_T104 x0 x5).f10.f1) = (wrap64 ((wrap64 ((wrap64 (t169 + 1)) + 1)) + 1)) then (laws_heldStreamS.l0 k x0 (wrap64 ((wrap64 ((wrap64 ((wrap64 (t169 + 1)) + 1)) + 1)) + 1)) (wrap64 (x5 + 1))) else (some (-1))) else (some (-1)))) else (some (-1)))))) else (some (-1))))) else (some (-1)))))) else (some (-1))) else (some (-1))) else (none)) else (some x1)
def laws_heldStreamS.f (k : Nat) (l0 : List (S104)) (a1 : Int) : Option (Int) := laws_heldStreamS.l0 k l0 a1 0
theorem laws_heldStreamS.mono_l : ∀ k, (∀ y0 y1 y2, LeO (laws_heldStreamS.l0 k y0 y1 y2) (laws_heldStreamS.l0 (k + 1) y0 y1 y2))
 | 0 => fun _ _ _ r h => by simp [laws_heldStreamS.l0] at h
 | k + 1 => by
  have ih0 := laws_heldStreamS.mono_l k
  ·intro y0 y1 y2
   unfold laws_heldStreamS.l0
   have m0 := @laws_heldFieldS.mono
   have m1 := @laws_markText.mono
   exact zm
theorem laws_heldStreamS.mono : ∀ a0 a1 k, LeO (laws_heldStreamS.f k a0 a1) (laws_heldStreamS.f (k + 1) a0 a1) := by
 intro a0 a1 k
 have ih0 := laws_heldStreamS.mono_l k
 unfold laws_heldStreamS.f
 have m0 := @laws_heldFieldS.mono
 have m1 := @laws_markText.mono
 exact zm
def laws_heldStreamS.T13 : Bool × List (List Nat × List Nat) := (true, [([], []), ([], []), ([0, 1], [0, 1]), ([2], [2]), ([3], [3]), ([], []), ([5], [5]), ([4, 6], [4, 6])])
def laws_heldStreamS.B13 : List Nat := [0, 0, 3, 7, 15, 0, 32, 127]
theorem laws_heldStreamS.tab13 : rtab .any (opsOf Try.f73 13) = laws_heldStreamS.T13 := by kernel_rfl
theorem laws_heldStreamS.bits13 : waitsOk laws_heldStreamS.T13.2 laws_heldStreamS.B13 = true := by kernel_rfl
def laws_heldStreamS.T28 : Bool × List (List Nat × List Nat) := (true, [([], []), ([], []), ([0, 1], [0, 1]), ([2], [2]), ([3], [3]), ([], []), ([5], [5]), ([4, 6], [4, 6])])
def laws_heldStreamS.B28 : List Nat := [0, 0, 3, 7, 15, 0, 32, 127]
theorem laws_heldStreamS.tab28 : rtab .any (opsOf Try.f73 28) = laws_heldStreamS.T28 := by kernel_rfl
theorem laws_heldStreamS.bits28 : waitsOk laws_heldStreamS.T28.2 laws_heldStreamS.B28 = true := by kernel_rfl
set_option maxHeartbeats 8000000 in
set_option maxRecDepth 100000 in
theorem laws_heldStreamS.calls (k : Nat) (A0 : Option Addr) (c0 : Nat) (l0 : List (S104)) (a1 : Int) (r : Int) (w : World) (hr0 : Kd.C k104 w A0 l0.length l0) (hc0 : l0.length ≤ c0) (h : laws_heldStreamS.f k l0 a1 = some r) :
  Calls Try.prog 73 #[.slice A0 l0.length c0, .int .i64 a1] w fun e w' => e = .returned (.int .i64 r) ∧ Below w.heap.size w w' := by
 have HR0 := Aside0.mk hr0
 have HC0 := Aside0.mk hc0
 clear hr0 hc0
 have HB := Aside0.mk (Below.refl w.heap.size w)
 have H : (laws_heldStreamS.l0 k l0 a1 0) = some r := h
 clear h
 have H' := Aside0.mk H
 clear H
 go_enter Try.func73, Try.ntmps73
 go_wp2
 go_loopg [1, 5] k (fun kq v1 v5 w' => ∃ (x1_1 : Int) (x5_1 : Int), v1 = .int .i64 x1_1 ∧ v5 = .int .i64 x5_1 ∧ Aside0 (laws_heldStreamS.l0 kq l0 x1_1 x5_1 = some r) ∧ Aside0 (kq ≤ k) ∧ Aside0 (Below w.heap.size w w'))
 case atStart => exact ⟨(a1), (0), zs, zs, H', ⟨Nat.le_refl _⟩, ⟨zb HB⟩⟩
 case round =>
  clear H'
  try clear p2
  obtain ⟨x1_1, x5_1, rfl, rfl, HA, HK1, HB⟩ := hrel
  cases gk with
  | zero => exact absurd HA.out (by simp [laws_heldStreamS.l0])
  | succ k1 =>
   have H := HA.out
   clear HA
   simp only [laws_heldStreamS.l0] at H
   replace H := sp H
   rcases H with ⟨c3, H⟩ | ⟨c3, H⟩
   ·skip
    have c3b0 := decide_eq_true c3
    clear c3
    by_cases c4 : 0 ≤ x5_1
    ·rw [if_pos c4] at H
     have c4b0 := decide_eq_true c4
     clear c4
     by_cases c5 : ((rd_T104 l0 x5_1).f0) = x1_1
     ·rw [if_pos c5] at H
      have c5b0 : (((rd_T104 l0 x5_1).f0) == x1_1) = true := beq_iff_eq.mpr c5
      have c5b1 : (((rd_T104 l0 x5_1).f0) != x1_1) = false := bne_eq_false_iff_eq.mpr c5
      clear c5
      have HC6 := Aside0.mk H
      clear H
      have p159 : 0 ≤ (x5_1 : Int) := of_decide_eq_true za
      have q159 : x5_1 < (l0.length : Int) := of_decide_eq_true za
      obtain ⟨ad159, A159_2, c159_2, A159_7, c159_7, e159, hx159_0, hx159_1, hx159_2, hx159_3, hx159_4, hx159_5, hx159_6, hx159_7, hx159_8, hx159_9, hx159_10, hx159_11, hl159_2, hi159_2, hl159_7, hi159_7⟩ := at_T104 HR0.out x5_1 p159 q159
      cases e159
      replace hx159_0 := cb0 hx159_0 HB
      replace hx159_1 := cb0 hx159_1 HB
      replace hx159_2 := cb0 hx159_2 HB
      replace hx159_3 := cb0 hx159_3 HB
      replace hx159_4 := cb0 hx159_4 HB
      replace hx159_5 := cb0 hx159_5 HB
      replace hx159_6 := cb0 hx159_6 HB
      replace hx159_7 := cb0 hx159_7 HB
      replace hx159_8 := cb0 hx159_8 HB
      replace hx159_9 := cb0 hx159_9 HB
      replace hx159_10 := cb0 hx159_10 HB
      replace hx159_11 := cb0 hx159_11 HB
      have HR159_2 := Aside0.mk hi159_2
      have HC159_2 := Aside0.mk hl159_2
      clear hi159_2 hl159_2
      have HR159_7 := Aside0.mk hi159_7
      have HC159_7 := Aside0.mk hl159_7
      clear hi159_7 hl159_7
      replace p159 := eq_true p159
      replace q159 := eq_true q159
      have p160 : 0 ≤ (x5_1 : Int) := of_decide_eq_true za
      have q160 : x5_1 < (l0.length : Int) := of_decide_eq_true za
      obtain ⟨ad160, A160_2, c160_2, A160_7, c160_7, e160, hx160_0, hx160_1, hx160_2, hx160_3, hx160_4, hx160_5, hx160_6, hx160_7, hx160_8, hx160_9, hx160_10, hx160_11, hl160_2, hi160_2, hl160_7, hi160_7⟩ := at_T104 HR0.out x5_1 p160 q160
      obtain rfl : ad159 = ad160 := (by injection e160)
      replace hx160_0 := cb0 hx160_0 HB
      replace hx160_1 := cb0 hx160_1 HB
      replace hx160_2 := cb0 hx160_2 HB
      replace hx160_3 := cb0 hx160_3 HB
      replace hx160_4 := cb0 hx160_4 HB
      replace hx160_5 := cb0 hx160_5 HB
      replace hx160_6 := cb0 hx160_6 HB
      replace hx160_7 := cb0 hx160_7 HB
      replace hx160_8 := cb0 hx160_8 HB
      replace hx160_9 := cb0 hx160_9 HB
      replace hx160_10 := cb0 hx160_10 HB
      replace hx160_11 := cb0 hx160_11 HB
      have HR160_2 := Aside0.mk hi160_2
      have HC160_2 := Aside0.mk hl160_2
      clear hi160_2 hl160_2
      have HR160_7 := Aside0.mk hi160_7
      have HC160_7 := Aside0.mk hl160_7
      clear hi160_7 hl160_7
      replace p160 := eq_true p160
      replace q160 := eq_true q160
      have ea_ := Option.some.inj (hx159_2.symm.trans hx160_2)
      injection ea_ with ea_ en_ ec_
      subst ea_
      subst ec_
      clear en_
      have ea_ := Option.some.inj (hx159_7.symm.trans hx160_7)
      injection ea_ with ea_ en_ ec_
      subst ea_
      subst ec_
      clear en_
      go_upto_if 27 with (fail)
      have H := HC6.out
      clear HC6
      by_cases c7 : ((rd_T104 l0 x5_1).f1) = (wrap64 (x1_1 + 1))
      ·rw [if_pos c7] at H
       have c7b0 : (((rd_T104 l0 x5_1).f1) == (wrap64 (x1_1 + 1))) = true := beq_iff_eq.mpr c7
       have c7b1 : (((rd_T104 l0 x5_1).f1) != (wrap64 (x1_1 + 1))) = false := bne_eq_false_iff_eq.mpr c7
       clear c7
       (first | rw [c7b0] | rw [c7b1] | rw [c7b2] | (simp only [i64_w, i32_w]; rw [c7b0]) | skip)
       obtain ⟨t162, A8, H⟩ := ob H
       (try dsimp only at H)
       have HC9 := Aside0.mk H
       clear H
       have p161 : 0 ≤ (x5_1 : Int) := of_decide_eq_true za
       have q161 : x5_1 < (l0.length : Int) := of_decide_eq_true za
       try clear hx159_2
       try clear hx159_7
       try clear hx160_2
       try clear hx160_7
       obtain ⟨ad161, A161_2, c161_2, A161_7, c161_7, e161, hx161_0, hx161_1, hx161_2, hx161_3, hx161_4, hx161_5, hx161_6, hx161_7, hx161_8, hx161_9, hx161_10, hx161_11, hl161_2, hi161_2, hl161_7, hi161_7⟩ := at_T104 HR0.out x5_1 p161 q161
       obtain rfl : ad159 = ad161 := (by injection e161)
       replace hx161_0 := cb0 hx161_0 HB
       replace hx161_1 := cb0 hx161_1 HB
       replace hx161_2 := cb0 hx161_2 HB
       replace hx161_3 := cb0 hx161_3 HB
       replace hx161_4 := cb0 hx161_4 HB
       replace hx161_5 := cb0 hx161_5 HB
       replace hx161_6 := cb0 hx161_6 HB
       replace hx161_7 := cb0 hx161_7 HB
       replace hx161_8 := cb0 hx161_8 HB
       replace hx161_9 := cb0 hx161_9 HB
       replace hx161_10 := cb0 hx161_10 HB
       replace hx161_11 := cb0 hx161_11 HB
       have HR161_2 := Aside0.mk hi161_2
       have HC161_2 := Aside0.mk hl161_2
       clear hi161_2 hl161_2
       have HR161_7 := Aside0.mk hi161_7
       have HC161_7 := Aside0.mk hl161_7
       clear hi161_7 hl161_7
       replace p161 := eq_true p161
       replace q161 := eq_true q161
       go_upto_if 38 with (first | ((with_reducible refine gq 126 rfl ?_); refine gl (some 36) Try.func126 #[.slice A161_2 ((rd_T104 l0 x5_1).f2).length c161_2, .int .i64 (wrap64 ((wrap64 (x1_1 + 1)) + 1))] ?_; (with_reducible refine (laws_heldFieldS.calls k1 _ _ ((rd_T104 l0 x5_1).f2) (wrap64 ((wrap64 (x1_1 + 1)) + 1)) t162 _ ?side1 ?side2 A8.out).mono ?_); (case side1 => exact zc (Kd.C_below HR161_2.out HB.out)); (case side2 => exact HC161_2.out); rintro e w10 ⟨rfl, hb⟩; refine ⟨_, rfl, ?_⟩; replace HB := Aside0.mk (below_step (zb HB) hb); (try clear hb)))
       (try simp only [Act.put, s1, s2, s3])
       have H := HC9.out
       clear HC9
       by_cases c11 : t162 < 0
       ·rw [if_pos c11] at H
        have c11b0 := decide_eq_true c11
        clear c11
        (first | rw [c11b0] | rw [c11b1] | rw [c11b2] | (simp only [i64_w, i32_w]; rw [c11b0]) | skip)
        obtain rfl := Option.some.inj H
        go_wp2
        go_ret
        exact ⟨ze, zb HB⟩
       ·rw [if_neg c11] at H
        have c11b0 := decide_eq_false c11
        clear c11
        (first | rw [c11b0] | rw [c11b1] | rw [c11b2] | (simp only [i64_w, i32_w]; rw [c11b0]) | skip)
        obtain ⟨t164, A12, H⟩ := ob H
        (try dsimp only at H)
        have HC13 := Aside0.mk H
        clear H
        try go_wp2
        replace HB := Aside0.mk (below_drew1 HB.out)
        have p163 : 0 ≤ (x5_1 : Int) := of_decide_eq_true za
        have q163 : x5_1 < (l0.length : Int) := of_decide_eq_true za
        try clear hx159_2
        try clear hx159_7
        try clear hx160_2
        try clear hx160_7
        try clear hx161_2
        try clear hx161_7
        obtain ⟨ad163, A163_2, c163_2, A163_7, c163_7, e163, hx163_0, hx163_1, hx163_2, hx163_3, hx163_4, hx163_5, hx163_6, hx163_7, hx163_8, hx163_9, hx163_10, hx163_11, hl163_2, hi163_2, hl163_7, hi163_7⟩ := at_T104 HR0.out x5_1 p163 q163
        have hw163_11 := hx163_11
        have hw163_10 := hx163_10
        have hw163_9 := hx163_9
        have hw163_8 := hx163_8
        have hw163_7 := hx163_7
        have hw163_6 := hx163_6
        have hw163_5 := hx163_5
        have hw163_4 := hx163_4
        have hw163_3 := hx163_3
        have hw163_2 := hx163_2
        have hw163_1 := hx163_1
        have hw163_0 := hx163_0
        obtain rfl : ad159 = ad163 := (by injection e163)
        replace hx163_0 := cb0 hx163_0 HB
        replace hx163_1 := cb0 hx163_1 HB
        replace hx163_2 := cb0 hx163_2 HB
        replace hx163_3 := cb0 hx163_3 HB
        replace hx163_4 := cb0 hx163_4 HB
        replace hx163_5 := cb0 hx163_5 HB
        replace hx163_6 := cb0 hx163_6 HB
        replace hx163_7 := cb0 hx163_7 HB
        replace hx163_8 := cb0 hx163_8 HB
        replace hx163_9 := cb0 hx163_9 HB
        replace hx163_10 := cb0 hx163_10 HB
        replace hx163_11 := cb0 hx163_11 HB
        have HR163_2 := Aside0.mk hi163_2
        have HC163_2 := Aside0.mk hl163_2
        clear hi163_2 hl163_2
        have HR163_7 := Aside0.mk hi163_7
        have HC163_7 := Aside0.mk hl163_7
        clear hi163_7 hl163_7
        replace p163 := eq_true p163
        replace q163 := eq_true q163
        refine st 8 (an (cb hw163_0 HB) (an (cb hw163_1 HB) (an (cb hw163_2 HB) (an (cb hw163_3 HB) (an (cb hw163_4 HB) (an (cb hw163_5 HB) (an (cb hw163_6 HB) (an (cb hw163_7 HB) (an (cb hw163_8 HB) (an (cb hw163_9 HB) (an (cb hw163_10 HB) (cb hw163_11 HB)))))))))))) (fun hHeld => ?_); refine with_tabW laws_heldStreamS.tab13 laws_heldStreamS.bits13 (fun HT_ HW_ => ?_)
        generalize w10.drew = w14 at HB HR163_2 HR163_7 hx163_0 hx163_1 hx163_10 hx163_11 hx163_2 hx163_3 hx163_4 hx163_5 hx163_6 hx163_7 hx163_8 hx163_9 hHeld ⊢
        refine pu 0 (some 39) (bm 8 1) rfl rfl ?_
        refine pu 1 (some 40) (bm 8 3) rfl rfl ?_
        refine pu 2 (some 41) (bm 8 7) rfl rfl ?_
        refine pu 3 (some 42) (bm 8 15) rfl rfl ?_
        refine pu 5 (some 44) (bm 8 47) rfl rfl ?_
        refine tk 4 (some 43) (bm 8 63) rfl rfl hHeld ?_
        refine one_ (i := 6) (N := some 45) (bm 8 127) rfl rfl (one_of HT_.out (by kernel_rfl)) (by decide) (fun K hK => ?_)
        refine gs Try.func102 #[.int .i64 t162] ?_
        with_reducible refine (laws_markText.calls k1 t162 t164 _ A12.out).mono ?_
        rintro e w15 ⟨rfl, hb⟩
        refine ⟨_, rfl, ?_⟩
        replace HB := Aside0.mk (below_step (zb HB) hb)
        (try clear hb)
        refine hK.out _ _ (an (cb hw163_0 HB) (an (cb hw163_1 HB) (an (cb hw163_2 HB) (an (cb hw163_3 HB) (an (cb hw163_4 HB) (an (cb hw163_5 HB) (an (cb hw163_6 HB) (an (cb hw163_7 HB) (an (cb hw163_8 HB) (an (cb hw163_9 HB) (an (cb hw163_10 HB) (cb hw163_11 HB)))))))))))) (fun hHeld => ?_)
        clear hK K
        refine nm ?_
        refine pu 7 (some 46) (bm 8 255) rfl rfl ?_
        refine done_ (done_of HT_.out (by kernel_rfl)) ?_
        go_upto_if 46 with (fail)
        have H := HC13.out
        clear HC13
        by_cases c16 : ((rd_T104 l0 x5_1).f3).toList = t164.toList
        ·rw [if_pos c16] at H
         have c16b0 : (((rd_T104 l0 x5_1).f3).toList == t164.toList) = true := beq_iff_eq.mpr c16
         have c16b1 : (((rd_T104 l0 x5_1).f3).toList != t164.toList) = false := bne_eq_false_iff_eq.mpr c16
         clear c16
         (first | rw [c16b0] | rw [c16b1] | rw [c16b2] | (simp only [i64_w, i32_w]; rw [c16b0]) | skip)
         by_cases c17 : (((rd_T104 l0 x5_1).f4) != ((Int.tmod (wrap64 (t162 + 1)) 3) == 0)) = true
         ·rw [if_pos c17] at H
          have c17b0 : (((rd_T104 l0 x5_1).f4) != ((Int.tmod (wrap64 (t162 + 1)) 3) == 0)) = true := c17
          (try (have c17b1 : decide (((rd_T104 l0 x5_1).f4) = ((Int.tmod (wrap64 (t162 + 1)) 3) == 0)) = false := by simpa using c17))
          (try (have c17b2 : (((rd_T104 l0 x5_1).f4) == ((Int.tmod (wrap64 (t162 + 1)) 3) == 0)) = false := by simpa using c17))
          (try (have c17b3 : ¬ (((rd_T104 l0 x5_1).f4) = ((Int.tmod (wrap64 (t162 + 1)) 3) == 0)) := by simpa using c17))
          clear c17
          obtain rfl := Option.some.inj H
          have p165 : 0 ≤ (x5_1 : Int) := of_decide_eq_true za
          have q165 : x5_1 < (l0.length : Int) := of_decide_eq_true za
          try clear hHeld
          try clear hx159_2
          try clear hx159_7
          try clear hx160_2
          try clear hx160_7
          try clear hx161_2
          try clear hx161_7
          try clear hx163_2
          try clear hx163_7
          obtain ⟨ad165, A165_2, c165_2, A165_7, c165_7, e165, hx165_0, hx165_1, hx165_2, hx165_3, hx165_4, hx165_5, hx165_6, hx165_7, hx165_8, hx165_9, hx165_10, hx165_11, hl165_2, hi165_2, hl165_7, hi165_7⟩ := at_T104 HR0.out x5_1 p165 q165
          obtain rfl : ad159 = ad165 := (by injection e165)
          replace hx165_0 := cb0 hx165_0 HB
          replace hx165_1 := cb0 hx165_1 HB
          replace hx165_2 := cb0 hx165_2 HB
          replace hx165_3 := cb0 hx165_3 HB
          replace hx165_4 := cb0 hx165_4 HB
          replace hx165_5 := cb0 hx165_5 HB
          replace hx165_6 := cb0 hx165_6 HB
          replace hx165_7 := cb0 hx165_7 HB
          replace hx165_8 := cb0 hx165_8 HB
          replace hx165_9 := cb0 hx165_9 HB
          replace hx165_10 := cb0 hx165_10 HB
          replace hx165_11 := cb0 hx165_11 HB
          have HR165_2 := Aside0.mk hi165_2
          have HC165_2 := Aside0.mk hl165_2
          clear hi165_2 hl165_2
          have HR165_7 := Aside0.mk hi165_7
          have HC165_7 := Aside0.mk hl165_7
          clear hi165_7 hl165_7
          replace p165 := eq_true p165
          replace q165 := eq_true q165
          go_wp2
          go_ret
          exact ⟨ze, zb HB⟩
         ·rw [if_neg c17] at H
          have c17b0 : (((rd_T104 l0 x5_1).f4) != ((Int.tmod (wrap64 (t162 + 1)) 3) == 0)) = false := by simpa using c17
          (try (have c17b1 : decide (((rd_T104 l0 x5_1).f4) = ((Int.tmod (wrap64 (t162 + 1)) 3) == 0)) = true := by simpa using c17))
          (try (have c17b2 : (((rd_T104 l0 x5_1).f4) == ((Int.tmod (wrap64 (t162 + 1)) 3) == 0)) = true := by simpa using c17))
          clear c17
          have HC18 := Aside0.mk H
          clear H
          have p165 : 0 ≤ (x5_1 : Int) := of_decide_eq_true za
          have q165 : x5_1 < (l0.length : Int) := of_decide_eq_true za
          try clear hHeld
          try clear hx159_2
          try clear hx159_7
          try clear hx160_2
          try clear hx160_7
          try clear hx161_2
          try clear hx161_7
          try clear hx163_2
          try clear hx163_7
          obtain ⟨ad165, A165_2, c165_2, A165_7, c165_7, e165, hx165_0, hx165_1, hx165_2, hx165_3, hx165_4, hx165_5, hx165_6, hx165_7, hx165_8, hx165_9, hx165_10, hx165_11, hl165_2, hi165_2, hl165_7, hi165_7⟩ := at_T104 HR0.out x5_1 p165 q165
          obtain rfl : ad159 = ad165 := (by injection e165)
          replace hx165_0 := cb0 hx165_0 HB
          replace hx165_1 := cb0 hx165_1 HB
          replace hx165_2 := cb0 hx165_2 HB
          replace hx165_3 := cb0 hx165_3 HB
          replace hx165_4 := cb0 hx165_4 HB
          replace hx165_5 := cb0 hx165_5 HB
          replace hx165_6 := cb0 hx165_6 HB
          replace hx165_7 := cb0 hx165_7 HB
          replace hx165_8 := cb0 hx165_8 HB
          replace hx165_9 := cb0 hx165_9 HB
          replace hx165_10 := cb0 hx165_10 HB
          replace hx165_11 := cb0 hx165_11 HB
          have HR165_2 := Aside0.mk hi165_2
          have HC165_2 := Aside0.mk hl165_2
          clear hi165_2 hl165_2
          have HR165_7 := Aside0.mk hi165_7
          have HC165_7 := Aside0.mk hl165_7
          clear hi165_7 hl165_7
          replace p165 := eq_true p165
          replace q165 := eq_true q165
          have p166 : 0 ≤ (x5_1 : Int) := of_decide_eq_true za
          have q166 : x5_1 < (l0.length : Int) := of_decide_eq_true za
          try clear hHeld
          try clear hx159_2
          try clear hx159_7
          try clear hx160_2
          try clear hx160_7
          try clear hx161_2
          try clear hx161_7
          try clear hx163_2
          try clear hx163_7
          obtain ⟨ad166, A166_2, c166_2, A166_7, c166_7, e166, hx166_0, hx166_1, hx166_2, hx166_3, hx166_4, hx166_5, hx166_6, hx166_7, hx166_8, hx166_9, hx166_10, hx166_11, hl166_2, hi166_2, hl166_7, hi166_7⟩ := at_T104 HR0.out x5_1 p166 q166
          obtain rfl : ad159 = ad166 := (by injection e166)
          replace hx166_0 := cb0 hx166_0 HB
          replace hx166_1 := cb0 hx166_1 HB
          replace hx166_2 := cb0 hx166_2 HB
          replace hx166_3 := cb0 hx166_3 HB
          replace hx166_4 := cb0 hx166_4 HB
          replace hx166_5 := cb0 hx166_5 HB
          replace hx166_6 := cb0 hx166_6 HB
          replace hx166_7 := cb0 hx166_7 HB
          replace hx166_8 := cb0 hx166_8 HB
          replace hx166_9 := cb0 hx166_9 HB
          replace hx166_10 := cb0 hx166_10 HB
          replace hx166_11 := cb0 hx166_11 HB
          have HR166_2 := Aside0.mk hi166_2
          have HC166_2 := Aside0.mk hl166_2
          clear hi166_2 hl166_2
          have HR166_7 := Aside0.mk hi166_7
          have HC166_7 := Aside0.mk hl166_7
          clear hi166_7 hl166_7
          replace p166 := eq_true p166
          replace q166 := eq_true q166
          have ea_ := Option.some.inj (hx165_2.symm.trans hx166_2)
          injection ea_ with ea_ en_ ec_
          subst ea_
          subst ec_
          clear en_
          have ea_ := Option.some.inj (hx165_7.symm.trans hx166_7)
          injection ea_ with ea_ en_ ec_
          subst ea_
          subst ec_
          clear en_
          go_upto_if 68 with (fail)
          have H := HC18.out
          clear HC18
          by_cases c19 : (((rd_T104 l0 x5_1).f5) != ((Int.tmod (wrap64 ((wrap64 (t162 + 1)) + 1)) 3) == 0)) = true
          ·rw [if_pos c19] at H
           have c19b0 : (((rd_T104 l0 x5_1).f5) != ((Int.tmod (wrap64 ((wrap64 (t162 + 1)) + 1)) 3) == 0)) = true := c19
           (try (have c19b1 : decide (((rd_T104 l0 x5_1).f5) = ((Int.tmod (wrap64 ((wrap64 (t162 + 1)) + 1)) 3) == 0)) = false := by simpa using c19))
           (try (have c19b2 : (((rd_T104 l0 x5_1).f5) == ((Int.tmod (wrap64 ((wrap64 (t162 + 1)) + 1)) 3) == 0)) = false := by simpa using c19))
           (try (have c19b3 : ¬ (((rd_T104 l0 x5_1).f5) = ((Int.tmod (wrap64 ((wrap64 (t162 + 1)) + 1)) 3) == 0)) := by simpa using c19))
           clear c19
           (first | rw [c19b0] | rw [c19b1] | rw [c19b2] | (simp only [i64_w, i32_w]; rw [c19b0]) | skip)
           obtain rfl := Option.some.inj H
           go_wp2
           go_ret
           exact ⟨ze, zb HB⟩
          ·rw [if_neg c19] at H
           have c19b0 : (((rd_T104 l0 x5_1).f5) != ((Int.tmod (wrap64 ((wrap64 (t162 + 1)) + 1)) 3) == 0)) = false := by simpa using c19
           (try (have c19b1 : decide (((rd_T104 l0 x5_1).f5) = ((Int.tmod (wrap64 ((wrap64 (t162 + 1)) + 1)) 3) == 0)) = true := by simpa using c19))
           (try (have c19b2 : (((rd_T104 l0 x5_1).f5) == ((Int.tmod (wrap64 ((wrap64 (t162 + 1)) + 1)) 3) == 0)) = true := by simpa using c19))
           clear c19
           (first | rw [c19b0] | rw [c19b1] | rw [c19b2] | (simp only [i64_w, i32_w]; rw [c19b0]) | skip)
           by_cases c20 : ((rd_T104 l0 x5_1).f6) = (wrap64 ((wrap64 ((wrap64 (t162 + 1)) + 1)) + 1))
           ·rw [if_pos c20] at H
            have c20b0 : (((rd_T104 l0 x5_1).f6) == (wrap64 ((wrap64 ((wrap64 (t162 + 1)) + 1)) + 1))) = true := beq_iff_eq.mpr c20
            have c20b1 : (((rd_T104 l0 x5_1).f6) != (wrap64 ((wrap64 ((wrap64 (t162 + 1)) + 1)) + 1))) = false := bne_eq_false_iff_eq.mpr c20
            clear c20
            obtain ⟨t169, A21, H⟩ := ob H
            (try dsimp only at H)
            have HC22 := Aside0.mk H
            clear H
            have p167 : 0 ≤ (x5_1 : Int) := of_decide_eq_true za
            have q167 : x5_1 < (l0.length : Int) := of_decide_eq_true za
            try clear hHeld
            try clear hx159_2
            try clear hx159_7
            try clear hx160_2
            try clear hx160_7
            try clear hx161_2
            try clear hx161_7
            try clear hx163_2
            try clear hx163_7
            try clear hx165_2
            try clear hx165_7
            try clear hx166_2
            try clear hx166_7
            obtain ⟨ad167, A167_2, c167_2, A167_7, c167_7, e167, hx167_0, hx167_1, hx167_2, hx167_3, hx167_4, hx167_5, hx167_6, hx167_7, hx167_8, hx167_9, hx167_10, hx167_11, hl167_2, hi167_2, hl167_7, hi167_7⟩ := at_T104 HR0.out x5_1 p167 q167
            obtain rfl : ad159 = ad167 := (by injection e167)
            replace hx167_0 := cb0 hx167_0 HB
            replace hx167_1 := cb0 hx167_1 HB
            replace hx167_2 := cb0 hx167_2 HB
            replace hx167_3 := cb0 hx167_3 HB
            replace hx167_4 := cb0 hx167_4 HB
            replace hx167_5 := cb0 hx167_5 HB
            replace hx167_6 := cb0 hx167_6 HB
            replace hx167_7 := cb0 hx167_7 HB
            replace hx167_8 := cb0 hx167_8 HB
            replace hx167_9 := cb0 hx167_9 HB
            replace hx167_10 := cb0 hx167_10 HB
            replace hx167_11 := cb0 hx167_11 HB
            have HR167_2 := Aside0.mk hi167_2
            have HC167_2 := Aside0.mk hl167_2
            clear hi167_2 hl167_2
            have HR167_7 := Aside0.mk hi167_7
            have HC167_7 := Aside0.mk hl167_7
            clear hi167_7 hl167_7
            replace p167 := eq_true p167
            replace q167 := eq_true q167
            have p168 : 0 ≤ (x5_1 : Int) := of_decide_eq_true za
            have q168 : x5_1 < (l0.length : Int) := of_decide_eq_true za
            try clear hHeld
            try clear hx159_2
            try clear hx159_7
            try clear hx160_2
            try clear hx160_7
            try clear hx161_2
            try clear hx161_7
            try clear hx163_2
            try clear hx163_7
            try clear hx165_2
            try clear hx165_7
            try clear hx166_2
            try clear hx166_7
            obtain ⟨ad168, A168_2, c168_2, A168_7, c168_7, e168, hx168_0, hx168_1, hx168_2, hx168_3, hx168_4, hx168_5, hx168_6, hx168_7, hx168_8, hx168_9, hx168_10, hx168_11, hl168_2, hi168_2, hl168_7, hi168_7⟩ := at_T104 HR0.out x5_1 p168 q168
            obtain rfl : ad159 = ad168 := (by injection e168)
            replace hx168_0 := cb0 hx168_0 HB
            replace hx168_1 := cb0 hx168_1 HB
            replace hx168_2 := cb0 hx168_2 HB
            replace hx168_3 := cb0 hx168_3 HB
            replace hx168_4 := cb0 hx168_4 HB
            replace hx168_5 := cb0 hx168_5 HB
            replace hx168_6 := cb0 hx168_6 HB
            replace hx168_7 := cb0 hx168_7 HB
            replace hx168_8 := cb0 hx168_8 HB
            replace hx168_9 := cb0 hx168_9 HB
            replace hx168_10 := cb0 hx168_10 HB
            replace hx168_11 := cb0 hx168_11 HB
            have HR168_2 := Aside0.mk hi168_2
            have HC168_2 := Aside0.mk hl168_2
            clear hi168_2 hl168_2
            have HR168_7 := Aside0.mk hi168_7
            have HC168_7 := Aside0.mk hl168_7
            clear hi168_7 hl168_7
            replace p168 := eq_true p168
            replace q168 := eq_true q168
            have ea_ := Option.some.inj (hx167_2.symm.trans hx168_2)
            injection ea_ with ea_ en_ ec_
            subst ea_
            subst ec_
            clear en_
            have ea_ := Option.some.inj (hx167_7.symm.trans hx168_7)
            injection ea_ with ea_ en_ ec_
            subst ea_
            subst ec_
            clear en_
            go_upto_if 88 with (first | ((with_reducible refine gq 126 rfl ?_); refine gl (some 86) Try.func126 #[.slice A167_7 ((rd_T104 l0 x5_1).f7).length c167_7, .int .i64 (wrap64 ((wrap64 ((wrap64 ((wrap64 (t162 + 1)) + 1)) + 1)) + 1))] ?_; (with_reducible refine (laws_heldFieldS.calls k1 _ _ ((rd_T104 l0 x5_1).f7) (wrap64 ((wrap64 ((wrap64 ((wrap64 (t162 + 1)) + 1)) + 1)) + 1)) t169 _ ?side1 ?side2 A21.out).mono ?_); (case side1 => exact zc (Kd.C_below HR168_7.out HB.out)); (case side2 => exact HC168_7.out); rintro e w23 ⟨rfl, hb⟩; refine ⟨_, rfl, ?_⟩; replace HB := Aside0.mk (below_step (zb HB) hb); (try clear hb)))
            (try simp only [Act.put, s1, s2, s3])
            have H := HC22.out
            clear HC22
            by_cases c24 : t169 < 0
            ·rw [if_pos c24] at H
             have c24b0 := decide_eq_true c24
             clear c24
             (first | rw [c24b0] | rw [c24b1] | rw [c24b2] | (simp only [i64_w, i32_w]; rw [c24b0]) | skip)
             obtain rfl := Option.some.inj H
             go_wp2
             go_ret
             exact ⟨ze, zb HB⟩
            ·rw [if_neg c24] at H
             have c24b0 := decide_eq_false c24
             clear c24
             (first | rw [c24b0] | rw [c24b1] | rw [c24b2] | (simp only [i64_w, i32_w]; rw [c24b0]) | skip)
             obtain ⟨t171, A25, H⟩ := ob H
             (try dsimp only at H)
             have HC26 := Aside0.mk H
             clear H
             try go_wp2
             replace HB := Aside0.mk (below_drew1 HB.out)
             have p170 : 0 ≤ (x5_1 : Int) := of_decide_eq_true za
             have q170 : x5_1 < (l0.length : Int) := of_decide_eq_true za
             try clear hHeld
             try clear hx159_2
             try clear hx159_7
             try clear hx160_2
             try clear hx160_7
             try clear hx161_2
             try clear hx161_7
             try clear hx163_2
             try clear hx163_7
             try clear hx165_2
             try clear hx165_7
             try clear hx166_2
             try clear hx166_7
             try clear hx167_2
             try clear hx167_7
             try clear hx168_2
             try clear hx168_7
             obtain ⟨ad170, A170_2, c170_2, A170_7, c170_7, e170, hx170_0, hx170_1, hx170_2, hx170_3, hx170_4, hx170_5, hx170_6, hx170_7, hx170_8, hx170_9, hx170_10, hx170_11, hl170_2, hi170_2, hl170_7, hi170_7⟩ := at_T104 HR0.out x5_1 p170 q170
             have hw170_11 := hx170_11
             have hw170_10 := hx170_10
             have hw170_9 := hx170_9
             have hw170_8 := hx170_8
             have hw170_7 := hx170_7
             have hw170_6 := hx170_6
             have hw170_5 := hx170_5
             have hw170_4 := hx170_4
             have hw170_3 := hx170_3
             have hw170_2 := hx170_2
             have hw170_1 := hx170_1
             have hw170_0 := hx170_0
             obtain rfl : ad159 = ad170 := (by injection e170)
             replace hx170_0 := cb0 hx170_0 HB
             replace hx170_1 := cb0 hx170_1 HB
             replace hx170_2 := cb0 hx170_2 HB
             replace hx170_3 := cb0 hx170_3 HB
             replace hx170_4 := cb0 hx170_4 HB
             replace hx170_5 := cb0 hx170_5 HB
             replace hx170_6 := cb0 hx170_6 HB
             replace hx170_7 := cb0 hx170_7 HB
             replace hx170_8 := cb0 hx170_8 HB
             replace hx170_9 := cb0 hx170_9 HB
             replace hx170_10 := cb0 hx170_10 HB
             replace hx170_11 := cb0 hx170_11 HB
             have HR170_2 := Aside0.mk hi170_2
             have HC170_2 := Aside0.mk hl170_2
             clear hi170_2 hl170_2
             have HR170_7 := Aside0.mk hi170_7
             have HC170_7 := Aside0.mk hl170_7
             clear hi170_7 hl170_7
             replace p170 := eq_true p170
             replace q170 := eq_true q170
             refine st 8 (an (cb hw170_0 HB) (an (cb hw170_1 HB) (an (cb hw170_2 HB) (an (cb hw170_3 HB) (an (cb hw170_4 HB) (an (cb hw170_5 HB) (an (cb hw170_6 HB) (an (cb hw170_7 HB) (an (cb hw170_8 HB) (an (cb hw170_9 HB) (an (cb hw170_10 HB) (cb hw170_11 HB)))))))))))) (fun hHeld => ?_); refine with_tabW laws_heldStreamS.tab28 laws_heldStreamS.bits28 (fun HT_ HW_ => ?_)
             generalize w23.drew = w27 at HB HR170_2 HR170_7 hx170_0 hx170_1 hx170_10 hx170_11 hx170_2 hx170_3 hx170_4 hx170_5 hx170_6 hx170_7 hx170_8 hx170_9 hHeld ⊢
             refine pu 0 (some 89) (bm 8 1) rfl rfl ?_
             refine pu 1 (some 90) (bm 8 3) rfl rfl ?_
             refine pu 2 (some 91) (bm 8 7) rfl rfl ?_
             refine pu 3 (some 92) (bm 8 15) rfl rfl ?_
             refine pu 5 (some 94) (bm 8 47) rfl rfl ?_
             refine tk 4 (some 93) (bm 8 63) rfl rfl hHeld ?_
             refine one_ (i := 6) (N := some 95) (bm 8 127) rfl rfl (one_of HT_.out (by kernel_rfl)) (by decide) (fun K hK => ?_)
             refine gs Try.func102 #[.int .i64 t169] ?_
             with_reducible refine (laws_markText.calls k1 t169 t171 _ A25.out).mono ?_
             rintro e w28 ⟨rfl, hb⟩
             refine ⟨_, rfl, ?_⟩
             replace HB := Aside0.mk (below_step (zb HB) hb)
             (try clear hb)
             refine hK.out _ _ (an (cb hw170_0 HB) (an (cb hw170_1 HB) (an (cb hw170_2 HB) (an (cb hw170_3 HB) (an (cb hw170_4 HB) (an (cb hw170_5 HB) (an (cb hw170_6 HB) (an (cb hw170_7 HB) (an (cb hw170_8 HB) (an (cb hw170_9 HB) (an (cb hw170_10 HB) (cb hw170_11 HB)))))))))))) (fun hHeld => ?_)
             clear hK K
             refine nm ?_
             refine pu 7 (some 96) (bm 8 255) rfl rfl ?_
             refine done_ (done_of HT_.out (by kernel_rfl)) ?_
             go_upto_if 96 with (fail)
             have H := HC26.out
             clear HC26
             by_cases c29 : ((rd_T104 l0 x5_1).f8).toList = t171.toList
             ·rw [if_pos c29] at H
              have c29b0 : (((rd_T104 l0 x5_1).f8).toList == t171.toList) = true := beq_iff_eq.mpr c29
              have c29b1 : (((rd_T104 l0 x5_1).f8).toList != t171.toList) = false := bne_eq_false_iff_eq.mpr c29
              clear c29
              (first | rw [c29b0] | rw [c29b1] | rw [c29b2] | (simp only [i64_w, i32_w]; rw [c29b0]) | skip)
              by_cases c30 : (((rd_T104 l0 x5_1).f9) != ((Int.tmod (wrap64 (t169 + 1)) 3) == 0)) = true
              ·rw [if_pos c30] at H
               have c30b0 : (((rd_T104 l0 x5_1).f9) != ((Int.tmod (wrap64 (t169 + 1)) 3) == 0)) = true := c30
               (try (have c30b1 : decide (((rd_T104 l0 x5_1).f9) = ((Int.tmod (wrap64 (t169 + 1)) 3) == 0)) = false := by simpa using c30))
               (try (have c30b2 : (((rd_T104 l0 x5_1).f9) == ((Int.tmod (wrap64 (t169 + 1)) 3) == 0)) = false := by simpa using c30))
               (try (have c30b3 : ¬ (((rd_T104 l0 x5_1).f9) = ((Int.tmod (wrap64 (t169 + 1)) 3) == 0)) := by simpa using c30))
               clear c30
               obtain rfl := Option.some.inj H
               have p172 : 0 ≤ (x5_1 : Int) := of_decide_eq_true za
               have q172 : x5_1 < (l0.length : Int) := of_decide_eq_true za
               try clear hHeld
               try clear hx159_2
               try clear hx159_7
               try clear hx160_2
               try clear hx160_7
               try clear hx161_2
               try clear hx161_7
               try clear hx163_2
               try clear hx163_7
               try clear hx165_2
               try clear hx165_7
               try clear hx166_2
               try clear hx166_7
               try clear hx167_2
               try clear hx167_7
               try clear hx168_2
               try clear hx168_7
               try clear hx170_2
               try clear hx170_7
               obtain ⟨ad172, A172_2, c172_2, A172_7, c172_7, e172, hx172_0, hx172_1, hx172_2, hx172_3, hx172_4, hx172_5, hx172_6, hx172_7, hx172_8, hx172_9, hx172_10, hx172_11, hl172_2, hi172_2, hl172_7, hi172_7⟩ := at_T104 HR0.out x5_1 p172 q172
               obtain rfl : ad159 = ad172 := (by injection e172)
               replace hx172_0 := cb0 hx172_0 HB
               replace hx172_1 := cb0 hx172_1 HB
               replace hx172_2 := cb0 hx172_2 HB
               replace hx172_3 := cb0 hx172_3 HB
               replace hx172_4 := cb0 hx172_4 HB
               replace hx172_5 := cb0 hx172_5 HB
               replace hx172_6 := cb0 hx172_6 HB
               replace hx172_7 := cb0 hx172_7 HB
               replace hx172_8 := cb0 hx172_8 HB
               replace hx172_9 := cb0 hx172_9 HB
               replace hx172_10 := cb0 hx172_10 HB
               replace hx172_11 := cb0 hx172_11 HB
               have HR172_2 := Aside0.mk hi172_2
               have HC172_2 := Aside0.mk hl172_2
               clear hi172_2 hl172_2
               have HR172_7 := Aside0.mk hi172_7
               have HC172_7 := Aside0.mk hl172_7
               clear hi172_7 hl172_7
               replace p172 := eq_true p172
               replace q172 := eq_true q172
               go_wp2
               go_ret
               exact ⟨ze, zb HB⟩
              ·rw [if_neg c30] at H
               have c30b0 : (((rd_T104 l0 x5_1).f9) != ((Int.tmod (wrap64 (t169 + 1)) 3) == 0)) = false := by simpa using c30
               (try (have c30b1 : decide (((rd_T104 l0 x5_1).f9) = ((Int.tmod (wrap64 (t169 + 1)) 3) == 0)) = true := by simpa using c30))
               (try (have c30b2 : (((rd_T104 l0 x5_1).f9) == ((Int.tmod (wrap64 (t169 + 1)) 3) == 0)) = true := by simpa using c30))
               clear c30
               have HC31 := Aside0.mk H
               clear H
               have p172 : 0 ≤ (x5_1 : Int) := of_decide_eq_true za
               have q172 : x5_1 < (l0.length : Int) := of_decide_eq_true za
               try clear hHeld
               try clear hx159_2
               try clear hx159_7
               try clear hx160_2
               try clear hx160_7
               try clear hx161_2
               try clear hx161_7
               try clear hx163_2
               try clear hx163_7
               try clear hx165_2
               try clear hx165_7
               try clear hx166_2
               try clear hx166_7
               try clear hx167_2
               try clear hx167_7
               try clear hx168_2
               try clear hx168_7
               try clear hx170_2
               try clear hx170_7
               obtain ⟨ad172, A172_2, c172_2, A172_7, c172_7, e172, hx172_0, hx172_1, hx172_2, hx172_3, hx172_4, hx172_5, hx172_6, hx172_7, hx172_8, hx172_9, hx172_10, hx172_11, hl172_2, hi172_2, hl172_7, hi172_7⟩ := at_T104 HR0.out x5_1 p172 q172
               obtain rfl : ad159 = ad172 := (by injection e172)
               replace hx172_0 := cb0 hx172_0 HB
               replace hx172_1 := cb0 hx172_1 HB
               replace hx172_2 := cb0 hx172_2 HB
               replace hx172_3 := cb0 hx172_3 HB
               replace hx172_4 := cb0 hx172_4 HB
               replace hx172_5 := cb0 hx172_5 HB
               replace hx172_6 := cb0 hx172_6 HB
               replace hx172_7 := cb0 hx172_7 HB
               replace hx172_8 := cb0 hx172_8 HB
               replace hx172_9 := cb0 hx172_9 HB
               replace hx172_10 := cb0 hx172_10 HB
               replace hx172_11 := cb0 hx172_11 HB
               have HR172_2 := Aside0.mk hi172_2
               have HC172_2 := Aside0.mk hl172_2
               clear hi172_2 hl172_2
               have HR172_7 := Aside0.mk hi172_7
               have HC172_7 := Aside0.mk hl172_7
               clear hi172_7 hl172_7
               replace p172 := eq_true p172
               replace q172 := eq_true q172
               have p173 : 0 ≤ (x5_1 : Int) := of_decide_eq_true za
               have q173 : x5_1 < (l0.length : Int) := of_decide_eq_true za
               try clear hHeld
               try clear hx159_2
               try clear hx159_7
               try clear hx160_2
               try clear hx160_7
               try clear hx161_2
               try clear hx161_7
               try clear hx163_2
               try clear hx163_7
               try clear hx165_2
               try clear hx165_7
               try clear hx166_2
               try clear hx166_7
               try clear hx167_2
               try clear hx167_7
               try clear hx168_2
               try clear hx168_7
               try clear hx170_2
               try clear hx170_7
               obtain ⟨ad173, A173_2, c173_2, A173_7, c173_7, e173, hx173_0, hx173_1, hx173_2, hx173_3, hx173_4, hx173_5, hx173_6, hx173_7, hx173_8, hx173_9, hx173_10, hx173_11, hl173_2, hi173_2, hl173_7, hi173_7⟩ := at_T104 HR0.out x5_1 p173 q173
               obtain rfl : ad159 = ad173 := (by injection e173)
               replace hx173_0 := cb0 hx173_0 HB
               replace hx173_1 := cb0 hx173_1 HB
               replace hx173_2 := cb0 hx173_2 HB
               replace hx173_3 := cb0 hx173_3 HB
               replace hx173_4 := cb0 hx173_4 HB
               replace hx173_5 := cb0 hx173_5 HB
               replace hx173_6 := cb0 hx173_6 HB
               replace hx173_7 := cb0 hx173_7 HB
               replace hx173_8 := cb0 hx173_8 HB
               replace hx173_9 := cb0 hx173_9 HB
               replace hx173_10 := cb0 hx173_10 HB
               replace hx173_11 := cb0 hx173_11 HB
               have HR173_2 := Aside0.mk hi173_2
               have HC173_2 := Aside0.mk hl173_2
               clear hi173_2 hl173_2
               have HR173_7 := Aside0.mk hi173_7
               have HC173_7 := Aside0.mk hl173_7
               clear hi173_7 hl173_7
               replace p173 := eq_true p173
               replace q173 := eq_true q173
               have ea_ := Option.some.inj (hx172_2.symm.trans hx173_2)
               injection ea_ with ea_ en_ ec_
               subst ea_
               subst ec_
               clear en_
               have ea_ := Option.some.inj (hx172_7.symm.trans hx173_7)
               injection ea_ with ea_ en_ ec_
               subst ea_
               subst ec_
               clear en_
               go_upto_if 117 with (fail)
               have H := HC31.out
               clear HC31
               by_cases c32 : ((rd_T104 l0 x5_1).f10.f0) = (wrap64 ((wrap64 (t169 + 1)) + 1))
               ·rw [if_pos c32] at H
                have c32b0 : (((rd_T104 l0 x5_1).f10.f0) == (wrap64 ((wrap64 (t169 + 1)) + 1))) = true := beq_iff_eq.mpr c32
                have c32b1 : (((rd_T104 l0 x5_1).f10.f0) != (wrap64 ((wrap64 (t169 + 1)) + 1))) = false := bne_eq_false_iff_eq.mpr c32
                clear c32
                (first | rw [c32b0] | rw [c32b1] | rw [c32b2] | (simp only [i64_w, i32_w]; rw [c32b0]) | skip)
                by_cases c33 : ((rd_T104 l0 x5_1).f10.f1) = (wrap64 ((wrap64 ((wrap64 (t169 + 1)) + 1)) + 1))
                ·rw [if_pos c33] at H
                 have c33b0 : (((rd_T104 l0 x5_1).f10.f1) == (wrap64 ((wrap64 ((wrap64 (t169 + 1)) + 1)) + 1))) = true := beq_iff_eq.mpr c33
                 have c33b1 : (((rd_T104 l0 x5_1).f10.f1) != (wrap64 ((wrap64 ((wrap64 (t169 + 1)) + 1)) + 1))) = false := bne_eq_false_iff_eq.mpr c33
                 clear c33
                 have H' := Aside0.mk H
                 clear H
                 have p174 : 0 ≤ (x5_1 : Int) := of_decide_eq_true za
                 have q174 : x5_1 < (l0.length : Int) := of_decide_eq_true za
                 try clear hHeld
                 try clear hx159_2
                 try clear hx159_7
                 try clear hx160_2
                 try clear hx160_7
                 try clear hx161_2
                 try clear hx161_7
                 try clear hx163_2
                 try clear hx163_7
                 try clear hx165_2
                 try clear hx165_7
                 try clear hx166_2
                 try clear hx166_7
                 try clear hx167_2
                 try clear hx167_7
                 try clear hx168_2
                 try clear hx168_7
                 try clear hx170_2
                 try clear hx170_7
                 try clear hx172_2
                 try clear hx172_7
                 try clear hx173_2
                 try clear hx173_7
                 obtain ⟨ad174, A174_2, c174_2, A174_7, c174_7, e174, hx174_0, hx174_1, hx174_2, hx174_3, hx174_4, hx174_5, hx174_6, hx174_7, hx174_8, hx174_9, hx174_10, hx174_11, hl174_2, hi174_2, hl174_7, hi174_7⟩ := at_T104 HR0.out x5_1 p174 q174
                 obtain rfl : ad159 = ad174 := (by injection e174)
                 replace hx174_0 := cb0 hx174_0 HB
                 replace hx174_1 := cb0 hx174_1 HB
                 replace hx174_2 := cb0 hx174_2 HB
                 replace hx174_3 := cb0 hx174_3 HB
                 replace hx174_4 := cb0 hx174_4 HB
                 replace hx174_5 := cb0 hx174_5 HB
                 replace hx174_6 := cb0 hx174_6 HB
                 replace hx174_7 := cb0 hx174_7 HB
                 replace hx174_8 := cb0 hx174_8 HB
                 replace hx174_9 := cb0 hx174_9 HB
                 replace hx174_10 := cb0 hx174_10 HB
                 replace hx174_11 := cb0 hx174_11 HB
                 have HR174_2 := Aside0.mk hi174_2
                 have HC174_2 := Aside0.mk hl174_2
                 clear hi174_2 hl174_2
                 have HR174_7 := Aside0.mk hi174_7
                 have HC174_7 := Aside0.mk hl174_7
                 clear hi174_7 hl174_7
                 replace p174 := eq_true p174
                 replace q174 := eq_true q174
                 go_wp2
                 go_roundg k1
                 case measure => have := HK1.out; omega
                 case rel => exact ⟨(wrap64 ((wrap64 ((wrap64 ((wrap64 (t169 + 1)) + 1)) + 1)) + 1)), (wrap64 (x5_1 + 1)), zs, zs, H', ⟨by have := HK1.out; omega⟩, ⟨zb HB⟩⟩
                ·rw [if_neg c33] at H
                 have c33b0 : (((rd_T104 l0 x5_1).f10.f1) == (wrap64 ((wrap64 ((wrap64 (t169 + 1)) + 1)) + 1))) = false := beq_eq_false_iff_ne.mpr c33
                 have c33b1 : (((rd_T104 l0 x5_1).f10.f1) != (wrap64 ((wrap64 ((wrap64 (t169 + 1)) + 1)) + 1))) = true := bne_iff_ne.mpr c33
                 obtain rfl := Option.some.inj H
                 have p174 : 0 ≤ (x5_1 : Int) := of_decide_eq_true za
                 have q174 : x5_1 < (l0.length : Int) := of_decide_eq_true za
                 try clear hHeld
                 try clear hx159_2
                 try clear hx159_7
                 try clear hx160_2
                 try clear hx160_7
                 try clear hx161_2
                 try clear hx161_7
                 try clear hx163_2
                 try clear hx163_7
                 try clear hx165_2
                 try clear hx165_7
                 try clear hx166_2
                 try clear hx166_7
                 try clear hx167_2
                 try clear hx167_7
                 try clear hx168_2
                 try clear hx168_7
                 try clear hx170_2
                 try clear hx170_7
                 try clear hx172_2
                 try clear hx172_7
                 try clear hx173_2
                 try clear hx173_7
                 obtain ⟨ad174, A174_2, c174_2, A174_7, c174_7, e174, hx174_0, hx174_1, hx174_2, hx174_3, hx174_4, hx174_5, hx174_6, hx174_7, hx174_8, hx174_9, hx174_10, hx174_11, hl174_2, hi174_2, hl174_7, hi174_7⟩ := at_T104 HR0.out x5_1 p174 q174
                 obtain rfl : ad159 = ad174 := (by injection e174)
                 replace hx174_0 := cb0 hx174_0 HB
                 replace hx174_1 := cb0 hx174_1 HB
                 replace hx174_2 := cb0 hx174_2 HB
                 replace hx174_3 := cb0 hx174_3 HB
                 replace hx174_4 := cb0 hx174_4 HB
                 replace hx174_5 := cb0 hx174_5 HB
                 replace hx174_6 := cb0 hx174_6 HB
                 replace hx174_7 := cb0 hx174_7 HB
                 replace hx174_8 := cb0 hx174_8 HB
                 replace hx174_9 := cb0 hx174_9 HB
                 replace hx174_10 := cb0 hx174_10 HB
                 replace hx174_11 := cb0 hx174_11 HB
                 have HR174_2 := Aside0.mk hi174_2
                 have HC174_2 := Aside0.mk hl174_2
                 clear hi174_2 hl174_2
                 have HR174_7 := Aside0.mk hi174_7
                 have HC174_7 := Aside0.mk hl174_7
                 clear hi174_7 hl174_7
                 replace p174 := eq_true p174
                 replace q174 := eq_true q174
                 go_wp2
                 go_ret
                 exact ⟨ze, zb HB⟩
               ·rw [if_neg c32] at H
                have c32b0 : (((rd_T104 l0 x5_1).f10.f0) == (wrap64 ((wrap64 (t169 + 1)) + 1))) = false := beq_eq_false_iff_ne.mpr c32
                have c32b1 : (((rd_T104 l0 x5_1).f10.f0) != (wrap64 ((wrap64 (t169 + 1)) + 1))) = true := bne_iff_ne.mpr c32
                (first | rw [c32b0] | rw [c32b1] | rw [c32b2] | (simp only [i64_w, i32_w]; rw [c32b0]) | skip)
                obtain rfl := Option.some.inj H
                go_wp2
                go_ret
                exact ⟨ze, zb HB⟩
             ·rw [if_neg c29] at H
              have c29b0 : (((rd_T104 l0 x5_1).f8).toList == t171.toList) = false := beq_eq_false_iff_ne.mpr c29
              have c29b1 : (((rd_T104 l0 x5_1).f8).toList != t171.toList) = true := bne_iff_ne.mpr c29
              (first | rw [c29b0] | rw [c29b1] | rw [c29b2] | (simp only [i64_w, i32_w]; rw [c29b0]) | skip)
              obtain rfl := Option.some.inj H
              go_wp2
              go_ret
              exact ⟨ze, zb HB⟩
           ·rw [if_neg c20] at H
            have c20b0 : (((rd_T104 l0 x5_1).f6) == (wrap64 ((wrap64 ((wrap64 (t162 + 1)) + 1)) + 1))) = false := beq_eq_false_iff_ne.mpr c20
            have c20b1 : (((rd_T104 l0 x5_1).f6) != (wrap64 ((wrap64 ((wrap64 (t162 + 1)) + 1)) + 1))) = true := bne_iff_ne.mpr c20
            obtain rfl := Option.some.inj H
            have p167 : 0 ≤ (x5_1 : Int) := of_decide_eq_true za
            have q167 : x5_1 < (l0.length : Int) := of_decide_eq_true za
            try clear hHeld
            try clear hx159_2
            try clear hx159_7
            try clear hx160_2
            try clear hx160_7
            try clear hx161_2
            try clear hx161_7
            try clear hx163_2
            try clear hx163_7
            try clear hx165_2
            try clear hx165_7
            try clear hx166_2
            try clear hx166_7
            try clear hx168_2
            try clear hx168_7
            try clear hx170_2
            try clear hx170_7
            try clear hx172_2
            try clear hx172_7
            try clear hx173_2
            try clear hx173_7
            obtain ⟨ad167, A167_2, c167_2, A167_7, c167_7, e167, hx167_0, hx167_1, hx167_2, hx167_3, hx167_4, hx167_5, hx167_6, hx167_7, hx167_8, hx167_9, hx167_10, hx167_11, hl167_2, hi167_2, hl167_7, hi167_7⟩ := at_T104 HR0.out x5_1 p167 q167
            obtain rfl : ad159 = ad167 := (by injection e167)
            replace hx167_0 := cb0 hx167_0 HB
            replace hx167_1 := cb0 hx167_1 HB
            replace hx167_2 := cb0 hx167_2 HB
            replace hx167_3 := cb0 hx167_3 HB
            replace hx167_4 := cb0 hx167_4 HB
            replace hx167_5 := cb0 hx167_5 HB
            replace hx167_6 := cb0 hx167_6 HB
            replace hx167_7 := cb0 hx167_7 HB
            replace hx167_8 := cb0 hx167_8 HB
            replace hx167_9 := cb0 hx167_9 HB
            replace hx167_10 := cb0 hx167_10 HB
            replace hx167_11 := cb0 hx167_11 HB
            have HR167_2 := Aside0.mk hi167_2
            have HC167_2 := Aside0.mk hl167_2
            clear hi167_2 hl167_2
            have HR167_7 := Aside0.mk hi167_7
            have HC167_7 := Aside0.mk hl167_7
            clear hi167_7 hl167_7
            replace p167 := eq_true p167
            replace q167 := eq_true q167
            go_wp2
            go_ret
            exact ⟨ze, zb HB⟩
        ·rw [if_neg c16] at H
         have c16b0 : (((rd_T104 l0 x5_1).f3).toList == t164.toList) = false := beq_eq_false_iff_ne.mpr c16
         have c16b1 : (((rd_T104 l0 x5_1).f3).toList != t164.toList) = true := bne_iff_ne.mpr c16
         (first | rw [c16b0] | rw [c16b1] | rw [c16b2] | (simp only [i64_w, i32_w]; rw [c16b0]) | skip)
         obtain rfl := Option.some.inj H
         go_wp2
         go_ret
         exact ⟨ze, zb HB⟩
      ·rw [if_neg c7] at H
       have c7b0 : (((rd_T104 l0 x5_1).f1) == (wrap64 (x1_1 + 1))) = false := beq_eq_false_iff_ne.mpr c7
       have c7b1 : (((rd_T104 l0 x5_1).f1) != (wrap64 (x1_1 + 1))) = true := bne_iff_ne.mpr c7
       (first | rw [c7b0] | rw [c7b1] | rw [c7b2] | (simp only [i64_w, i32_w]; rw [c7b0]) | skip)
       obtain rfl := Option.some.inj H
       go_wp2
       go_ret
       exact ⟨ze, zb HB⟩
     ·rw [if_neg c5] at H
      have c5b0 : (((rd_T104 l0 x5_1).f0) == x1_1) = false := beq_eq_false_iff_ne.mpr c5
      have c5b1 : (((rd_T104 l0 x5_1).f0) != x1_1) = true := bne_iff_ne.mpr c5
      obtain rfl := Option.some.inj H
      have p159 : 0 ≤ (x5_1 : Int) := of_decide_eq_true za
      have q159 : x5_1 < (l0.length : Int) := of_decide_eq_true za
      try clear hHeld
      try clear hx160_2
      try clear hx160_7
      try clear hx161_2
      try clear hx161_7
      try clear hx163_2
      try clear hx163_7
      try clear hx165_2
      try clear hx165_7
      try clear hx166_2
      try clear hx166_7
      try clear hx167_2
      try clear hx167_7
      try clear hx168_2
      try clear hx168_7
      try clear hx170_2
      try clear hx170_7
      try clear hx172_2
      try clear hx172_7
      try clear hx173_2
      try clear hx173_7
      obtain ⟨ad159, A159_2, c159_2, A159_7, c159_7, e159, hx159_0, hx159_1, hx159_2, hx159_3, hx159_4, hx159_5, hx159_6, hx159_7, hx159_8, hx159_9, hx159_10, hx159_11, hl159_2, hi159_2, hl159_7, hi159_7⟩ := at_T104 HR0.out x5_1 p159 q159
      cases e159
      replace hx159_0 := cb0 hx159_0 HB
      replace hx159_1 := cb0 hx159_1 HB
      replace hx159_2 := cb0 hx159_2 HB
      replace hx159_3 := cb0 hx159_3 HB
      replace hx159_4 := cb0 hx159_4 HB
      replace hx159_5 := cb0 hx159_5 HB
      replace hx159_6 := cb0 hx159_6 HB
      replace hx159_7 := cb0 hx159_7 HB
      replace hx159_8 := cb0 hx159_8 HB
      replace hx159_9 := cb0 hx159_9 HB
      replace hx159_10 := cb0 hx159_10 HB
      replace hx159_11 := cb0 hx159_11 HB
      have HR159_2 := Aside0.mk hi159_2
      have HC159_2 := Aside0.mk hl159_2
      clear hi159_2 hl159_2
      have HR159_7 := Aside0.mk hi159_7
      have HC159_7 := Aside0.mk hl159_7
      clear hi159_7 hl159_7
      replace p159 := eq_true p159
      replace q159 := eq_true q159
      go_wp2
      go_ret
      exact ⟨ze, zb HB⟩
    ·rw [if_neg c4] at H
     exact absurd H (by simp)
   ·skip
    have c3b0 := decide_eq_false c3
    clear c3
    obtain rfl := Option.some.inj H
    go_wp2
    go_ret
    exact ⟨ze, zb HB⟩

end Go.Proofs.Ytlpibelofcabhaa.PFnExactEndLeave
