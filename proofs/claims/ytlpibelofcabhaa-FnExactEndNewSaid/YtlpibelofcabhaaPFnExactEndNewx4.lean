-- WRITTEN BY a turned print (wip/tools of the prover's repo)
import Derived.Test.YtlpibelofcabhaaPFnExactEndNewx0
import Derived.Test.YtlpibelofcabhaaPFnExactEndNewx2
import Derived.Test.YtlpibelofcabhaaPFnExactEndNewx3
namespace Go.Proofs.Ytlpibelofcabhaa.PFnExactEndNew
open Go.RowKit Go.Proofs.YtlpibelofcabhaaW.PrintWords Go.Proofs.YtlpibelofcabhaaW.PrintLast Go.Proofs.YtlpibelofcabhaaW.PrintMore Go.Proofs.Ytlpibelofcabhaa.Lm
attribute [local go_sem] max2_int min2_int max_two min_two max_three min_three max_four min_four   -- for this text's walks alone
set_option linter.unusedVariables false
set_option linter.unusedSimpArgs false

/-! ### laws_heldStreamS: function 73 -/
-- thin
def laws_heldStreamS.l0 : Nat → List (S104) → Int → Int → Option (Int)
 | 0, _, _, _ => none
 | k + 1, x0, x1, x5 => if x5 < (x0.length : Int) then (if 0 ≤ x5 then (if ((rd_T104 x0 x5).f0) = x1 then (if ((rd_T104 x0 x5).f1) = (wrap64 (x1 + 1)) then ((laws_heldFieldS.f k ((rd_T104 x0 x5).f2) (wrap64 ((wrap64 (x1 + 1)) + 1))).bind fun t190 => (if t190 < 0 then (some (-1)) else ((laws_markText.f k t190).bind fun t192 => (if ((rd_T104 x0 x5).f3).toList = t192.toList then (if (((rd_T104 x0 x5).f4) != ((Int.tmod (wrap64 (t190 + 1)) 3) == 0)) = true then (some (-1)) else (if (((rd_T104 x0 x5).f5) != ((Int.tmod (wrap64 ((wrap64 (t190 + 1)) + 1)) 3) == 0)) = true then (some (-1)) else (if ((rd_T104 x0 x5).f6) = (wrap64 ((wrap64 ((wrap64 (t190 + 1)) + 1)) + 1)) then ((laws_heldFieldS.f k ((rd_T104 x0 x5).f7) (wrap64 ((wrap64 ((wrap64 ((wrap64 (t190 + 1)) + 1)) + 1)) + 1))).bind fun t197 => (if t197 < 0 then (some (-1)) else ((laws_markText.f k t197).bind fun t199 => (if ((rd_T104 x0 x5).f8).toList = t199.toList then (if (((rd_T104 x0 x5).f9) != ((Int.tmod (wrap64 (t197 + 1)) 3) == 0)) = true then (some (-1)) else (if ((rd_T104 x0 x5).f10.f0) = (wrap64 ((wrap64 (t197 + 1)) + 1)) then (if ((rd_T104 x0 x5).f10.f1) = (wrap64 ((wrap64 ((wrap64 (t197 + 1)) + 1)) + 1)) then (laws_heldStreamS.l0 k x0 (wrap64 ((wrap64 ((wrap64 ((wrap64 (t197 + 1)) + 1)) + 1)) + 1)) (wrap64 (x5 + 1))) else (some (-1))) else (some (-1)))) else (some (-1)))))) else (some (-1))))) else (some (-1)))))) else (some (-1))) else (some (-1))) else (none)) else (some x1)
def laws_heldStreamS.f (k : Nat) (l0 : List (S104)) (a1 : Int) : Option (Int) := laws_heldStreamS.l0 k l0 a1 0
theorem laws_heldStreamS.mono_l : ∀ k, (∀ y0 y1 y2, LeO (laws_heldStreamS.l0 k y0 y1 y2) (laws_heldStreamS.l0 (k + 1) y0 y1 y2))
 | 0 => fun _ _ _ r h => by simp [laws_heldStreamS.l0] at h
 | k + 1 => by
  have ih0 := laws_heldStreamS.mono_l k
  ·intro y0 y1 y2
   unfold laws_heldStreamS.l0
   have m0 := @laws_heldFieldS.mono
   have m1 := @laws_markText.mono
   exact zm
theorem laws_heldStreamS.mono : ∀ a0 a1 k, LeO (laws_heldStreamS.f k a0 a1) (laws_heldStreamS.f (k + 1) a0 a1) := by
 intro a0 a1 k
 have ih0 := laws_heldStreamS.mono_l k
 unfold laws_heldStreamS.f
 have m0 := @laws_heldFieldS.mono
 have m1 := @laws_markText.mono
 exact zm
def laws_heldStreamS.T13 : Bool × List (List Nat × List Nat) := (true, [([], []), ([], []), ([0, 1], [0, 1]), ([2], [2]), ([3], [3]), ([], []), ([5], [5]), ([4, 6], [4, 6])])
def laws_heldStreamS.B13 : List Nat := [0, 0, 3, 7, 15, 0, 32, 127]
theorem laws_heldStreamS.tab13 : rtab .any (opsOf Try.f73 13) = laws_heldStreamS.T13 := by kernel_rfl
theorem laws_heldStreamS.bits13 : waitsOk laws_heldStreamS.T13.2 laws_heldStreamS.B13 = true := by kernel_rfl
def laws_heldStreamS.T28 : Bool × List (List Nat × List Nat) := (true, [([], []), ([], []), ([0, 1], [0, 1]), ([2], [2]), ([3], [3]), ([], []), ([5], [5]), ([4, 6], [4, 6])])
def laws_heldStreamS.B28 : List Nat := [0, 0, 3, 7, 15, 0, 32, 127]
theorem laws_heldStreamS.tab28 : rtab .any (opsOf Try.f73 28) = laws_heldStreamS.T28 := by kernel_rfl
theorem laws_heldStreamS.bits28 : waitsOk laws_heldStreamS.T28.2 laws_heldStreamS.B28 = true := by kernel_rfl
set_option maxHeartbeats 8000000 in
set_option maxRecDepth 100000 in
theorem laws_heldStreamS.calls (k : Nat) (A0 : Option Addr) (c0 : Nat) (l0 : List (S104)) (a1 : Int) (r : Int) (w : World) (hr0 : Kd.C k104 w A0 l0.length l0) (hc0 : l0.length ≤ c0) (h : laws_heldStreamS.f k l0 a1 = some r) :
  Calls Try.prog 73 #[.slice A0 l0.length c0, .int .i64 a1] w fun e w' => e = .returned (.int .i64 r) ∧ Below w.heap.size w w' := by
 have HR0 := Aside0.mk hr0
 have HC0 := Aside0.mk hc0
 clear hr0 hc0
 have HB := Aside0.mk (Below.refl w.heap.size w)
 have H : (laws_heldStreamS.l0 k l0 a1 0) = some r := h
 clear h
 have H' := Aside0.mk H
 clear H
 go_enter Try.func73, Try.ntmps73
 go_wp2
 go_loopg [1, 5] k (fun kq v1 v5 w' => ∃ (x1_1 : Int) (x5_1 : Int), v1 = .int .i64 x1_1 ∧ v5 = .int .i64 x5_1 ∧ Aside0 (laws_heldStreamS.l0 kq l0 x1_1 x5_1 = some r) ∧ Aside0 (kq ≤ k) ∧ Aside0 (Below w.heap.size w w'))
 case atStart => exact ⟨(a1), (0), zs, zs, H', ⟨Nat.le_refl _⟩, ⟨zb HB⟩⟩
 case round =>
  clear H'
  try clear p2
  obtain ⟨x1_1, x5_1, rfl, rfl, HA, HK1, HB⟩ := hrel
  cases gk with
  | zero => exact absurd HA.out (by simp [laws_heldStreamS.l0])
  | succ k1 =>
   have H := HA.out
   clear HA
   simp only [laws_heldStreamS.l0] at H
   replace H := sp H
   rcases H with ⟨c3, H⟩ | ⟨c3, H⟩
   ·skip
    have c3b0 := decide_eq_true c3
    clear c3
    by_cases c4 : 0 ≤ x5_1
    ·rw [if_pos c4] at H
     have c4b0 := decide_eq_true c4
     clear c4
     by_cases c5 : ((rd_T104 l0 x5_1).f0) = x1_1
     ·rw [if_pos c5] at H
      have c5b0 : (((rd_T104 l0 x5_1).f0) == x1_1) = true := beq_iff_eq.mpr c5
      have c5b1 : (((rd_T104 l0 x5_1).f0) != x1_1) = false := bne_eq_false_iff_eq.mpr c5
      clear c5
      have HC6 := Aside0.mk H
      clear H
      have p187 : 0 ≤ (x5_1 : Int) := of_decide_eq_true za
      have q187 : x5_1 < (l0.length : Int) := of_decide_eq_true za
      obtain ⟨ad187, A187_2, c187_2, A187_7, c187_7, e187, hx187_0, hx187_1, hx187_2, hx187_3, hx187_4, hx187_5, hx187_6, hx187_7, hx187_8, hx187_9, hx187_10, hx187_11, hl187_2, hi187_2, hl187_7, hi187_7⟩ := at_T104 HR0.out x5_1 p187 q187
      cases e187
      replace hx187_0 := cb0 hx187_0 HB
      replace hx187_1 := cb0 hx187_1 HB
      replace hx187_2 := cb0 hx187_2 HB
      replace hx187_3 := cb0 hx187_3 HB
      replace hx187_4 := cb0 hx187_4 HB
      replace hx187_5 := cb0 hx187_5 HB
      replace hx187_6 := cb0 hx187_6 HB
      replace hx187_7 := cb0 hx187_7 HB
      replace hx187_8 := cb0 hx187_8 HB
      replace hx187_9 := cb0 hx187_9 HB
      replace hx187_10 := cb0 hx187_10 HB
      replace hx187_11 := cb0 hx187_11 HB
      have HR187_2 := Aside0.mk hi187_2
      have HC187_2 := Aside0.mk hl187_2
      clear hi187_2 hl187_2
      have HR187_7 := Aside0.mk hi187_7
      have HC187_7 := Aside0.mk hl187_7
      clear hi187_7 hl187_7
      replace p187 := eq_true p187
      replace q187 := eq_true q187
      have p188 : 0 ≤ (x5_1 : Int) := of_decide_eq_true za
      have q188 : x5_1 < (l0.length : Int) := of_decide_eq_true za
      obtain ⟨ad188, A188_2, c188_2, A188_7, c188_7, e188, hx188_0, hx188_1, hx188_2, hx188_3, hx188_4, hx188_5, hx188_6, hx188_7, hx188_8, hx188_9, hx188_10, hx188_11, hl188_2, hi188_2, hl188_7, hi188_7⟩ := at_T104 HR0.out x5_1 p188 q188
      obtain rfl : ad187 = ad188 := (by injection e188)
      replace hx188_0 := cb0 hx188_0 HB
      replace hx188_1 := cb0 hx188_1 HB
      replace hx188_2 := cb0 hx188_2 HB
      replace hx188_3 := cb0 hx188_3 HB
      replace hx188_4 := cb0 hx188_4 HB
      replace hx188_5 := cb0 hx188_5 HB
      replace hx188_6 := cb0 hx188_6 HB
      replace hx188_7 := cb0 hx188_7 HB
      replace hx188_8 := cb0 hx188_8 HB
      replace hx188_9 := cb0 hx188_9 HB
      replace hx188_10 := cb0 hx188_10 HB
      replace hx188_11 := cb0 hx188_11 HB
      have HR188_2 := Aside0.mk hi188_2
      have HC188_2 := Aside0.mk hl188_2
      clear hi188_2 hl188_2
      have HR188_7 := Aside0.mk hi188_7
      have HC188_7 := Aside0.mk hl188_7
      clear hi188_7 hl188_7
      replace p188 := eq_true p188
      replace q188 := eq_true q188
      have ea_ := Option.some.inj (hx187_2.symm.trans hx188_2)
      injection ea_ with ea_ en_ ec_
      subst ea_
      subst ec_
      clear en_
      have ea_ := Option.some.inj (hx187_7.symm.trans hx188_7)
      injection ea_ with ea_ en_ ec_
      subst ea_
      subst ec_
      clear en_
      go_upto_if 27 with (fail)
      have H := HC6.out
      clear HC6
      by_cases c7 : ((rd_T104 l0 x5_1).f1) = (wrap64 (x1_1 + 1))
      ·rw [if_pos c7] at H
       have c7b0 : (((rd_T104 l0 x5_1).f1) == (wrap64 (x1_1 + 1))) = true := beq_iff_eq.mpr c7
       have c7b1 : (((rd_T104 l0 x5_1).f1) != (wrap64 (x1_1 + 1))) = false := bne_eq_false_iff_eq.mpr c7
       clear c7
       (first | rw [c7b0] | rw [c7b1] | rw [c7b2] | (simp only [i64_w, i32_w]; rw [c7b0]) | skip)
       obtain ⟨t190, A8, H⟩ := ob H
       (try dsimp only at H)
       have HC9 := Aside0.mk H
       clear H
       have p189 : 0 ≤ (x5_1 : Int) := of_decide_eq_true za
       have q189 : x5_1 < (l0.length : Int) := of_decide_eq_true za
       try clear hx187_2
       try clear hx187_7
       try clear hx188_2
       try clear hx188_7
       obtain ⟨ad189, A189_2, c189_2, A189_7, c189_7, e189, hx189_0, hx189_1, hx189_2, hx189_3, hx189_4, hx189_5, hx189_6, hx189_7, hx189_8, hx189_9, hx189_10, hx189_11, hl189_2, hi189_2, hl189_7, hi189_7⟩ := at_T104 HR0.out x5_1 p189 q189
       obtain rfl : ad187 = ad189 := (by injection e189)
       replace hx189_0 := cb0 hx189_0 HB
       replace hx189_1 := cb0 hx189_1 HB
       replace hx189_2 := cb0 hx189_2 HB
       replace hx189_3 := cb0 hx189_3 HB
       replace hx189_4 := cb0 hx189_4 HB
       replace hx189_5 := cb0 hx189_5 HB
       replace hx189_6 := cb0 hx189_6 HB
       replace hx189_7 := cb0 hx189_7 HB
       replace hx189_8 := cb0 hx189_8 HB
       replace hx189_9 := cb0 hx189_9 HB
       replace hx189_10 := cb0 hx189_10 HB
       replace hx189_11 := cb0 hx189_11 HB
       have HR189_2 := Aside0.mk hi189_2
       have HC189_2 := Aside0.mk hl189_2
       clear hi189_2 hl189_2
       have HR189_7 := Aside0.mk hi189_7
       have HC189_7 := Aside0.mk hl189_7
       clear hi189_7 hl189_7
       replace p189 := eq_true p189
       replace q189 := eq_true q189
       go_upto_if 38 with (first | ((with_reducible refine gq 126 rfl ?_); refine gl (some 36) Try.func126 #[.slice A189_2 ((rd_T104 l0 x5_1).f2).length c189_2, .int .i64 (wrap64 ((wrap64 (x1_1 + 1)) + 1))] ?_; (with_reducible refine (laws_heldFieldS.calls k1 _ _ ((rd_T104 l0 x5_1).f2) (wrap64 ((wrap64 (x1_1 + 1)) + 1)) t190 _ ?side1 ?side2 A8.out).mono ?_); (case side1 => exact zc (Kd.C_below HR189_2.out HB.out)); (case side2 => exact HC189_2.out); rintro e w10 ⟨rfl, hb⟩; refine ⟨_, rfl, ?_⟩; replace HB := Aside0.mk (below_step (zb HB) hb); (try clear hb)))
       (try simp only [Act.put, s1, s2, s3])
       have H := HC9.out
       clear HC9
       by_cases c11 : t190 < 0
       ·rw [if_pos c11] at H
        have c11b0 := decide_eq_true c11
        clear c11
        (first | rw [c11b0] | rw [c11b1] | rw [c11b2] | (simp only [i64_w, i32_w]; rw [c11b0]) | skip)
        obtain rfl := Option.some.inj H
        go_wp2
        go_ret
        exact ⟨ze, zb HB⟩
       ·rw [if_neg c11] at H
        have c11b0 := decide_eq_false c11
        clear c11
        (first | rw [c11b0] | rw [c11b1] | rw [c11b2] | (simp only [i64_w, i32_w]; rw [c11b0]) | skip)
        obtain ⟨t192, A12, H⟩ := ob H
        (try dsimp only at H)
        have HC13 := Aside0.mk H
        clear H
        try go_wp2
        replace HB := Aside0.mk (below_drew1 HB.out)
        have p191 : 0 ≤ (x5_1 : Int) := of_decide_eq_true za
        have q191 : x5_1 < (l0.length : Int) := of_decide_eq_true za
        try clear hx187_2
        try clear hx187_7
        try clear hx188_2
        try clear hx188_7
        try clear hx189_2
        try clear hx189_7
        obtain ⟨ad191, A191_2, c191_2, A191_7, c191_7, e191, hx191_0, hx191_1, hx191_2, hx191_3, hx191_4, hx191_5, hx191_6, hx191_7, hx191_8, hx191_9, hx191_10, hx191_11, hl191_2, hi191_2, hl191_7, hi191_7⟩ := at_T104 HR0.out x5_1 p191 q191
        have hw191_11 := hx191_11
        have hw191_10 := hx191_10
        have hw191_9 := hx191_9
        have hw191_8 := hx191_8
        have hw191_7 := hx191_7
        have hw191_6 := hx191_6
        have hw191_5 := hx191_5
        have hw191_4 := hx191_4
        have hw191_3 := hx191_3
        have hw191_2 := hx191_2
        have hw191_1 := hx191_1
        have hw191_0 := hx191_0
        obtain rfl : ad187 = ad191 := (by injection e191)
        replace hx191_0 := cb0 hx191_0 HB
        replace hx191_1 := cb0 hx191_1 HB
        replace hx191_2 := cb0 hx191_2 HB
        replace hx191_3 := cb0 hx191_3 HB
        replace hx191_4 := cb0 hx191_4 HB
        replace hx191_5 := cb0 hx191_5 HB
        replace hx191_6 := cb0 hx191_6 HB
        replace hx191_7 := cb0 hx191_7 HB
        replace hx191_8 := cb0 hx191_8 HB
        replace hx191_9 := cb0 hx191_9 HB
        replace hx191_10 := cb0 hx191_10 HB
        replace hx191_11 := cb0 hx191_11 HB
        have HR191_2 := Aside0.mk hi191_2
        have HC191_2 := Aside0.mk hl191_2
        clear hi191_2 hl191_2
        have HR191_7 := Aside0.mk hi191_7
        have HC191_7 := Aside0.mk hl191_7
        clear hi191_7 hl191_7
        replace p191 := eq_true p191
        replace q191 := eq_true q191
        refine st 8 (an (cb hw191_0 HB) (an (cb hw191_1 HB) (an (cb hw191_2 HB) (an (cb hw191_3 HB) (an (cb hw191_4 HB) (an (cb hw191_5 HB) (an (cb hw191_6 HB) (an (cb hw191_7 HB) (an (cb hw191_8 HB) (an (cb hw191_9 HB) (an (cb hw191_10 HB) (cb hw191_11 HB)))))))))))) (fun hHeld => ?_); refine with_tabW laws_heldStreamS.tab13 laws_heldStreamS.bits13 (fun HT_ HW_ => ?_)
        generalize w10.drew = w14 at HB HR191_2 HR191_7 hx191_0 hx191_1 hx191_10 hx191_11 hx191_2 hx191_3 hx191_4 hx191_5 hx191_6 hx191_7 hx191_8 hx191_9 hHeld ⊢
        refine pu 0 (some 39) (bm 8 1) rfl rfl ?_
        refine pu 1 (some 40) (bm 8 3) rfl rfl ?_
        refine pu 2 (some 41) (bm 8 7) rfl rfl ?_
        refine pu 3 (some 42) (bm 8 15) rfl rfl ?_
        refine pu 5 (some 44) (bm 8 47) rfl rfl ?_
        refine tk 4 (some 43) (bm 8 63) rfl rfl hHeld ?_
        refine one_ (i := 6) (N := some 45) (bm 8 127) rfl rfl (one_of HT_.out (by kernel_rfl)) (by decide) (fun K hK => ?_)
        refine gs Try.func102 #[.int .i64 t190] ?_
        with_reducible refine (laws_markText.calls k1 t190 t192 _ A12.out).mono ?_
        rintro e w15 ⟨rfl, hb⟩
        refine ⟨_, rfl, ?_⟩
        replace HB := Aside0.mk (below_step (zb HB) hb)
        (try clear hb)
        refine hK.out _ _ (an (cb hw191_0 HB) (an (cb hw191_1 HB) (an (cb hw191_2 HB) (an (cb hw191_3 HB) (an (cb hw191_4 HB) (an (cb hw191_5 HB) (an (cb hw191_6 HB) (an (cb hw191_7 HB) (an (cb hw191_8 HB) (an (cb hw191_9 HB) (an (cb hw191_10 HB) (cb hw191_11 HB)))))))))))) (fun hHeld => ?_)
        clear hK K
        refine nm ?_
        refine pu 7 (some 46) (bm 8 255) rfl rfl ?_
        refine done_ (done_of HT_.out (by kernel_rfl)) ?_
        go_upto_if 46 with (fail)
        have H := HC13.out
        clear HC13
        by_cases c16 : ((rd_T104 l0 x5_1).f3).toList = t192.toList
        ·rw [if_pos c16] at H
         have c16b0 : (((rd_T104 l0 x5_1).f3).toList == t192.toList) = true := beq_iff_eq.mpr c16
         have c16b1 : (((rd_T104 l0 x5_1).f3).toList != t192.toList) = false := bne_eq_false_iff_eq.mpr c16
         clear c16
         (first | rw [c16b0] | rw [c16b1] | rw [c16b2] | (simp only [i64_w, i32_w]; rw [c16b0]) | skip)
         by_cases c17 : (((rd_T104 l0 x5_1).f4) != ((Int.tmod (wrap64 (t190 + 1)) 3) == 0)) = true
         ·rw [if_pos c17] at H
          have c17b0 : (((rd_T104 l0 x5_1).f4) != ((Int.tmod (wrap64 (t190 + 1)) 3) == 0)) = true := c17
          (try (have c17b1 : decide (((rd_T104 l0 x5_1).f4) = ((Int.tmod (wrap64 (t190 + 1)) 3) == 0)) = false := by simpa using c17))
          (try (have c17b2 : (((rd_T104 l0 x5_1).f4) == ((Int.tmod (wrap64 (t190 + 1)) 3) == 0)) = false := by simpa using c17))
          (try (have c17b3 : ¬ (((rd_T104 l0 x5_1).f4) = ((Int.tmod (wrap64 (t190 + 1)) 3) == 0)) := by simpa using c17))
          clear c17
          obtain rfl := Option.some.inj H
          have p193 : 0 ≤ (x5_1 : Int) := of_decide_eq_true za
          have q193 : x5_1 < (l0.length : Int) := of_decide_eq_true za
          try clear hHeld
          try clear hx187_2
          try clear hx187_7
          try clear hx188_2
          try clear hx188_7
          try clear hx189_2
          try clear hx189_7
          try clear hx191_2
          try clear hx191_7
          obtain ⟨ad193, A193_2, c193_2, A193_7, c193_7, e193, hx193_0, hx193_1, hx193_2, hx193_3, hx193_4, hx193_5, hx193_6, hx193_7, hx193_8, hx193_9, hx193_10, hx193_11, hl193_2, hi193_2, hl193_7, hi193_7⟩ := at_T104 HR0.out x5_1 p193 q193
          obtain rfl : ad187 = ad193 := (by injection e193)
          replace hx193_0 := cb0 hx193_0 HB
          replace hx193_1 := cb0 hx193_1 HB
          replace hx193_2 := cb0 hx193_2 HB
          replace hx193_3 := cb0 hx193_3 HB
          replace hx193_4 := cb0 hx193_4 HB
          replace hx193_5 := cb0 hx193_5 HB
          replace hx193_6 := cb0 hx193_6 HB
          replace hx193_7 := cb0 hx193_7 HB
          replace hx193_8 := cb0 hx193_8 HB
          replace hx193_9 := cb0 hx193_9 HB
          replace hx193_10 := cb0 hx193_10 HB
          replace hx193_11 := cb0 hx193_11 HB
          have HR193_2 := Aside0.mk hi193_2
          have HC193_2 := Aside0.mk hl193_2
          clear hi193_2 hl193_2
          have HR193_7 := Aside0.mk hi193_7
          have HC193_7 := Aside0.mk hl193_7
          clear hi193_7 hl193_7
          replace p193 := eq_true p193
          replace q193 := eq_true q193
          go_wp2
          go_ret
          exact ⟨ze, zb HB⟩
         ·rw [if_neg c17] at H
          have c17b0 : (((rd_T104 l0 x5_1).f4) != ((Int.tmod (wrap64 (t190 + 1)) 3) == 0)) = false := by simpa using c17
          (try (have c17b1 : decide (((rd_T104 l0 x5_1).f4) = ((Int.tmod (wrap64 (t190 + 1)) 3) == 0)) = true := by simpa using c17))
          (try (have c17b2 : (((rd_T104 l0 x5_1).f4) == ((Int.tmod (wrap64 (t190 + 1)) 3) == 0)) = true := by simpa using c17))
          clear c17
          have HC18 := Aside0.mk H
          clear H
          have p193 : 0 ≤ (x5_1 : Int) := of_decide_eq_true za
          have q193 : x5_1 < (l0.length : Int) := of_decide_eq_true za
          try clear hHeld
          try clear hx187_2
          try clear hx187_7
          try clear hx188_2
          try clear hx188_7
          try clear hx189_2
          try clear hx189_7
          try clear hx191_2
          try clear hx191_7
          obtain ⟨ad193, A193_2, c193_2, A193_7, c193_7, e193, hx193_0, hx193_1, hx193_2, hx193_3, hx193_4, hx193_5, hx193_6, hx193_7, hx193_8, hx193_9, hx193_10, hx193_11, hl193_2, hi193_2, hl193_7, hi193_7⟩ := at_T104 HR0.out x5_1 p193 q193
          obtain rfl : ad187 = ad193 := (by injection e193)
          replace hx193_0 := cb0 hx193_0 HB
          replace hx193_1 := cb0 hx193_1 HB
          replace hx193_2 := cb0 hx193_2 HB
          replace hx193_3 := cb0 hx193_3 HB
          replace hx193_4 := cb0 hx193_4 HB
          replace hx193_5 := cb0 hx193_5 HB
          replace hx193_6 := cb0 hx193_6 HB
          replace hx193_7 := cb0 hx193_7 HB
          replace hx193_8 := cb0 hx193_8 HB
          replace hx193_9 := cb0 hx193_9 HB
          replace hx193_10 := cb0 hx193_10 HB
          replace hx193_11 := cb0 hx193_11 HB
          have HR193_2 := Aside0.mk hi193_2
          have HC193_2 := Aside0.mk hl193_2
          clear hi193_2 hl193_2
          have HR193_7 := Aside0.mk hi193_7
          have HC193_7 := Aside0.mk hl193_7
          clear hi193_7 hl193_7
          replace p193 := eq_true p193
          replace q193 := eq_true q193
          have p194 : 0 ≤ (x5_1 : Int) := of_decide_eq_true za
          have q194 : x5_1 < (l0.length : Int) := of_decide_eq_true za
          try clear hHeld
          try clear hx187_2
          try clear hx187_7
          try clear hx188_2
          try clear hx188_7
          try clear hx189_2
          try clear hx189_7
          try clear hx191_2
          try clear hx191_7
          obtain ⟨ad194, A194_2, c194_2, A194_7, c194_7, e194, hx194_0, hx194_1, hx194_2, hx194_3, hx194_4, hx194_5, hx194_6, hx194_7, hx194_8, hx194_9, hx194_10, hx194_11, hl194_2, hi194_2, hl194_7, hi194_7⟩ := at_T104 HR0.out x5_1 p194 q194
          obtain rfl : ad187 = ad194 := (by injection e194)
          replace hx194_0 := cb0 hx194_0 HB
          replace hx194_1 := cb0 hx194_1 HB
          replace hx194_2 := cb0 hx194_2 HB
          replace hx194_3 := cb0 hx194_3 HB
          replace hx194_4 := cb0 hx194_4 HB
          replace hx194_5 := cb0 hx194_5 HB
          replace hx194_6 := cb0 hx194_6 HB
          replace hx194_7 := cb0 hx194_7 HB
          replace hx194_8 := cb0 hx194_8 HB
          replace hx194_9 := cb0 hx194_9 HB
          replace hx194_10 := cb0 hx194_10 HB
          replace hx194_11 := cb0 hx194_11 HB
          have HR194_2 := Aside0.mk hi194_2
          have HC194_2 := Aside0.mk hl194_2
          clear hi194_2 hl194_2
          have HR194_7 := Aside0.mk hi194_7
          have HC194_7 := Aside0.mk hl194_7
          clear hi194_7 hl194_7
          replace p194 := eq_true p194
          replace q194 := eq_true q194
          have ea_ := Option.some.inj (hx193_2.symm.trans hx194_2)
          injection ea_ with ea_ en_ ec_
          subst ea_
          subst ec_
          clear en_
          have ea_ := Option.some.inj (hx193_7.symm.trans hx194_7)
          injection ea_ with ea_ en_ ec_
          subst ea_
          subst ec_
          clear en_
          go_upto_if 68 with (fail)
          have H := HC18.out
          clear HC18
          by_cases c19 : (((rd_T104 l0 x5_1).f5) != ((Int.tmod (wrap64 ((wrap64 (t190 + 1)) + 1)) 3) == 0)) = true
          ·rw [if_pos c19] at H
           have c19b0 : (((rd_T104 l0 x5_1).f5) != ((Int.tmod (wrap64 ((wrap64 (t190 + 1)) + 1)) 3) == 0)) = true := c19
           (try (have c19b1 : decide (((rd_T104 l0 x5_1).f5) = ((Int.tmod (wrap64 ((wrap64 (t190 + 1)) + 1)) 3) == 0)) = false := by simpa using c19))
           (try (have c19b2 : (((rd_T104 l0 x5_1).f5) == ((Int.tmod (wrap64 ((wrap64 (t190 + 1)) + 1)) 3) == 0)) = false := by simpa using c19))
           (try (have c19b3 : ¬ (((rd_T104 l0 x5_1).f5) = ((Int.tmod (wrap64 ((wrap64 (t190 + 1)) + 1)) 3) == 0)) := by simpa using c19))
           clear c19
           (first | rw [c19b0] | rw [c19b1] | rw [c19b2] | (simp only [i64_w, i32_w]; rw [c19b0]) | skip)
           obtain rfl := Option.some.inj H
           go_wp2
           go_ret
           exact ⟨ze, zb HB⟩
          ·rw [if_neg c19] at H
           have c19b0 : (((rd_T104 l0 x5_1).f5) != ((Int.tmod (wrap64 ((wrap64 (t190 + 1)) + 1)) 3) == 0)) = false := by simpa using c19
           (try (have c19b1 : decide (((rd_T104 l0 x5_1).f5) = ((Int.tmod (wrap64 ((wrap64 (t190 + 1)) + 1)) 3) == 0)) = true := by simpa using c19))
           (try (have c19b2 : (((rd_T104 l0 x5_1).f5) == ((Int.tmod (wrap64 ((wrap64 (t190 + 1)) + 1)) 3) == 0)) = true := by simpa using c19))
           clear c19
           (first | rw [c19b0] | rw [c19b1] | rw [c19b2] | (simp only [i64_w, i32_w]; rw [c19b0]) | skip)
           by_cases c20 : ((rd_T104 l0 x5_1).f6) = (wrap64 ((wrap64 ((wrap64 (t190 + 1)) + 1)) + 1))
           ·rw [if_pos c20] at H
            have c20b0 : (((rd_T104 l0 x5_1).f6) == (wrap64 ((wrap64 ((wrap64 (t190 + 1)) + 1)) + 1))) = true := beq_iff_eq.mpr c20
            have c20b1 : (((rd_T104 l0 x5_1).f6) != (wrap64 ((wrap64 ((wrap64 (t190 + 1)) + 1)) + 1))) = false := bne_eq_false_iff_eq.mpr c20
            clear c20
            obtain ⟨t197, A21, H⟩ := ob H
            (try dsimp only at H)
            have HC22 := Aside0.mk H
            clear H
            have p195 : 0 ≤ (x5_1 : Int) := of_decide_eq_true za
            have q195 : x5_1 < (l0.length : Int) := of_decide_eq_true za
            try clear hHeld
            try clear hx187_2
            try clear hx187_7
            try clear hx188_2
            try clear hx188_7
            try clear hx189_2
            try clear hx189_7
            try clear hx191_2
            try clear hx191_7
            try clear hx193_2
            try clear hx193_7
            try clear hx194_2
            try clear hx194_7
            obtain ⟨ad195, A195_2, c195_2, A195_7, c195_7, e195, hx195_0, hx195_1, hx195_2, hx195_3, hx195_4, hx195_5, hx195_6, hx195_7, hx195_8, hx195_9, hx195_10, hx195_11, hl195_2, hi195_2, hl195_7, hi195_7⟩ := at_T104 HR0.out x5_1 p195 q195
            obtain rfl : ad187 = ad195 := (by injection e195)
            replace hx195_0 := cb0 hx195_0 HB
            replace hx195_1 := cb0 hx195_1 HB
            replace hx195_2 := cb0 hx195_2 HB
            replace hx195_3 := cb0 hx195_3 HB
            replace hx195_4 := cb0 hx195_4 HB
            replace hx195_5 := cb0 hx195_5 HB
            replace hx195_6 := cb0 hx195_6 HB
            replace hx195_7 := cb0 hx195_7 HB
            replace hx195_8 := cb0 hx195_8 HB
            replace hx195_9 := cb0 hx195_9 HB
            replace hx195_10 := cb0 hx195_10 HB
            replace hx195_11 := cb0 hx195_11 HB
            have HR195_2 := Aside0.mk hi195_2
            have HC195_2 := Aside0.mk hl195_2
            clear hi195_2 hl195_2
            have HR195_7 := Aside0.mk hi195_7
            have HC195_7 := Aside0.mk hl195_7
            clear hi195_7 hl195_7
            replace p195 := eq_true p195
            replace q195 := eq_true q195
            have p196 : 0 ≤ (x5_1 : Int) := of_decide_eq_true za
            have q196 : x5_1 < (l0.length : Int) := of_decide_eq_true za
            try clear hHeld
            try clear hx187_2
            try clear hx187_7
            try clear hx188_2
            try clear hx188_7
            try clear hx189_2
            try clear hx189_7
            try clear hx191_2
            try clear hx191_7
            try clear hx193_2
            try clear hx193_7
            try clear hx194_2
            try clear hx194_7
            obtain ⟨ad196, A196_2, c196_2, A196_7, c196_7, e196, hx196_0, hx196_1, hx196_2, hx196_3, hx196_4, hx196_5, hx196_6, hx196_7, hx196_8, hx196_9, hx196_10, hx196_11, hl196_2, hi196_2, hl196_7, hi196_7⟩ := at_T104 HR0.out x5_1 p196 q196
            obtain rfl : ad187 = ad196 := (by injection e196)
            replace hx196_0 := cb0 hx196_0 HB
            replace hx196_1 := cb0 hx196_1 HB
            replace hx196_2 := cb0 hx196_2 HB
            replace hx196_3 := cb0 hx196_3 HB
            replace hx196_4 := cb0 hx196_4 HB
            replace hx196_5 := cb0 hx196_5 HB
            replace hx196_6 := cb0 hx196_6 HB
            replace hx196_7 := cb0 hx196_7 HB
            replace hx196_8 := cb0 hx196_8 HB
            replace hx196_9 := cb0 hx196_9 HB
            replace hx196_10 := cb0 hx196_10 HB
            replace hx196_11 := cb0 hx196_11 HB
            have HR196_2 := Aside0.mk hi196_2
            have HC196_2 := Aside0.mk hl196_2
            clear hi196_2 hl196_2
            have HR196_7 := Aside0.mk hi196_7
            have HC196_7 := Aside0.mk hl196_7
            clear hi196_7 hl196_7
            replace p196 := eq_true p196
            replace q196 := eq_true q196
            have ea_ := Option.some.inj (hx195_2.symm.trans hx196_2)
            injection ea_ with ea_ en_ ec_
            subst ea_
            subst ec_
            clear en_
            have ea_ := Option.some.inj (hx195_7.symm.trans hx196_7)
            injection ea_ with ea_ en_ ec_
            subst ea_
            subst ec_
            clear en_
            go_upto_if 88 with (first | ((with_reducible refine gq 126 rfl ?_); refine gl (some 86) Try.func126 #[.slice A195_7 ((rd_T104 l0 x5_1).f7).length c195_7, .int .i64 (wrap64 ((wrap64 ((wrap64 ((wrap64 (t190 + 1)) + 1)) + 1)) + 1))] ?_; (with_reducible refine (laws_heldFieldS.calls k1 _ _ ((rd_T104 l0 x5_1).f7) (wrap64 ((wrap64 ((wrap64 ((wrap64 (t190 + 1)) + 1)) + 1)) + 1)) t197 _ ?side1 ?side2 A21.out).mono ?_); (case side1 => exact zc (Kd.C_below HR196_7.out HB.out)); (case side2 => exact HC196_7.out); rintro e w23 ⟨rfl, hb⟩; refine ⟨_, rfl, ?_⟩; replace HB := Aside0.mk (below_step (zb HB) hb); (try clear hb)))
            (try simp only [Act.put, s1, s2, s3])
            have H := HC22.out
            clear HC22
            by_cases c24 : t197 < 0
            ·rw [if_pos c24] at H
             have c24b0 := decide_eq_true c24
             clear c24
             (first | rw [c24b0] | rw [c24b1] | rw [c24b2] | (simp only [i64_w, i32_w]; rw [c24b0]) | skip)
             obtain rfl := Option.some.inj H
             go_wp2
             go_ret
             exact ⟨ze, zb HB⟩
            ·rw [if_neg c24] at H
             have c24b0 := decide_eq_false c24
             clear c24
             (first | rw [c24b0] | rw [c24b1] | rw [c24b2] | (simp only [i64_w, i32_w]; rw [c24b0]) | skip)
             obtain ⟨t199, A25, H⟩ := ob H
             (try dsimp only at H)
             have HC26 := Aside0.mk H
             clear H
             try go_wp2
             replace HB := Aside0.mk (below_drew1 HB.out)
             have p198 : 0 ≤ (x5_1 : Int) := of_decide_eq_true za
             have q198 : x5_1 < (l0.length : Int) := of_decide_eq_true za
             try clear hHeld
             try clear hx187_2
             try clear hx187_7
             try clear hx188_2
             try clear hx188_7
             try clear hx189_2
             try clear hx189_7
             try clear hx191_2
             try clear hx191_7
             try clear hx193_2
             try clear hx193_7
             try clear hx194_2
             try clear hx194_7
             try clear hx195_2
             try clear hx195_7
             try clear hx196_2
             try clear hx196_7
             obtain ⟨ad198, A198_2, c198_2, A198_7, c198_7, e198, hx198_0, hx198_1, hx198_2, hx198_3, hx198_4, hx198_5, hx198_6, hx198_7, hx198_8, hx198_9, hx198_10, hx198_11, hl198_2, hi198_2, hl198_7, hi198_7⟩ := at_T104 HR0.out x5_1 p198 q198
             have hw198_11 := hx198_11
             have hw198_10 := hx198_10
             have hw198_9 := hx198_9
             have hw198_8 := hx198_8
             have hw198_7 := hx198_7
             have hw198_6 := hx198_6
             have hw198_5 := hx198_5
             have hw198_4 := hx198_4
             have hw198_3 := hx198_3
             have hw198_2 := hx198_2
             have hw198_1 := hx198_1
             have hw198_0 := hx198_0
             obtain rfl : ad187 = ad198 := (by injection e198)
             replace hx198_0 := cb0 hx198_0 HB
             replace hx198_1 := cb0 hx198_1 HB
             replace hx198_2 := cb0 hx198_2 HB
             replace hx198_3 := cb0 hx198_3 HB
             replace hx198_4 := cb0 hx198_4 HB
             replace hx198_5 := cb0 hx198_5 HB
             replace hx198_6 := cb0 hx198_6 HB
             replace hx198_7 := cb0 hx198_7 HB
             replace hx198_8 := cb0 hx198_8 HB
             replace hx198_9 := cb0 hx198_9 HB
             replace hx198_10 := cb0 hx198_10 HB
             replace hx198_11 := cb0 hx198_11 HB
             have HR198_2 := Aside0.mk hi198_2
             have HC198_2 := Aside0.mk hl198_2
             clear hi198_2 hl198_2
             have HR198_7 := Aside0.mk hi198_7
             have HC198_7 := Aside0.mk hl198_7
             clear hi198_7 hl198_7
             replace p198 := eq_true p198
             replace q198 := eq_true q198
             refine st 8 (an (cb hw198_0 HB) (an (cb hw198_1 HB) (an (cb hw198_2 HB) (an (cb hw198_3 HB) (an (cb hw198_4 HB) (an (cb hw198_5 HB) (an (cb hw198_6 HB) (an (cb hw198_7 HB) (an (cb hw198_8 HB) (an (cb hw198_9 HB) (an (cb hw198_10 HB) (cb hw198_11 HB)))))))))))) (fun hHeld => ?_); refine with_tabW laws_heldStreamS.tab28 laws_heldStreamS.bits28 (fun HT_ HW_ => ?_)
             generalize w23.drew = w27 at HB HR198_2 HR198_7 hx198_0 hx198_1 hx198_10 hx198_11 hx198_2 hx198_3 hx198_4 hx198_5 hx198_6 hx198_7 hx198_8 hx198_9 hHeld ⊢
             refine pu 0 (some 89) (bm 8 1) rfl rfl ?_
             refine pu 1 (some 90) (bm 8 3) rfl rfl ?_
             refine pu 2 (some 91) (bm 8 7) rfl rfl ?_
             refine pu 3 (some 92) (bm 8 15) rfl rfl ?_
             refine pu 5 (some 94) (bm 8 47) rfl rfl ?_
             refine tk 4 (some 93) (bm 8 63) rfl rfl hHeld ?_
             refine one_ (i := 6) (N := some 95) (bm 8 127) rfl rfl (one_of HT_.out (by kernel_rfl)) (by decide) (fun K hK => ?_)
             refine gs Try.func102 #[.int .i64 t197] ?_
             with_reducible refine (laws_markText.calls k1 t197 t199 _ A25.out).mono ?_
             rintro e w28 ⟨rfl, hb⟩
             refine ⟨_, rfl, ?_⟩
             replace HB := Aside0.mk (below_step (zb HB) hb)
             (try clear hb)
             refine hK.out _ _ (an (cb hw198_0 HB) (an (cb hw198_1 HB) (an (cb hw198_2 HB) (an (cb hw198_3 HB) (an (cb hw198_4 HB) (an (cb hw198_5 HB) (an (cb hw198_6 HB) (an (cb hw198_7 HB) (an (cb hw198_8 HB) (an (cb hw198_9 HB) (an (cb hw198_10 HB) (cb hw198_11 HB)))))))))))) (fun hHeld => ?_)
             clear hK K
             refine nm ?_
             refine pu 7 (some 96) (bm 8 255) rfl rfl ?_
             refine done_ (done_of HT_.out (by kernel_rfl)) ?_
             go_upto_if 96 with (fail)
             have H := HC26.out
             clear HC26
             by_cases c29 : ((rd_T104 l0 x5_1).f8).toList = t199.toList
             ·rw [if_pos c29] at H
              have c29b0 : (((rd_T104 l0 x5_1).f8).toList == t199.toList) = true := beq_iff_eq.mpr c29
              have c29b1 : (((rd_T104 l0 x5_1).f8).toList != t199.toList) = false := bne_eq_false_iff_eq.mpr c29
              clear c29
              (first | rw [c29b0] | rw [c29b1] | rw [c29b2] | (simp only [i64_w, i32_w]; rw [c29b0]) | skip)
              by_cases c30 : (((rd_T104 l0 x5_1).f9) != ((Int.tmod (wrap64 (t197 + 1)) 3) == 0)) = true
              ·rw [if_pos c30] at H
               have c30b0 : (((rd_T104 l0 x5_1).f9) != ((Int.tmod (wrap64 (t197 + 1)) 3) == 0)) = true := c30
               (try (have c30b1 : decide (((rd_T104 l0 x5_1).f9) = ((Int.tmod (wrap64 (t197 + 1)) 3) == 0)) = false := by simpa using c30))
               (try (have c30b2 : (((rd_T104 l0 x5_1).f9) == ((Int.tmod (wrap64 (t197 + 1)) 3) == 0)) = false := by simpa using c30))
               (try (have c30b3 : ¬ (((rd_T104 l0 x5_1).f9) = ((Int.tmod (wrap64 (t197 + 1)) 3) == 0)) := by simpa using c30))
               clear c30
               obtain rfl := Option.some.inj H
               have p200 : 0 ≤ (x5_1 : Int) := of_decide_eq_true za
               have q200 : x5_1 < (l0.length : Int) := of_decide_eq_true za
               try clear hHeld
               try clear hx187_2
               try clear hx187_7
               try clear hx188_2
               try clear hx188_7
               try clear hx189_2
               try clear hx189_7
               try clear hx191_2
               try clear hx191_7
               try clear hx193_2
               try clear hx193_7
               try clear hx194_2
               try clear hx194_7
               try clear hx195_2
               try clear hx195_7
               try clear hx196_2
               try clear hx196_7
               try clear hx198_2
               try clear hx198_7
               obtain ⟨ad200, A200_2, c200_2, A200_7, c200_7, e200, hx200_0, hx200_1, hx200_2, hx200_3, hx200_4, hx200_5, hx200_6, hx200_7, hx200_8, hx200_9, hx200_10, hx200_11, hl200_2, hi200_2, hl200_7, hi200_7⟩ := at_T104 HR0.out x5_1 p200 q200
               obtain rfl : ad187 = ad200 := (by injection e200)
               replace hx200_0 := cb0 hx200_0 HB
               replace hx200_1 := cb0 hx200_1 HB
               replace hx200_2 := cb0 hx200_2 HB
               replace hx200_3 := cb0 hx200_3 HB
               replace hx200_4 := cb0 hx200_4 HB
               replace hx200_5 := cb0 hx200_5 HB
               replace hx200_6 := cb0 hx200_6 HB
               replace hx200_7 := cb0 hx200_7 HB
               replace hx200_8 := cb0 hx200_8 HB
               replace hx200_9 := cb0 hx200_9 HB
               replace hx200_10 := cb0 hx200_10 HB
               replace hx200_11 := cb0 hx200_11 HB
               have HR200_2 := Aside0.mk hi200_2
               have HC200_2 := Aside0.mk hl200_2
               clear hi200_2 hl200_2
               have HR200_7 := Aside0.mk hi200_7
               have HC200_7 := Aside0.mk hl200_7
               clear hi200_7 hl200_7
               replace p200 := eq_true p200
               replace q200 := eq_true q200
               go_wp2
               go_ret
               exact ⟨ze, zb HB⟩
              ·rw [if_neg c30] at H
               have c30b0 : (((rd_T104 l0 x5_1).f9) != ((Int.tmod (wrap64 (t197 + 1)) 3) == 0)) = false := by simpa using c30
               (try (have c30b1 : decide (((rd_T104 l0 x5_1).f9) = ((Int.tmod (wrap64 (t197 + 1)) 3) == 0)) = true := by simpa using c30))
               (try (have c30b2 : (((rd_T104 l0 x5_1).f9) == ((Int.tmod (wrap64 (t197 + 1)) 3) == 0)) = true := by simpa using c30))
               clear c30
               have HC31 := Aside0.mk H
               clear H
               have p200 : 0 ≤ (x5_1 : Int) := of_decide_eq_true za
               have q200 : x5_1 < (l0.length : Int) := of_decide_eq_true za
               try clear hHeld
               try clear hx187_2
               try clear hx187_7
               try clear hx188_2
               try clear hx188_7
               try clear hx189_2
               try clear hx189_7
               try clear hx191_2
               try clear hx191_7
               try clear hx193_2
               try clear hx193_7
               try clear hx194_2
               try clear hx194_7
               try clear hx195_2
               try clear hx195_7
               try clear hx196_2
               try clear hx196_7
               try clear hx198_2
               try clear hx198_7
               obtain ⟨ad200, A200_2, c200_2, A200_7, c200_7, e200, hx200_0, hx200_1, hx200_2, hx200_3, hx200_4, hx200_5, hx200_6, hx200_7, hx200_8, hx200_9, hx200_10, hx200_11, hl200_2, hi200_2, hl200_7, hi200_7⟩ := at_T104 HR0.out x5_1 p200 q200
               obtain rfl : ad187 = ad200 := (by injection e200)
               replace hx200_0 := cb0 hx200_0 HB
               replace hx200_1 := cb0 hx200_1 HB
               replace hx200_2 := cb0 hx200_2 HB
               replace hx200_3 := cb0 hx200_3 HB
               replace hx200_4 := cb0 hx200_4 HB
               replace hx200_5 := cb0 hx200_5 HB
               replace hx200_6 := cb0 hx200_6 HB
               replace hx200_7 := cb0 hx200_7 HB
               replace hx200_8 := cb0 hx200_8 HB
               replace hx200_9 := cb0 hx200_9 HB
               replace hx200_10 := cb0 hx200_10 HB
               replace hx200_11 := cb0 hx200_11 HB
               have HR200_2 := Aside0.mk hi200_2
               have HC200_2 := Aside0.mk hl200_2
               clear hi200_2 hl200_2
               have HR200_7 := Aside0.mk hi200_7
               have HC200_7 := Aside0.mk hl200_7
               clear hi200_7 hl200_7
               replace p200 := eq_true p200
               replace q200 := eq_true q200
               have p201 : 0 ≤ (x5_1 : Int) := of_decide_eq_true za
               have q201 : x5_1 < (l0.length : Int) := of_decide_eq_true za
               try clear hHeld
               try clear hx187_2
               try clear hx187_7
               try clear hx188_2
               try clear hx188_7
               try clear hx189_2
               try clear hx189_7
               try clear hx191_2
               try clear hx191_7
               try clear hx193_2
               try clear hx193_7
               try clear hx194_2
               try clear hx194_7
               try clear hx195_2
               try clear hx195_7
               try clear hx196_2
               try clear hx196_7
               try clear hx198_2
               try clear hx198_7
               obtain ⟨ad201, A201_2, c201_2, A201_7, c201_7, e201, hx201_0, hx201_1, hx201_2, hx201_3, hx201_4, hx201_5, hx201_6, hx201_7, hx201_8, hx201_9, hx201_10, hx201_11, hl201_2, hi201_2, hl201_7, hi201_7⟩ := at_T104 HR0.out x5_1 p201 q201
               obtain rfl : ad187 = ad201 := (by injection e201)
               replace hx201_0 := cb0 hx201_0 HB
               replace hx201_1 := cb0 hx201_1 HB
               replace hx201_2 := cb0 hx201_2 HB
               replace hx201_3 := cb0 hx201_3 HB
               replace hx201_4 := cb0 hx201_4 HB
               replace hx201_5 := cb0 hx201_5 HB
               replace hx201_6 := cb0 hx201_6 HB
               replace hx201_7 := cb0 hx201_7 HB
               replace hx201_8 := cb0 hx201_8 HB
               replace hx201_9 := cb0 hx201_9 HB
               replace hx201_10 := cb0 hx201_10 HB
               replace hx201_11 := cb0 hx201_11 HB
               have HR201_2 := Aside0.mk hi201_2
               have HC201_2 := Aside0.mk hl201_2
               clear hi201_2 hl201_2
               have HR201_7 := Aside0.mk hi201_7
               have HC201_7 := Aside0.mk hl201_7
               clear hi201_7 hl201_7
               replace p201 := eq_true p201
               replace q201 := eq_true q201
               have ea_ := Option.some.inj (hx200_2.symm.trans hx201_2)
               injection ea_ with ea_ en_ ec_
               subst ea_
               subst ec_
               clear en_
               have ea_ := Option.some.inj (hx200_7.symm.trans hx201_7)
               injection ea_ with ea_ en_ ec_
               subst ea_
               subst ec_
               clear en_
               go_upto_if 117 with (fail)
               have H := HC31.out
               clear HC31
               by_cases c32 : ((rd_T104 l0 x5_1).f10.f0) = (wrap64 ((wrap64 (t197 + 1)) + 1))
               ·rw [if_pos c32] at H
                have c32b0 : (((rd_T104 l0 x5_1).f10.f0) == (wrap64 ((wrap64 (t197 + 1)) + 1))) = true := beq_iff_eq.mpr c32
                have c32b1 : (((rd_T104 l0 x5_1).f10.f0) != (wrap64 ((wrap64 (t197 + 1)) + 1))) = false := bne_eq_false_iff_eq.mpr c32
                clear c32
                (first | rw [c32b0] | rw [c32b1] | rw [c32b2] | (simp only [i64_w, i32_w]; rw [c32b0]) | skip)
                by_cases c33 : ((rd_T104 l0 x5_1).f10.f1) = (wrap64 ((wrap64 ((wrap64 (t197 + 1)) + 1)) + 1))
                ·rw [if_pos c33] at H
                 have c33b0 : (((rd_T104 l0 x5_1).f10.f1) == (wrap64 ((wrap64 ((wrap64 (t197 + 1)) + 1)) + 1))) = true := beq_iff_eq.mpr c33
                 have c33b1 : (((rd_T104 l0 x5_1).f10.f1) != (wrap64 ((wrap64 ((wrap64 (t197 + 1)) + 1)) + 1))) = false := bne_eq_false_iff_eq.mpr c33
                 clear c33
                 have H' := Aside0.mk H
                 clear H
                 have p202 : 0 ≤ (x5_1 : Int) := of_decide_eq_true za
                 have q202 : x5_1 < (l0.length : Int) := of_decide_eq_true za
                 try clear hHeld
                 try clear hx187_2
                 try clear hx187_7
                 try clear hx188_2
                 try clear hx188_7
                 try clear hx189_2
                 try clear hx189_7
                 try clear hx191_2
                 try clear hx191_7
                 try clear hx193_2
                 try clear hx193_7
                 try clear hx194_2
                 try clear hx194_7
                 try clear hx195_2
                 try clear hx195_7
                 try clear hx196_2
                 try clear hx196_7
                 try clear hx198_2
                 try clear hx198_7
                 try clear hx200_2
                 try clear hx200_7
                 try clear hx201_2
                 try clear hx201_7
                 obtain ⟨ad202, A202_2, c202_2, A202_7, c202_7, e202, hx202_0, hx202_1, hx202_2, hx202_3, hx202_4, hx202_5, hx202_6, hx202_7, hx202_8, hx202_9, hx202_10, hx202_11, hl202_2, hi202_2, hl202_7, hi202_7⟩ := at_T104 HR0.out x5_1 p202 q202
                 obtain rfl : ad187 = ad202 := (by injection e202)
                 replace hx202_0 := cb0 hx202_0 HB
                 replace hx202_1 := cb0 hx202_1 HB
                 replace hx202_2 := cb0 hx202_2 HB
                 replace hx202_3 := cb0 hx202_3 HB
                 replace hx202_4 := cb0 hx202_4 HB
                 replace hx202_5 := cb0 hx202_5 HB
                 replace hx202_6 := cb0 hx202_6 HB
                 replace hx202_7 := cb0 hx202_7 HB
                 replace hx202_8 := cb0 hx202_8 HB
                 replace hx202_9 := cb0 hx202_9 HB
                 replace hx202_10 := cb0 hx202_10 HB
                 replace hx202_11 := cb0 hx202_11 HB
                 have HR202_2 := Aside0.mk hi202_2
                 have HC202_2 := Aside0.mk hl202_2
                 clear hi202_2 hl202_2
                 have HR202_7 := Aside0.mk hi202_7
                 have HC202_7 := Aside0.mk hl202_7
                 clear hi202_7 hl202_7
                 replace p202 := eq_true p202
                 replace q202 := eq_true q202
                 go_wp2
                 go_roundg k1
                 case measure => have := HK1.out; omega
                 case rel => exact ⟨(wrap64 ((wrap64 ((wrap64 ((wrap64 (t197 + 1)) + 1)) + 1)) + 1)), (wrap64 (x5_1 + 1)), zs, zs, H', ⟨by have := HK1.out; omega⟩, ⟨zb HB⟩⟩
                ·rw [if_neg c33] at H
                 have c33b0 : (((rd_T104 l0 x5_1).f10.f1) == (wrap64 ((wrap64 ((wrap64 (t197 + 1)) + 1)) + 1))) = false := beq_eq_false_iff_ne.mpr c33
                 have c33b1 : (((rd_T104 l0 x5_1).f10.f1) != (wrap64 ((wrap64 ((wrap64 (t197 + 1)) + 1)) + 1))) = true := bne_iff_ne.mpr c33
                 obtain rfl := Option.some.inj H
                 have p202 : 0 ≤ (x5_1 : Int) := of_decide_eq_true za
                 have q202 : x5_1 < (l0.length : Int) := of_decide_eq_true za
                 try clear hHeld
                 try clear hx187_2
                 try clear hx187_7
                 try clear hx188_2
                 try clear hx188_7
                 try clear hx189_2
                 try clear hx189_7
                 try clear hx191_2
                 try clear hx191_7
                 try clear hx193_2
                 try clear hx193_7
                 try clear hx194_2
                 try clear hx194_7
                 try clear hx195_2
                 try clear hx195_7
                 try clear hx196_2
                 try clear hx196_7
                 try clear hx198_2
                 try clear hx198_7
                 try clear hx200_2
                 try clear hx200_7
                 try clear hx201_2
                 try clear hx201_7
                 obtain ⟨ad202, A202_2, c202_2, A202_7, c202_7, e202, hx202_0, hx202_1, hx202_2, hx202_3, hx202_4, hx202_5, hx202_6, hx202_7, hx202_8, hx202_9, hx202_10, hx202_11, hl202_2, hi202_2, hl202_7, hi202_7⟩ := at_T104 HR0.out x5_1 p202 q202
                 obtain rfl : ad187 = ad202 := (by injection e202)
                 replace hx202_0 := cb0 hx202_0 HB
                 replace hx202_1 := cb0 hx202_1 HB
                 replace hx202_2 := cb0 hx202_2 HB
                 replace hx202_3 := cb0 hx202_3 HB
                 replace hx202_4 := cb0 hx202_4 HB
                 replace hx202_5 := cb0 hx202_5 HB
                 replace hx202_6 := cb0 hx202_6 HB
                 replace hx202_7 := cb0 hx202_7 HB
                 replace hx202_8 := cb0 hx202_8 HB
                 replace hx202_9 := cb0 hx202_9 HB
                 replace hx202_10 := cb0 hx202_10 HB
                 replace hx202_11 := cb0 hx202_11 HB
                 have HR202_2 := Aside0.mk hi202_2
                 have HC202_2 := Aside0.mk hl202_2
                 clear hi202_2 hl202_2
                 have HR202_7 := Aside0.mk hi202_7
                 have HC202_7 := Aside0.mk hl202_7
                 clear hi202_7 hl202_7
                 replace p202 := eq_true p202
                 replace q202 := eq_true q202
                 go_wp2
                 go_ret
                 exact ⟨ze, zb HB⟩
               ·rw [if_neg c32] at H
                have c32b0 : (((rd_T104 l0 x5_1).f10.f0) == (wrap64 ((wrap64 (t197 + 1)) + 1))) = false := beq_eq_false_iff_ne.mpr c32
                have c32b1 : (((rd_T104 l0 x5_1).f10.f0) != (wrap64 ((wrap64 (t197 + 1)) + 1))) = true := bne_iff_ne.mpr c32
                (first | rw [c32b0] | rw [c32b1] | rw [c32b2] | (simp only [i64_w, i32_w]; rw [c32b0]) | skip)
                obtain rfl := Option.some.inj H
                go_wp2
                go_ret
                exact ⟨ze, zb HB⟩
             ·rw [if_neg c29] at H
              have c29b0 : (((rd_T104 l0 x5_1).f8).toList == t199.toList) = false := beq_eq_false_iff_ne.mpr c29
              have c29b1 : (((rd_T104 l0 x5_1).f8).toList != t199.toList) = true := bne_iff_ne.mpr c29
              (first | rw [c29b0] | rw [c29b1] | rw [c29b2] | (simp only [i64_w, i32_w]; rw [c29b0]) | skip)
              obtain rfl := Option.some.inj H
              go_wp2
              go_ret
              exact ⟨ze, zb HB⟩
           ·rw [if_neg c20] at H
            have c20b0 : (((rd_T104 l0 x5_1).f6) == (wrap64 ((wrap64 ((wrap64 (t190 + 1)) + 1)) + 1))) = false := beq_eq_false_iff_ne.mpr c20
            have c20b1 : (((rd_T104 l0 x5_1).f6) != (wrap64 ((wrap64 ((wrap64 (t190 + 1)) + 1)) + 1))) = true := bne_iff_ne.mpr c20
            obtain rfl := Option.some.inj H
            have p195 : 0 ≤ (x5_1 : Int) := of_decide_eq_true za
            have q195 : x5_1 < (l0.length : Int) := of_decide_eq_true za
            try clear hHeld
            try clear hx187_2
            try clear hx187_7
            try clear hx188_2
            try clear hx188_7
            try clear hx189_2
            try clear hx189_7
            try clear hx191_2
            try clear hx191_7
            try clear hx193_2
            try clear hx193_7
            try clear hx194_2
            try clear hx194_7
            try clear hx196_2
            try clear hx196_7
            try clear hx198_2
            try clear hx198_7
            try clear hx200_2
            try clear hx200_7
            try clear hx201_2
            try clear hx201_7
            obtain ⟨ad195, A195_2, c195_2, A195_7, c195_7, e195, hx195_0, hx195_1, hx195_2, hx195_3, hx195_4, hx195_5, hx195_6, hx195_7, hx195_8, hx195_9, hx195_10, hx195_11, hl195_2, hi195_2, hl195_7, hi195_7⟩ := at_T104 HR0.out x5_1 p195 q195
            obtain rfl : ad187 = ad195 := (by injection e195)
            replace hx195_0 := cb0 hx195_0 HB
            replace hx195_1 := cb0 hx195_1 HB
            replace hx195_2 := cb0 hx195_2 HB
            replace hx195_3 := cb0 hx195_3 HB
            replace hx195_4 := cb0 hx195_4 HB
            replace hx195_5 := cb0 hx195_5 HB
            replace hx195_6 := cb0 hx195_6 HB
            replace hx195_7 := cb0 hx195_7 HB
            replace hx195_8 := cb0 hx195_8 HB
            replace hx195_9 := cb0 hx195_9 HB
            replace hx195_10 := cb0 hx195_10 HB
            replace hx195_11 := cb0 hx195_11 HB
            have HR195_2 := Aside0.mk hi195_2
            have HC195_2 := Aside0.mk hl195_2
            clear hi195_2 hl195_2
            have HR195_7 := Aside0.mk hi195_7
            have HC195_7 := Aside0.mk hl195_7
            clear hi195_7 hl195_7
            replace p195 := eq_true p195
            replace q195 := eq_true q195
            go_wp2
            go_ret
            exact ⟨ze, zb HB⟩
        ·rw [if_neg c16] at H
         have c16b0 : (((rd_T104 l0 x5_1).f3).toList == t192.toList) = false := beq_eq_false_iff_ne.mpr c16
         have c16b1 : (((rd_T104 l0 x5_1).f3).toList != t192.toList) = true := bne_iff_ne.mpr c16
         (first | rw [c16b0] | rw [c16b1] | rw [c16b2] | (simp only [i64_w, i32_w]; rw [c16b0]) | skip)
         obtain rfl := Option.some.inj H
         go_wp2
         go_ret
         exact ⟨ze, zb HB⟩
      ·rw [if_neg c7] at H
       have c7b0 : (((rd_T104 l0 x5_1).f1) == (wrap64 (x1_1 + 1))) = false := beq_eq_false_iff_ne.mpr c7
       have c7b1 : (((rd_T104 l0 x5_1).f1) != (wrap64 (x1_1 + 1))) = true := bne_iff_ne.mpr c7
       (first | rw [c7b0] | rw [c7b1] | rw [c7b2] | (simp only [i64_w, i32_w]; rw [c7b0]) | skip)
       obtain rfl := Option.some.inj H
       go_wp2
       go_ret
       exact ⟨ze, zb HB⟩
     ·rw [if_neg c5] at H
      have c5b0 : (((rd_T104 l0 x5_1).f0) == x1_1) = false := beq_eq_false_iff_ne.mpr c5
      have c5b1 : (((rd_T104 l0 x5_1).f0) != x1_1) = true := bne_iff_ne.mpr c5
      obtain rfl := Option.some.inj H
      have p187 : 0 ≤ (x5_1 : Int) := of_decide_eq_true za
      have q187 : x5_1 < (l0.length : Int) := of_decide_eq_true za
      try clear hHeld
      try clear hx188_2
      try clear hx188_7
      try clear hx189_2
      try clear hx189_7
      try clear hx191_2
      try clear hx191_7
      try clear hx193_2
      try clear hx193_7
      try clear hx194_2
      try clear hx194_7
      try clear hx195_2
      try clear hx195_7
      try clear hx196_2
      try clear hx196_7
      try clear hx198_2
      try clear hx198_7
      try clear hx200_2
      try clear hx200_7
      try clear hx201_2
      try clear hx201_7
      obtain ⟨ad187, A187_2, c187_2, A187_7, c187_7, e187, hx187_0, hx187_1, hx187_2, hx187_3, hx187_4, hx187_5, hx187_6, hx187_7, hx187_8, hx187_9, hx187_10, hx187_11, hl187_2, hi187_2, hl187_7, hi187_7⟩ := at_T104 HR0.out x5_1 p187 q187
      cases e187
      replace hx187_0 := cb0 hx187_0 HB
      replace hx187_1 := cb0 hx187_1 HB
      replace hx187_2 := cb0 hx187_2 HB
      replace hx187_3 := cb0 hx187_3 HB
      replace hx187_4 := cb0 hx187_4 HB
      replace hx187_5 := cb0 hx187_5 HB
      replace hx187_6 := cb0 hx187_6 HB
      replace hx187_7 := cb0 hx187_7 HB
      replace hx187_8 := cb0 hx187_8 HB
      replace hx187_9 := cb0 hx187_9 HB
      replace hx187_10 := cb0 hx187_10 HB
      replace hx187_11 := cb0 hx187_11 HB
      have HR187_2 := Aside0.mk hi187_2
      have HC187_2 := Aside0.mk hl187_2
      clear hi187_2 hl187_2
      have HR187_7 := Aside0.mk hi187_7
      have HC187_7 := Aside0.mk hl187_7
      clear hi187_7 hl187_7
      replace p187 := eq_true p187
      replace q187 := eq_true q187
      go_wp2
      go_ret
      exact ⟨ze, zb HB⟩
    ·rw [if_neg c4] at H
     exact absurd H (by simp)
   ·skip
    have c3b0 := decide_eq_false c3
    clear c3
    obtain rfl := Option.some.inj H
    go_wp2
    go_ret
    exact ⟨ze, zb HB⟩

end Go.Proofs.Ytlpibelofcabhaa.PFnExactEndNew
