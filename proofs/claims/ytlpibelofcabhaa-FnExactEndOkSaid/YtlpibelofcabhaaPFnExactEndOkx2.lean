-- WRITTEN BY a turned print (wip/tools of the prover's repo)
import Derived.Test.YtlpibelofcabhaaPFnExactEndOkx0
import Derived.Test.YtlpibelofcabhaaPFnExactEndOkx1
namespace Go.Proofs.Ytlpibelofcabhaa.PFnExactEndOk
open Go.RowKit Go.Proofs.YtlpibelofcabhaaW.PrintWords Go.Proofs.YtlpibelofcabhaaW.PrintLast Go.Proofs.YtlpibelofcabhaaW.PrintMore Go.Proofs.Ytlpibelofcabhaa.Lm
attribute [local go_sem] max2_int min2_int max_two min_two max_three min_three max_four min_four   -- for this text's walks alone
set_option linter.unusedVariables false
set_option linter.unusedSimpArgs false

/-! ### laws_eqStreamS: function 68 -/
-- thin
def laws_eqStreamS.l0 : Nat → List (S104) → List (S104) → Int → Option (Bool)
 | 0, _, _, _ => none
 | k + 1, x0, x1, x5 => if x5 < (x0.length : Int) then (if 0 ≤ x5 then (if x5 < (x1.length : Int) then ((laws_eqStream.f k ((rd_T104 x0 x5).f0) ((rd_T104 x0 x5).f1) ((rd_T104 x0 x5).f2) ((rd_T104 x0 x5).f3) ((rd_T104 x0 x5).f4) ((rd_T104 x0 x5).f5) ((rd_T104 x0 x5).f6) ((rd_T104 x0 x5).f7) ((rd_T104 x0 x5).f8) ((rd_T104 x0 x5).f9) ((rd_T104 x0 x5).f10.f0) ((rd_T104 x0 x5).f10.f1) ((rd_T104 x1 x5).f0) ((rd_T104 x1 x5).f1) ((rd_T104 x1 x5).f2) ((rd_T104 x1 x5).f3) ((rd_T104 x1 x5).f4) ((rd_T104 x1 x5).f5) ((rd_T104 x1 x5).f6) ((rd_T104 x1 x5).f7) ((rd_T104 x1 x5).f8) ((rd_T104 x1 x5).f9) ((rd_T104 x1 x5).f10.f0) ((rd_T104 x1 x5).f10.f1)).bind fun t123 => (if t123 = true then (laws_eqStreamS.l0 k x0 x1 (wrap64 (x5 + 1))) else (some false))) else (none)) else (none)) else (some true)
def laws_eqStreamS.f (k : Nat) (l0 : List (S104)) (l1 : List (S104)) : Option (Bool) := if (l0.length : Int) = (l1.length : Int) then (laws_eqStreamS.l0 k l0 l1 0) else (some false)
theorem laws_eqStreamS.mono_l : ∀ k, (∀ y0 y1 y2, LeO (laws_eqStreamS.l0 k y0 y1 y2) (laws_eqStreamS.l0 (k + 1) y0 y1 y2))
 | 0 => fun _ _ _ r h => by simp [laws_eqStreamS.l0] at h
 | k + 1 => by
  have ih0 := laws_eqStreamS.mono_l k
  ·intro y0 y1 y2
   unfold laws_eqStreamS.l0
   have m0 := @laws_eqStream.mono
   exact zm
theorem laws_eqStreamS.mono : ∀ a0 a1 k, LeO (laws_eqStreamS.f k a0 a1) (laws_eqStreamS.f (k + 1) a0 a1) := by
 intro a0 a1 k
 have ih0 := laws_eqStreamS.mono_l k
 unfold laws_eqStreamS.f
 have m0 := @laws_eqStream.mono
 exact zm
def laws_eqStreamS.T6 : Bool × List (List Nat × List Nat) := (true, [([], []), ([], []), ([0, 1], [0, 1]), ([2], [2]), ([], []), ([], []), ([4, 5], [4, 5]), ([6], [6]), ([3, 7], [3, 7]), ([8], [8])])
def laws_eqStreamS.B6 : List Nat := [0, 0, 3, 7, 0, 0, 48, 112, 255, 511]
theorem laws_eqStreamS.tab6 : rtab .any (opsOf Try.f68 6) = laws_eqStreamS.T6 := by kernel_rfl
theorem laws_eqStreamS.bits6 : waitsOk laws_eqStreamS.T6.2 laws_eqStreamS.B6 = true := by kernel_rfl
set_option maxHeartbeats 8000000 in
set_option maxRecDepth 100000 in
theorem laws_eqStreamS.calls (k : Nat) (A0 : Option Addr) (c0 : Nat) (l0 : List (S104)) (A1 : Option Addr) (c1 : Nat) (l1 : List (S104)) (r : Bool) (w : World) (hr0 : Kd.C k104 w A0 l0.length l0) (hc0 : l0.length ≤ c0) (hr1 : Kd.C k104 w A1 l1.length l1) (hc1 : l1.length ≤ c1) (h : laws_eqStreamS.f k l0 l1 = some r) :
  Calls Try.prog 68 #[.slice A0 l0.length c0, .slice A1 l1.length c1] w fun e w' => e = .returned (.bool r) ∧ Below w.heap.size w w' := by
 have hu104 := Try.underlying104
 have HR0 := Aside0.mk hr0
 have HC0 := Aside0.mk hc0
 clear hr0 hc0
 have HR1 := Aside0.mk hr1
 have HC1 := Aside0.mk hc1
 clear hr1 hc1
 have HB := Aside0.mk (Below.refl w.heap.size w)
 have H : (if (l0.length : Int) = (l1.length : Int) then (laws_eqStreamS.l0 k l0 l1 0) else (some false)) = some r := h
 clear h
 replace H := sp H
 rcases H with ⟨c3, H⟩ | ⟨c3, H⟩
 ·skip
  have c3b0 : ((l0.length : Int) == (l1.length : Int)) = true := beq_iff_eq.mpr c3
  have c3b1 : ((l0.length : Int) != (l1.length : Int)) = false := bne_eq_false_iff_eq.mpr c3
  have c3b2 : (l0.length == l1.length) = true := by first | simpa using c3 | (simp at c3 ⊢; omega)
  clear c3
  have H' := Aside0.mk H
  clear H
  go_enter Try.func68, Try.ntmps68
  go_wp2
  go_loopg [5] k (fun kq v5 w' => ∃ (x5_1 : Int), v5 = .int .i64 x5_1 ∧ Aside0 (laws_eqStreamS.l0 kq l0 l1 x5_1 = some r) ∧ Aside0 (kq ≤ k) ∧ Aside0 (Below w.heap.size w w'))
  case atStart => exact ⟨(0), zs, H', ⟨Nat.le_refl _⟩, ⟨zb HB⟩⟩
  case round =>
   clear H'
   try clear c1
   try clear p2
   try clear c3
   try clear c3b0
   try clear c3b1
   try clear c3b2
   obtain ⟨x5_1, rfl, HA, HK1, HB⟩ := hrel
   cases gk with
   | zero => exact absurd HA.out (by simp [laws_eqStreamS.l0])
   | succ k1 =>
    have H := HA.out
    clear HA
    simp only [laws_eqStreamS.l0] at H
    by_cases c4 : x5_1 < (l0.length : Int)
    ·rw [if_pos c4] at H
     have c4b0 := decide_eq_true c4
     clear c4
     by_cases c5 : 0 ≤ x5_1
     ·rw [if_pos c5] at H
      have c5b0 := decide_eq_true c5
      clear c5
      by_cases c6 : x5_1 < (l1.length : Int)
      ·rw [if_pos c6] at H
       have c6b0 := decide_eq_true c6
       clear c6
       obtain ⟨t123, A7, H⟩ := ob H
       (try dsimp only at H)
       have HC8 := Aside0.mk H
       clear H
       try go_wp2
       replace HB := Aside0.mk (below_drew1 HB.out)
       have p121 : 0 ≤ (x5_1 : Int) := of_decide_eq_true za
       have q121 : x5_1 < (l0.length : Int) := of_decide_eq_true za
       obtain ⟨ad121, A121_2, c121_2, A121_7, c121_7, e121, hx121_0, hx121_1, hx121_2, hx121_3, hx121_4, hx121_5, hx121_6, hx121_7, hx121_8, hx121_9, hx121_10, hx121_11, hl121_2, hi121_2, hl121_7, hi121_7⟩ := at_T104 HR0.out x5_1 p121 q121
       have hw121_11 := hx121_11
       have hw121_10 := hx121_10
       have hw121_9 := hx121_9
       have hw121_8 := hx121_8
       have hw121_7 := hx121_7
       have hw121_6 := hx121_6
       have hw121_5 := hx121_5
       have hw121_4 := hx121_4
       have hw121_3 := hx121_3
       have hw121_2 := hx121_2
       have hw121_1 := hx121_1
       have hw121_0 := hx121_0
       cases e121
       replace hx121_0 := cb0 hx121_0 HB
       replace hx121_1 := cb0 hx121_1 HB
       replace hx121_2 := cb0 hx121_2 HB
       replace hx121_3 := cb0 hx121_3 HB
       replace hx121_4 := cb0 hx121_4 HB
       replace hx121_5 := cb0 hx121_5 HB
       replace hx121_6 := cb0 hx121_6 HB
       replace hx121_7 := cb0 hx121_7 HB
       replace hx121_8 := cb0 hx121_8 HB
       replace hx121_9 := cb0 hx121_9 HB
       replace hx121_10 := cb0 hx121_10 HB
       replace hx121_11 := cb0 hx121_11 HB
       have HR121_2 := Aside0.mk hi121_2
       have HC121_2 := Aside0.mk hl121_2
       clear hi121_2 hl121_2
       have HR121_7 := Aside0.mk hi121_7
       have HC121_7 := Aside0.mk hl121_7
       clear hi121_7 hl121_7
       replace p121 := eq_true p121
       replace q121 := eq_true q121
       have p122 : 0 ≤ (x5_1 : Int) := of_decide_eq_true za
       have q122 : x5_1 < (l1.length : Int) := of_decide_eq_true za
       obtain ⟨ad122, A122_2, c122_2, A122_7, c122_7, e122, hx122_0, hx122_1, hx122_2, hx122_3, hx122_4, hx122_5, hx122_6, hx122_7, hx122_8, hx122_9, hx122_10, hx122_11, hl122_2, hi122_2, hl122_7, hi122_7⟩ := at_T104 HR1.out x5_1 p122 q122
       have hw122_11 := hx122_11
       have hw122_10 := hx122_10
       have hw122_9 := hx122_9
       have hw122_8 := hx122_8
       have hw122_7 := hx122_7
       have hw122_6 := hx122_6
       have hw122_5 := hx122_5
       have hw122_4 := hx122_4
       have hw122_3 := hx122_3
       have hw122_2 := hx122_2
       have hw122_1 := hx122_1
       have hw122_0 := hx122_0
       cases e122
       replace hx122_0 := cb0 hx122_0 HB
       replace hx122_1 := cb0 hx122_1 HB
       replace hx122_2 := cb0 hx122_2 HB
       replace hx122_3 := cb0 hx122_3 HB
       replace hx122_4 := cb0 hx122_4 HB
       replace hx122_5 := cb0 hx122_5 HB
       replace hx122_6 := cb0 hx122_6 HB
       replace hx122_7 := cb0 hx122_7 HB
       replace hx122_8 := cb0 hx122_8 HB
       replace hx122_9 := cb0 hx122_9 HB
       replace hx122_10 := cb0 hx122_10 HB
       replace hx122_11 := cb0 hx122_11 HB
       have HR122_2 := Aside0.mk hi122_2
       have HC122_2 := Aside0.mk hl122_2
       clear hi122_2 hl122_2
       have HR122_7 := Aside0.mk hi122_7
       have HC122_7 := Aside0.mk hl122_7
       clear hi122_7 hl122_7
       replace p122 := eq_true p122
       replace q122 := eq_true q122
       refine st 10 (an (cb hw121_0 HB) (an (cb hw121_1 HB) (an (cb hw121_2 HB) (an (cb hw121_3 HB) (an (cb hw121_4 HB) (an (cb hw121_5 HB) (an (cb hw121_6 HB) (an (cb hw121_7 HB) (an (cb hw121_8 HB) (an (cb hw121_9 HB) (an (cb hw121_10 HB) (an (cb hw121_11 HB) (an (cb hw122_0 HB) (an (cb hw122_1 HB) (an (cb hw122_2 HB) (an (cb hw122_3 HB) (an (cb hw122_4 HB) (an (cb hw122_5 HB) (an (cb hw122_6 HB) (an (cb hw122_7 HB) (an (cb hw122_8 HB) (an (cb hw122_9 HB) (an (cb hw122_10 HB) (cb hw122_11 HB)))))))))))))))))))))))) (fun hHeld => ?_); refine with_tabW laws_eqStreamS.tab6 laws_eqStreamS.bits6 (fun HT_ HW_ => ?_)
       generalize wr.drew = w9 at HB HR121_2 HR121_7 HR122_2 HR122_7 hx121_0 hx121_1 hx121_10 hx121_11 hx121_2 hx121_3 hx121_4 hx121_5 hx121_6 hx121_7 hx121_8 hx121_9 hx122_0 hx122_1 hx122_10 hx122_11 hx122_2 hx122_3 hx122_4 hx122_5 hx122_6 hx122_7 hx122_8 hx122_9 hHeld ⊢
       refine pu 0 (some 17) (bm 10 1) rfl rfl ?_
       refine pu 1 (some 18) (bm 10 3) rfl rfl ?_
       refine pu 2 (some 19) (bm 10 7) rfl rfl ?_
       refine pu 4 (some 21) (bm 10 23) rfl rfl ?_
       refine pu 5 (some 22) (bm 10 55) rfl rfl ?_
       refine pu 6 (some 23) (bm 10 119) rfl rfl ?_
       refine tk 3 (some 20) (bm 10 127) rfl rfl hHeld ?_
       refine tk 7 (some 24) (bm 10 255) rfl rfl hHeld ?_
       refine one_ (i := 8) (N := some 25) (bm 10 511) rfl rfl (one_of HT_.out (by kernel_rfl)) (by decide) (fun K hK => ?_)
       refine gs Try.func124 #[.agg #[.int .i64 ((rd_T104 l0 x5_1).f0), .int .i64 ((rd_T104 l0 x5_1).f1), .slice A121_2 ((rd_T104 l0 x5_1).f2).length c121_2, .string ((rd_T104 l0 x5_1).f3), .bool ((rd_T104 l0 x5_1).f4), .bool ((rd_T104 l0 x5_1).f5), .int .i64 ((rd_T104 l0 x5_1).f6), .slice A121_7 ((rd_T104 l0 x5_1).f7).length c121_7, .string ((rd_T104 l0 x5_1).f8), .bool ((rd_T104 l0 x5_1).f9), .int .i64 ((rd_T104 l0 x5_1).f10.f0), .int .i64 ((rd_T104 l0 x5_1).f10.f1)], .agg #[.int .i64 ((rd_T104 l1 x5_1).f0), .int .i64 ((rd_T104 l1 x5_1).f1), .slice A122_2 ((rd_T104 l1 x5_1).f2).length c122_2, .string ((rd_T104 l1 x5_1).f3), .bool ((rd_T104 l1 x5_1).f4), .bool ((rd_T104 l1 x5_1).f5), .int .i64 ((rd_T104 l1 x5_1).f6), .slice A122_7 ((rd_T104 l1 x5_1).f7).length c122_7, .string ((rd_T104 l1 x5_1).f8), .bool ((rd_T104 l1 x5_1).f9), .int .i64 ((rd_T104 l1 x5_1).f10.f0), .int .i64 ((rd_T104 l1 x5_1).f10.f1)]] ?_
       with_reducible refine (laws_eqStream.calls k1 ((rd_T104 l0 x5_1).f0) ((rd_T104 l0 x5_1).f1) _ _ ((rd_T104 l0 x5_1).f2) ((rd_T104 l0 x5_1).f3) ((rd_T104 l0 x5_1).f4) ((rd_T104 l0 x5_1).f5) ((rd_T104 l0 x5_1).f6) _ _ ((rd_T104 l0 x5_1).f7) ((rd_T104 l0 x5_1).f8) ((rd_T104 l0 x5_1).f9) ((rd_T104 l0 x5_1).f10.f0) ((rd_T104 l0 x5_1).f10.f1) ((rd_T104 l1 x5_1).f0) ((rd_T104 l1 x5_1).f1) _ _ ((rd_T104 l1 x5_1).f2) ((rd_T104 l1 x5_1).f3) ((rd_T104 l1 x5_1).f4) ((rd_T104 l1 x5_1).f5) ((rd_T104 l1 x5_1).f6) _ _ ((rd_T104 l1 x5_1).f7) ((rd_T104 l1 x5_1).f8) ((rd_T104 l1 x5_1).f9) ((rd_T104 l1 x5_1).f10.f0) ((rd_T104 l1 x5_1).f10.f1) t123 _ ?side1 ?side2 ?side3 ?side4 ?side5 ?side6 ?side7 ?side8 A7.out).mono ?_
       (case side1 => exact zc (Kd.C_below HR121_2.out HB.out))
       (case side2 => exact HC121_2.out)
       (case side3 => exact zc (Kd.C_below HR121_7.out HB.out))
       (case side4 => exact HC121_7.out)
       (case side5 => exact zc (Kd.C_below HR122_2.out HB.out))
       (case side6 => exact HC122_2.out)
       (case side7 => exact zc (Kd.C_below HR122_7.out HB.out))
       (case side8 => exact HC122_7.out)
       rintro e w10 ⟨rfl, hb⟩
       refine ⟨_, rfl, ?_⟩
       replace HB := Aside0.mk (below_step (zb HB) hb)
       (try clear hb)
       refine hK.out _ _ (an (cb hw121_0 HB) (an (cb hw121_1 HB) (an (cb hw121_2 HB) (an (cb hw121_3 HB) (an (cb hw121_4 HB) (an (cb hw121_5 HB) (an (cb hw121_6 HB) (an (cb hw121_7 HB) (an (cb hw121_8 HB) (an (cb hw121_9 HB) (an (cb hw121_10 HB) (an (cb hw121_11 HB) (an (cb hw122_0 HB) (an (cb hw122_1 HB) (an (cb hw122_2 HB) (an (cb hw122_3 HB) (an (cb hw122_4 HB) (an (cb hw122_5 HB) (an (cb hw122_6 HB) (an (cb hw122_7 HB) (an (cb hw122_8 HB) (an (cb hw122_9 HB) (an (cb hw122_10 HB) (cb hw122_11 HB)))))))))))))))))))))))) (fun hHeld => ?_)
       clear hK K
       refine nm ?_
       refine pu 9 (some 26) (bm 10 1023) rfl rfl ?_
       refine done_ (done_of HT_.out (by kernel_rfl)) ?_
       go_upto_if 26 with (fail)
       have H := HC8.out
       clear HC8
       by_cases c11 : t123 = true
       ·subst c11
        rw [if_pos rfl] at H
        have H' := Aside0.mk H
        clear H
        go_wp2
        go_roundg k1
        case measure => have := HK1.out; omega
        case rel => exact ⟨(wrap64 (x5_1 + 1)), zs, H', ⟨by have := HK1.out; omega⟩, ⟨zb HB⟩⟩
       ·replace c11 := Bool.eq_false_iff.mpr c11
        subst c11
        rw [if_neg (show ¬ (false = true) by decide)] at H
        obtain rfl := Option.some.inj H
        go_wp2
        go_ret
        exact ⟨ze, zb HB⟩
      ·rw [if_neg c6] at H
       exact absurd H (by simp)
     ·rw [if_neg c5] at H
      exact absurd H (by simp)
    ·rw [if_neg c4] at H
     have c4b0 := decide_eq_false c4
     clear c4
     obtain rfl := Option.some.inj H
     go_wp2
     go_ret
     exact ⟨ze, zb HB⟩
 ·skip
  have c3b0 : ((l0.length : Int) == (l1.length : Int)) = false := beq_eq_false_iff_ne.mpr c3
  have c3b1 : ((l0.length : Int) != (l1.length : Int)) = true := bne_iff_ne.mpr c3
  have c3b2 : (l0.length == l1.length) = false := by first | simpa using c3 | (simp at c3 ⊢; omega)
  obtain rfl := Option.some.inj H
  go_enter Try.func68, Try.ntmps68
  go_wp2
  go_ret
  exact ⟨ze, zb HB⟩

/-! ### laws_eqEnd: function 22 -/
-- thin
def laws_eqEnd.f (k : Nat) (a0_0 : Bool) (l0_1 : List (S88)) (a0_2 : Int) (l0_3 : List (S88)) (a0_4 : Int) (a0_5 : ByteArray) (l0_6 : List (S104)) (a0_7 : Int) (a0_8 : Int) (l0_9 : List (S110)) (a0_10 : Bool) (a1_0 : Bool) (l1_1 : List (S88)) (a1_2 : Int) (l1_3 : List (S88)) (a1_4 : Int) (a1_5 : ByteArray) (l1_6 : List (S104)) (a1_7 : Int) (a1_8 : Int) (l1_9 : List (S110)) (a1_10 : Bool) : Option (Bool) := if (a0_0 != a1_0) = true then (some false) else ((laws_eqTable.f k l0_1 a0_2 l1_1 a1_2).bind fun t126 => (if t126 = true then ((laws_eqTable.f k l0_3 a0_4 l1_3 a1_4).bind fun t127 => (if t127 = true then (if a0_5.toList = a1_5.toList then ((laws_eqStreamS.f k l0_6 l1_6).bind fun t128 => (if t128 = true then ((laws_eqFlow.f a0_7 a0_8 a1_7 a1_8).bind fun t129 => (if t129 = true then ((laws_eqFrameS.f k l0_9 l1_9).bind fun t130 => (if t130 = true then (if (a0_10 != a1_10) = true then (some false) else (some true)) else (some false))) else (some false))) else (some false))) else (some false)) else (some false))) else (some false)))
theorem laws_eqEnd.mono : ∀ a0 a1 a2 a3 a4 a5 a6 a7 a8 a9 a10 a11 a12 a13 a14 a15 a16 a17 a18 a19 a20 a21 k, LeO (laws_eqEnd.f k a0 a1 a2 a3 a4 a5 a6 a7 a8 a9 a10 a11 a12 a13 a14 a15 a16 a17 a18 a19 a20 a21) (laws_eqEnd.f (k + 1) a0 a1 a2 a3 a4 a5 a6 a7 a8 a9 a10 a11 a12 a13 a14 a15 a16 a17 a18 a19 a20 a21) := by
 intro a0 a1 a2 a3 a4 a5 a6 a7 a8 a9 a10 a11 a12 a13 a14 a15 a16 a17 a18 a19 a20 a21 k
 unfold laws_eqEnd.f
 have m0 := @laws_eqFrameS.mono
 have m1 := @laws_eqStreamS.mono
 have m2 := @laws_eqTable.mono
 exact zm
set_option maxHeartbeats 8000000 in
set_option maxRecDepth 100000 in
theorem laws_eqEnd.calls (k : Nat) (a0_0 : Bool) (A0_1 : Option Addr) (c0_1 : Nat) (l0_1 : List (S88)) (a0_2 : Int) (A0_3 : Option Addr) (c0_3 : Nat) (l0_3 : List (S88)) (a0_4 : Int) (a0_5 : ByteArray) (A0_6 : Option Addr) (c0_6 : Nat) (l0_6 : List (S104)) (a0_7 : Int) (a0_8 : Int) (A0_9 : Option Addr) (c0_9 : Nat) (l0_9 : List (S110)) (a0_10 : Bool) (a1_0 : Bool) (A1_1 : Option Addr) (c1_1 : Nat) (l1_1 : List (S88)) (a1_2 : Int) (A1_3 : Option Addr) (c1_3 : Nat) (l1_3 : List (S88)) (a1_4 : Int) (a1_5 : ByteArray) (A1_6 : Option Addr) (c1_6 : Nat) (l1_6 : List (S104)) (a1_7 : Int) (a1_8 : Int) (A1_9 : Option Addr) (c1_9 : Nat) (l1_9 : List (S110)) (a1_10 : Bool) (r : Bool) (w : World) (hr0_1 : Kd.C k88 w A0_1 l0_1.length l0_1) (hc0_1 : l0_1.length ≤ c0_1) (hr0_3 : Kd.C k88 w A0_3 l0_3.length l0_3) (hc0_3 : l0_3.length ≤ c0_3) (hr0_6 : Kd.C k104 w A0_6 l0_6.length l0_6) (hc0_6 : l0_6.length ≤ c0_6) (hr0_9 : Kd.C k110 w A0_9 l0_9.length l0_9) (hc0_9 : l0_9.length ≤ c0_9) (hr1_1 : Kd.C k88 w A1_1 l1_1.length l1_1) (hc1_1 : l1_1.length ≤ c1_1) (hr1_3 : Kd.C k88 w A1_3 l1_3.length l1_3) (hc1_3 : l1_3.length ≤ c1_3) (hr1_6 : Kd.C k104 w A1_6 l1_6.length l1_6) (hc1_6 : l1_6.length ≤ c1_6) (hr1_9 : Kd.C k110 w A1_9 l1_9.length l1_9) (hc1_9 : l1_9.length ≤ c1_9) (h : laws_eqEnd.f k a0_0 l0_1 a0_2 l0_3 a0_4 a0_5 l0_6 a0_7 a0_8 l0_9 a0_10 a1_0 l1_1 a1_2 l1_3 a1_4 a1_5 l1_6 a1_7 a1_8 l1_9 a1_10 = some r) :
  Calls Try.prog 22 #[.agg #[.bool a0_0, .slice A0_1 l0_1.length c0_1, .int .i64 a0_2, .slice A0_3 l0_3.length c0_3, .int .i64 a0_4, .string a0_5, .slice A0_6 l0_6.length c0_6, .int .i64 a0_7, .int .i64 a0_8, .slice A0_9 l0_9.length c0_9, .bool a0_10], .agg #[.bool a1_0, .slice A1_1 l1_1.length c1_1, .int .i64 a1_2, .slice A1_3 l1_3.length c1_3, .int .i64 a1_4, .string a1_5, .slice A1_6 l1_6.length c1_6, .int .i64 a1_7, .int .i64 a1_8, .slice A1_9 l1_9.length c1_9, .bool a1_10]] w fun e w' => e = .returned (.bool r) ∧ Below w.heap.size w w' := by
 have hu42 := Try.underlying42
 have hu25 := Try.underlying25
 have hu39 := Try.underlying39
 have HR0_1 := Aside0.mk hr0_1
 have HC0_1 := Aside0.mk hc0_1
 clear hr0_1 hc0_1
 have HR0_3 := Aside0.mk hr0_3
 have HC0_3 := Aside0.mk hc0_3
 clear hr0_3 hc0_3
 have HR0_6 := Aside0.mk hr0_6
 have HC0_6 := Aside0.mk hc0_6
 clear hr0_6 hc0_6
 have HR0_9 := Aside0.mk hr0_9
 have HC0_9 := Aside0.mk hc0_9
 clear hr0_9 hc0_9
 have HR1_1 := Aside0.mk hr1_1
 have HC1_1 := Aside0.mk hc1_1
 clear hr1_1 hc1_1
 have HR1_3 := Aside0.mk hr1_3
 have HC1_3 := Aside0.mk hc1_3
 clear hr1_3 hc1_3
 have HR1_6 := Aside0.mk hr1_6
 have HC1_6 := Aside0.mk hc1_6
 clear hr1_6 hc1_6
 have HR1_9 := Aside0.mk hr1_9
 have HC1_9 := Aside0.mk hc1_9
 clear hr1_9 hc1_9
 have HB := Aside0.mk (Below.refl w.heap.size w)
 have H : (if (a0_0 != a1_0) = true then (some false) else ((laws_eqTable.f k l0_1 a0_2 l1_1 a1_2).bind fun t126 => (if t126 = true then ((laws_eqTable.f k l0_3 a0_4 l1_3 a1_4).bind fun t127 => (if t127 = true then (if a0_5.toList = a1_5.toList then ((laws_eqStreamS.f k l0_6 l1_6).bind fun t128 => (if t128 = true then ((laws_eqFlow.f a0_7 a0_8 a1_7 a1_8).bind fun t129 => (if t129 = true then ((laws_eqFrameS.f k l0_9 l1_9).bind fun t130 => (if t130 = true then (if (a0_10 != a1_10) = true then (some false) else (some true)) else (some false))) else (some false))) else (some false))) else (some false)) else (some false))) else (some false)))) = some r := h
 clear h
 have HC3 := Aside0.mk H
 clear H
 go_enter Try.func22, Try.ntmps22
 go_upto_if 9 with (first | ((with_reducible refine gd 2 rfl ?_); refine bx (N := 2) (cs := #[.bool a0_0, .slice A0_1 l0_1.length c0_1, .int .i64 a0_2, .slice A0_3 l0_3.length c0_3, .int .i64 a0_4, .string a0_5, .slice A0_6 l0_6.length c0_6, .int .i64 a0_7, .int .i64 a0_8, .slice A0_9 l0_9.length c0_9, .bool a0_10]) (t := 42) ?_; intro gb124 hg w4 hbox hb; have BK124 := Aside0.mk (hbox); have GW124 := gw HB hg; have GE124 := GW124; replace HB := Aside0.mk (below_step (zb HB) hb); clear hb hbox hg) | ((with_reducible refine gd 3 rfl ?_); refine bx (N := 3) (cs := #[.bool a1_0, .slice A1_1 l1_1.length c1_1, .int .i64 a1_2, .slice A1_3 l1_3.length c1_3, .int .i64 a1_4, .string a1_5, .slice A1_6 l1_6.length c1_6, .int .i64 a1_7, .int .i64 a1_8, .slice A1_9 l1_9.length c1_9, .bool a1_10]) (t := 42) ?_; intro gb125 hg w5 hbox hb; have BK125 := Aside0.mk (hbox); have GW125 := gw HB hg; have GE125 := GW125; replace HB := Aside0.mk (below_step (zb HB) hb); obtain ⟨NB124_125, NB125_124⟩ := nb BK124 hg; replace BK124 := kb BK124 hb; clear hb hbox hg; have hnb6 := NB124_125.out; have hnc6 := NB125_124.out; obtain ⟨hcz7_0, hcz7_1, hcz7_2, hcz7_3, hcz7_4, hcz7_5, hcz7_6, hcz7_7, hcz7_8, hcz7_9, hcz7_10, hfz7_0, hfz7_1, hfz7_2, hfz7_3, hfz7_4, hfz7_5, hfz7_6, hfz7_7, hfz7_8, hfz7_9, hfz7_10⟩ := c11 BK124; obtain ⟨hcz8_0, hcz8_1, hcz8_2, hcz8_3, hcz8_4, hcz8_5, hcz8_6, hcz8_7, hcz8_8, hcz8_9, hcz8_10, hfz8_0, hfz8_1, hfz8_2, hfz8_3, hfz8_4, hfz8_5, hfz8_6, hfz8_7, hfz8_8, hfz8_9, hfz8_10⟩ := c11 BK125))
 (try simp only [Act.put, s1, s2, s3])
 have H := HC3.out
 clear HC3
 replace H := sp H
 rcases H with ⟨c9, H⟩ | ⟨c9, H⟩
 ·skip
  have c9b0 : (a0_0 != a1_0) = true := c9
  (try (have c9b1 : decide (a0_0 = a1_0) = false := by simpa using c9))
  (try (have c9b2 : (a0_0 == a1_0) = false := by simpa using c9))
  (try (have c9b3 : ¬ (a0_0 = a1_0) := by simpa using c9))
  clear c9
  (first | rw [c9b0] | rw [c9b1] | rw [c9b2] | (simp only [i64_w, i32_w]; rw [c9b0]) | skip)
  obtain rfl := Option.some.inj H
  go_wp2
  go_ret
  exact ⟨ze, zb HB⟩
 ·skip
  have c9b0 : (a0_0 != a1_0) = false := by simpa using c9
  (try (have c9b1 : decide (a0_0 = a1_0) = true := by simpa using c9))
  (try (have c9b2 : (a0_0 == a1_0) = true := by simpa using c9))
  clear c9
  (first | rw [c9b0] | rw [c9b1] | rw [c9b2] | (simp only [i64_w, i32_w]; rw [c9b0]) | skip)
  obtain ⟨t126, A10, H⟩ := ob H
  (try dsimp only at H)
  by_cases c11 : t126 = true
  ·subst c11
   rw [if_pos rfl] at H
   obtain ⟨t127, A12, H⟩ := ob H
   (try dsimp only at H)
   have HC13 := Aside0.mk H
   clear H
   have hnb14 := NB124_125.out
   have hnc14 := NB125_124.out
   obtain ⟨hcz15_0, hcz15_1, hcz15_2, hcz15_3, hcz15_4, hcz15_5, hcz15_6, hcz15_7, hcz15_8, hcz15_9, hcz15_10, hfz15_0, hfz15_1, hfz15_2, hfz15_3, hfz15_4, hfz15_5, hfz15_6, hfz15_7, hfz15_8, hfz15_9, hfz15_10⟩ := c11 BK124
   obtain ⟨hcz16_0, hcz16_1, hcz16_2, hcz16_3, hcz16_4, hcz16_5, hcz16_6, hcz16_7, hcz16_8, hcz16_9, hcz16_10, hfz16_0, hfz16_1, hfz16_2, hfz16_3, hfz16_4, hfz16_5, hfz16_6, hfz16_7, hfz16_8, hfz16_9, hfz16_10⟩ := c11 BK125
   go_upto_if 21 with (first | ((with_reducible refine gq 67 rfl ?_); refine gl (some 14) Try.func67 #[.agg #[.slice A0_1 l0_1.length c0_1, .int .i64 a0_2], .agg #[.slice A1_1 l1_1.length c1_1, .int .i64 a1_2]] ?_; (with_reducible refine (laws_eqTable.calls k _ _ l0_1 a0_2 _ _ l1_1 a1_2 true _ ?side1 ?side2 ?side3 ?side4 A10.out).mono ?_); (case side1 => exact zc (Kd.C_below HR0_1.out HB.out)); (case side2 => exact HC0_1.out); (case side3 => exact zc (Kd.C_below HR1_1.out HB.out)); (case side4 => exact HC1_1.out); rintro e w17 ⟨rfl, hb⟩; refine ⟨_, rfl, ?_⟩; replace BK124 := kb BK124 hb; replace BK125 := kb BK125 hb; replace HB := Aside0.mk (below_step (zb HB) hb); (try clear hb); obtain ⟨hcz18_0, hcz18_1, hcz18_2, hcz18_3, hcz18_4, hcz18_5, hcz18_6, hcz18_7, hcz18_8, hcz18_9, hcz18_10, hfz18_0, hfz18_1, hfz18_2, hfz18_3, hfz18_4, hfz18_5, hfz18_6, hfz18_7, hfz18_8, hfz18_9, hfz18_10⟩ := c11 BK124; obtain ⟨hcz19_0, hcz19_1, hcz19_2, hcz19_3, hcz19_4, hcz19_5, hcz19_6, hcz19_7, hcz19_8, hcz19_9, hcz19_10, hfz19_0, hfz19_1, hfz19_2, hfz19_3, hfz19_4, hfz19_5, hfz19_6, hfz19_7, hfz19_8, hfz19_9, hfz19_10⟩ := c11 BK125) | ((with_reducible refine gq 67 rfl ?_); refine gl (some 20) Try.func67 #[.agg #[.slice A0_3 l0_3.length c0_3, .int .i64 a0_4], .agg #[.slice A1_3 l1_3.length c1_3, .int .i64 a1_4]] ?_; (with_reducible refine (laws_eqTable.calls k _ _ l0_3 a0_4 _ _ l1_3 a1_4 t127 _ ?side1 ?side2 ?side3 ?side4 A12.out).mono ?_); (case side1 => exact zc (Kd.C_below HR0_3.out HB.out)); (case side2 => exact HC0_3.out); (case side3 => exact zc (Kd.C_below HR1_3.out HB.out)); (case side4 => exact HC1_3.out); rintro e w20 ⟨rfl, hb⟩; refine ⟨_, rfl, ?_⟩; replace BK124 := kb BK124 hb; replace BK125 := kb BK125 hb; replace HB := Aside0.mk (below_step (zb HB) hb); (try clear hb)))
   (try simp only [Act.put, s1, s2, s3])
   have H := HC13.out
   clear HC13
   by_cases c21 : t127 = true
   ·subst c21
    rw [if_pos rfl] at H
    replace H := sp H
    rcases H with ⟨c22, H⟩ | ⟨c22, H⟩
    ·skip
     have c22b0 : (a0_5.toList == a1_5.toList) = true := beq_iff_eq.mpr c22
     have c22b1 : (a0_5.toList != a1_5.toList) = false := bne_eq_false_iff_eq.mpr c22
     clear c22
     (first | rw [c22b0] | rw [c22b1] | rw [c22b2] | (simp only [i64_w, i32_w]; rw [c22b0]) | skip)
     obtain ⟨t128, A23, H⟩ := ob H
     (try dsimp only at H)
     by_cases c24 : t128 = true
     ·subst c24
      rw [if_pos rfl] at H
      obtain ⟨t129, A25, H⟩ := ob H
      (try dsimp only at H)
      have HC26 := Aside0.mk H
      clear H
      have hnb27 := NB124_125.out
      have hnc27 := NB125_124.out
      obtain ⟨hcz28_0, hcz28_1, hcz28_2, hcz28_3, hcz28_4, hcz28_5, hcz28_6, hcz28_7, hcz28_8, hcz28_9, hcz28_10, hfz28_0, hfz28_1, hfz28_2, hfz28_3, hfz28_4, hfz28_5, hfz28_6, hfz28_7, hfz28_8, hfz28_9, hfz28_10⟩ := c11 BK124
      obtain ⟨hcz29_0, hcz29_1, hcz29_2, hcz29_3, hcz29_4, hcz29_5, hcz29_6, hcz29_7, hcz29_8, hcz29_9, hcz29_10, hfz29_0, hfz29_1, hfz29_2, hfz29_3, hfz29_4, hfz29_5, hfz29_6, hfz29_7, hfz29_8, hfz29_9, hfz29_10⟩ := c11 BK125
      go_upto_if 38 with (first | ((with_reducible refine gq 68 rfl ?_); refine gl (some 31) Try.func68 #[.slice A0_6 l0_6.length c0_6, .slice A1_6 l1_6.length c1_6] ?_; (with_reducible refine (laws_eqStreamS.calls k _ _ l0_6 _ _ l1_6 true _ ?side1 ?side2 ?side3 ?side4 A23.out).mono ?_); (case side1 => exact zc (Kd.C_below HR0_6.out HB.out)); (case side2 => exact HC0_6.out); (case side3 => exact zc (Kd.C_below HR1_6.out HB.out)); (case side4 => exact HC1_6.out); rintro e w30 ⟨rfl, hb⟩; refine ⟨_, rfl, ?_⟩; replace BK124 := kb BK124 hb; replace BK125 := kb BK125 hb; replace HB := Aside0.mk (below_step (zb HB) hb); (try clear hb); obtain ⟨hcz31_0, hcz31_1, hcz31_2, hcz31_3, hcz31_4, hcz31_5, hcz31_6, hcz31_7, hcz31_8, hcz31_9, hcz31_10, hfz31_0, hfz31_1, hfz31_2, hfz31_3, hfz31_4, hfz31_5, hfz31_6, hfz31_7, hfz31_8, hfz31_9, hfz31_10⟩ := c11 BK124; obtain ⟨hcz32_0, hcz32_1, hcz32_2, hcz32_3, hcz32_4, hcz32_5, hcz32_6, hcz32_7, hcz32_8, hcz32_9, hcz32_10, hfz32_0, hfz32_1, hfz32_2, hfz32_3, hfz32_4, hfz32_5, hfz32_6, hfz32_7, hfz32_8, hfz32_9, hfz32_10⟩ := c11 BK125) | ((with_reducible refine gq 69 rfl ?_); refine gl (some 37) Try.func69 #[.agg #[.int .i64 a0_7, .int .i64 a0_8], .agg #[.int .i64 a1_7, .int .i64 a1_8]] ?_; (with_reducible refine (laws_eqFlow.calls a0_7 a0_8 a1_7 a1_8 t129 _ A25.out).mono ?_); rintro e w33 ⟨rfl, hb⟩; refine ⟨_, rfl, ?_⟩; replace BK124 := kb BK124 hb; replace BK125 := kb BK125 hb; replace HB := Aside0.mk (below_step (zb HB) hb); (try clear hb)))
      (try simp only [Act.put, s1, s2, s3])
      have H := HC26.out
      clear HC26
      by_cases c34 : t129 = true
      ·subst c34
       rw [if_pos rfl] at H
       obtain ⟨t130, A35, H⟩ := ob H
       (try dsimp only at H)
       by_cases c36 : t130 = true
       ·subst c36
        rw [if_pos rfl] at H
        by_cases c37 : (a0_10 != a1_10) = true
        ·rw [if_pos c37] at H
         have c37b0 : (a0_10 != a1_10) = true := c37
         (try (have c37b1 : decide (a0_10 = a1_10) = false := by simpa using c37))
         (try (have c37b2 : (a0_10 == a1_10) = false := by simpa using c37))
         (try (have c37b3 : ¬ (a0_10 = a1_10) := by simpa using c37))
         clear c37
         (first | rw [c37b0] | rw [c37b1] | rw [c37b2] | (simp only [i64_w, i32_w]; rw [c37b0]) | skip)
         obtain rfl := Option.some.inj H
         have hnb38 := NB124_125.out
         have hnc38 := NB125_124.out
         obtain ⟨hcz39_0, hcz39_1, hcz39_2, hcz39_3, hcz39_4, hcz39_5, hcz39_6, hcz39_7, hcz39_8, hcz39_9, hcz39_10, hfz39_0, hfz39_1, hfz39_2, hfz39_3, hfz39_4, hfz39_5, hfz39_6, hfz39_7, hfz39_8, hfz39_9, hfz39_10⟩ := c11 BK124
         obtain ⟨hcz40_0, hcz40_1, hcz40_2, hcz40_3, hcz40_4, hcz40_5, hcz40_6, hcz40_7, hcz40_8, hcz40_9, hcz40_10, hfz40_0, hfz40_1, hfz40_2, hfz40_3, hfz40_4, hfz40_5, hfz40_6, hfz40_7, hfz40_8, hfz40_9, hfz40_10⟩ := c11 BK125
         go_wp2_with (first | ((with_reducible refine gq 44 rfl ?_); refine gl (some 43) Try.func44 #[.slice A0_9 l0_9.length c0_9, .slice A1_9 l1_9.length c1_9] ?_; (with_reducible refine (laws_eqFrameS.calls k _ _ l0_9 _ _ l1_9 true _ ?side1 ?side2 ?side3 ?side4 A35.out).mono ?_); (case side1 => exact zc (Kd.C_below HR0_9.out HB.out)); (case side2 => exact HC0_9.out); (case side3 => exact zc (Kd.C_below HR1_9.out HB.out)); (case side4 => exact HC1_9.out); rintro e w41 ⟨rfl, hb⟩; refine ⟨_, rfl, ?_⟩; replace BK124 := kb BK124 hb; replace BK125 := kb BK125 hb; replace HB := Aside0.mk (below_step (zb HB) hb); (try clear hb); obtain ⟨hcz42_0, hcz42_1, hcz42_2, hcz42_3, hcz42_4, hcz42_5, hcz42_6, hcz42_7, hcz42_8, hcz42_9, hcz42_10, hfz42_0, hfz42_1, hfz42_2, hfz42_3, hfz42_4, hfz42_5, hfz42_6, hfz42_7, hfz42_8, hfz42_9, hfz42_10⟩ := c11 BK124; obtain ⟨hcz43_0, hcz43_1, hcz43_2, hcz43_3, hcz43_4, hcz43_5, hcz43_6, hcz43_7, hcz43_8, hcz43_9, hcz43_10, hfz43_0, hfz43_1, hfz43_2, hfz43_3, hfz43_4, hfz43_5, hfz43_6, hfz43_7, hfz43_8, hfz43_9, hfz43_10⟩ := c11 BK125))
         go_ret
         exact ⟨ze, zb HB⟩
        ·rw [if_neg c37] at H
         have c37b0 : (a0_10 != a1_10) = false := by simpa using c37
         (try (have c37b1 : decide (a0_10 = a1_10) = true := by simpa using c37))
         (try (have c37b2 : (a0_10 == a1_10) = true := by simpa using c37))
         clear c37
         (first | rw [c37b0] | rw [c37b1] | rw [c37b2] | (simp only [i64_w, i32_w]; rw [c37b0]) | skip)
         obtain rfl := Option.some.inj H
         have hnb44 := NB124_125.out
         have hnc44 := NB125_124.out
         obtain ⟨hcz45_0, hcz45_1, hcz45_2, hcz45_3, hcz45_4, hcz45_5, hcz45_6, hcz45_7, hcz45_8, hcz45_9, hcz45_10, hfz45_0, hfz45_1, hfz45_2, hfz45_3, hfz45_4, hfz45_5, hfz45_6, hfz45_7, hfz45_8, hfz45_9, hfz45_10⟩ := c11 BK124
         obtain ⟨hcz46_0, hcz46_1, hcz46_2, hcz46_3, hcz46_4, hcz46_5, hcz46_6, hcz46_7, hcz46_8, hcz46_9, hcz46_10, hfz46_0, hfz46_1, hfz46_2, hfz46_3, hfz46_4, hfz46_5, hfz46_6, hfz46_7, hfz46_8, hfz46_9, hfz46_10⟩ := c11 BK125
         go_wp2_with (first | ((with_reducible refine gq 44 rfl ?_); refine gl (some 43) Try.func44 #[.slice A0_9 l0_9.length c0_9, .slice A1_9 l1_9.length c1_9] ?_; (with_reducible refine (laws_eqFrameS.calls k _ _ l0_9 _ _ l1_9 true _ ?side1 ?side2 ?side3 ?side4 A35.out).mono ?_); (case side1 => exact zc (Kd.C_below HR0_9.out HB.out)); (case side2 => exact HC0_9.out); (case side3 => exact zc (Kd.C_below HR1_9.out HB.out)); (case side4 => exact HC1_9.out); rintro e w47 ⟨rfl, hb⟩; refine ⟨_, rfl, ?_⟩; replace BK124 := kb BK124 hb; replace BK125 := kb BK125 hb; replace HB := Aside0.mk (below_step (zb HB) hb); (try clear hb); obtain ⟨hcz48_0, hcz48_1, hcz48_2, hcz48_3, hcz48_4, hcz48_5, hcz48_6, hcz48_7, hcz48_8, hcz48_9, hcz48_10, hfz48_0, hfz48_1, hfz48_2, hfz48_3, hfz48_4, hfz48_5, hfz48_6, hfz48_7, hfz48_8, hfz48_9, hfz48_10⟩ := c11 BK124; obtain ⟨hcz49_0, hcz49_1, hcz49_2, hcz49_3, hcz49_4, hcz49_5, hcz49_6, hcz49_7, hcz49_8, hcz49_9, hcz49_10, hfz49_0, hfz49_1, hfz49_2, hfz49_3, hfz49_4, hfz49_5, hfz49_6, hfz49_7, hfz49_8, hfz49_9, hfz49_10⟩ := c11 BK125))
         go_ret
         exact ⟨ze, zb HB⟩
       ·replace c36 := Bool.eq_false_iff.mpr c36
        subst c36
        rw [if_neg (show ¬ (false = true) by decide)] at H
        obtain rfl := Option.some.inj H
        have hnb50 := NB124_125.out
        have hnc50 := NB125_124.out
        obtain ⟨hcz51_0, hcz51_1, hcz51_2, hcz51_3, hcz51_4, hcz51_5, hcz51_6, hcz51_7, hcz51_8, hcz51_9, hcz51_10, hfz51_0, hfz51_1, hfz51_2, hfz51_3, hfz51_4, hfz51_5, hfz51_6, hfz51_7, hfz51_8, hfz51_9, hfz51_10⟩ := c11 BK124
        obtain ⟨hcz52_0, hcz52_1, hcz52_2, hcz52_3, hcz52_4, hcz52_5, hcz52_6, hcz52_7, hcz52_8, hcz52_9, hcz52_10, hfz52_0, hfz52_1, hfz52_2, hfz52_3, hfz52_4, hfz52_5, hfz52_6, hfz52_7, hfz52_8, hfz52_9, hfz52_10⟩ := c11 BK125
        go_wp2_with (first | ((with_reducible refine gq 44 rfl ?_); refine gl (some 43) Try.func44 #[.slice A0_9 l0_9.length c0_9, .slice A1_9 l1_9.length c1_9] ?_; (with_reducible refine (laws_eqFrameS.calls k _ _ l0_9 _ _ l1_9 false _ ?side1 ?side2 ?side3 ?side4 A35.out).mono ?_); (case side1 => exact zc (Kd.C_below HR0_9.out HB.out)); (case side2 => exact HC0_9.out); (case side3 => exact zc (Kd.C_below HR1_9.out HB.out)); (case side4 => exact HC1_9.out); rintro e w53 ⟨rfl, hb⟩; refine ⟨_, rfl, ?_⟩; replace BK124 := kb BK124 hb; replace BK125 := kb BK125 hb; replace HB := Aside0.mk (below_step (zb HB) hb); (try clear hb)))
        go_ret
        exact ⟨ze, zb HB⟩
      ·replace c34 := Bool.eq_false_iff.mpr c34
       subst c34
       rw [if_neg (show ¬ (false = true) by decide)] at H
       obtain rfl := Option.some.inj H
       go_wp2
       go_ret
       exact ⟨ze, zb HB⟩
     ·replace c24 := Bool.eq_false_iff.mpr c24
      subst c24
      rw [if_neg (show ¬ (false = true) by decide)] at H
      obtain rfl := Option.some.inj H
      have hnb54 := NB124_125.out
      have hnc54 := NB125_124.out
      obtain ⟨hcz55_0, hcz55_1, hcz55_2, hcz55_3, hcz55_4, hcz55_5, hcz55_6, hcz55_7, hcz55_8, hcz55_9, hcz55_10, hfz55_0, hfz55_1, hfz55_2, hfz55_3, hfz55_4, hfz55_5, hfz55_6, hfz55_7, hfz55_8, hfz55_9, hfz55_10⟩ := c11 BK124
      obtain ⟨hcz56_0, hcz56_1, hcz56_2, hcz56_3, hcz56_4, hcz56_5, hcz56_6, hcz56_7, hcz56_8, hcz56_9, hcz56_10, hfz56_0, hfz56_1, hfz56_2, hfz56_3, hfz56_4, hfz56_5, hfz56_6, hfz56_7, hfz56_8, hfz56_9, hfz56_10⟩ := c11 BK125
      go_wp2_with (first | ((with_reducible refine gq 68 rfl ?_); refine gl (some 31) Try.func68 #[.slice A0_6 l0_6.length c0_6, .slice A1_6 l1_6.length c1_6] ?_; (with_reducible refine (laws_eqStreamS.calls k _ _ l0_6 _ _ l1_6 false _ ?side1 ?side2 ?side3 ?side4 A23.out).mono ?_); (case side1 => exact zc (Kd.C_below HR0_6.out HB.out)); (case side2 => exact HC0_6.out); (case side3 => exact zc (Kd.C_below HR1_6.out HB.out)); (case side4 => exact HC1_6.out); rintro e w57 ⟨rfl, hb⟩; refine ⟨_, rfl, ?_⟩; replace BK124 := kb BK124 hb; replace BK125 := kb BK125 hb; replace HB := Aside0.mk (below_step (zb HB) hb); (try clear hb)))
      go_ret
      exact ⟨ze, zb HB⟩
    ·skip
     have c22b0 : (a0_5.toList == a1_5.toList) = false := beq_eq_false_iff_ne.mpr c22
     have c22b1 : (a0_5.toList != a1_5.toList) = true := bne_iff_ne.mpr c22
     (first | rw [c22b0] | rw [c22b1] | rw [c22b2] | (simp only [i64_w, i32_w]; rw [c22b0]) | skip)
     obtain rfl := Option.some.inj H
     have hnb58 := NB124_125.out
     have hnc58 := NB125_124.out
     obtain ⟨hcz59_0, hcz59_1, hcz59_2, hcz59_3, hcz59_4, hcz59_5, hcz59_6, hcz59_7, hcz59_8, hcz59_9, hcz59_10, hfz59_0, hfz59_1, hfz59_2, hfz59_3, hfz59_4, hfz59_5, hfz59_6, hfz59_7, hfz59_8, hfz59_9, hfz59_10⟩ := c11 BK124
     obtain ⟨hcz60_0, hcz60_1, hcz60_2, hcz60_3, hcz60_4, hcz60_5, hcz60_6, hcz60_7, hcz60_8, hcz60_9, hcz60_10, hfz60_0, hfz60_1, hfz60_2, hfz60_3, hfz60_4, hfz60_5, hfz60_6, hfz60_7, hfz60_8, hfz60_9, hfz60_10⟩ := c11 BK125
     go_wp2
     go_ret
     exact ⟨ze, zb HB⟩
   ·replace c21 := Bool.eq_false_iff.mpr c21
    subst c21
    rw [if_neg (show ¬ (false = true) by decide)] at H
    obtain rfl := Option.some.inj H
    go_wp2
    go_ret
    exact ⟨ze, zb HB⟩
  ·replace c11 := Bool.eq_false_iff.mpr c11
   subst c11
   rw [if_neg (show ¬ (false = true) by decide)] at H
   obtain rfl := Option.some.inj H
   have hnb61 := NB124_125.out
   have hnc61 := NB125_124.out
   obtain ⟨hcz62_0, hcz62_1, hcz62_2, hcz62_3, hcz62_4, hcz62_5, hcz62_6, hcz62_7, hcz62_8, hcz62_9, hcz62_10, hfz62_0, hfz62_1, hfz62_2, hfz62_3, hfz62_4, hfz62_5, hfz62_6, hfz62_7, hfz62_8, hfz62_9, hfz62_10⟩ := c11 BK124
   obtain ⟨hcz63_0, hcz63_1, hcz63_2, hcz63_3, hcz63_4, hcz63_5, hcz63_6, hcz63_7, hcz63_8, hcz63_9, hcz63_10, hfz63_0, hfz63_1, hfz63_2, hfz63_3, hfz63_4, hfz63_5, hfz63_6, hfz63_7, hfz63_8, hfz63_9, hfz63_10⟩ := c11 BK125
   go_wp2_with (first | ((with_reducible refine gq 67 rfl ?_); refine gl (some 14) Try.func67 #[.agg #[.slice A0_1 l0_1.length c0_1, .int .i64 a0_2], .agg #[.slice A1_1 l1_1.length c1_1, .int .i64 a1_2]] ?_; (with_reducible refine (laws_eqTable.calls k _ _ l0_1 a0_2 _ _ l1_1 a1_2 false _ ?side1 ?side2 ?side3 ?side4 A10.out).mono ?_); (case side1 => exact zc (Kd.C_below HR0_1.out HB.out)); (case side2 => exact HC0_1.out); (case side3 => exact zc (Kd.C_below HR1_1.out HB.out)); (case side4 => exact HC1_1.out); rintro e w64 ⟨rfl, hb⟩; refine ⟨_, rfl, ?_⟩; replace BK124 := kb BK124 hb; replace BK125 := kb BK125 hb; replace HB := Aside0.mk (below_step (zb HB) hb); (try clear hb)))
   go_ret
   exact ⟨ze, zb HB⟩

/-! ### impl_in: function 61 -/
-- thin
def impl_in.f (a0 : Int) (a1 : Int) (a2 : Int) : Option (Bool) := if a1 ≤ a0 then (some (decide (a0 ≤ a2))) else (some false)
set_option maxHeartbeats 8000000 in
set_option maxRecDepth 100000 in
theorem impl_in.calls (a0 : Int) (a1 : Int) (a2 : Int) (r : Bool) (w : World) (h : impl_in.f a0 a1 a2 = some r) :
  Calls Try.prog 61 #[.int .i64 a0, .int .i64 a1, .int .i64 a2] w fun e w' => e = .returned (.bool r) ∧ Drawn0 w w' := by
 have H : (if a1 ≤ a0 then (some (decide (a0 ≤ a2))) else (some false)) = some r := h
 clear h
 replace H := sp H
 rcases H with ⟨c4, H⟩ | ⟨c4, H⟩
 ·skip
  have c4b0 := decide_eq_true c4
  clear c4
  obtain rfl := Option.some.inj H
  go_enter Try.func61, Try.ntmps61
  go_wp2
  go_ret
  exact ⟨zs, by repeat (first | exact Drawn0.refl _ | apply Drawn0.step)⟩
 ·skip
  have c4b0 := decide_eq_false c4
  clear c4
  obtain rfl := Option.some.inj H
  go_enter Try.func61, Try.ntmps61
  go_wp2
  go_ret
  exact ⟨zs, by repeat (first | exact Drawn0.refl _ | apply Drawn0.step)⟩

-- NOT PRINTED: function 171 (bytealg_IndexByteString)

-- NOT PRINTED: function 167 (stringslite_IndexByte)

/-! ### strings_IndexByte: function 153 -/
-- by hand
def TryL.lays137_ren : Go.Shelf.Ren := ⟨fun | 137 => 153 | 217 => 167 | 266 => 171 | n => n, fun | 9 => 9 | 5 => 5 | 3 => 3 | n => n, fun | n => n⟩
theorem TryL.lays137 : Go.Proofs.Lays.n137 Try.prog TryL.lays137_ren := {
  mixed := by kernel_rfl
  f137 := Try.func153.trans (congrArg some (by kernel_rfl))
  f217 := Try.func167.trans (congrArg some (by kernel_rfl))
  f266 := Try.func171.trans (congrArg some (by kernel_rfl))
  t3 := Try.underlying3
  a3 := Try.isAgg3
  z3 := Try.sizeOf3
  v3 := Try.zeroValue3
  t5 := Try.underlying5
  a5 := Try.isAgg5
  z5 := Try.sizeOf5
  v5 := Try.zeroValue5
  t9 := Try.underlying9
  a9 := Try.isAgg9
  z9 := Try.sizeOf9
  v9 := Try.zeroValue9 }
/-- The place of the first byte that is a1; -1, if there is none. -/
def strings_IndexByte.f (a0 : ByteArray) (a1 : Int) : Option (Int) := some (Lib.indexByte a0.data.toList a1.toNat.toUInt8)
theorem strings_IndexByte.calls (a0 : ByteArray) (a1 : Int) (r : Int) (w : World) (h : strings_IndexByte.f a0 a1 = some r) :
    Calls Try.prog 153 #[.string a0, .int .u8 a1] w fun e w' => e = .returned (.int .i64 r) ∧ Drawn0 w w' := by
  simp only [strings_IndexByte.f, Option.some.injEq] at h
  subst h
  refine (Go.Proofs.Any.strings_IndexByte TryL.lays137 a0 a1 w).mono ?_
  rintro e w' ⟨rfl, rfl⟩
  exact ⟨rfl, Drawn0.refl _⟩

/-! ### impl_WordOk: function 122 -/
-- thin
def impl_WordOk.l0 : Nat → ByteArray → Int → Int → Option (Bool)
 | 0, _, _, _ => none
 | k + 1, x0, x5, x6 => if x6 < x5 then (if 0 ≤ x6 then (if x6 < (x0.size : Int) then ((strings_IndexByte.f (⟨#[101, 116, 97, 111, 105, 110, 115, 114, 104, 108, 48, 49, 50, 51, 52, 53, 54, 55, 56, 57, 100, 99, 117, 109, 102, 112, 103, 119, 121, 98, 118, 107, 120, 106, 113, 122, 58, 47, 45]⟩ : ByteArray) (bt x0 x6)).bind fun t131 => (if t131 < 0 then (some false) else (impl_WordOk.l0 k x0 x5 (wrap64 (x6 + 1))))) else (none)) else (none)) else (some (decide ((x0.size : Int) ≤ 16)))
def impl_WordOk.f (k : Nat) (a0 : ByteArray) : Option (Bool) := impl_WordOk.l0 k a0 (a0.size : Int) 0
theorem impl_WordOk.mono_l : ∀ k, (∀ y0 y1 y2, LeO (impl_WordOk.l0 k y0 y1 y2) (impl_WordOk.l0 (k + 1) y0 y1 y2))
 | 0 => fun _ _ _ r h => by simp [impl_WordOk.l0] at h
 | k + 1 => by
  have ih0 := impl_WordOk.mono_l k
  ·intro y0 y1 y2
   unfold impl_WordOk.l0
   exact zm
theorem impl_WordOk.mono : ∀ a0 k, LeO (impl_WordOk.f k a0) (impl_WordOk.f (k + 1) a0) := by
 intro a0 k
 have ih0 := impl_WordOk.mono_l k
 unfold impl_WordOk.f
 exact zm
set_option maxHeartbeats 8000000 in
set_option maxRecDepth 100000 in
theorem impl_WordOk.calls (k : Nat) (a0 : ByteArray) (r : Bool) (w : World) (h : impl_WordOk.f k a0 = some r) :
  Calls Try.prog 122 #[.string a0] w fun e w' => e = .returned (.bool r) ∧ Drawn0 w w' := by
 have H : (impl_WordOk.l0 k a0 (a0.size : Int) 0) = some r := h
 clear h
 have H' := Aside0.mk H
 clear H
 go_enter Try.func122, Try.ntmps122
 go_wp2
 go_loopg [6] k (fun kq v6 w' => ∃ (x6_1 : Int), v6 = .int .i64 x6_1 ∧ Aside0 (impl_WordOk.l0 kq a0 (a0.size : Int) x6_1 = some r) ∧ Aside0 (kq ≤ k) ∧ Drawn0 w w')
 case atStart => exact ⟨(0), zs, H', ⟨Nat.le_refl _⟩, by repeat (first | exact Drawn0.refl _ | apply Drawn0.step)⟩
 case round =>
  clear H'
  try clear c1
  obtain ⟨x6_1, rfl, HA, HK1, ⟨m1, rfl⟩⟩ := hrel
  cases gk with
  | zero => exact absurd HA.out (by simp [impl_WordOk.l0])
  | succ k1 =>
   have H := HA.out
   clear HA
   simp only [impl_WordOk.l0] at H
   replace H := sp H
   rcases H with ⟨c2, H⟩ | ⟨c2, H⟩
   ·skip
    have c2b0 := decide_eq_true c2
    clear c2
    by_cases c3 : 0 ≤ x6_1
    ·rw [if_pos c3] at H
     have c3b0 := decide_eq_true c3
     clear c3
     by_cases c4 : x6_1 < (a0.size : Int)
     ·rw [if_pos c4] at H
      have c4b0 := decide_eq_true c4
      clear c4
      obtain ⟨t131, A6, H⟩ := ob H
      (try dsimp only at H)
      by_cases c7 : t131 < 0
      ·rw [if_pos c7] at H
       have c7b0 := decide_eq_true c7
       clear c7
       obtain rfl := Option.some.inj H
       have p5 : 0 ≤ (x6_1 : Int) := of_decide_eq_true za
       have q5 : x6_1 < (a0.size : Int) := of_decide_eq_true za
       have hx5 := bt_at a0 x6_1
       replace p5 := eq_true p5
       replace q5 := eq_true q5
       go_wp2_with (first | ((with_reducible refine gq 153 rfl ?_); refine gl (some 12) Try.func153 #[.string (⟨#[101, 116, 97, 111, 105, 110, 115, 114, 104, 108, 48, 49, 50, 51, 52, 53, 54, 55, 56, 57, 100, 99, 117, 109, 102, 112, 103, 119, 121, 98, 118, 107, 120, 106, 113, 122, 58, 47, 45]⟩ : ByteArray), .int .u8 (bt a0 x6_1)] ?_; (with_reducible refine (strings_IndexByte.calls (⟨#[101, 116, 97, 111, 105, 110, 115, 114, 104, 108, 48, 49, 50, 51, 52, 53, 54, 55, 56, 57, 100, 99, 117, 109, 102, 112, 103, 119, 121, 98, 118, 107, 120, 106, 113, 122, 58, 47, 45]⟩ : ByteArray) (bt a0 x6_1) t131 _ A6.out).mono ?_); rintro e w' ⟨rfl, ⟨nd, rfl⟩⟩; refine ⟨_, rfl, ?_⟩))
       go_ret
       exact ⟨zs, by repeat (first | exact Drawn0.refl _ | apply Drawn0.step)⟩
      ·rw [if_neg c7] at H
       have c7b0 := decide_eq_false c7
       clear c7
       have H' := Aside0.mk H
       clear H
       have p5 : 0 ≤ (x6_1 : Int) := of_decide_eq_true za
       have q5 : x6_1 < (a0.size : Int) := of_decide_eq_true za
       have hx5 := bt_at a0 x6_1
       replace p5 := eq_true p5
       replace q5 := eq_true q5
       go_wp2_with (first | ((with_reducible refine gq 153 rfl ?_); refine gl (some 12) Try.func153 #[.string (⟨#[101, 116, 97, 111, 105, 110, 115, 114, 104, 108, 48, 49, 50, 51, 52, 53, 54, 55, 56, 57, 100, 99, 117, 109, 102, 112, 103, 119, 121, 98, 118, 107, 120, 106, 113, 122, 58, 47, 45]⟩ : ByteArray), .int .u8 (bt a0 x6_1)] ?_; (with_reducible refine (strings_IndexByte.calls (⟨#[101, 116, 97, 111, 105, 110, 115, 114, 104, 108, 48, 49, 50, 51, 52, 53, 54, 55, 56, 57, 100, 99, 117, 109, 102, 112, 103, 119, 121, 98, 118, 107, 120, 106, 113, 122, 58, 47, 45]⟩ : ByteArray) (bt a0 x6_1) t131 _ A6.out).mono ?_); rintro e w' ⟨rfl, ⟨nd, rfl⟩⟩; refine ⟨_, rfl, ?_⟩))
       go_roundg k1
       case measure => have := HK1.out; omega
       case rel => exact ⟨(wrap64 (x6_1 + 1)), zs, H', ⟨by have := HK1.out; omega⟩, by repeat (first | exact Drawn0.refl _ | apply Drawn0.step)⟩
     ·rw [if_neg c4] at H
      exact absurd H (by simp)
    ·rw [if_neg c3] at H
     exact absurd H (by simp)
   ·skip
    have c2b0 := decide_eq_false c2
    clear c2
    obtain rfl := Option.some.inj H
    go_wp2
    go_ret
    exact ⟨zs, by repeat (first | exact Drawn0.refl _ | apply Drawn0.step)⟩

/-! ### impl_FieldOk: function 64 -/
-- thin
def impl_FieldOk.f (k : Nat) (a0_0 : ByteArray) (a0_1 : ByteArray) (a0_2 : Bool) : Option (Bool) := (impl_WordOk.f k a0_0).bind fun t133 => (if t133 = true then ((impl_WordOk.f k a0_1).bind fun t134 => (if t134 = true then (some (a0_0.toList != ([] : List UInt8))) else (some false))) else (some false))
theorem impl_FieldOk.mono : ∀ a0 a1 a2 k, LeO (impl_FieldOk.f k a0 a1 a2) (impl_FieldOk.f (k + 1) a0 a1 a2) := by
 intro a0 a1 a2 k
 unfold impl_FieldOk.f
 have m0 := @impl_WordOk.mono
 exact zm
set_option maxHeartbeats 8000000 in
set_option maxRecDepth 100000 in
theorem impl_FieldOk.calls (k : Nat) (a0_0 : ByteArray) (a0_1 : ByteArray) (a0_2 : Bool) (r : Bool) (w : World) (h : impl_FieldOk.f k a0_0 a0_1 a0_2 = some r) :
  Calls Try.prog 64 #[.agg #[.string a0_0, .string a0_1, .bool a0_2]] w fun e w' => e = .returned (.bool r) ∧ Below w.heap.size w w' := by
 have hu88 := Try.underlying88
 have HB := Aside0.mk (Below.refl w.heap.size w)
 have H : ((impl_WordOk.f k a0_0).bind fun t133 => (if t133 = true then ((impl_WordOk.f k a0_1).bind fun t134 => (if t134 = true then (some (a0_0.toList != ([] : List UInt8))) else (some false))) else (some false))) = some r := h
 clear h
 obtain ⟨t133, A2, H⟩ := ob H
 (try dsimp only at H)
 by_cases c3 : t133 = true
 ·subst c3
  rw [if_pos rfl] at H
  obtain ⟨t134, A4, H⟩ := ob H
  (try dsimp only at H)
  by_cases c5 : t134 = true
  ·subst c5
   rw [if_pos rfl] at H
   obtain rfl := Option.some.inj H
   go_enter Try.func64, Try.ntmps64
   go_wp2_with (first | ((with_reducible refine gd 1 rfl ?_); refine bx (N := 1) (cs := #[.string a0_0, .string a0_1, .bool a0_2]) (t := 88) ?_; intro gb132 hg w6 hbox hb; have BK132 := Aside0.mk (hbox); have GW132 := gw HB hg; have GE132 := GW132; replace HB := Aside0.mk (below_step (zb HB) hb); clear hb hbox hg; obtain ⟨hcz7_0, hcz7_1, hcz7_2, hfz7_0, hfz7_1, hfz7_2⟩ := c3 BK132) | ((with_reducible refine gq 122 rfl ?_); refine gl (some 5) Try.func122 #[.string a0_0] ?_; (with_reducible refine (impl_WordOk.calls k a0_0 true _ A2.out).mono ?_); rintro e w' ⟨rfl, ⟨nd, rfl⟩⟩; refine ⟨_, rfl, ?_⟩) | (go_at_call 122; (with_reducible refine (impl_WordOk.calls k a0_1 true _ A4.out).mono ?_); rintro e w' ⟨rfl, ⟨nd, rfl⟩⟩))
   go_ret
   exact ⟨ze, zb HB⟩
  ·replace c5 := Bool.eq_false_iff.mpr c5
   subst c5
   rw [if_neg (show ¬ (false = true) by decide)] at H
   obtain rfl := Option.some.inj H
   go_enter Try.func64, Try.ntmps64
   go_wp2_with (first | ((with_reducible refine gd 1 rfl ?_); refine bx (N := 1) (cs := #[.string a0_0, .string a0_1, .bool a0_2]) (t := 88) ?_; intro gb132 hg w8 hbox hb; have BK132 := Aside0.mk (hbox); have GW132 := gw HB hg; have GE132 := GW132; replace HB := Aside0.mk (below_step (zb HB) hb); clear hb hbox hg; obtain ⟨hcz9_0, hcz9_1, hcz9_2, hfz9_0, hfz9_1, hfz9_2⟩ := c3 BK132) | ((with_reducible refine gq 122 rfl ?_); refine gl (some 5) Try.func122 #[.string a0_0] ?_; (with_reducible refine (impl_WordOk.calls k a0_0 true _ A2.out).mono ?_); rintro e w' ⟨rfl, ⟨nd, rfl⟩⟩; refine ⟨_, rfl, ?_⟩) | (go_at_call 122; (with_reducible refine (impl_WordOk.calls k a0_1 false _ A4.out).mono ?_); rintro e w' ⟨rfl, ⟨nd, rfl⟩⟩))
   go_ret
   exact ⟨ze, zb HB⟩
 ·replace c3 := Bool.eq_false_iff.mpr c3
  subst c3
  rw [if_neg (show ¬ (false = true) by decide)] at H
  obtain rfl := Option.some.inj H
  go_enter Try.func64, Try.ntmps64
  go_wp2_with (first | ((with_reducible refine gd 1 rfl ?_); refine bx (N := 1) (cs := #[.string a0_0, .string a0_1, .bool a0_2]) (t := 88) ?_; intro gb132 hg w10 hbox hb; have BK132 := Aside0.mk (hbox); have GW132 := gw HB hg; have GE132 := GW132; replace HB := Aside0.mk (below_step (zb HB) hb); clear hb hbox hg; obtain ⟨hcz11_0, hcz11_1, hcz11_2, hfz11_0, hfz11_1, hfz11_2⟩ := c3 BK132) | ((with_reducible refine gq 122 rfl ?_); refine gl (some 5) Try.func122 #[.string a0_0] ?_; (with_reducible refine (impl_WordOk.calls k a0_0 false _ A2.out).mono ?_); rintro e w' ⟨rfl, ⟨nd, rfl⟩⟩; refine ⟨_, rfl, ?_⟩))
  go_ret
  exact ⟨ze, zb HB⟩

/-! ### impl_TableOk_1: function 63 -/
-- thin
def impl_TableOk_1.f (k : Nat) (a0_0 : ByteArray) (a0_1 : ByteArray) (a0_2 : Bool) : Option (Bool) := (impl_FieldOk.f k a0_0 a0_1 a0_2).bind fun t136 => (if t136 = true then (some a0_2) else (some true))
theorem impl_TableOk_1.mono : ∀ a0 a1 a2 k, LeO (impl_TableOk_1.f k a0 a1 a2) (impl_TableOk_1.f (k + 1) a0 a1 a2) := by
 intro a0 a1 a2 k
 unfold impl_TableOk_1.f
 have m0 := @impl_FieldOk.mono
 exact zm
set_option maxHeartbeats 8000000 in
set_option maxRecDepth 100000 in
theorem impl_TableOk_1.calls (k : Nat) (a0_0 : ByteArray) (a0_1 : ByteArray) (a0_2 : Bool) (r : Bool) (w : World) (h : impl_TableOk_1.f k a0_0 a0_1 a0_2 = some r) :
  Calls Try.prog 63 #[.agg #[.string a0_0, .string a0_1, .bool a0_2]] w fun e w' => e = .returned (.bool r) ∧ Below w.heap.size w w' := by
 have hu88 := Try.underlying88
 have HB := Aside0.mk (Below.refl w.heap.size w)
 have H : ((impl_FieldOk.f k a0_0 a0_1 a0_2).bind fun t136 => (if t136 = true then (some a0_2) else (some true))) = some r := h
 clear h
 obtain ⟨t136, A2, H⟩ := ob H
 (try dsimp only at H)
 by_cases c3 : t136 = true
 ·subst c3
  rw [if_pos rfl] at H
  obtain rfl := Option.some.inj H
  go_enter Try.func63, Try.ntmps63
  go_wp2_with (first | ((with_reducible refine gd 1 rfl ?_); refine bx (N := 1) (cs := #[.string a0_0, .string a0_1, .bool a0_2]) (t := 88) ?_; intro gb135 hg w4 hbox hb; have BK135 := Aside0.mk (hbox); have GW135 := gw HB hg; have GE135 := GW135; replace HB := Aside0.mk (below_step (zb HB) hb); clear hb hbox hg; obtain ⟨hcz5_0, hcz5_1, hcz5_2, hfz5_0, hfz5_1, hfz5_2⟩ := c3 BK135) | ((with_reducible refine gq 64 rfl ?_); refine gl (some 4) Try.func64 #[.agg #[.string a0_0, .string a0_1, .bool a0_2]] ?_; (with_reducible refine (impl_FieldOk.calls k a0_0 a0_1 a0_2 true _ A2.out).mono ?_); rintro e w6 ⟨rfl, hb⟩; refine ⟨_, rfl, ?_⟩; replace BK135 := kb BK135 hb; replace HB := Aside0.mk (below_step (zb HB) hb); (try clear hb); obtain ⟨hcz7_0, hcz7_1, hcz7_2, hfz7_0, hfz7_1, hfz7_2⟩ := c3 BK135))
  go_ret
  exact ⟨ze, zb HB⟩
 ·replace c3 := Bool.eq_false_iff.mpr c3
  subst c3
  rw [if_neg (show ¬ (false = true) by decide)] at H
  obtain rfl := Option.some.inj H
  go_enter Try.func63, Try.ntmps63
  go_wp2_with (first | ((with_reducible refine gd 1 rfl ?_); refine bx (N := 1) (cs := #[.string a0_0, .string a0_1, .bool a0_2]) (t := 88) ?_; intro gb135 hg w8 hbox hb; have BK135 := Aside0.mk (hbox); have GW135 := gw HB hg; have GE135 := GW135; replace HB := Aside0.mk (below_step (zb HB) hb); clear hb hbox hg; obtain ⟨hcz9_0, hcz9_1, hcz9_2, hfz9_0, hfz9_1, hfz9_2⟩ := c3 BK135) | ((with_reducible refine gq 64 rfl ?_); refine gl (some 4) Try.func64 #[.agg #[.string a0_0, .string a0_1, .bool a0_2]] ?_; (with_reducible refine (impl_FieldOk.calls k a0_0 a0_1 a0_2 false _ A2.out).mono ?_); rintro e w10 ⟨rfl, hb⟩; refine ⟨_, rfl, ?_⟩; replace BK135 := kb BK135 hb; replace HB := Aside0.mk (below_step (zb HB) hb); (try clear hb)))
  go_ret
  exact ⟨ze, zb HB⟩

/-! ### impl_HeadOk_1: function 109 -/
-- thin
def impl_HeadOk_1.f (k : Nat) (a0_0 : ByteArray) (a0_1 : ByteArray) (a0_2 : Bool) : Option (Bool) := (impl_FieldOk.f k a0_0 a0_1 a0_2).bind fun t138 => (some (!t138))
theorem impl_HeadOk_1.mono : ∀ a0 a1 a2 k, LeO (impl_HeadOk_1.f k a0 a1 a2) (impl_HeadOk_1.f (k + 1) a0 a1 a2) := by
 intro a0 a1 a2 k
 unfold impl_HeadOk_1.f
 have m0 := @impl_FieldOk.mono
 exact zm
set_option maxHeartbeats 8000000 in
set_option maxRecDepth 100000 in
theorem impl_HeadOk_1.calls (k : Nat) (a0_0 : ByteArray) (a0_1 : ByteArray) (a0_2 : Bool) (r : Bool) (w : World) (h : impl_HeadOk_1.f k a0_0 a0_1 a0_2 = some r) :
  Calls Try.prog 109 #[.agg #[.string a0_0, .string a0_1, .bool a0_2]] w fun e w' => e = .returned (.bool r) ∧ Below w.heap.size w w' := by
 have hu88 := Try.underlying88
 have HB := Aside0.mk (Below.refl w.heap.size w)
 have H : ((impl_FieldOk.f k a0_0 a0_1 a0_2).bind fun t138 => (some (!t138))) = some r := h
 clear h
 obtain ⟨t138, A2, H⟩ := ob H
 (try dsimp only at H)
 obtain rfl := Option.some.inj H
 go_enter Try.func109, Try.ntmps109
 go_wp2_with (first | ((with_reducible refine gd 1 rfl ?_); refine bx (N := 1) (cs := #[.string a0_0, .string a0_1, .bool a0_2]) (t := 88) ?_; intro gb137 hg w3 hbox hb; have BK137 := Aside0.mk (hbox); have GW137 := gw HB hg; have GE137 := GW137; replace HB := Aside0.mk (below_step (zb HB) hb); clear hb hbox hg; obtain ⟨hcz4_0, hcz4_1, hcz4_2, hfz4_0, hfz4_1, hfz4_2⟩ := c3 BK137) | ((with_reducible refine gq 64 rfl ?_); refine gl (some 4) Try.func64 #[.agg #[.string a0_0, .string a0_1, .bool a0_2]] ?_; (with_reducible refine (impl_FieldOk.calls k a0_0 a0_1 a0_2 t138 _ A2.out).mono ?_); rintro e w5 ⟨rfl, hb⟩; refine ⟨_, rfl, ?_⟩; replace BK137 := kb BK137 hb; replace HB := Aside0.mk (below_step (zb HB) hb); (try clear hb)))
 go_ret
 exact ⟨ze, zb HB⟩

/-! ### IndexFunc_Field: function 121 -/
-- by hand
theorem load_list (P : Program) (W : World) (a : Addr) (cs : List Value) (k : Nat) (hk : cs.length = k) (h : ∀ j v, cs[j]? = some v → W.cell? (a.add j) = some v) :
    Sem.run P (loadCellsFrom a 0 k #[]) W = .ok cs.toArray W := by
  have := run_loadCells_list (P := P) (w := W) a cs h
  rw [hk] at this
  exact this
/-- The first place, from i on, at which p says yes; -1, if there is none. -/
def idxFrom (p : S88 → Option Bool) : List (S88) → Int → Option Int
  | [], _ => some (-1)
  | x :: l, i => (p x).bind fun b => if b then some i else idxFrom p l (i + 1)
/-- What a predicate's value does when it is called. -/
def PredIs (P : Program) (g : Nat) (lb : Array Value) (p : S88 → Option Bool) (w : World) : Prop :=
  ∀ (W : World) (x : S88) (b : Bool), Below w.heap.size w W → p x = some b → Calls P g (#[.agg #[.string x.f0, .string x.f1, .bool x.f2]] ++ lb) W fun e w' => e = .returned (.bool b) ∧ Below w.heap.size w w'
set_option maxHeartbeats 4000000 in
set_option maxRecDepth 100000 in
theorem IndexFunc_calls (g : Nat) (lb : Array Value) (p : S88 → Option Bool) (eg : ∀ args w, (callFunc g args).run Try.prog w = .ok (.enter g args) w) (A0 : Option Addr) (c0 : Nat) (l0 : List (S88)) (r : Int) (w : World) (hr0 : Kd.C k88 w A0 l0.length l0) (hc0 : l0.length ≤ c0)
    (hp : PredIs Try.prog g lb p w) (h : idxFrom p l0 0 = some r) (hl : l0.length ≤ 1000000000) :
    Calls Try.prog 121 #[.slice A0 l0.length c0, .func (.func g) #[] lb] w fun e w' => e = .returned (.int .i64 r) ∧ Below w.heap.size w w' := by
  have HR0 := Aside0.mk hr0
  have HP := Aside0.mk hp
  have H := Aside0.mk h
  clear hr0 hp h
  go_enter Try.func121, Try.ntmps121
  go_wp2
  go_loopg [5, 8] (l0.length) (fun kq v5 v8 w' => ∃ i : Nat, v8 = .int .i64 i ∧ Aside0 (kq + i = l0.length) ∧ Aside0 (idxFrom p (l0.drop i) i = some r) ∧ Aside0 (Below w.heap.size w w'))
  case atStart => exact ⟨0, rfl, ⟨by omega⟩, ⟨by simpa using H.out⟩, ⟨Below.refl _ _⟩⟩
  case round =>
    obtain ⟨i, rfl, HK, HX, HB⟩ := hrel
    have hk := HK.out
    by_cases hj : i < l0.length
    · have h0 : (0 : Int) ≤ (i : Int) := by omega
      have h1 : (i : Int) < (l0.length : Int) := by omega
      obtain ⟨x, hx⟩ : ∃ x, l0[i]? = some x := ⟨_, List.getElem?_eq_getElem hj⟩
      have hdrop : l0.drop i = x :: l0.drop (i + 1) := by
        rw [List.drop_eq_getElem_cons hj]
        rw [List.getElem?_eq_getElem hj] at hx
        rw [Option.some.inj hx]
      obtain ⟨_, _, hrd⟩ := Kd.C_below HR0.out HB.out
      obtain ⟨ad, e1, hcell⟩ := hrd (by omega)
      obtain ⟨c, hc1, hc2, hc3⟩ := hcell i x hx
      have hc4 := k88_open hc2
      subst hc4
      subst e1
      have q0 : wr.cell? (ad.add (i * 3)) = some (.string x.f0) := by have h9 := hc3 0 _ rfl; exact h9
      have q1 : wr.cell? ⟨(ad.add (i * 3)).block, (ad.add (i * 3)).off + 1, none⟩ = some (.string x.f1) := by have h9 := hc3 1 _ rfl; rw [← Go.Addr.add_add] at h9; exact h9
      have q2 : wr.cell? ⟨(ad.add (i * 3)).block, (ad.add (i * 3)).off + 2, none⟩ = some (.bool x.f2) := by have h9 := hc3 2 _ rfl; rw [← Go.Addr.add_add] at h9; exact h9
      have hX := HX.out
      rw [hdrop, idxFrom] at hX
      obtain ⟨b, hb1, hb2⟩ := Option.bind_eq_some_iff.1 hX
      have hcall := HP.out wr x b HB.out hb1
      have HX2 := Aside0.mk hb2
      cases gk with
      | zero => omega
      | succ k1 =>
      clear hk hX hb2 hrd hcell hc1 hc2 hc3 hdrop
      cases b with
      | true =>
        go_wp2_with (go_at_fn g; refine hcall.mono ?_; rintro e w' ⟨rfl, hb'⟩)
        go_ret
        have h9 : some (i : Int) = some r := by simpa using HX2.out
        exact ⟨by rw [← Option.some.inj h9]; rfl, hb'⟩
      | false =>
        go_wp2_with (go_at_fn g; refine hcall.mono ?_; rintro e w' ⟨rfl, hb'⟩)
        go_roundg k1
        case measure => have := HK.out; omega
        case rel =>
          refine ⟨i + 1, by go_num, ⟨by have := HK.out; omega⟩, ⟨?_⟩, ⟨hb'⟩⟩
          have h9 := HX2.out
          rw [if_neg (by decide)] at h9
          rw [show ((i + 1 : Nat) : Int) = (i : Int) + 1 by omega]
          exact h9
    · have e : i = l0.length := by omega
      have hltz : ¬ (i : Int) < (l0.length : Int) := by omega
      clear hk hj
      have HE := Aside0.mk e
      clear e
      go_wp2
      go_ret
      have e := HE.out
      subst e
      have hX := HX.out
      rw [List.drop_length, idxFrom] at hX
      exact ⟨by rw [← Option.some.inj hX]; rfl, HB.out⟩

/-! ### ContainsFunc_Field: function 62 -/
-- by hand
set_option maxHeartbeats 4000000 in
set_option maxRecDepth 100000 in
theorem ContainsFunc_calls (g : Nat) (lb : Array Value) (p : S88 → Option Bool) (eg : ∀ args w, (callFunc g args).run Try.prog w = .ok (.enter g args) w) (A0 : Option Addr) (c0 : Nat) (l0 : List (S88)) (r : Int) (w : World) (hr0 : Kd.C k88 w A0 l0.length l0) (hc0 : l0.length ≤ c0)
    (hp : PredIs Try.prog g lb p w) (h : idxFrom p l0 0 = some r) (hl : l0.length ≤ 1000000000) :
    Calls Try.prog 62 #[.slice A0 l0.length c0, .func (.func g) #[] lb] w fun e w' => e = .returned (.bool (decide (0 ≤ r))) ∧ Below w.heap.size w w' := by
  go_enter Try.func62, Try.ntmps62
  go_wp2_with (go_at_call 121; refine (IndexFunc_calls g lb p eg A0 c0 l0 r _ hr0 hc0 hp h hl).mono ?_; rintro e w' ⟨rfl, hb'⟩)
  go_ret
  exact ⟨rfl, hb'⟩
/-- What function g says of a field. -/
def ContainsFunc_Field.p (k : Nat) (g : Nat) (x : S88) : Option Bool := if g = 63 then impl_TableOk_1.f k x.f0 x.f1 x.f2 else if g = 109 then impl_HeadOk_1.f k x.f0 x.f1 x.f2 else none
def ContainsFunc_Field.known (g : Nat) : Prop := g = 63 ∨ g = 109 ∨ False
instance (g : Nat) : Decidable (ContainsFunc_Field.known g) := by unfold ContainsFunc_Field.known; infer_instance
def ContainsFunc_Field.f (k : Nat) (l0 : List (S88)) (a1 : Nat) : Option Bool :=
  if l0.length ≤ 1000000000 ∧ ContainsFunc_Field.known a1 then (idxFrom (ContainsFunc_Field.p k a1) l0 0).bind fun r => some (decide (0 ≤ r)) else none
theorem idxFrom_mono {p q : S88 → Option Bool} (hpq : ∀ x, LeO (p x) (q x)) : ∀ (l : List (S88)) (i : Int), LeO (idxFrom p l i) (idxFrom q l i)
  | [], _ => fun r h => h
  | x :: l, i => by
    intro r h
    unfold idxFrom at h ⊢
    obtain ⟨b, hb, hr⟩ := Option.bind_eq_some_iff.1 h
    rw [hpq x b hb]
    simp only [Option.bind_some]
    cases b with
    | true => exact hr
    | false => exact idxFrom_mono hpq l (i + 1) r hr
theorem ContainsFunc_Field.p_mono (k g : Nat) (x : S88) : LeO (ContainsFunc_Field.p k g x) (ContainsFunc_Field.p (k + 1) g x) := by
  unfold ContainsFunc_Field.p
  refine LeO.ite (impl_TableOk_1.mono _ _ _ _) ?_
  refine LeO.ite (impl_HeadOk_1.mono _ _ _ _) ?_
  exact LeO.refl _
theorem ContainsFunc_Field.mono : ∀ a0 a1 k, LeO (ContainsFunc_Field.f k a0 a1) (ContainsFunc_Field.f (k + 1) a0 a1) := by
  intro a0 a1 k
  unfold ContainsFunc_Field.f
  refine LeO.ite ?_ (LeO.refl _)
  exact LeO.bind (idxFrom_mono (fun x => ContainsFunc_Field.p_mono k a1 x) a0 0) (fun _ => LeO.refl _)
theorem ContainsFunc_Field.enters (a1 : Nat) (h : ContainsFunc_Field.known a1) : ∀ args w, (callFunc a1 args).run Try.prog w = .ok (.enter a1 args) w := by
  unfold ContainsFunc_Field.known at h
  rcases h with e | h
  · subst e; exact enters_of Try.func63 (by kernel_rfl) rfl
  rcases h with e | h
  · subst e; exact enters_of Try.func109 (by kernel_rfl) rfl
  cases h
theorem ContainsFunc_Field.pred (k a1 : Nat) (w : World) : PredIs Try.prog a1 #[] (ContainsFunc_Field.p k a1) w := by
  intro W x b hW h
  unfold ContainsFunc_Field.p at h
  split at h
  · rename_i e; subst e; rw [Array.append_empty]; exact (impl_TableOk_1.calls k x.f0 x.f1 x.f2 b W h).mono fun e w2 h2 => ⟨h2.1, below_step hW h2.2⟩
  split at h
  · rename_i e; subst e; rw [Array.append_empty]; exact (impl_HeadOk_1.calls k x.f0 x.f1 x.f2 b W h).mono fun e w2 h2 => ⟨h2.1, below_step hW h2.2⟩
  cases h
set_option maxHeartbeats 4000000 in
set_option maxRecDepth 100000 in
theorem ContainsFunc_Field.calls (k : Nat) (A0 : Option Addr) (c0 : Nat) (l0 : List (S88)) (a1 : Nat) (r : Bool) (w : World) (hr0 : Kd.C k88 w A0 l0.length l0) (hc0 : l0.length ≤ c0) (h : ContainsFunc_Field.f k l0 a1 = some r) :
    Calls Try.prog 62 #[.slice A0 l0.length c0, .func (.func a1) #[] #[]] w fun e w' => e = .returned (.bool r) ∧ Below w.heap.size w w' := by
  unfold ContainsFunc_Field.f at h
  split at h
  case isFalse => cases h
  rename_i hl
  obtain ⟨i, hi, hr⟩ := Option.bind_eq_some_iff.1 h
  obtain rfl := Option.some.inj hr
  exact ContainsFunc_calls a1 #[] _ (ContainsFunc_Field.enters a1 hl.2) A0 c0 _ i w hr0 hc0 (ContainsFunc_Field.pred k a1 w) hi hl.1

end Go.Proofs.Ytlpibelofcabhaa.PFnExactEndOk
