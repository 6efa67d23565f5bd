-- WRITTEN BY a turned print (wip/tools of the prover's repo)
import Derived.Test.YtlpibelofcabhaaPFnExactWorldNewx0
import Derived.Test.YtlpibelofcabhaaPFnExactWorldNewx3
namespace Go.Proofs.Ytlpibelofcabhaa.PFnExactWorldNew
open Go.RowKit Go.Proofs.YtlpibelofcabhaaW.PrintWords Go.Proofs.YtlpibelofcabhaaW.PrintLast Go.Proofs.YtlpibelofcabhaaW.PrintMore Go.Proofs.Ytlpibelofcabhaa.Lm
attribute [local go_sem] max2_int min2_int max_two min_two max_three min_three max_four min_four   -- for this text's walks alone
set_option linter.unusedVariables false
set_option linter.unusedSimpArgs false

/-! ### laws_heldFieldS: function 126 -/
-- thin
def laws_heldFieldS.l0 : Nat → List (S88) → Int → Int → Option (Int)
 | 0, _, _, _ => none
 | k + 1, x0, x1, x5 => if x5 < (x0.length : Int) then (if 0 ≤ x5 then ((laws_markText.f k x1).bind fun t194 => (if ((rd_T88 x0 x5).f0).toList = t194.toList then ((laws_markText.f k (wrap64 (x1 + 1))).bind fun t196 => (if ((rd_T88 x0 x5).f1).toList = t196.toList then (if (((rd_T88 x0 x5).f2) != ((Int.tmod (wrap64 ((wrap64 (x1 + 1)) + 1)) 3) == 0)) = true then (some (-1)) else (laws_heldFieldS.l0 k x0 (wrap64 ((wrap64 ((wrap64 (x1 + 1)) + 1)) + 1)) (wrap64 (x5 + 1)))) else (some (-1)))) else (some (-1)))) else (none)) else (some x1)
def laws_heldFieldS.f (k : Nat) (l0 : List (S88)) (a1 : Int) : Option (Int) := laws_heldFieldS.l0 k l0 a1 0
theorem laws_heldFieldS.mono_l : ∀ k, (∀ y0 y1 y2, LeO (laws_heldFieldS.l0 k y0 y1 y2) (laws_heldFieldS.l0 (k + 1) y0 y1 y2))
 | 0 => fun _ _ _ r h => by simp [laws_heldFieldS.l0] at h
 | k + 1 => by
  have ih0 := laws_heldFieldS.mono_l k
  ·intro y0 y1 y2
   unfold laws_heldFieldS.l0
   have m0 := @laws_markText.mono
   exact zm
theorem laws_heldFieldS.mono : ∀ a0 a1 k, LeO (laws_heldFieldS.f k a0 a1) (laws_heldFieldS.f (k + 1) a0 a1) := by
 intro a0 a1 k
 have ih0 := laws_heldFieldS.mono_l k
 unfold laws_heldFieldS.f
 have m0 := @laws_markText.mono
 exact zm
def laws_heldFieldS.T4 : Bool × List (List Nat × List Nat) := (true, [([], []), ([], []), ([0, 1], [0, 1]), ([2], [2]), ([3], [3]), ([], []), ([5], [5]), ([4, 6], [4, 6])])
def laws_heldFieldS.B4 : List Nat := [0, 0, 3, 7, 15, 0, 32, 127]
theorem laws_heldFieldS.tab4 : rtab .any (opsOf Try.f126 4) = laws_heldFieldS.T4 := by kernel_rfl
theorem laws_heldFieldS.bits4 : waitsOk laws_heldFieldS.T4.2 laws_heldFieldS.B4 = true := by kernel_rfl
def laws_heldFieldS.T7 : Bool × List (List Nat × List Nat) := (true, [([], []), ([], []), ([0, 1], [0, 1]), ([2], [2]), ([3], [3]), ([], []), ([5], [5]), ([4, 6], [4, 6])])
def laws_heldFieldS.B7 : List Nat := [0, 0, 3, 7, 15, 0, 32, 127]
theorem laws_heldFieldS.tab7 : rtab .any (opsOf Try.f126 7) = laws_heldFieldS.T7 := by kernel_rfl
theorem laws_heldFieldS.bits7 : waitsOk laws_heldFieldS.T7.2 laws_heldFieldS.B7 = true := by kernel_rfl
set_option maxHeartbeats 8000000 in
set_option maxRecDepth 100000 in
theorem laws_heldFieldS.calls (k : Nat) (A0 : Option Addr) (c0 : Nat) (l0 : List (S88)) (a1 : Int) (r : Int) (w : World) (hr0 : Kd.C k88 w A0 l0.length l0) (hc0 : l0.length ≤ c0) (h : laws_heldFieldS.f k l0 a1 = some r) :
  Calls Try.prog 126 #[.slice A0 l0.length c0, .int .i64 a1] w fun e w' => e = .returned (.int .i64 r) ∧ Below w.heap.size w w' := by
 have HR0 := Aside0.mk hr0
 have HC0 := Aside0.mk hc0
 clear hr0 hc0
 have HB := Aside0.mk (Below.refl w.heap.size w)
 have H : (laws_heldFieldS.l0 k l0 a1 0) = some r := h
 clear h
 have H' := Aside0.mk H
 clear H
 go_enter Try.func126, Try.ntmps126
 go_wp2
 go_loopg [1, 5] k (fun kq v1 v5 w' => ∃ (x1_1 : Int) (x5_1 : Int), v1 = .int .i64 x1_1 ∧ v5 = .int .i64 x5_1 ∧ Aside0 (laws_heldFieldS.l0 kq l0 x1_1 x5_1 = some r) ∧ Aside0 (kq ≤ k) ∧ Aside0 (Below w.heap.size w w'))
 case atStart => exact ⟨(a1), (0), zs, zs, H', ⟨Nat.le_refl _⟩, ⟨zb HB⟩⟩
 case round =>
  clear H'
  try clear c1
  try clear p2
  obtain ⟨x1_1, x5_1, rfl, rfl, HA, HK1, HB⟩ := hrel
  cases gk with
  | zero => exact absurd HA.out (by simp [laws_heldFieldS.l0])
  | succ k1 =>
   have H := HA.out
   clear HA
   simp only [laws_heldFieldS.l0] at H
   replace H := sp H
   rcases H with ⟨c3, H⟩ | ⟨c3, H⟩
   ·skip
    have c3b0 := decide_eq_true c3
    clear c3
    by_cases c4 : 0 ≤ x5_1
    ·rw [if_pos c4] at H
     have c4b0 := decide_eq_true c4
     clear c4
     obtain ⟨t194, A5, H⟩ := ob H
     (try dsimp only at H)
     have HC6 := Aside0.mk H
     clear H
     try go_wp2
     replace HB := Aside0.mk (below_drew1 HB.out)
     have p193 : 0 ≤ (x5_1 : Int) := of_decide_eq_true za
     have q193 : x5_1 < (l0.length : Int) := of_decide_eq_true za
     obtain ⟨ad193, e193, hx193_0, hx193_1, hx193_2⟩ := at_T88 HR0.out x5_1 p193 q193
     have hw193_2 := hx193_2
     have hw193_1 := hx193_1
     have hw193_0 := hx193_0
     cases e193
     replace hx193_0 := cb0 hx193_0 HB
     replace hx193_1 := cb0 hx193_1 HB
     replace hx193_2 := cb0 hx193_2 HB
     replace p193 := eq_true p193
     replace q193 := eq_true q193
     refine st 8 (an (cb hw193_0 HB) (an (cb hw193_1 HB) (cb hw193_2 HB))) (fun hHeld => ?_); refine with_tabW laws_heldFieldS.tab4 laws_heldFieldS.bits4 (fun HT_ HW_ => ?_)
     generalize wr.drew = w7 at HB hx193_0 hx193_1 hx193_2 hHeld ⊢
     refine pu 0 (some 12) (bm 8 1) rfl rfl ?_
     refine pu 1 (some 13) (bm 8 3) rfl rfl ?_
     refine pu 2 (some 14) (bm 8 7) rfl rfl ?_
     refine pu 3 (some 15) (bm 8 15) rfl rfl ?_
     refine pu 5 (some 17) (bm 8 47) rfl rfl ?_
     refine tk 4 (some 16) (bm 8 63) rfl rfl hHeld ?_
     refine one_ (i := 6) (N := some 18) (bm 8 127) rfl rfl (one_of HT_.out (by kernel_rfl)) (by decide) (fun K hK => ?_)
     refine gs Try.func102 #[.int .i64 x1_1] ?_
     with_reducible refine (laws_markText.calls k1 x1_1 t194 _ A5.out).mono ?_
     rintro e w8 ⟨rfl, hb⟩
     refine ⟨_, rfl, ?_⟩
     replace HB := Aside0.mk (below_step (zb HB) hb)
     (try clear hb)
     refine hK.out _ _ (an (cb hw193_0 HB) (an (cb hw193_1 HB) (cb hw193_2 HB))) (fun hHeld => ?_)
     clear hK K
     refine nm ?_
     refine pu 7 (some 19) (bm 8 255) rfl rfl ?_
     refine done_ (done_of HT_.out (by kernel_rfl)) ?_
     go_upto_if 19 with (fail)
     have H := HC6.out
     clear HC6
     by_cases c9 : ((rd_T88 l0 x5_1).f0).toList = t194.toList
     ·rw [if_pos c9] at H
      have c9b0 : (((rd_T88 l0 x5_1).f0).toList == t194.toList) = true := beq_iff_eq.mpr c9
      have c9b1 : (((rd_T88 l0 x5_1).f0).toList != t194.toList) = false := bne_eq_false_iff_eq.mpr c9
      clear c9
      (first | rw [c9b0] | rw [c9b1] | rw [c9b2] | (simp only [i64_w, i32_w]; rw [c9b0]) | skip)
      obtain ⟨t196, A10, H⟩ := ob H
      (try dsimp only at H)
      have HC11 := Aside0.mk H
      clear H
      try go_wp2
      replace HB := Aside0.mk (below_drew1 HB.out)
      have p195 : 0 ≤ (x5_1 : Int) := of_decide_eq_true za
      have q195 : x5_1 < (l0.length : Int) := of_decide_eq_true za
      obtain ⟨ad195, e195, hx195_0, hx195_1, hx195_2⟩ := at_T88 HR0.out x5_1 p195 q195
      have hw195_2 := hx195_2
      have hw195_1 := hx195_1
      have hw195_0 := hx195_0
      obtain rfl : ad193 = ad195 := (by injection e195)
      replace hx195_0 := cb0 hx195_0 HB
      replace hx195_1 := cb0 hx195_1 HB
      replace hx195_2 := cb0 hx195_2 HB
      replace p195 := eq_true p195
      replace q195 := eq_true q195
      refine st 8 (an (cb hw195_0 HB) (an (cb hw195_1 HB) (cb hw195_2 HB))) (fun hHeld => ?_); refine with_tabW laws_heldFieldS.tab7 laws_heldFieldS.bits7 (fun HT_ HW_ => ?_)
      generalize w8.drew = w12 at HB hx195_0 hx195_1 hx195_2 hHeld ⊢
      refine pu 0 (some 22) (bm 8 1) rfl rfl ?_
      refine pu 1 (some 23) (bm 8 3) rfl rfl ?_
      refine pu 2 (some 24) (bm 8 7) rfl rfl ?_
      refine pu 3 (some 25) (bm 8 15) rfl rfl ?_
      refine pu 5 (some 27) (bm 8 47) rfl rfl ?_
      refine tk 4 (some 26) (bm 8 63) rfl rfl hHeld ?_
      refine one_ (i := 6) (N := some 28) (bm 8 127) rfl rfl (one_of HT_.out (by kernel_rfl)) (by decide) (fun K hK => ?_)
      refine gs Try.func102 #[.int .i64 (wrap64 (x1_1 + 1))] ?_
      with_reducible refine (laws_markText.calls k1 (wrap64 (x1_1 + 1)) t196 _ A10.out).mono ?_
      rintro e w13 ⟨rfl, hb⟩
      refine ⟨_, rfl, ?_⟩
      replace HB := Aside0.mk (below_step (zb HB) hb)
      (try clear hb)
      refine hK.out _ _ (an (cb hw195_0 HB) (an (cb hw195_1 HB) (cb hw195_2 HB))) (fun hHeld => ?_)
      clear hK K
      refine nm ?_
      refine pu 7 (some 29) (bm 8 255) rfl rfl ?_
      refine done_ (done_of HT_.out (by kernel_rfl)) ?_
      go_upto_if 29 with (fail)
      have H := HC11.out
      clear HC11
      by_cases c14 : ((rd_T88 l0 x5_1).f1).toList = t196.toList
      ·rw [if_pos c14] at H
       have c14b0 : (((rd_T88 l0 x5_1).f1).toList == t196.toList) = true := beq_iff_eq.mpr c14
       have c14b1 : (((rd_T88 l0 x5_1).f1).toList != t196.toList) = false := bne_eq_false_iff_eq.mpr c14
       clear c14
       (first | rw [c14b0] | rw [c14b1] | rw [c14b2] | (simp only [i64_w, i32_w]; rw [c14b0]) | skip)
       by_cases c15 : (((rd_T88 l0 x5_1).f2) != ((Int.tmod (wrap64 ((wrap64 (x1_1 + 1)) + 1)) 3) == 0)) = true
       ·rw [if_pos c15] at H
        have c15b0 : (((rd_T88 l0 x5_1).f2) != ((Int.tmod (wrap64 ((wrap64 (x1_1 + 1)) + 1)) 3) == 0)) = true := c15
        (try (have c15b1 : decide (((rd_T88 l0 x5_1).f2) = ((Int.tmod (wrap64 ((wrap64 (x1_1 + 1)) + 1)) 3) == 0)) = false := by simpa using c15))
        (try (have c15b2 : (((rd_T88 l0 x5_1).f2) == ((Int.tmod (wrap64 ((wrap64 (x1_1 + 1)) + 1)) 3) == 0)) = false := by simpa using c15))
        (try (have c15b3 : ¬ (((rd_T88 l0 x5_1).f2) = ((Int.tmod (wrap64 ((wrap64 (x1_1 + 1)) + 1)) 3) == 0)) := by simpa using c15))
        clear c15
        obtain rfl := Option.some.inj H
        have p197 : 0 ≤ (x5_1 : Int) := of_decide_eq_true za
        have q197 : x5_1 < (l0.length : Int) := of_decide_eq_true za
        obtain ⟨ad197, e197, hx197_0, hx197_1, hx197_2⟩ := at_T88 HR0.out x5_1 p197 q197
        obtain rfl : ad193 = ad197 := (by injection e197)
        replace hx197_0 := cb0 hx197_0 HB
        replace hx197_1 := cb0 hx197_1 HB
        replace hx197_2 := cb0 hx197_2 HB
        replace p197 := eq_true p197
        replace q197 := eq_true q197
        go_wp2
        go_ret
        exact ⟨ze, zb HB⟩
       ·rw [if_neg c15] at H
        have c15b0 : (((rd_T88 l0 x5_1).f2) != ((Int.tmod (wrap64 ((wrap64 (x1_1 + 1)) + 1)) 3) == 0)) = false := by simpa using c15
        (try (have c15b1 : decide (((rd_T88 l0 x5_1).f2) = ((Int.tmod (wrap64 ((wrap64 (x1_1 + 1)) + 1)) 3) == 0)) = true := by simpa using c15))
        (try (have c15b2 : (((rd_T88 l0 x5_1).f2) == ((Int.tmod (wrap64 ((wrap64 (x1_1 + 1)) + 1)) 3) == 0)) = true := by simpa using c15))
        clear c15
        have H' := Aside0.mk H
        clear H
        have p197 : 0 ≤ (x5_1 : Int) := of_decide_eq_true za
        have q197 : x5_1 < (l0.length : Int) := of_decide_eq_true za
        obtain ⟨ad197, e197, hx197_0, hx197_1, hx197_2⟩ := at_T88 HR0.out x5_1 p197 q197
        obtain rfl : ad193 = ad197 := (by injection e197)
        replace hx197_0 := cb0 hx197_0 HB
        replace hx197_1 := cb0 hx197_1 HB
        replace hx197_2 := cb0 hx197_2 HB
        replace p197 := eq_true p197
        replace q197 := eq_true q197
        go_wp2
        go_roundg k1
        case measure => have := HK1.out; omega
        case rel => exact ⟨(wrap64 ((wrap64 ((wrap64 (x1_1 + 1)) + 1)) + 1)), (wrap64 (x5_1 + 1)), zs, zs, H', ⟨by have := HK1.out; omega⟩, ⟨zb HB⟩⟩
      ·rw [if_neg c14] at H
       have c14b0 : (((rd_T88 l0 x5_1).f1).toList == t196.toList) = false := beq_eq_false_iff_ne.mpr c14
       have c14b1 : (((rd_T88 l0 x5_1).f1).toList != t196.toList) = true := bne_iff_ne.mpr c14
       (first | rw [c14b0] | rw [c14b1] | rw [c14b2] | (simp only [i64_w, i32_w]; rw [c14b0]) | skip)
       obtain rfl := Option.some.inj H
       go_wp2
       go_ret
       exact ⟨ze, zb HB⟩
     ·rw [if_neg c9] at H
      have c9b0 : (((rd_T88 l0 x5_1).f0).toList == t194.toList) = false := beq_eq_false_iff_ne.mpr c9
      have c9b1 : (((rd_T88 l0 x5_1).f0).toList != t194.toList) = true := bne_iff_ne.mpr c9
      (first | rw [c9b0] | rw [c9b1] | rw [c9b2] | (simp only [i64_w, i32_w]; rw [c9b0]) | skip)
      obtain rfl := Option.some.inj H
      go_wp2
      go_ret
      exact ⟨ze, zb HB⟩
    ·rw [if_neg c4] at H
     exact absurd H (by simp)
   ·skip
    have c3b0 := decide_eq_false c3
    clear c3
    obtain rfl := Option.some.inj H
    go_wp2
    go_ret
    exact ⟨ze, zb HB⟩

/-! ### laws_heldTable: function 72 -/
-- thin
def laws_heldTable.f (k : Nat) (l0_0 : List (S88)) (a0_1 : Int) (a1 : Int) : Option (Int) := (laws_heldFieldS.f k l0_0 a1).bind fun t199 => (if t199 < 0 then (some (-1)) else (some t199))
theorem laws_heldTable.mono : ∀ a0 a1 a2 k, LeO (laws_heldTable.f k a0 a1 a2) (laws_heldTable.f (k + 1) a0 a1 a2) := by
 intro a0 a1 a2 k
 unfold laws_heldTable.f
 have m0 := @laws_heldFieldS.mono
 exact zm
set_option maxHeartbeats 8000000 in
set_option maxRecDepth 100000 in
theorem laws_heldTable.calls (k : Nat) (A0_0 : Option Addr) (c0_0 : Nat) (l0_0 : List (S88)) (a0_1 : Int) (a1 : Int) (r : Int) (w : World) (hr0_0 : Kd.C k88 w A0_0 l0_0.length l0_0) (hc0_0 : l0_0.length ≤ c0_0) (h : laws_heldTable.f k l0_0 a0_1 a1 = some r) :
  Calls Try.prog 72 #[.agg #[.slice A0_0 l0_0.length c0_0, .int .i64 a0_1], .int .i64 a1] w fun e w' => e = .returned (.int .i64 r) ∧ Below w.heap.size w w' := by
 have hu25 := Try.underlying25
 have HR0_0 := Aside0.mk hr0_0
 have HC0_0 := Aside0.mk hc0_0
 clear hr0_0 hc0_0
 have HB := Aside0.mk (Below.refl w.heap.size w)
 have H : ((laws_heldFieldS.f k l0_0 a1).bind fun t199 => (if t199 < 0 then (some (-1)) else (some t199))) = some r := h
 clear h
 obtain ⟨t199, A3, H⟩ := ob H
 (try dsimp only at H)
 have HC4 := Aside0.mk H
 clear H
 go_enter Try.func72, Try.ntmps72
 go_upto_if 10 with (first | ((with_reducible refine gd 2 rfl ?_); refine bx (N := 2) (cs := #[.slice A0_0 l0_0.length c0_0, .int .i64 a0_1]) (t := 25) ?_; intro gb198 hg w5 hbox hb; have BK198 := Aside0.mk (hbox); have GW198 := gw HB hg; have GE198 := GW198; replace HB := Aside0.mk (below_step (zb HB) hb); clear hb hbox hg; obtain ⟨hcz6_0, hcz6_1, hfz6_0, hfz6_1⟩ := c2 BK198) | ((with_reducible refine gq 126 rfl ?_); refine gl (some 8) Try.func126 #[.slice A0_0 l0_0.length c0_0, .int .i64 a1] ?_; (with_reducible refine (laws_heldFieldS.calls k _ _ l0_0 a1 t199 _ ?side1 ?side2 A3.out).mono ?_); (case side1 => exact zc (Kd.C_below HR0_0.out HB.out)); (case side2 => exact HC0_0.out); rintro e w7 ⟨rfl, hb⟩; refine ⟨_, rfl, ?_⟩; replace BK198 := kb BK198 hb; replace HB := Aside0.mk (below_step (zb HB) hb); (try clear hb)))
 (try simp only [Act.put, s1, s2, s3])
 have H := HC4.out
 clear HC4
 replace H := sp H
 rcases H with ⟨c8, H⟩ | ⟨c8, H⟩
 ·skip
  have c8b0 := decide_eq_true c8
  clear c8
  (first | rw [c8b0] | rw [c8b1] | rw [c8b2] | (simp only [i64_w, i32_w]; rw [c8b0]) | skip)
  obtain rfl := Option.some.inj H
  go_wp2
  go_ret
  exact ⟨ze, zb HB⟩
 ·skip
  have c8b0 := decide_eq_false c8
  clear c8
  (first | rw [c8b0] | rw [c8b1] | rw [c8b2] | (simp only [i64_w, i32_w]; rw [c8b0]) | skip)
  obtain rfl := Option.some.inj H
  go_wp2
  go_ret
  exact ⟨ze, zb HB⟩

end Go.Proofs.Ytlpibelofcabhaa.PFnExactWorldNew
