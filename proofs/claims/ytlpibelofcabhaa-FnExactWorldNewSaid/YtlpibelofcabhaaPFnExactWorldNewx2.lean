-- WRITTEN BY a turned print (wip/tools of the prover's repo)
import Derived.Test.YtlpibelofcabhaaPFnExactWorldNewx0
import Derived.Test.YtlpibelofcabhaaPFnExactWorldNewx1
namespace Go.Proofs.Ytlpibelofcabhaa.PFnExactWorldNew
open Go.RowKit Go.Proofs.YtlpibelofcabhaaW.PrintWords Go.Proofs.YtlpibelofcabhaaW.PrintLast Go.Proofs.YtlpibelofcabhaaW.PrintMore Go.Proofs.Ytlpibelofcabhaa.Lm
attribute [local go_sem] max2_int min2_int max_two min_two max_three min_three max_four min_four   -- for this text's walks alone
set_option linter.unusedVariables false
set_option linter.unusedSimpArgs false

/-! ### laws_eqStream: function 124 -/
-- thin
def laws_eqStream.f (k : Nat) (a0_0 : Int) (a0_1 : Int) (l0_2 : List (S88)) (a0_3 : ByteArray) (a0_4 : Bool) (a0_5 : Bool) (a0_6 : Int) (l0_7 : List (S88)) (a0_8 : ByteArray) (a0_9 : Bool) (a0_10 : Int) (a0_11 : Int) (a1_0 : Int) (a1_1 : Int) (l1_2 : List (S88)) (a1_3 : ByteArray) (a1_4 : Bool) (a1_5 : Bool) (a1_6 : Int) (l1_7 : List (S88)) (a1_8 : ByteArray) (a1_9 : Bool) (a1_10 : Int) (a1_11 : Int) : Option (Bool) := if a0_0 = a1_0 then (if a0_1 = a1_1 then ((laws_eqFieldS.f k l0_2 l1_2).bind fun t138 => (if t138 = true then (if a0_3.toList = a1_3.toList then (if (a0_4 != a1_4) = true then (some false) else (if (a0_5 != a1_5) = true then (some false) else (if a0_6 = a1_6 then ((laws_eqFieldS.f k l0_7 l1_7).bind fun t139 => (if t139 = true then (if a0_8.toList = a1_8.toList then (if (a0_9 != a1_9) = true then (some false) else ((laws_eqFlow.f a0_10 a0_11 a1_10 a1_11).bind fun t140 => (if t140 = true then (some true) else (some false)))) else (some false)) else (some false))) else (some false)))) else (some false)) else (some false))) else (some false)) else (some false)
theorem laws_eqStream.mono : ∀ a0 a1 a2 a3 a4 a5 a6 a7 a8 a9 a10 a11 a12 a13 a14 a15 a16 a17 a18 a19 a20 a21 a22 a23 k, LeO (laws_eqStream.f k a0 a1 a2 a3 a4 a5 a6 a7 a8 a9 a10 a11 a12 a13 a14 a15 a16 a17 a18 a19 a20 a21 a22 a23) (laws_eqStream.f (k + 1) a0 a1 a2 a3 a4 a5 a6 a7 a8 a9 a10 a11 a12 a13 a14 a15 a16 a17 a18 a19 a20 a21 a22 a23) := by
 intro a0 a1 a2 a3 a4 a5 a6 a7 a8 a9 a10 a11 a12 a13 a14 a15 a16 a17 a18 a19 a20 a21 a22 a23 k
 unfold laws_eqStream.f
 have m0 := @laws_eqFieldS.mono
 exact zm
set_option maxHeartbeats 8000000 in
set_option maxRecDepth 100000 in
theorem laws_eqStream.calls (k : Nat) (a0_0 : Int) (a0_1 : Int) (A0_2 : Option Addr) (c0_2 : Nat) (l0_2 : List (S88)) (a0_3 : ByteArray) (a0_4 : Bool) (a0_5 : Bool) (a0_6 : Int) (A0_7 : Option Addr) (c0_7 : Nat) (l0_7 : List (S88)) (a0_8 : ByteArray) (a0_9 : Bool) (a0_10 : Int) (a0_11 : Int) (a1_0 : Int) (a1_1 : Int) (A1_2 : Option Addr) (c1_2 : Nat) (l1_2 : List (S88)) (a1_3 : ByteArray) (a1_4 : Bool) (a1_5 : Bool) (a1_6 : Int) (A1_7 : Option Addr) (c1_7 : Nat) (l1_7 : List (S88)) (a1_8 : ByteArray) (a1_9 : Bool) (a1_10 : Int) (a1_11 : Int) (r : Bool) (w : World) (hr0_2 : Kd.C k88 w A0_2 l0_2.length l0_2) (hc0_2 : l0_2.length ≤ c0_2) (hr0_7 : Kd.C k88 w A0_7 l0_7.length l0_7) (hc0_7 : l0_7.length ≤ c0_7) (hr1_2 : Kd.C k88 w A1_2 l1_2.length l1_2) (hc1_2 : l1_2.length ≤ c1_2) (hr1_7 : Kd.C k88 w A1_7 l1_7.length l1_7) (hc1_7 : l1_7.length ≤ c1_7) (h : laws_eqStream.f k a0_0 a0_1 l0_2 a0_3 a0_4 a0_5 a0_6 l0_7 a0_8 a0_9 a0_10 a0_11 a1_0 a1_1 l1_2 a1_3 a1_4 a1_5 a1_6 l1_7 a1_8 a1_9 a1_10 a1_11 = some r) :
  Calls Try.prog 124 #[.agg #[.int .i64 a0_0, .int .i64 a0_1, .slice A0_2 l0_2.length c0_2, .string a0_3, .bool a0_4, .bool a0_5, .int .i64 a0_6, .slice A0_7 l0_7.length c0_7, .string a0_8, .bool a0_9, .int .i64 a0_10, .int .i64 a0_11], .agg #[.int .i64 a1_0, .int .i64 a1_1, .slice A1_2 l1_2.length c1_2, .string a1_3, .bool a1_4, .bool a1_5, .int .i64 a1_6, .slice A1_7 l1_7.length c1_7, .string a1_8, .bool a1_9, .int .i64 a1_10, .int .i64 a1_11]] w fun e w' => e = .returned (.bool r) ∧ Below w.heap.size w w' := by
 have hu104 := Try.underlying104
 have hu39 := Try.underlying39
 have HR0_2 := Aside0.mk hr0_2
 have HC0_2 := Aside0.mk hc0_2
 clear hr0_2 hc0_2
 have HR0_7 := Aside0.mk hr0_7
 have HC0_7 := Aside0.mk hc0_7
 clear hr0_7 hc0_7
 have HR1_2 := Aside0.mk hr1_2
 have HC1_2 := Aside0.mk hc1_2
 clear hr1_2 hc1_2
 have HR1_7 := Aside0.mk hr1_7
 have HC1_7 := Aside0.mk hc1_7
 clear hr1_7 hc1_7
 have HB := Aside0.mk (Below.refl w.heap.size w)
 have H : (if a0_0 = a1_0 then (if a0_1 = a1_1 then ((laws_eqFieldS.f k l0_2 l1_2).bind fun t138 => (if t138 = true then (if a0_3.toList = a1_3.toList then (if (a0_4 != a1_4) = true then (some false) else (if (a0_5 != a1_5) = true then (some false) else (if a0_6 = a1_6 then ((laws_eqFieldS.f k l0_7 l1_7).bind fun t139 => (if t139 = true then (if a0_8.toList = a1_8.toList then (if (a0_9 != a1_9) = true then (some false) else ((laws_eqFlow.f a0_10 a0_11 a1_10 a1_11).bind fun t140 => (if t140 = true then (some true) else (some false)))) else (some false)) else (some false))) else (some false)))) else (some false)) else (some false))) else (some false)) else (some false)) = some r := h
 clear h
 have HC3 := Aside0.mk H
 clear H
 go_enter Try.func124, Try.ntmps124
 go_upto_if 9 with (first | ((with_reducible refine gd 2 rfl ?_); refine bx (N := 2) (cs := #[.int .i64 a0_0, .int .i64 a0_1, .slice A0_2 l0_2.length c0_2, .string a0_3, .bool a0_4, .bool a0_5, .int .i64 a0_6, .slice A0_7 l0_7.length c0_7, .string a0_8, .bool a0_9, .int .i64 a0_10, .int .i64 a0_11]) (t := 104) ?_; intro gb136 hg w4 hbox hb; have BK136 := Aside0.mk (hbox); have GW136 := gw HB hg; have GE136 := GW136; replace HB := Aside0.mk (below_step (zb HB) hb); clear hb hbox hg) | ((with_reducible refine gd 3 rfl ?_); refine bx (N := 3) (cs := #[.int .i64 a1_0, .int .i64 a1_1, .slice A1_2 l1_2.length c1_2, .string a1_3, .bool a1_4, .bool a1_5, .int .i64 a1_6, .slice A1_7 l1_7.length c1_7, .string a1_8, .bool a1_9, .int .i64 a1_10, .int .i64 a1_11]) (t := 104) ?_; intro gb137 hg w5 hbox hb; have BK137 := Aside0.mk (hbox); have GW137 := gw HB hg; have GE137 := GW137; replace HB := Aside0.mk (below_step (zb HB) hb); obtain ⟨NB136_137, NB137_136⟩ := nb BK136 hg; replace BK136 := kb BK136 hb; clear hb hbox hg; have hnb6 := NB136_137.out; have hnc6 := NB137_136.out; obtain ⟨hcz7_0, hcz7_1, hcz7_2, hcz7_3, hcz7_4, hcz7_5, hcz7_6, hcz7_7, hcz7_8, hcz7_9, hcz7_10, hcz7_11, hfz7_0, hfz7_1, hfz7_2, hfz7_3, hfz7_4, hfz7_5, hfz7_6, hfz7_7, hfz7_8, hfz7_9, hfz7_10, hfz7_11⟩ := c12 BK136; obtain ⟨hcz8_0, hcz8_1, hcz8_2, hcz8_3, hcz8_4, hcz8_5, hcz8_6, hcz8_7, hcz8_8, hcz8_9, hcz8_10, hcz8_11, hfz8_0, hfz8_1, hfz8_2, hfz8_3, hfz8_4, hfz8_5, hfz8_6, hfz8_7, hfz8_8, hfz8_9, hfz8_10, hfz8_11⟩ := c12 BK137))
 (try simp only [Act.put, s1, s2, s3])
 have H := HC3.out
 clear HC3
 replace H := sp H
 rcases H with ⟨c9, H⟩ | ⟨c9, H⟩
 ·skip
  have c9b0 : (a0_0 == a1_0) = true := beq_iff_eq.mpr c9
  have c9b1 : (a0_0 != a1_0) = false := bne_eq_false_iff_eq.mpr c9
  clear c9
  (first | rw [c9b0] | rw [c9b1] | rw [c9b2] | (simp only [i64_w, i32_w]; rw [c9b0]) | skip)
  by_cases c10 : a0_1 = a1_1
  ·rw [if_pos c10] at H
   have c10b0 : (a0_1 == a1_1) = true := beq_iff_eq.mpr c10
   have c10b1 : (a0_1 != a1_1) = false := bne_eq_false_iff_eq.mpr c10
   clear c10
   obtain ⟨t138, A11, H⟩ := ob H
   (try dsimp only at H)
   by_cases c12 : t138 = true
   ·subst c12
    rw [if_pos rfl] at H
    by_cases c13 : a0_3.toList = a1_3.toList
    ·rw [if_pos c13] at H
     have c13b0 : (a0_3.toList == a1_3.toList) = true := beq_iff_eq.mpr c13
     have c13b1 : (a0_3.toList != a1_3.toList) = false := bne_eq_false_iff_eq.mpr c13
     clear c13
     by_cases c14 : (a0_4 != a1_4) = true
     ·rw [if_pos c14] at H
      have c14b0 : (a0_4 != a1_4) = true := c14
      (try (have c14b1 : decide (a0_4 = a1_4) = false := by simpa using c14))
      (try (have c14b2 : (a0_4 == a1_4) = false := by simpa using c14))
      (try (have c14b3 : ¬ (a0_4 = a1_4) := by simpa using c14))
      clear c14
      obtain rfl := Option.some.inj H
      have hnb15 := NB136_137.out
      have hnc15 := NB137_136.out
      obtain ⟨hcz16_0, hcz16_1, hcz16_2, hcz16_3, hcz16_4, hcz16_5, hcz16_6, hcz16_7, hcz16_8, hcz16_9, hcz16_10, hcz16_11, hfz16_0, hfz16_1, hfz16_2, hfz16_3, hfz16_4, hfz16_5, hfz16_6, hfz16_7, hfz16_8, hfz16_9, hfz16_10, hfz16_11⟩ := c12 BK136
      obtain ⟨hcz17_0, hcz17_1, hcz17_2, hcz17_3, hcz17_4, hcz17_5, hcz17_6, hcz17_7, hcz17_8, hcz17_9, hcz17_10, hcz17_11, hfz17_0, hfz17_1, hfz17_2, hfz17_3, hfz17_4, hfz17_5, hfz17_6, hfz17_7, hfz17_8, hfz17_9, hfz17_10, hfz17_11⟩ := c12 BK137
      go_wp2_with (first | ((with_reducible refine gq 123 rfl ?_); refine gl (some 19) Try.func123 #[.slice A0_2 l0_2.length c0_2, .slice A1_2 l1_2.length c1_2] ?_; (with_reducible refine (laws_eqFieldS.calls k _ _ l0_2 _ _ l1_2 true _ ?side1 ?side2 ?side3 ?side4 A11.out).mono ?_); (case side1 => exact zc (Kd.C_below HR0_2.out HB.out)); (case side2 => exact HC0_2.out); (case side3 => exact zc (Kd.C_below HR1_2.out HB.out)); (case side4 => exact HC1_2.out); rintro e w18 ⟨rfl, hb⟩; refine ⟨_, rfl, ?_⟩; replace BK136 := kb BK136 hb; replace BK137 := kb BK137 hb; replace HB := Aside0.mk (below_step (zb HB) hb); (try clear hb); obtain ⟨hcz19_0, hcz19_1, hcz19_2, hcz19_3, hcz19_4, hcz19_5, hcz19_6, hcz19_7, hcz19_8, hcz19_9, hcz19_10, hcz19_11, hfz19_0, hfz19_1, hfz19_2, hfz19_3, hfz19_4, hfz19_5, hfz19_6, hfz19_7, hfz19_8, hfz19_9, hfz19_10, hfz19_11⟩ := c12 BK136; obtain ⟨hcz20_0, hcz20_1, hcz20_2, hcz20_3, hcz20_4, hcz20_5, hcz20_6, hcz20_7, hcz20_8, hcz20_9, hcz20_10, hcz20_11, hfz20_0, hfz20_1, hfz20_2, hfz20_3, hfz20_4, hfz20_5, hfz20_6, hfz20_7, hfz20_8, hfz20_9, hfz20_10, hfz20_11⟩ := c12 BK137))
      go_ret
      exact ⟨ze, zb HB⟩
     ·rw [if_neg c14] at H
      have c14b0 : (a0_4 != a1_4) = false := by simpa using c14
      (try (have c14b1 : decide (a0_4 = a1_4) = true := by simpa using c14))
      (try (have c14b2 : (a0_4 == a1_4) = true := by simpa using c14))
      clear c14
      by_cases c21 : (a0_5 != a1_5) = true
      ·rw [if_pos c21] at H
       have c21b0 : (a0_5 != a1_5) = true := c21
       (try (have c21b1 : decide (a0_5 = a1_5) = false := by simpa using c21))
       (try (have c21b2 : (a0_5 == a1_5) = false := by simpa using c21))
       (try (have c21b3 : ¬ (a0_5 = a1_5) := by simpa using c21))
       clear c21
       obtain rfl := Option.some.inj H
       have hnb22 := NB136_137.out
       have hnc22 := NB137_136.out
       obtain ⟨hcz23_0, hcz23_1, hcz23_2, hcz23_3, hcz23_4, hcz23_5, hcz23_6, hcz23_7, hcz23_8, hcz23_9, hcz23_10, hcz23_11, hfz23_0, hfz23_1, hfz23_2, hfz23_3, hfz23_4, hfz23_5, hfz23_6, hfz23_7, hfz23_8, hfz23_9, hfz23_10, hfz23_11⟩ := c12 BK136
       obtain ⟨hcz24_0, hcz24_1, hcz24_2, hcz24_3, hcz24_4, hcz24_5, hcz24_6, hcz24_7, hcz24_8, hcz24_9, hcz24_10, hcz24_11, hfz24_0, hfz24_1, hfz24_2, hfz24_3, hfz24_4, hfz24_5, hfz24_6, hfz24_7, hfz24_8, hfz24_9, hfz24_10, hfz24_11⟩ := c12 BK137
       go_wp2_with (first | ((with_reducible refine gq 123 rfl ?_); refine gl (some 19) Try.func123 #[.slice A0_2 l0_2.length c0_2, .slice A1_2 l1_2.length c1_2] ?_; (with_reducible refine (laws_eqFieldS.calls k _ _ l0_2 _ _ l1_2 true _ ?side1 ?side2 ?side3 ?side4 A11.out).mono ?_); (case side1 => exact zc (Kd.C_below HR0_2.out HB.out)); (case side2 => exact HC0_2.out); (case side3 => exact zc (Kd.C_below HR1_2.out HB.out)); (case side4 => exact HC1_2.out); rintro e w25 ⟨rfl, hb⟩; refine ⟨_, rfl, ?_⟩; replace BK136 := kb BK136 hb; replace BK137 := kb BK137 hb; replace HB := Aside0.mk (below_step (zb HB) hb); (try clear hb); obtain ⟨hcz26_0, hcz26_1, hcz26_2, hcz26_3, hcz26_4, hcz26_5, hcz26_6, hcz26_7, hcz26_8, hcz26_9, hcz26_10, hcz26_11, hfz26_0, hfz26_1, hfz26_2, hfz26_3, hfz26_4, hfz26_5, hfz26_6, hfz26_7, hfz26_8, hfz26_9, hfz26_10, hfz26_11⟩ := c12 BK136; obtain ⟨hcz27_0, hcz27_1, hcz27_2, hcz27_3, hcz27_4, hcz27_5, hcz27_6, hcz27_7, hcz27_8, hcz27_9, hcz27_10, hcz27_11, hfz27_0, hfz27_1, hfz27_2, hfz27_3, hfz27_4, hfz27_5, hfz27_6, hfz27_7, hfz27_8, hfz27_9, hfz27_10, hfz27_11⟩ := c12 BK137))
       go_ret
       exact ⟨ze, zb HB⟩
      ·rw [if_neg c21] at H
       have c21b0 : (a0_5 != a1_5) = false := by simpa using c21
       (try (have c21b1 : decide (a0_5 = a1_5) = true := by simpa using c21))
       (try (have c21b2 : (a0_5 == a1_5) = true := by simpa using c21))
       clear c21
       by_cases c28 : a0_6 = a1_6
       ·rw [if_pos c28] at H
        have c28b0 : (a0_6 == a1_6) = true := beq_iff_eq.mpr c28
        have c28b1 : (a0_6 != a1_6) = false := bne_eq_false_iff_eq.mpr c28
        clear c28
        obtain ⟨t139, A29, H⟩ := ob H
        (try dsimp only at H)
        have HC30 := Aside0.mk H
        clear H
        have hnb31 := NB136_137.out
        have hnc31 := NB137_136.out
        obtain ⟨hcz32_0, hcz32_1, hcz32_2, hcz32_3, hcz32_4, hcz32_5, hcz32_6, hcz32_7, hcz32_8, hcz32_9, hcz32_10, hcz32_11, hfz32_0, hfz32_1, hfz32_2, hfz32_3, hfz32_4, hfz32_5, hfz32_6, hfz32_7, hfz32_8, hfz32_9, hfz32_10, hfz32_11⟩ := c12 BK136
        obtain ⟨hcz33_0, hcz33_1, hcz33_2, hcz33_3, hcz33_4, hcz33_5, hcz33_6, hcz33_7, hcz33_8, hcz33_9, hcz33_10, hcz33_11, hfz33_0, hfz33_1, hfz33_2, hfz33_3, hfz33_4, hfz33_5, hfz33_6, hfz33_7, hfz33_8, hfz33_9, hfz33_10, hfz33_11⟩ := c12 BK137
        go_upto_if 46 with (first | ((with_reducible refine gq 123 rfl ?_); refine gl (some 19) Try.func123 #[.slice A0_2 l0_2.length c0_2, .slice A1_2 l1_2.length c1_2] ?_; (with_reducible refine (laws_eqFieldS.calls k _ _ l0_2 _ _ l1_2 true _ ?side1 ?side2 ?side3 ?side4 A11.out).mono ?_); (case side1 => exact zc (Kd.C_below HR0_2.out HB.out)); (case side2 => exact HC0_2.out); (case side3 => exact zc (Kd.C_below HR1_2.out HB.out)); (case side4 => exact HC1_2.out); rintro e w34 ⟨rfl, hb⟩; refine ⟨_, rfl, ?_⟩; replace BK136 := kb BK136 hb; replace BK137 := kb BK137 hb; replace HB := Aside0.mk (below_step (zb HB) hb); (try clear hb); obtain ⟨hcz35_0, hcz35_1, hcz35_2, hcz35_3, hcz35_4, hcz35_5, hcz35_6, hcz35_7, hcz35_8, hcz35_9, hcz35_10, hcz35_11, hfz35_0, hfz35_1, hfz35_2, hfz35_3, hfz35_4, hfz35_5, hfz35_6, hfz35_7, hfz35_8, hfz35_9, hfz35_10, hfz35_11⟩ := c12 BK136; obtain ⟨hcz36_0, hcz36_1, hcz36_2, hcz36_3, hcz36_4, hcz36_5, hcz36_6, hcz36_7, hcz36_8, hcz36_9, hcz36_10, hcz36_11, hfz36_0, hfz36_1, hfz36_2, hfz36_3, hfz36_4, hfz36_5, hfz36_6, hfz36_7, hfz36_8, hfz36_9, hfz36_10, hfz36_11⟩ := c12 BK137) | ((with_reducible refine gq 123 rfl ?_); refine gl (some 45) Try.func123 #[.slice A0_7 l0_7.length c0_7, .slice A1_7 l1_7.length c1_7] ?_; (with_reducible refine (laws_eqFieldS.calls k _ _ l0_7 _ _ l1_7 t139 _ ?side1 ?side2 ?side3 ?side4 A29.out).mono ?_); (case side1 => exact zc (Kd.C_below HR0_7.out HB.out)); (case side2 => exact HC0_7.out); (case side3 => exact zc (Kd.C_below HR1_7.out HB.out)); (case side4 => exact HC1_7.out); rintro e w37 ⟨rfl, hb⟩; refine ⟨_, rfl, ?_⟩; replace BK136 := kb BK136 hb; replace BK137 := kb BK137 hb; replace HB := Aside0.mk (below_step (zb HB) hb); (try clear hb)))
        (try simp only [Act.put, s1, s2, s3])
        have H := HC30.out
        clear HC30
        by_cases c38 : t139 = true
        ·subst c38
         rw [if_pos rfl] at H
         by_cases c39 : a0_8.toList = a1_8.toList
         ·rw [if_pos c39] at H
          have c39b0 : (a0_8.toList == a1_8.toList) = true := beq_iff_eq.mpr c39
          have c39b1 : (a0_8.toList != a1_8.toList) = false := bne_eq_false_iff_eq.mpr c39
          clear c39
          (first | rw [c39b0] | rw [c39b1] | rw [c39b2] | (simp only [i64_w, i32_w]; rw [c39b0]) | skip)
          by_cases c40 : (a0_9 != a1_9) = true
          ·rw [if_pos c40] at H
           have c40b0 : (a0_9 != a1_9) = true := c40
           (try (have c40b1 : decide (a0_9 = a1_9) = false := by simpa using c40))
           (try (have c40b2 : (a0_9 == a1_9) = false := by simpa using c40))
           (try (have c40b3 : ¬ (a0_9 = a1_9) := by simpa using c40))
           clear c40
           obtain rfl := Option.some.inj H
           have hnb41 := NB136_137.out
           have hnc41 := NB137_136.out
           obtain ⟨hcz42_0, hcz42_1, hcz42_2, hcz42_3, hcz42_4, hcz42_5, hcz42_6, hcz42_7, hcz42_8, hcz42_9, hcz42_10, hcz42_11, hfz42_0, hfz42_1, hfz42_2, hfz42_3, hfz42_4, hfz42_5, hfz42_6, hfz42_7, hfz42_8, hfz42_9, hfz42_10, hfz42_11⟩ := c12 BK136
           obtain ⟨hcz43_0, hcz43_1, hcz43_2, hcz43_3, hcz43_4, hcz43_5, hcz43_6, hcz43_7, hcz43_8, hcz43_9, hcz43_10, hcz43_11, hfz43_0, hfz43_1, hfz43_2, hfz43_3, hfz43_4, hfz43_5, hfz43_6, hfz43_7, hfz43_8, hfz43_9, hfz43_10, hfz43_11⟩ := c12 BK137
           go_wp2
           go_ret
           exact ⟨ze, zb HB⟩
          ·rw [if_neg c40] at H
           have c40b0 : (a0_9 != a1_9) = false := by simpa using c40
           (try (have c40b1 : decide (a0_9 = a1_9) = true := by simpa using c40))
           (try (have c40b2 : (a0_9 == a1_9) = true := by simpa using c40))
           clear c40
           obtain ⟨t140, A44, H⟩ := ob H
           (try dsimp only at H)
           by_cases c45 : t140 = true
           ·subst c45
            rw [if_pos rfl] at H
            obtain rfl := Option.some.inj H
            have hnb46 := NB136_137.out
            have hnc46 := NB137_136.out
            obtain ⟨hcz47_0, hcz47_1, hcz47_2, hcz47_3, hcz47_4, hcz47_5, hcz47_6, hcz47_7, hcz47_8, hcz47_9, hcz47_10, hcz47_11, hfz47_0, hfz47_1, hfz47_2, hfz47_3, hfz47_4, hfz47_5, hfz47_6, hfz47_7, hfz47_8, hfz47_9, hfz47_10, hfz47_11⟩ := c12 BK136
            obtain ⟨hcz48_0, hcz48_1, hcz48_2, hcz48_3, hcz48_4, hcz48_5, hcz48_6, hcz48_7, hcz48_8, hcz48_9, hcz48_10, hcz48_11, hfz48_0, hfz48_1, hfz48_2, hfz48_3, hfz48_4, hfz48_5, hfz48_6, hfz48_7, hfz48_8, hfz48_9, hfz48_10, hfz48_11⟩ := c12 BK137
            go_wp2_with (first | ((with_reducible refine gq 69 rfl ?_); refine gl (some 61) Try.func69 #[.agg #[.int .i64 a0_10, .int .i64 a0_11], .agg #[.int .i64 a1_10, .int .i64 a1_11]] ?_; (with_reducible refine (laws_eqFlow.calls a0_10 a0_11 a1_10 a1_11 true _ A44.out).mono ?_); rintro e w49 ⟨rfl, hb⟩; refine ⟨_, rfl, ?_⟩; replace BK136 := kb BK136 hb; replace BK137 := kb BK137 hb; replace HB := Aside0.mk (below_step (zb HB) hb); (try clear hb)))
            go_ret
            exact ⟨ze, zb HB⟩
           ·replace c45 := Bool.eq_false_iff.mpr c45
            subst c45
            rw [if_neg (show ¬ (false = true) by decide)] at H
            obtain rfl := Option.some.inj H
            have hnb50 := NB136_137.out
            have hnc50 := NB137_136.out
            obtain ⟨hcz51_0, hcz51_1, hcz51_2, hcz51_3, hcz51_4, hcz51_5, hcz51_6, hcz51_7, hcz51_8, hcz51_9, hcz51_10, hcz51_11, hfz51_0, hfz51_1, hfz51_2, hfz51_3, hfz51_4, hfz51_5, hfz51_6, hfz51_7, hfz51_8, hfz51_9, hfz51_10, hfz51_11⟩ := c12 BK136
            obtain ⟨hcz52_0, hcz52_1, hcz52_2, hcz52_3, hcz52_4, hcz52_5, hcz52_6, hcz52_7, hcz52_8, hcz52_9, hcz52_10, hcz52_11, hfz52_0, hfz52_1, hfz52_2, hfz52_3, hfz52_4, hfz52_5, hfz52_6, hfz52_7, hfz52_8, hfz52_9, hfz52_10, hfz52_11⟩ := c12 BK137
            go_wp2_with (first | ((with_reducible refine gq 69 rfl ?_); refine gl (some 61) Try.func69 #[.agg #[.int .i64 a0_10, .int .i64 a0_11], .agg #[.int .i64 a1_10, .int .i64 a1_11]] ?_; (with_reducible refine (laws_eqFlow.calls a0_10 a0_11 a1_10 a1_11 false _ A44.out).mono ?_); rintro e w53 ⟨rfl, hb⟩; refine ⟨_, rfl, ?_⟩; replace BK136 := kb BK136 hb; replace BK137 := kb BK137 hb; replace HB := Aside0.mk (below_step (zb HB) hb); (try clear hb)))
            go_ret
            exact ⟨ze, zb HB⟩
         ·rw [if_neg c39] at H
          have c39b0 : (a0_8.toList == a1_8.toList) = false := beq_eq_false_iff_ne.mpr c39
          have c39b1 : (a0_8.toList != a1_8.toList) = true := bne_iff_ne.mpr c39
          (first | rw [c39b0] | rw [c39b1] | rw [c39b2] | (simp only [i64_w, i32_w]; rw [c39b0]) | skip)
          obtain rfl := Option.some.inj H
          have hnb54 := NB136_137.out
          have hnc54 := NB137_136.out
          obtain ⟨hcz55_0, hcz55_1, hcz55_2, hcz55_3, hcz55_4, hcz55_5, hcz55_6, hcz55_7, hcz55_8, hcz55_9, hcz55_10, hcz55_11, hfz55_0, hfz55_1, hfz55_2, hfz55_3, hfz55_4, hfz55_5, hfz55_6, hfz55_7, hfz55_8, hfz55_9, hfz55_10, hfz55_11⟩ := c12 BK136
          obtain ⟨hcz56_0, hcz56_1, hcz56_2, hcz56_3, hcz56_4, hcz56_5, hcz56_6, hcz56_7, hcz56_8, hcz56_9, hcz56_10, hcz56_11, hfz56_0, hfz56_1, hfz56_2, hfz56_3, hfz56_4, hfz56_5, hfz56_6, hfz56_7, hfz56_8, hfz56_9, hfz56_10, hfz56_11⟩ := c12 BK137
          go_wp2
          go_ret
          exact ⟨ze, zb HB⟩
        ·replace c38 := Bool.eq_false_iff.mpr c38
         subst c38
         rw [if_neg (show ¬ (false = true) by decide)] at H
         obtain rfl := Option.some.inj H
         go_wp2
         go_ret
         exact ⟨ze, zb HB⟩
       ·rw [if_neg c28] at H
        have c28b0 : (a0_6 == a1_6) = false := beq_eq_false_iff_ne.mpr c28
        have c28b1 : (a0_6 != a1_6) = true := bne_iff_ne.mpr c28
        obtain rfl := Option.some.inj H
        have hnb57 := NB136_137.out
        have hnc57 := NB137_136.out
        obtain ⟨hcz58_0, hcz58_1, hcz58_2, hcz58_3, hcz58_4, hcz58_5, hcz58_6, hcz58_7, hcz58_8, hcz58_9, hcz58_10, hcz58_11, hfz58_0, hfz58_1, hfz58_2, hfz58_3, hfz58_4, hfz58_5, hfz58_6, hfz58_7, hfz58_8, hfz58_9, hfz58_10, hfz58_11⟩ := c12 BK136
        obtain ⟨hcz59_0, hcz59_1, hcz59_2, hcz59_3, hcz59_4, hcz59_5, hcz59_6, hcz59_7, hcz59_8, hcz59_9, hcz59_10, hcz59_11, hfz59_0, hfz59_1, hfz59_2, hfz59_3, hfz59_4, hfz59_5, hfz59_6, hfz59_7, hfz59_8, hfz59_9, hfz59_10, hfz59_11⟩ := c12 BK137
        go_wp2_with (first | ((with_reducible refine gq 123 rfl ?_); refine gl (some 19) Try.func123 #[.slice A0_2 l0_2.length c0_2, .slice A1_2 l1_2.length c1_2] ?_; (with_reducible refine (laws_eqFieldS.calls k _ _ l0_2 _ _ l1_2 true _ ?side1 ?side2 ?side3 ?side4 A11.out).mono ?_); (case side1 => exact zc (Kd.C_below HR0_2.out HB.out)); (case side2 => exact HC0_2.out); (case side3 => exact zc (Kd.C_below HR1_2.out HB.out)); (case side4 => exact HC1_2.out); rintro e w60 ⟨rfl, hb⟩; refine ⟨_, rfl, ?_⟩; replace BK136 := kb BK136 hb; replace BK137 := kb BK137 hb; replace HB := Aside0.mk (below_step (zb HB) hb); (try clear hb); obtain ⟨hcz61_0, hcz61_1, hcz61_2, hcz61_3, hcz61_4, hcz61_5, hcz61_6, hcz61_7, hcz61_8, hcz61_9, hcz61_10, hcz61_11, hfz61_0, hfz61_1, hfz61_2, hfz61_3, hfz61_4, hfz61_5, hfz61_6, hfz61_7, hfz61_8, hfz61_9, hfz61_10, hfz61_11⟩ := c12 BK136; obtain ⟨hcz62_0, hcz62_1, hcz62_2, hcz62_3, hcz62_4, hcz62_5, hcz62_6, hcz62_7, hcz62_8, hcz62_9, hcz62_10, hcz62_11, hfz62_0, hfz62_1, hfz62_2, hfz62_3, hfz62_4, hfz62_5, hfz62_6, hfz62_7, hfz62_8, hfz62_9, hfz62_10, hfz62_11⟩ := c12 BK137))
        go_ret
        exact ⟨ze, zb HB⟩
    ·rw [if_neg c13] at H
     have c13b0 : (a0_3.toList == a1_3.toList) = false := beq_eq_false_iff_ne.mpr c13
     have c13b1 : (a0_3.toList != a1_3.toList) = true := bne_iff_ne.mpr c13
     obtain rfl := Option.some.inj H
     have hnb63 := NB136_137.out
     have hnc63 := NB137_136.out
     obtain ⟨hcz64_0, hcz64_1, hcz64_2, hcz64_3, hcz64_4, hcz64_5, hcz64_6, hcz64_7, hcz64_8, hcz64_9, hcz64_10, hcz64_11, hfz64_0, hfz64_1, hfz64_2, hfz64_3, hfz64_4, hfz64_5, hfz64_6, hfz64_7, hfz64_8, hfz64_9, hfz64_10, hfz64_11⟩ := c12 BK136
     obtain ⟨hcz65_0, hcz65_1, hcz65_2, hcz65_3, hcz65_4, hcz65_5, hcz65_6, hcz65_7, hcz65_8, hcz65_9, hcz65_10, hcz65_11, hfz65_0, hfz65_1, hfz65_2, hfz65_3, hfz65_4, hfz65_5, hfz65_6, hfz65_7, hfz65_8, hfz65_9, hfz65_10, hfz65_11⟩ := c12 BK137
     go_wp2_with (first | ((with_reducible refine gq 123 rfl ?_); refine gl (some 19) Try.func123 #[.slice A0_2 l0_2.length c0_2, .slice A1_2 l1_2.length c1_2] ?_; (with_reducible refine (laws_eqFieldS.calls k _ _ l0_2 _ _ l1_2 true _ ?side1 ?side2 ?side3 ?side4 A11.out).mono ?_); (case side1 => exact zc (Kd.C_below HR0_2.out HB.out)); (case side2 => exact HC0_2.out); (case side3 => exact zc (Kd.C_below HR1_2.out HB.out)); (case side4 => exact HC1_2.out); rintro e w66 ⟨rfl, hb⟩; refine ⟨_, rfl, ?_⟩; replace BK136 := kb BK136 hb; replace BK137 := kb BK137 hb; replace HB := Aside0.mk (below_step (zb HB) hb); (try clear hb); obtain ⟨hcz67_0, hcz67_1, hcz67_2, hcz67_3, hcz67_4, hcz67_5, hcz67_6, hcz67_7, hcz67_8, hcz67_9, hcz67_10, hcz67_11, hfz67_0, hfz67_1, hfz67_2, hfz67_3, hfz67_4, hfz67_5, hfz67_6, hfz67_7, hfz67_8, hfz67_9, hfz67_10, hfz67_11⟩ := c12 BK136; obtain ⟨hcz68_0, hcz68_1, hcz68_2, hcz68_3, hcz68_4, hcz68_5, hcz68_6, hcz68_7, hcz68_8, hcz68_9, hcz68_10, hcz68_11, hfz68_0, hfz68_1, hfz68_2, hfz68_3, hfz68_4, hfz68_5, hfz68_6, hfz68_7, hfz68_8, hfz68_9, hfz68_10, hfz68_11⟩ := c12 BK137))
     go_ret
     exact ⟨ze, zb HB⟩
   ·replace c12 := Bool.eq_false_iff.mpr c12
    subst c12
    rw [if_neg (show ¬ (false = true) by decide)] at H
    obtain rfl := Option.some.inj H
    have hnb69 := NB136_137.out
    have hnc69 := NB137_136.out
    obtain ⟨hcz70_0, hcz70_1, hcz70_2, hcz70_3, hcz70_4, hcz70_5, hcz70_6, hcz70_7, hcz70_8, hcz70_9, hcz70_10, hcz70_11, hfz70_0, hfz70_1, hfz70_2, hfz70_3, hfz70_4, hfz70_5, hfz70_6, hfz70_7, hfz70_8, hfz70_9, hfz70_10, hfz70_11⟩ := c12 BK136
    obtain ⟨hcz71_0, hcz71_1, hcz71_2, hcz71_3, hcz71_4, hcz71_5, hcz71_6, hcz71_7, hcz71_8, hcz71_9, hcz71_10, hcz71_11, hfz71_0, hfz71_1, hfz71_2, hfz71_3, hfz71_4, hfz71_5, hfz71_6, hfz71_7, hfz71_8, hfz71_9, hfz71_10, hfz71_11⟩ := c12 BK137
    go_wp2_with (first | ((with_reducible refine gq 123 rfl ?_); refine gl (some 19) Try.func123 #[.slice A0_2 l0_2.length c0_2, .slice A1_2 l1_2.length c1_2] ?_; (with_reducible refine (laws_eqFieldS.calls k _ _ l0_2 _ _ l1_2 false _ ?side1 ?side2 ?side3 ?side4 A11.out).mono ?_); (case side1 => exact zc (Kd.C_below HR0_2.out HB.out)); (case side2 => exact HC0_2.out); (case side3 => exact zc (Kd.C_below HR1_2.out HB.out)); (case side4 => exact HC1_2.out); rintro e w72 ⟨rfl, hb⟩; refine ⟨_, rfl, ?_⟩; replace BK136 := kb BK136 hb; replace BK137 := kb BK137 hb; replace HB := Aside0.mk (below_step (zb HB) hb); (try clear hb)))
    go_ret
    exact ⟨ze, zb HB⟩
  ·rw [if_neg c10] at H
   have c10b0 : (a0_1 == a1_1) = false := beq_eq_false_iff_ne.mpr c10
   have c10b1 : (a0_1 != a1_1) = true := bne_iff_ne.mpr c10
   obtain rfl := Option.some.inj H
   have hnb73 := NB136_137.out
   have hnc73 := NB137_136.out
   obtain ⟨hcz74_0, hcz74_1, hcz74_2, hcz74_3, hcz74_4, hcz74_5, hcz74_6, hcz74_7, hcz74_8, hcz74_9, hcz74_10, hcz74_11, hfz74_0, hfz74_1, hfz74_2, hfz74_3, hfz74_4, hfz74_5, hfz74_6, hfz74_7, hfz74_8, hfz74_9, hfz74_10, hfz74_11⟩ := c12 BK136
   obtain ⟨hcz75_0, hcz75_1, hcz75_2, hcz75_3, hcz75_4, hcz75_5, hcz75_6, hcz75_7, hcz75_8, hcz75_9, hcz75_10, hcz75_11, hfz75_0, hfz75_1, hfz75_2, hfz75_3, hfz75_4, hfz75_5, hfz75_6, hfz75_7, hfz75_8, hfz75_9, hfz75_10, hfz75_11⟩ := c12 BK137
   go_wp2
   go_ret
   exact ⟨ze, zb HB⟩
 ·skip
  have c9b0 : (a0_0 == a1_0) = false := beq_eq_false_iff_ne.mpr c9
  have c9b1 : (a0_0 != a1_0) = true := bne_iff_ne.mpr c9
  (first | rw [c9b0] | rw [c9b1] | rw [c9b2] | (simp only [i64_w, i32_w]; rw [c9b0]) | skip)
  obtain rfl := Option.some.inj H
  go_wp2
  go_ret
  exact ⟨ze, zb HB⟩

/-! ### laws_eqStreamS: function 68 -/
-- thin
def laws_eqStreamS.l0 : Nat → List (S104) → List (S104) → Int → Option (Bool)
 | 0, _, _, _ => none
 | k + 1, x0, x1, x5 => if x5 < (x0.length : Int) then (if 0 ≤ x5 then (if x5 < (x1.length : Int) then ((laws_eqStream.f k ((rd_T104 x0 x5).f0) ((rd_T104 x0 x5).f1) ((rd_T104 x0 x5).f2) ((rd_T104 x0 x5).f3) ((rd_T104 x0 x5).f4) ((rd_T104 x0 x5).f5) ((rd_T104 x0 x5).f6) ((rd_T104 x0 x5).f7) ((rd_T104 x0 x5).f8) ((rd_T104 x0 x5).f9) ((rd_T104 x0 x5).f10.f0) ((rd_T104 x0 x5).f10.f1) ((rd_T104 x1 x5).f0) ((rd_T104 x1 x5).f1) ((rd_T104 x1 x5).f2) ((rd_T104 x1 x5).f3) ((rd_T104 x1 x5).f4) ((rd_T104 x1 x5).f5) ((rd_T104 x1 x5).f6) ((rd_T104 x1 x5).f7) ((rd_T104 x1 x5).f8) ((rd_T104 x1 x5).f9) ((rd_T104 x1 x5).f10.f0) ((rd_T104 x1 x5).f10.f1)).bind fun t143 => (if t143 = true then (laws_eqStreamS.l0 k x0 x1 (wrap64 (x5 + 1))) else (some false))) else (none)) else (none)) else (some true)
def laws_eqStreamS.f (k : Nat) (l0 : List (S104)) (l1 : List (S104)) : Option (Bool) := if (l0.length : Int) = (l1.length : Int) then (laws_eqStreamS.l0 k l0 l1 0) else (some false)
theorem laws_eqStreamS.mono_l : ∀ k, (∀ y0 y1 y2, LeO (laws_eqStreamS.l0 k y0 y1 y2) (laws_eqStreamS.l0 (k + 1) y0 y1 y2))
 | 0 => fun _ _ _ r h => by simp [laws_eqStreamS.l0] at h
 | k + 1 => by
  have ih0 := laws_eqStreamS.mono_l k
  ·intro y0 y1 y2
   unfold laws_eqStreamS.l0
   have m0 := @laws_eqStream.mono
   exact zm
theorem laws_eqStreamS.mono : ∀ a0 a1 k, LeO (laws_eqStreamS.f k a0 a1) (laws_eqStreamS.f (k + 1) a0 a1) := by
 intro a0 a1 k
 have ih0 := laws_eqStreamS.mono_l k
 unfold laws_eqStreamS.f
 have m0 := @laws_eqStream.mono
 exact zm
def laws_eqStreamS.T6 : Bool × List (List Nat × List Nat) := (true, [([], []), ([], []), ([0, 1], [0, 1]), ([2], [2]), ([], []), ([], []), ([4, 5], [4, 5]), ([6], [6]), ([3, 7], [3, 7]), ([8], [8])])
def laws_eqStreamS.B6 : List Nat := [0, 0, 3, 7, 0, 0, 48, 112, 255, 511]
theorem laws_eqStreamS.tab6 : rtab .any (opsOf Try.f68 6) = laws_eqStreamS.T6 := by kernel_rfl
theorem laws_eqStreamS.bits6 : waitsOk laws_eqStreamS.T6.2 laws_eqStreamS.B6 = true := by kernel_rfl
set_option maxHeartbeats 8000000 in
set_option maxRecDepth 100000 in
theorem laws_eqStreamS.calls (k : Nat) (A0 : Option Addr) (c0 : Nat) (l0 : List (S104)) (A1 : Option Addr) (c1 : Nat) (l1 : List (S104)) (r : Bool) (w : World) (hr0 : Kd.C k104 w A0 l0.length l0) (hc0 : l0.length ≤ c0) (hr1 : Kd.C k104 w A1 l1.length l1) (hc1 : l1.length ≤ c1) (h : laws_eqStreamS.f k l0 l1 = some r) :
  Calls Try.prog 68 #[.slice A0 l0.length c0, .slice A1 l1.length c1] w fun e w' => e = .returned (.bool r) ∧ Below w.heap.size w w' := by
 have hu104 := Try.underlying104
 have HR0 := Aside0.mk hr0
 have HC0 := Aside0.mk hc0
 clear hr0 hc0
 have HR1 := Aside0.mk hr1
 have HC1 := Aside0.mk hc1
 clear hr1 hc1
 have HB := Aside0.mk (Below.refl w.heap.size w)
 have H : (if (l0.length : Int) = (l1.length : Int) then (laws_eqStreamS.l0 k l0 l1 0) else (some false)) = some r := h
 clear h
 replace H := sp H
 rcases H with ⟨c3, H⟩ | ⟨c3, H⟩
 ·skip
  have c3b0 : ((l0.length : Int) == (l1.length : Int)) = true := beq_iff_eq.mpr c3
  have c3b1 : ((l0.length : Int) != (l1.length : Int)) = false := bne_eq_false_iff_eq.mpr c3
  have c3b2 : (l0.length == l1.length) = true := by first | simpa using c3 | (simp at c3 ⊢; omega)
  clear c3
  have H' := Aside0.mk H
  clear H
  go_enter Try.func68, Try.ntmps68
  go_wp2
  go_loopg [5] k (fun kq v5 w' => ∃ (x5_1 : Int), v5 = .int .i64 x5_1 ∧ Aside0 (laws_eqStreamS.l0 kq l0 l1 x5_1 = some r) ∧ Aside0 (kq ≤ k) ∧ Aside0 (Below w.heap.size w w'))
  case atStart => exact ⟨(0), zs, H', ⟨Nat.le_refl _⟩, ⟨zb HB⟩⟩
  case round =>
   clear H'
   try clear c1
   try clear p2
   try clear c3
   try clear c3b0
   try clear c3b1
   try clear c3b2
   obtain ⟨x5_1, rfl, HA, HK1, HB⟩ := hrel
   cases gk with
   | zero => exact absurd HA.out (by simp [laws_eqStreamS.l0])
   | succ k1 =>
    have H := HA.out
    clear HA
    simp only [laws_eqStreamS.l0] at H
    by_cases c4 : x5_1 < (l0.length : Int)
    ·rw [if_pos c4] at H
     have c4b0 := decide_eq_true c4
     clear c4
     by_cases c5 : 0 ≤ x5_1
     ·rw [if_pos c5] at H
      have c5b0 := decide_eq_true c5
      clear c5
      by_cases c6 : x5_1 < (l1.length : Int)
      ·rw [if_pos c6] at H
       have c6b0 := decide_eq_true c6
       clear c6
       obtain ⟨t143, A7, H⟩ := ob H
       (try dsimp only at H)
       have HC8 := Aside0.mk H
       clear H
       try go_wp2
       replace HB := Aside0.mk (below_drew1 HB.out)
       have p141 : 0 ≤ (x5_1 : Int) := of_decide_eq_true za
       have q141 : x5_1 < (l0.length : Int) := of_decide_eq_true za
       obtain ⟨ad141, A141_2, c141_2, A141_7, c141_7, e141, hx141_0, hx141_1, hx141_2, hx141_3, hx141_4, hx141_5, hx141_6, hx141_7, hx141_8, hx141_9, hx141_10, hx141_11, hl141_2, hi141_2, hl141_7, hi141_7⟩ := at_T104 HR0.out x5_1 p141 q141
       have hw141_11 := hx141_11
       have hw141_10 := hx141_10
       have hw141_9 := hx141_9
       have hw141_8 := hx141_8
       have hw141_7 := hx141_7
       have hw141_6 := hx141_6
       have hw141_5 := hx141_5
       have hw141_4 := hx141_4
       have hw141_3 := hx141_3
       have hw141_2 := hx141_2
       have hw141_1 := hx141_1
       have hw141_0 := hx141_0
       cases e141
       replace hx141_0 := cb0 hx141_0 HB
       replace hx141_1 := cb0 hx141_1 HB
       replace hx141_2 := cb0 hx141_2 HB
       replace hx141_3 := cb0 hx141_3 HB
       replace hx141_4 := cb0 hx141_4 HB
       replace hx141_5 := cb0 hx141_5 HB
       replace hx141_6 := cb0 hx141_6 HB
       replace hx141_7 := cb0 hx141_7 HB
       replace hx141_8 := cb0 hx141_8 HB
       replace hx141_9 := cb0 hx141_9 HB
       replace hx141_10 := cb0 hx141_10 HB
       replace hx141_11 := cb0 hx141_11 HB
       have HR141_2 := Aside0.mk hi141_2
       have HC141_2 := Aside0.mk hl141_2
       clear hi141_2 hl141_2
       have HR141_7 := Aside0.mk hi141_7
       have HC141_7 := Aside0.mk hl141_7
       clear hi141_7 hl141_7
       replace p141 := eq_true p141
       replace q141 := eq_true q141
       have p142 : 0 ≤ (x5_1 : Int) := of_decide_eq_true za
       have q142 : x5_1 < (l1.length : Int) := of_decide_eq_true za
       obtain ⟨ad142, A142_2, c142_2, A142_7, c142_7, e142, hx142_0, hx142_1, hx142_2, hx142_3, hx142_4, hx142_5, hx142_6, hx142_7, hx142_8, hx142_9, hx142_10, hx142_11, hl142_2, hi142_2, hl142_7, hi142_7⟩ := at_T104 HR1.out x5_1 p142 q142
       have hw142_11 := hx142_11
       have hw142_10 := hx142_10
       have hw142_9 := hx142_9
       have hw142_8 := hx142_8
       have hw142_7 := hx142_7
       have hw142_6 := hx142_6
       have hw142_5 := hx142_5
       have hw142_4 := hx142_4
       have hw142_3 := hx142_3
       have hw142_2 := hx142_2
       have hw142_1 := hx142_1
       have hw142_0 := hx142_0
       cases e142
       replace hx142_0 := cb0 hx142_0 HB
       replace hx142_1 := cb0 hx142_1 HB
       replace hx142_2 := cb0 hx142_2 HB
       replace hx142_3 := cb0 hx142_3 HB
       replace hx142_4 := cb0 hx142_4 HB
       replace hx142_5 := cb0 hx142_5 HB
       replace hx142_6 := cb0 hx142_6 HB
       replace hx142_7 := cb0 hx142_7 HB
       replace hx142_8 := cb0 hx142_8 HB
       replace hx142_9 := cb0 hx142_9 HB
       replace hx142_10 := cb0 hx142_10 HB
       replace hx142_11 := cb0 hx142_11 HB
       have HR142_2 := Aside0.mk hi142_2
       have HC142_2 := Aside0.mk hl142_2
       clear hi142_2 hl142_2
       have HR142_7 := Aside0.mk hi142_7
       have HC142_7 := Aside0.mk hl142_7
       clear hi142_7 hl142_7
       replace p142 := eq_true p142
       replace q142 := eq_true q142
       refine st 10 (an (cb hw141_0 HB) (an (cb hw141_1 HB) (an (cb hw141_2 HB) (an (cb hw141_3 HB) (an (cb hw141_4 HB) (an (cb hw141_5 HB) (an (cb hw141_6 HB) (an (cb hw141_7 HB) (an (cb hw141_8 HB) (an (cb hw141_9 HB) (an (cb hw141_10 HB) (an (cb hw141_11 HB) (an (cb hw142_0 HB) (an (cb hw142_1 HB) (an (cb hw142_2 HB) (an (cb hw142_3 HB) (an (cb hw142_4 HB) (an (cb hw142_5 HB) (an (cb hw142_6 HB) (an (cb hw142_7 HB) (an (cb hw142_8 HB) (an (cb hw142_9 HB) (an (cb hw142_10 HB) (cb hw142_11 HB)))))))))))))))))))))))) (fun hHeld => ?_); refine with_tabW laws_eqStreamS.tab6 laws_eqStreamS.bits6 (fun HT_ HW_ => ?_)
       generalize wr.drew = w9 at HB HR141_2 HR141_7 HR142_2 HR142_7 hx141_0 hx141_1 hx141_10 hx141_11 hx141_2 hx141_3 hx141_4 hx141_5 hx141_6 hx141_7 hx141_8 hx141_9 hx142_0 hx142_1 hx142_10 hx142_11 hx142_2 hx142_3 hx142_4 hx142_5 hx142_6 hx142_7 hx142_8 hx142_9 hHeld ⊢
       refine pu 0 (some 17) (bm 10 1) rfl rfl ?_
       refine pu 1 (some 18) (bm 10 3) rfl rfl ?_
       refine pu 2 (some 19) (bm 10 7) rfl rfl ?_
       refine pu 4 (some 21) (bm 10 23) rfl rfl ?_
       refine pu 5 (some 22) (bm 10 55) rfl rfl ?_
       refine pu 6 (some 23) (bm 10 119) rfl rfl ?_
       refine tk 3 (some 20) (bm 10 127) rfl rfl hHeld ?_
       refine tk 7 (some 24) (bm 10 255) rfl rfl hHeld ?_
       refine one_ (i := 8) (N := some 25) (bm 10 511) rfl rfl (one_of HT_.out (by kernel_rfl)) (by decide) (fun K hK => ?_)
       refine gs Try.func124 #[.agg #[.int .i64 ((rd_T104 l0 x5_1).f0), .int .i64 ((rd_T104 l0 x5_1).f1), .slice A141_2 ((rd_T104 l0 x5_1).f2).length c141_2, .string ((rd_T104 l0 x5_1).f3), .bool ((rd_T104 l0 x5_1).f4), .bool ((rd_T104 l0 x5_1).f5), .int .i64 ((rd_T104 l0 x5_1).f6), .slice A141_7 ((rd_T104 l0 x5_1).f7).length c141_7, .string ((rd_T104 l0 x5_1).f8), .bool ((rd_T104 l0 x5_1).f9), .int .i64 ((rd_T104 l0 x5_1).f10.f0), .int .i64 ((rd_T104 l0 x5_1).f10.f1)], .agg #[.int .i64 ((rd_T104 l1 x5_1).f0), .int .i64 ((rd_T104 l1 x5_1).f1), .slice A142_2 ((rd_T104 l1 x5_1).f2).length c142_2, .string ((rd_T104 l1 x5_1).f3), .bool ((rd_T104 l1 x5_1).f4), .bool ((rd_T104 l1 x5_1).f5), .int .i64 ((rd_T104 l1 x5_1).f6), .slice A142_7 ((rd_T104 l1 x5_1).f7).length c142_7, .string ((rd_T104 l1 x5_1).f8), .bool ((rd_T104 l1 x5_1).f9), .int .i64 ((rd_T104 l1 x5_1).f10.f0), .int .i64 ((rd_T104 l1 x5_1).f10.f1)]] ?_
       with_reducible refine (laws_eqStream.calls k1 ((rd_T104 l0 x5_1).f0) ((rd_T104 l0 x5_1).f1) _ _ ((rd_T104 l0 x5_1).f2) ((rd_T104 l0 x5_1).f3) ((rd_T104 l0 x5_1).f4) ((rd_T104 l0 x5_1).f5) ((rd_T104 l0 x5_1).f6) _ _ ((rd_T104 l0 x5_1).f7) ((rd_T104 l0 x5_1).f8) ((rd_T104 l0 x5_1).f9) ((rd_T104 l0 x5_1).f10.f0) ((rd_T104 l0 x5_1).f10.f1) ((rd_T104 l1 x5_1).f0) ((rd_T104 l1 x5_1).f1) _ _ ((rd_T104 l1 x5_1).f2) ((rd_T104 l1 x5_1).f3) ((rd_T104 l1 x5_1).f4) ((rd_T104 l1 x5_1).f5) ((rd_T104 l1 x5_1).f6) _ _ ((rd_T104 l1 x5_1).f7) ((rd_T104 l1 x5_1).f8) ((rd_T104 l1 x5_1).f9) ((rd_T104 l1 x5_1).f10.f0) ((rd_T104 l1 x5_1).f10.f1) t143 _ ?side1 ?side2 ?side3 ?side4 ?side5 ?side6 ?side7 ?side8 A7.out).mono ?_
       (case side1 => exact zc (Kd.C_below HR141_2.out HB.out))
       (case side2 => exact HC141_2.out)
       (case side3 => exact zc (Kd.C_below HR141_7.out HB.out))
       (case side4 => exact HC141_7.out)
       (case side5 => exact zc (Kd.C_below HR142_2.out HB.out))
       (case side6 => exact HC142_2.out)
       (case side7 => exact zc (Kd.C_below HR142_7.out HB.out))
       (case side8 => exact HC142_7.out)
       rintro e w10 ⟨rfl, hb⟩
       refine ⟨_, rfl, ?_⟩
       replace HB := Aside0.mk (below_step (zb HB) hb)
       (try clear hb)
       refine hK.out _ _ (an (cb hw141_0 HB) (an (cb hw141_1 HB) (an (cb hw141_2 HB) (an (cb hw141_3 HB) (an (cb hw141_4 HB) (an (cb hw141_5 HB) (an (cb hw141_6 HB) (an (cb hw141_7 HB) (an (cb hw141_8 HB) (an (cb hw141_9 HB) (an (cb hw141_10 HB) (an (cb hw141_11 HB) (an (cb hw142_0 HB) (an (cb hw142_1 HB) (an (cb hw142_2 HB) (an (cb hw142_3 HB) (an (cb hw142_4 HB) (an (cb hw142_5 HB) (an (cb hw142_6 HB) (an (cb hw142_7 HB) (an (cb hw142_8 HB) (an (cb hw142_9 HB) (an (cb hw142_10 HB) (cb hw142_11 HB)))))))))))))))))))))))) (fun hHeld => ?_)
       clear hK K
       refine nm ?_
       refine pu 9 (some 26) (bm 10 1023) rfl rfl ?_
       refine done_ (done_of HT_.out (by kernel_rfl)) ?_
       go_upto_if 26 with (fail)
       have H := HC8.out
       clear HC8
       by_cases c11 : t143 = true
       ·subst c11
        rw [if_pos rfl] at H
        have H' := Aside0.mk H
        clear H
        go_wp2
        go_roundg k1
        case measure => have := HK1.out; omega
        case rel => exact ⟨(wrap64 (x5_1 + 1)), zs, H', ⟨by have := HK1.out; omega⟩, ⟨zb HB⟩⟩
       ·replace c11 := Bool.eq_false_iff.mpr c11
        subst c11
        rw [if_neg (show ¬ (false = true) by decide)] at H
        obtain rfl := Option.some.inj H
        go_wp2
        go_ret
        exact ⟨ze, zb HB⟩
      ·rw [if_neg c6] at H
       exact absurd H (by simp)
     ·rw [if_neg c5] at H
      exact absurd H (by simp)
    ·rw [if_neg c4] at H
     have c4b0 := decide_eq_false c4
     clear c4
     obtain rfl := Option.some.inj H
     go_wp2
     go_ret
     exact ⟨ze, zb HB⟩
 ·skip
  have c3b0 : ((l0.length : Int) == (l1.length : Int)) = false := beq_eq_false_iff_ne.mpr c3
  have c3b1 : ((l0.length : Int) != (l1.length : Int)) = true := bne_iff_ne.mpr c3
  have c3b2 : (l0.length == l1.length) = false := by first | simpa using c3 | (simp at c3 ⊢; omega)
  obtain rfl := Option.some.inj H
  go_enter Try.func68, Try.ntmps68
  go_wp2
  go_ret
  exact ⟨ze, zb HB⟩

/-! ### laws_eqEnd: function 22 -/
-- thin
def laws_eqEnd.f (k : Nat) (a0_0 : Bool) (l0_1 : List (S88)) (a0_2 : Int) (l0_3 : List (S88)) (a0_4 : Int) (a0_5 : ByteArray) (l0_6 : List (S104)) (a0_7 : Int) (a0_8 : Int) (l0_9 : List (S110)) (a0_10 : Bool) (a1_0 : Bool) (l1_1 : List (S88)) (a1_2 : Int) (l1_3 : List (S88)) (a1_4 : Int) (a1_5 : ByteArray) (l1_6 : List (S104)) (a1_7 : Int) (a1_8 : Int) (l1_9 : List (S110)) (a1_10 : Bool) : Option (Bool) := if (a0_0 != a1_0) = true then (some false) else ((laws_eqTable.f k l0_1 a0_2 l1_1 a1_2).bind fun t146 => (if t146 = true then ((laws_eqTable.f k l0_3 a0_4 l1_3 a1_4).bind fun t147 => (if t147 = true then (if a0_5.toList = a1_5.toList then ((laws_eqStreamS.f k l0_6 l1_6).bind fun t148 => (if t148 = true then ((laws_eqFlow.f a0_7 a0_8 a1_7 a1_8).bind fun t149 => (if t149 = true then ((laws_eqFrameS.f k l0_9 l1_9).bind fun t150 => (if t150 = true then (if (a0_10 != a1_10) = true then (some false) else (some true)) else (some false))) else (some false))) else (some false))) else (some false)) else (some false))) else (some false)))
theorem laws_eqEnd.mono : ∀ a0 a1 a2 a3 a4 a5 a6 a7 a8 a9 a10 a11 a12 a13 a14 a15 a16 a17 a18 a19 a20 a21 k, LeO (laws_eqEnd.f k a0 a1 a2 a3 a4 a5 a6 a7 a8 a9 a10 a11 a12 a13 a14 a15 a16 a17 a18 a19 a20 a21) (laws_eqEnd.f (k + 1) a0 a1 a2 a3 a4 a5 a6 a7 a8 a9 a10 a11 a12 a13 a14 a15 a16 a17 a18 a19 a20 a21) := by
 intro a0 a1 a2 a3 a4 a5 a6 a7 a8 a9 a10 a11 a12 a13 a14 a15 a16 a17 a18 a19 a20 a21 k
 unfold laws_eqEnd.f
 have m0 := @laws_eqFrameS.mono
 have m1 := @laws_eqStreamS.mono
 have m2 := @laws_eqTable.mono
 exact zm
set_option maxHeartbeats 8000000 in
set_option maxRecDepth 100000 in
theorem laws_eqEnd.calls (k : Nat) (a0_0 : Bool) (A0_1 : Option Addr) (c0_1 : Nat) (l0_1 : List (S88)) (a0_2 : Int) (A0_3 : Option Addr) (c0_3 : Nat) (l0_3 : List (S88)) (a0_4 : Int) (a0_5 : ByteArray) (A0_6 : Option Addr) (c0_6 : Nat) (l0_6 : List (S104)) (a0_7 : Int) (a0_8 : Int) (A0_9 : Option Addr) (c0_9 : Nat) (l0_9 : List (S110)) (a0_10 : Bool) (a1_0 : Bool) (A1_1 : Option Addr) (c1_1 : Nat) (l1_1 : List (S88)) (a1_2 : Int) (A1_3 : Option Addr) (c1_3 : Nat) (l1_3 : List (S88)) (a1_4 : Int) (a1_5 : ByteArray) (A1_6 : Option Addr) (c1_6 : Nat) (l1_6 : List (S104)) (a1_7 : Int) (a1_8 : Int) (A1_9 : Option Addr) (c1_9 : Nat) (l1_9 : List (S110)) (a1_10 : Bool) (r : Bool) (w : World) (hr0_1 : Kd.C k88 w A0_1 l0_1.length l0_1) (hc0_1 : l0_1.length ≤ c0_1) (hr0_3 : Kd.C k88 w A0_3 l0_3.length l0_3) (hc0_3 : l0_3.length ≤ c0_3) (hr0_6 : Kd.C k104 w A0_6 l0_6.length l0_6) (hc0_6 : l0_6.length ≤ c0_6) (hr0_9 : Kd.C k110 w A0_9 l0_9.length l0_9) (hc0_9 : l0_9.length ≤ c0_9) (hr1_1 : Kd.C k88 w A1_1 l1_1.length l1_1) (hc1_1 : l1_1.length ≤ c1_1) (hr1_3 : Kd.C k88 w A1_3 l1_3.length l1_3) (hc1_3 : l1_3.length ≤ c1_3) (hr1_6 : Kd.C k104 w A1_6 l1_6.length l1_6) (hc1_6 : l1_6.length ≤ c1_6) (hr1_9 : Kd.C k110 w A1_9 l1_9.length l1_9) (hc1_9 : l1_9.length ≤ c1_9) (h : laws_eqEnd.f k a0_0 l0_1 a0_2 l0_3 a0_4 a0_5 l0_6 a0_7 a0_8 l0_9 a0_10 a1_0 l1_1 a1_2 l1_3 a1_4 a1_5 l1_6 a1_7 a1_8 l1_9 a1_10 = some r) :
  Calls Try.prog 22 #[.agg #[.bool a0_0, .slice A0_1 l0_1.length c0_1, .int .i64 a0_2, .slice A0_3 l0_3.length c0_3, .int .i64 a0_4, .string a0_5, .slice A0_6 l0_6.length c0_6, .int .i64 a0_7, .int .i64 a0_8, .slice A0_9 l0_9.length c0_9, .bool a0_10], .agg #[.bool a1_0, .slice A1_1 l1_1.length c1_1, .int .i64 a1_2, .slice A1_3 l1_3.length c1_3, .int .i64 a1_4, .string a1_5, .slice A1_6 l1_6.length c1_6, .int .i64 a1_7, .int .i64 a1_8, .slice A1_9 l1_9.length c1_9, .bool a1_10]] w fun e w' => e = .returned (.bool r) ∧ Below w.heap.size w w' := by
 have hu42 := Try.underlying42
 have hu25 := Try.underlying25
 have hu39 := Try.underlying39
 have HR0_1 := Aside0.mk hr0_1
 have HC0_1 := Aside0.mk hc0_1
 clear hr0_1 hc0_1
 have HR0_3 := Aside0.mk hr0_3
 have HC0_3 := Aside0.mk hc0_3
 clear hr0_3 hc0_3
 have HR0_6 := Aside0.mk hr0_6
 have HC0_6 := Aside0.mk hc0_6
 clear hr0_6 hc0_6
 have HR0_9 := Aside0.mk hr0_9
 have HC0_9 := Aside0.mk hc0_9
 clear hr0_9 hc0_9
 have HR1_1 := Aside0.mk hr1_1
 have HC1_1 := Aside0.mk hc1_1
 clear hr1_1 hc1_1
 have HR1_3 := Aside0.mk hr1_3
 have HC1_3 := Aside0.mk hc1_3
 clear hr1_3 hc1_3
 have HR1_6 := Aside0.mk hr1_6
 have HC1_6 := Aside0.mk hc1_6
 clear hr1_6 hc1_6
 have HR1_9 := Aside0.mk hr1_9
 have HC1_9 := Aside0.mk hc1_9
 clear hr1_9 hc1_9
 have HB := Aside0.mk (Below.refl w.heap.size w)
 have H : (if (a0_0 != a1_0) = true then (some false) else ((laws_eqTable.f k l0_1 a0_2 l1_1 a1_2).bind fun t146 => (if t146 = true then ((laws_eqTable.f k l0_3 a0_4 l1_3 a1_4).bind fun t147 => (if t147 = true then (if a0_5.toList = a1_5.toList then ((laws_eqStreamS.f k l0_6 l1_6).bind fun t148 => (if t148 = true then ((laws_eqFlow.f a0_7 a0_8 a1_7 a1_8).bind fun t149 => (if t149 = true then ((laws_eqFrameS.f k l0_9 l1_9).bind fun t150 => (if t150 = true then (if (a0_10 != a1_10) = true then (some false) else (some true)) else (some false))) else (some false))) else (some false))) else (some false)) else (some false))) else (some false)))) = some r := h
 clear h
 have HC3 := Aside0.mk H
 clear H
 go_enter Try.func22, Try.ntmps22
 go_upto_if 9 with (first | ((with_reducible refine gd 2 rfl ?_); refine bx (N := 2) (cs := #[.bool a0_0, .slice A0_1 l0_1.length c0_1, .int .i64 a0_2, .slice A0_3 l0_3.length c0_3, .int .i64 a0_4, .string a0_5, .slice A0_6 l0_6.length c0_6, .int .i64 a0_7, .int .i64 a0_8, .slice A0_9 l0_9.length c0_9, .bool a0_10]) (t := 42) ?_; intro gb144 hg w4 hbox hb; have BK144 := Aside0.mk (hbox); have GW144 := gw HB hg; have GE144 := GW144; replace HB := Aside0.mk (below_step (zb HB) hb); clear hb hbox hg) | ((with_reducible refine gd 3 rfl ?_); refine bx (N := 3) (cs := #[.bool a1_0, .slice A1_1 l1_1.length c1_1, .int .i64 a1_2, .slice A1_3 l1_3.length c1_3, .int .i64 a1_4, .string a1_5, .slice A1_6 l1_6.length c1_6, .int .i64 a1_7, .int .i64 a1_8, .slice A1_9 l1_9.length c1_9, .bool a1_10]) (t := 42) ?_; intro gb145 hg w5 hbox hb; have BK145 := Aside0.mk (hbox); have GW145 := gw HB hg; have GE145 := GW145; replace HB := Aside0.mk (below_step (zb HB) hb); obtain ⟨NB144_145, NB145_144⟩ := nb BK144 hg; replace BK144 := kb BK144 hb; clear hb hbox hg; have hnb6 := NB144_145.out; have hnc6 := NB145_144.out; obtain ⟨hcz7_0, hcz7_1, hcz7_2, hcz7_3, hcz7_4, hcz7_5, hcz7_6, hcz7_7, hcz7_8, hcz7_9, hcz7_10, hfz7_0, hfz7_1, hfz7_2, hfz7_3, hfz7_4, hfz7_5, hfz7_6, hfz7_7, hfz7_8, hfz7_9, hfz7_10⟩ := c11 BK144; obtain ⟨hcz8_0, hcz8_1, hcz8_2, hcz8_3, hcz8_4, hcz8_5, hcz8_6, hcz8_7, hcz8_8, hcz8_9, hcz8_10, hfz8_0, hfz8_1, hfz8_2, hfz8_3, hfz8_4, hfz8_5, hfz8_6, hfz8_7, hfz8_8, hfz8_9, hfz8_10⟩ := c11 BK145))
 (try simp only [Act.put, s1, s2, s3])
 have H := HC3.out
 clear HC3
 replace H := sp H
 rcases H with ⟨c9, H⟩ | ⟨c9, H⟩
 ·skip
  have c9b0 : (a0_0 != a1_0) = true := c9
  (try (have c9b1 : decide (a0_0 = a1_0) = false := by simpa using c9))
  (try (have c9b2 : (a0_0 == a1_0) = false := by simpa using c9))
  (try (have c9b3 : ¬ (a0_0 = a1_0) := by simpa using c9))
  clear c9
  (first | rw [c9b0] | rw [c9b1] | rw [c9b2] | (simp only [i64_w, i32_w]; rw [c9b0]) | skip)
  obtain rfl := Option.some.inj H
  go_wp2
  go_ret
  exact ⟨ze, zb HB⟩
 ·skip
  have c9b0 : (a0_0 != a1_0) = false := by simpa using c9
  (try (have c9b1 : decide (a0_0 = a1_0) = true := by simpa using c9))
  (try (have c9b2 : (a0_0 == a1_0) = true := by simpa using c9))
  clear c9
  (first | rw [c9b0] | rw [c9b1] | rw [c9b2] | (simp only [i64_w, i32_w]; rw [c9b0]) | skip)
  obtain ⟨t146, A10, H⟩ := ob H
  (try dsimp only at H)
  by_cases c11 : t146 = true
  ·subst c11
   rw [if_pos rfl] at H
   obtain ⟨t147, A12, H⟩ := ob H
   (try dsimp only at H)
   have HC13 := Aside0.mk H
   clear H
   have hnb14 := NB144_145.out
   have hnc14 := NB145_144.out
   obtain ⟨hcz15_0, hcz15_1, hcz15_2, hcz15_3, hcz15_4, hcz15_5, hcz15_6, hcz15_7, hcz15_8, hcz15_9, hcz15_10, hfz15_0, hfz15_1, hfz15_2, hfz15_3, hfz15_4, hfz15_5, hfz15_6, hfz15_7, hfz15_8, hfz15_9, hfz15_10⟩ := c11 BK144
   obtain ⟨hcz16_0, hcz16_1, hcz16_2, hcz16_3, hcz16_4, hcz16_5, hcz16_6, hcz16_7, hcz16_8, hcz16_9, hcz16_10, hfz16_0, hfz16_1, hfz16_2, hfz16_3, hfz16_4, hfz16_5, hfz16_6, hfz16_7, hfz16_8, hfz16_9, hfz16_10⟩ := c11 BK145
   go_upto_if 21 with (first | ((with_reducible refine gq 67 rfl ?_); refine gl (some 14) Try.func67 #[.agg #[.slice A0_1 l0_1.length c0_1, .int .i64 a0_2], .agg #[.slice A1_1 l1_1.length c1_1, .int .i64 a1_2]] ?_; (with_reducible refine (laws_eqTable.calls k _ _ l0_1 a0_2 _ _ l1_1 a1_2 true _ ?side1 ?side2 ?side3 ?side4 A10.out).mono ?_); (case side1 => exact zc (Kd.C_below HR0_1.out HB.out)); (case side2 => exact HC0_1.out); (case side3 => exact zc (Kd.C_below HR1_1.out HB.out)); (case side4 => exact HC1_1.out); rintro e w17 ⟨rfl, hb⟩; refine ⟨_, rfl, ?_⟩; replace BK144 := kb BK144 hb; replace BK145 := kb BK145 hb; replace HB := Aside0.mk (below_step (zb HB) hb); (try clear hb); obtain ⟨hcz18_0, hcz18_1, hcz18_2, hcz18_3, hcz18_4, hcz18_5, hcz18_6, hcz18_7, hcz18_8, hcz18_9, hcz18_10, hfz18_0, hfz18_1, hfz18_2, hfz18_3, hfz18_4, hfz18_5, hfz18_6, hfz18_7, hfz18_8, hfz18_9, hfz18_10⟩ := c11 BK144; obtain ⟨hcz19_0, hcz19_1, hcz19_2, hcz19_3, hcz19_4, hcz19_5, hcz19_6, hcz19_7, hcz19_8, hcz19_9, hcz19_10, hfz19_0, hfz19_1, hfz19_2, hfz19_3, hfz19_4, hfz19_5, hfz19_6, hfz19_7, hfz19_8, hfz19_9, hfz19_10⟩ := c11 BK145) | ((with_reducible refine gq 67 rfl ?_); refine gl (some 20) Try.func67 #[.agg #[.slice A0_3 l0_3.length c0_3, .int .i64 a0_4], .agg #[.slice A1_3 l1_3.length c1_3, .int .i64 a1_4]] ?_; (with_reducible refine (laws_eqTable.calls k _ _ l0_3 a0_4 _ _ l1_3 a1_4 t147 _ ?side1 ?side2 ?side3 ?side4 A12.out).mono ?_); (case side1 => exact zc (Kd.C_below HR0_3.out HB.out)); (case side2 => exact HC0_3.out); (case side3 => exact zc (Kd.C_below HR1_3.out HB.out)); (case side4 => exact HC1_3.out); rintro e w20 ⟨rfl, hb⟩; refine ⟨_, rfl, ?_⟩; replace BK144 := kb BK144 hb; replace BK145 := kb BK145 hb; replace HB := Aside0.mk (below_step (zb HB) hb); (try clear hb)))
   (try simp only [Act.put, s1, s2, s3])
   have H := HC13.out
   clear HC13
   by_cases c21 : t147 = true
   ·subst c21
    rw [if_pos rfl] at H
    replace H := sp H
    rcases H with ⟨c22, H⟩ | ⟨c22, H⟩
    ·skip
     have c22b0 : (a0_5.toList == a1_5.toList) = true := beq_iff_eq.mpr c22
     have c22b1 : (a0_5.toList != a1_5.toList) = false := bne_eq_false_iff_eq.mpr c22
     clear c22
     (first | rw [c22b0] | rw [c22b1] | rw [c22b2] | (simp only [i64_w, i32_w]; rw [c22b0]) | skip)
     obtain ⟨t148, A23, H⟩ := ob H
     (try dsimp only at H)
     by_cases c24 : t148 = true
     ·subst c24
      rw [if_pos rfl] at H
      obtain ⟨t149, A25, H⟩ := ob H
      (try dsimp only at H)
      have HC26 := Aside0.mk H
      clear H
      have hnb27 := NB144_145.out
      have hnc27 := NB145_144.out
      obtain ⟨hcz28_0, hcz28_1, hcz28_2, hcz28_3, hcz28_4, hcz28_5, hcz28_6, hcz28_7, hcz28_8, hcz28_9, hcz28_10, hfz28_0, hfz28_1, hfz28_2, hfz28_3, hfz28_4, hfz28_5, hfz28_6, hfz28_7, hfz28_8, hfz28_9, hfz28_10⟩ := c11 BK144
      obtain ⟨hcz29_0, hcz29_1, hcz29_2, hcz29_3, hcz29_4, hcz29_5, hcz29_6, hcz29_7, hcz29_8, hcz29_9, hcz29_10, hfz29_0, hfz29_1, hfz29_2, hfz29_3, hfz29_4, hfz29_5, hfz29_6, hfz29_7, hfz29_8, hfz29_9, hfz29_10⟩ := c11 BK145
      go_upto_if 38 with (first | ((with_reducible refine gq 68 rfl ?_); refine gl (some 31) Try.func68 #[.slice A0_6 l0_6.length c0_6, .slice A1_6 l1_6.length c1_6] ?_; (with_reducible refine (laws_eqStreamS.calls k _ _ l0_6 _ _ l1_6 true _ ?side1 ?side2 ?side3 ?side4 A23.out).mono ?_); (case side1 => exact zc (Kd.C_below HR0_6.out HB.out)); (case side2 => exact HC0_6.out); (case side3 => exact zc (Kd.C_below HR1_6.out HB.out)); (case side4 => exact HC1_6.out); rintro e w30 ⟨rfl, hb⟩; refine ⟨_, rfl, ?_⟩; replace BK144 := kb BK144 hb; replace BK145 := kb BK145 hb; replace HB := Aside0.mk (below_step (zb HB) hb); (try clear hb); obtain ⟨hcz31_0, hcz31_1, hcz31_2, hcz31_3, hcz31_4, hcz31_5, hcz31_6, hcz31_7, hcz31_8, hcz31_9, hcz31_10, hfz31_0, hfz31_1, hfz31_2, hfz31_3, hfz31_4, hfz31_5, hfz31_6, hfz31_7, hfz31_8, hfz31_9, hfz31_10⟩ := c11 BK144; obtain ⟨hcz32_0, hcz32_1, hcz32_2, hcz32_3, hcz32_4, hcz32_5, hcz32_6, hcz32_7, hcz32_8, hcz32_9, hcz32_10, hfz32_0, hfz32_1, hfz32_2, hfz32_3, hfz32_4, hfz32_5, hfz32_6, hfz32_7, hfz32_8, hfz32_9, hfz32_10⟩ := c11 BK145) | ((with_reducible refine gq 69 rfl ?_); refine gl (some 37) Try.func69 #[.agg #[.int .i64 a0_7, .int .i64 a0_8], .agg #[.int .i64 a1_7, .int .i64 a1_8]] ?_; (with_reducible refine (laws_eqFlow.calls a0_7 a0_8 a1_7 a1_8 t149 _ A25.out).mono ?_); rintro e w33 ⟨rfl, hb⟩; refine ⟨_, rfl, ?_⟩; replace BK144 := kb BK144 hb; replace BK145 := kb BK145 hb; replace HB := Aside0.mk (below_step (zb HB) hb); (try clear hb)))
      (try simp only [Act.put, s1, s2, s3])
      have H := HC26.out
      clear HC26
      by_cases c34 : t149 = true
      ·subst c34
       rw [if_pos rfl] at H
       obtain ⟨t150, A35, H⟩ := ob H
       (try dsimp only at H)
       by_cases c36 : t150 = true
       ·subst c36
        rw [if_pos rfl] at H
        by_cases c37 : (a0_10 != a1_10) = true
        ·rw [if_pos c37] at H
         have c37b0 : (a0_10 != a1_10) = true := c37
         (try (have c37b1 : decide (a0_10 = a1_10) = false := by simpa using c37))
         (try (have c37b2 : (a0_10 == a1_10) = false := by simpa using c37))
         (try (have c37b3 : ¬ (a0_10 = a1_10) := by simpa using c37))
         clear c37
         (first | rw [c37b0] | rw [c37b1] | rw [c37b2] | (simp only [i64_w, i32_w]; rw [c37b0]) | skip)
         obtain rfl := Option.some.inj H
         have hnb38 := NB144_145.out
         have hnc38 := NB145_144.out
         obtain ⟨hcz39_0, hcz39_1, hcz39_2, hcz39_3, hcz39_4, hcz39_5, hcz39_6, hcz39_7, hcz39_8, hcz39_9, hcz39_10, hfz39_0, hfz39_1, hfz39_2, hfz39_3, hfz39_4, hfz39_5, hfz39_6, hfz39_7, hfz39_8, hfz39_9, hfz39_10⟩ := c11 BK144
         obtain ⟨hcz40_0, hcz40_1, hcz40_2, hcz40_3, hcz40_4, hcz40_5, hcz40_6, hcz40_7, hcz40_8, hcz40_9, hcz40_10, hfz40_0, hfz40_1, hfz40_2, hfz40_3, hfz40_4, hfz40_5, hfz40_6, hfz40_7, hfz40_8, hfz40_9, hfz40_10⟩ := c11 BK145
         go_wp2_with (first | ((with_reducible refine gq 44 rfl ?_); refine gl (some 43) Try.func44 #[.slice A0_9 l0_9.length c0_9, .slice A1_9 l1_9.length c1_9] ?_; (with_reducible refine (laws_eqFrameS.calls k _ _ l0_9 _ _ l1_9 true _ ?side1 ?side2 ?side3 ?side4 A35.out).mono ?_); (case side1 => exact zc (Kd.C_below HR0_9.out HB.out)); (case side2 => exact HC0_9.out); (case side3 => exact zc (Kd.C_below HR1_9.out HB.out)); (case side4 => exact HC1_9.out); rintro e w41 ⟨rfl, hb⟩; refine ⟨_, rfl, ?_⟩; replace BK144 := kb BK144 hb; replace BK145 := kb BK145 hb; replace HB := Aside0.mk (below_step (zb HB) hb); (try clear hb); obtain ⟨hcz42_0, hcz42_1, hcz42_2, hcz42_3, hcz42_4, hcz42_5, hcz42_6, hcz42_7, hcz42_8, hcz42_9, hcz42_10, hfz42_0, hfz42_1, hfz42_2, hfz42_3, hfz42_4, hfz42_5, hfz42_6, hfz42_7, hfz42_8, hfz42_9, hfz42_10⟩ := c11 BK144; obtain ⟨hcz43_0, hcz43_1, hcz43_2, hcz43_3, hcz43_4, hcz43_5, hcz43_6, hcz43_7, hcz43_8, hcz43_9, hcz43_10, hfz43_0, hfz43_1, hfz43_2, hfz43_3, hfz43_4, hfz43_5, hfz43_6, hfz43_7, hfz43_8, hfz43_9, hfz43_10⟩ := c11 BK145))
         go_ret
         exact ⟨ze, zb HB⟩
        ·rw [if_neg c37] at H
         have c37b0 : (a0_10 != a1_10) = false := by simpa using c37
         (try (have c37b1 : decide (a0_10 = a1_10) = true := by simpa using c37))
         (try (have c37b2 : (a0_10 == a1_10) = true := by simpa using c37))
         clear c37
         (first | rw [c37b0] | rw [c37b1] | rw [c37b2] | (simp only [i64_w, i32_w]; rw [c37b0]) | skip)
         obtain rfl := Option.some.inj H
         have hnb44 := NB144_145.out
         have hnc44 := NB145_144.out
         obtain ⟨hcz45_0, hcz45_1, hcz45_2, hcz45_3, hcz45_4, hcz45_5, hcz45_6, hcz45_7, hcz45_8, hcz45_9, hcz45_10, hfz45_0, hfz45_1, hfz45_2, hfz45_3, hfz45_4, hfz45_5, hfz45_6, hfz45_7, hfz45_8, hfz45_9, hfz45_10⟩ := c11 BK144
         obtain ⟨hcz46_0, hcz46_1, hcz46_2, hcz46_3, hcz46_4, hcz46_5, hcz46_6, hcz46_7, hcz46_8, hcz46_9, hcz46_10, hfz46_0, hfz46_1, hfz46_2, hfz46_3, hfz46_4, hfz46_5, hfz46_6, hfz46_7, hfz46_8, hfz46_9, hfz46_10⟩ := c11 BK145
         go_wp2_with (first | ((with_reducible refine gq 44 rfl ?_); refine gl (some 43) Try.func44 #[.slice A0_9 l0_9.length c0_9, .slice A1_9 l1_9.length c1_9] ?_; (with_reducible refine (laws_eqFrameS.calls k _ _ l0_9 _ _ l1_9 true _ ?side1 ?side2 ?side3 ?side4 A35.out).mono ?_); (case side1 => exact zc (Kd.C_below HR0_9.out HB.out)); (case side2 => exact HC0_9.out); (case side3 => exact zc (Kd.C_below HR1_9.out HB.out)); (case side4 => exact HC1_9.out); rintro e w47 ⟨rfl, hb⟩; refine ⟨_, rfl, ?_⟩; replace BK144 := kb BK144 hb; replace BK145 := kb BK145 hb; replace HB := Aside0.mk (below_step (zb HB) hb); (try clear hb); obtain ⟨hcz48_0, hcz48_1, hcz48_2, hcz48_3, hcz48_4, hcz48_5, hcz48_6, hcz48_7, hcz48_8, hcz48_9, hcz48_10, hfz48_0, hfz48_1, hfz48_2, hfz48_3, hfz48_4, hfz48_5, hfz48_6, hfz48_7, hfz48_8, hfz48_9, hfz48_10⟩ := c11 BK144; obtain ⟨hcz49_0, hcz49_1, hcz49_2, hcz49_3, hcz49_4, hcz49_5, hcz49_6, hcz49_7, hcz49_8, hcz49_9, hcz49_10, hfz49_0, hfz49_1, hfz49_2, hfz49_3, hfz49_4, hfz49_5, hfz49_6, hfz49_7, hfz49_8, hfz49_9, hfz49_10⟩ := c11 BK145))
         go_ret
         exact ⟨ze, zb HB⟩
       ·replace c36 := Bool.eq_false_iff.mpr c36
        subst c36
        rw [if_neg (show ¬ (false = true) by decide)] at H
        obtain rfl := Option.some.inj H
        have hnb50 := NB144_145.out
        have hnc50 := NB145_144.out
        obtain ⟨hcz51_0, hcz51_1, hcz51_2, hcz51_3, hcz51_4, hcz51_5, hcz51_6, hcz51_7, hcz51_8, hcz51_9, hcz51_10, hfz51_0, hfz51_1, hfz51_2, hfz51_3, hfz51_4, hfz51_5, hfz51_6, hfz51_7, hfz51_8, hfz51_9, hfz51_10⟩ := c11 BK144
        obtain ⟨hcz52_0, hcz52_1, hcz52_2, hcz52_3, hcz52_4, hcz52_5, hcz52_6, hcz52_7, hcz52_8, hcz52_9, hcz52_10, hfz52_0, hfz52_1, hfz52_2, hfz52_3, hfz52_4, hfz52_5, hfz52_6, hfz52_7, hfz52_8, hfz52_9, hfz52_10⟩ := c11 BK145
        go_wp2_with (first | ((with_reducible refine gq 44 rfl ?_); refine gl (some 43) Try.func44 #[.slice A0_9 l0_9.length c0_9, .slice A1_9 l1_9.length c1_9] ?_; (with_reducible refine (laws_eqFrameS.calls k _ _ l0_9 _ _ l1_9 false _ ?side1 ?side2 ?side3 ?side4 A35.out).mono ?_); (case side1 => exact zc (Kd.C_below HR0_9.out HB.out)); (case side2 => exact HC0_9.out); (case side3 => exact zc (Kd.C_below HR1_9.out HB.out)); (case side4 => exact HC1_9.out); rintro e w53 ⟨rfl, hb⟩; refine ⟨_, rfl, ?_⟩; replace BK144 := kb BK144 hb; replace BK145 := kb BK145 hb; replace HB := Aside0.mk (below_step (zb HB) hb); (try clear hb)))
        go_ret
        exact ⟨ze, zb HB⟩
      ·replace c34 := Bool.eq_false_iff.mpr c34
       subst c34
       rw [if_neg (show ¬ (false = true) by decide)] at H
       obtain rfl := Option.some.inj H
       go_wp2
       go_ret
       exact ⟨ze, zb HB⟩
     ·replace c24 := Bool.eq_false_iff.mpr c24
      subst c24
      rw [if_neg (show ¬ (false = true) by decide)] at H
      obtain rfl := Option.some.inj H
      have hnb54 := NB144_145.out
      have hnc54 := NB145_144.out
      obtain ⟨hcz55_0, hcz55_1, hcz55_2, hcz55_3, hcz55_4, hcz55_5, hcz55_6, hcz55_7, hcz55_8, hcz55_9, hcz55_10, hfz55_0, hfz55_1, hfz55_2, hfz55_3, hfz55_4, hfz55_5, hfz55_6, hfz55_7, hfz55_8, hfz55_9, hfz55_10⟩ := c11 BK144
      obtain ⟨hcz56_0, hcz56_1, hcz56_2, hcz56_3, hcz56_4, hcz56_5, hcz56_6, hcz56_7, hcz56_8, hcz56_9, hcz56_10, hfz56_0, hfz56_1, hfz56_2, hfz56_3, hfz56_4, hfz56_5, hfz56_6, hfz56_7, hfz56_8, hfz56_9, hfz56_10⟩ := c11 BK145
      go_wp2_with (first | ((with_reducible refine gq 68 rfl ?_); refine gl (some 31) Try.func68 #[.slice A0_6 l0_6.length c0_6, .slice A1_6 l1_6.length c1_6] ?_; (with_reducible refine (laws_eqStreamS.calls k _ _ l0_6 _ _ l1_6 false _ ?side1 ?side2 ?side3 ?side4 A23.out).mono ?_); (case side1 => exact zc (Kd.C_below HR0_6.out HB.out)); (case side2 => exact HC0_6.out); (case side3 => exact zc (Kd.C_below HR1_6.out HB.out)); (case side4 => exact HC1_6.out); rintro e w57 ⟨rfl, hb⟩; refine ⟨_, rfl, ?_⟩; replace BK144 := kb BK144 hb; replace BK145 := kb BK145 hb; replace HB := Aside0.mk (below_step (zb HB) hb); (try clear hb)))
      go_ret
      exact ⟨ze, zb HB⟩
    ·skip
     have c22b0 : (a0_5.toList == a1_5.toList) = false := beq_eq_false_iff_ne.mpr c22
     have c22b1 : (a0_5.toList != a1_5.toList) = true := bne_iff_ne.mpr c22
     (first | rw [c22b0] | rw [c22b1] | rw [c22b2] | (simp only [i64_w, i32_w]; rw [c22b0]) | skip)
     obtain rfl := Option.some.inj H
     have hnb58 := NB144_145.out
     have hnc58 := NB145_144.out
     obtain ⟨hcz59_0, hcz59_1, hcz59_2, hcz59_3, hcz59_4, hcz59_5, hcz59_6, hcz59_7, hcz59_8, hcz59_9, hcz59_10, hfz59_0, hfz59_1, hfz59_2, hfz59_3, hfz59_4, hfz59_5, hfz59_6, hfz59_7, hfz59_8, hfz59_9, hfz59_10⟩ := c11 BK144
     obtain ⟨hcz60_0, hcz60_1, hcz60_2, hcz60_3, hcz60_4, hcz60_5, hcz60_6, hcz60_7, hcz60_8, hcz60_9, hcz60_10, hfz60_0, hfz60_1, hfz60_2, hfz60_3, hfz60_4, hfz60_5, hfz60_6, hfz60_7, hfz60_8, hfz60_9, hfz60_10⟩ := c11 BK145
     go_wp2
     go_ret
     exact ⟨ze, zb HB⟩
   ·replace c21 := Bool.eq_false_iff.mpr c21
    subst c21
    rw [if_neg (show ¬ (false = true) by decide)] at H
    obtain rfl := Option.some.inj H
    go_wp2
    go_ret
    exact ⟨ze, zb HB⟩
  ·replace c11 := Bool.eq_false_iff.mpr c11
   subst c11
   rw [if_neg (show ¬ (false = true) by decide)] at H
   obtain rfl := Option.some.inj H
   have hnb61 := NB144_145.out
   have hnc61 := NB145_144.out
   obtain ⟨hcz62_0, hcz62_1, hcz62_2, hcz62_3, hcz62_4, hcz62_5, hcz62_6, hcz62_7, hcz62_8, hcz62_9, hcz62_10, hfz62_0, hfz62_1, hfz62_2, hfz62_3, hfz62_4, hfz62_5, hfz62_6, hfz62_7, hfz62_8, hfz62_9, hfz62_10⟩ := c11 BK144
   obtain ⟨hcz63_0, hcz63_1, hcz63_2, hcz63_3, hcz63_4, hcz63_5, hcz63_6, hcz63_7, hcz63_8, hcz63_9, hcz63_10, hfz63_0, hfz63_1, hfz63_2, hfz63_3, hfz63_4, hfz63_5, hfz63_6, hfz63_7, hfz63_8, hfz63_9, hfz63_10⟩ := c11 BK145
   go_wp2_with (first | ((with_reducible refine gq 67 rfl ?_); refine gl (some 14) Try.func67 #[.agg #[.slice A0_1 l0_1.length c0_1, .int .i64 a0_2], .agg #[.slice A1_1 l1_1.length c1_1, .int .i64 a1_2]] ?_; (with_reducible refine (laws_eqTable.calls k _ _ l0_1 a0_2 _ _ l1_1 a1_2 false _ ?side1 ?side2 ?side3 ?side4 A10.out).mono ?_); (case side1 => exact zc (Kd.C_below HR0_1.out HB.out)); (case side2 => exact HC0_1.out); (case side3 => exact zc (Kd.C_below HR1_1.out HB.out)); (case side4 => exact HC1_1.out); rintro e w64 ⟨rfl, hb⟩; refine ⟨_, rfl, ?_⟩; replace BK144 := kb BK144 hb; replace BK145 := kb BK145 hb; replace HB := Aside0.mk (below_step (zb HB) hb); (try clear hb)))
   go_ret
   exact ⟨ze, zb HB⟩

/-! ### laws_eqWorld: function 27 -/
-- thin
def laws_eqWorld.f (k : Nat) (a0_0 : Bool) (l0_1 : List (S88)) (a0_2 : Int) (l0_3 : List (S88)) (a0_4 : Int) (a0_5 : ByteArray) (l0_6 : List (S104)) (a0_7 : Int) (a0_8 : Int) (l0_9 : List (S110)) (a0_10 : Bool) (a0_11 : Bool) (l0_12 : List (S88)) (a0_13 : Int) (l0_14 : List (S88)) (a0_15 : Int) (a0_16 : ByteArray) (l0_17 : List (S104)) (a0_18 : Int) (a0_19 : Int) (l0_20 : List (S110)) (a0_21 : Bool) (a0_22 : ByteArray) (a0_23 : ByteArray) (a1_0 : Bool) (l1_1 : List (S88)) (a1_2 : Int) (l1_3 : List (S88)) (a1_4 : Int) (a1_5 : ByteArray) (l1_6 : List (S104)) (a1_7 : Int) (a1_8 : Int) (l1_9 : List (S110)) (a1_10 : Bool) (a1_11 : Bool) (l1_12 : List (S88)) (a1_13 : Int) (l1_14 : List (S88)) (a1_15 : Int) (a1_16 : ByteArray) (l1_17 : List (S104)) (a1_18 : Int) (a1_19 : Int) (l1_20 : List (S110)) (a1_21 : Bool) (a1_22 : ByteArray) (a1_23 : ByteArray) : Option (Bool) := (laws_eqEnd.f k a0_0 l0_1 a0_2 l0_3 a0_4 a0_5 l0_6 a0_7 a0_8 l0_9 a0_10 a1_0 l1_1 a1_2 l1_3 a1_4 a1_5 l1_6 a1_7 a1_8 l1_9 a1_10).bind fun t153 => (if t153 = true then ((laws_eqEnd.f k a0_11 l0_12 a0_13 l0_14 a0_15 a0_16 l0_17 a0_18 a0_19 l0_20 a0_21 a1_11 l1_12 a1_13 l1_14 a1_15 a1_16 l1_17 a1_18 a1_19 l1_20 a1_21).bind fun t154 => (if t154 = true then (if a0_22.toList = a1_22.toList then (if a0_23.toList = a1_23.toList then (some true) else (some false)) else (some false)) else (some false))) else (some false))
theorem laws_eqWorld.mono : ∀ a0 a1 a2 a3 a4 a5 a6 a7 a8 a9 a10 a11 a12 a13 a14 a15 a16 a17 a18 a19 a20 a21 a22 a23 a24 a25 a26 a27 a28 a29 a30 a31 a32 a33 a34 a35 a36 a37 a38 a39 a40 a41 a42 a43 a44 a45 a46 a47 k, LeO (laws_eqWorld.f k a0 a1 a2 a3 a4 a5 a6 a7 a8 a9 a10 a11 a12 a13 a14 a15 a16 a17 a18 a19 a20 a21 a22 a23 a24 a25 a26 a27 a28 a29 a30 a31 a32 a33 a34 a35 a36 a37 a38 a39 a40 a41 a42 a43 a44 a45 a46 a47) (laws_eqWorld.f (k + 1) a0 a1 a2 a3 a4 a5 a6 a7 a8 a9 a10 a11 a12 a13 a14 a15 a16 a17 a18 a19 a20 a21 a22 a23 a24 a25 a26 a27 a28 a29 a30 a31 a32 a33 a34 a35 a36 a37 a38 a39 a40 a41 a42 a43 a44 a45 a46 a47) := by
 intro a0 a1 a2 a3 a4 a5 a6 a7 a8 a9 a10 a11 a12 a13 a14 a15 a16 a17 a18 a19 a20 a21 a22 a23 a24 a25 a26 a27 a28 a29 a30 a31 a32 a33 a34 a35 a36 a37 a38 a39 a40 a41 a42 a43 a44 a45 a46 a47 k
 unfold laws_eqWorld.f
 have m0 := @laws_eqEnd.mono
 exact zm
set_option maxHeartbeats 8000000 in
set_option maxRecDepth 100000 in
theorem laws_eqWorld.calls (k : Nat) (a0_0 : Bool) (A0_1 : Option Addr) (c0_1 : Nat) (l0_1 : List (S88)) (a0_2 : Int) (A0_3 : Option Addr) (c0_3 : Nat) (l0_3 : List (S88)) (a0_4 : Int) (a0_5 : ByteArray) (A0_6 : Option Addr) (c0_6 : Nat) (l0_6 : List (S104)) (a0_7 : Int) (a0_8 : Int) (A0_9 : Option Addr) (c0_9 : Nat) (l0_9 : List (S110)) (a0_10 : Bool) (a0_11 : Bool) (A0_12 : Option Addr) (c0_12 : Nat) (l0_12 : List (S88)) (a0_13 : Int) (A0_14 : Option Addr) (c0_14 : Nat) (l0_14 : List (S88)) (a0_15 : Int) (a0_16 : ByteArray) (A0_17 : Option Addr) (c0_17 : Nat) (l0_17 : List (S104)) (a0_18 : Int) (a0_19 : Int) (A0_20 : Option Addr) (c0_20 : Nat) (l0_20 : List (S110)) (a0_21 : Bool) (a0_22 : ByteArray) (a0_23 : ByteArray) (a1_0 : Bool) (A1_1 : Option Addr) (c1_1 : Nat) (l1_1 : List (S88)) (a1_2 : Int) (A1_3 : Option Addr) (c1_3 : Nat) (l1_3 : List (S88)) (a1_4 : Int) (a1_5 : ByteArray) (A1_6 : Option Addr) (c1_6 : Nat) (l1_6 : List (S104)) (a1_7 : Int) (a1_8 : Int) (A1_9 : Option Addr) (c1_9 : Nat) (l1_9 : List (S110)) (a1_10 : Bool) (a1_11 : Bool) (A1_12 : Option Addr) (c1_12 : Nat) (l1_12 : List (S88)) (a1_13 : Int) (A1_14 : Option Addr) (c1_14 : Nat) (l1_14 : List (S88)) (a1_15 : Int) (a1_16 : ByteArray) (A1_17 : Option Addr) (c1_17 : Nat) (l1_17 : List (S104)) (a1_18 : Int) (a1_19 : Int) (A1_20 : Option Addr) (c1_20 : Nat) (l1_20 : List (S110)) (a1_21 : Bool) (a1_22 : ByteArray) (a1_23 : ByteArray) (r : Bool) (w : World) (hr0_1 : Kd.C k88 w A0_1 l0_1.length l0_1) (hc0_1 : l0_1.length ≤ c0_1) (hr0_3 : Kd.C k88 w A0_3 l0_3.length l0_3) (hc0_3 : l0_3.length ≤ c0_3) (hr0_6 : Kd.C k104 w A0_6 l0_6.length l0_6) (hc0_6 : l0_6.length ≤ c0_6) (hr0_9 : Kd.C k110 w A0_9 l0_9.length l0_9) (hc0_9 : l0_9.length ≤ c0_9) (hr0_12 : Kd.C k88 w A0_12 l0_12.length l0_12) (hc0_12 : l0_12.length ≤ c0_12) (hr0_14 : Kd.C k88 w A0_14 l0_14.length l0_14) (hc0_14 : l0_14.length ≤ c0_14) (hr0_17 : Kd.C k104 w A0_17 l0_17.length l0_17) (hc0_17 : l0_17.length ≤ c0_17) (hr0_20 : Kd.C k110 w A0_20 l0_20.length l0_20) (hc0_20 : l0_20.length ≤ c0_20) (hr1_1 : Kd.C k88 w A1_1 l1_1.length l1_1) (hc1_1 : l1_1.length ≤ c1_1) (hr1_3 : Kd.C k88 w A1_3 l1_3.length l1_3) (hc1_3 : l1_3.length ≤ c1_3) (hr1_6 : Kd.C k104 w A1_6 l1_6.length l1_6) (hc1_6 : l1_6.length ≤ c1_6) (hr1_9 : Kd.C k110 w A1_9 l1_9.length l1_9) (hc1_9 : l1_9.length ≤ c1_9) (hr1_12 : Kd.C k88 w A1_12 l1_12.length l1_12) (hc1_12 : l1_12.length ≤ c1_12) (hr1_14 : Kd.C k88 w A1_14 l1_14.length l1_14) (hc1_14 : l1_14.length ≤ c1_14) (hr1_17 : Kd.C k104 w A1_17 l1_17.length l1_17) (hc1_17 : l1_17.length ≤ c1_17) (hr1_20 : Kd.C k110 w A1_20 l1_20.length l1_20) (hc1_20 : l1_20.length ≤ c1_20) (h : laws_eqWorld.f k a0_0 l0_1 a0_2 l0_3 a0_4 a0_5 l0_6 a0_7 a0_8 l0_9 a0_10 a0_11 l0_12 a0_13 l0_14 a0_15 a0_16 l0_17 a0_18 a0_19 l0_20 a0_21 a0_22 a0_23 a1_0 l1_1 a1_2 l1_3 a1_4 a1_5 l1_6 a1_7 a1_8 l1_9 a1_10 a1_11 l1_12 a1_13 l1_14 a1_15 a1_16 l1_17 a1_18 a1_19 l1_20 a1_21 a1_22 a1_23 = some r) :
  Calls Try.prog 27 #[.agg #[.bool a0_0, .slice A0_1 l0_1.length c0_1, .int .i64 a0_2, .slice A0_3 l0_3.length c0_3, .int .i64 a0_4, .string a0_5, .slice A0_6 l0_6.length c0_6, .int .i64 a0_7, .int .i64 a0_8, .slice A0_9 l0_9.length c0_9, .bool a0_10, .bool a0_11, .slice A0_12 l0_12.length c0_12, .int .i64 a0_13, .slice A0_14 l0_14.length c0_14, .int .i64 a0_15, .string a0_16, .slice A0_17 l0_17.length c0_17, .int .i64 a0_18, .int .i64 a0_19, .slice A0_20 l0_20.length c0_20, .bool a0_21, .string a0_22, .string a0_23], .agg #[.bool a1_0, .slice A1_1 l1_1.length c1_1, .int .i64 a1_2, .slice A1_3 l1_3.length c1_3, .int .i64 a1_4, .string a1_5, .slice A1_6 l1_6.length c1_6, .int .i64 a1_7, .int .i64 a1_8, .slice A1_9 l1_9.length c1_9, .bool a1_10, .bool a1_11, .slice A1_12 l1_12.length c1_12, .int .i64 a1_13, .slice A1_14 l1_14.length c1_14, .int .i64 a1_15, .string a1_16, .slice A1_17 l1_17.length c1_17, .int .i64 a1_18, .int .i64 a1_19, .slice A1_20 l1_20.length c1_20, .bool a1_21, .string a1_22, .string a1_23]] w fun e w' => e = .returned (.bool r) ∧ Below w.heap.size w w' := by
 have hu48 := Try.underlying48
 have hu42 := Try.underlying42
 have HR0_1 := Aside0.mk hr0_1
 have HC0_1 := Aside0.mk hc0_1
 clear hr0_1 hc0_1
 have HR0_3 := Aside0.mk hr0_3
 have HC0_3 := Aside0.mk hc0_3
 clear hr0_3 hc0_3
 have HR0_6 := Aside0.mk hr0_6
 have HC0_6 := Aside0.mk hc0_6
 clear hr0_6 hc0_6
 have HR0_9 := Aside0.mk hr0_9
 have HC0_9 := Aside0.mk hc0_9
 clear hr0_9 hc0_9
 have HR0_12 := Aside0.mk hr0_12
 have HC0_12 := Aside0.mk hc0_12
 clear hr0_12 hc0_12
 have HR0_14 := Aside0.mk hr0_14
 have HC0_14 := Aside0.mk hc0_14
 clear hr0_14 hc0_14
 have HR0_17 := Aside0.mk hr0_17
 have HC0_17 := Aside0.mk hc0_17
 clear hr0_17 hc0_17
 have HR0_20 := Aside0.mk hr0_20
 have HC0_20 := Aside0.mk hc0_20
 clear hr0_20 hc0_20
 have HR1_1 := Aside0.mk hr1_1
 have HC1_1 := Aside0.mk hc1_1
 clear hr1_1 hc1_1
 have HR1_3 := Aside0.mk hr1_3
 have HC1_3 := Aside0.mk hc1_3
 clear hr1_3 hc1_3
 have HR1_6 := Aside0.mk hr1_6
 have HC1_6 := Aside0.mk hc1_6
 clear hr1_6 hc1_6
 have HR1_9 := Aside0.mk hr1_9
 have HC1_9 := Aside0.mk hc1_9
 clear hr1_9 hc1_9
 have HR1_12 := Aside0.mk hr1_12
 have HC1_12 := Aside0.mk hc1_12
 clear hr1_12 hc1_12
 have HR1_14 := Aside0.mk hr1_14
 have HC1_14 := Aside0.mk hc1_14
 clear hr1_14 hc1_14
 have HR1_17 := Aside0.mk hr1_17
 have HC1_17 := Aside0.mk hc1_17
 clear hr1_17 hc1_17
 have HR1_20 := Aside0.mk hr1_20
 have HC1_20 := Aside0.mk hc1_20
 clear hr1_20 hc1_20
 have HB := Aside0.mk (Below.refl w.heap.size w)
 have H : ((laws_eqEnd.f k a0_0 l0_1 a0_2 l0_3 a0_4 a0_5 l0_6 a0_7 a0_8 l0_9 a0_10 a1_0 l1_1 a1_2 l1_3 a1_4 a1_5 l1_6 a1_7 a1_8 l1_9 a1_10).bind fun t153 => (if t153 = true then ((laws_eqEnd.f k a0_11 l0_12 a0_13 l0_14 a0_15 a0_16 l0_17 a0_18 a0_19 l0_20 a0_21 a1_11 l1_12 a1_13 l1_14 a1_15 a1_16 l1_17 a1_18 a1_19 l1_20 a1_21).bind fun t154 => (if t154 = true then (if a0_22.toList = a1_22.toList then (if a0_23.toList = a1_23.toList then (some true) else (some false)) else (some false)) else (some false))) else (some false))) = some r := h
 clear h
 obtain ⟨t153, A3, H⟩ := ob H
 (try dsimp only at H)
 have HC4 := Aside0.mk H
 clear H
 go_enter Try.func27, Try.ntmps27
 go_upto_if 10 with (first | ((with_reducible refine gd 2 rfl ?_); refine bx (N := 2) (cs := #[.bool a0_0, .slice A0_1 l0_1.length c0_1, .int .i64 a0_2, .slice A0_3 l0_3.length c0_3, .int .i64 a0_4, .string a0_5, .slice A0_6 l0_6.length c0_6, .int .i64 a0_7, .int .i64 a0_8, .slice A0_9 l0_9.length c0_9, .bool a0_10, .bool a0_11, .slice A0_12 l0_12.length c0_12, .int .i64 a0_13, .slice A0_14 l0_14.length c0_14, .int .i64 a0_15, .string a0_16, .slice A0_17 l0_17.length c0_17, .int .i64 a0_18, .int .i64 a0_19, .slice A0_20 l0_20.length c0_20, .bool a0_21, .string a0_22, .string a0_23]) (t := 48) ?_; intro gb151 hg w5 hbox hb; have BK151 := Aside0.mk (hbox); have GW151 := gw HB hg; have GE151 := GW151; replace HB := Aside0.mk (below_step (zb HB) hb); clear hb hbox hg) | ((with_reducible refine gd 3 rfl ?_); refine bx (N := 3) (cs := #[.bool a1_0, .slice A1_1 l1_1.length c1_1, .int .i64 a1_2, .slice A1_3 l1_3.length c1_3, .int .i64 a1_4, .string a1_5, .slice A1_6 l1_6.length c1_6, .int .i64 a1_7, .int .i64 a1_8, .slice A1_9 l1_9.length c1_9, .bool a1_10, .bool a1_11, .slice A1_12 l1_12.length c1_12, .int .i64 a1_13, .slice A1_14 l1_14.length c1_14, .int .i64 a1_15, .string a1_16, .slice A1_17 l1_17.length c1_17, .int .i64 a1_18, .int .i64 a1_19, .slice A1_20 l1_20.length c1_20, .bool a1_21, .string a1_22, .string a1_23]) (t := 48) ?_; intro gb152 hg w6 hbox hb; have BK152 := Aside0.mk (hbox); have GW152 := gw HB hg; have GE152 := GW152; replace HB := Aside0.mk (below_step (zb HB) hb); obtain ⟨NB151_152, NB152_151⟩ := nb BK151 hg; replace BK151 := kb BK151 hb; clear hb hbox hg; have hnb7 := NB151_152.out; have hnc7 := NB152_151.out; obtain ⟨hcz8_0, hcz8_1, hcz8_2, hcz8_3, hcz8_4, hcz8_5, hcz8_6, hcz8_7, hcz8_8, hcz8_9, hcz8_10, hcz8_11, hcz8_12, hcz8_13, hcz8_14, hcz8_15, hcz8_16, hcz8_17, hcz8_18, hcz8_19, hcz8_20, hcz8_21, hcz8_22, hcz8_23, hfz8_0, hfz8_1, hfz8_2, hfz8_3, hfz8_4, hfz8_5, hfz8_6, hfz8_7, hfz8_8, hfz8_9, hfz8_10, hfz8_11, hfz8_12, hfz8_13, hfz8_14, hfz8_15, hfz8_16, hfz8_17, hfz8_18, hfz8_19, hfz8_20, hfz8_21, hfz8_22, hfz8_23⟩ := c24 BK151; obtain ⟨hcz9_0, hcz9_1, hcz9_2, hcz9_3, hcz9_4, hcz9_5, hcz9_6, hcz9_7, hcz9_8, hcz9_9, hcz9_10, hcz9_11, hcz9_12, hcz9_13, hcz9_14, hcz9_15, hcz9_16, hcz9_17, hcz9_18, hcz9_19, hcz9_20, hcz9_21, hcz9_22, hcz9_23, hfz9_0, hfz9_1, hfz9_2, hfz9_3, hfz9_4, hfz9_5, hfz9_6, hfz9_7, hfz9_8, hfz9_9, hfz9_10, hfz9_11, hfz9_12, hfz9_13, hfz9_14, hfz9_15, hfz9_16, hfz9_17, hfz9_18, hfz9_19, hfz9_20, hfz9_21, hfz9_22, hfz9_23⟩ := c24 BK152) | ((with_reducible refine gq 22 rfl ?_); refine gl (some 9) Try.func22 #[.agg #[.bool a0_0, .slice A0_1 l0_1.length c0_1, .int .i64 a0_2, .slice A0_3 l0_3.length c0_3, .int .i64 a0_4, .string a0_5, .slice A0_6 l0_6.length c0_6, .int .i64 a0_7, .int .i64 a0_8, .slice A0_9 l0_9.length c0_9, .bool a0_10], .agg #[.bool a1_0, .slice A1_1 l1_1.length c1_1, .int .i64 a1_2, .slice A1_3 l1_3.length c1_3, .int .i64 a1_4, .string a1_5, .slice A1_6 l1_6.length c1_6, .int .i64 a1_7, .int .i64 a1_8, .slice A1_9 l1_9.length c1_9, .bool a1_10]] ?_; (with_reducible refine (laws_eqEnd.calls k a0_0 _ _ l0_1 a0_2 _ _ l0_3 a0_4 a0_5 _ _ l0_6 a0_7 a0_8 _ _ l0_9 a0_10 a1_0 _ _ l1_1 a1_2 _ _ l1_3 a1_4 a1_5 _ _ l1_6 a1_7 a1_8 _ _ l1_9 a1_10 t153 _ ?side1 ?side2 ?side3 ?side4 ?side5 ?side6 ?side7 ?side8 ?side9 ?side10 ?side11 ?side12 ?side13 ?side14 ?side15 ?side16 A3.out).mono ?_); (case side1 => exact zc (Kd.C_below HR0_1.out HB.out)); (case side2 => exact HC0_1.out); (case side3 => exact zc (Kd.C_below HR0_3.out HB.out)); (case side4 => exact HC0_3.out); (case side5 => exact zc (Kd.C_below HR0_6.out HB.out)); (case side6 => exact HC0_6.out); (case side7 => exact zc (Kd.C_below HR0_9.out HB.out)); (case side8 => exact HC0_9.out); (case side9 => exact zc (Kd.C_below HR1_1.out HB.out)); (case side10 => exact HC1_1.out); (case side11 => exact zc (Kd.C_below HR1_3.out HB.out)); (case side12 => exact HC1_3.out); (case side13 => exact zc (Kd.C_below HR1_6.out HB.out)); (case side14 => exact HC1_6.out); (case side15 => exact zc (Kd.C_below HR1_9.out HB.out)); (case side16 => exact HC1_9.out); rintro e w10 ⟨rfl, hb⟩; refine ⟨_, rfl, ?_⟩; replace BK151 := kb BK151 hb; replace BK152 := kb BK152 hb; replace HB := Aside0.mk (below_step (zb HB) hb); (try clear hb)))
 (try simp only [Act.put, s1, s2, s3])
 have H := HC4.out
 clear HC4
 by_cases c11 : t153 = true
 ·subst c11
  rw [if_pos rfl] at H
  obtain ⟨t154, A12, H⟩ := ob H
  (try dsimp only at H)
  by_cases c13 : t154 = true
  ·subst c13
   rw [if_pos rfl] at H
   replace H := sp H
   rcases H with ⟨c14, H⟩ | ⟨c14, H⟩
   ·skip
    have c14b0 : (a0_22.toList == a1_22.toList) = true := beq_iff_eq.mpr c14
    have c14b1 : (a0_22.toList != a1_22.toList) = false := bne_eq_false_iff_eq.mpr c14
    clear c14
    (first | rw [c14b0] | rw [c14b1] | rw [c14b2] | (simp only [i64_w, i32_w]; rw [c14b0]) | skip)
    by_cases c15 : a0_23.toList = a1_23.toList
    ·rw [if_pos c15] at H
     have c15b0 : (a0_23.toList == a1_23.toList) = true := beq_iff_eq.mpr c15
     have c15b1 : (a0_23.toList != a1_23.toList) = false := bne_eq_false_iff_eq.mpr c15
     clear c15
     obtain rfl := Option.some.inj H
     have hnb16 := NB151_152.out
     have hnc16 := NB152_151.out
     obtain ⟨hcz17_0, hcz17_1, hcz17_2, hcz17_3, hcz17_4, hcz17_5, hcz17_6, hcz17_7, hcz17_8, hcz17_9, hcz17_10, hcz17_11, hcz17_12, hcz17_13, hcz17_14, hcz17_15, hcz17_16, hcz17_17, hcz17_18, hcz17_19, hcz17_20, hcz17_21, hcz17_22, hcz17_23, hfz17_0, hfz17_1, hfz17_2, hfz17_3, hfz17_4, hfz17_5, hfz17_6, hfz17_7, hfz17_8, hfz17_9, hfz17_10, hfz17_11, hfz17_12, hfz17_13, hfz17_14, hfz17_15, hfz17_16, hfz17_17, hfz17_18, hfz17_19, hfz17_20, hfz17_21, hfz17_22, hfz17_23⟩ := c24 BK151
     obtain ⟨hcz18_0, hcz18_1, hcz18_2, hcz18_3, hcz18_4, hcz18_5, hcz18_6, hcz18_7, hcz18_8, hcz18_9, hcz18_10, hcz18_11, hcz18_12, hcz18_13, hcz18_14, hcz18_15, hcz18_16, hcz18_17, hcz18_18, hcz18_19, hcz18_20, hcz18_21, hcz18_22, hcz18_23, hfz18_0, hfz18_1, hfz18_2, hfz18_3, hfz18_4, hfz18_5, hfz18_6, hfz18_7, hfz18_8, hfz18_9, hfz18_10, hfz18_11, hfz18_12, hfz18_13, hfz18_14, hfz18_15, hfz18_16, hfz18_17, hfz18_18, hfz18_19, hfz18_20, hfz18_21, hfz18_22, hfz18_23⟩ := c24 BK152
     go_wp2_with (first | ((with_reducible refine gq 22 rfl ?_); refine gl (some 15) Try.func22 #[.agg #[.bool a0_11, .slice A0_12 l0_12.length c0_12, .int .i64 a0_13, .slice A0_14 l0_14.length c0_14, .int .i64 a0_15, .string a0_16, .slice A0_17 l0_17.length c0_17, .int .i64 a0_18, .int .i64 a0_19, .slice A0_20 l0_20.length c0_20, .bool a0_21], .agg #[.bool a1_11, .slice A1_12 l1_12.length c1_12, .int .i64 a1_13, .slice A1_14 l1_14.length c1_14, .int .i64 a1_15, .string a1_16, .slice A1_17 l1_17.length c1_17, .int .i64 a1_18, .int .i64 a1_19, .slice A1_20 l1_20.length c1_20, .bool a1_21]] ?_; (with_reducible refine (laws_eqEnd.calls k a0_11 _ _ l0_12 a0_13 _ _ l0_14 a0_15 a0_16 _ _ l0_17 a0_18 a0_19 _ _ l0_20 a0_21 a1_11 _ _ l1_12 a1_13 _ _ l1_14 a1_15 a1_16 _ _ l1_17 a1_18 a1_19 _ _ l1_20 a1_21 true _ ?side1 ?side2 ?side3 ?side4 ?side5 ?side6 ?side7 ?side8 ?side9 ?side10 ?side11 ?side12 ?side13 ?side14 ?side15 ?side16 A12.out).mono ?_); (case side1 => exact zc (Kd.C_below HR0_12.out HB.out)); (case side2 => exact HC0_12.out); (case side3 => exact zc (Kd.C_below HR0_14.out HB.out)); (case side4 => exact HC0_14.out); (case side5 => exact zc (Kd.C_below HR0_17.out HB.out)); (case side6 => exact HC0_17.out); (case side7 => exact zc (Kd.C_below HR0_20.out HB.out)); (case side8 => exact HC0_20.out); (case side9 => exact zc (Kd.C_below HR1_12.out HB.out)); (case side10 => exact HC1_12.out); (case side11 => exact zc (Kd.C_below HR1_14.out HB.out)); (case side12 => exact HC1_14.out); (case side13 => exact zc (Kd.C_below HR1_17.out HB.out)); (case side14 => exact HC1_17.out); (case side15 => exact zc (Kd.C_below HR1_20.out HB.out)); (case side16 => exact HC1_20.out); rintro e w19 ⟨rfl, hb⟩; refine ⟨_, rfl, ?_⟩; replace BK151 := kb BK151 hb; replace BK152 := kb BK152 hb; replace HB := Aside0.mk (below_step (zb HB) hb); (try clear hb); obtain ⟨hcz20_0, hcz20_1, hcz20_2, hcz20_3, hcz20_4, hcz20_5, hcz20_6, hcz20_7, hcz20_8, hcz20_9, hcz20_10, hcz20_11, hcz20_12, hcz20_13, hcz20_14, hcz20_15, hcz20_16, hcz20_17, hcz20_18, hcz20_19, hcz20_20, hcz20_21, hcz20_22, hcz20_23, hfz20_0, hfz20_1, hfz20_2, hfz20_3, hfz20_4, hfz20_5, hfz20_6, hfz20_7, hfz20_8, hfz20_9, hfz20_10, hfz20_11, hfz20_12, hfz20_13, hfz20_14, hfz20_15, hfz20_16, hfz20_17, hfz20_18, hfz20_19, hfz20_20, hfz20_21, hfz20_22, hfz20_23⟩ := c24 BK151; obtain ⟨hcz21_0, hcz21_1, hcz21_2, hcz21_3, hcz21_4, hcz21_5, hcz21_6, hcz21_7, hcz21_8, hcz21_9, hcz21_10, hcz21_11, hcz21_12, hcz21_13, hcz21_14, hcz21_15, hcz21_16, hcz21_17, hcz21_18, hcz21_19, hcz21_20, hcz21_21, hcz21_22, hcz21_23, hfz21_0, hfz21_1, hfz21_2, hfz21_3, hfz21_4, hfz21_5, hfz21_6, hfz21_7, hfz21_8, hfz21_9, hfz21_10, hfz21_11, hfz21_12, hfz21_13, hfz21_14, hfz21_15, hfz21_16, hfz21_17, hfz21_18, hfz21_19, hfz21_20, hfz21_21, hfz21_22, hfz21_23⟩ := c24 BK152))
     go_ret
     exact ⟨ze, zb HB⟩
    ·rw [if_neg c15] at H
     have c15b0 : (a0_23.toList == a1_23.toList) = false := beq_eq_false_iff_ne.mpr c15
     have c15b1 : (a0_23.toList != a1_23.toList) = true := bne_iff_ne.mpr c15
     obtain rfl := Option.some.inj H
     have hnb22 := NB151_152.out
     have hnc22 := NB152_151.out
     obtain ⟨hcz23_0, hcz23_1, hcz23_2, hcz23_3, hcz23_4, hcz23_5, hcz23_6, hcz23_7, hcz23_8, hcz23_9, hcz23_10, hcz23_11, hcz23_12, hcz23_13, hcz23_14, hcz23_15, hcz23_16, hcz23_17, hcz23_18, hcz23_19, hcz23_20, hcz23_21, hcz23_22, hcz23_23, hfz23_0, hfz23_1, hfz23_2, hfz23_3, hfz23_4, hfz23_5, hfz23_6, hfz23_7, hfz23_8, hfz23_9, hfz23_10, hfz23_11, hfz23_12, hfz23_13, hfz23_14, hfz23_15, hfz23_16, hfz23_17, hfz23_18, hfz23_19, hfz23_20, hfz23_21, hfz23_22, hfz23_23⟩ := c24 BK151
     obtain ⟨hcz24_0, hcz24_1, hcz24_2, hcz24_3, hcz24_4, hcz24_5, hcz24_6, hcz24_7, hcz24_8, hcz24_9, hcz24_10, hcz24_11, hcz24_12, hcz24_13, hcz24_14, hcz24_15, hcz24_16, hcz24_17, hcz24_18, hcz24_19, hcz24_20, hcz24_21, hcz24_22, hcz24_23, hfz24_0, hfz24_1, hfz24_2, hfz24_3, hfz24_4, hfz24_5, hfz24_6, hfz24_7, hfz24_8, hfz24_9, hfz24_10, hfz24_11, hfz24_12, hfz24_13, hfz24_14, hfz24_15, hfz24_16, hfz24_17, hfz24_18, hfz24_19, hfz24_20, hfz24_21, hfz24_22, hfz24_23⟩ := c24 BK152
     go_wp2_with (first | ((with_reducible refine gq 22 rfl ?_); refine gl (some 15) Try.func22 #[.agg #[.bool a0_11, .slice A0_12 l0_12.length c0_12, .int .i64 a0_13, .slice A0_14 l0_14.length c0_14, .int .i64 a0_15, .string a0_16, .slice A0_17 l0_17.length c0_17, .int .i64 a0_18, .int .i64 a0_19, .slice A0_20 l0_20.length c0_20, .bool a0_21], .agg #[.bool a1_11, .slice A1_12 l1_12.length c1_12, .int .i64 a1_13, .slice A1_14 l1_14.length c1_14, .int .i64 a1_15, .string a1_16, .slice A1_17 l1_17.length c1_17, .int .i64 a1_18, .int .i64 a1_19, .slice A1_20 l1_20.length c1_20, .bool a1_21]] ?_; (with_reducible refine (laws_eqEnd.calls k a0_11 _ _ l0_12 a0_13 _ _ l0_14 a0_15 a0_16 _ _ l0_17 a0_18 a0_19 _ _ l0_20 a0_21 a1_11 _ _ l1_12 a1_13 _ _ l1_14 a1_15 a1_16 _ _ l1_17 a1_18 a1_19 _ _ l1_20 a1_21 true _ ?side1 ?side2 ?side3 ?side4 ?side5 ?side6 ?side7 ?side8 ?side9 ?side10 ?side11 ?side12 ?side13 ?side14 ?side15 ?side16 A12.out).mono ?_); (case side1 => exact zc (Kd.C_below HR0_12.out HB.out)); (case side2 => exact HC0_12.out); (case side3 => exact zc (Kd.C_below HR0_14.out HB.out)); (case side4 => exact HC0_14.out); (case side5 => exact zc (Kd.C_below HR0_17.out HB.out)); (case side6 => exact HC0_17.out); (case side7 => exact zc (Kd.C_below HR0_20.out HB.out)); (case side8 => exact HC0_20.out); (case side9 => exact zc (Kd.C_below HR1_12.out HB.out)); (case side10 => exact HC1_12.out); (case side11 => exact zc (Kd.C_below HR1_14.out HB.out)); (case side12 => exact HC1_14.out); (case side13 => exact zc (Kd.C_below HR1_17.out HB.out)); (case side14 => exact HC1_17.out); (case side15 => exact zc (Kd.C_below HR1_20.out HB.out)); (case side16 => exact HC1_20.out); rintro e w25 ⟨rfl, hb⟩; refine ⟨_, rfl, ?_⟩; replace BK151 := kb BK151 hb; replace BK152 := kb BK152 hb; replace HB := Aside0.mk (below_step (zb HB) hb); (try clear hb); obtain ⟨hcz26_0, hcz26_1, hcz26_2, hcz26_3, hcz26_4, hcz26_5, hcz26_6, hcz26_7, hcz26_8, hcz26_9, hcz26_10, hcz26_11, hcz26_12, hcz26_13, hcz26_14, hcz26_15, hcz26_16, hcz26_17, hcz26_18, hcz26_19, hcz26_20, hcz26_21, hcz26_22, hcz26_23, hfz26_0, hfz26_1, hfz26_2, hfz26_3, hfz26_4, hfz26_5, hfz26_6, hfz26_7, hfz26_8, hfz26_9, hfz26_10, hfz26_11, hfz26_12, hfz26_13, hfz26_14, hfz26_15, hfz26_16, hfz26_17, hfz26_18, hfz26_19, hfz26_20, hfz26_21, hfz26_22, hfz26_23⟩ := c24 BK151; obtain ⟨hcz27_0, hcz27_1, hcz27_2, hcz27_3, hcz27_4, hcz27_5, hcz27_6, hcz27_7, hcz27_8, hcz27_9, hcz27_10, hcz27_11, hcz27_12, hcz27_13, hcz27_14, hcz27_15, hcz27_16, hcz27_17, hcz27_18, hcz27_19, hcz27_20, hcz27_21, hcz27_22, hcz27_23, hfz27_0, hfz27_1, hfz27_2, hfz27_3, hfz27_4, hfz27_5, hfz27_6, hfz27_7, hfz27_8, hfz27_9, hfz27_10, hfz27_11, hfz27_12, hfz27_13, hfz27_14, hfz27_15, hfz27_16, hfz27_17, hfz27_18, hfz27_19, hfz27_20, hfz27_21, hfz27_22, hfz27_23⟩ := c24 BK152))
     go_ret
     exact ⟨ze, zb HB⟩
   ·skip
    have c14b0 : (a0_22.toList == a1_22.toList) = false := beq_eq_false_iff_ne.mpr c14
    have c14b1 : (a0_22.toList != a1_22.toList) = true := bne_iff_ne.mpr c14
    (first | rw [c14b0] | rw [c14b1] | rw [c14b2] | (simp only [i64_w, i32_w]; rw [c14b0]) | skip)
    obtain rfl := Option.some.inj H
    have hnb28 := NB151_152.out
    have hnc28 := NB152_151.out
    obtain ⟨hcz29_0, hcz29_1, hcz29_2, hcz29_3, hcz29_4, hcz29_5, hcz29_6, hcz29_7, hcz29_8, hcz29_9, hcz29_10, hcz29_11, hcz29_12, hcz29_13, hcz29_14, hcz29_15, hcz29_16, hcz29_17, hcz29_18, hcz29_19, hcz29_20, hcz29_21, hcz29_22, hcz29_23, hfz29_0, hfz29_1, hfz29_2, hfz29_3, hfz29_4, hfz29_5, hfz29_6, hfz29_7, hfz29_8, hfz29_9, hfz29_10, hfz29_11, hfz29_12, hfz29_13, hfz29_14, hfz29_15, hfz29_16, hfz29_17, hfz29_18, hfz29_19, hfz29_20, hfz29_21, hfz29_22, hfz29_23⟩ := c24 BK151
    obtain ⟨hcz30_0, hcz30_1, hcz30_2, hcz30_3, hcz30_4, hcz30_5, hcz30_6, hcz30_7, hcz30_8, hcz30_9, hcz30_10, hcz30_11, hcz30_12, hcz30_13, hcz30_14, hcz30_15, hcz30_16, hcz30_17, hcz30_18, hcz30_19, hcz30_20, hcz30_21, hcz30_22, hcz30_23, hfz30_0, hfz30_1, hfz30_2, hfz30_3, hfz30_4, hfz30_5, hfz30_6, hfz30_7, hfz30_8, hfz30_9, hfz30_10, hfz30_11, hfz30_12, hfz30_13, hfz30_14, hfz30_15, hfz30_16, hfz30_17, hfz30_18, hfz30_19, hfz30_20, hfz30_21, hfz30_22, hfz30_23⟩ := c24 BK152
    go_wp2_with (first | ((with_reducible refine gq 22 rfl ?_); refine gl (some 15) Try.func22 #[.agg #[.bool a0_11, .slice A0_12 l0_12.length c0_12, .int .i64 a0_13, .slice A0_14 l0_14.length c0_14, .int .i64 a0_15, .string a0_16, .slice A0_17 l0_17.length c0_17, .int .i64 a0_18, .int .i64 a0_19, .slice A0_20 l0_20.length c0_20, .bool a0_21], .agg #[.bool a1_11, .slice A1_12 l1_12.length c1_12, .int .i64 a1_13, .slice A1_14 l1_14.length c1_14, .int .i64 a1_15, .string a1_16, .slice A1_17 l1_17.length c1_17, .int .i64 a1_18, .int .i64 a1_19, .slice A1_20 l1_20.length c1_20, .bool a1_21]] ?_; (with_reducible refine (laws_eqEnd.calls k a0_11 _ _ l0_12 a0_13 _ _ l0_14 a0_15 a0_16 _ _ l0_17 a0_18 a0_19 _ _ l0_20 a0_21 a1_11 _ _ l1_12 a1_13 _ _ l1_14 a1_15 a1_16 _ _ l1_17 a1_18 a1_19 _ _ l1_20 a1_21 true _ ?side1 ?side2 ?side3 ?side4 ?side5 ?side6 ?side7 ?side8 ?side9 ?side10 ?side11 ?side12 ?side13 ?side14 ?side15 ?side16 A12.out).mono ?_); (case side1 => exact zc (Kd.C_below HR0_12.out HB.out)); (case side2 => exact HC0_12.out); (case side3 => exact zc (Kd.C_below HR0_14.out HB.out)); (case side4 => exact HC0_14.out); (case side5 => exact zc (Kd.C_below HR0_17.out HB.out)); (case side6 => exact HC0_17.out); (case side7 => exact zc (Kd.C_below HR0_20.out HB.out)); (case side8 => exact HC0_20.out); (case side9 => exact zc (Kd.C_below HR1_12.out HB.out)); (case side10 => exact HC1_12.out); (case side11 => exact zc (Kd.C_below HR1_14.out HB.out)); (case side12 => exact HC1_14.out); (case side13 => exact zc (Kd.C_below HR1_17.out HB.out)); (case side14 => exact HC1_17.out); (case side15 => exact zc (Kd.C_below HR1_20.out HB.out)); (case side16 => exact HC1_20.out); rintro e w31 ⟨rfl, hb⟩; refine ⟨_, rfl, ?_⟩; replace BK151 := kb BK151 hb; replace BK152 := kb BK152 hb; replace HB := Aside0.mk (below_step (zb HB) hb); (try clear hb); obtain ⟨hcz32_0, hcz32_1, hcz32_2, hcz32_3, hcz32_4, hcz32_5, hcz32_6, hcz32_7, hcz32_8, hcz32_9, hcz32_10, hcz32_11, hcz32_12, hcz32_13, hcz32_14, hcz32_15, hcz32_16, hcz32_17, hcz32_18, hcz32_19, hcz32_20, hcz32_21, hcz32_22, hcz32_23, hfz32_0, hfz32_1, hfz32_2, hfz32_3, hfz32_4, hfz32_5, hfz32_6, hfz32_7, hfz32_8, hfz32_9, hfz32_10, hfz32_11, hfz32_12, hfz32_13, hfz32_14, hfz32_15, hfz32_16, hfz32_17, hfz32_18, hfz32_19, hfz32_20, hfz32_21, hfz32_22, hfz32_23⟩ := c24 BK151; obtain ⟨hcz33_0, hcz33_1, hcz33_2, hcz33_3, hcz33_4, hcz33_5, hcz33_6, hcz33_7, hcz33_8, hcz33_9, hcz33_10, hcz33_11, hcz33_12, hcz33_13, hcz33_14, hcz33_15, hcz33_16, hcz33_17, hcz33_18, hcz33_19, hcz33_20, hcz33_21, hcz33_22, hcz33_23, hfz33_0, hfz33_1, hfz33_2, hfz33_3, hfz33_4, hfz33_5, hfz33_6, hfz33_7, hfz33_8, hfz33_9, hfz33_10, hfz33_11, hfz33_12, hfz33_13, hfz33_14, hfz33_15, hfz33_16, hfz33_17, hfz33_18, hfz33_19, hfz33_20, hfz33_21, hfz33_22, hfz33_23⟩ := c24 BK152))
    go_ret
    exact ⟨ze, zb HB⟩
  ·replace c13 := Bool.eq_false_iff.mpr c13
   subst c13
   rw [if_neg (show ¬ (false = true) by decide)] at H
   obtain rfl := Option.some.inj H
   have hnb34 := NB151_152.out
   have hnc34 := NB152_151.out
   obtain ⟨hcz35_0, hcz35_1, hcz35_2, hcz35_3, hcz35_4, hcz35_5, hcz35_6, hcz35_7, hcz35_8, hcz35_9, hcz35_10, hcz35_11, hcz35_12, hcz35_13, hcz35_14, hcz35_15, hcz35_16, hcz35_17, hcz35_18, hcz35_19, hcz35_20, hcz35_21, hcz35_22, hcz35_23, hfz35_0, hfz35_1, hfz35_2, hfz35_3, hfz35_4, hfz35_5, hfz35_6, hfz35_7, hfz35_8, hfz35_9, hfz35_10, hfz35_11, hfz35_12, hfz35_13, hfz35_14, hfz35_15, hfz35_16, hfz35_17, hfz35_18, hfz35_19, hfz35_20, hfz35_21, hfz35_22, hfz35_23⟩ := c24 BK151
   obtain ⟨hcz36_0, hcz36_1, hcz36_2, hcz36_3, hcz36_4, hcz36_5, hcz36_6, hcz36_7, hcz36_8, hcz36_9, hcz36_10, hcz36_11, hcz36_12, hcz36_13, hcz36_14, hcz36_15, hcz36_16, hcz36_17, hcz36_18, hcz36_19, hcz36_20, hcz36_21, hcz36_22, hcz36_23, hfz36_0, hfz36_1, hfz36_2, hfz36_3, hfz36_4, hfz36_5, hfz36_6, hfz36_7, hfz36_8, hfz36_9, hfz36_10, hfz36_11, hfz36_12, hfz36_13, hfz36_14, hfz36_15, hfz36_16, hfz36_17, hfz36_18, hfz36_19, hfz36_20, hfz36_21, hfz36_22, hfz36_23⟩ := c24 BK152
   go_wp2_with (first | ((with_reducible refine gq 22 rfl ?_); refine gl (some 15) Try.func22 #[.agg #[.bool a0_11, .slice A0_12 l0_12.length c0_12, .int .i64 a0_13, .slice A0_14 l0_14.length c0_14, .int .i64 a0_15, .string a0_16, .slice A0_17 l0_17.length c0_17, .int .i64 a0_18, .int .i64 a0_19, .slice A0_20 l0_20.length c0_20, .bool a0_21], .agg #[.bool a1_11, .slice A1_12 l1_12.length c1_12, .int .i64 a1_13, .slice A1_14 l1_14.length c1_14, .int .i64 a1_15, .string a1_16, .slice A1_17 l1_17.length c1_17, .int .i64 a1_18, .int .i64 a1_19, .slice A1_20 l1_20.length c1_20, .bool a1_21]] ?_; (with_reducible refine (laws_eqEnd.calls k a0_11 _ _ l0_12 a0_13 _ _ l0_14 a0_15 a0_16 _ _ l0_17 a0_18 a0_19 _ _ l0_20 a0_21 a1_11 _ _ l1_12 a1_13 _ _ l1_14 a1_15 a1_16 _ _ l1_17 a1_18 a1_19 _ _ l1_20 a1_21 false _ ?side1 ?side2 ?side3 ?side4 ?side5 ?side6 ?side7 ?side8 ?side9 ?side10 ?side11 ?side12 ?side13 ?side14 ?side15 ?side16 A12.out).mono ?_); (case side1 => exact zc (Kd.C_below HR0_12.out HB.out)); (case side2 => exact HC0_12.out); (case side3 => exact zc (Kd.C_below HR0_14.out HB.out)); (case side4 => exact HC0_14.out); (case side5 => exact zc (Kd.C_below HR0_17.out HB.out)); (case side6 => exact HC0_17.out); (case side7 => exact zc (Kd.C_below HR0_20.out HB.out)); (case side8 => exact HC0_20.out); (case side9 => exact zc (Kd.C_below HR1_12.out HB.out)); (case side10 => exact HC1_12.out); (case side11 => exact zc (Kd.C_below HR1_14.out HB.out)); (case side12 => exact HC1_14.out); (case side13 => exact zc (Kd.C_below HR1_17.out HB.out)); (case side14 => exact HC1_17.out); (case side15 => exact zc (Kd.C_below HR1_20.out HB.out)); (case side16 => exact HC1_20.out); rintro e w37 ⟨rfl, hb⟩; refine ⟨_, rfl, ?_⟩; replace BK151 := kb BK151 hb; replace BK152 := kb BK152 hb; replace HB := Aside0.mk (below_step (zb HB) hb); (try clear hb)))
   go_ret
   exact ⟨ze, zb HB⟩
 ·replace c11 := Bool.eq_false_iff.mpr c11
  subst c11
  rw [if_neg (show ¬ (false = true) by decide)] at H
  obtain rfl := Option.some.inj H
  go_wp2
  go_ret
  exact ⟨ze, zb HB⟩

end Go.Proofs.Ytlpibelofcabhaa.PFnExactWorldNew
