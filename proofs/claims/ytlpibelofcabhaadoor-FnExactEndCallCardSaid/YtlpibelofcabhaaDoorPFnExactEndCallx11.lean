-- WRITTEN BY a turned print (wip/tools of the prover's repo)
import Derived.Test.YtlpibelofcabhaaDoorPFnExactEndCallx0
import Derived.Test.YtlpibelofcabhaaDoorPFnExactEndCallx10
namespace Go.Proofs.YtlpibelofcabhaaDoor.PFnExactEndCall
open Go.RowKit Go.Proofs.YtlpibelofcabhaaDoorW.PrintWords Go.Proofs.YtlpibelofcabhaaDoorW.PrintLast Go.Proofs.YtlpibelofcabhaaDoorW.PrintMore Go.Proofs.YtlpibelofcabhaaDoor.Lm
attribute [local go_sem] max2_int min2_int max_two min_two max_three min_three max_four min_four   -- for this text's walks alone
set_option linter.unusedVariables false
set_option linter.unusedSimpArgs false

/-! ### laws_eqEnd: function 8 -/
-- thin
def laws_eqEnd.f (k : Nat) (a0_0 : Bool) (l0_1 : List (S61)) (a0_2 : Int) (l0_3 : List (S61)) (a0_4 : Int) (a0_5 : ByteArray) (l0_6 : List (S58)) (a0_7 : Int) (a0_8 : Int) (l0_9 : List (S79)) (a0_10 : Bool) (a1_0 : Bool) (l1_1 : List (S61)) (a1_2 : Int) (l1_3 : List (S61)) (a1_4 : Int) (a1_5 : ByteArray) (l1_6 : List (S58)) (a1_7 : Int) (a1_8 : Int) (l1_9 : List (S79)) (a1_10 : Bool) : Option (Bool) := if (a0_0 != a1_0) = true then (some false) else ((laws_eqTable.f k l0_1 a0_2 l1_1 a1_2).bind fun t515 => (if t515 = true then ((laws_eqTable.f k l0_3 a0_4 l1_3 a1_4).bind fun t516 => (if t516 = true then (if a0_5.toList = a1_5.toList then ((laws_eqStreamS.f k l0_6 l1_6).bind fun t517 => (if t517 = true then ((laws_eqFlow.f a0_7 a0_8 a1_7 a1_8).bind fun t518 => (if t518 = true then ((laws_eqFrameS.f k l0_9 l1_9).bind fun t519 => (if t519 = true then (if (a0_10 != a1_10) = true then (some false) else (some true)) else (some false))) else (some false))) else (some false))) else (some false)) else (some false))) else (some false)))
theorem laws_eqEnd.mono : ∀ a0 a1 a2 a3 a4 a5 a6 a7 a8 a9 a10 a11 a12 a13 a14 a15 a16 a17 a18 a19 a20 a21 k, LeO (laws_eqEnd.f k a0 a1 a2 a3 a4 a5 a6 a7 a8 a9 a10 a11 a12 a13 a14 a15 a16 a17 a18 a19 a20 a21) (laws_eqEnd.f (k + 1) a0 a1 a2 a3 a4 a5 a6 a7 a8 a9 a10 a11 a12 a13 a14 a15 a16 a17 a18 a19 a20 a21) := by
 intro a0 a1 a2 a3 a4 a5 a6 a7 a8 a9 a10 a11 a12 a13 a14 a15 a16 a17 a18 a19 a20 a21 k
 unfold laws_eqEnd.f
 have m0 := @laws_eqFrameS.mono
 have m1 := @laws_eqStreamS.mono
 have m2 := @laws_eqTable.mono
 exact zm
set_option maxHeartbeats 8000000 in
set_option maxRecDepth 100000 in
theorem laws_eqEnd.calls (k : Nat) (a0_0 : Bool) (A0_1 : Option Addr) (c0_1 : Nat) (l0_1 : List (S61)) (a0_2 : Int) (A0_3 : Option Addr) (c0_3 : Nat) (l0_3 : List (S61)) (a0_4 : Int) (a0_5 : ByteArray) (A0_6 : Option Addr) (c0_6 : Nat) (l0_6 : List (S58)) (a0_7 : Int) (a0_8 : Int) (A0_9 : Option Addr) (c0_9 : Nat) (l0_9 : List (S79)) (a0_10 : Bool) (a1_0 : Bool) (A1_1 : Option Addr) (c1_1 : Nat) (l1_1 : List (S61)) (a1_2 : Int) (A1_3 : Option Addr) (c1_3 : Nat) (l1_3 : List (S61)) (a1_4 : Int) (a1_5 : ByteArray) (A1_6 : Option Addr) (c1_6 : Nat) (l1_6 : List (S58)) (a1_7 : Int) (a1_8 : Int) (A1_9 : Option Addr) (c1_9 : Nat) (l1_9 : List (S79)) (a1_10 : Bool) (r : Bool) (w : World) (hr0_1 : Kd.C k61 w A0_1 l0_1.length l0_1) (hc0_1 : l0_1.length ≤ c0_1) (hr0_3 : Kd.C k61 w A0_3 l0_3.length l0_3) (hc0_3 : l0_3.length ≤ c0_3) (hr0_6 : Kd.C k58 w A0_6 l0_6.length l0_6) (hc0_6 : l0_6.length ≤ c0_6) (hr0_9 : Kd.C k79 w A0_9 l0_9.length l0_9) (hc0_9 : l0_9.length ≤ c0_9) (hr1_1 : Kd.C k61 w A1_1 l1_1.length l1_1) (hc1_1 : l1_1.length ≤ c1_1) (hr1_3 : Kd.C k61 w A1_3 l1_3.length l1_3) (hc1_3 : l1_3.length ≤ c1_3) (hr1_6 : Kd.C k58 w A1_6 l1_6.length l1_6) (hc1_6 : l1_6.length ≤ c1_6) (hr1_9 : Kd.C k79 w A1_9 l1_9.length l1_9) (hc1_9 : l1_9.length ≤ c1_9) (h : laws_eqEnd.f k a0_0 l0_1 a0_2 l0_3 a0_4 a0_5 l0_6 a0_7 a0_8 l0_9 a0_10 a1_0 l1_1 a1_2 l1_3 a1_4 a1_5 l1_6 a1_7 a1_8 l1_9 a1_10 = some r) :
  Calls Tryd.prog 8 #[.agg #[.bool a0_0, .slice A0_1 l0_1.length c0_1, .int .i64 a0_2, .slice A0_3 l0_3.length c0_3, .int .i64 a0_4, .string a0_5, .slice A0_6 l0_6.length c0_6, .int .i64 a0_7, .int .i64 a0_8, .slice A0_9 l0_9.length c0_9, .bool a0_10], .agg #[.bool a1_0, .slice A1_1 l1_1.length c1_1, .int .i64 a1_2, .slice A1_3 l1_3.length c1_3, .int .i64 a1_4, .string a1_5, .slice A1_6 l1_6.length c1_6, .int .i64 a1_7, .int .i64 a1_8, .slice A1_9 l1_9.length c1_9, .bool a1_10]] w fun e w' => e = .returned (.bool r) ∧ Below w.heap.size w w' := by
 have hu39 := Tryd.underlying39
 have hu34 := Tryd.underlying34
 have hu36 := Tryd.underlying36
 have HR0_1 := Aside0.mk hr0_1
 have HC0_1 := Aside0.mk hc0_1
 clear hr0_1 hc0_1
 have HR0_3 := Aside0.mk hr0_3
 have HC0_3 := Aside0.mk hc0_3
 clear hr0_3 hc0_3
 have HR0_6 := Aside0.mk hr0_6
 have HC0_6 := Aside0.mk hc0_6
 clear hr0_6 hc0_6
 have HR0_9 := Aside0.mk hr0_9
 have HC0_9 := Aside0.mk hc0_9
 clear hr0_9 hc0_9
 have HR1_1 := Aside0.mk hr1_1
 have HC1_1 := Aside0.mk hc1_1
 clear hr1_1 hc1_1
 have HR1_3 := Aside0.mk hr1_3
 have HC1_3 := Aside0.mk hc1_3
 clear hr1_3 hc1_3
 have HR1_6 := Aside0.mk hr1_6
 have HC1_6 := Aside0.mk hc1_6
 clear hr1_6 hc1_6
 have HR1_9 := Aside0.mk hr1_9
 have HC1_9 := Aside0.mk hc1_9
 clear hr1_9 hc1_9
 have HB := Aside0.mk (Below.refl w.heap.size w)
 have H : (if (a0_0 != a1_0) = true then (some false) else ((laws_eqTable.f k l0_1 a0_2 l1_1 a1_2).bind fun t515 => (if t515 = true then ((laws_eqTable.f k l0_3 a0_4 l1_3 a1_4).bind fun t516 => (if t516 = true then (if a0_5.toList = a1_5.toList then ((laws_eqStreamS.f k l0_6 l1_6).bind fun t517 => (if t517 = true then ((laws_eqFlow.f a0_7 a0_8 a1_7 a1_8).bind fun t518 => (if t518 = true then ((laws_eqFrameS.f k l0_9 l1_9).bind fun t519 => (if t519 = true then (if (a0_10 != a1_10) = true then (some false) else (some true)) else (some false))) else (some false))) else (some false))) else (some false)) else (some false))) else (some false)))) = some r := h
 clear h
 have HC3 := Aside0.mk H
 clear H
 go_enter Tryd.func8, Tryd.ntmps8
 go_upto_if 9 with (first | ((with_reducible refine gd 2 rfl ?_); refine bx (N := 2) (cs := #[.bool a0_0, .slice A0_1 l0_1.length c0_1, .int .i64 a0_2, .slice A0_3 l0_3.length c0_3, .int .i64 a0_4, .string a0_5, .slice A0_6 l0_6.length c0_6, .int .i64 a0_7, .int .i64 a0_8, .slice A0_9 l0_9.length c0_9, .bool a0_10]) (t := 39) ?_; intro gb513 hg w4 hbox hb; have BK513 := Aside0.mk (hbox); have GW513 := gw HB hg; have GE513 := GW513; replace HB := Aside0.mk (below_step (zb HB) hb); clear hb hbox hg) | ((with_reducible refine gd 3 rfl ?_); refine bx (N := 3) (cs := #[.bool a1_0, .slice A1_1 l1_1.length c1_1, .int .i64 a1_2, .slice A1_3 l1_3.length c1_3, .int .i64 a1_4, .string a1_5, .slice A1_6 l1_6.length c1_6, .int .i64 a1_7, .int .i64 a1_8, .slice A1_9 l1_9.length c1_9, .bool a1_10]) (t := 39) ?_; intro gb514 hg w5 hbox hb; have BK514 := Aside0.mk (hbox); have GW514 := gw HB hg; have GE514 := GW514; replace HB := Aside0.mk (below_step (zb HB) hb); obtain ⟨NB513_514, NB514_513⟩ := nb BK513 hg; replace BK513 := kb BK513 hb; clear hb hbox hg; have hnb6 := NB513_514.out; have hnc6 := NB514_513.out; obtain ⟨hcz7_0, hcz7_1, hcz7_2, hcz7_3, hcz7_4, hcz7_5, hcz7_6, hcz7_7, hcz7_8, hcz7_9, hcz7_10, hfz7_0, hfz7_1, hfz7_2, hfz7_3, hfz7_4, hfz7_5, hfz7_6, hfz7_7, hfz7_8, hfz7_9, hfz7_10⟩ := c11 BK513; obtain ⟨hcz8_0, hcz8_1, hcz8_2, hcz8_3, hcz8_4, hcz8_5, hcz8_6, hcz8_7, hcz8_8, hcz8_9, hcz8_10, hfz8_0, hfz8_1, hfz8_2, hfz8_3, hfz8_4, hfz8_5, hfz8_6, hfz8_7, hfz8_8, hfz8_9, hfz8_10⟩ := c11 BK514))
 (try simp only [Act.put, s1, s2, s3])
 have H := HC3.out
 clear HC3
 replace H := sp H
 rcases H with ⟨c9, H⟩ | ⟨c9, H⟩
 ·skip
  have c9b0 : (a0_0 != a1_0) = true := c9
  (try (have c9b1 : decide (a0_0 = a1_0) = false := by simpa using c9))
  (try (have c9b2 : (a0_0 == a1_0) = false := by simpa using c9))
  (try (have c9b3 : ¬ (a0_0 = a1_0) := by simpa using c9))
  clear c9
  (first | rw [c9b0] | rw [c9b1] | rw [c9b2] | (simp only [i64_w, i32_w]; rw [c9b0]) | skip)
  obtain rfl := Option.some.inj H
  go_wp2
  go_ret
  exact ⟨ze, zb HB⟩
 ·skip
  have c9b0 : (a0_0 != a1_0) = false := by simpa using c9
  (try (have c9b1 : decide (a0_0 = a1_0) = true := by simpa using c9))
  (try (have c9b2 : (a0_0 == a1_0) = true := by simpa using c9))
  clear c9
  (first | rw [c9b0] | rw [c9b1] | rw [c9b2] | (simp only [i64_w, i32_w]; rw [c9b0]) | skip)
  obtain ⟨t515, A10, H⟩ := ob H
  (try dsimp only at H)
  by_cases c11 : t515 = true
  ·subst c11
   rw [if_pos rfl] at H
   obtain ⟨t516, A12, H⟩ := ob H
   (try dsimp only at H)
   have HC13 := Aside0.mk H
   clear H
   have hnb14 := NB513_514.out
   have hnc14 := NB514_513.out
   obtain ⟨hcz15_0, hcz15_1, hcz15_2, hcz15_3, hcz15_4, hcz15_5, hcz15_6, hcz15_7, hcz15_8, hcz15_9, hcz15_10, hfz15_0, hfz15_1, hfz15_2, hfz15_3, hfz15_4, hfz15_5, hfz15_6, hfz15_7, hfz15_8, hfz15_9, hfz15_10⟩ := c11 BK513
   obtain ⟨hcz16_0, hcz16_1, hcz16_2, hcz16_3, hcz16_4, hcz16_5, hcz16_6, hcz16_7, hcz16_8, hcz16_9, hcz16_10, hfz16_0, hfz16_1, hfz16_2, hfz16_3, hfz16_4, hfz16_5, hfz16_6, hfz16_7, hfz16_8, hfz16_9, hfz16_10⟩ := c11 BK514
   go_upto_if 21 with (first | ((with_reducible refine gq 26 rfl ?_); refine gl (some 14) Tryd.func26 #[.agg #[.slice A0_1 l0_1.length c0_1, .int .i64 a0_2], .agg #[.slice A1_1 l1_1.length c1_1, .int .i64 a1_2]] ?_; (with_reducible refine (laws_eqTable.calls k _ _ l0_1 a0_2 _ _ l1_1 a1_2 true _ ?side1 ?side2 ?side3 ?side4 A10.out).mono ?_); (case side1 => exact zc (Kd.C_below HR0_1.out HB.out)); (case side2 => exact HC0_1.out); (case side3 => exact zc (Kd.C_below HR1_1.out HB.out)); (case side4 => exact HC1_1.out); rintro e w17 ⟨rfl, hb⟩; refine ⟨_, rfl, ?_⟩; replace BK513 := kb BK513 hb; replace BK514 := kb BK514 hb; replace HB := Aside0.mk (below_step (zb HB) hb); (try clear hb); obtain ⟨hcz18_0, hcz18_1, hcz18_2, hcz18_3, hcz18_4, hcz18_5, hcz18_6, hcz18_7, hcz18_8, hcz18_9, hcz18_10, hfz18_0, hfz18_1, hfz18_2, hfz18_3, hfz18_4, hfz18_5, hfz18_6, hfz18_7, hfz18_8, hfz18_9, hfz18_10⟩ := c11 BK513; obtain ⟨hcz19_0, hcz19_1, hcz19_2, hcz19_3, hcz19_4, hcz19_5, hcz19_6, hcz19_7, hcz19_8, hcz19_9, hcz19_10, hfz19_0, hfz19_1, hfz19_2, hfz19_3, hfz19_4, hfz19_5, hfz19_6, hfz19_7, hfz19_8, hfz19_9, hfz19_10⟩ := c11 BK514) | ((with_reducible refine gq 26 rfl ?_); refine gl (some 20) Tryd.func26 #[.agg #[.slice A0_3 l0_3.length c0_3, .int .i64 a0_4], .agg #[.slice A1_3 l1_3.length c1_3, .int .i64 a1_4]] ?_; (with_reducible refine (laws_eqTable.calls k _ _ l0_3 a0_4 _ _ l1_3 a1_4 t516 _ ?side1 ?side2 ?side3 ?side4 A12.out).mono ?_); (case side1 => exact zc (Kd.C_below HR0_3.out HB.out)); (case side2 => exact HC0_3.out); (case side3 => exact zc (Kd.C_below HR1_3.out HB.out)); (case side4 => exact HC1_3.out); rintro e w20 ⟨rfl, hb⟩; refine ⟨_, rfl, ?_⟩; replace BK513 := kb BK513 hb; replace BK514 := kb BK514 hb; replace HB := Aside0.mk (below_step (zb HB) hb); (try clear hb)))
   (try simp only [Act.put, s1, s2, s3])
   have H := HC13.out
   clear HC13
   by_cases c21 : t516 = true
   ·subst c21
    rw [if_pos rfl] at H
    replace H := sp H
    rcases H with ⟨c22, H⟩ | ⟨c22, H⟩
    ·skip
     have c22b0 : (a0_5.toList == a1_5.toList) = true := beq_iff_eq.mpr c22
     have c22b1 : (a0_5.toList != a1_5.toList) = false := bne_eq_false_iff_eq.mpr c22
     clear c22
     (first | rw [c22b0] | rw [c22b1] | rw [c22b2] | (simp only [i64_w, i32_w]; rw [c22b0]) | skip)
     obtain ⟨t517, A23, H⟩ := ob H
     (try dsimp only at H)
     by_cases c24 : t517 = true
     ·subst c24
      rw [if_pos rfl] at H
      obtain ⟨t518, A25, H⟩ := ob H
      (try dsimp only at H)
      have HC26 := Aside0.mk H
      clear H
      have hnb27 := NB513_514.out
      have hnc27 := NB514_513.out
      obtain ⟨hcz28_0, hcz28_1, hcz28_2, hcz28_3, hcz28_4, hcz28_5, hcz28_6, hcz28_7, hcz28_8, hcz28_9, hcz28_10, hfz28_0, hfz28_1, hfz28_2, hfz28_3, hfz28_4, hfz28_5, hfz28_6, hfz28_7, hfz28_8, hfz28_9, hfz28_10⟩ := c11 BK513
      obtain ⟨hcz29_0, hcz29_1, hcz29_2, hcz29_3, hcz29_4, hcz29_5, hcz29_6, hcz29_7, hcz29_8, hcz29_9, hcz29_10, hfz29_0, hfz29_1, hfz29_2, hfz29_3, hfz29_4, hfz29_5, hfz29_6, hfz29_7, hfz29_8, hfz29_9, hfz29_10⟩ := c11 BK514
      go_upto_if 38 with (first | ((with_reducible refine gq 27 rfl ?_); refine gl (some 31) Tryd.func27 #[.slice A0_6 l0_6.length c0_6, .slice A1_6 l1_6.length c1_6] ?_; (with_reducible refine (laws_eqStreamS.calls k _ _ l0_6 _ _ l1_6 true _ ?side1 ?side2 ?side3 ?side4 A23.out).mono ?_); (case side1 => exact zc (Kd.C_below HR0_6.out HB.out)); (case side2 => exact HC0_6.out); (case side3 => exact zc (Kd.C_below HR1_6.out HB.out)); (case side4 => exact HC1_6.out); rintro e w30 ⟨rfl, hb⟩; refine ⟨_, rfl, ?_⟩; replace BK513 := kb BK513 hb; replace BK514 := kb BK514 hb; replace HB := Aside0.mk (below_step (zb HB) hb); (try clear hb); obtain ⟨hcz31_0, hcz31_1, hcz31_2, hcz31_3, hcz31_4, hcz31_5, hcz31_6, hcz31_7, hcz31_8, hcz31_9, hcz31_10, hfz31_0, hfz31_1, hfz31_2, hfz31_3, hfz31_4, hfz31_5, hfz31_6, hfz31_7, hfz31_8, hfz31_9, hfz31_10⟩ := c11 BK513; obtain ⟨hcz32_0, hcz32_1, hcz32_2, hcz32_3, hcz32_4, hcz32_5, hcz32_6, hcz32_7, hcz32_8, hcz32_9, hcz32_10, hfz32_0, hfz32_1, hfz32_2, hfz32_3, hfz32_4, hfz32_5, hfz32_6, hfz32_7, hfz32_8, hfz32_9, hfz32_10⟩ := c11 BK514) | ((with_reducible refine gq 28 rfl ?_); refine gl (some 37) Tryd.func28 #[.agg #[.int .i64 a0_7, .int .i64 a0_8], .agg #[.int .i64 a1_7, .int .i64 a1_8]] ?_; (with_reducible refine (laws_eqFlow.calls a0_7 a0_8 a1_7 a1_8 t518 _ A25.out).mono ?_); rintro e w33 ⟨rfl, hb⟩; refine ⟨_, rfl, ?_⟩; replace BK513 := kb BK513 hb; replace BK514 := kb BK514 hb; replace HB := Aside0.mk (below_step (zb HB) hb); (try clear hb)))
      (try simp only [Act.put, s1, s2, s3])
      have H := HC26.out
      clear HC26
      by_cases c34 : t518 = true
      ·subst c34
       rw [if_pos rfl] at H
       obtain ⟨t519, A35, H⟩ := ob H
       (try dsimp only at H)
       by_cases c36 : t519 = true
       ·subst c36
        rw [if_pos rfl] at H
        by_cases c37 : (a0_10 != a1_10) = true
        ·rw [if_pos c37] at H
         have c37b0 : (a0_10 != a1_10) = true := c37
         (try (have c37b1 : decide (a0_10 = a1_10) = false := by simpa using c37))
         (try (have c37b2 : (a0_10 == a1_10) = false := by simpa using c37))
         (try (have c37b3 : ¬ (a0_10 = a1_10) := by simpa using c37))
         clear c37
         (first | rw [c37b0] | rw [c37b1] | rw [c37b2] | (simp only [i64_w, i32_w]; rw [c37b0]) | skip)
         obtain rfl := Option.some.inj H
         have hnb38 := NB513_514.out
         have hnc38 := NB514_513.out
         obtain ⟨hcz39_0, hcz39_1, hcz39_2, hcz39_3, hcz39_4, hcz39_5, hcz39_6, hcz39_7, hcz39_8, hcz39_9, hcz39_10, hfz39_0, hfz39_1, hfz39_2, hfz39_3, hfz39_4, hfz39_5, hfz39_6, hfz39_7, hfz39_8, hfz39_9, hfz39_10⟩ := c11 BK513
         obtain ⟨hcz40_0, hcz40_1, hcz40_2, hcz40_3, hcz40_4, hcz40_5, hcz40_6, hcz40_7, hcz40_8, hcz40_9, hcz40_10, hfz40_0, hfz40_1, hfz40_2, hfz40_3, hfz40_4, hfz40_5, hfz40_6, hfz40_7, hfz40_8, hfz40_9, hfz40_10⟩ := c11 BK514
         go_wp2_with (first | ((with_reducible refine gq 29 rfl ?_); refine gl (some 43) Tryd.func29 #[.slice A0_9 l0_9.length c0_9, .slice A1_9 l1_9.length c1_9] ?_; (with_reducible refine (laws_eqFrameS.calls k _ _ l0_9 _ _ l1_9 true _ ?side1 ?side2 ?side3 ?side4 A35.out).mono ?_); (case side1 => exact zc (Kd.C_below HR0_9.out HB.out)); (case side2 => exact HC0_9.out); (case side3 => exact zc (Kd.C_below HR1_9.out HB.out)); (case side4 => exact HC1_9.out); rintro e w41 ⟨rfl, hb⟩; refine ⟨_, rfl, ?_⟩; replace BK513 := kb BK513 hb; replace BK514 := kb BK514 hb; replace HB := Aside0.mk (below_step (zb HB) hb); (try clear hb); obtain ⟨hcz42_0, hcz42_1, hcz42_2, hcz42_3, hcz42_4, hcz42_5, hcz42_6, hcz42_7, hcz42_8, hcz42_9, hcz42_10, hfz42_0, hfz42_1, hfz42_2, hfz42_3, hfz42_4, hfz42_5, hfz42_6, hfz42_7, hfz42_8, hfz42_9, hfz42_10⟩ := c11 BK513; obtain ⟨hcz43_0, hcz43_1, hcz43_2, hcz43_3, hcz43_4, hcz43_5, hcz43_6, hcz43_7, hcz43_8, hcz43_9, hcz43_10, hfz43_0, hfz43_1, hfz43_2, hfz43_3, hfz43_4, hfz43_5, hfz43_6, hfz43_7, hfz43_8, hfz43_9, hfz43_10⟩ := c11 BK514))
         go_ret
         exact ⟨ze, zb HB⟩
        ·rw [if_neg c37] at H
         have c37b0 : (a0_10 != a1_10) = false := by simpa using c37
         (try (have c37b1 : decide (a0_10 = a1_10) = true := by simpa using c37))
         (try (have c37b2 : (a0_10 == a1_10) = true := by simpa using c37))
         clear c37
         (first | rw [c37b0] | rw [c37b1] | rw [c37b2] | (simp only [i64_w, i32_w]; rw [c37b0]) | skip)
         obtain rfl := Option.some.inj H
         have hnb44 := NB513_514.out
         have hnc44 := NB514_513.out
         obtain ⟨hcz45_0, hcz45_1, hcz45_2, hcz45_3, hcz45_4, hcz45_5, hcz45_6, hcz45_7, hcz45_8, hcz45_9, hcz45_10, hfz45_0, hfz45_1, hfz45_2, hfz45_3, hfz45_4, hfz45_5, hfz45_6, hfz45_7, hfz45_8, hfz45_9, hfz45_10⟩ := c11 BK513
         obtain ⟨hcz46_0, hcz46_1, hcz46_2, hcz46_3, hcz46_4, hcz46_5, hcz46_6, hcz46_7, hcz46_8, hcz46_9, hcz46_10, hfz46_0, hfz46_1, hfz46_2, hfz46_3, hfz46_4, hfz46_5, hfz46_6, hfz46_7, hfz46_8, hfz46_9, hfz46_10⟩ := c11 BK514
         go_wp2_with (first | ((with_reducible refine gq 29 rfl ?_); refine gl (some 43) Tryd.func29 #[.slice A0_9 l0_9.length c0_9, .slice A1_9 l1_9.length c1_9] ?_; (with_reducible refine (laws_eqFrameS.calls k _ _ l0_9 _ _ l1_9 true _ ?side1 ?side2 ?side3 ?side4 A35.out).mono ?_); (case side1 => exact zc (Kd.C_below HR0_9.out HB.out)); (case side2 => exact HC0_9.out); (case side3 => exact zc (Kd.C_below HR1_9.out HB.out)); (case side4 => exact HC1_9.out); rintro e w47 ⟨rfl, hb⟩; refine ⟨_, rfl, ?_⟩; replace BK513 := kb BK513 hb; replace BK514 := kb BK514 hb; replace HB := Aside0.mk (below_step (zb HB) hb); (try clear hb); obtain ⟨hcz48_0, hcz48_1, hcz48_2, hcz48_3, hcz48_4, hcz48_5, hcz48_6, hcz48_7, hcz48_8, hcz48_9, hcz48_10, hfz48_0, hfz48_1, hfz48_2, hfz48_3, hfz48_4, hfz48_5, hfz48_6, hfz48_7, hfz48_8, hfz48_9, hfz48_10⟩ := c11 BK513; obtain ⟨hcz49_0, hcz49_1, hcz49_2, hcz49_3, hcz49_4, hcz49_5, hcz49_6, hcz49_7, hcz49_8, hcz49_9, hcz49_10, hfz49_0, hfz49_1, hfz49_2, hfz49_3, hfz49_4, hfz49_5, hfz49_6, hfz49_7, hfz49_8, hfz49_9, hfz49_10⟩ := c11 BK514))
         go_ret
         exact ⟨ze, zb HB⟩
       ·replace c36 := Bool.eq_false_iff.mpr c36
        subst c36
        rw [if_neg (show ¬ (false = true) by decide)] at H
        obtain rfl := Option.some.inj H
        have hnb50 := NB513_514.out
        have hnc50 := NB514_513.out
        obtain ⟨hcz51_0, hcz51_1, hcz51_2, hcz51_3, hcz51_4, hcz51_5, hcz51_6, hcz51_7, hcz51_8, hcz51_9, hcz51_10, hfz51_0, hfz51_1, hfz51_2, hfz51_3, hfz51_4, hfz51_5, hfz51_6, hfz51_7, hfz51_8, hfz51_9, hfz51_10⟩ := c11 BK513
        obtain ⟨hcz52_0, hcz52_1, hcz52_2, hcz52_3, hcz52_4, hcz52_5, hcz52_6, hcz52_7, hcz52_8, hcz52_9, hcz52_10, hfz52_0, hfz52_1, hfz52_2, hfz52_3, hfz52_4, hfz52_5, hfz52_6, hfz52_7, hfz52_8, hfz52_9, hfz52_10⟩ := c11 BK514
        go_wp2_with (first | ((with_reducible refine gq 29 rfl ?_); refine gl (some 43) Tryd.func29 #[.slice A0_9 l0_9.length c0_9, .slice A1_9 l1_9.length c1_9] ?_; (with_reducible refine (laws_eqFrameS.calls k _ _ l0_9 _ _ l1_9 false _ ?side1 ?side2 ?side3 ?side4 A35.out).mono ?_); (case side1 => exact zc (Kd.C_below HR0_9.out HB.out)); (case side2 => exact HC0_9.out); (case side3 => exact zc (Kd.C_below HR1_9.out HB.out)); (case side4 => exact HC1_9.out); rintro e w53 ⟨rfl, hb⟩; refine ⟨_, rfl, ?_⟩; replace BK513 := kb BK513 hb; replace BK514 := kb BK514 hb; replace HB := Aside0.mk (below_step (zb HB) hb); (try clear hb)))
        go_ret
        exact ⟨ze, zb HB⟩
      ·replace c34 := Bool.eq_false_iff.mpr c34
       subst c34
       rw [if_neg (show ¬ (false = true) by decide)] at H
       obtain rfl := Option.some.inj H
       go_wp2
       go_ret
       exact ⟨ze, zb HB⟩
     ·replace c24 := Bool.eq_false_iff.mpr c24
      subst c24
      rw [if_neg (show ¬ (false = true) by decide)] at H
      obtain rfl := Option.some.inj H
      have hnb54 := NB513_514.out
      have hnc54 := NB514_513.out
      obtain ⟨hcz55_0, hcz55_1, hcz55_2, hcz55_3, hcz55_4, hcz55_5, hcz55_6, hcz55_7, hcz55_8, hcz55_9, hcz55_10, hfz55_0, hfz55_1, hfz55_2, hfz55_3, hfz55_4, hfz55_5, hfz55_6, hfz55_7, hfz55_8, hfz55_9, hfz55_10⟩ := c11 BK513
      obtain ⟨hcz56_0, hcz56_1, hcz56_2, hcz56_3, hcz56_4, hcz56_5, hcz56_6, hcz56_7, hcz56_8, hcz56_9, hcz56_10, hfz56_0, hfz56_1, hfz56_2, hfz56_3, hfz56_4, hfz56_5, hfz56_6, hfz56_7, hfz56_8, hfz56_9, hfz56_10⟩ := c11 BK514
      go_wp2_with (first | ((with_reducible refine gq 27 rfl ?_); refine gl (some 31) Tryd.func27 #[.slice A0_6 l0_6.length c0_6, .slice A1_6 l1_6.length c1_6] ?_; (with_reducible refine (laws_eqStreamS.calls k _ _ l0_6 _ _ l1_6 false _ ?side1 ?side2 ?side3 ?side4 A23.out).mono ?_); (case side1 => exact zc (Kd.C_below HR0_6.out HB.out)); (case side2 => exact HC0_6.out); (case side3 => exact zc (Kd.C_below HR1_6.out HB.out)); (case side4 => exact HC1_6.out); rintro e w57 ⟨rfl, hb⟩; refine ⟨_, rfl, ?_⟩; replace BK513 := kb BK513 hb; replace BK514 := kb BK514 hb; replace HB := Aside0.mk (below_step (zb HB) hb); (try clear hb)))
      go_ret
      exact ⟨ze, zb HB⟩
    ·skip
     have c22b0 : (a0_5.toList == a1_5.toList) = false := beq_eq_false_iff_ne.mpr c22
     have c22b1 : (a0_5.toList != a1_5.toList) = true := bne_iff_ne.mpr c22
     (first | rw [c22b0] | rw [c22b1] | rw [c22b2] | (simp only [i64_w, i32_w]; rw [c22b0]) | skip)
     obtain rfl := Option.some.inj H
     have hnb58 := NB513_514.out
     have hnc58 := NB514_513.out
     obtain ⟨hcz59_0, hcz59_1, hcz59_2, hcz59_3, hcz59_4, hcz59_5, hcz59_6, hcz59_7, hcz59_8, hcz59_9, hcz59_10, hfz59_0, hfz59_1, hfz59_2, hfz59_3, hfz59_4, hfz59_5, hfz59_6, hfz59_7, hfz59_8, hfz59_9, hfz59_10⟩ := c11 BK513
     obtain ⟨hcz60_0, hcz60_1, hcz60_2, hcz60_3, hcz60_4, hcz60_5, hcz60_6, hcz60_7, hcz60_8, hcz60_9, hcz60_10, hfz60_0, hfz60_1, hfz60_2, hfz60_3, hfz60_4, hfz60_5, hfz60_6, hfz60_7, hfz60_8, hfz60_9, hfz60_10⟩ := c11 BK514
     go_wp2
     go_ret
     exact ⟨ze, zb HB⟩
   ·replace c21 := Bool.eq_false_iff.mpr c21
    subst c21
    rw [if_neg (show ¬ (false = true) by decide)] at H
    obtain rfl := Option.some.inj H
    go_wp2
    go_ret
    exact ⟨ze, zb HB⟩
  ·replace c11 := Bool.eq_false_iff.mpr c11
   subst c11
   rw [if_neg (show ¬ (false = true) by decide)] at H
   obtain rfl := Option.some.inj H
   have hnb61 := NB513_514.out
   have hnc61 := NB514_513.out
   obtain ⟨hcz62_0, hcz62_1, hcz62_2, hcz62_3, hcz62_4, hcz62_5, hcz62_6, hcz62_7, hcz62_8, hcz62_9, hcz62_10, hfz62_0, hfz62_1, hfz62_2, hfz62_3, hfz62_4, hfz62_5, hfz62_6, hfz62_7, hfz62_8, hfz62_9, hfz62_10⟩ := c11 BK513
   obtain ⟨hcz63_0, hcz63_1, hcz63_2, hcz63_3, hcz63_4, hcz63_5, hcz63_6, hcz63_7, hcz63_8, hcz63_9, hcz63_10, hfz63_0, hfz63_1, hfz63_2, hfz63_3, hfz63_4, hfz63_5, hfz63_6, hfz63_7, hfz63_8, hfz63_9, hfz63_10⟩ := c11 BK514
   go_wp2_with (first | ((with_reducible refine gq 26 rfl ?_); refine gl (some 14) Tryd.func26 #[.agg #[.slice A0_1 l0_1.length c0_1, .int .i64 a0_2], .agg #[.slice A1_1 l1_1.length c1_1, .int .i64 a1_2]] ?_; (with_reducible refine (laws_eqTable.calls k _ _ l0_1 a0_2 _ _ l1_1 a1_2 false _ ?side1 ?side2 ?side3 ?side4 A10.out).mono ?_); (case side1 => exact zc (Kd.C_below HR0_1.out HB.out)); (case side2 => exact HC0_1.out); (case side3 => exact zc (Kd.C_below HR1_1.out HB.out)); (case side4 => exact HC1_1.out); rintro e w64 ⟨rfl, hb⟩; refine ⟨_, rfl, ?_⟩; replace BK513 := kb BK513 hb; replace BK514 := kb BK514 hb; replace HB := Aside0.mk (below_step (zb HB) hb); (try clear hb)))
   go_ret
   exact ⟨ze, zb HB⟩

/-! ### laws_markText: function 66 -/
-- thin
def laws_markText.l0 : Nat → Int → ByteArray → Option (ByteArray)
 | 0, _, _ => none
 | k + 1, x0, x3 => if x0 > 0 then ((some (([(wrap64 (48 + (Int.tmod x0 10))) % 256] : List Int) : List Int)).bind fun y520 => (if (strOfNums y520).size + x3.size ≤ 9223372036854775807 then (laws_markText.l0 k (wrap64 (Int.tdiv x0 10)) ((strOfNums y520) ++ x3)) else (none))) else (if 1 + x3.size ≤ 9223372036854775807 then (some ((⟨#[109]⟩ : ByteArray) ++ x3)) else (none))
def laws_markText.f (k : Nat) (a0 : Int) : Option (ByteArray) := if a0 ≤ 0 then (some (⟨#[109, 48]⟩ : ByteArray)) else (laws_markText.l0 k a0 (⟨#[]⟩ : ByteArray))
theorem laws_markText.mono_l : ∀ k, (∀ y0 y1, LeO (laws_markText.l0 k y0 y1) (laws_markText.l0 (k + 1) y0 y1))
 | 0 => fun _ _ r h => by simp [laws_markText.l0] at h
 | k + 1 => by
  have ih0 := laws_markText.mono_l k
  ·intro y0 y1
   unfold laws_markText.l0
   exact zm
theorem laws_markText.mono : ∀ a0 k, LeO (laws_markText.f k a0) (laws_markText.f (k + 1) a0) := by
 intro a0 k
 have ih0 := laws_markText.mono_l k
 unfold laws_markText.f
 exact zm
set_option maxHeartbeats 8000000 in
set_option maxRecDepth 100000 in
theorem laws_markText.calls (k : Nat) (a0 : Int) (r : ByteArray) (w : World) (h : laws_markText.f k a0 = some r) :
  Calls Tryd.prog 66 #[.int .i64 a0] w fun e w' => e = .returned (.string r) ∧ Below w.heap.size w w' := by
 have HB := Aside0.mk (Below.refl w.heap.size w)
 have H : (if a0 ≤ 0 then (some (⟨#[109, 48]⟩ : ByteArray)) else (laws_markText.l0 k a0 (⟨#[]⟩ : ByteArray))) = some r := h
 clear h
 replace H := sp H
 rcases H with ⟨c2, H⟩ | ⟨c2, H⟩
 ·skip
  have c2b0 := decide_eq_true c2
  clear c2
  obtain rfl := Option.some.inj H
  go_enter Tryd.func66, Tryd.ntmps66
  go_wp2
  go_ret
  exact ⟨ze, zb HB⟩
 ·skip
  have c2b0 := decide_eq_false c2
  clear c2
  have H' := Aside0.mk H
  clear H
  go_enter Tryd.func66, Tryd.ntmps66
  go_wp2
  go_loopg [0, 3] k (fun kq v0 v3 w' => ∃ (x0_1 : Int) (x3_1 : ByteArray), v0 = .int .i64 x0_1 ∧ v3 = .string x3_1 ∧ Aside0 (laws_markText.l0 kq x0_1 x3_1 = some r) ∧ Aside0 (kq ≤ k) ∧ Aside0 (Below w.heap.size w w'))
  case atStart => exact ⟨(a0), ((⟨#[]⟩ : ByteArray)), zs, zs, H', ⟨Nat.le_refl _⟩, ⟨zb HB⟩⟩
  case round =>
   clear H'
   try clear c2
   try clear c2b0
   try clear p2
   obtain ⟨x0_1, x3_1, rfl, rfl, HA, HK1, HB⟩ := hrel
   cases gk with
   | zero => exact absurd HA.out (by simp [laws_markText.l0])
   | succ k1 =>
    have H := HA.out
    clear HA
    simp only [laws_markText.l0] at H
    replace H := sp H
    rcases H with ⟨c3, H⟩ | ⟨c3, H⟩
    ·skip
     have c3b0 := decide_eq_true c3
     clear c3
     obtain ⟨y520, hy520⟩ : ∃ y_ : List Int, y_ = (([(wrap64 (48 + (Int.tmod x0_1 10))) % 256] : List Int)) := ⟨_, rfl⟩
     replace H : (if (strOfNums y520).size + x3_1.size ≤ 9223372036854775807 then (laws_markText.l0 k1 (wrap64 (Int.tdiv x0_1 10)) ((strOfNums y520) ++ x3_1)) else (none)) = some r := by first | (rw [hy520]; with_reducible exact H) | (have H2_ := (Option.bind_some _ _).symm.trans H; rw [hy520]; with_reducible exact H2_) | (have H2_ := (Option.bind_some _ _).symm.trans H; with_reducible exact H2_) | with_reducible exact H | (rw [hy520]; exact H) | exact H
     have Ny520 := Aside0.mk hy520
     clear hy520
     by_cases c4 : (strOfNums y520).size + x3_1.size ≤ 9223372036854775807
     ·rw [if_pos c4] at H
      have c4b0 := eq_true c4
      have c4b1 := decide_eq_true c4
      try have c4b2 : (9223372036854775807 < (strOfNums y520).size + x3_1.size) = False := eq_false (Nat.not_lt.2 c4)
      have H' := Aside0.mk H
      clear H
      go_wp2_with (first | ((with_reducible refine gd 12 rfl ?_); refine Kd.R_lit (Kd.int .u8) _ 5 ?hg (N := 12) ?hd (xs := ([(wrap64 (48 + (Int.tmod x0_1 10))) % 256] : List Int)) (inner := [.int .u8 ((wrap64 (48 + (Int.tmod x0_1 10))) % 256)]) (ok := fun _ => True) (okp := fun _ => True) ?hr ?hp (fun _ hk => hk) trivial (Below.refl _ _) (Nat.le_refl _) (by simp) ?_; (case hd => rfl); (case hg => rfl); (case hr => first | (go_simp; done) | (go_simp; rfl)); (case hp => exact (Reps.one (show Kd.M (Kd.int .u8) _ _ _ ((wrap64 (48 + (Int.tmod x0_1 10))) % 256) [.int .u8 ((wrap64 (48 + (Int.tmod x0_1 10))) % 256)] from rfl) (Reps.none _ _))); intro v521 w5 ho6 hb hg_ hnew_; clear hg_ hnew_; (first | rw [← Ny520.out] at ho6 | (simp only [Int.reduceToNat] at ho6; rw [← Ny520.out] at ho6)); have HO522 := Aside0.mk (Kd.R_lower ho6 (below_size (zb HB))); replace HB := Aside0.mk (below_step (zb HB) hb); clear hb ho6; have hcv7 := own_string (P := Tryd.prog) Tryd.underlying100 Tryd.underlying5 Tryd.underlying9 (Kd.own_of_R HO522.out)))
      go_roundg k1
      case measure => have := HK1.out; omega
      case rel => exact ⟨(wrap64 (Int.tdiv x0_1 10)), ((strOfNums y520) ++ x3_1), zs, zs, H', ⟨by have := HK1.out; omega⟩, ⟨zb HB⟩⟩
     ·rw [if_neg c4] at H
      exact absurd H (by simp)
    ·skip
     have c3b0 := decide_eq_false c3
     clear c3
     replace H := sp H
     rcases H with ⟨c8, H⟩ | ⟨c8, H⟩
     ·skip
      have c8b0 := eq_true c8
      have c8b1 := decide_eq_true c8
      try have c8b2 : (9223372036854775807 < 1 + x3_1.size) = False := eq_false (Nat.not_lt.2 c8)
      obtain rfl := Option.some.inj H
      go_wp2
      go_ret
      exact ⟨ze, zb HB⟩
     ·skip
      exact absurd H (by simp)

/-! ### laws_markFieldS: function 65 -/
-- thin
def laws_markFieldS.l0 : Nat → List (S61) → Int → Int → Option (Int × (List (S61)))
 | 0, _, _, _ => none
 | k + 1, x0, x1, x5 => if x5 < (x0.length : Int) then ((laws_markText.f k x1).bind fun t523 => (if 0 ≤ x5 then ((some (x0.set (x5 : Int).toNat (⟨t523, (rd_T61 x0 x5).f1, (rd_T61 x0 x5).f2⟩ : S61) : List (S61))).bind fun y524 => ((laws_markText.f k (wrap64 (x1 + 1))).bind fun t525 => ((some (y524.set (x5 : Int).toNat (⟨(rd_T61 y524 x5).f0, t525, (rd_T61 y524 x5).f2⟩ : S61) : List (S61))).bind fun y526 => (laws_markFieldS.l0 k (y526.set (x5 : Int).toNat (⟨(rd_T61 y526 x5).f0, (rd_T61 y526 x5).f1, ((Int.tmod (wrap64 ((wrap64 (x1 + 1)) + 1)) 3) == 0)⟩ : S61)) (wrap64 ((wrap64 ((wrap64 (x1 + 1)) + 1)) + 1)) (wrap64 (x5 + 1)))))) else (none))) else (some (x1, x0))
def laws_markFieldS.f (k : Nat) (l0 : List (S61)) (a1 : Int) : Option (Int × (List (S61))) := laws_markFieldS.l0 k l0 a1 0
theorem laws_markFieldS.mono_l : ∀ k, (∀ y0 y1 y2, LeO (laws_markFieldS.l0 k y0 y1 y2) (laws_markFieldS.l0 (k + 1) y0 y1 y2))
 | 0 => fun _ _ _ r h => by simp [laws_markFieldS.l0] at h
 | k + 1 => by
  have ih0 := laws_markFieldS.mono_l k
  ·intro y0 y1 y2
   unfold laws_markFieldS.l0
   have m0 := @laws_markText.mono
   exact zm
theorem laws_markFieldS.mono : ∀ a0 a1 k, LeO (laws_markFieldS.f k a0 a1) (laws_markFieldS.f (k + 1) a0 a1) := by
 intro a0 a1 k
 have ih0 := laws_markFieldS.mono_l k
 unfold laws_markFieldS.f
 have m0 := @laws_markText.mono
 exact zm
set_option maxHeartbeats 8000000 in
set_option maxRecDepth 100000 in
theorem laws_markFieldS.calls (k : Nat) (P0_ : Nat → Prop) (u9000_ : Value) (l0 : List (S61)) (a1 : Int) (r1 : Int) (r2 : List (S61)) (w0 w : World) (hB : Below w0.heap.size w0 w) (ho0 : Kd.R k61 61 w w0.heap.size P0_ u9000_ l0) (h : laws_markFieldS.f k l0 a1 = some (r1, r2)) :
  Calls Tryd.prog 65 #[u9000_, .int .i64 a1] w fun e w' => e = .returned (.int .i64 r1) ∧ Kd.R k61 61 w' w0.heap.size (fun k_ => (P0_ k_ ∨ w.heap.size ≤ k_)) u9000_ r2 ∧ Below w0.heap.size w0 w' ∧ Kept w w' (fun k_ => P0_ k_) := by
 have HO0 := Aside0.mk (show Kd.R k61 61 w w0.heap.size (fun k_ => (P0_ k_ ∨ w.heap.size ≤ k_)) u9000_ l0 from Kd.R_mono ho0 (fun k_ hk => (.inl hk)))
 have HK := Aside0.mk (Kept.refl w (fun k_ => P0_ k_))
 have HW0 := Aside0.mk hB.size
 have HB := Aside0.mk hB
 clear hB
 have H : (laws_markFieldS.l0 k l0 a1 0) = some (r1, r2) := h
 clear h
 have H' := Aside0.mk H
 clear H
 go_enter Tryd.func65, Tryd.ntmps65
 go_wp2
 go_loopg [1, 5] k (fun kq v1 v5 w' => ∃ (x0_1 : List (S61)) (x1_1 : Int) (x5_1 : Int), v1 = .int .i64 x1_1 ∧ v5 = .int .i64 x5_1 ∧ Aside0 (laws_markFieldS.l0 kq x0_1 x1_1 x5_1 = some (r1, r2)) ∧ Aside0 (kq ≤ k) ∧ Aside0 (Kd.R k61 61 w' w0.heap.size (fun k_ => (P0_ k_ ∨ w.heap.size ≤ k_)) u9000_ x0_1) ∧ Aside0 (Kept w w' (fun k_ => P0_ k_)) ∧ Aside0 (Below w0.heap.size w0 w'))
 case atStart => exact ⟨(l0), (a1), (0), zs, zs, H', ⟨Nat.le_refl _⟩, ⟨by exact zr HO0⟩, ⟨by repeat (first | (with_reducible first | exact HK.out | apply Kept.alloc | apply Kept.drewN | apply Kept.drew) | exact HK.out)⟩, ⟨zb HB⟩⟩
 case round =>
  clear H'
  try clear p2
  obtain ⟨x0_1, x1_1, x5_1, rfl, rfl, HA, HK1, HO_0, HK, HB⟩ := hrel
  cases gk with
  | zero => exact absurd HA.out (by simp [laws_markFieldS.l0])
  | succ k1 =>
   have H := HA.out
   clear HA
   simp only [laws_markFieldS.l0] at H
   replace H := sp H
   rcases H with ⟨c3, H⟩ | ⟨c3, H⟩
   ·skip
    have c3b0 := decide_eq_true c3
    clear c3
    obtain ⟨t523, A4, H⟩ := ob H
    (try dsimp only at H)
    by_cases c5 : 0 ≤ x5_1
    ·rw [if_pos c5] at H
     have c5b0 := decide_eq_true c5
     clear c5
     obtain ⟨y524, hy524⟩ : ∃ y_ : List (S61), y_ = (x0_1.set (x5_1 : Int).toNat (⟨t523, (rd_T61 x0_1 x5_1).f1, (rd_T61 x0_1 x5_1).f2⟩ : S61)) := ⟨_, rfl⟩
     replace H : ((laws_markText.f k1 (wrap64 (x1_1 + 1))).bind fun t525 => ((some (y524.set (x5_1 : Int).toNat (⟨(rd_T61 y524 x5_1).f0, t525, (rd_T61 y524 x5_1).f2⟩ : S61) : List (S61))).bind fun y526 => (laws_markFieldS.l0 k1 (y526.set (x5_1 : Int).toNat (⟨(rd_T61 y526 x5_1).f0, (rd_T61 y526 x5_1).f1, ((Int.tmod (wrap64 ((wrap64 (x1_1 + 1)) + 1)) 3) == 0)⟩ : S61)) (wrap64 ((wrap64 ((wrap64 (x1_1 + 1)) + 1)) + 1)) (wrap64 (x5_1 + 1))))) = some (r1, r2) := by first | (rw [hy524]; with_reducible exact H) | (have H2_ := (Option.bind_some _ _).symm.trans H; rw [hy524]; with_reducible exact H2_) | (have H2_ := (Option.bind_some _ _).symm.trans H; with_reducible exact H2_) | with_reducible exact H | (rw [hy524]; exact H) | exact H
     have Ny524 := Aside0.mk hy524
     clear hy524
     obtain ⟨t525, A7, H⟩ := ob H
     (try dsimp only at H)
     obtain ⟨y526, hy526⟩ : ∃ y_ : List (S61), y_ = (y524.set (x5_1 : Int).toNat (⟨(rd_T61 y524 x5_1).f0, t525, (rd_T61 y524 x5_1).f2⟩ : S61)) := ⟨_, rfl⟩
     replace H : (laws_markFieldS.l0 k1 (y526.set (x5_1 : Int).toNat (⟨(rd_T61 y526 x5_1).f0, (rd_T61 y526 x5_1).f1, ((Int.tmod (wrap64 ((wrap64 (x1_1 + 1)) + 1)) 3) == 0)⟩ : S61)) (wrap64 ((wrap64 ((wrap64 (x1_1 + 1)) + 1)) + 1)) (wrap64 (x5_1 + 1))) = some (r1, r2) := by first | (rw [hy526]; with_reducible exact H) | (have H2_ := (Option.bind_some _ _).symm.trans H; rw [hy526]; with_reducible exact H2_) | (have H2_ := (Option.bind_some _ _).symm.trans H; with_reducible exact H2_) | with_reducible exact H | (rw [hy526]; exact H) | exact H
     have Ny526 := Aside0.mk hy526
     clear hy526
     obtain ⟨y527, hy527⟩ : ∃ y_ : List (S61), y_ = (y526.set (x5_1 : Int).toNat (⟨(rd_T61 y526 x5_1).f0, (rd_T61 y526 x5_1).f1, ((Int.tmod (wrap64 ((wrap64 (x1_1 + 1)) + 1)) 3) == 0)⟩ : S61)) := ⟨_, rfl⟩
     replace H : (laws_markFieldS.l0 k1 y527 (wrap64 ((wrap64 ((wrap64 (x1_1 + 1)) + 1)) + 1)) (wrap64 (x5_1 + 1))) = some (r1, r2) := by first | (rw [hy527]; with_reducible exact H) | (have H2_ := (Option.bind_some _ _).symm.trans H; rw [hy527]; with_reducible exact H2_) | (have H2_ := (Option.bind_some _ _).symm.trans H; with_reducible exact H2_) | with_reducible exact H | (rw [hy527]; exact H) | exact H
     have Ny527 := Aside0.mk hy527
     clear hy527
     have H' := Aside0.mk H
     clear H
     obtain ⟨Ao10, co10, eo10⟩ := Kd.R_slice HO_0.out
     subst eo10
     go_wp2_with (first | ((with_reducible refine gq 66 rfl ?_); refine gl (some 15) Tryd.func66 #[.int .i64 x1_1] ?_; (with_reducible refine (laws_markText.calls k1 x1_1 t523 _ A4.out).mono ?_); rintro e w11 ⟨rfl, hb⟩; refine ⟨_, rfl, ?_⟩; replace HO_0 := Aside0.mk (Kd.R_below (zr HO_0) hb); replace HK := Aside0.mk (Kept.below (S := (fun k_ => P0_ k_)) (by repeat (first | (with_reducible first | exact HK.out | apply Kept.alloc | apply Kept.drewN | apply Kept.drew) | exact HK.out)) hb); replace HB := Aside0.mk (below_step (zb HB) hb); (try clear hb); have p6 : 0 ≤ (x5_1 : Int) := of_decide_eq_true za; have q6 : (x5_1 : Int) < ((x0_1.length : Int) : Int) := of_decide_eq_true za; obtain ⟨go6, co6, eo6, gb6, gl6, cl6, HG6⟩ := Kd.R_form HO_0.out (by omega); (first | cases eo6 | (injection eo6 with ea_ en_ ec_; (first | subst ea_ | (injection ea_ with ea_; subst ea_)); subst ec_; clear en_)); have GB6 := Aside0.mk gb6; have GG6 := Aside0.mk HG6; clear gb6 gl6 HG6; have HMgo6 := Aside0.mk (show (P0_ go6 ∨ w.heap.size ≤ go6) from (HO_0.out.1 _ rfl)); obtain ⟨ce6, hcl6, hM6, hcc6, hfr6⟩ := Kd.R_elem HO_0.out z61 (x5_1 : Int) p6 q6; obtain rfl := k61_openM hM6; have hx6_0 : w11.cell? ⟨go6, (x5_1 : Int).toNat * 3, none⟩ = some (.string ((rd_T61 x0_1 x5_1).f0)) := hcc6 0 _ rfl; have hx6_1 : w11.cell? ⟨go6, (x5_1 : Int).toNat * 3 + 1, none⟩ = some (.string ((rd_T61 x0_1 x5_1).f1)) := hcc6 1 _ rfl; have hx6_2 : w11.cell? ⟨go6, (x5_1 : Int).toNat * 3 + 2, none⟩ = some (.bool ((rd_T61 x0_1 x5_1).f2)) := hcc6 2 _ rfl; have hf6_0 : w11.frozen? ⟨go6, (x5_1 : Int).toNat * 3, none⟩ = false := hfr6 0; have hf6_1 : w11.frozen? ⟨go6, (x5_1 : Int).toNat * 3 + 1, none⟩ = false := hfr6 1; have hf6_2 : w11.frozen? ⟨go6, (x5_1 : Int).toNat * 3 + 2, none⟩ = false := hfr6 2; clear hcl6 hcc6 hfr6 hM6; replace p6 := eq_true p6; replace q6 := eq_true q6; have HX12 := Aside0.mk (show Kd.R k61 61 w11 w0.heap.size (fun k_ => (P0_ k_ ∨ w.heap.size ≤ k_)) (.slice (some ⟨go6, 0, none⟩) x0_1.length co10) x0_1 from (zr HO_0)); obtain ⟨ce12, hcl12, hM12, hcc12, hfr12⟩ := Kd.R_elem HX12.out z61 (x5_1 : Int) (of_decide_eq_true za) (by have h_ : (x5_1 : Int) < ((x0_1.length : Int) : Int) := of_decide_eq_true za; first | exact h_ | (have e_ := (Kd.R_reads' HO_0.out).1; omega) | simpa using h_); obtain rfl := k61_openM hM12; have HP12 := Kd.R_seg HX12.out (x5_1 : Int) (of_decide_eq_true za) (by have h_ : (x5_1 : Int) < ((x0_1.length : Int) : Int) := of_decide_eq_true za; first | exact h_ | (have e_ := (Kd.R_reads' HO_0.out).1; omega) | simpa using h_) (seg := [.string t523]) (j := 0) hcl12 hcc12 (show 1 ≤ 3 from by decide) (x' := (⟨t523, (rd_T61 x0_1 x5_1).f1, (rd_T61 x0_1 x5_1).f2⟩ : S61)) (k61_mkM _ _ _ (⟨t523, (rd_T61 x0_1 x5_1).f1, (rd_T61 x0_1 x5_1).f2⟩ : S61) ) (fun _ hk => hk); have hx12_0 := hcc12 0 _ rfl; (try simp only [show (k61).sz = 3 from rfl, Nat.mul_one, Nat.add_zero] at hx12_0); have hf12_0 := hfr12 0; (try simp only [show (k61).sz = 3 from rfl, Nat.mul_one, Nat.add_zero] at hf12_0); clear hcl12 hcc12 hfr12 hM12) | ((with_reducible refine gate_store (t := 9) (p := 17) rfl ?_); refine store_event (t := 9) (p := 17) (v := ?vo_w13) (w1 := (w11.setCell ⟨go6, (x5_1 : Int).toNat * 3, none⟩ (.string t523))) ?hg ?ho ?hn ?hr ?_; (case ho => rfl); (case hg => rfl); (case hn => rfl); (case hr => first | (go_simp; done) | (go_simp; rfl)); intro w13 hw; have hg : w11.grownBy w13 (some go6) := (by rw [hw]; exact HP12.2); have hp_ : Kd.R k61 61 w13 w0.heap.size (fun k_ => (P0_ k_ ∨ w.heap.size ≤ k_)) (.slice (some ⟨go6, 0, none⟩) x0_1.length co10) y524 := (by rw [hw, Ny524.out]; exact HP12.1); clear HP12; replace HB := Aside0.mk ((by rw [hw]; exact below_set (HB.out) GB6.out : Below w0.heap.size w0 w13)); replace HK := Aside0.mk (Kept.of_grown (S := (fun k_ => P0_ k_)) hg (by repeat (first | (with_reducible first | exact HK.out | apply Kept.alloc | apply Kept.drewN | apply Kept.drew) | exact HK.out)) (fun k_ e_ => (HO_0.out.1 k_ e_))); replace HO_0 := Aside0.mk (hp_); clear hg hw hp_) | ((with_reducible refine gq 66 rfl ?_); refine gl (some 23) Tryd.func66 #[.int .i64 (wrap64 (x1_1 + 1))] ?_; (with_reducible refine (laws_markText.calls k1 (wrap64 (x1_1 + 1)) t525 _ A7.out).mono ?_); rintro e w14 ⟨rfl, hb⟩; refine ⟨_, rfl, ?_⟩; replace HO_0 := Aside0.mk (Kd.R_below (zr HO_0) hb); replace HK := Aside0.mk (Kept.below (S := (fun k_ => P0_ k_)) (by repeat (first | (with_reducible first | exact HK.out | apply Kept.alloc | apply Kept.drewN | apply Kept.drew) | exact HK.out)) hb); replace HB := Aside0.mk (below_step (zb HB) hb); (try clear hb); have p8 : 0 ≤ (x5_1 : Int) := of_decide_eq_true za; have q8 : (x5_1 : Int) < ((x0_1.length : Int) : Int) := of_decide_eq_true za; obtain ⟨ce8, hcl8, hM8, hcc8, hfr8⟩ := Kd.R_elem HO_0.out z61 (x5_1 : Int) p8 q8; obtain rfl := k61_openM hM8; have hx8_0 : w14.cell? ⟨go6, (x5_1 : Int).toNat * 3, none⟩ = some (.string ((rd_T61 y524 x5_1).f0)) := hcc8 0 _ rfl; have hx8_1 : w14.cell? ⟨go6, (x5_1 : Int).toNat * 3 + 1, none⟩ = some (.string ((rd_T61 y524 x5_1).f1)) := hcc8 1 _ rfl; have hx8_2 : w14.cell? ⟨go6, (x5_1 : Int).toNat * 3 + 2, none⟩ = some (.bool ((rd_T61 y524 x5_1).f2)) := hcc8 2 _ rfl; have hf8_0 : w14.frozen? ⟨go6, (x5_1 : Int).toNat * 3, none⟩ = false := hfr8 0; have hf8_1 : w14.frozen? ⟨go6, (x5_1 : Int).toNat * 3 + 1, none⟩ = false := hfr8 1; have hf8_2 : w14.frozen? ⟨go6, (x5_1 : Int).toNat * 3 + 2, none⟩ = false := hfr8 2; clear hcl8 hcc8 hfr8 hM8; replace p8 := eq_true p8; replace q8 := eq_true q8; have HX15 := Aside0.mk (show Kd.R k61 61 w14 w0.heap.size (fun k_ => (P0_ k_ ∨ w.heap.size ≤ k_)) (.slice (some ⟨go6, 0, none⟩) x0_1.length co10) y524 from (zr HO_0)); obtain ⟨ce15, hcl15, hM15, hcc15, hfr15⟩ := Kd.R_elem HX15.out z61 (x5_1 : Int) (of_decide_eq_true za) (by have h_ : (x5_1 : Int) < ((x0_1.length : Int) : Int) := of_decide_eq_true za; first | exact h_ | (have e_ := (Kd.R_reads' HO_0.out).1; omega) | simpa using h_); obtain rfl := k61_openM hM15; have HP15 := Kd.R_seg HX15.out (x5_1 : Int) (of_decide_eq_true za) (by have h_ : (x5_1 : Int) < ((x0_1.length : Int) : Int) := of_decide_eq_true za; first | exact h_ | (have e_ := (Kd.R_reads' HO_0.out).1; omega) | simpa using h_) (seg := [.string t525]) (j := 1) hcl15 hcc15 (show 2 ≤ 3 from by decide) (x' := (⟨(rd_T61 y524 x5_1).f0, t525, (rd_T61 y524 x5_1).f2⟩ : S61)) (k61_mkM _ _ _ (⟨(rd_T61 y524 x5_1).f0, t525, (rd_T61 y524 x5_1).f2⟩ : S61) ) (fun _ hk => hk); have hx15_1 := hcc15 1 _ rfl; (try simp only [show (k61).sz = 3 from rfl, Nat.mul_one, Nat.add_zero] at hx15_1); have hf15_1 := hfr15 1; (try simp only [show (k61).sz = 3 from rfl, Nat.mul_one, Nat.add_zero] at hf15_1); clear hcl15 hcc15 hfr15 hM15) | ((with_reducible refine gate_store (t := 9) (p := 25) rfl ?_); refine store_event (t := 9) (p := 25) (v := ?vo_w16) (w1 := (w14.setCell ⟨go6, (x5_1 : Int).toNat * 3 + 1, none⟩ (.string t525))) ?hg ?ho ?hn ?hr ?_; (case ho => rfl); (case hg => rfl); (case hn => rfl); (case hr => first | (go_simp; done) | (go_simp; rfl)); intro w16 hw; have hg : w14.grownBy w16 (some go6) := (by rw [hw]; exact HP15.2); have hp_ : Kd.R k61 61 w16 w0.heap.size (fun k_ => (P0_ k_ ∨ w.heap.size ≤ k_)) (.slice (some ⟨go6, 0, none⟩) x0_1.length co10) y526 := (by rw [hw, Ny526.out]; exact HP15.1); clear HP15; replace HB := Aside0.mk ((by rw [hw]; exact below_set (HB.out) GB6.out : Below w0.heap.size w0 w16)); replace HK := Aside0.mk (Kept.of_grown (S := (fun k_ => P0_ k_)) hg (by repeat (first | (with_reducible first | exact HK.out | apply Kept.alloc | apply Kept.drewN | apply Kept.drew) | exact HK.out)) (fun k_ e_ => (HO_0.out.1 k_ e_))); replace HO_0 := Aside0.mk (hp_); clear hg hw hp_; have p9 : 0 ≤ (x5_1 : Int) := of_decide_eq_true za; have q9 : (x5_1 : Int) < ((x0_1.length : Int) : Int) := of_decide_eq_true za; obtain ⟨ce9, hcl9, hM9, hcc9, hfr9⟩ := Kd.R_elem HO_0.out z61 (x5_1 : Int) p9 q9; obtain rfl := k61_openM hM9; have hx9_0 : w16.cell? ⟨go6, (x5_1 : Int).toNat * 3, none⟩ = some (.string ((rd_T61 y526 x5_1).f0)) := hcc9 0 _ rfl; have hx9_1 : w16.cell? ⟨go6, (x5_1 : Int).toNat * 3 + 1, none⟩ = some (.string ((rd_T61 y526 x5_1).f1)) := hcc9 1 _ rfl; have hx9_2 : w16.cell? ⟨go6, (x5_1 : Int).toNat * 3 + 2, none⟩ = some (.bool ((rd_T61 y526 x5_1).f2)) := hcc9 2 _ rfl; have hf9_0 : w16.frozen? ⟨go6, (x5_1 : Int).toNat * 3, none⟩ = false := hfr9 0; have hf9_1 : w16.frozen? ⟨go6, (x5_1 : Int).toNat * 3 + 1, none⟩ = false := hfr9 1; have hf9_2 : w16.frozen? ⟨go6, (x5_1 : Int).toNat * 3 + 2, none⟩ = false := hfr9 2; clear hcl9 hcc9 hfr9 hM9; replace p9 := eq_true p9; replace q9 := eq_true q9; have HX17 := Aside0.mk (show Kd.R k61 61 w16 w0.heap.size (fun k_ => (P0_ k_ ∨ w.heap.size ≤ k_)) (.slice (some ⟨go6, 0, none⟩) x0_1.length co10) y526 from (zr HO_0)); obtain ⟨ce17, hcl17, hM17, hcc17, hfr17⟩ := Kd.R_elem HX17.out z61 (x5_1 : Int) (of_decide_eq_true za) (by have h_ : (x5_1 : Int) < ((x0_1.length : Int) : Int) := of_decide_eq_true za; first | exact h_ | (have e_ := (Kd.R_reads' HO_0.out).1; omega) | simpa using h_); obtain rfl := k61_openM hM17; have HP17 := Kd.R_seg HX17.out (x5_1 : Int) (of_decide_eq_true za) (by have h_ : (x5_1 : Int) < ((x0_1.length : Int) : Int) := of_decide_eq_true za; first | exact h_ | (have e_ := (Kd.R_reads' HO_0.out).1; omega) | simpa using h_) (seg := [.bool ((Int.tmod (wrap64 ((wrap64 (x1_1 + 1)) + 1)) 3) == 0)]) (j := 2) hcl17 hcc17 (show 3 ≤ 3 from by decide) (x' := (⟨(rd_T61 y526 x5_1).f0, (rd_T61 y526 x5_1).f1, ((Int.tmod (wrap64 ((wrap64 (x1_1 + 1)) + 1)) 3) == 0)⟩ : S61)) (k61_mkM _ _ _ (⟨(rd_T61 y526 x5_1).f0, (rd_T61 y526 x5_1).f1, ((Int.tmod (wrap64 ((wrap64 (x1_1 + 1)) + 1)) 3) == 0)⟩ : S61) ) (fun _ hk => hk); have hx17_2 := hcc17 2 _ rfl; (try simp only [show (k61).sz = 3 from rfl, Nat.mul_one, Nat.add_zero] at hx17_2); have hf17_2 := hfr17 2; (try simp only [show (k61).sz = 3 from rfl, Nat.mul_one, Nat.add_zero] at hf17_2); clear hcl17 hcc17 hfr17 hM17) | ((with_reducible refine gate_store (t := 4) (p := 34) rfl ?_); refine store_event (t := 4) (p := 34) (v := ?vo_w18) (w1 := (w16.setCell ⟨go6, (x5_1 : Int).toNat * 3 + 2, none⟩ (.bool ((Int.tmod (wrap64 ((wrap64 (x1_1 + 1)) + 1)) 3) == 0)))) ?hg ?ho ?hn ?hr ?_; (case ho => rfl); (case hg => rfl); (case hn => rfl); (case hr => first | (go_simp; done) | (go_simp; rfl)); intro w18 hw; have hg : w16.grownBy w18 (some go6) := (by rw [hw]; exact HP17.2); have hp_ : Kd.R k61 61 w18 w0.heap.size (fun k_ => (P0_ k_ ∨ w.heap.size ≤ k_)) (.slice (some ⟨go6, 0, none⟩) x0_1.length co10) y527 := (by rw [hw, Ny527.out]; exact HP17.1); clear HP17; replace HB := Aside0.mk ((by rw [hw]; exact below_set (HB.out) GB6.out : Below w0.heap.size w0 w18)); replace HK := Aside0.mk (Kept.of_grown (S := (fun k_ => P0_ k_)) hg (by repeat (first | (with_reducible first | exact HK.out | apply Kept.alloc | apply Kept.drewN | apply Kept.drew) | exact HK.out)) (fun k_ e_ => (HO_0.out.1 k_ e_))); replace HO_0 := Aside0.mk (hp_); clear hg hw hp_))
     go_roundg k1
     case measure => have := HK1.out; omega
     case rel => exact ⟨(y527), (wrap64 ((wrap64 ((wrap64 (x1_1 + 1)) + 1)) + 1)), (wrap64 (x5_1 + 1)), zs, zs, H', ⟨by have := HK1.out; omega⟩, ⟨by exact zr HO_0⟩, ⟨by repeat (first | (with_reducible first | exact HK.out | apply Kept.alloc | apply Kept.drewN | apply Kept.drew) | exact HK.out)⟩, ⟨zb HB⟩⟩
    ·rw [if_neg c5] at H
     exact absurd H (by simp)
   ·skip
    have c3b0 := decide_eq_false c3
    clear c3
    simp only [Option.some.injEq, Prod.mk.injEq] at H
    obtain ⟨rfl, rfl⟩ := H
    obtain ⟨Ao19, co19, eo19⟩ := Kd.R_slice HO_0.out
    subst eo19
    go_wp2
    go_ret
    exact ⟨ze, zq (HO_0.out), zb HB, by repeat (first | (with_reducible first | exact HK.out | apply Kept.alloc | apply Kept.drewN | apply Kept.drew) | exact HK.out)⟩

/-! ### laws_markTable: function 30 -/
-- thin
def laws_markTable.f (k : Nat) (l0_0 : List (S61)) (a0_1 : Int) (a1 : Int) : Option (Int × (List (S61))) := (laws_markFieldS.f k l0_0 a1).bind fun bt529 => (some (bt529.1, bt529.2))
theorem laws_markTable.mono : ∀ a0 a1 a2 k, LeO (laws_markTable.f k a0 a1 a2) (laws_markTable.f (k + 1) a0 a1 a2) := by
 intro a0 a1 a2 k
 unfold laws_markTable.f
 have m0 := @laws_markFieldS.mono
 exact zm
set_option maxHeartbeats 8000000 in
set_option maxRecDepth 100000 in
theorem laws_markTable.calls (k : Nat) (P0_0_ : Nat → Prop) (u9000_ : Value) (l0_0 : List (S61)) (a0_1 : Int) (a1 : Int) (r1 : Int) (r2 : List (S61)) (w0 w : World) (hB : Below w0.heap.size w0 w) (ho0_0 : Kd.R k61 61 w w0.heap.size P0_0_ u9000_ l0_0) (h : laws_markTable.f k l0_0 a0_1 a1 = some (r1, r2)) :
  Calls Tryd.prog 30 #[.agg #[u9000_, .int .i64 a0_1], .int .i64 a1] w fun e w' => e = .returned (.int .i64 r1) ∧ Kd.R k61 61 w' w0.heap.size (fun k_ => (P0_0_ k_ ∨ w.heap.size ≤ k_)) u9000_ r2 ∧ Below w0.heap.size w0 w' ∧ Kept w w' (fun k_ => P0_0_ k_) := by
 have hu34 := Tryd.underlying34
 have HO0_0 := Aside0.mk (show Kd.R k61 61 w w0.heap.size (fun k_ => (P0_0_ k_ ∨ w.heap.size ≤ k_)) u9000_ l0_0 from Kd.R_mono ho0_0 (fun k_ hk => (.inl hk)))
 have HK := Aside0.mk (Kept.refl w (fun k_ => P0_0_ k_))
 have HW0 := Aside0.mk hB.size
 have HB := Aside0.mk hB
 clear hB
 have H : ((laws_markFieldS.f k l0_0 a1).bind fun bt529 => (some (bt529.1, bt529.2))) = some (r1, r2) := h
 clear h
 obtain ⟨⟨t529, t530⟩, A3, H⟩ := ob H
 (try dsimp only at H)
 simp only [Option.some.injEq, Prod.mk.injEq] at H
 obtain ⟨rfl, rfl⟩ := H
 obtain ⟨Ao4, co4, eo4⟩ := Kd.R_slice HO0_0.out
 subst eo4
 go_enter Tryd.func30, Tryd.ntmps30
 go_wp2_with (first | ((with_reducible refine gd 2 rfl ?_); refine bx (N := 2) (cs := #[.slice Ao4 l0_0.length co4, .int .i64 a0_1]) (t := 34) ?_; intro gb528 hg w5 hbox hb; replace HO0_0 := Aside0.mk (Kd.R_below (zr HO0_0) hb); have BK528 := Aside0.mk (hbox); have GW528 := Aside0.mk ((by rw [hg]; exact (by first | exact HK.out.1 | exact (show Kept w _ (fun k_ => P0_0_ k_) from by repeat (first | (with_reducible first | exact HK.out | apply Kept.alloc | apply Kept.drewN | apply Kept.drew) | exact HK.out)).1) : w.heap.size ≤ gb528)); replace HK := Aside0.mk (Kept.below (S := (fun k_ => P0_0_ k_)) (by repeat (first | (with_reducible first | exact HK.out | apply Kept.alloc | apply Kept.drewN | apply Kept.drew) | exact HK.out)) hb); have GE528 := Aside0.mk ((by rw [hg]; exact (below_size (zb HB)) : w0.heap.size ≤ gb528)); replace HB := Aside0.mk (below_step (zb HB) hb); clear hb hbox hg; obtain ⟨hcz6_0, hcz6_1, hfz6_0, hfz6_1⟩ := c2 BK528) | ((with_reducible refine gq 65 rfl ?_); refine gl (some 8) Tryd.func65 #[.slice Ao4 l0_0.length co4, .int .i64 a1] ?_; (with_reducible refine (laws_markFieldS.calls k (fun k_ => some k_ = (.slice Ao4 l0_0.length co4 : Value).ownBlock) (.slice Ao4 l0_0.length co4) l0_0 a1 t529 t530 w0 _ ?side1 ?side2 A3.out).mono ?_); (case side1 => exact zb HB); (case side2 => exact Kd.R_tight rfl HO0_0.out); rintro e w7 ⟨rfl, hy0, hb, hkp⟩; refine ⟨_, rfl, ?_⟩; replace BK528 := Aside0.mk (blk_kept (zk BK528) hkp (fun hs_ => (fun e_ => (Kd.R_ne HO0_0.out BK528.out (by decide)) e_) hs_)); replace HK := Aside0.mk (Kept.then_ (S := (fun k_ => P0_0_ k_)) (by repeat (first | (with_reducible first | exact HK.out | apply Kept.alloc | apply Kept.drewN | apply Kept.drew | refine Kept.setCell ?_ (.inr GW528.out) _) | exact HK.out)) hkp (fun k_ hs_ => (fun e_ => (HO0_0.out.1 k_ e_.symm)) hs_)); replace HO0_0 := Aside0.mk (Kd.R_reok rfl hy0 (fun k_ e_ => HO0_0.out.1 k_ e_)); replace HB := Aside0.mk (hb); (try clear hb); (try clear hkp); (try clear hy0)))
 go_ret
 exact ⟨ze, zq (HO0_0.out), zb HB, by repeat (first | (with_reducible first | exact HK.out | apply Kept.alloc | apply Kept.drewN | apply Kept.drew | refine Kept.setCell ?_ (.inr GW528.out) _) | exact HK.out)⟩

-- NOT PRINTED: function 31 (laws_markStreamS)

/-! ### laws_markFrameS: function 32 -/
-- thin
def laws_markFrameS.l0 : Nat → List (S79) → Int → Int → Option (Int × (List (S79)))
 | 0, _, _, _ => none
 | k + 1, x0, x1, x5 => if x5 < (x0.length : Int) then (if 0 ≤ x5 then ((some (x0.set (x5 : Int).toNat (⟨x1, (rd_T79 x0 x5).f1, (rd_T79 x0 x5).f2, (rd_T79 x0 x5).f3⟩ : S79) : List (S79))).bind fun y531 => ((some (y531.set (x5 : Int).toNat (⟨(rd_T79 y531 x5).f0, ((Int.tmod (wrap64 (x1 + 1)) 3) == 0), (rd_T79 y531 x5).f2, (rd_T79 y531 x5).f3⟩ : S79) : List (S79))).bind fun y532 => ((some (y532.set (x5 : Int).toNat (⟨(rd_T79 y532 x5).f0, (rd_T79 y532 x5).f1, wrap64 ((wrap64 (x1 + 1)) + 1), (rd_T79 y532 x5).f3⟩ : S79) : List (S79))).bind fun y533 => ((laws_markText.f k (wrap64 ((wrap64 ((wrap64 (x1 + 1)) + 1)) + 1))).bind fun t534 => (laws_markFrameS.l0 k (y533.set (x5 : Int).toNat (⟨(rd_T79 y533 x5).f0, (rd_T79 y533 x5).f1, (rd_T79 y533 x5).f2, t534⟩ : S79)) (wrap64 ((wrap64 ((wrap64 ((wrap64 (x1 + 1)) + 1)) + 1)) + 1)) (wrap64 (x5 + 1))))))) else (none)) else (some (x1, x0))
def laws_markFrameS.f (k : Nat) (l0 : List (S79)) (a1 : Int) : Option (Int × (List (S79))) := laws_markFrameS.l0 k l0 a1 0
theorem laws_markFrameS.mono_l : ∀ k, (∀ y0 y1 y2, LeO (laws_markFrameS.l0 k y0 y1 y2) (laws_markFrameS.l0 (k + 1) y0 y1 y2))
 | 0 => fun _ _ _ r h => by simp [laws_markFrameS.l0] at h
 | k + 1 => by
  have ih0 := laws_markFrameS.mono_l k
  ·intro y0 y1 y2
   unfold laws_markFrameS.l0
   have m0 := @laws_markText.mono
   exact zm
theorem laws_markFrameS.mono : ∀ a0 a1 k, LeO (laws_markFrameS.f k a0 a1) (laws_markFrameS.f (k + 1) a0 a1) := by
 intro a0 a1 k
 have ih0 := laws_markFrameS.mono_l k
 unfold laws_markFrameS.f
 have m0 := @laws_markText.mono
 exact zm
set_option maxHeartbeats 8000000 in
set_option maxRecDepth 100000 in
theorem laws_markFrameS.calls (k : Nat) (P0_ : Nat → Prop) (u9000_ : Value) (l0 : List (S79)) (a1 : Int) (r1 : Int) (r2 : List (S79)) (w0 w : World) (hB : Below w0.heap.size w0 w) (ho0 : Kd.R k79 79 w w0.heap.size P0_ u9000_ l0) (h : laws_markFrameS.f k l0 a1 = some (r1, r2)) :
  Calls Tryd.prog 32 #[u9000_, .int .i64 a1] w fun e w' => e = .returned (.int .i64 r1) ∧ Kd.R k79 79 w' w0.heap.size (fun k_ => (P0_ k_ ∨ w.heap.size ≤ k_)) u9000_ r2 ∧ Below w0.heap.size w0 w' ∧ Kept w w' (fun k_ => P0_ k_) := by
 have HO0 := Aside0.mk (show Kd.R k79 79 w w0.heap.size (fun k_ => (P0_ k_ ∨ w.heap.size ≤ k_)) u9000_ l0 from Kd.R_mono ho0 (fun k_ hk => (.inl hk)))
 have HK := Aside0.mk (Kept.refl w (fun k_ => P0_ k_))
 have HW0 := Aside0.mk hB.size
 have HB := Aside0.mk hB
 clear hB
 have H : (laws_markFrameS.l0 k l0 a1 0) = some (r1, r2) := h
 clear h
 have H' := Aside0.mk H
 clear H
 go_enter Tryd.func32, Tryd.ntmps32
 go_wp2
 go_loopg [1, 5] k (fun kq v1 v5 w' => ∃ (x0_1 : List (S79)) (x1_1 : Int) (x5_1 : Int), v1 = .int .i64 x1_1 ∧ v5 = .int .i64 x5_1 ∧ Aside0 (laws_markFrameS.l0 kq x0_1 x1_1 x5_1 = some (r1, r2)) ∧ Aside0 (kq ≤ k) ∧ Aside0 (Kd.R k79 79 w' w0.heap.size (fun k_ => (P0_ k_ ∨ w.heap.size ≤ k_)) u9000_ x0_1) ∧ Aside0 (Kept w w' (fun k_ => P0_ k_)) ∧ Aside0 (Below w0.heap.size w0 w'))
 case atStart => exact ⟨(l0), (a1), (0), zs, zs, H', ⟨Nat.le_refl _⟩, ⟨by exact zr HO0⟩, ⟨by repeat (first | (with_reducible first | exact HK.out | apply Kept.alloc | apply Kept.drewN | apply Kept.drew) | exact HK.out)⟩, ⟨zb HB⟩⟩
 case round =>
  clear H'
  try clear p2
  obtain ⟨x0_1, x1_1, x5_1, rfl, rfl, HA, HK1, HO_0, HK, HB⟩ := hrel
  cases gk with
  | zero => exact absurd HA.out (by simp [laws_markFrameS.l0])
  | succ k1 =>
   have H := HA.out
   clear HA
   simp only [laws_markFrameS.l0] at H
   replace H := sp H
   rcases H with ⟨c3, H⟩ | ⟨c3, H⟩
   ·skip
    have c3b0 := decide_eq_true c3
    clear c3
    by_cases c4 : 0 ≤ x5_1
    ·rw [if_pos c4] at H
     have c4b0 := decide_eq_true c4
     clear c4
     obtain ⟨y531, hy531⟩ : ∃ y_ : List (S79), y_ = (x0_1.set (x5_1 : Int).toNat (⟨x1_1, (rd_T79 x0_1 x5_1).f1, (rd_T79 x0_1 x5_1).f2, (rd_T79 x0_1 x5_1).f3⟩ : S79)) := ⟨_, rfl⟩
     replace H : ((some (y531.set (x5_1 : Int).toNat (⟨(rd_T79 y531 x5_1).f0, ((Int.tmod (wrap64 (x1_1 + 1)) 3) == 0), (rd_T79 y531 x5_1).f2, (rd_T79 y531 x5_1).f3⟩ : S79) : List (S79))).bind fun y532 => ((some (y532.set (x5_1 : Int).toNat (⟨(rd_T79 y532 x5_1).f0, (rd_T79 y532 x5_1).f1, wrap64 ((wrap64 (x1_1 + 1)) + 1), (rd_T79 y532 x5_1).f3⟩ : S79) : List (S79))).bind fun y533 => ((laws_markText.f k1 (wrap64 ((wrap64 ((wrap64 (x1_1 + 1)) + 1)) + 1))).bind fun t534 => (laws_markFrameS.l0 k1 (y533.set (x5_1 : Int).toNat (⟨(rd_T79 y533 x5_1).f0, (rd_T79 y533 x5_1).f1, (rd_T79 y533 x5_1).f2, t534⟩ : S79)) (wrap64 ((wrap64 ((wrap64 ((wrap64 (x1_1 + 1)) + 1)) + 1)) + 1)) (wrap64 (x5_1 + 1)))))) = some (r1, r2) := by first | (rw [hy531]; with_reducible exact H) | (have H2_ := (Option.bind_some _ _).symm.trans H; rw [hy531]; with_reducible exact H2_) | (have H2_ := (Option.bind_some _ _).symm.trans H; with_reducible exact H2_) | with_reducible exact H | (rw [hy531]; exact H) | exact H
     have Ny531 := Aside0.mk hy531
     clear hy531
     obtain ⟨y532, hy532⟩ : ∃ y_ : List (S79), y_ = (y531.set (x5_1 : Int).toNat (⟨(rd_T79 y531 x5_1).f0, ((Int.tmod (wrap64 (x1_1 + 1)) 3) == 0), (rd_T79 y531 x5_1).f2, (rd_T79 y531 x5_1).f3⟩ : S79)) := ⟨_, rfl⟩
     replace H : ((some (y532.set (x5_1 : Int).toNat (⟨(rd_T79 y532 x5_1).f0, (rd_T79 y532 x5_1).f1, wrap64 ((wrap64 (x1_1 + 1)) + 1), (rd_T79 y532 x5_1).f3⟩ : S79) : List (S79))).bind fun y533 => ((laws_markText.f k1 (wrap64 ((wrap64 ((wrap64 (x1_1 + 1)) + 1)) + 1))).bind fun t534 => (laws_markFrameS.l0 k1 (y533.set (x5_1 : Int).toNat (⟨(rd_T79 y533 x5_1).f0, (rd_T79 y533 x5_1).f1, (rd_T79 y533 x5_1).f2, t534⟩ : S79)) (wrap64 ((wrap64 ((wrap64 ((wrap64 (x1_1 + 1)) + 1)) + 1)) + 1)) (wrap64 (x5_1 + 1))))) = some (r1, r2) := by first | (rw [hy532]; with_reducible exact H) | (have H2_ := (Option.bind_some _ _).symm.trans H; rw [hy532]; with_reducible exact H2_) | (have H2_ := (Option.bind_some _ _).symm.trans H; with_reducible exact H2_) | with_reducible exact H | (rw [hy532]; exact H) | exact H
     have Ny532 := Aside0.mk hy532
     clear hy532
     obtain ⟨y533, hy533⟩ : ∃ y_ : List (S79), y_ = (y532.set (x5_1 : Int).toNat (⟨(rd_T79 y532 x5_1).f0, (rd_T79 y532 x5_1).f1, wrap64 ((wrap64 (x1_1 + 1)) + 1), (rd_T79 y532 x5_1).f3⟩ : S79)) := ⟨_, rfl⟩
     replace H : ((laws_markText.f k1 (wrap64 ((wrap64 ((wrap64 (x1_1 + 1)) + 1)) + 1))).bind fun t534 => (laws_markFrameS.l0 k1 (y533.set (x5_1 : Int).toNat (⟨(rd_T79 y533 x5_1).f0, (rd_T79 y533 x5_1).f1, (rd_T79 y533 x5_1).f2, t534⟩ : S79)) (wrap64 ((wrap64 ((wrap64 ((wrap64 (x1_1 + 1)) + 1)) + 1)) + 1)) (wrap64 (x5_1 + 1)))) = some (r1, r2) := by first | (rw [hy533]; with_reducible exact H) | (have H2_ := (Option.bind_some _ _).symm.trans H; rw [hy533]; with_reducible exact H2_) | (have H2_ := (Option.bind_some _ _).symm.trans H; with_reducible exact H2_) | with_reducible exact H | (rw [hy533]; exact H) | exact H
     have Ny533 := Aside0.mk hy533
     clear hy533
     obtain ⟨t534, A8, H⟩ := ob H
     (try dsimp only at H)
     obtain ⟨y535, hy535⟩ : ∃ y_ : List (S79), y_ = (y533.set (x5_1 : Int).toNat (⟨(rd_T79 y533 x5_1).f0, (rd_T79 y533 x5_1).f1, (rd_T79 y533 x5_1).f2, t534⟩ : S79)) := ⟨_, rfl⟩
     replace H : (laws_markFrameS.l0 k1 y535 (wrap64 ((wrap64 ((wrap64 ((wrap64 (x1_1 + 1)) + 1)) + 1)) + 1)) (wrap64 (x5_1 + 1))) = some (r1, r2) := by first | (rw [hy535]; with_reducible exact H) | (have H2_ := (Option.bind_some _ _).symm.trans H; rw [hy535]; with_reducible exact H2_) | (have H2_ := (Option.bind_some _ _).symm.trans H; with_reducible exact H2_) | with_reducible exact H | (rw [hy535]; exact H) | exact H
     have Ny535 := Aside0.mk hy535
     clear hy535
     have H' := Aside0.mk H
     clear H
     obtain ⟨Ao10, co10, eo10⟩ := Kd.R_slice HO_0.out
     subst eo10
     have p5 : 0 ≤ (x5_1 : Int) := of_decide_eq_true za
     have q5 : (x5_1 : Int) < ((x0_1.length : Int) : Int) := of_decide_eq_true za
     obtain ⟨go5, co5, eo5, gb5, gl5, cl5, HG5⟩ := Kd.R_form HO_0.out (by omega)
     (first | cases eo5 | (injection eo5 with ea_ en_ ec_; (first | subst ea_ | (injection ea_ with ea_; subst ea_)); subst ec_; clear en_))
     have GB5 := Aside0.mk gb5
     have GG5 := Aside0.mk HG5
     clear gb5 gl5 HG5
     have HMgo5 := Aside0.mk (show (P0_ go5 ∨ w.heap.size ≤ go5) from (HO_0.out.1 _ rfl))
     obtain ⟨ce5, hcl5, hM5, hcc5, hfr5⟩ := Kd.R_elem HO_0.out z79 (x5_1 : Int) p5 q5
     obtain rfl := k79_openM hM5
     have hx5_0 : wr.cell? ⟨go5, (x5_1 : Int).toNat * 4, none⟩ = some (.int .i64 ((rd_T79 x0_1 x5_1).f0)) := hcc5 0 _ rfl
     have hx5_1 : wr.cell? ⟨go5, (x5_1 : Int).toNat * 4 + 1, none⟩ = some (.bool ((rd_T79 x0_1 x5_1).f1)) := hcc5 1 _ rfl
     have hx5_2 : wr.cell? ⟨go5, (x5_1 : Int).toNat * 4 + 2, none⟩ = some (.int .i64 ((rd_T79 x0_1 x5_1).f2)) := hcc5 2 _ rfl
     have hx5_3 : wr.cell? ⟨go5, (x5_1 : Int).toNat * 4 + 3, none⟩ = some (.string ((rd_T79 x0_1 x5_1).f3)) := hcc5 3 _ rfl
     have hf5_0 : wr.frozen? ⟨go5, (x5_1 : Int).toNat * 4, none⟩ = false := hfr5 0
     have hf5_1 : wr.frozen? ⟨go5, (x5_1 : Int).toNat * 4 + 1, none⟩ = false := hfr5 1
     have hf5_2 : wr.frozen? ⟨go5, (x5_1 : Int).toNat * 4 + 2, none⟩ = false := hfr5 2
     have hf5_3 : wr.frozen? ⟨go5, (x5_1 : Int).toNat * 4 + 3, none⟩ = false := hfr5 3
     clear hcl5 hcc5 hfr5 hM5
     replace p5 := eq_true p5
     replace q5 := eq_true q5
     have HX11 := Aside0.mk (show Kd.R k79 79 wr w0.heap.size (fun k_ => (P0_ k_ ∨ w.heap.size ≤ k_)) (.slice (some ⟨go5, 0, none⟩) x0_1.length co10) x0_1 from (zr HO_0))
     obtain ⟨ce11, hcl11, hM11, hcc11, hfr11⟩ := Kd.R_elem HX11.out z79 (x5_1 : Int) (of_decide_eq_true za) (by have h_ : (x5_1 : Int) < ((x0_1.length : Int) : Int) := of_decide_eq_true za; first | exact h_ | (have e_ := (Kd.R_reads' HO_0.out).1; omega) | simpa using h_)
     obtain rfl := k79_openM hM11
     have HP11 := Kd.R_seg HX11.out (x5_1 : Int) (of_decide_eq_true za) (by have h_ : (x5_1 : Int) < ((x0_1.length : Int) : Int) := of_decide_eq_true za; first | exact h_ | (have e_ := (Kd.R_reads' HO_0.out).1; omega) | simpa using h_) (seg := [.int .i64 x1_1]) (j := 0) hcl11 hcc11 (show 1 ≤ 4 from by decide) (x' := (⟨x1_1, (rd_T79 x0_1 x5_1).f1, (rd_T79 x0_1 x5_1).f2, (rd_T79 x0_1 x5_1).f3⟩ : S79)) (k79_mkM _ _ _ (⟨x1_1, (rd_T79 x0_1 x5_1).f1, (rd_T79 x0_1 x5_1).f2, (rd_T79 x0_1 x5_1).f3⟩ : S79) ) (fun _ hk => hk)
     have hx11_0 := hcc11 0 _ rfl
     (try simp only [show (k79).sz = 4 from rfl, Nat.mul_one, Nat.add_zero] at hx11_0)
     have hf11_0 := hfr11 0
     (try simp only [show (k79).sz = 4 from rfl, Nat.mul_one, Nat.add_zero] at hf11_0)
     clear hcl11 hcc11 hfr11 hM11
     go_wp2_with (first | ((with_reducible refine gate_store (t := 3) (p := 16) rfl ?_); refine store_event (t := 3) (p := 16) (v := ?vo_w12) (w1 := (wr.setCell ⟨go5, (x5_1 : Int).toNat * 4, none⟩ (.int .i64 x1_1))) ?hg ?ho ?hn ?hr ?_; (case ho => rfl); (case hg => rfl); (case hn => rfl); (case hr => first | (go_simp; done) | (go_simp; rfl)); intro w12 hw; have hg : wr.grownBy w12 (some go5) := (by rw [hw]; exact HP11.2); have hp_ : Kd.R k79 79 w12 w0.heap.size (fun k_ => (P0_ k_ ∨ w.heap.size ≤ k_)) (.slice (some ⟨go5, 0, none⟩) x0_1.length co10) y531 := (by rw [hw, Ny531.out]; exact HP11.1); clear HP11; replace HB := Aside0.mk ((by rw [hw]; exact below_set (HB.out) GB5.out : Below w0.heap.size w0 w12)); replace HK := Aside0.mk (Kept.of_grown (S := (fun k_ => P0_ k_)) hg (by repeat (first | (with_reducible first | exact HK.out | apply Kept.alloc | apply Kept.drewN | apply Kept.drew) | exact HK.out)) (fun k_ e_ => (HO_0.out.1 k_ e_))); replace HO_0 := Aside0.mk (hp_); clear hg hw hp_; have p6 : 0 ≤ (x5_1 : Int) := of_decide_eq_true za; have q6 : (x5_1 : Int) < ((x0_1.length : Int) : Int) := of_decide_eq_true za; obtain ⟨ce6, hcl6, hM6, hcc6, hfr6⟩ := Kd.R_elem HO_0.out z79 (x5_1 : Int) p6 q6; obtain rfl := k79_openM hM6; have hx6_0 : w12.cell? ⟨go5, (x5_1 : Int).toNat * 4, none⟩ = some (.int .i64 ((rd_T79 y531 x5_1).f0)) := hcc6 0 _ rfl; have hx6_1 : w12.cell? ⟨go5, (x5_1 : Int).toNat * 4 + 1, none⟩ = some (.bool ((rd_T79 y531 x5_1).f1)) := hcc6 1 _ rfl; have hx6_2 : w12.cell? ⟨go5, (x5_1 : Int).toNat * 4 + 2, none⟩ = some (.int .i64 ((rd_T79 y531 x5_1).f2)) := hcc6 2 _ rfl; have hx6_3 : w12.cell? ⟨go5, (x5_1 : Int).toNat * 4 + 3, none⟩ = some (.string ((rd_T79 y531 x5_1).f3)) := hcc6 3 _ rfl; have hf6_0 : w12.frozen? ⟨go5, (x5_1 : Int).toNat * 4, none⟩ = false := hfr6 0; have hf6_1 : w12.frozen? ⟨go5, (x5_1 : Int).toNat * 4 + 1, none⟩ = false := hfr6 1; have hf6_2 : w12.frozen? ⟨go5, (x5_1 : Int).toNat * 4 + 2, none⟩ = false := hfr6 2; have hf6_3 : w12.frozen? ⟨go5, (x5_1 : Int).toNat * 4 + 3, none⟩ = false := hfr6 3; clear hcl6 hcc6 hfr6 hM6; replace p6 := eq_true p6; replace q6 := eq_true q6; have HX13 := Aside0.mk (show Kd.R k79 79 w12 w0.heap.size (fun k_ => (P0_ k_ ∨ w.heap.size ≤ k_)) (.slice (some ⟨go5, 0, none⟩) x0_1.length co10) y531 from (zr HO_0)); obtain ⟨ce13, hcl13, hM13, hcc13, hfr13⟩ := Kd.R_elem HX13.out z79 (x5_1 : Int) (of_decide_eq_true za) (by have h_ : (x5_1 : Int) < ((x0_1.length : Int) : Int) := of_decide_eq_true za; first | exact h_ | (have e_ := (Kd.R_reads' HO_0.out).1; omega) | simpa using h_); obtain rfl := k79_openM hM13; have HP13 := Kd.R_seg HX13.out (x5_1 : Int) (of_decide_eq_true za) (by have h_ : (x5_1 : Int) < ((x0_1.length : Int) : Int) := of_decide_eq_true za; first | exact h_ | (have e_ := (Kd.R_reads' HO_0.out).1; omega) | simpa using h_) (seg := [.bool ((Int.tmod (wrap64 (x1_1 + 1)) 3) == 0)]) (j := 1) hcl13 hcc13 (show 2 ≤ 4 from by decide) (x' := (⟨(rd_T79 y531 x5_1).f0, ((Int.tmod (wrap64 (x1_1 + 1)) 3) == 0), (rd_T79 y531 x5_1).f2, (rd_T79 y531 x5_1).f3⟩ : S79)) (k79_mkM _ _ _ (⟨(rd_T79 y531 x5_1).f0, ((Int.tmod (wrap64 (x1_1 + 1)) 3) == 0), (rd_T79 y531 x5_1).f2, (rd_T79 y531 x5_1).f3⟩ : S79) ) (fun _ hk => hk); have hx13_1 := hcc13 1 _ rfl; (try simp only [show (k79).sz = 4 from rfl, Nat.mul_one, Nat.add_zero] at hx13_1); have hf13_1 := hfr13 1; (try simp only [show (k79).sz = 4 from rfl, Nat.mul_one, Nat.add_zero] at hf13_1); clear hcl13 hcc13 hfr13 hM13) | ((with_reducible refine gate_store (t := 4) (p := 25) rfl ?_); refine store_event (t := 4) (p := 25) (v := ?vo_w14) (w1 := (w12.setCell ⟨go5, (x5_1 : Int).toNat * 4 + 1, none⟩ (.bool ((Int.tmod (wrap64 (x1_1 + 1)) 3) == 0)))) ?hg ?ho ?hn ?hr ?_; (case ho => rfl); (case hg => rfl); (case hn => rfl); (case hr => first | (go_simp; done) | (go_simp; rfl)); intro w14 hw; have hg : w12.grownBy w14 (some go5) := (by rw [hw]; exact HP13.2); have hp_ : Kd.R k79 79 w14 w0.heap.size (fun k_ => (P0_ k_ ∨ w.heap.size ≤ k_)) (.slice (some ⟨go5, 0, none⟩) x0_1.length co10) y532 := (by rw [hw, Ny532.out]; exact HP13.1); clear HP13; replace HB := Aside0.mk ((by rw [hw]; exact below_set (HB.out) GB5.out : Below w0.heap.size w0 w14)); replace HK := Aside0.mk (Kept.of_grown (S := (fun k_ => P0_ k_)) hg (by repeat (first | (with_reducible first | exact HK.out | apply Kept.alloc | apply Kept.drewN | apply Kept.drew) | exact HK.out)) (fun k_ e_ => (HO_0.out.1 k_ e_))); replace HO_0 := Aside0.mk (hp_); clear hg hw hp_; have p7 : 0 ≤ (x5_1 : Int) := of_decide_eq_true za; have q7 : (x5_1 : Int) < ((x0_1.length : Int) : Int) := of_decide_eq_true za; obtain ⟨ce7, hcl7, hM7, hcc7, hfr7⟩ := Kd.R_elem HO_0.out z79 (x5_1 : Int) p7 q7; obtain rfl := k79_openM hM7; have hx7_0 : w14.cell? ⟨go5, (x5_1 : Int).toNat * 4, none⟩ = some (.int .i64 ((rd_T79 y532 x5_1).f0)) := hcc7 0 _ rfl; have hx7_1 : w14.cell? ⟨go5, (x5_1 : Int).toNat * 4 + 1, none⟩ = some (.bool ((rd_T79 y532 x5_1).f1)) := hcc7 1 _ rfl; have hx7_2 : w14.cell? ⟨go5, (x5_1 : Int).toNat * 4 + 2, none⟩ = some (.int .i64 ((rd_T79 y532 x5_1).f2)) := hcc7 2 _ rfl; have hx7_3 : w14.cell? ⟨go5, (x5_1 : Int).toNat * 4 + 3, none⟩ = some (.string ((rd_T79 y532 x5_1).f3)) := hcc7 3 _ rfl; have hf7_0 : w14.frozen? ⟨go5, (x5_1 : Int).toNat * 4, none⟩ = false := hfr7 0; have hf7_1 : w14.frozen? ⟨go5, (x5_1 : Int).toNat * 4 + 1, none⟩ = false := hfr7 1; have hf7_2 : w14.frozen? ⟨go5, (x5_1 : Int).toNat * 4 + 2, none⟩ = false := hfr7 2; have hf7_3 : w14.frozen? ⟨go5, (x5_1 : Int).toNat * 4 + 3, none⟩ = false := hfr7 3; clear hcl7 hcc7 hfr7 hM7; replace p7 := eq_true p7; replace q7 := eq_true q7; have HX15 := Aside0.mk (show Kd.R k79 79 w14 w0.heap.size (fun k_ => (P0_ k_ ∨ w.heap.size ≤ k_)) (.slice (some ⟨go5, 0, none⟩) x0_1.length co10) y532 from (zr HO_0)); obtain ⟨ce15, hcl15, hM15, hcc15, hfr15⟩ := Kd.R_elem HX15.out z79 (x5_1 : Int) (of_decide_eq_true za) (by have h_ : (x5_1 : Int) < ((x0_1.length : Int) : Int) := of_decide_eq_true za; first | exact h_ | (have e_ := (Kd.R_reads' HO_0.out).1; omega) | simpa using h_); obtain rfl := k79_openM hM15; have HP15 := Kd.R_seg HX15.out (x5_1 : Int) (of_decide_eq_true za) (by have h_ : (x5_1 : Int) < ((x0_1.length : Int) : Int) := of_decide_eq_true za; first | exact h_ | (have e_ := (Kd.R_reads' HO_0.out).1; omega) | simpa using h_) (seg := [.int .i64 (wrap64 ((wrap64 (x1_1 + 1)) + 1))]) (j := 2) hcl15 hcc15 (show 3 ≤ 4 from by decide) (x' := (⟨(rd_T79 y532 x5_1).f0, (rd_T79 y532 x5_1).f1, wrap64 ((wrap64 (x1_1 + 1)) + 1), (rd_T79 y532 x5_1).f3⟩ : S79)) (k79_mkM _ _ _ (⟨(rd_T79 y532 x5_1).f0, (rd_T79 y532 x5_1).f1, wrap64 ((wrap64 (x1_1 + 1)) + 1), (rd_T79 y532 x5_1).f3⟩ : S79) ) (fun _ hk => hk); have hx15_2 := hcc15 2 _ rfl; (try simp only [show (k79).sz = 4 from rfl, Nat.mul_one, Nat.add_zero] at hx15_2); have hf15_2 := hfr15 2; (try simp only [show (k79).sz = 4 from rfl, Nat.mul_one, Nat.add_zero] at hf15_2); clear hcl15 hcc15 hfr15 hM15) | ((with_reducible refine gate_store (t := 3) (p := 32) rfl ?_); refine store_event (t := 3) (p := 32) (v := ?vo_w16) (w1 := (w14.setCell ⟨go5, (x5_1 : Int).toNat * 4 + 2, none⟩ (.int .i64 (wrap64 ((wrap64 (x1_1 + 1)) + 1))))) ?hg ?ho ?hn ?hr ?_; (case ho => rfl); (case hg => rfl); (case hn => rfl); (case hr => first | (go_simp; done) | (go_simp; rfl)); intro w16 hw; have hg : w14.grownBy w16 (some go5) := (by rw [hw]; exact HP15.2); have hp_ : Kd.R k79 79 w16 w0.heap.size (fun k_ => (P0_ k_ ∨ w.heap.size ≤ k_)) (.slice (some ⟨go5, 0, none⟩) x0_1.length co10) y533 := (by rw [hw, Ny533.out]; exact HP15.1); clear HP15; replace HB := Aside0.mk ((by rw [hw]; exact below_set (HB.out) GB5.out : Below w0.heap.size w0 w16)); replace HK := Aside0.mk (Kept.of_grown (S := (fun k_ => P0_ k_)) hg (by repeat (first | (with_reducible first | exact HK.out | apply Kept.alloc | apply Kept.drewN | apply Kept.drew) | exact HK.out)) (fun k_ e_ => (HO_0.out.1 k_ e_))); replace HO_0 := Aside0.mk (hp_); clear hg hw hp_) | ((with_reducible refine gq 66 rfl ?_); refine gl (some 38) Tryd.func66 #[.int .i64 (wrap64 ((wrap64 ((wrap64 (x1_1 + 1)) + 1)) + 1))] ?_; (with_reducible refine (laws_markText.calls k1 (wrap64 ((wrap64 ((wrap64 (x1_1 + 1)) + 1)) + 1)) t534 _ A8.out).mono ?_); rintro e w17 ⟨rfl, hb⟩; refine ⟨_, rfl, ?_⟩; replace HO_0 := Aside0.mk (Kd.R_below (zr HO_0) hb); replace HK := Aside0.mk (Kept.below (S := (fun k_ => P0_ k_)) (by repeat (first | (with_reducible first | exact HK.out | apply Kept.alloc | apply Kept.drewN | apply Kept.drew) | exact HK.out)) hb); replace HB := Aside0.mk (below_step (zb HB) hb); (try clear hb); have p9 : 0 ≤ (x5_1 : Int) := of_decide_eq_true za; have q9 : (x5_1 : Int) < ((x0_1.length : Int) : Int) := of_decide_eq_true za; obtain ⟨ce9, hcl9, hM9, hcc9, hfr9⟩ := Kd.R_elem HO_0.out z79 (x5_1 : Int) p9 q9; obtain rfl := k79_openM hM9; have hx9_0 : w17.cell? ⟨go5, (x5_1 : Int).toNat * 4, none⟩ = some (.int .i64 ((rd_T79 y533 x5_1).f0)) := hcc9 0 _ rfl; have hx9_1 : w17.cell? ⟨go5, (x5_1 : Int).toNat * 4 + 1, none⟩ = some (.bool ((rd_T79 y533 x5_1).f1)) := hcc9 1 _ rfl; have hx9_2 : w17.cell? ⟨go5, (x5_1 : Int).toNat * 4 + 2, none⟩ = some (.int .i64 ((rd_T79 y533 x5_1).f2)) := hcc9 2 _ rfl; have hx9_3 : w17.cell? ⟨go5, (x5_1 : Int).toNat * 4 + 3, none⟩ = some (.string ((rd_T79 y533 x5_1).f3)) := hcc9 3 _ rfl; have hf9_0 : w17.frozen? ⟨go5, (x5_1 : Int).toNat * 4, none⟩ = false := hfr9 0; have hf9_1 : w17.frozen? ⟨go5, (x5_1 : Int).toNat * 4 + 1, none⟩ = false := hfr9 1; have hf9_2 : w17.frozen? ⟨go5, (x5_1 : Int).toNat * 4 + 2, none⟩ = false := hfr9 2; have hf9_3 : w17.frozen? ⟨go5, (x5_1 : Int).toNat * 4 + 3, none⟩ = false := hfr9 3; clear hcl9 hcc9 hfr9 hM9; replace p9 := eq_true p9; replace q9 := eq_true q9; have HX18 := Aside0.mk (show Kd.R k79 79 w17 w0.heap.size (fun k_ => (P0_ k_ ∨ w.heap.size ≤ k_)) (.slice (some ⟨go5, 0, none⟩) x0_1.length co10) y533 from (zr HO_0)); obtain ⟨ce18, hcl18, hM18, hcc18, hfr18⟩ := Kd.R_elem HX18.out z79 (x5_1 : Int) (of_decide_eq_true za) (by have h_ : (x5_1 : Int) < ((x0_1.length : Int) : Int) := of_decide_eq_true za; first | exact h_ | (have e_ := (Kd.R_reads' HO_0.out).1; omega) | simpa using h_); obtain rfl := k79_openM hM18; have HP18 := Kd.R_seg HX18.out (x5_1 : Int) (of_decide_eq_true za) (by have h_ : (x5_1 : Int) < ((x0_1.length : Int) : Int) := of_decide_eq_true za; first | exact h_ | (have e_ := (Kd.R_reads' HO_0.out).1; omega) | simpa using h_) (seg := [.string t534]) (j := 3) hcl18 hcc18 (show 4 ≤ 4 from by decide) (x' := (⟨(rd_T79 y533 x5_1).f0, (rd_T79 y533 x5_1).f1, (rd_T79 y533 x5_1).f2, t534⟩ : S79)) (k79_mkM _ _ _ (⟨(rd_T79 y533 x5_1).f0, (rd_T79 y533 x5_1).f1, (rd_T79 y533 x5_1).f2, t534⟩ : S79) ) (fun _ hk => hk); have hx18_3 := hcc18 3 _ rfl; (try simp only [show (k79).sz = 4 from rfl, Nat.mul_one, Nat.add_zero] at hx18_3); have hf18_3 := hfr18 3; (try simp only [show (k79).sz = 4 from rfl, Nat.mul_one, Nat.add_zero] at hf18_3); clear hcl18 hcc18 hfr18 hM18) | ((with_reducible refine gate_store (t := 9) (p := 40) rfl ?_); refine store_event (t := 9) (p := 40) (v := ?vo_w19) (w1 := (w17.setCell ⟨go5, (x5_1 : Int).toNat * 4 + 3, none⟩ (.string t534))) ?hg ?ho ?hn ?hr ?_; (case ho => rfl); (case hg => rfl); (case hn => rfl); (case hr => first | (go_simp; done) | (go_simp; rfl)); intro w19 hw; have hg : w17.grownBy w19 (some go5) := (by rw [hw]; exact HP18.2); have hp_ : Kd.R k79 79 w19 w0.heap.size (fun k_ => (P0_ k_ ∨ w.heap.size ≤ k_)) (.slice (some ⟨go5, 0, none⟩) x0_1.length co10) y535 := (by rw [hw, Ny535.out]; exact HP18.1); clear HP18; replace HB := Aside0.mk ((by rw [hw]; exact below_set (HB.out) GB5.out : Below w0.heap.size w0 w19)); replace HK := Aside0.mk (Kept.of_grown (S := (fun k_ => P0_ k_)) hg (by repeat (first | (with_reducible first | exact HK.out | apply Kept.alloc | apply Kept.drewN | apply Kept.drew) | exact HK.out)) (fun k_ e_ => (HO_0.out.1 k_ e_))); replace HO_0 := Aside0.mk (hp_); clear hg hw hp_))
     go_roundg k1
     case measure => have := HK1.out; omega
     case rel => exact ⟨(y535), (wrap64 ((wrap64 ((wrap64 ((wrap64 (x1_1 + 1)) + 1)) + 1)) + 1)), (wrap64 (x5_1 + 1)), zs, zs, H', ⟨by have := HK1.out; omega⟩, ⟨by exact zr HO_0⟩, ⟨by repeat (first | (with_reducible first | exact HK.out | apply Kept.alloc | apply Kept.drewN | apply Kept.drew) | exact HK.out)⟩, ⟨zb HB⟩⟩
    ·rw [if_neg c4] at H
     exact absurd H (by simp)
   ·skip
    have c3b0 := decide_eq_false c3
    clear c3
    simp only [Option.some.injEq, Prod.mk.injEq] at H
    obtain ⟨rfl, rfl⟩ := H
    obtain ⟨Ao20, co20, eo20⟩ := Kd.R_slice HO_0.out
    subst eo20
    go_wp2
    go_ret
    exact ⟨ze, zq (HO_0.out), zb HB, by repeat (first | (with_reducible first | exact HK.out | apply Kept.alloc | apply Kept.drewN | apply Kept.drew) | exact HK.out)⟩

/-! ### laws_markEnd: function 9 -/
-- by hand
theorem H_step1 {α : Type} {d : Kd α} {e base : Nat} {w w1 : World} {ok oki : Nat → Prop} {v : Value} {xs : List α} {i : Int} {c : List Value} (h : Kd.H d e w base ok v xs i oki c) (hm : ∀ k, ok k → ¬ oki k → k < w.heap.size → w1.heap[k]? = w.heap[k]?) : Kd.H d e w1 base ok v xs i oki c := by
  obtain ⟨ho, f, h⟩ := h
  exact ⟨ho, f, Kd.R_step h (fun k hk hlt => hm k hk.1 hk.2 hlt)⟩
section
variable {w0 w W W' : World} {P oki : Nat → Prop} {g n cap : Nat} {xs : List S58} {i : Int} {c : List Value} {v2 v7 : Value} {f2 f7 r : List S61}
/-- Element i of a row of streams, lent: the row without it, its two rows; all that stays. -/
structure LS (w0 w : World) (P : Nat → Prop) (g n cap : Nat) (xs : List S58) (i : Int) (oki : Nat → Prop) (c : List Value) (v2 v7 : Value) (f2 f7 : List S61) (W : World) : Prop where
  h : Kd.H k58 58 W w0.heap.size (fun k => P k ∨ w.heap.size ≤ k) (.slice (some ⟨g, 0, none⟩) n cap) xs i oki c
  r2 : Kd.R k61 61 W w0.heap.size (fun k => some k = v2.ownBlock) v2 f2
  r7 : Kd.R k61 61 W w0.heap.size (fun k => some k = v7.ownBlock) v7 f7
  hk : Kept w W P
  hb : Below w0.heap.size w0 W
  i0 : 0 ≤ i
  i1 : i < n
  gb : w0.heap.size ≤ g
  gp : P g ∨ w.heap.size ≤ g
  o2 : ∀ k, some k = v2.ownBlock → oki k ∧ k ≠ g
  o7 : ∀ k, some k = v7.ownBlock → oki k ∧ k ≠ g
  op : ∀ k, oki k → P k ∨ w.heap.size ≤ k
  ap : ∀ k, some k = v2.ownBlock → some k ≠ v7.ownBlock
  fz : ∃ cells, W.heap[g]? = some (.cells cells 58 (0, 0))
theorem LS.cell (L : LS w0 w P g n cap xs i oki c v2 v7 f2 f7 W) (j : Nat) (u : Value) (hu : c[j]? = some u) : W.cell? ⟨g, i.toNat * 12 + j, none⟩ = some u := by
  obtain ⟨_, _, _, _, _, hc, _⟩ := Kd.H_raw L.h L.i0 L.i1
  exact hc j u hu
theorem LS.froz (L : LS w0 w P g n cap xs i oki c v2 v7 f2 f7 W) (j : Nat) : W.frozen? ⟨g, j, none⟩ = false := by
  obtain ⟨cells, h⟩ := L.fz
  exact blk_frozen h _
theorem set_seg {c : List Value} {j : Nat} {u : Value} (hj : j < c.length) : c.take j ++ [u] ++ c.drop (j + 1) = c.set j u := by
  rw [List.set_eq_take_append_cons_drop, if_pos hj]; simp
theorem LS.put (L : LS w0 w P g n cap xs i oki c v2 v7 f2 f7 W) (hc : c.length = 12) (j : Nat) (u : Value) (hj : j < 12) (hu : u.oneCell' = true) : LS w0 w P g n cap xs i oki (c.set j u) v2 v7 f2 f7 (W.setCell ⟨g, i.toNat * 12 + j, none⟩ u) := by
  have h1 := Kd.H_seg L.h L.i0 L.i1 (seg := [u]) (j := j) (by show j + 1 ≤ 12; omega) (by intro q hq; rw [List.mem_singleton.1 hq]; exact hu)
  have h2 : W.setCells g (i.toNat * k58.sz + j) [u] = W.setCell ⟨g, i.toNat * 12 + j, none⟩ u := rfl
  rw [h2] at h1
  obtain ⟨h3, h4⟩ := h1
  rw [show j + [u].length = j + 1 from rfl, set_seg (by omega)] at h3
  refine ⟨h3, ?_, ?_, ?_, below_set L.hb L.gb, L.i0, L.i1, L.gb, L.gp, L.o2, L.o7, L.op, L.ap, ?_⟩
  · exact Kd.R_step L.r2 (fun k hk _ => Below.heap_setCell W _ u k (L.o2 k hk).2)
  · exact Kd.R_step L.r7 (fun k hk _ => Below.heap_setCell W _ u k (L.o7 k hk).2)
  · exact Kept.setCell L.hk L.gp u
  · obtain ⟨cells, hh⟩ := L.fz
    exact ⟨_, blk_put hh _ u rfl⟩
theorem LS.below (L : LS w0 w P g n cap xs i oki c v2 v7 f2 f7 W) (hb : Below W.heap.size W W') : LS w0 w P g n cap xs i oki c v2 v7 f2 f7 W' := by
  refine ⟨H_step1 L.h (fun k _ _ hlt => hb.block k hlt), Kd.R_below L.r2 hb, Kd.R_below L.r7 hb, L.hk.below hb, below_step L.hb hb, L.i0, L.i1, L.gb, L.gp, L.o2, L.o7, L.op, L.ap, ?_⟩
  obtain ⟨cells, hh⟩ := L.fz
  exact ⟨_, blk_below hh hb⟩
theorem LS.mark2 (L : LS w0 w P g n cap xs i oki c v2 v7 f2 f7 W) (hr : Kd.R k61 61 W' w0.heap.size (fun k => some k = v2.ownBlock ∨ W.heap.size ≤ k) v2 r) (hb : Below w0.heap.size w0 W') (hk : Kept W W' (fun k => some k = v2.ownBlock)) : LS w0 w P g n cap xs i oki c v2 v7 r f7 W' := by
  refine ⟨H_step1 L.h (fun k _ hn hlt => hk.2 k hlt (fun h => hn (L.o2 k h).1)), Kd.R_tight rfl hr, Kd.R_step L.r7 (fun k h hlt => hk.2 k hlt (fun h2 => L.ap k h2 h)), L.hk.then_ hk (fun k h => L.op k (L.o2 k h).1), hb, L.i0, L.i1, L.gb, L.gp, L.o2, L.o7, L.op, L.ap, ?_⟩
  obtain ⟨cells, hh⟩ := L.fz
  exact ⟨cells, (hk.2 g (blk_lt hh) (fun h => (L.o2 g h).2 rfl)).trans hh⟩
theorem LS.mark7 (L : LS w0 w P g n cap xs i oki c v2 v7 f2 f7 W) (hr : Kd.R k61 61 W' w0.heap.size (fun k => some k = v7.ownBlock ∨ W.heap.size ≤ k) v7 r) (hb : Below w0.heap.size w0 W') (hk : Kept W W' (fun k => some k = v7.ownBlock)) : LS w0 w P g n cap xs i oki c v2 v7 f2 r W' := by
  refine ⟨H_step1 L.h (fun k _ hn hlt => hk.2 k hlt (fun h => hn (L.o7 k h).1)), Kd.R_step L.r2 (fun k h hlt => hk.2 k hlt (fun h2 => L.ap k h h2)), Kd.R_tight rfl hr, L.hk.then_ hk (fun k h => L.op k (L.o7 k h).1), hb, L.i0, L.i1, L.gb, L.gp, L.o2, L.o7, L.op, L.ap, ?_⟩
  obtain ⟨cells, hh⟩ := L.fz
  exact ⟨cells, (hk.2 g (blk_lt hh) (fun h => (L.o7 g h).2 rfl)).trans hh⟩
theorem LS.enter' {v : Value} (hS : Kd.S k58 58 W w0.heap.size (fun k => P k ∨ w.heap.size ≤ k) v xs) (hk : Kept w W P) (hb : Below w0.heap.size w0 W) (i0 : 0 ≤ i) (i1 : i < xs.length) :
    ∃ g cap oki v2 v7, v = .slice (some ⟨g, 0, none⟩) xs.length cap ∧ LS w0 w P g xs.length cap xs i oki [.int .i64 (rd_T58 xs i).f0, .int .i64 (rd_T58 xs i).f1, v2, .string (rd_T58 xs i).f3, .bool (rd_T58 xs i).f4, .bool (rd_T58 xs i).f5, .int .i64 (rd_T58 xs i).f6, v7, .string (rd_T58 xs i).f8, .bool (rd_T58 xs i).f9, .int .i64 (rd_T58 xs i).f10.f0, .int .i64 (rd_T58 xs i).f10.f1] v2 v7 (rd_T58 xs i).f2 (rd_T58 xs i).f7 W := by
  obtain ⟨g, cap, rfl, gb, gl, hh⟩ := Kd.S_form hS (by omega)
  obtain ⟨oki, c, hcl, hM, hcc, hfr, hoki, hH⟩ := Kd.S_elem hS z58 i i0 i1
  have hp := hM.2
  obtain ⟨v2, v7, rfl, h2, h7⟩ := k58_openM hM
  refine ⟨g, cap, oki, v2, v7, rfl, hH, Kd.R_tight rfl h2, Kd.R_tight rfl h7, hk, hb, i0, i1, gb, (Kd.S_R hS).1 g (by simp [Value.ownBlock]), fun k h => ⟨h2.1 k h.symm, (hoki k (h2.1 k h.symm)).2⟩, fun k h => ⟨h7.1 k h.symm, (hoki k (h7.1 k h.symm)).2⟩, fun k h => (hoki k h).1, fun k h h' => hp v2 v7 rfl rfl k h.symm h'.symm, hh⟩
theorem LS.leave (L : LS w0 w P g n cap xs i oki c v2 v7 f2 f7 W) (x' : S58) (e2 : f2 = x'.f2) (e7 : f7 = x'.f7) (ec : c = [.int .i64 x'.f0, .int .i64 x'.f1, v2, .string x'.f3, .bool x'.f4, .bool x'.f5, .int .i64 x'.f6, v7, .string x'.f8, .bool x'.f9, .int .i64 x'.f10.f0, .int .i64 x'.f10.f1]) :
    Kd.S k58 58 W w0.heap.size (fun k => P k ∨ w.heap.size ≤ k) (.slice (some ⟨g, 0, none⟩) n cap) (xs.set i.toNat x') := by
  subst e2 e7 ec
  exact Kd.H_back (okp := oki) L.h (k58_mkM _ _ _ x' (Kd.R_mono L.r2 (fun k h => (L.o2 k h).1)) (Kd.R_mono L.r7 (fun k h => (L.o7 k h).1)) (fun k h h' => L.ap k h.symm h'.symm)) (fun k h => h)
end
def laws_markStreamS.el (x1 : Int) (p : Int × List S61) (say : ByteArray) (q : Int × List S61) (tx : ByteArray) : S58 :=
  ⟨x1, wrap64 (x1 + 1), p.2, say, Int.tmod (wrap64 (p.1 + 1)) 3 == 0, Int.tmod (wrap64 (wrap64 (p.1 + 1) + 1)) 3 == 0, wrap64 (wrap64 (wrap64 (p.1 + 1) + 1) + 1), q.2, tx, Int.tmod (wrap64 (q.1 + 1)) 3 == 0, ⟨wrap64 (wrap64 (q.1 + 1) + 1), wrap64 (wrap64 (wrap64 (q.1 + 1) + 1) + 1)⟩⟩
def laws_markStreamS.l0 : Nat → List S58 → Int → Int → Option (Int × List S58)
  | 0, _, _, _ => none
  | k + 1, x0, x1, x5 => if x5 < (x0.length : Int) then (if 0 ≤ x5 then
      (laws_markFieldS.f k (rd_T58 x0 x5).f2 (wrap64 (wrap64 (x1 + 1) + 1))).bind fun p => (laws_markText.f k p.1).bind fun say =>
      (laws_markFieldS.f k (rd_T58 x0 x5).f7 (wrap64 (wrap64 (wrap64 (wrap64 (p.1 + 1) + 1) + 1) + 1))).bind fun q => (laws_markText.f k q.1).bind fun tx =>
      laws_markStreamS.l0 k (x0.set x5.toNat (laws_markStreamS.el x1 p say q tx)) (wrap64 (wrap64 (wrap64 (wrap64 (q.1 + 1) + 1) + 1) + 1)) (wrap64 (x5 + 1)) else none) else some (x1, x0)
def laws_markStreamS.f (k : Nat) (l0 : List S58) (a1 : Int) : Option (Int × List S58) := laws_markStreamS.l0 k l0 a1 0
theorem laws_markStreamS.mono_l : ∀ k, (∀ y0 y1 y2, LeO (laws_markStreamS.l0 k y0 y1 y2) (laws_markStreamS.l0 (k + 1) y0 y1 y2))
 | 0 => fun _ _ _ r h => by simp [laws_markStreamS.l0] at h
 | k + 1 => by
  have ih0 := laws_markStreamS.mono_l k
  ·intro y0 y1 y2
   unfold laws_markStreamS.l0
   have m0 := @laws_markText.mono
   have m1 := @laws_markFieldS.mono
   exact zm
theorem laws_markStreamS.mono : ∀ a0 a1 k, LeO (laws_markStreamS.f k a0 a1) (laws_markStreamS.f (k + 1) a0 a1) := by
 intro a0 a1 k
 have ih0 := laws_markStreamS.mono_l k
 unfold laws_markStreamS.f
 exact zm
set_option maxHeartbeats 8000000 in
set_option maxRecDepth 100000 in
theorem laws_markStreamS.calls (k : Nat) (P0_ : Nat → Prop) (u9000_ : Value) (l0 : List S58) (a1 : Int) (r1 : Int) (r2 : List S58) (w0 w : World) (hB : Below w0.heap.size w0 w) (ho0 : Kd.S k58 58 w w0.heap.size P0_ u9000_ l0) (h : laws_markStreamS.f k l0 a1 = some (r1, r2)) :
  Calls Tryd.prog 31 #[u9000_, .int .i64 a1] w fun e w' => e = .returned (.int .i64 r1) ∧ Kd.S k58 58 w' w0.heap.size (fun k_ => (P0_ k_ ∨ w.heap.size ≤ k_)) u9000_ r2 ∧ Below w0.heap.size w0 w' ∧ Kept w w' (fun k_ => P0_ k_) := by
 have HO0 := Aside0.mk (show Kd.S k58 58 w w0.heap.size (fun k_ => (P0_ k_ ∨ w.heap.size ≤ k_)) u9000_ l0 from Kd.S_mono ho0 (fun k_ hk => (.inl hk)))
 have HK := Aside0.mk (Kept.refl w (fun k_ => P0_ k_))
 have HB := Aside0.mk hB
 clear hB ho0
 have H' := Aside0.mk (show (laws_markStreamS.l0 k l0 a1 0) = some (r1, r2) from h)
 clear h
 go_enter Tryd.func31, Tryd.ntmps31
 go_wp2
 go_loopg [1, 5] k (fun kq v1 v5 w' => ∃ (x0_1 : List (S58)) (x1_1 : Int) (x5_1 : Int), v1 = .int .i64 x1_1 ∧ v5 = .int .i64 x5_1 ∧ Aside0 (laws_markStreamS.l0 kq x0_1 x1_1 x5_1 = some (r1, r2)) ∧ Aside0 (kq ≤ k) ∧ Aside0 (Kd.S k58 58 w' w0.heap.size (fun k_ => (P0_ k_ ∨ w.heap.size ≤ k_)) u9000_ x0_1) ∧ Aside0 (Kept w w' (fun k_ => P0_ k_)) ∧ Aside0 (Below w0.heap.size w0 w'))
 case atStart => exact ⟨(l0), (a1), (0), zs, zs, H', ⟨Nat.le_refl _⟩, HO0, HK, HB⟩
 case round =>
  clear H' HO0 HK HB
  obtain ⟨x0_1, x1_1, x5_1, rfl, rfl, HA, HK1, HO_0, HK, HB⟩ := hrel
  cases gk with
  | zero => exact absurd HA.out (by simp [laws_markStreamS.l0])
  | succ k1 =>
   have H := HA.out
   clear HA
   simp only [laws_markStreamS.l0] at H
   obtain ⟨Ao10, co10, eo10⟩ := Kd.S_slice HO_0.out
   split at H
   · rename_i c3
     have c3b0 := decide_eq_true c3
     split at H
     case isFalse => cases H
     rename_i c5
     have c5b0 := decide_eq_true c5
     obtain ⟨p, A4, H⟩ := ob H
     obtain ⟨say, A5, H⟩ := ob H
     obtain ⟨q, A6, H⟩ := ob H
     obtain ⟨tx, A7, H⟩ := ob H
     have H' := Aside0.mk H
     clear H
     obtain ⟨go5, cap5, oki, v2, v7, e5, HL⟩ := LS.enter' HO_0.out HK.out HB.out c5 c3
     subst e5
     have HL := Aside0.mk HL
     clear eo10
     have p6 := eq_true c5
     have q6 := eq_true c3
     clear c3 c5
     have hx := HL.out.cell 0 _ rfl
     have hf := HL.out.froz (x5_1.toNat * 12 + 0)
     rw [Nat.add_zero] at hx hf
     go_wp2_with (first | ((with_reducible refine gate_store (t := 3) (p := 16) rfl ?_); refine store_event (t := 3) (p := 16) (v := ?vo_w11) (w1 := wr.setCell ⟨go5, x5_1.toNat * 12, none⟩ (.int .i64 x1_1)) ?hg ?ho ?hn ?hr ?_; (case ho => rfl); (case hg => rfl); (case hn => rfl); (case hr => first | (go_simp; done) | (go_simp; rfl)); intro w11 hw; clear hx hf; replace HL := Aside0.mk (show LS w0 w P0_ go5 x0_1.length cap5 x0_1 x5_1 oki _ v2 v7 _ _ w11 from (by rw [hw]; exact HL.out.put rfl 0 (.int .i64 x1_1) (by decide) rfl)); clear hw; have hx := HL.out.cell 1 _ rfl; have hf := HL.out.froz (x5_1.toNat * 12 + 1)) | ((with_reducible refine gate_store (t := 3) (p := 23) rfl ?_); refine store_event (t := 3) (p := 23) (v := ?vo_w12) (w1 := w11.setCell ⟨go5, x5_1.toNat * 12 + 1, none⟩ (.int .i64 (wrap64 (x1_1 + 1)))) ?hg ?ho ?hn ?hr ?_; (case ho => rfl); (case hg => rfl); (case hn => rfl); (case hr => first | (go_simp; done) | (go_simp; rfl)); intro w12 hw; clear hx hf; replace HL := Aside0.mk (show LS w0 w P0_ go5 x0_1.length cap5 x0_1 x5_1 oki _ v2 v7 _ _ w12 from (by rw [hw]; exact HL.out.put rfl 1 (.int .i64 (wrap64 (x1_1 + 1))) (by decide) rfl)); clear hw; have hx := HL.out.cell 2 _ rfl; have hf := HL.out.froz (x5_1.toNat * 12 + 2)) | ((with_reducible refine gd 32 rfl ?_); refine gl (some 32) Tryd.func65 #[v2, .int .i64 (wrap64 (wrap64 (x1_1 + 1) + 1))] ?_; (refine (laws_markFieldS.calls k1 (fun k_ => some k_ = v2.ownBlock) v2 (rd_T58 x0_1 x5_1).f2 (wrap64 (wrap64 (x1_1 + 1) + 1)) p.1 p.2 w0 _ ?s1 ?s2 A4.out).mono ?_); (case s1 => exact HL.out.hb); (case s2 => exact HL.out.r2); rintro e w13 ⟨rfl, ho, hb, hk⟩; refine ⟨_, rfl, ?_⟩; clear hx hf; replace HL := Aside0.mk (HL.out.mark2 ho hb hk); clear ho hb hk) | ((with_reducible refine gd 36 rfl ?_); refine gl (some 36) Tryd.func66 #[.int .i64 (p.1)] ?_; (with_reducible refine (laws_markText.calls k1 (p.1) say _ A5.out).mono ?_); rintro e w14 ⟨rfl, hb⟩; refine ⟨_, rfl, ?_⟩; replace HL := Aside0.mk (HL.out.below hb); clear hb; have hx := HL.out.cell 3 _ rfl; have hf := HL.out.froz (x5_1.toNat * 12 + 3)) | ((with_reducible refine gate_store (t := 9) (p := 38) rfl ?_); refine store_event (t := 9) (p := 38) (v := ?vo_w15) (w1 := w14.setCell ⟨go5, x5_1.toNat * 12 + 3, none⟩ (.string say)) ?hg ?ho ?hn ?hr ?_; (case ho => rfl); (case hg => rfl); (case hn => rfl); (case hr => first | (go_simp; done) | (go_simp; rfl)); intro w15 hw; clear hx hf; replace HL := Aside0.mk (show LS w0 w P0_ go5 x0_1.length cap5 x0_1 x5_1 oki _ v2 v7 _ _ w15 from (by rw [hw]; exact HL.out.put rfl 3 (.string say) (by decide) rfl)); clear hw; have hx := HL.out.cell 4 _ rfl; have hf := HL.out.froz (x5_1.toNat * 12 + 4)) | ((with_reducible refine gate_store (t := 4) (p := 47) rfl ?_); refine store_event (t := 4) (p := 47) (v := ?vo_w16) (w1 := w15.setCell ⟨go5, x5_1.toNat * 12 + 4, none⟩ (.bool (Int.tmod (wrap64 (p.1 + 1)) 3 == 0))) ?hg ?ho ?hn ?hr ?_; (case ho => rfl); (case hg => rfl); (case hn => rfl); (case hr => first | (go_simp; done) | (go_simp; rfl)); intro w16 hw; clear hx hf; replace HL := Aside0.mk (show LS w0 w P0_ go5 x0_1.length cap5 x0_1 x5_1 oki _ v2 v7 _ _ w16 from (by rw [hw]; exact HL.out.put rfl 4 (.bool (Int.tmod (wrap64 (p.1 + 1)) 3 == 0)) (by decide) rfl)); clear hw; have hx := HL.out.cell 5 _ rfl; have hf := HL.out.froz (x5_1.toNat * 12 + 5)) | ((with_reducible refine gate_store (t := 4) (p := 56) rfl ?_); refine store_event (t := 4) (p := 56) (v := ?vo_w17) (w1 := w16.setCell ⟨go5, x5_1.toNat * 12 + 5, none⟩ (.bool (Int.tmod (wrap64 (wrap64 (p.1 + 1) + 1)) 3 == 0))) ?hg ?ho ?hn ?hr ?_; (case ho => rfl); (case hg => rfl); (case hn => rfl); (case hr => first | (go_simp; done) | (go_simp; rfl)); intro w17 hw; clear hx hf; replace HL := Aside0.mk (show LS w0 w P0_ go5 x0_1.length cap5 x0_1 x5_1 oki _ v2 v7 _ _ w17 from (by rw [hw]; exact HL.out.put rfl 5 (.bool (Int.tmod (wrap64 (wrap64 (p.1 + 1) + 1)) 3 == 0)) (by decide) rfl)); clear hw; have hx := HL.out.cell 6 _ rfl; have hf := HL.out.froz (x5_1.toNat * 12 + 6)) | ((with_reducible refine gate_store (t := 3) (p := 63) rfl ?_); refine store_event (t := 3) (p := 63) (v := ?vo_w18) (w1 := w17.setCell ⟨go5, x5_1.toNat * 12 + 6, none⟩ (.int .i64 (wrap64 (wrap64 (wrap64 (p.1 + 1) + 1) + 1)))) ?hg ?ho ?hn ?hr ?_; (case ho => rfl); (case hg => rfl); (case hn => rfl); (case hr => first | (go_simp; done) | (go_simp; rfl)); intro w18 hw; clear hx hf; replace HL := Aside0.mk (show LS w0 w P0_ go5 x0_1.length cap5 x0_1 x5_1 oki _ v2 v7 _ _ w18 from (by rw [hw]; exact HL.out.put rfl 6 (.int .i64 (wrap64 (wrap64 (wrap64 (p.1 + 1) + 1) + 1))) (by decide) rfl)); clear hw; have hx := HL.out.cell 7 _ rfl; have hf := HL.out.froz (x5_1.toNat * 12 + 7)) | ((with_reducible refine gd 72 rfl ?_); refine gl (some 72) Tryd.func65 #[v7, .int .i64 (wrap64 (wrap64 (wrap64 (wrap64 (p.1 + 1) + 1) + 1) + 1))] ?_; (refine (laws_markFieldS.calls k1 (fun k_ => some k_ = v7.ownBlock) v7 (rd_T58 x0_1 x5_1).f7 (wrap64 (wrap64 (wrap64 (wrap64 (p.1 + 1) + 1) + 1) + 1)) q.1 q.2 w0 _ ?s1 ?s2 A6.out).mono ?_); (case s1 => exact HL.out.hb); (case s2 => exact HL.out.r7); rintro e w19 ⟨rfl, ho, hb, hk⟩; refine ⟨_, rfl, ?_⟩; clear hx hf; replace HL := Aside0.mk (HL.out.mark7 ho hb hk); clear ho hb hk) | ((with_reducible refine gd 76 rfl ?_); refine gl (some 76) Tryd.func66 #[.int .i64 (q.1)] ?_; (with_reducible refine (laws_markText.calls k1 (q.1) tx _ A7.out).mono ?_); rintro e w20 ⟨rfl, hb⟩; refine ⟨_, rfl, ?_⟩; replace HL := Aside0.mk (HL.out.below hb); clear hb; have hx := HL.out.cell 8 _ rfl; have hf := HL.out.froz (x5_1.toNat * 12 + 8)) | ((with_reducible refine gate_store (t := 9) (p := 78) rfl ?_); refine store_event (t := 9) (p := 78) (v := ?vo_w21) (w1 := w20.setCell ⟨go5, x5_1.toNat * 12 + 8, none⟩ (.string tx)) ?hg ?ho ?hn ?hr ?_; (case ho => rfl); (case hg => rfl); (case hn => rfl); (case hr => first | (go_simp; done) | (go_simp; rfl)); intro w21 hw; clear hx hf; replace HL := Aside0.mk (show LS w0 w P0_ go5 x0_1.length cap5 x0_1 x5_1 oki _ v2 v7 _ _ w21 from (by rw [hw]; exact HL.out.put rfl 8 (.string tx) (by decide) rfl)); clear hw; have hx := HL.out.cell 9 _ rfl; have hf := HL.out.froz (x5_1.toNat * 12 + 9)) | ((with_reducible refine gate_store (t := 4) (p := 87) rfl ?_); refine store_event (t := 4) (p := 87) (v := ?vo_w22) (w1 := w21.setCell ⟨go5, x5_1.toNat * 12 + 9, none⟩ (.bool (Int.tmod (wrap64 (q.1 + 1)) 3 == 0))) ?hg ?ho ?hn ?hr ?_; (case ho => rfl); (case hg => rfl); (case hn => rfl); (case hr => first | (go_simp; done) | (go_simp; rfl)); intro w22 hw; clear hx hf; replace HL := Aside0.mk (show LS w0 w P0_ go5 x0_1.length cap5 x0_1 x5_1 oki _ v2 v7 _ _ w22 from (by rw [hw]; exact HL.out.put rfl 9 (.bool (Int.tmod (wrap64 (q.1 + 1)) 3 == 0)) (by decide) rfl)); clear hw; have hx := HL.out.cell 10 _ rfl; have hf := HL.out.froz (x5_1.toNat * 12 + 10)) | ((with_reducible refine gate_store (t := 3) (p := 95) rfl ?_); refine store_event (t := 3) (p := 95) (v := ?vo_w23) (w1 := w22.setCell ⟨go5, x5_1.toNat * 12 + 10, none⟩ (.int .i64 (wrap64 (wrap64 (q.1 + 1) + 1)))) ?hg ?ho ?hn ?hr ?_; (case ho => rfl); (case hg => rfl); (case hn => rfl); (case hr => first | (go_simp; done) | (go_simp; rfl)); intro w23 hw; clear hx hf; replace HL := Aside0.mk (show LS w0 w P0_ go5 x0_1.length cap5 x0_1 x5_1 oki _ v2 v7 _ _ w23 from (by rw [hw]; exact HL.out.put rfl 10 (.int .i64 (wrap64 (wrap64 (q.1 + 1) + 1))) (by decide) rfl)); clear hw; have hx := HL.out.cell 11 _ rfl; have hf := HL.out.froz (x5_1.toNat * 12 + 11)) | ((with_reducible refine gate_store (t := 3) (p := 103) rfl ?_); refine store_event (t := 3) (p := 103) (v := ?vo_w24) (w1 := w23.setCell ⟨go5, x5_1.toNat * 12 + 11, none⟩ (.int .i64 (wrap64 (wrap64 (wrap64 (q.1 + 1) + 1) + 1)))) ?hg ?ho ?hn ?hr ?_; (case ho => rfl); (case hg => rfl); (case hn => rfl); (case hr => first | (go_simp; done) | (go_simp; rfl)); intro w24 hw; clear hx hf; replace HL := Aside0.mk (show LS w0 w P0_ go5 x0_1.length cap5 x0_1 x5_1 oki _ v2 v7 _ _ w24 from (by rw [hw]; exact HL.out.put rfl 11 (.int .i64 (wrap64 (wrap64 (wrap64 (q.1 + 1) + 1) + 1))) (by decide) rfl)); clear hw))
     go_roundg k1
     case measure => have := HK1.out; omega
     case rel => exact ⟨_, _, _, zs, zs, H', ⟨by have := HK1.out; omega⟩, ⟨HL.out.leave (laws_markStreamS.el x1_1 p say q tx) rfl rfl rfl⟩, ⟨HL.out.hk⟩, ⟨HL.out.hb⟩⟩
   · rename_i c3
     have c3b0 := decide_eq_false c3
     clear c3
     simp only [Option.some.injEq, Prod.mk.injEq] at H
     obtain ⟨rfl, rfl⟩ := H
     subst eo10
     go_wp2
     go_ret
     exact ⟨ze, HO_0.out, HB.out, HK.out⟩
section
variable {w w' : World} {b : Nat} {P6 : Nat → Prop} {u1 u3 u6 u9 : Value} {l1 l3 r : List S61} {l6 r6 : List S58} {l9 r9 : List S79}
/-- The four rows of an end, each its own. -/
structure EB (w : World) (b : Nat) (P6 : Nat → Prop) (u1 u3 u6 u9 : Value) (l1 l3 : List S61) (l6 : List S58) (l9 : List S79) : Prop where
  r1 : Kd.R k61 61 w b (fun k => some k = u1.ownBlock) u1 l1
  r3 : Kd.R k61 61 w b (fun k => some k = u3.ownBlock) u3 l3
  s6 : Kd.S k58 58 w b P6 u6 l6
  r9 : Kd.R k79 79 w b (fun k => some k = u9.ownBlock) u9 l9
  a13 : ∀ k, some k = u1.ownBlock → some k ≠ u3.ownBlock
  a16 : ∀ k, P6 k → some k ≠ u1.ownBlock
  a36 : ∀ k, P6 k → some k ≠ u3.ownBlock
  a19 : ∀ k, some k = u1.ownBlock → some k ≠ u9.ownBlock
  a39 : ∀ k, some k = u3.ownBlock → some k ≠ u9.ownBlock
  a69 : ∀ k, P6 k → some k ≠ u9.ownBlock
def EP (P6 : Nat → Prop) (u1 u3 u9 : Value) (k : Nat) : Prop := some k = u1.ownBlock ∨ some k = u3.ownBlock ∨ P6 k ∨ some k = u9.ownBlock
theorem S_step1 {α : Type} {d : Kd α} {e : Nat} {ok : Nat → Prop} {v : Value} {xs : List α} (h : Kd.S d e w b ok v xs) (hm : ∀ k, ok k → k < w.heap.size → w'.heap[k]? = w.heap[k]?) : Kd.S d e w' b ok v xs := by
  obtain ⟨f, h⟩ := h
  exact ⟨f, Kd.R_step h hm⟩
theorem EB.kept (E : EB w b P6 u1 u3 u6 u9 l1 l3 l6 l9) {S : Nat → Prop} (hk : Kept w w' S) (hs : ∀ k, S k → ¬ EP P6 u1 u3 u9 k) : EB w' b P6 u1 u3 u6 u9 l1 l3 l6 l9 :=
  ⟨Kd.R_step E.r1 (fun k h hl => hk.2 k hl (fun h2 => hs k h2 (.inl h))), Kd.R_step E.r3 (fun k h hl => hk.2 k hl (fun h2 => hs k h2 (.inr (.inl h)))), S_step1 E.s6 (fun k h hl => hk.2 k hl (fun h2 => hs k h2 (.inr (.inr (.inl h))))), Kd.R_step E.r9 (fun k h hl => hk.2 k hl (fun h2 => hs k h2 (.inr (.inr (.inr h))))), E.a13, E.a16, E.a36, E.a19, E.a39, E.a69⟩
theorem EB.below (E : EB w b P6 u1 u3 u6 u9 l1 l3 l6 l9) (hb : Below w.heap.size w w') : EB w' b P6 u1 u3 u6 u9 l1 l3 l6 l9 := E.kept (Kept.of_below hb (fun _ => False)) (fun _ h => h.elim)
theorem EB.m1 (E : EB w b P6 u1 u3 u6 u9 l1 l3 l6 l9) (hr : Kd.R k61 61 w' b (fun k => some k = u1.ownBlock ∨ w.heap.size ≤ k) u1 r) (hk : Kept w w' (fun k => some k = u1.ownBlock)) : EB w' b P6 u1 u3 u6 u9 r l3 l6 l9 :=
  ⟨Kd.R_tight rfl hr, Kd.R_step E.r3 (fun k h hl => hk.2 k hl (fun h2 => E.a13 k h2 h)), S_step1 E.s6 (fun k h hl => hk.2 k hl (fun h2 => E.a16 k h h2)), Kd.R_step E.r9 (fun k h hl => hk.2 k hl (fun h2 => E.a19 k h2 h)), E.a13, E.a16, E.a36, E.a19, E.a39, E.a69⟩
theorem EB.m3 (E : EB w b P6 u1 u3 u6 u9 l1 l3 l6 l9) (hr : Kd.R k61 61 w' b (fun k => some k = u3.ownBlock ∨ w.heap.size ≤ k) u3 r) (hk : Kept w w' (fun k => some k = u3.ownBlock)) : EB w' b P6 u1 u3 u6 u9 l1 r l6 l9 :=
  ⟨Kd.R_step E.r1 (fun k h hl => hk.2 k hl (fun h2 => E.a13 k h h2)), Kd.R_tight rfl hr, S_step1 E.s6 (fun k h hl => hk.2 k hl (fun h2 => E.a36 k h h2)), Kd.R_step E.r9 (fun k h hl => hk.2 k hl (fun h2 => E.a39 k h2 h)), E.a13, E.a16, E.a36, E.a19, E.a39, E.a69⟩
theorem EB.m9 (E : EB w b P6 u1 u3 u6 u9 l1 l3 l6 l9) (hr : Kd.R k79 79 w' b (fun k => some k = u9.ownBlock ∨ w.heap.size ≤ k) u9 r9) (hk : Kept w w' (fun k => some k = u9.ownBlock)) : EB w' b P6 u1 u3 u6 u9 l1 l3 l6 r9 :=
  ⟨Kd.R_step E.r1 (fun k h hl => hk.2 k hl (fun h2 => E.a19 k h h2)), Kd.R_step E.r3 (fun k h hl => hk.2 k hl (fun h2 => E.a39 k h h2)), S_step1 E.s6 (fun k h hl => hk.2 k hl (fun h2 => E.a69 k h h2)), Kd.R_tight rfl hr, E.a13, E.a16, E.a36, E.a19, E.a39, E.a69⟩
theorem EB.m6 (E : EB w b P6 u1 u3 u6 u9 l1 l3 l6 l9) {N : Nat} (b1 : ∀ k, u1.ownBlock = some k → k < N) (b3 : ∀ k, u3.ownBlock = some k → k < N) (b9 : ∀ k, u9.ownBlock = some k → k < N) (hN : N ≤ w.heap.size) (hr : Kd.S k58 58 w' b (fun k => P6 k ∨ w.heap.size ≤ k) u6 r6) (hk : Kept w w' P6) : EB w' b (fun k => P6 k ∨ N ≤ k) u1 u3 u6 u9 l1 l3 r6 l9 := by
  refine ⟨Kd.R_step E.r1 (fun k h hl => hk.2 k hl (fun h2 => E.a16 k h2 h)), Kd.R_step E.r3 (fun k h hl => hk.2 k hl (fun h2 => E.a36 k h2 h)), Kd.S_mono hr (fun k h => h.elim .inl (fun h => .inr (by omega))), Kd.R_step E.r9 (fun k h hl => hk.2 k hl (fun h2 => E.a69 k h2 h)), E.a13, ?_, ?_, E.a19, E.a39, ?_⟩
  · exact fun k h h2 => h.elim (fun h => E.a16 k h h2) (fun h => by have := b1 k h2.symm; omega)
  · exact fun k h h2 => h.elim (fun h => E.a36 k h h2) (fun h => by have := b3 k h2.symm; omega)
  · exact fun k h h2 => h.elim (fun h => E.a69 k h h2) (fun h => by have := b9 k h2.symm; omega)
end
def laws_markEnd.f (k : Nat) (l1 : List S61) (a2 : Int) (l3 : List S61) (a4 : Int) (l6 : List S58) (l9 : List S79) (a1 : Int) : Option (Int × List S61 × List S61 × List S58 × List S79) :=
  (laws_markTable.f k l1 a2 a1).bind fun p => (laws_markTable.f k l3 a4 p.1).bind fun q => (laws_markStreamS.f k l6 q.1).bind fun s => (laws_markFrameS.f k l9 s.1).bind fun t => some (t.1, p.2, q.2, s.2, t.2)
theorem laws_markEnd.mono : ∀ a0 a1 a2 a3 a4 a5 a6 k, LeO (laws_markEnd.f k a0 a1 a2 a3 a4 a5 a6) (laws_markEnd.f (k + 1) a0 a1 a2 a3 a4 a5 a6) := by
 intro a0 a1 a2 a3 a4 a5 a6 k
 unfold laws_markEnd.f
 have m0 := @laws_markTable.mono
 have m1 := @laws_markStreamS.mono
 have m2 := @laws_markFrameS.mono
 exact zm
set_option maxHeartbeats 8000000 in
set_option maxRecDepth 100000 in
theorem laws_markEnd.calls (k : Nat) (a0 : Bool) (u1 : Value) (l1 : List S61) (a2 : Int) (u3 : Value) (l3 : List S61) (a4 : Int) (a5 : ByteArray) (P6 : Nat → Prop) (u6 : Value) (l6 : List S58) (a7 a8 : Int) (u9 : Value) (l9 : List S79) (a10 : Bool) (a1 r : Int) (r1 r3 : List S61) (r6 : List S58) (r9 : List S79) (w0 w : World) (hB : Below w0.heap.size w0 w)
    (he : EB w w0.heap.size P6 u1 u3 u6 u9 l1 l3 l6 l9) (hlt : ∀ k, P6 k → k < w.heap.size) (h : laws_markEnd.f k l1 a2 l3 a4 l6 l9 a1 = some (r, r1, r3, r6, r9)) :
    Calls Tryd.prog 9 #[.agg #[.bool a0, u1, .int .i64 a2, u3, .int .i64 a4, .string a5, u6, .int .i64 a7, .int .i64 a8, u9, .bool a10], .int .i64 a1] w fun e w' => e = .returned (.int .i64 r) ∧ EB w' w0.heap.size (fun k => P6 k ∨ w.heap.size ≤ k) u1 u3 u6 u9 r1 r3 r6 r9 ∧ Below w0.heap.size w0 w' ∧ Kept w w' (EP P6 u1 u3 u9) := by
  have H := h
  unfold laws_markEnd.f at H
  obtain ⟨p, A1, H⟩ := ob H
  obtain ⟨q, A2, H⟩ := ob H
  obtain ⟨s, A3, H⟩ := ob H
  obtain ⟨t, A4, H⟩ := ob H
  simp only [Option.some.injEq, Prod.mk.injEq] at H
  obtain ⟨rfl, rfl, rfl, rfl, rfl⟩ := H
  clear h
  have HE := Aside0.mk he
  have HB := Aside0.mk hB
  have HW := Aside0.mk (Nat.le_refl w.heap.size)
  have HK := Aside0.mk (Kept.refl w (EP P6 u1 u3 u9))
  have o1 : u1.oneCell' = true := by obtain ⟨A, c, rfl⟩ := Kd.R_slice he.r1; rfl
  have o3 : u3.oneCell' = true := by obtain ⟨A, c, rfl⟩ := Kd.R_slice he.r3; rfl
  have o6 : u6.oneCell' = true := by obtain ⟨A, c, rfl⟩ := Kd.S_slice he.s6; rfl
  have o9 : u9.oneCell' = true := by obtain ⟨A, c, rfl⟩ := Kd.R_slice he.r9; rfl
  have b1 := Kd.R_lt he.r1
  have b3 := Kd.R_lt he.r3
  have b9 := Kd.R_lt he.r9
  clear he hB
  have hu42 := Tryd.underlying39
  have hu25 := Tryd.underlying34
  have hu37 := Tryd.underlying35
  have hu40 := Tryd.underlying37
  go_enter Tryd.func9, Tryd.ntmps9
  go_wp2_with (first | ((with_reducible refine gd 2 rfl ?_); refine bx (N := 2) (cs := #[.bool a0, u1, .int .i64 a2, u3, .int .i64 a4, .string a5, u6, .int .i64 a7, .int .i64 a8, u9, .bool a10]) (t := 39) ?_; intro g hg w3 hbox hb; have BK := Aside0.mk hbox; replace HE := Aside0.mk (HE.out.below hb); replace HK := Aside0.mk (HK.out.below hb); have GW := Aside0.mk hg; have HS := Aside0.mk hb.size; replace HB := Aside0.mk (below_step (zb HB) hb); clear hb hbox hg; have hx1 := (blk_cell BK.out 1).trans rfl; have hx2 := (blk_cell BK.out 2).trans rfl; have hx3 := (blk_cell BK.out 3).trans rfl; have hx4 := (blk_cell BK.out 4).trans rfl; have hx6 := (blk_cell BK.out 6).trans rfl; have hx9 := (blk_cell BK.out 9).trans rfl) | ((with_reducible refine gd 8 rfl ?_); refine gl (some 8) Tryd.func30 #[.agg #[u1, .int .i64 a2], .int .i64 a1] ?_; (refine (laws_markTable.calls k (fun k_ => some k_ = u1.ownBlock) u1 l1 a2 a1 p.1 p.2 w0 _ ?s1 ?s2 A1.out).mono ?_); (case s1 => exact HB.out); (case s2 => exact HE.out.r1); rintro e w4 ⟨rfl, ho, hb, hk⟩; refine ⟨_, rfl, ?_⟩; clear hx1 hx2 hx3 hx4 hx6 hx9; have NE := Kd.R_ne HE.out.r1 BK.out (by decide); replace BK := Aside0.mk (blk_kept BK.out hk NE); clear NE; replace HE := Aside0.mk (HE.out.m1 ho hk); replace HK := Aside0.mk (HK.out.then_ hk (fun k_ h_ => .inl (.inl h_))); replace HB := Aside0.mk hb; clear ho hb hk; have hx1 := (blk_cell BK.out 1).trans rfl; have hx2 := (blk_cell BK.out 2).trans rfl; have hx3 := (blk_cell BK.out 3).trans rfl; have hx4 := (blk_cell BK.out 4).trans rfl; have hx6 := (blk_cell BK.out 6).trans rfl; have hx9 := (blk_cell BK.out 9).trans rfl) | ((with_reducible refine gd 12 rfl ?_); refine gl (some 12) Tryd.func30 #[.agg #[u3, .int .i64 a4], .int .i64 p.1] ?_; (refine (laws_markTable.calls k (fun k_ => some k_ = u3.ownBlock) u3 l3 a4 p.1 q.1 q.2 w0 _ ?s1 ?s2 A2.out).mono ?_); (case s1 => exact HB.out); (case s2 => exact HE.out.r3); rintro e w5 ⟨rfl, ho, hb, hk⟩; refine ⟨_, rfl, ?_⟩; clear hx1 hx2 hx3 hx4 hx6 hx9; have NE := Kd.R_ne HE.out.r3 BK.out (by decide); replace BK := Aside0.mk (blk_kept BK.out hk NE); clear NE; replace HE := Aside0.mk (HE.out.m3 ho hk); replace HK := Aside0.mk (HK.out.then_ hk (fun k_ h_ => .inl (.inr (.inl h_)))); replace HB := Aside0.mk hb; clear ho hb hk; have hx1 := (blk_cell BK.out 1).trans rfl; have hx2 := (blk_cell BK.out 2).trans rfl; have hx3 := (blk_cell BK.out 3).trans rfl; have hx4 := (blk_cell BK.out 4).trans rfl; have hx6 := (blk_cell BK.out 6).trans rfl; have hx9 := (blk_cell BK.out 9).trans rfl) | ((with_reducible refine gd 16 rfl ?_); refine gl (some 16) Tryd.func31 #[u6, .int .i64 q.1] ?_; (refine (laws_markStreamS.calls k P6 u6 l6 q.1 s.1 s.2 w0 _ ?s1 ?s2 A3.out).mono ?_); (case s1 => exact HB.out); (case s2 => exact HE.out.s6); rintro e w6 ⟨rfl, ho, hb, hk⟩; refine ⟨_, rfl, ?_⟩; clear hx1 hx2 hx3 hx4 hx6 hx9; replace BK := Aside0.mk (blk_kept BK.out hk (fun h_ => by have := hlt _ h_; have := GW.out; omega)); replace HE := Aside0.mk (HE.out.m6 b1 b3 b9 HK.out.1 ho hk); replace HK := Aside0.mk (HK.out.then_ hk (fun k_ h_ => .inl (.inr (.inr (.inl h_))))); replace HB := Aside0.mk hb; clear ho hb hk; have hx1 := (blk_cell BK.out 1).trans rfl; have hx2 := (blk_cell BK.out 2).trans rfl; have hx3 := (blk_cell BK.out 3).trans rfl; have hx4 := (blk_cell BK.out 4).trans rfl; have hx6 := (blk_cell BK.out 6).trans rfl; have hx9 := (blk_cell BK.out 9).trans rfl) | ((with_reducible refine gd 20 rfl ?_); refine gl (some 20) Tryd.func32 #[u9, .int .i64 s.1] ?_; (refine (laws_markFrameS.calls k (fun k_ => some k_ = u9.ownBlock) u9 l9 s.1 t.1 t.2 w0 _ ?s1 ?s2 A4.out).mono ?_); (case s1 => exact HB.out); (case s2 => exact HE.out.r9); rintro e w7 ⟨rfl, ho, hb, hk⟩; refine ⟨_, rfl, ?_⟩; clear hx1 hx2 hx3 hx4 hx6 hx9; replace HE := Aside0.mk (HE.out.m9 ho hk); replace HK := Aside0.mk (HK.out.then_ hk (fun k_ h_ => .inl (.inr (.inr (.inr h_))))); replace HB := Aside0.mk hb; clear ho hb hk BK))
  go_ret
  exact ⟨rfl, HE.out, HB.out, HK.out⟩

end Go.Proofs.YtlpibelofcabhaaDoor.PFnExactEndCall
