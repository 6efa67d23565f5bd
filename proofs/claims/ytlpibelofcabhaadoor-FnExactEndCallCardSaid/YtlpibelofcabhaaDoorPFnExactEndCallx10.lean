-- WRITTEN BY a turned print (wip/tools of the prover's repo)
import Derived.Test.YtlpibelofcabhaaDoorPFnExactEndCallx0
import Derived.Test.YtlpibelofcabhaaDoorPFnExactEndCallx9
namespace Go.Proofs.YtlpibelofcabhaaDoor.PFnExactEndCall
open Go.RowKit Go.Proofs.YtlpibelofcabhaaDoorW.PrintWords Go.Proofs.YtlpibelofcabhaaDoorW.PrintLast Go.Proofs.YtlpibelofcabhaaDoorW.PrintMore Go.Proofs.YtlpibelofcabhaaDoor.Lm
attribute [local go_sem] max2_int min2_int max_two min_two max_three min_three max_four min_four   -- for this text's walks alone
set_option linter.unusedVariables false
set_option linter.unusedSimpArgs false

/-! ### laws_eqTable: function 26 -/
-- thin
def laws_eqTable.f (k : Nat) (l0_0 : List (S61)) (a0_1 : Int) (l1_0 : List (S61)) (a1_1 : Int) : Option (Bool) := (laws_eqFieldS.f k l0_0 l1_0).bind fun t497 => (if t497 = true then (if a0_1 = a1_1 then (some true) else (some false)) else (some false))
theorem laws_eqTable.mono : ∀ a0 a1 a2 a3 k, LeO (laws_eqTable.f k a0 a1 a2 a3) (laws_eqTable.f (k + 1) a0 a1 a2 a3) := by
 intro a0 a1 a2 a3 k
 unfold laws_eqTable.f
 have m0 := @laws_eqFieldS.mono
 exact zm
set_option maxHeartbeats 8000000 in
set_option maxRecDepth 100000 in
theorem laws_eqTable.calls (k : Nat) (A0_0 : Option Addr) (c0_0 : Nat) (l0_0 : List (S61)) (a0_1 : Int) (A1_0 : Option Addr) (c1_0 : Nat) (l1_0 : List (S61)) (a1_1 : Int) (r : Bool) (w : World) (hr0_0 : Kd.C k61 w A0_0 l0_0.length l0_0) (hc0_0 : l0_0.length ≤ c0_0) (hr1_0 : Kd.C k61 w A1_0 l1_0.length l1_0) (hc1_0 : l1_0.length ≤ c1_0) (h : laws_eqTable.f k l0_0 a0_1 l1_0 a1_1 = some r) :
  Calls Tryd.prog 26 #[.agg #[.slice A0_0 l0_0.length c0_0, .int .i64 a0_1], .agg #[.slice A1_0 l1_0.length c1_0, .int .i64 a1_1]] w fun e w' => e = .returned (.bool r) ∧ Below w.heap.size w w' := by
 have hu34 := Tryd.underlying34
 have HR0_0 := Aside0.mk hr0_0
 have HC0_0 := Aside0.mk hc0_0
 clear hr0_0 hc0_0
 have HR1_0 := Aside0.mk hr1_0
 have HC1_0 := Aside0.mk hc1_0
 clear hr1_0 hc1_0
 have HB := Aside0.mk (Below.refl w.heap.size w)
 have H : ((laws_eqFieldS.f k l0_0 l1_0).bind fun t497 => (if t497 = true then (if a0_1 = a1_1 then (some true) else (some false)) else (some false))) = some r := h
 clear h
 obtain ⟨t497, A3, H⟩ := ob H
 (try dsimp only at H)
 have HC4 := Aside0.mk H
 clear H
 go_enter Tryd.func26, Tryd.ntmps26
 go_upto_if 10 with (first | ((with_reducible refine gd 2 rfl ?_); refine bx (N := 2) (cs := #[.slice A0_0 l0_0.length c0_0, .int .i64 a0_1]) (t := 34) ?_; intro gb495 hg w5 hbox hb; have BK495 := Aside0.mk (hbox); have GW495 := gw HB hg; have GE495 := GW495; replace HB := Aside0.mk (below_step (zb HB) hb); clear hb hbox hg) | ((with_reducible refine gd 3 rfl ?_); refine bx (N := 3) (cs := #[.slice A1_0 l1_0.length c1_0, .int .i64 a1_1]) (t := 34) ?_; intro gb496 hg w6 hbox hb; have BK496 := Aside0.mk (hbox); have GW496 := gw HB hg; have GE496 := GW496; replace HB := Aside0.mk (below_step (zb HB) hb); obtain ⟨NB495_496, NB496_495⟩ := nb BK495 hg; replace BK495 := kb BK495 hb; clear hb hbox hg; have hnb7 := NB495_496.out; have hnc7 := NB496_495.out; obtain ⟨hcz8_0, hcz8_1, hfz8_0, hfz8_1⟩ := c2 BK495; obtain ⟨hcz9_0, hcz9_1, hfz9_0, hfz9_1⟩ := c2 BK496) | ((with_reducible refine gq 62 rfl ?_); refine gl (some 9) Tryd.func62 #[.slice A0_0 l0_0.length c0_0, .slice A1_0 l1_0.length c1_0] ?_; (with_reducible refine (laws_eqFieldS.calls k _ _ l0_0 _ _ l1_0 t497 _ ?side1 ?side2 ?side3 ?side4 A3.out).mono ?_); (case side1 => exact zc (Kd.C_below HR0_0.out HB.out)); (case side2 => exact HC0_0.out); (case side3 => exact zc (Kd.C_below HR1_0.out HB.out)); (case side4 => exact HC1_0.out); rintro e w10 ⟨rfl, hb⟩; refine ⟨_, rfl, ?_⟩; replace BK495 := kb BK495 hb; replace BK496 := kb BK496 hb; replace HB := Aside0.mk (below_step (zb HB) hb); (try clear hb)))
 (try simp only [Act.put, s1, s2, s3])
 have H := HC4.out
 clear HC4
 by_cases c11 : t497 = true
 ·subst c11
  rw [if_pos rfl] at H
  replace H := sp H
  rcases H with ⟨c12, H⟩ | ⟨c12, H⟩
  ·skip
   have c12b0 : (a0_1 == a1_1) = true := beq_iff_eq.mpr c12
   have c12b1 : (a0_1 != a1_1) = false := bne_eq_false_iff_eq.mpr c12
   clear c12
   (first | rw [c12b0] | rw [c12b1] | rw [c12b2] | (simp only [i64_w, i32_w]; rw [c12b0]) | skip)
   obtain rfl := Option.some.inj H
   have hnb13 := NB495_496.out
   have hnc13 := NB496_495.out
   obtain ⟨hcz14_0, hcz14_1, hfz14_0, hfz14_1⟩ := c2 BK495
   obtain ⟨hcz15_0, hcz15_1, hfz15_0, hfz15_1⟩ := c2 BK496
   go_wp2
   go_ret
   exact ⟨ze, zb HB⟩
  ·skip
   have c12b0 : (a0_1 == a1_1) = false := beq_eq_false_iff_ne.mpr c12
   have c12b1 : (a0_1 != a1_1) = true := bne_iff_ne.mpr c12
   (first | rw [c12b0] | rw [c12b1] | rw [c12b2] | (simp only [i64_w, i32_w]; rw [c12b0]) | skip)
   obtain rfl := Option.some.inj H
   have hnb16 := NB495_496.out
   have hnc16 := NB496_495.out
   obtain ⟨hcz17_0, hcz17_1, hfz17_0, hfz17_1⟩ := c2 BK495
   obtain ⟨hcz18_0, hcz18_1, hfz18_0, hfz18_1⟩ := c2 BK496
   go_wp2
   go_ret
   exact ⟨ze, zb HB⟩
 ·replace c11 := Bool.eq_false_iff.mpr c11
  subst c11
  rw [if_neg (show ¬ (false = true) by decide)] at H
  obtain rfl := Option.some.inj H
  go_wp2
  go_ret
  exact ⟨ze, zb HB⟩

/-! ### laws_eqFlow: function 28 -/
-- thin
def laws_eqFlow.f (a0_0 : Int) (a0_1 : Int) (a1_0 : Int) (a1_1 : Int) : Option (Bool) := if a0_0 = a1_0 then (if a0_1 = a1_1 then (some true) else (some false)) else (some false)
set_option maxHeartbeats 8000000 in
set_option maxRecDepth 100000 in
theorem laws_eqFlow.calls (a0_0 : Int) (a0_1 : Int) (a1_0 : Int) (a1_1 : Int) (r : Bool) (w : World) (h : laws_eqFlow.f a0_0 a0_1 a1_0 a1_1 = some r) :
  Calls Tryd.prog 28 #[.agg #[.int .i64 a0_0, .int .i64 a0_1], .agg #[.int .i64 a1_0, .int .i64 a1_1]] w fun e w' => e = .returned (.bool r) ∧ Below w.heap.size w w' := by
 have hu36 := Tryd.underlying36
 have HB := Aside0.mk (Below.refl w.heap.size w)
 have H : (if a0_0 = a1_0 then (if a0_1 = a1_1 then (some true) else (some false)) else (some false)) = some r := h
 clear h
 have HC3 := Aside0.mk H
 clear H
 go_enter Tryd.func28, Tryd.ntmps28
 go_upto_if 9 with (first | ((with_reducible refine gd 2 rfl ?_); refine bx (N := 2) (cs := #[.int .i64 a0_0, .int .i64 a0_1]) (t := 36) ?_; intro gb498 hg w4 hbox hb; have BK498 := Aside0.mk (hbox); have GW498 := gw HB hg; have GE498 := GW498; replace HB := Aside0.mk (below_step (zb HB) hb); clear hb hbox hg) | ((with_reducible refine gd 3 rfl ?_); refine bx (N := 3) (cs := #[.int .i64 a1_0, .int .i64 a1_1]) (t := 36) ?_; intro gb499 hg w5 hbox hb; have BK499 := Aside0.mk (hbox); have GW499 := gw HB hg; have GE499 := GW499; replace HB := Aside0.mk (below_step (zb HB) hb); obtain ⟨NB498_499, NB499_498⟩ := nb BK498 hg; replace BK498 := kb BK498 hb; clear hb hbox hg; have hnb6 := NB498_499.out; have hnc6 := NB499_498.out; obtain ⟨hcz7_0, hcz7_1, hfz7_0, hfz7_1⟩ := c2 BK498; obtain ⟨hcz8_0, hcz8_1, hfz8_0, hfz8_1⟩ := c2 BK499))
 (try simp only [Act.put, s1, s2, s3])
 have H := HC3.out
 clear HC3
 replace H := sp H
 rcases H with ⟨c9, H⟩ | ⟨c9, H⟩
 ·skip
  have c9b0 : (a0_0 == a1_0) = true := beq_iff_eq.mpr c9
  have c9b1 : (a0_0 != a1_0) = false := bne_eq_false_iff_eq.mpr c9
  clear c9
  (first | rw [c9b0] | rw [c9b1] | rw [c9b2] | (simp only [i64_w, i32_w]; rw [c9b0]) | skip)
  by_cases c10 : a0_1 = a1_1
  ·rw [if_pos c10] at H
   have c10b0 : (a0_1 == a1_1) = true := beq_iff_eq.mpr c10
   have c10b1 : (a0_1 != a1_1) = false := bne_eq_false_iff_eq.mpr c10
   clear c10
   obtain rfl := Option.some.inj H
   have hnb11 := NB498_499.out
   have hnc11 := NB499_498.out
   obtain ⟨hcz12_0, hcz12_1, hfz12_0, hfz12_1⟩ := c2 BK498
   obtain ⟨hcz13_0, hcz13_1, hfz13_0, hfz13_1⟩ := c2 BK499
   go_wp2
   go_ret
   exact ⟨ze, zb HB⟩
  ·rw [if_neg c10] at H
   have c10b0 : (a0_1 == a1_1) = false := beq_eq_false_iff_ne.mpr c10
   have c10b1 : (a0_1 != a1_1) = true := bne_iff_ne.mpr c10
   obtain rfl := Option.some.inj H
   have hnb14 := NB498_499.out
   have hnc14 := NB499_498.out
   obtain ⟨hcz15_0, hcz15_1, hfz15_0, hfz15_1⟩ := c2 BK498
   obtain ⟨hcz16_0, hcz16_1, hfz16_0, hfz16_1⟩ := c2 BK499
   go_wp2
   go_ret
   exact ⟨ze, zb HB⟩
 ·skip
  have c9b0 : (a0_0 == a1_0) = false := beq_eq_false_iff_ne.mpr c9
  have c9b1 : (a0_0 != a1_0) = true := bne_iff_ne.mpr c9
  (first | rw [c9b0] | rw [c9b1] | rw [c9b2] | (simp only [i64_w, i32_w]; rw [c9b0]) | skip)
  obtain rfl := Option.some.inj H
  go_wp2
  go_ret
  exact ⟨ze, zb HB⟩

/-! ### laws_eqStream: function 63 -/
-- thin
def laws_eqStream.f (k : Nat) (a0_0 : Int) (a0_1 : Int) (l0_2 : List (S61)) (a0_3 : ByteArray) (a0_4 : Bool) (a0_5 : Bool) (a0_6 : Int) (l0_7 : List (S61)) (a0_8 : ByteArray) (a0_9 : Bool) (a0_10 : Int) (a0_11 : Int) (a1_0 : Int) (a1_1 : Int) (l1_2 : List (S61)) (a1_3 : ByteArray) (a1_4 : Bool) (a1_5 : Bool) (a1_6 : Int) (l1_7 : List (S61)) (a1_8 : ByteArray) (a1_9 : Bool) (a1_10 : Int) (a1_11 : Int) : Option (Bool) := if a0_0 = a1_0 then (if a0_1 = a1_1 then ((laws_eqFieldS.f k l0_2 l1_2).bind fun t502 => (if t502 = true then (if a0_3.toList = a1_3.toList then (if (a0_4 != a1_4) = true then (some false) else (if (a0_5 != a1_5) = true then (some false) else (if a0_6 = a1_6 then ((laws_eqFieldS.f k l0_7 l1_7).bind fun t503 => (if t503 = true then (if a0_8.toList = a1_8.toList then (if (a0_9 != a1_9) = true then (some false) else ((laws_eqFlow.f a0_10 a0_11 a1_10 a1_11).bind fun t504 => (if t504 = true then (some true) else (some false)))) else (some false)) else (some false))) else (some false)))) else (some false)) else (some false))) else (some false)) else (some false)
theorem laws_eqStream.mono : ∀ a0 a1 a2 a3 a4 a5 a6 a7 a8 a9 a10 a11 a12 a13 a14 a15 a16 a17 a18 a19 a20 a21 a22 a23 k, LeO (laws_eqStream.f k a0 a1 a2 a3 a4 a5 a6 a7 a8 a9 a10 a11 a12 a13 a14 a15 a16 a17 a18 a19 a20 a21 a22 a23) (laws_eqStream.f (k + 1) a0 a1 a2 a3 a4 a5 a6 a7 a8 a9 a10 a11 a12 a13 a14 a15 a16 a17 a18 a19 a20 a21 a22 a23) := by
 intro a0 a1 a2 a3 a4 a5 a6 a7 a8 a9 a10 a11 a12 a13 a14 a15 a16 a17 a18 a19 a20 a21 a22 a23 k
 unfold laws_eqStream.f
 have m0 := @laws_eqFieldS.mono
 exact zm
set_option maxHeartbeats 8000000 in
set_option maxRecDepth 100000 in
theorem laws_eqStream.calls (k : Nat) (a0_0 : Int) (a0_1 : Int) (A0_2 : Option Addr) (c0_2 : Nat) (l0_2 : List (S61)) (a0_3 : ByteArray) (a0_4 : Bool) (a0_5 : Bool) (a0_6 : Int) (A0_7 : Option Addr) (c0_7 : Nat) (l0_7 : List (S61)) (a0_8 : ByteArray) (a0_9 : Bool) (a0_10 : Int) (a0_11 : Int) (a1_0 : Int) (a1_1 : Int) (A1_2 : Option Addr) (c1_2 : Nat) (l1_2 : List (S61)) (a1_3 : ByteArray) (a1_4 : Bool) (a1_5 : Bool) (a1_6 : Int) (A1_7 : Option Addr) (c1_7 : Nat) (l1_7 : List (S61)) (a1_8 : ByteArray) (a1_9 : Bool) (a1_10 : Int) (a1_11 : Int) (r : Bool) (w : World) (hr0_2 : Kd.C k61 w A0_2 l0_2.length l0_2) (hc0_2 : l0_2.length ≤ c0_2) (hr0_7 : Kd.C k61 w A0_7 l0_7.length l0_7) (hc0_7 : l0_7.length ≤ c0_7) (hr1_2 : Kd.C k61 w A1_2 l1_2.length l1_2) (hc1_2 : l1_2.length ≤ c1_2) (hr1_7 : Kd.C k61 w A1_7 l1_7.length l1_7) (hc1_7 : l1_7.length ≤ c1_7) (h : laws_eqStream.f k a0_0 a0_1 l0_2 a0_3 a0_4 a0_5 a0_6 l0_7 a0_8 a0_9 a0_10 a0_11 a1_0 a1_1 l1_2 a1_3 a1_4 a1_5 a1_6 l1_7 a1_8 a1_9 a1_10 a1_11 = some r) :
  Calls Tryd.prog 63 #[.agg #[.int .i64 a0_0, .int .i64 a0_1, .slice A0_2 l0_2.length c0_2, .string a0_3, .bool a0_4, .bool a0_5, .int .i64 a0_6, .slice A0_7 l0_7.length c0_7, .string a0_8, .bool a0_9, .int .i64 a0_10, .int .i64 a0_11], .agg #[.int .i64 a1_0, .int .i64 a1_1, .slice A1_2 l1_2.length c1_2, .string a1_3, .bool a1_4, .bool a1_5, .int .i64 a1_6, .slice A1_7 l1_7.length c1_7, .string a1_8, .bool a1_9, .int .i64 a1_10, .int .i64 a1_11]] w fun e w' => e = .returned (.bool r) ∧ Below w.heap.size w w' := by
 have hu58 := Tryd.underlying58
 have hu36 := Tryd.underlying36
 have HR0_2 := Aside0.mk hr0_2
 have HC0_2 := Aside0.mk hc0_2
 clear hr0_2 hc0_2
 have HR0_7 := Aside0.mk hr0_7
 have HC0_7 := Aside0.mk hc0_7
 clear hr0_7 hc0_7
 have HR1_2 := Aside0.mk hr1_2
 have HC1_2 := Aside0.mk hc1_2
 clear hr1_2 hc1_2
 have HR1_7 := Aside0.mk hr1_7
 have HC1_7 := Aside0.mk hc1_7
 clear hr1_7 hc1_7
 have HB := Aside0.mk (Below.refl w.heap.size w)
 have H : (if a0_0 = a1_0 then (if a0_1 = a1_1 then ((laws_eqFieldS.f k l0_2 l1_2).bind fun t502 => (if t502 = true then (if a0_3.toList = a1_3.toList then (if (a0_4 != a1_4) = true then (some false) else (if (a0_5 != a1_5) = true then (some false) else (if a0_6 = a1_6 then ((laws_eqFieldS.f k l0_7 l1_7).bind fun t503 => (if t503 = true then (if a0_8.toList = a1_8.toList then (if (a0_9 != a1_9) = true then (some false) else ((laws_eqFlow.f a0_10 a0_11 a1_10 a1_11).bind fun t504 => (if t504 = true then (some true) else (some false)))) else (some false)) else (some false))) else (some false)))) else (some false)) else (some false))) else (some false)) else (some false)) = some r := h
 clear h
 have HC3 := Aside0.mk H
 clear H
 go_enter Tryd.func63, Tryd.ntmps63
 go_upto_if 9 with (first | ((with_reducible refine gd 2 rfl ?_); refine bx (N := 2) (cs := #[.int .i64 a0_0, .int .i64 a0_1, .slice A0_2 l0_2.length c0_2, .string a0_3, .bool a0_4, .bool a0_5, .int .i64 a0_6, .slice A0_7 l0_7.length c0_7, .string a0_8, .bool a0_9, .int .i64 a0_10, .int .i64 a0_11]) (t := 58) ?_; intro gb500 hg w4 hbox hb; have BK500 := Aside0.mk (hbox); have GW500 := gw HB hg; have GE500 := GW500; replace HB := Aside0.mk (below_step (zb HB) hb); clear hb hbox hg) | ((with_reducible refine gd 3 rfl ?_); refine bx (N := 3) (cs := #[.int .i64 a1_0, .int .i64 a1_1, .slice A1_2 l1_2.length c1_2, .string a1_3, .bool a1_4, .bool a1_5, .int .i64 a1_6, .slice A1_7 l1_7.length c1_7, .string a1_8, .bool a1_9, .int .i64 a1_10, .int .i64 a1_11]) (t := 58) ?_; intro gb501 hg w5 hbox hb; have BK501 := Aside0.mk (hbox); have GW501 := gw HB hg; have GE501 := GW501; replace HB := Aside0.mk (below_step (zb HB) hb); obtain ⟨NB500_501, NB501_500⟩ := nb BK500 hg; replace BK500 := kb BK500 hb; clear hb hbox hg; have hnb6 := NB500_501.out; have hnc6 := NB501_500.out; obtain ⟨hcz7_0, hcz7_1, hcz7_2, hcz7_3, hcz7_4, hcz7_5, hcz7_6, hcz7_7, hcz7_8, hcz7_9, hcz7_10, hcz7_11, hfz7_0, hfz7_1, hfz7_2, hfz7_3, hfz7_4, hfz7_5, hfz7_6, hfz7_7, hfz7_8, hfz7_9, hfz7_10, hfz7_11⟩ := c12 BK500; obtain ⟨hcz8_0, hcz8_1, hcz8_2, hcz8_3, hcz8_4, hcz8_5, hcz8_6, hcz8_7, hcz8_8, hcz8_9, hcz8_10, hcz8_11, hfz8_0, hfz8_1, hfz8_2, hfz8_3, hfz8_4, hfz8_5, hfz8_6, hfz8_7, hfz8_8, hfz8_9, hfz8_10, hfz8_11⟩ := c12 BK501))
 (try simp only [Act.put, s1, s2, s3])
 have H := HC3.out
 clear HC3
 replace H := sp H
 rcases H with ⟨c9, H⟩ | ⟨c9, H⟩
 ·skip
  have c9b0 : (a0_0 == a1_0) = true := beq_iff_eq.mpr c9
  have c9b1 : (a0_0 != a1_0) = false := bne_eq_false_iff_eq.mpr c9
  clear c9
  (first | rw [c9b0] | rw [c9b1] | rw [c9b2] | (simp only [i64_w, i32_w]; rw [c9b0]) | skip)
  by_cases c10 : a0_1 = a1_1
  ·rw [if_pos c10] at H
   have c10b0 : (a0_1 == a1_1) = true := beq_iff_eq.mpr c10
   have c10b1 : (a0_1 != a1_1) = false := bne_eq_false_iff_eq.mpr c10
   clear c10
   obtain ⟨t502, A11, H⟩ := ob H
   (try dsimp only at H)
   by_cases c12 : t502 = true
   ·subst c12
    rw [if_pos rfl] at H
    by_cases c13 : a0_3.toList = a1_3.toList
    ·rw [if_pos c13] at H
     have c13b0 : (a0_3.toList == a1_3.toList) = true := beq_iff_eq.mpr c13
     have c13b1 : (a0_3.toList != a1_3.toList) = false := bne_eq_false_iff_eq.mpr c13
     clear c13
     by_cases c14 : (a0_4 != a1_4) = true
     ·rw [if_pos c14] at H
      have c14b0 : (a0_4 != a1_4) = true := c14
      (try (have c14b1 : decide (a0_4 = a1_4) = false := by simpa using c14))
      (try (have c14b2 : (a0_4 == a1_4) = false := by simpa using c14))
      (try (have c14b3 : ¬ (a0_4 = a1_4) := by simpa using c14))
      clear c14
      obtain rfl := Option.some.inj H
      have hnb15 := NB500_501.out
      have hnc15 := NB501_500.out
      obtain ⟨hcz16_0, hcz16_1, hcz16_2, hcz16_3, hcz16_4, hcz16_5, hcz16_6, hcz16_7, hcz16_8, hcz16_9, hcz16_10, hcz16_11, hfz16_0, hfz16_1, hfz16_2, hfz16_3, hfz16_4, hfz16_5, hfz16_6, hfz16_7, hfz16_8, hfz16_9, hfz16_10, hfz16_11⟩ := c12 BK500
      obtain ⟨hcz17_0, hcz17_1, hcz17_2, hcz17_3, hcz17_4, hcz17_5, hcz17_6, hcz17_7, hcz17_8, hcz17_9, hcz17_10, hcz17_11, hfz17_0, hfz17_1, hfz17_2, hfz17_3, hfz17_4, hfz17_5, hfz17_6, hfz17_7, hfz17_8, hfz17_9, hfz17_10, hfz17_11⟩ := c12 BK501
      go_wp2_with (first | ((with_reducible refine gq 62 rfl ?_); refine gl (some 19) Tryd.func62 #[.slice A0_2 l0_2.length c0_2, .slice A1_2 l1_2.length c1_2] ?_; (with_reducible refine (laws_eqFieldS.calls k _ _ l0_2 _ _ l1_2 true _ ?side1 ?side2 ?side3 ?side4 A11.out).mono ?_); (case side1 => exact zc (Kd.C_below HR0_2.out HB.out)); (case side2 => exact HC0_2.out); (case side3 => exact zc (Kd.C_below HR1_2.out HB.out)); (case side4 => exact HC1_2.out); rintro e w18 ⟨rfl, hb⟩; refine ⟨_, rfl, ?_⟩; replace BK500 := kb BK500 hb; replace BK501 := kb BK501 hb; replace HB := Aside0.mk (below_step (zb HB) hb); (try clear hb); obtain ⟨hcz19_0, hcz19_1, hcz19_2, hcz19_3, hcz19_4, hcz19_5, hcz19_6, hcz19_7, hcz19_8, hcz19_9, hcz19_10, hcz19_11, hfz19_0, hfz19_1, hfz19_2, hfz19_3, hfz19_4, hfz19_5, hfz19_6, hfz19_7, hfz19_8, hfz19_9, hfz19_10, hfz19_11⟩ := c12 BK500; obtain ⟨hcz20_0, hcz20_1, hcz20_2, hcz20_3, hcz20_4, hcz20_5, hcz20_6, hcz20_7, hcz20_8, hcz20_9, hcz20_10, hcz20_11, hfz20_0, hfz20_1, hfz20_2, hfz20_3, hfz20_4, hfz20_5, hfz20_6, hfz20_7, hfz20_8, hfz20_9, hfz20_10, hfz20_11⟩ := c12 BK501))
      go_ret
      exact ⟨ze, zb HB⟩
     ·rw [if_neg c14] at H
      have c14b0 : (a0_4 != a1_4) = false := by simpa using c14
      (try (have c14b1 : decide (a0_4 = a1_4) = true := by simpa using c14))
      (try (have c14b2 : (a0_4 == a1_4) = true := by simpa using c14))
      clear c14
      by_cases c21 : (a0_5 != a1_5) = true
      ·rw [if_pos c21] at H
       have c21b0 : (a0_5 != a1_5) = true := c21
       (try (have c21b1 : decide (a0_5 = a1_5) = false := by simpa using c21))
       (try (have c21b2 : (a0_5 == a1_5) = false := by simpa using c21))
       (try (have c21b3 : ¬ (a0_5 = a1_5) := by simpa using c21))
       clear c21
       obtain rfl := Option.some.inj H
       have hnb22 := NB500_501.out
       have hnc22 := NB501_500.out
       obtain ⟨hcz23_0, hcz23_1, hcz23_2, hcz23_3, hcz23_4, hcz23_5, hcz23_6, hcz23_7, hcz23_8, hcz23_9, hcz23_10, hcz23_11, hfz23_0, hfz23_1, hfz23_2, hfz23_3, hfz23_4, hfz23_5, hfz23_6, hfz23_7, hfz23_8, hfz23_9, hfz23_10, hfz23_11⟩ := c12 BK500
       obtain ⟨hcz24_0, hcz24_1, hcz24_2, hcz24_3, hcz24_4, hcz24_5, hcz24_6, hcz24_7, hcz24_8, hcz24_9, hcz24_10, hcz24_11, hfz24_0, hfz24_1, hfz24_2, hfz24_3, hfz24_4, hfz24_5, hfz24_6, hfz24_7, hfz24_8, hfz24_9, hfz24_10, hfz24_11⟩ := c12 BK501
       go_wp2_with (first | ((with_reducible refine gq 62 rfl ?_); refine gl (some 19) Tryd.func62 #[.slice A0_2 l0_2.length c0_2, .slice A1_2 l1_2.length c1_2] ?_; (with_reducible refine (laws_eqFieldS.calls k _ _ l0_2 _ _ l1_2 true _ ?side1 ?side2 ?side3 ?side4 A11.out).mono ?_); (case side1 => exact zc (Kd.C_below HR0_2.out HB.out)); (case side2 => exact HC0_2.out); (case side3 => exact zc (Kd.C_below HR1_2.out HB.out)); (case side4 => exact HC1_2.out); rintro e w25 ⟨rfl, hb⟩; refine ⟨_, rfl, ?_⟩; replace BK500 := kb BK500 hb; replace BK501 := kb BK501 hb; replace HB := Aside0.mk (below_step (zb HB) hb); (try clear hb); obtain ⟨hcz26_0, hcz26_1, hcz26_2, hcz26_3, hcz26_4, hcz26_5, hcz26_6, hcz26_7, hcz26_8, hcz26_9, hcz26_10, hcz26_11, hfz26_0, hfz26_1, hfz26_2, hfz26_3, hfz26_4, hfz26_5, hfz26_6, hfz26_7, hfz26_8, hfz26_9, hfz26_10, hfz26_11⟩ := c12 BK500; obtain ⟨hcz27_0, hcz27_1, hcz27_2, hcz27_3, hcz27_4, hcz27_5, hcz27_6, hcz27_7, hcz27_8, hcz27_9, hcz27_10, hcz27_11, hfz27_0, hfz27_1, hfz27_2, hfz27_3, hfz27_4, hfz27_5, hfz27_6, hfz27_7, hfz27_8, hfz27_9, hfz27_10, hfz27_11⟩ := c12 BK501))
       go_ret
       exact ⟨ze, zb HB⟩
      ·rw [if_neg c21] at H
       have c21b0 : (a0_5 != a1_5) = false := by simpa using c21
       (try (have c21b1 : decide (a0_5 = a1_5) = true := by simpa using c21))
       (try (have c21b2 : (a0_5 == a1_5) = true := by simpa using c21))
       clear c21
       by_cases c28 : a0_6 = a1_6
       ·rw [if_pos c28] at H
        have c28b0 : (a0_6 == a1_6) = true := beq_iff_eq.mpr c28
        have c28b1 : (a0_6 != a1_6) = false := bne_eq_false_iff_eq.mpr c28
        clear c28
        obtain ⟨t503, A29, H⟩ := ob H
        (try dsimp only at H)
        have HC30 := Aside0.mk H
        clear H
        have hnb31 := NB500_501.out
        have hnc31 := NB501_500.out
        obtain ⟨hcz32_0, hcz32_1, hcz32_2, hcz32_3, hcz32_4, hcz32_5, hcz32_6, hcz32_7, hcz32_8, hcz32_9, hcz32_10, hcz32_11, hfz32_0, hfz32_1, hfz32_2, hfz32_3, hfz32_4, hfz32_5, hfz32_6, hfz32_7, hfz32_8, hfz32_9, hfz32_10, hfz32_11⟩ := c12 BK500
        obtain ⟨hcz33_0, hcz33_1, hcz33_2, hcz33_3, hcz33_4, hcz33_5, hcz33_6, hcz33_7, hcz33_8, hcz33_9, hcz33_10, hcz33_11, hfz33_0, hfz33_1, hfz33_2, hfz33_3, hfz33_4, hfz33_5, hfz33_6, hfz33_7, hfz33_8, hfz33_9, hfz33_10, hfz33_11⟩ := c12 BK501
        go_upto_if 46 with (first | ((with_reducible refine gq 62 rfl ?_); refine gl (some 19) Tryd.func62 #[.slice A0_2 l0_2.length c0_2, .slice A1_2 l1_2.length c1_2] ?_; (with_reducible refine (laws_eqFieldS.calls k _ _ l0_2 _ _ l1_2 true _ ?side1 ?side2 ?side3 ?side4 A11.out).mono ?_); (case side1 => exact zc (Kd.C_below HR0_2.out HB.out)); (case side2 => exact HC0_2.out); (case side3 => exact zc (Kd.C_below HR1_2.out HB.out)); (case side4 => exact HC1_2.out); rintro e w34 ⟨rfl, hb⟩; refine ⟨_, rfl, ?_⟩; replace BK500 := kb BK500 hb; replace BK501 := kb BK501 hb; replace HB := Aside0.mk (below_step (zb HB) hb); (try clear hb); obtain ⟨hcz35_0, hcz35_1, hcz35_2, hcz35_3, hcz35_4, hcz35_5, hcz35_6, hcz35_7, hcz35_8, hcz35_9, hcz35_10, hcz35_11, hfz35_0, hfz35_1, hfz35_2, hfz35_3, hfz35_4, hfz35_5, hfz35_6, hfz35_7, hfz35_8, hfz35_9, hfz35_10, hfz35_11⟩ := c12 BK500; obtain ⟨hcz36_0, hcz36_1, hcz36_2, hcz36_3, hcz36_4, hcz36_5, hcz36_6, hcz36_7, hcz36_8, hcz36_9, hcz36_10, hcz36_11, hfz36_0, hfz36_1, hfz36_2, hfz36_3, hfz36_4, hfz36_5, hfz36_6, hfz36_7, hfz36_8, hfz36_9, hfz36_10, hfz36_11⟩ := c12 BK501) | ((with_reducible refine gq 62 rfl ?_); refine gl (some 45) Tryd.func62 #[.slice A0_7 l0_7.length c0_7, .slice A1_7 l1_7.length c1_7] ?_; (with_reducible refine (laws_eqFieldS.calls k _ _ l0_7 _ _ l1_7 t503 _ ?side1 ?side2 ?side3 ?side4 A29.out).mono ?_); (case side1 => exact zc (Kd.C_below HR0_7.out HB.out)); (case side2 => exact HC0_7.out); (case side3 => exact zc (Kd.C_below HR1_7.out HB.out)); (case side4 => exact HC1_7.out); rintro e w37 ⟨rfl, hb⟩; refine ⟨_, rfl, ?_⟩; replace BK500 := kb BK500 hb; replace BK501 := kb BK501 hb; replace HB := Aside0.mk (below_step (zb HB) hb); (try clear hb)))
        (try simp only [Act.put, s1, s2, s3])
        have H := HC30.out
        clear HC30
        by_cases c38 : t503 = true
        ·subst c38
         rw [if_pos rfl] at H
         by_cases c39 : a0_8.toList = a1_8.toList
         ·rw [if_pos c39] at H
          have c39b0 : (a0_8.toList == a1_8.toList) = true := beq_iff_eq.mpr c39
          have c39b1 : (a0_8.toList != a1_8.toList) = false := bne_eq_false_iff_eq.mpr c39
          clear c39
          (first | rw [c39b0] | rw [c39b1] | rw [c39b2] | (simp only [i64_w, i32_w]; rw [c39b0]) | skip)
          by_cases c40 : (a0_9 != a1_9) = true
          ·rw [if_pos c40] at H
           have c40b0 : (a0_9 != a1_9) = true := c40
           (try (have c40b1 : decide (a0_9 = a1_9) = false := by simpa using c40))
           (try (have c40b2 : (a0_9 == a1_9) = false := by simpa using c40))
           (try (have c40b3 : ¬ (a0_9 = a1_9) := by simpa using c40))
           clear c40
           obtain rfl := Option.some.inj H
           have hnb41 := NB500_501.out
           have hnc41 := NB501_500.out
           obtain ⟨hcz42_0, hcz42_1, hcz42_2, hcz42_3, hcz42_4, hcz42_5, hcz42_6, hcz42_7, hcz42_8, hcz42_9, hcz42_10, hcz42_11, hfz42_0, hfz42_1, hfz42_2, hfz42_3, hfz42_4, hfz42_5, hfz42_6, hfz42_7, hfz42_8, hfz42_9, hfz42_10, hfz42_11⟩ := c12 BK500
           obtain ⟨hcz43_0, hcz43_1, hcz43_2, hcz43_3, hcz43_4, hcz43_5, hcz43_6, hcz43_7, hcz43_8, hcz43_9, hcz43_10, hcz43_11, hfz43_0, hfz43_1, hfz43_2, hfz43_3, hfz43_4, hfz43_5, hfz43_6, hfz43_7, hfz43_8, hfz43_9, hfz43_10, hfz43_11⟩ := c12 BK501
           go_wp2
           go_ret
           exact ⟨ze, zb HB⟩
          ·rw [if_neg c40] at H
           have c40b0 : (a0_9 != a1_9) = false := by simpa using c40
           (try (have c40b1 : decide (a0_9 = a1_9) = true := by simpa using c40))
           (try (have c40b2 : (a0_9 == a1_9) = true := by simpa using c40))
           clear c40
           obtain ⟨t504, A44, H⟩ := ob H
           (try dsimp only at H)
           by_cases c45 : t504 = true
           ·subst c45
            rw [if_pos rfl] at H
            obtain rfl := Option.some.inj H
            have hnb46 := NB500_501.out
            have hnc46 := NB501_500.out
            obtain ⟨hcz47_0, hcz47_1, hcz47_2, hcz47_3, hcz47_4, hcz47_5, hcz47_6, hcz47_7, hcz47_8, hcz47_9, hcz47_10, hcz47_11, hfz47_0, hfz47_1, hfz47_2, hfz47_3, hfz47_4, hfz47_5, hfz47_6, hfz47_7, hfz47_8, hfz47_9, hfz47_10, hfz47_11⟩ := c12 BK500
            obtain ⟨hcz48_0, hcz48_1, hcz48_2, hcz48_3, hcz48_4, hcz48_5, hcz48_6, hcz48_7, hcz48_8, hcz48_9, hcz48_10, hcz48_11, hfz48_0, hfz48_1, hfz48_2, hfz48_3, hfz48_4, hfz48_5, hfz48_6, hfz48_7, hfz48_8, hfz48_9, hfz48_10, hfz48_11⟩ := c12 BK501
            go_wp2_with (first | ((with_reducible refine gq 28 rfl ?_); refine gl (some 61) Tryd.func28 #[.agg #[.int .i64 a0_10, .int .i64 a0_11], .agg #[.int .i64 a1_10, .int .i64 a1_11]] ?_; (with_reducible refine (laws_eqFlow.calls a0_10 a0_11 a1_10 a1_11 true _ A44.out).mono ?_); rintro e w49 ⟨rfl, hb⟩; refine ⟨_, rfl, ?_⟩; replace BK500 := kb BK500 hb; replace BK501 := kb BK501 hb; replace HB := Aside0.mk (below_step (zb HB) hb); (try clear hb)))
            go_ret
            exact ⟨ze, zb HB⟩
           ·replace c45 := Bool.eq_false_iff.mpr c45
            subst c45
            rw [if_neg (show ¬ (false = true) by decide)] at H
            obtain rfl := Option.some.inj H
            have hnb50 := NB500_501.out
            have hnc50 := NB501_500.out
            obtain ⟨hcz51_0, hcz51_1, hcz51_2, hcz51_3, hcz51_4, hcz51_5, hcz51_6, hcz51_7, hcz51_8, hcz51_9, hcz51_10, hcz51_11, hfz51_0, hfz51_1, hfz51_2, hfz51_3, hfz51_4, hfz51_5, hfz51_6, hfz51_7, hfz51_8, hfz51_9, hfz51_10, hfz51_11⟩ := c12 BK500
            obtain ⟨hcz52_0, hcz52_1, hcz52_2, hcz52_3, hcz52_4, hcz52_5, hcz52_6, hcz52_7, hcz52_8, hcz52_9, hcz52_10, hcz52_11, hfz52_0, hfz52_1, hfz52_2, hfz52_3, hfz52_4, hfz52_5, hfz52_6, hfz52_7, hfz52_8, hfz52_9, hfz52_10, hfz52_11⟩ := c12 BK501
            go_wp2_with (first | ((with_reducible refine gq 28 rfl ?_); refine gl (some 61) Tryd.func28 #[.agg #[.int .i64 a0_10, .int .i64 a0_11], .agg #[.int .i64 a1_10, .int .i64 a1_11]] ?_; (with_reducible refine (laws_eqFlow.calls a0_10 a0_11 a1_10 a1_11 false _ A44.out).mono ?_); rintro e w53 ⟨rfl, hb⟩; refine ⟨_, rfl, ?_⟩; replace BK500 := kb BK500 hb; replace BK501 := kb BK501 hb; replace HB := Aside0.mk (below_step (zb HB) hb); (try clear hb)))
            go_ret
            exact ⟨ze, zb HB⟩
         ·rw [if_neg c39] at H
          have c39b0 : (a0_8.toList == a1_8.toList) = false := beq_eq_false_iff_ne.mpr c39
          have c39b1 : (a0_8.toList != a1_8.toList) = true := bne_iff_ne.mpr c39
          (first | rw [c39b0] | rw [c39b1] | rw [c39b2] | (simp only [i64_w, i32_w]; rw [c39b0]) | skip)
          obtain rfl := Option.some.inj H
          have hnb54 := NB500_501.out
          have hnc54 := NB501_500.out
          obtain ⟨hcz55_0, hcz55_1, hcz55_2, hcz55_3, hcz55_4, hcz55_5, hcz55_6, hcz55_7, hcz55_8, hcz55_9, hcz55_10, hcz55_11, hfz55_0, hfz55_1, hfz55_2, hfz55_3, hfz55_4, hfz55_5, hfz55_6, hfz55_7, hfz55_8, hfz55_9, hfz55_10, hfz55_11⟩ := c12 BK500
          obtain ⟨hcz56_0, hcz56_1, hcz56_2, hcz56_3, hcz56_4, hcz56_5, hcz56_6, hcz56_7, hcz56_8, hcz56_9, hcz56_10, hcz56_11, hfz56_0, hfz56_1, hfz56_2, hfz56_3, hfz56_4, hfz56_5, hfz56_6, hfz56_7, hfz56_8, hfz56_9, hfz56_10, hfz56_11⟩ := c12 BK501
          go_wp2
          go_ret
          exact ⟨ze, zb HB⟩
        ·replace c38 := Bool.eq_false_iff.mpr c38
         subst c38
         rw [if_neg (show ¬ (false = true) by decide)] at H
         obtain rfl := Option.some.inj H
         go_wp2
         go_ret
         exact ⟨ze, zb HB⟩
       ·rw [if_neg c28] at H
        have c28b0 : (a0_6 == a1_6) = false := beq_eq_false_iff_ne.mpr c28
        have c28b1 : (a0_6 != a1_6) = true := bne_iff_ne.mpr c28
        obtain rfl := Option.some.inj H
        have hnb57 := NB500_501.out
        have hnc57 := NB501_500.out
        obtain ⟨hcz58_0, hcz58_1, hcz58_2, hcz58_3, hcz58_4, hcz58_5, hcz58_6, hcz58_7, hcz58_8, hcz58_9, hcz58_10, hcz58_11, hfz58_0, hfz58_1, hfz58_2, hfz58_3, hfz58_4, hfz58_5, hfz58_6, hfz58_7, hfz58_8, hfz58_9, hfz58_10, hfz58_11⟩ := c12 BK500
        obtain ⟨hcz59_0, hcz59_1, hcz59_2, hcz59_3, hcz59_4, hcz59_5, hcz59_6, hcz59_7, hcz59_8, hcz59_9, hcz59_10, hcz59_11, hfz59_0, hfz59_1, hfz59_2, hfz59_3, hfz59_4, hfz59_5, hfz59_6, hfz59_7, hfz59_8, hfz59_9, hfz59_10, hfz59_11⟩ := c12 BK501
        go_wp2_with (first | ((with_reducible refine gq 62 rfl ?_); refine gl (some 19) Tryd.func62 #[.slice A0_2 l0_2.length c0_2, .slice A1_2 l1_2.length c1_2] ?_; (with_reducible refine (laws_eqFieldS.calls k _ _ l0_2 _ _ l1_2 true _ ?side1 ?side2 ?side3 ?side4 A11.out).mono ?_); (case side1 => exact zc (Kd.C_below HR0_2.out HB.out)); (case side2 => exact HC0_2.out); (case side3 => exact zc (Kd.C_below HR1_2.out HB.out)); (case side4 => exact HC1_2.out); rintro e w60 ⟨rfl, hb⟩; refine ⟨_, rfl, ?_⟩; replace BK500 := kb BK500 hb; replace BK501 := kb BK501 hb; replace HB := Aside0.mk (below_step (zb HB) hb); (try clear hb); obtain ⟨hcz61_0, hcz61_1, hcz61_2, hcz61_3, hcz61_4, hcz61_5, hcz61_6, hcz61_7, hcz61_8, hcz61_9, hcz61_10, hcz61_11, hfz61_0, hfz61_1, hfz61_2, hfz61_3, hfz61_4, hfz61_5, hfz61_6, hfz61_7, hfz61_8, hfz61_9, hfz61_10, hfz61_11⟩ := c12 BK500; obtain ⟨hcz62_0, hcz62_1, hcz62_2, hcz62_3, hcz62_4, hcz62_5, hcz62_6, hcz62_7, hcz62_8, hcz62_9, hcz62_10, hcz62_11, hfz62_0, hfz62_1, hfz62_2, hfz62_3, hfz62_4, hfz62_5, hfz62_6, hfz62_7, hfz62_8, hfz62_9, hfz62_10, hfz62_11⟩ := c12 BK501))
        go_ret
        exact ⟨ze, zb HB⟩
    ·rw [if_neg c13] at H
     have c13b0 : (a0_3.toList == a1_3.toList) = false := beq_eq_false_iff_ne.mpr c13
     have c13b1 : (a0_3.toList != a1_3.toList) = true := bne_iff_ne.mpr c13
     obtain rfl := Option.some.inj H
     have hnb63 := NB500_501.out
     have hnc63 := NB501_500.out
     obtain ⟨hcz64_0, hcz64_1, hcz64_2, hcz64_3, hcz64_4, hcz64_5, hcz64_6, hcz64_7, hcz64_8, hcz64_9, hcz64_10, hcz64_11, hfz64_0, hfz64_1, hfz64_2, hfz64_3, hfz64_4, hfz64_5, hfz64_6, hfz64_7, hfz64_8, hfz64_9, hfz64_10, hfz64_11⟩ := c12 BK500
     obtain ⟨hcz65_0, hcz65_1, hcz65_2, hcz65_3, hcz65_4, hcz65_5, hcz65_6, hcz65_7, hcz65_8, hcz65_9, hcz65_10, hcz65_11, hfz65_0, hfz65_1, hfz65_2, hfz65_3, hfz65_4, hfz65_5, hfz65_6, hfz65_7, hfz65_8, hfz65_9, hfz65_10, hfz65_11⟩ := c12 BK501
     go_wp2_with (first | ((with_reducible refine gq 62 rfl ?_); refine gl (some 19) Tryd.func62 #[.slice A0_2 l0_2.length c0_2, .slice A1_2 l1_2.length c1_2] ?_; (with_reducible refine (laws_eqFieldS.calls k _ _ l0_2 _ _ l1_2 true _ ?side1 ?side2 ?side3 ?side4 A11.out).mono ?_); (case side1 => exact zc (Kd.C_below HR0_2.out HB.out)); (case side2 => exact HC0_2.out); (case side3 => exact zc (Kd.C_below HR1_2.out HB.out)); (case side4 => exact HC1_2.out); rintro e w66 ⟨rfl, hb⟩; refine ⟨_, rfl, ?_⟩; replace BK500 := kb BK500 hb; replace BK501 := kb BK501 hb; replace HB := Aside0.mk (below_step (zb HB) hb); (try clear hb); obtain ⟨hcz67_0, hcz67_1, hcz67_2, hcz67_3, hcz67_4, hcz67_5, hcz67_6, hcz67_7, hcz67_8, hcz67_9, hcz67_10, hcz67_11, hfz67_0, hfz67_1, hfz67_2, hfz67_3, hfz67_4, hfz67_5, hfz67_6, hfz67_7, hfz67_8, hfz67_9, hfz67_10, hfz67_11⟩ := c12 BK500; obtain ⟨hcz68_0, hcz68_1, hcz68_2, hcz68_3, hcz68_4, hcz68_5, hcz68_6, hcz68_7, hcz68_8, hcz68_9, hcz68_10, hcz68_11, hfz68_0, hfz68_1, hfz68_2, hfz68_3, hfz68_4, hfz68_5, hfz68_6, hfz68_7, hfz68_8, hfz68_9, hfz68_10, hfz68_11⟩ := c12 BK501))
     go_ret
     exact ⟨ze, zb HB⟩
   ·replace c12 := Bool.eq_false_iff.mpr c12
    subst c12
    rw [if_neg (show ¬ (false = true) by decide)] at H
    obtain rfl := Option.some.inj H
    have hnb69 := NB500_501.out
    have hnc69 := NB501_500.out
    obtain ⟨hcz70_0, hcz70_1, hcz70_2, hcz70_3, hcz70_4, hcz70_5, hcz70_6, hcz70_7, hcz70_8, hcz70_9, hcz70_10, hcz70_11, hfz70_0, hfz70_1, hfz70_2, hfz70_3, hfz70_4, hfz70_5, hfz70_6, hfz70_7, hfz70_8, hfz70_9, hfz70_10, hfz70_11⟩ := c12 BK500
    obtain ⟨hcz71_0, hcz71_1, hcz71_2, hcz71_3, hcz71_4, hcz71_5, hcz71_6, hcz71_7, hcz71_8, hcz71_9, hcz71_10, hcz71_11, hfz71_0, hfz71_1, hfz71_2, hfz71_3, hfz71_4, hfz71_5, hfz71_6, hfz71_7, hfz71_8, hfz71_9, hfz71_10, hfz71_11⟩ := c12 BK501
    go_wp2_with (first | ((with_reducible refine gq 62 rfl ?_); refine gl (some 19) Tryd.func62 #[.slice A0_2 l0_2.length c0_2, .slice A1_2 l1_2.length c1_2] ?_; (with_reducible refine (laws_eqFieldS.calls k _ _ l0_2 _ _ l1_2 false _ ?side1 ?side2 ?side3 ?side4 A11.out).mono ?_); (case side1 => exact zc (Kd.C_below HR0_2.out HB.out)); (case side2 => exact HC0_2.out); (case side3 => exact zc (Kd.C_below HR1_2.out HB.out)); (case side4 => exact HC1_2.out); rintro e w72 ⟨rfl, hb⟩; refine ⟨_, rfl, ?_⟩; replace BK500 := kb BK500 hb; replace BK501 := kb BK501 hb; replace HB := Aside0.mk (below_step (zb HB) hb); (try clear hb)))
    go_ret
    exact ⟨ze, zb HB⟩
  ·rw [if_neg c10] at H
   have c10b0 : (a0_1 == a1_1) = false := beq_eq_false_iff_ne.mpr c10
   have c10b1 : (a0_1 != a1_1) = true := bne_iff_ne.mpr c10
   obtain rfl := Option.some.inj H
   have hnb73 := NB500_501.out
   have hnc73 := NB501_500.out
   obtain ⟨hcz74_0, hcz74_1, hcz74_2, hcz74_3, hcz74_4, hcz74_5, hcz74_6, hcz74_7, hcz74_8, hcz74_9, hcz74_10, hcz74_11, hfz74_0, hfz74_1, hfz74_2, hfz74_3, hfz74_4, hfz74_5, hfz74_6, hfz74_7, hfz74_8, hfz74_9, hfz74_10, hfz74_11⟩ := c12 BK500
   obtain ⟨hcz75_0, hcz75_1, hcz75_2, hcz75_3, hcz75_4, hcz75_5, hcz75_6, hcz75_7, hcz75_8, hcz75_9, hcz75_10, hcz75_11, hfz75_0, hfz75_1, hfz75_2, hfz75_3, hfz75_4, hfz75_5, hfz75_6, hfz75_7, hfz75_8, hfz75_9, hfz75_10, hfz75_11⟩ := c12 BK501
   go_wp2
   go_ret
   exact ⟨ze, zb HB⟩
 ·skip
  have c9b0 : (a0_0 == a1_0) = false := beq_eq_false_iff_ne.mpr c9
  have c9b1 : (a0_0 != a1_0) = true := bne_iff_ne.mpr c9
  (first | rw [c9b0] | rw [c9b1] | rw [c9b2] | (simp only [i64_w, i32_w]; rw [c9b0]) | skip)
  obtain rfl := Option.some.inj H
  go_wp2
  go_ret
  exact ⟨ze, zb HB⟩

/-! ### laws_eqStreamS: function 27 -/
-- thin
def laws_eqStreamS.l0 : Nat → List (S58) → List (S58) → Int → Option (Bool)
 | 0, _, _, _ => none
 | k + 1, x0, x1, x5 => if x5 < (x0.length : Int) then (if 0 ≤ x5 then (if x5 < (x1.length : Int) then ((laws_eqStream.f k ((rd_T58 x0 x5).f0) ((rd_T58 x0 x5).f1) ((rd_T58 x0 x5).f2) ((rd_T58 x0 x5).f3) ((rd_T58 x0 x5).f4) ((rd_T58 x0 x5).f5) ((rd_T58 x0 x5).f6) ((rd_T58 x0 x5).f7) ((rd_T58 x0 x5).f8) ((rd_T58 x0 x5).f9) ((rd_T58 x0 x5).f10.f0) ((rd_T58 x0 x5).f10.f1) ((rd_T58 x1 x5).f0) ((rd_T58 x1 x5).f1) ((rd_T58 x1 x5).f2) ((rd_T58 x1 x5).f3) ((rd_T58 x1 x5).f4) ((rd_T58 x1 x5).f5) ((rd_T58 x1 x5).f6) ((rd_T58 x1 x5).f7) ((rd_T58 x1 x5).f8) ((rd_T58 x1 x5).f9) ((rd_T58 x1 x5).f10.f0) ((rd_T58 x1 x5).f10.f1)).bind fun t507 => (if t507 = true then (laws_eqStreamS.l0 k x0 x1 (wrap64 (x5 + 1))) else (some false))) else (none)) else (none)) else (some true)
def laws_eqStreamS.f (k : Nat) (l0 : List (S58)) (l1 : List (S58)) : Option (Bool) := if (l0.length : Int) = (l1.length : Int) then (laws_eqStreamS.l0 k l0 l1 0) else (some false)
theorem laws_eqStreamS.mono_l : ∀ k, (∀ y0 y1 y2, LeO (laws_eqStreamS.l0 k y0 y1 y2) (laws_eqStreamS.l0 (k + 1) y0 y1 y2))
 | 0 => fun _ _ _ r h => by simp [laws_eqStreamS.l0] at h
 | k + 1 => by
  have ih0 := laws_eqStreamS.mono_l k
  ·intro y0 y1 y2
   unfold laws_eqStreamS.l0
   have m0 := @laws_eqStream.mono
   exact zm
theorem laws_eqStreamS.mono : ∀ a0 a1 k, LeO (laws_eqStreamS.f k a0 a1) (laws_eqStreamS.f (k + 1) a0 a1) := by
 intro a0 a1 k
 have ih0 := laws_eqStreamS.mono_l k
 unfold laws_eqStreamS.f
 have m0 := @laws_eqStream.mono
 exact zm
def laws_eqStreamS.T6 : Bool × List (List Nat × List Nat) := (true, [([], []), ([], []), ([0, 1], [0, 1]), ([2], [2]), ([], []), ([], []), ([4, 5], [4, 5]), ([6], [6]), ([3, 7], [3, 7]), ([8], [8])])
def laws_eqStreamS.B6 : List Nat := [0, 0, 3, 7, 0, 0, 48, 112, 255, 511]
theorem laws_eqStreamS.tab6 : rtab .any (opsOf Tryd.f27 6) = laws_eqStreamS.T6 := by kernel_rfl
theorem laws_eqStreamS.bits6 : waitsOk laws_eqStreamS.T6.2 laws_eqStreamS.B6 = true := by kernel_rfl
set_option maxHeartbeats 8000000 in
set_option maxRecDepth 100000 in
theorem laws_eqStreamS.calls (k : Nat) (A0 : Option Addr) (c0 : Nat) (l0 : List (S58)) (A1 : Option Addr) (c1 : Nat) (l1 : List (S58)) (r : Bool) (w : World) (hr0 : Kd.C k58 w A0 l0.length l0) (hc0 : l0.length ≤ c0) (hr1 : Kd.C k58 w A1 l1.length l1) (hc1 : l1.length ≤ c1) (h : laws_eqStreamS.f k l0 l1 = some r) :
  Calls Tryd.prog 27 #[.slice A0 l0.length c0, .slice A1 l1.length c1] w fun e w' => e = .returned (.bool r) ∧ Below w.heap.size w w' := by
 have hu58 := Tryd.underlying58
 have HR0 := Aside0.mk hr0
 have HC0 := Aside0.mk hc0
 clear hr0 hc0
 have HR1 := Aside0.mk hr1
 have HC1 := Aside0.mk hc1
 clear hr1 hc1
 have HB := Aside0.mk (Below.refl w.heap.size w)
 have H : (if (l0.length : Int) = (l1.length : Int) then (laws_eqStreamS.l0 k l0 l1 0) else (some false)) = some r := h
 clear h
 replace H := sp H
 rcases H with ⟨c3, H⟩ | ⟨c3, H⟩
 ·skip
  have c3b0 : ((l0.length : Int) == (l1.length : Int)) = true := beq_iff_eq.mpr c3
  have c3b1 : ((l0.length : Int) != (l1.length : Int)) = false := bne_eq_false_iff_eq.mpr c3
  have c3b2 : (l0.length == l1.length) = true := by first | simpa using c3 | (simp at c3 ⊢; omega)
  clear c3
  have H' := Aside0.mk H
  clear H
  go_enter Tryd.func27, Tryd.ntmps27
  go_wp2
  go_loopg [5] k (fun kq v5 w' => ∃ (x5_1 : Int), v5 = .int .i64 x5_1 ∧ Aside0 (laws_eqStreamS.l0 kq l0 l1 x5_1 = some r) ∧ Aside0 (kq ≤ k) ∧ Aside0 (Below w.heap.size w w'))
  case atStart => exact ⟨(0), zs, H', ⟨Nat.le_refl _⟩, ⟨zb HB⟩⟩
  case round =>
   clear H'
   try clear c1
   try clear c2
   try clear p2
   try clear c3
   try clear c3b0
   try clear c3b1
   try clear c3b2
   obtain ⟨x5_1, rfl, HA, HK1, HB⟩ := hrel
   cases gk with
   | zero => exact absurd HA.out (by simp [laws_eqStreamS.l0])
   | succ k1 =>
    have H := HA.out
    clear HA
    simp only [laws_eqStreamS.l0] at H
    by_cases c4 : x5_1 < (l0.length : Int)
    ·rw [if_pos c4] at H
     have c4b0 := decide_eq_true c4
     clear c4
     by_cases c5 : 0 ≤ x5_1
     ·rw [if_pos c5] at H
      have c5b0 := decide_eq_true c5
      clear c5
      by_cases c6 : x5_1 < (l1.length : Int)
      ·rw [if_pos c6] at H
       have c6b0 := decide_eq_true c6
       clear c6
       obtain ⟨t507, A7, H⟩ := ob H
       (try dsimp only at H)
       have HC8 := Aside0.mk H
       clear H
       try go_wp2
       replace HB := Aside0.mk (below_drew1 HB.out)
       have p505 : 0 ≤ (x5_1 : Int) := of_decide_eq_true za
       have q505 : x5_1 < (l0.length : Int) := of_decide_eq_true za
       obtain ⟨ad505, A505_2, c505_2, A505_7, c505_7, e505, hx505_0, hx505_1, hx505_2, hx505_3, hx505_4, hx505_5, hx505_6, hx505_7, hx505_8, hx505_9, hx505_10, hx505_11, hl505_2, hi505_2, hl505_7, hi505_7⟩ := at_T58 HR0.out x5_1 p505 q505
       have hw505_11 := hx505_11
       have hw505_10 := hx505_10
       have hw505_9 := hx505_9
       have hw505_8 := hx505_8
       have hw505_7 := hx505_7
       have hw505_6 := hx505_6
       have hw505_5 := hx505_5
       have hw505_4 := hx505_4
       have hw505_3 := hx505_3
       have hw505_2 := hx505_2
       have hw505_1 := hx505_1
       have hw505_0 := hx505_0
       cases e505
       replace hx505_0 := cb0 hx505_0 HB
       replace hx505_1 := cb0 hx505_1 HB
       replace hx505_2 := cb0 hx505_2 HB
       replace hx505_3 := cb0 hx505_3 HB
       replace hx505_4 := cb0 hx505_4 HB
       replace hx505_5 := cb0 hx505_5 HB
       replace hx505_6 := cb0 hx505_6 HB
       replace hx505_7 := cb0 hx505_7 HB
       replace hx505_8 := cb0 hx505_8 HB
       replace hx505_9 := cb0 hx505_9 HB
       replace hx505_10 := cb0 hx505_10 HB
       replace hx505_11 := cb0 hx505_11 HB
       have HR505_2 := Aside0.mk hi505_2
       have HC505_2 := Aside0.mk hl505_2
       clear hi505_2 hl505_2
       have HR505_7 := Aside0.mk hi505_7
       have HC505_7 := Aside0.mk hl505_7
       clear hi505_7 hl505_7
       replace p505 := eq_true p505
       replace q505 := eq_true q505
       have p506 : 0 ≤ (x5_1 : Int) := of_decide_eq_true za
       have q506 : x5_1 < (l1.length : Int) := of_decide_eq_true za
       obtain ⟨ad506, A506_2, c506_2, A506_7, c506_7, e506, hx506_0, hx506_1, hx506_2, hx506_3, hx506_4, hx506_5, hx506_6, hx506_7, hx506_8, hx506_9, hx506_10, hx506_11, hl506_2, hi506_2, hl506_7, hi506_7⟩ := at_T58 HR1.out x5_1 p506 q506
       have hw506_11 := hx506_11
       have hw506_10 := hx506_10
       have hw506_9 := hx506_9
       have hw506_8 := hx506_8
       have hw506_7 := hx506_7
       have hw506_6 := hx506_6
       have hw506_5 := hx506_5
       have hw506_4 := hx506_4
       have hw506_3 := hx506_3
       have hw506_2 := hx506_2
       have hw506_1 := hx506_1
       have hw506_0 := hx506_0
       cases e506
       replace hx506_0 := cb0 hx506_0 HB
       replace hx506_1 := cb0 hx506_1 HB
       replace hx506_2 := cb0 hx506_2 HB
       replace hx506_3 := cb0 hx506_3 HB
       replace hx506_4 := cb0 hx506_4 HB
       replace hx506_5 := cb0 hx506_5 HB
       replace hx506_6 := cb0 hx506_6 HB
       replace hx506_7 := cb0 hx506_7 HB
       replace hx506_8 := cb0 hx506_8 HB
       replace hx506_9 := cb0 hx506_9 HB
       replace hx506_10 := cb0 hx506_10 HB
       replace hx506_11 := cb0 hx506_11 HB
       have HR506_2 := Aside0.mk hi506_2
       have HC506_2 := Aside0.mk hl506_2
       clear hi506_2 hl506_2
       have HR506_7 := Aside0.mk hi506_7
       have HC506_7 := Aside0.mk hl506_7
       clear hi506_7 hl506_7
       replace p506 := eq_true p506
       replace q506 := eq_true q506
       refine st 10 (an (cb hw505_0 HB) (an (cb hw505_1 HB) (an (cb hw505_2 HB) (an (cb hw505_3 HB) (an (cb hw505_4 HB) (an (cb hw505_5 HB) (an (cb hw505_6 HB) (an (cb hw505_7 HB) (an (cb hw505_8 HB) (an (cb hw505_9 HB) (an (cb hw505_10 HB) (an (cb hw505_11 HB) (an (cb hw506_0 HB) (an (cb hw506_1 HB) (an (cb hw506_2 HB) (an (cb hw506_3 HB) (an (cb hw506_4 HB) (an (cb hw506_5 HB) (an (cb hw506_6 HB) (an (cb hw506_7 HB) (an (cb hw506_8 HB) (an (cb hw506_9 HB) (an (cb hw506_10 HB) (cb hw506_11 HB)))))))))))))))))))))))) (fun hHeld => ?_); refine with_tabW laws_eqStreamS.tab6 laws_eqStreamS.bits6 (fun HT_ HW_ => ?_)
       generalize wr.drew = w9 at HB HR505_2 HR505_7 HR506_2 HR506_7 hx505_0 hx505_1 hx505_10 hx505_11 hx505_2 hx505_3 hx505_4 hx505_5 hx505_6 hx505_7 hx505_8 hx505_9 hx506_0 hx506_1 hx506_10 hx506_11 hx506_2 hx506_3 hx506_4 hx506_5 hx506_6 hx506_7 hx506_8 hx506_9 hHeld ⊢
       refine pu 0 (some 17) (bm 10 1) rfl rfl ?_
       refine pu 1 (some 18) (bm 10 3) rfl rfl ?_
       refine pu 2 (some 19) (bm 10 7) rfl rfl ?_
       refine pu 4 (some 21) (bm 10 23) rfl rfl ?_
       refine pu 5 (some 22) (bm 10 55) rfl rfl ?_
       refine pu 6 (some 23) (bm 10 119) rfl rfl ?_
       refine tk 3 (some 20) (bm 10 127) rfl rfl hHeld ?_
       refine tk 7 (some 24) (bm 10 255) rfl rfl hHeld ?_
       refine one_ (i := 8) (N := some 25) (bm 10 511) rfl rfl (one_of HT_.out (by kernel_rfl)) (by decide) (fun K hK => ?_)
       refine gs Tryd.func63 #[.agg #[.int .i64 ((rd_T58 l0 x5_1).f0), .int .i64 ((rd_T58 l0 x5_1).f1), .slice A505_2 ((rd_T58 l0 x5_1).f2).length c505_2, .string ((rd_T58 l0 x5_1).f3), .bool ((rd_T58 l0 x5_1).f4), .bool ((rd_T58 l0 x5_1).f5), .int .i64 ((rd_T58 l0 x5_1).f6), .slice A505_7 ((rd_T58 l0 x5_1).f7).length c505_7, .string ((rd_T58 l0 x5_1).f8), .bool ((rd_T58 l0 x5_1).f9), .int .i64 ((rd_T58 l0 x5_1).f10.f0), .int .i64 ((rd_T58 l0 x5_1).f10.f1)], .agg #[.int .i64 ((rd_T58 l1 x5_1).f0), .int .i64 ((rd_T58 l1 x5_1).f1), .slice A506_2 ((rd_T58 l1 x5_1).f2).length c506_2, .string ((rd_T58 l1 x5_1).f3), .bool ((rd_T58 l1 x5_1).f4), .bool ((rd_T58 l1 x5_1).f5), .int .i64 ((rd_T58 l1 x5_1).f6), .slice A506_7 ((rd_T58 l1 x5_1).f7).length c506_7, .string ((rd_T58 l1 x5_1).f8), .bool ((rd_T58 l1 x5_1).f9), .int .i64 ((rd_T58 l1 x5_1).f10.f0), .int .i64 ((rd_T58 l1 x5_1).f10.f1)]] ?_
       with_reducible refine (laws_eqStream.calls k1 ((rd_T58 l0 x5_1).f0) ((rd_T58 l0 x5_1).f1) _ _ ((rd_T58 l0 x5_1).f2) ((rd_T58 l0 x5_1).f3) ((rd_T58 l0 x5_1).f4) ((rd_T58 l0 x5_1).f5) ((rd_T58 l0 x5_1).f6) _ _ ((rd_T58 l0 x5_1).f7) ((rd_T58 l0 x5_1).f8) ((rd_T58 l0 x5_1).f9) ((rd_T58 l0 x5_1).f10.f0) ((rd_T58 l0 x5_1).f10.f1) ((rd_T58 l1 x5_1).f0) ((rd_T58 l1 x5_1).f1) _ _ ((rd_T58 l1 x5_1).f2) ((rd_T58 l1 x5_1).f3) ((rd_T58 l1 x5_1).f4) ((rd_T58 l1 x5_1).f5) ((rd_T58 l1 x5_1).f6) _ _ ((rd_T58 l1 x5_1).f7) ((rd_T58 l1 x5_1).f8) ((rd_T58 l1 x5_1).f9) ((rd_T58 l1 x5_1).f10.f0) ((rd_T58 l1 x5_1).f10.f1) t507 _ ?side1 ?side2 ?side3 ?side4 ?side5 ?side6 ?side7 ?side8 A7.out).mono ?_
       (case side1 => exact zc (Kd.C_below HR505_2.out HB.out))
       (case side2 => exact HC505_2.out)
       (case side3 => exact zc (Kd.C_below HR505_7.out HB.out))
       (case side4 => exact HC505_7.out)
       (case side5 => exact zc (Kd.C_below HR506_2.out HB.out))
       (case side6 => exact HC506_2.out)
       (case side7 => exact zc (Kd.C_below HR506_7.out HB.out))
       (case side8 => exact HC506_7.out)
       rintro e w10 ⟨rfl, hb⟩
       refine ⟨_, rfl, ?_⟩
       replace HB := Aside0.mk (below_step (zb HB) hb)
       (try clear hb)
       refine hK.out _ _ (an (cb hw505_0 HB) (an (cb hw505_1 HB) (an (cb hw505_2 HB) (an (cb hw505_3 HB) (an (cb hw505_4 HB) (an (cb hw505_5 HB) (an (cb hw505_6 HB) (an (cb hw505_7 HB) (an (cb hw505_8 HB) (an (cb hw505_9 HB) (an (cb hw505_10 HB) (an (cb hw505_11 HB) (an (cb hw506_0 HB) (an (cb hw506_1 HB) (an (cb hw506_2 HB) (an (cb hw506_3 HB) (an (cb hw506_4 HB) (an (cb hw506_5 HB) (an (cb hw506_6 HB) (an (cb hw506_7 HB) (an (cb hw506_8 HB) (an (cb hw506_9 HB) (an (cb hw506_10 HB) (cb hw506_11 HB)))))))))))))))))))))))) (fun hHeld => ?_)
       clear hK K
       refine nm ?_
       refine pu 9 (some 26) (bm 10 1023) rfl rfl ?_
       refine done_ (done_of HT_.out (by kernel_rfl)) ?_
       go_upto_if 26 with (fail)
       have H := HC8.out
       clear HC8
       by_cases c11 : t507 = true
       ·subst c11
        rw [if_pos rfl] at H
        have H' := Aside0.mk H
        clear H
        go_wp2
        go_roundg k1
        case measure => have := HK1.out; omega
        case rel => exact ⟨(wrap64 (x5_1 + 1)), zs, H', ⟨by have := HK1.out; omega⟩, ⟨zb HB⟩⟩
       ·replace c11 := Bool.eq_false_iff.mpr c11
        subst c11
        rw [if_neg (show ¬ (false = true) by decide)] at H
        obtain rfl := Option.some.inj H
        go_wp2
        go_ret
        exact ⟨ze, zb HB⟩
      ·rw [if_neg c6] at H
       exact absurd H (by simp)
     ·rw [if_neg c5] at H
      exact absurd H (by simp)
    ·rw [if_neg c4] at H
     have c4b0 := decide_eq_false c4
     clear c4
     obtain rfl := Option.some.inj H
     go_wp2
     go_ret
     exact ⟨ze, zb HB⟩
 ·skip
  have c3b0 : ((l0.length : Int) == (l1.length : Int)) = false := beq_eq_false_iff_ne.mpr c3
  have c3b1 : ((l0.length : Int) != (l1.length : Int)) = true := bne_iff_ne.mpr c3
  have c3b2 : (l0.length == l1.length) = false := by first | simpa using c3 | (simp at c3 ⊢; omega)
  obtain rfl := Option.some.inj H
  go_enter Tryd.func27, Tryd.ntmps27
  go_wp2
  go_ret
  exact ⟨ze, zb HB⟩

/-! ### laws_eqFrame: function 64 -/
-- thin
def laws_eqFrame.f (a0_0 : Int) (a0_1 : Bool) (a0_2 : Int) (a0_3 : ByteArray) (a1_0 : Int) (a1_1 : Bool) (a1_2 : Int) (a1_3 : ByteArray) : Option (Bool) := if a0_0 = a1_0 then (if (a0_1 != a1_1) = true then (some false) else (if a0_2 = a1_2 then (if a0_3.toList = a1_3.toList then (some true) else (some false)) else (some false))) else (some false)
set_option maxHeartbeats 8000000 in
set_option maxRecDepth 100000 in
theorem laws_eqFrame.calls (a0_0 : Int) (a0_1 : Bool) (a0_2 : Int) (a0_3 : ByteArray) (a1_0 : Int) (a1_1 : Bool) (a1_2 : Int) (a1_3 : ByteArray) (r : Bool) (w : World) (h : laws_eqFrame.f a0_0 a0_1 a0_2 a0_3 a1_0 a1_1 a1_2 a1_3 = some r) :
  Calls Tryd.prog 64 #[.agg #[.int .i64 a0_0, .bool a0_1, .int .i64 a0_2, .string a0_3], .agg #[.int .i64 a1_0, .bool a1_1, .int .i64 a1_2, .string a1_3]] w fun e w' => e = .returned (.bool r) ∧ Below w.heap.size w w' := by
 have hu79 := Tryd.underlying79
 have HB := Aside0.mk (Below.refl w.heap.size w)
 have H : (if a0_0 = a1_0 then (if (a0_1 != a1_1) = true then (some false) else (if a0_2 = a1_2 then (if a0_3.toList = a1_3.toList then (some true) else (some false)) else (some false))) else (some false)) = some r := h
 clear h
 have HC3 := Aside0.mk H
 clear H
 go_enter Tryd.func64, Tryd.ntmps64
 go_upto_if 9 with (first | ((with_reducible refine gd 2 rfl ?_); refine bx (N := 2) (cs := #[.int .i64 a0_0, .bool a0_1, .int .i64 a0_2, .string a0_3]) (t := 79) ?_; intro gb508 hg w4 hbox hb; have BK508 := Aside0.mk (hbox); have GW508 := gw HB hg; have GE508 := GW508; replace HB := Aside0.mk (below_step (zb HB) hb); clear hb hbox hg) | ((with_reducible refine gd 3 rfl ?_); refine bx (N := 3) (cs := #[.int .i64 a1_0, .bool a1_1, .int .i64 a1_2, .string a1_3]) (t := 79) ?_; intro gb509 hg w5 hbox hb; have BK509 := Aside0.mk (hbox); have GW509 := gw HB hg; have GE509 := GW509; replace HB := Aside0.mk (below_step (zb HB) hb); obtain ⟨NB508_509, NB509_508⟩ := nb BK508 hg; replace BK508 := kb BK508 hb; clear hb hbox hg; have hnb6 := NB508_509.out; have hnc6 := NB509_508.out; obtain ⟨hcz7_0, hcz7_1, hcz7_2, hcz7_3, hfz7_0, hfz7_1, hfz7_2, hfz7_3⟩ := c4 BK508; obtain ⟨hcz8_0, hcz8_1, hcz8_2, hcz8_3, hfz8_0, hfz8_1, hfz8_2, hfz8_3⟩ := c4 BK509))
 (try simp only [Act.put, s1, s2, s3])
 have H := HC3.out
 clear HC3
 replace H := sp H
 rcases H with ⟨c9, H⟩ | ⟨c9, H⟩
 ·skip
  have c9b0 : (a0_0 == a1_0) = true := beq_iff_eq.mpr c9
  have c9b1 : (a0_0 != a1_0) = false := bne_eq_false_iff_eq.mpr c9
  clear c9
  (first | rw [c9b0] | rw [c9b1] | rw [c9b2] | (simp only [i64_w, i32_w]; rw [c9b0]) | skip)
  by_cases c10 : (a0_1 != a1_1) = true
  ·rw [if_pos c10] at H
   have c10b0 : (a0_1 != a1_1) = true := c10
   (try (have c10b1 : decide (a0_1 = a1_1) = false := by simpa using c10))
   (try (have c10b2 : (a0_1 == a1_1) = false := by simpa using c10))
   (try (have c10b3 : ¬ (a0_1 = a1_1) := by simpa using c10))
   clear c10
   obtain rfl := Option.some.inj H
   have hnb11 := NB508_509.out
   have hnc11 := NB509_508.out
   obtain ⟨hcz12_0, hcz12_1, hcz12_2, hcz12_3, hfz12_0, hfz12_1, hfz12_2, hfz12_3⟩ := c4 BK508
   obtain ⟨hcz13_0, hcz13_1, hcz13_2, hcz13_3, hfz13_0, hfz13_1, hfz13_2, hfz13_3⟩ := c4 BK509
   go_wp2
   go_ret
   exact ⟨ze, zb HB⟩
  ·rw [if_neg c10] at H
   have c10b0 : (a0_1 != a1_1) = false := by simpa using c10
   (try (have c10b1 : decide (a0_1 = a1_1) = true := by simpa using c10))
   (try (have c10b2 : (a0_1 == a1_1) = true := by simpa using c10))
   clear c10
   by_cases c14 : a0_2 = a1_2
   ·rw [if_pos c14] at H
    have c14b0 : (a0_2 == a1_2) = true := beq_iff_eq.mpr c14
    have c14b1 : (a0_2 != a1_2) = false := bne_eq_false_iff_eq.mpr c14
    clear c14
    by_cases c15 : a0_3.toList = a1_3.toList
    ·rw [if_pos c15] at H
     have c15b0 : (a0_3.toList == a1_3.toList) = true := beq_iff_eq.mpr c15
     have c15b1 : (a0_3.toList != a1_3.toList) = false := bne_eq_false_iff_eq.mpr c15
     clear c15
     obtain rfl := Option.some.inj H
     have hnb16 := NB508_509.out
     have hnc16 := NB509_508.out
     obtain ⟨hcz17_0, hcz17_1, hcz17_2, hcz17_3, hfz17_0, hfz17_1, hfz17_2, hfz17_3⟩ := c4 BK508
     obtain ⟨hcz18_0, hcz18_1, hcz18_2, hcz18_3, hfz18_0, hfz18_1, hfz18_2, hfz18_3⟩ := c4 BK509
     go_wp2
     go_ret
     exact ⟨ze, zb HB⟩
    ·rw [if_neg c15] at H
     have c15b0 : (a0_3.toList == a1_3.toList) = false := beq_eq_false_iff_ne.mpr c15
     have c15b1 : (a0_3.toList != a1_3.toList) = true := bne_iff_ne.mpr c15
     obtain rfl := Option.some.inj H
     have hnb19 := NB508_509.out
     have hnc19 := NB509_508.out
     obtain ⟨hcz20_0, hcz20_1, hcz20_2, hcz20_3, hfz20_0, hfz20_1, hfz20_2, hfz20_3⟩ := c4 BK508
     obtain ⟨hcz21_0, hcz21_1, hcz21_2, hcz21_3, hfz21_0, hfz21_1, hfz21_2, hfz21_3⟩ := c4 BK509
     go_wp2
     go_ret
     exact ⟨ze, zb HB⟩
   ·rw [if_neg c14] at H
    have c14b0 : (a0_2 == a1_2) = false := beq_eq_false_iff_ne.mpr c14
    have c14b1 : (a0_2 != a1_2) = true := bne_iff_ne.mpr c14
    obtain rfl := Option.some.inj H
    have hnb22 := NB508_509.out
    have hnc22 := NB509_508.out
    obtain ⟨hcz23_0, hcz23_1, hcz23_2, hcz23_3, hfz23_0, hfz23_1, hfz23_2, hfz23_3⟩ := c4 BK508
    obtain ⟨hcz24_0, hcz24_1, hcz24_2, hcz24_3, hfz24_0, hfz24_1, hfz24_2, hfz24_3⟩ := c4 BK509
    go_wp2
    go_ret
    exact ⟨ze, zb HB⟩
 ·skip
  have c9b0 : (a0_0 == a1_0) = false := beq_eq_false_iff_ne.mpr c9
  have c9b1 : (a0_0 != a1_0) = true := bne_iff_ne.mpr c9
  (first | rw [c9b0] | rw [c9b1] | rw [c9b2] | (simp only [i64_w, i32_w]; rw [c9b0]) | skip)
  obtain rfl := Option.some.inj H
  go_wp2
  go_ret
  exact ⟨ze, zb HB⟩

/-! ### laws_eqFrameS: function 29 -/
-- thin
def laws_eqFrameS.l0 : Nat → List (S79) → List (S79) → Int → Option (Bool)
 | 0, _, _, _ => none
 | k + 1, x0, x1, x5 => if x5 < (x0.length : Int) then (if 0 ≤ x5 then (if x5 < (x1.length : Int) then ((laws_eqFrame.f ((rd_T79 x0 x5).f0) ((rd_T79 x0 x5).f1) ((rd_T79 x0 x5).f2) ((rd_T79 x0 x5).f3) ((rd_T79 x1 x5).f0) ((rd_T79 x1 x5).f1) ((rd_T79 x1 x5).f2) ((rd_T79 x1 x5).f3)).bind fun t512 => (if t512 = true then (laws_eqFrameS.l0 k x0 x1 (wrap64 (x5 + 1))) else (some false))) else (none)) else (none)) else (some true)
def laws_eqFrameS.f (k : Nat) (l0 : List (S79)) (l1 : List (S79)) : Option (Bool) := if (l0.length : Int) = (l1.length : Int) then (laws_eqFrameS.l0 k l0 l1 0) else (some false)
theorem laws_eqFrameS.mono_l : ∀ k, (∀ y0 y1 y2, LeO (laws_eqFrameS.l0 k y0 y1 y2) (laws_eqFrameS.l0 (k + 1) y0 y1 y2))
 | 0 => fun _ _ _ r h => by simp [laws_eqFrameS.l0] at h
 | k + 1 => by
  have ih0 := laws_eqFrameS.mono_l k
  ·intro y0 y1 y2
   unfold laws_eqFrameS.l0
   exact zm
theorem laws_eqFrameS.mono : ∀ a0 a1 k, LeO (laws_eqFrameS.f k a0 a1) (laws_eqFrameS.f (k + 1) a0 a1) := by
 intro a0 a1 k
 have ih0 := laws_eqFrameS.mono_l k
 unfold laws_eqFrameS.f
 exact zm
def laws_eqFrameS.T6 : Bool × List (List Nat × List Nat) := (true, [([], []), ([], []), ([0, 1], [0, 1]), ([2], [2]), ([], []), ([], []), ([4, 5], [4, 5]), ([6], [6]), ([3, 7], [3, 7]), ([8], [8])])
def laws_eqFrameS.B6 : List Nat := [0, 0, 3, 7, 0, 0, 48, 112, 255, 511]
theorem laws_eqFrameS.tab6 : rtab .any (opsOf Tryd.f29 6) = laws_eqFrameS.T6 := by kernel_rfl
theorem laws_eqFrameS.bits6 : waitsOk laws_eqFrameS.T6.2 laws_eqFrameS.B6 = true := by kernel_rfl
set_option maxHeartbeats 8000000 in
set_option maxRecDepth 100000 in
theorem laws_eqFrameS.calls (k : Nat) (A0 : Option Addr) (c0 : Nat) (l0 : List (S79)) (A1 : Option Addr) (c1 : Nat) (l1 : List (S79)) (r : Bool) (w : World) (hr0 : Kd.C k79 w A0 l0.length l0) (hc0 : l0.length ≤ c0) (hr1 : Kd.C k79 w A1 l1.length l1) (hc1 : l1.length ≤ c1) (h : laws_eqFrameS.f k l0 l1 = some r) :
  Calls Tryd.prog 29 #[.slice A0 l0.length c0, .slice A1 l1.length c1] w fun e w' => e = .returned (.bool r) ∧ Below w.heap.size w w' := by
 have hu79 := Tryd.underlying79
 have HR0 := Aside0.mk hr0
 have HC0 := Aside0.mk hc0
 clear hr0 hc0
 have HR1 := Aside0.mk hr1
 have HC1 := Aside0.mk hc1
 clear hr1 hc1
 have HB := Aside0.mk (Below.refl w.heap.size w)
 have H : (if (l0.length : Int) = (l1.length : Int) then (laws_eqFrameS.l0 k l0 l1 0) else (some false)) = some r := h
 clear h
 replace H := sp H
 rcases H with ⟨c3, H⟩ | ⟨c3, H⟩
 ·skip
  have c3b0 : ((l0.length : Int) == (l1.length : Int)) = true := beq_iff_eq.mpr c3
  have c3b1 : ((l0.length : Int) != (l1.length : Int)) = false := bne_eq_false_iff_eq.mpr c3
  have c3b2 : (l0.length == l1.length) = true := by first | simpa using c3 | (simp at c3 ⊢; omega)
  clear c3
  have H' := Aside0.mk H
  clear H
  go_enter Tryd.func29, Tryd.ntmps29
  go_wp2
  go_loopg [5] k (fun kq v5 w' => ∃ (x5_1 : Int), v5 = .int .i64 x5_1 ∧ Aside0 (laws_eqFrameS.l0 kq l0 l1 x5_1 = some r) ∧ Aside0 (kq ≤ k) ∧ Aside0 (Below w.heap.size w w'))
  case atStart => exact ⟨(0), zs, H', ⟨Nat.le_refl _⟩, ⟨zb HB⟩⟩
  case round =>
   clear H'
   try clear c1
   try clear c2
   try clear p2
   try clear c3
   try clear c3b0
   try clear c3b1
   try clear c3b2
   obtain ⟨x5_1, rfl, HA, HK1, HB⟩ := hrel
   cases gk with
   | zero => exact absurd HA.out (by simp [laws_eqFrameS.l0])
   | succ k1 =>
    have H := HA.out
    clear HA
    simp only [laws_eqFrameS.l0] at H
    by_cases c4 : x5_1 < (l0.length : Int)
    ·rw [if_pos c4] at H
     have c4b0 := decide_eq_true c4
     clear c4
     by_cases c5 : 0 ≤ x5_1
     ·rw [if_pos c5] at H
      have c5b0 := decide_eq_true c5
      clear c5
      by_cases c6 : x5_1 < (l1.length : Int)
      ·rw [if_pos c6] at H
       have c6b0 := decide_eq_true c6
       clear c6
       obtain ⟨t512, A7, H⟩ := ob H
       (try dsimp only at H)
       have HC8 := Aside0.mk H
       clear H
       try go_wp2
       replace HB := Aside0.mk (below_drew1 HB.out)
       have p510 : 0 ≤ (x5_1 : Int) := of_decide_eq_true za
       have q510 : x5_1 < (l0.length : Int) := of_decide_eq_true za
       obtain ⟨ad510, e510, hx510_0, hx510_1, hx510_2, hx510_3⟩ := at_T79 HR0.out x5_1 p510 q510
       have hw510_3 := hx510_3
       have hw510_2 := hx510_2
       have hw510_1 := hx510_1
       have hw510_0 := hx510_0
       cases e510
       replace hx510_0 := cb0 hx510_0 HB
       replace hx510_1 := cb0 hx510_1 HB
       replace hx510_2 := cb0 hx510_2 HB
       replace hx510_3 := cb0 hx510_3 HB
       replace p510 := eq_true p510
       replace q510 := eq_true q510
       have p511 : 0 ≤ (x5_1 : Int) := of_decide_eq_true za
       have q511 : x5_1 < (l1.length : Int) := of_decide_eq_true za
       obtain ⟨ad511, e511, hx511_0, hx511_1, hx511_2, hx511_3⟩ := at_T79 HR1.out x5_1 p511 q511
       have hw511_3 := hx511_3
       have hw511_2 := hx511_2
       have hw511_1 := hx511_1
       have hw511_0 := hx511_0
       cases e511
       replace hx511_0 := cb0 hx511_0 HB
       replace hx511_1 := cb0 hx511_1 HB
       replace hx511_2 := cb0 hx511_2 HB
       replace hx511_3 := cb0 hx511_3 HB
       replace p511 := eq_true p511
       replace q511 := eq_true q511
       refine st 10 (an (cb hw510_0 HB) (an (cb hw510_1 HB) (an (cb hw510_2 HB) (an (cb hw510_3 HB) (an (cb hw511_0 HB) (an (cb hw511_1 HB) (an (cb hw511_2 HB) (cb hw511_3 HB)))))))) (fun hHeld => ?_); refine with_tabW laws_eqFrameS.tab6 laws_eqFrameS.bits6 (fun HT_ HW_ => ?_)
       generalize wr.drew = w9 at HB hx510_0 hx510_1 hx510_2 hx510_3 hx511_0 hx511_1 hx511_2 hx511_3 hHeld ⊢
       refine pu 0 (some 17) (bm 10 1) rfl rfl ?_
       refine pu 1 (some 18) (bm 10 3) rfl rfl ?_
       refine pu 2 (some 19) (bm 10 7) rfl rfl ?_
       refine pu 4 (some 21) (bm 10 23) rfl rfl ?_
       refine pu 5 (some 22) (bm 10 55) rfl rfl ?_
       refine pu 6 (some 23) (bm 10 119) rfl rfl ?_
       refine tk 3 (some 20) (bm 10 127) rfl rfl hHeld ?_
       refine tk 7 (some 24) (bm 10 255) rfl rfl hHeld ?_
       refine one_ (i := 8) (N := some 25) (bm 10 511) rfl rfl (one_of HT_.out (by kernel_rfl)) (by decide) (fun K hK => ?_)
       refine gs Tryd.func64 #[.agg #[.int .i64 ((rd_T79 l0 x5_1).f0), .bool ((rd_T79 l0 x5_1).f1), .int .i64 ((rd_T79 l0 x5_1).f2), .string ((rd_T79 l0 x5_1).f3)], .agg #[.int .i64 ((rd_T79 l1 x5_1).f0), .bool ((rd_T79 l1 x5_1).f1), .int .i64 ((rd_T79 l1 x5_1).f2), .string ((rd_T79 l1 x5_1).f3)]] ?_
       with_reducible refine (laws_eqFrame.calls ((rd_T79 l0 x5_1).f0) ((rd_T79 l0 x5_1).f1) ((rd_T79 l0 x5_1).f2) ((rd_T79 l0 x5_1).f3) ((rd_T79 l1 x5_1).f0) ((rd_T79 l1 x5_1).f1) ((rd_T79 l1 x5_1).f2) ((rd_T79 l1 x5_1).f3) t512 _ A7.out).mono ?_
       rintro e w10 ⟨rfl, hb⟩
       refine ⟨_, rfl, ?_⟩
       replace HB := Aside0.mk (below_step (zb HB) hb)
       (try clear hb)
       refine hK.out _ _ (an (cb hw510_0 HB) (an (cb hw510_1 HB) (an (cb hw510_2 HB) (an (cb hw510_3 HB) (an (cb hw511_0 HB) (an (cb hw511_1 HB) (an (cb hw511_2 HB) (cb hw511_3 HB)))))))) (fun hHeld => ?_)
       clear hK K
       refine nm ?_
       refine pu 9 (some 26) (bm 10 1023) rfl rfl ?_
       refine done_ (done_of HT_.out (by kernel_rfl)) ?_
       go_upto_if 26 with (fail)
       have H := HC8.out
       clear HC8
       by_cases c11 : t512 = true
       ·subst c11
        rw [if_pos rfl] at H
        have H' := Aside0.mk H
        clear H
        go_wp2
        go_roundg k1
        case measure => have := HK1.out; omega
        case rel => exact ⟨(wrap64 (x5_1 + 1)), zs, H', ⟨by have := HK1.out; omega⟩, ⟨zb HB⟩⟩
       ·replace c11 := Bool.eq_false_iff.mpr c11
        subst c11
        rw [if_neg (show ¬ (false = true) by decide)] at H
        obtain rfl := Option.some.inj H
        go_wp2
        go_ret
        exact ⟨ze, zb HB⟩
      ·rw [if_neg c6] at H
       exact absurd H (by simp)
     ·rw [if_neg c5] at H
      exact absurd H (by simp)
    ·rw [if_neg c4] at H
     have c4b0 := decide_eq_false c4
     clear c4
     obtain rfl := Option.some.inj H
     go_wp2
     go_ret
     exact ⟨ze, zb HB⟩
 ·skip
  have c3b0 : ((l0.length : Int) == (l1.length : Int)) = false := beq_eq_false_iff_ne.mpr c3
  have c3b1 : ((l0.length : Int) != (l1.length : Int)) = true := bne_iff_ne.mpr c3
  have c3b2 : (l0.length == l1.length) = false := by first | simpa using c3 | (simp at c3 ⊢; omega)
  obtain rfl := Option.some.inj H
  go_enter Tryd.func29, Tryd.ntmps29
  go_wp2
  go_ret
  exact ⟨ze, zb HB⟩

end Go.Proofs.YtlpibelofcabhaaDoor.PFnExactEndCall
