-- WRITTEN BY a turned print (wip/tools of the prover's repo)
import Derived.Test.YtlpibelofcabhaaPFnExactWorldFramesx0
import Derived.Test.YtlpibelofcabhaaPFnExactWorldFramesx6
import Derived.Test.YtlpibelofcabhaaPFnExactWorldFramesx7
namespace Go.Proofs.Ytlpibelofcabhaa.PFnExactWorldFrames
open Go.RowKit Go.Proofs.YtlpibelofcabhaaW.PrintWords Go.Proofs.YtlpibelofcabhaaW.PrintLast Go.Proofs.YtlpibelofcabhaaW.PrintMore Go.Proofs.Ytlpibelofcabhaa.Lm
attribute [local go_sem] max2_int min2_int max_two min_two max_three min_three max_four min_four   -- for this text's walks alone
set_option linter.unusedVariables false
set_option linter.unusedSimpArgs false

/-! ### spec_WorldOk: function 39 -/
-- thin
def spec_WorldOk.f (k : Nat) (a0_0 : Bool) (l0_1 : List (S88)) (a0_2 : Int) (l0_3 : List (S88)) (a0_4 : Int) (a0_5 : ByteArray) (l0_6 : List (S104)) (a0_7 : Int) (a0_8 : Int) (l0_9 : List (S110)) (a0_10 : Bool) (a0_11 : Bool) (l0_12 : List (S88)) (a0_13 : Int) (l0_14 : List (S88)) (a0_15 : Int) (a0_16 : ByteArray) (l0_17 : List (S104)) (a0_18 : Int) (a0_19 : Int) (l0_20 : List (S110)) (a0_21 : Bool) (a0_22 : ByteArray) (a0_23 : ByteArray) : Option (Bool) := (spec_EndOk.f k a0_0 l0_1 a0_2 l0_3 a0_4 a0_5 l0_6 a0_7 a0_8 l0_9 a0_10).bind fun t307 => (if t307 = true then ((spec_EndOk.f k a0_11 l0_12 a0_13 l0_14 a0_15 a0_16 l0_17 a0_18 a0_19 l0_20 a0_21).bind fun t308 => (if t308 = true then (if a0_0 = true then (some false) else (if a0_11 = true then (if (a0_22.size : Int) ≤ 800 then (some (decide ((a0_23.size : Int) ≤ 800))) else (some false)) else (some false))) else (some false))) else (some false))
theorem spec_WorldOk.mono : ∀ a0 a1 a2 a3 a4 a5 a6 a7 a8 a9 a10 a11 a12 a13 a14 a15 a16 a17 a18 a19 a20 a21 a22 a23 k, LeO (spec_WorldOk.f k a0 a1 a2 a3 a4 a5 a6 a7 a8 a9 a10 a11 a12 a13 a14 a15 a16 a17 a18 a19 a20 a21 a22 a23) (spec_WorldOk.f (k + 1) a0 a1 a2 a3 a4 a5 a6 a7 a8 a9 a10 a11 a12 a13 a14 a15 a16 a17 a18 a19 a20 a21 a22 a23) := by
 intro a0 a1 a2 a3 a4 a5 a6 a7 a8 a9 a10 a11 a12 a13 a14 a15 a16 a17 a18 a19 a20 a21 a22 a23 k
 unfold spec_WorldOk.f
 have m0 := @spec_EndOk.mono
 exact zm
set_option maxHeartbeats 8000000 in
set_option maxRecDepth 100000 in
theorem spec_WorldOk.calls (k : Nat) (a0_0 : Bool) (A0_1 : Option Addr) (c0_1 : Nat) (l0_1 : List (S88)) (a0_2 : Int) (A0_3 : Option Addr) (c0_3 : Nat) (l0_3 : List (S88)) (a0_4 : Int) (a0_5 : ByteArray) (A0_6 : Option Addr) (c0_6 : Nat) (l0_6 : List (S104)) (a0_7 : Int) (a0_8 : Int) (A0_9 : Option Addr) (c0_9 : Nat) (l0_9 : List (S110)) (a0_10 : Bool) (a0_11 : Bool) (A0_12 : Option Addr) (c0_12 : Nat) (l0_12 : List (S88)) (a0_13 : Int) (A0_14 : Option Addr) (c0_14 : Nat) (l0_14 : List (S88)) (a0_15 : Int) (a0_16 : ByteArray) (A0_17 : Option Addr) (c0_17 : Nat) (l0_17 : List (S104)) (a0_18 : Int) (a0_19 : Int) (A0_20 : Option Addr) (c0_20 : Nat) (l0_20 : List (S110)) (a0_21 : Bool) (a0_22 : ByteArray) (a0_23 : ByteArray) (r : Bool) (w : World) (hr0_1 : Kd.C k88 w A0_1 l0_1.length l0_1) (hc0_1 : l0_1.length ≤ c0_1) (hr0_3 : Kd.C k88 w A0_3 l0_3.length l0_3) (hc0_3 : l0_3.length ≤ c0_3) (hr0_6 : Kd.C k104 w A0_6 l0_6.length l0_6) (hc0_6 : l0_6.length ≤ c0_6) (hr0_9 : Kd.C k110 w A0_9 l0_9.length l0_9) (hc0_9 : l0_9.length ≤ c0_9) (hr0_12 : Kd.C k88 w A0_12 l0_12.length l0_12) (hc0_12 : l0_12.length ≤ c0_12) (hr0_14 : Kd.C k88 w A0_14 l0_14.length l0_14) (hc0_14 : l0_14.length ≤ c0_14) (hr0_17 : Kd.C k104 w A0_17 l0_17.length l0_17) (hc0_17 : l0_17.length ≤ c0_17) (hr0_20 : Kd.C k110 w A0_20 l0_20.length l0_20) (hc0_20 : l0_20.length ≤ c0_20) (h : spec_WorldOk.f k a0_0 l0_1 a0_2 l0_3 a0_4 a0_5 l0_6 a0_7 a0_8 l0_9 a0_10 a0_11 l0_12 a0_13 l0_14 a0_15 a0_16 l0_17 a0_18 a0_19 l0_20 a0_21 a0_22 a0_23 = some r) :
  Calls Try.prog 39 #[.agg #[.bool a0_0, .slice A0_1 l0_1.length c0_1, .int .i64 a0_2, .slice A0_3 l0_3.length c0_3, .int .i64 a0_4, .string a0_5, .slice A0_6 l0_6.length c0_6, .int .i64 a0_7, .int .i64 a0_8, .slice A0_9 l0_9.length c0_9, .bool a0_10, .bool a0_11, .slice A0_12 l0_12.length c0_12, .int .i64 a0_13, .slice A0_14 l0_14.length c0_14, .int .i64 a0_15, .string a0_16, .slice A0_17 l0_17.length c0_17, .int .i64 a0_18, .int .i64 a0_19, .slice A0_20 l0_20.length c0_20, .bool a0_21, .string a0_22, .string a0_23]] w fun e w' => e = .returned (.bool r) ∧ Below w.heap.size w w' := by
 have hu48 := Try.underlying48
 have hu42 := Try.underlying42
 have HR0_1 := Aside0.mk hr0_1
 have HC0_1 := Aside0.mk hc0_1
 clear hr0_1 hc0_1
 have HR0_3 := Aside0.mk hr0_3
 have HC0_3 := Aside0.mk hc0_3
 clear hr0_3 hc0_3
 have HR0_6 := Aside0.mk hr0_6
 have HC0_6 := Aside0.mk hc0_6
 clear hr0_6 hc0_6
 have HR0_9 := Aside0.mk hr0_9
 have HC0_9 := Aside0.mk hc0_9
 clear hr0_9 hc0_9
 have HR0_12 := Aside0.mk hr0_12
 have HC0_12 := Aside0.mk hc0_12
 clear hr0_12 hc0_12
 have HR0_14 := Aside0.mk hr0_14
 have HC0_14 := Aside0.mk hc0_14
 clear hr0_14 hc0_14
 have HR0_17 := Aside0.mk hr0_17
 have HC0_17 := Aside0.mk hc0_17
 clear hr0_17 hc0_17
 have HR0_20 := Aside0.mk hr0_20
 have HC0_20 := Aside0.mk hc0_20
 clear hr0_20 hc0_20
 have HB := Aside0.mk (Below.refl w.heap.size w)
 have H : ((spec_EndOk.f k a0_0 l0_1 a0_2 l0_3 a0_4 a0_5 l0_6 a0_7 a0_8 l0_9 a0_10).bind fun t307 => (if t307 = true then ((spec_EndOk.f k a0_11 l0_12 a0_13 l0_14 a0_15 a0_16 l0_17 a0_18 a0_19 l0_20 a0_21).bind fun t308 => (if t308 = true then (if a0_0 = true then (some false) else (if a0_11 = true then (if (a0_22.size : Int) ≤ 800 then (some (decide ((a0_23.size : Int) ≤ 800))) else (some false)) else (some false))) else (some false))) else (some false))) = some r := h
 clear h
 obtain ⟨t307, A2, H⟩ := ob H
 (try dsimp only at H)
 by_cases c3 : t307 = true
 ·subst c3
  rw [if_pos rfl] at H
  obtain ⟨t308, A4, H⟩ := ob H
  (try dsimp only at H)
  by_cases c5 : t308 = true
  ·subst c5
   rw [if_pos rfl] at H
   by_cases c6 : a0_0 = true
   ·subst c6
    rw [if_pos rfl] at H
    obtain rfl := Option.some.inj H
    go_enter Try.func39, Try.ntmps39
    go_wp2_with (first | ((with_reducible refine gd 1 rfl ?_); (try (refine gate_guard (by rfl) ?_; dsimp only)); refine bx (N := 1) (cs := #[.bool true, .slice A0_1 l0_1.length c0_1, .int .i64 a0_2, .slice A0_3 l0_3.length c0_3, .int .i64 a0_4, .string a0_5, .slice A0_6 l0_6.length c0_6, .int .i64 a0_7, .int .i64 a0_8, .slice A0_9 l0_9.length c0_9, .bool a0_10, .bool a0_11, .slice A0_12 l0_12.length c0_12, .int .i64 a0_13, .slice A0_14 l0_14.length c0_14, .int .i64 a0_15, .string a0_16, .slice A0_17 l0_17.length c0_17, .int .i64 a0_18, .int .i64 a0_19, .slice A0_20 l0_20.length c0_20, .bool a0_21, .string a0_22, .string a0_23]) (t := 48) ?_; intro gb306 hg w7 hbox hb; have BK306 := Aside0.mk (hbox); have GW306 := gw HB hg; have GE306 := GW306; replace HB := Aside0.mk (below_step (zb HB) hb); clear hb hbox hg; obtain ⟨hcz8_0, hcz8_1, hcz8_2, hcz8_3, hcz8_4, hcz8_5, hcz8_6, hcz8_7, hcz8_8, hcz8_9, hcz8_10, hcz8_11, hcz8_12, hcz8_13, hcz8_14, hcz8_15, hcz8_16, hcz8_17, hcz8_18, hcz8_19, hcz8_20, hcz8_21, hcz8_22, hcz8_23, hfz8_0, hfz8_1, hfz8_2, hfz8_3, hfz8_4, hfz8_5, hfz8_6, hfz8_7, hfz8_8, hfz8_9, hfz8_10, hfz8_11, hfz8_12, hfz8_13, hfz8_14, hfz8_15, hfz8_16, hfz8_17, hfz8_18, hfz8_19, hfz8_20, hfz8_21, hfz8_22, hfz8_23⟩ := c24 BK306) | ((with_reducible refine gq 36 rfl ?_); refine gl (some 5) Try.func36 #[.agg #[.bool true, .slice A0_1 l0_1.length c0_1, .int .i64 a0_2, .slice A0_3 l0_3.length c0_3, .int .i64 a0_4, .string a0_5, .slice A0_6 l0_6.length c0_6, .int .i64 a0_7, .int .i64 a0_8, .slice A0_9 l0_9.length c0_9, .bool a0_10]] ?_; (with_reducible refine (spec_EndOk.calls k true _ _ l0_1 a0_2 _ _ l0_3 a0_4 a0_5 _ _ l0_6 a0_7 a0_8 _ _ l0_9 a0_10 true _ ?side1 ?side2 ?side3 ?side4 ?side5 ?side6 ?side7 ?side8 A2.out).mono ?_); (case side1 => exact zc (Kd.C_below HR0_1.out HB.out)); (case side2 => exact HC0_1.out); (case side3 => exact zc (Kd.C_below HR0_3.out HB.out)); (case side4 => exact HC0_3.out); (case side5 => exact zc (Kd.C_below HR0_6.out HB.out)); (case side6 => exact HC0_6.out); (case side7 => exact zc (Kd.C_below HR0_9.out HB.out)); (case side8 => exact HC0_9.out); rintro e w9 ⟨rfl, hb⟩; refine ⟨_, rfl, ?_⟩; replace BK306 := kb BK306 hb; replace HB := Aside0.mk (below_step (zb HB) hb); (try clear hb); obtain ⟨hcz10_0, hcz10_1, hcz10_2, hcz10_3, hcz10_4, hcz10_5, hcz10_6, hcz10_7, hcz10_8, hcz10_9, hcz10_10, hcz10_11, hcz10_12, hcz10_13, hcz10_14, hcz10_15, hcz10_16, hcz10_17, hcz10_18, hcz10_19, hcz10_20, hcz10_21, hcz10_22, hcz10_23, hfz10_0, hfz10_1, hfz10_2, hfz10_3, hfz10_4, hfz10_5, hfz10_6, hfz10_7, hfz10_8, hfz10_9, hfz10_10, hfz10_11, hfz10_12, hfz10_13, hfz10_14, hfz10_15, hfz10_16, hfz10_17, hfz10_18, hfz10_19, hfz10_20, hfz10_21, hfz10_22, hfz10_23⟩ := c24 BK306) | (go_at_call 36; (with_reducible refine (spec_EndOk.calls k a0_11 _ _ l0_12 a0_13 _ _ l0_14 a0_15 a0_16 _ _ l0_17 a0_18 a0_19 _ _ l0_20 a0_21 true _ ?side1 ?side2 ?side3 ?side4 ?side5 ?side6 ?side7 ?side8 A4.out).mono ?_); (case side1 => exact zc (Kd.C_below HR0_12.out HB.out)); (case side2 => exact HC0_12.out); (case side3 => exact zc (Kd.C_below HR0_14.out HB.out)); (case side4 => exact HC0_14.out); (case side5 => exact zc (Kd.C_below HR0_17.out HB.out)); (case side6 => exact HC0_17.out); (case side7 => exact zc (Kd.C_below HR0_20.out HB.out)); (case side8 => exact HC0_20.out); rintro e w11 ⟨rfl, hb⟩; replace BK306 := kb BK306 hb; replace HB := Aside0.mk (below_step (zb HB) hb); (try clear hb); obtain ⟨hcz12_0, hcz12_1, hcz12_2, hcz12_3, hcz12_4, hcz12_5, hcz12_6, hcz12_7, hcz12_8, hcz12_9, hcz12_10, hcz12_11, hcz12_12, hcz12_13, hcz12_14, hcz12_15, hcz12_16, hcz12_17, hcz12_18, hcz12_19, hcz12_20, hcz12_21, hcz12_22, hcz12_23, hfz12_0, hfz12_1, hfz12_2, hfz12_3, hfz12_4, hfz12_5, hfz12_6, hfz12_7, hfz12_8, hfz12_9, hfz12_10, hfz12_11, hfz12_12, hfz12_13, hfz12_14, hfz12_15, hfz12_16, hfz12_17, hfz12_18, hfz12_19, hfz12_20, hfz12_21, hfz12_22, hfz12_23⟩ := c24 BK306))
    go_ret
    exact ⟨ze, zb HB⟩
   ·replace c6 := Bool.eq_false_iff.mpr c6
    subst c6
    rw [if_neg (show ¬ (false = true) by decide)] at H
    by_cases c13 : a0_11 = true
    ·subst c13
     rw [if_pos rfl] at H
     replace H := sp H
     rcases H with ⟨c14, H⟩ | ⟨c14, H⟩
     ·skip
      have c14b0 := decide_eq_true c14
      have c14b1 := decide_eq_true (by omega)
      clear c14
      obtain rfl := Option.some.inj H
      go_enter Try.func39, Try.ntmps39
      go_wp2_with (first | ((with_reducible refine gd 1 rfl ?_); (try (refine gate_guard (by rfl) ?_; dsimp only)); refine bx (N := 1) (cs := #[.bool false, .slice A0_1 l0_1.length c0_1, .int .i64 a0_2, .slice A0_3 l0_3.length c0_3, .int .i64 a0_4, .string a0_5, .slice A0_6 l0_6.length c0_6, .int .i64 a0_7, .int .i64 a0_8, .slice A0_9 l0_9.length c0_9, .bool a0_10, .bool true, .slice A0_12 l0_12.length c0_12, .int .i64 a0_13, .slice A0_14 l0_14.length c0_14, .int .i64 a0_15, .string a0_16, .slice A0_17 l0_17.length c0_17, .int .i64 a0_18, .int .i64 a0_19, .slice A0_20 l0_20.length c0_20, .bool a0_21, .string a0_22, .string a0_23]) (t := 48) ?_; intro gb306 hg w15 hbox hb; have BK306 := Aside0.mk (hbox); have GW306 := gw HB hg; have GE306 := GW306; replace HB := Aside0.mk (below_step (zb HB) hb); clear hb hbox hg; obtain ⟨hcz16_0, hcz16_1, hcz16_2, hcz16_3, hcz16_4, hcz16_5, hcz16_6, hcz16_7, hcz16_8, hcz16_9, hcz16_10, hcz16_11, hcz16_12, hcz16_13, hcz16_14, hcz16_15, hcz16_16, hcz16_17, hcz16_18, hcz16_19, hcz16_20, hcz16_21, hcz16_22, hcz16_23, hfz16_0, hfz16_1, hfz16_2, hfz16_3, hfz16_4, hfz16_5, hfz16_6, hfz16_7, hfz16_8, hfz16_9, hfz16_10, hfz16_11, hfz16_12, hfz16_13, hfz16_14, hfz16_15, hfz16_16, hfz16_17, hfz16_18, hfz16_19, hfz16_20, hfz16_21, hfz16_22, hfz16_23⟩ := c24 BK306) | ((with_reducible refine gq 36 rfl ?_); refine gl (some 5) Try.func36 #[.agg #[.bool false, .slice A0_1 l0_1.length c0_1, .int .i64 a0_2, .slice A0_3 l0_3.length c0_3, .int .i64 a0_4, .string a0_5, .slice A0_6 l0_6.length c0_6, .int .i64 a0_7, .int .i64 a0_8, .slice A0_9 l0_9.length c0_9, .bool a0_10]] ?_; (with_reducible refine (spec_EndOk.calls k false _ _ l0_1 a0_2 _ _ l0_3 a0_4 a0_5 _ _ l0_6 a0_7 a0_8 _ _ l0_9 a0_10 true _ ?side1 ?side2 ?side3 ?side4 ?side5 ?side6 ?side7 ?side8 A2.out).mono ?_); (case side1 => exact zc (Kd.C_below HR0_1.out HB.out)); (case side2 => exact HC0_1.out); (case side3 => exact zc (Kd.C_below HR0_3.out HB.out)); (case side4 => exact HC0_3.out); (case side5 => exact zc (Kd.C_below HR0_6.out HB.out)); (case side6 => exact HC0_6.out); (case side7 => exact zc (Kd.C_below HR0_9.out HB.out)); (case side8 => exact HC0_9.out); rintro e w17 ⟨rfl, hb⟩; refine ⟨_, rfl, ?_⟩; replace BK306 := kb BK306 hb; replace HB := Aside0.mk (below_step (zb HB) hb); (try clear hb); obtain ⟨hcz18_0, hcz18_1, hcz18_2, hcz18_3, hcz18_4, hcz18_5, hcz18_6, hcz18_7, hcz18_8, hcz18_9, hcz18_10, hcz18_11, hcz18_12, hcz18_13, hcz18_14, hcz18_15, hcz18_16, hcz18_17, hcz18_18, hcz18_19, hcz18_20, hcz18_21, hcz18_22, hcz18_23, hfz18_0, hfz18_1, hfz18_2, hfz18_3, hfz18_4, hfz18_5, hfz18_6, hfz18_7, hfz18_8, hfz18_9, hfz18_10, hfz18_11, hfz18_12, hfz18_13, hfz18_14, hfz18_15, hfz18_16, hfz18_17, hfz18_18, hfz18_19, hfz18_20, hfz18_21, hfz18_22, hfz18_23⟩ := c24 BK306) | (go_at_call 36; (with_reducible refine (spec_EndOk.calls k true _ _ l0_12 a0_13 _ _ l0_14 a0_15 a0_16 _ _ l0_17 a0_18 a0_19 _ _ l0_20 a0_21 true _ ?side1 ?side2 ?side3 ?side4 ?side5 ?side6 ?side7 ?side8 A4.out).mono ?_); (case side1 => exact zc (Kd.C_below HR0_12.out HB.out)); (case side2 => exact HC0_12.out); (case side3 => exact zc (Kd.C_below HR0_14.out HB.out)); (case side4 => exact HC0_14.out); (case side5 => exact zc (Kd.C_below HR0_17.out HB.out)); (case side6 => exact HC0_17.out); (case side7 => exact zc (Kd.C_below HR0_20.out HB.out)); (case side8 => exact HC0_20.out); rintro e w19 ⟨rfl, hb⟩; replace BK306 := kb BK306 hb; replace HB := Aside0.mk (below_step (zb HB) hb); (try clear hb); obtain ⟨hcz20_0, hcz20_1, hcz20_2, hcz20_3, hcz20_4, hcz20_5, hcz20_6, hcz20_7, hcz20_8, hcz20_9, hcz20_10, hcz20_11, hcz20_12, hcz20_13, hcz20_14, hcz20_15, hcz20_16, hcz20_17, hcz20_18, hcz20_19, hcz20_20, hcz20_21, hcz20_22, hcz20_23, hfz20_0, hfz20_1, hfz20_2, hfz20_3, hfz20_4, hfz20_5, hfz20_6, hfz20_7, hfz20_8, hfz20_9, hfz20_10, hfz20_11, hfz20_12, hfz20_13, hfz20_14, hfz20_15, hfz20_16, hfz20_17, hfz20_18, hfz20_19, hfz20_20, hfz20_21, hfz20_22, hfz20_23⟩ := c24 BK306))
      go_ret
      exact ⟨ze, zb HB⟩
     ·skip
      have c14b0 := decide_eq_false c14
      have c14b1 := decide_eq_false (by omega)
      clear c14
      obtain rfl := Option.some.inj H
      go_enter Try.func39, Try.ntmps39
      go_wp2_with (first | ((with_reducible refine gd 1 rfl ?_); (try (refine gate_guard (by rfl) ?_; dsimp only)); refine bx (N := 1) (cs := #[.bool false, .slice A0_1 l0_1.length c0_1, .int .i64 a0_2, .slice A0_3 l0_3.length c0_3, .int .i64 a0_4, .string a0_5, .slice A0_6 l0_6.length c0_6, .int .i64 a0_7, .int .i64 a0_8, .slice A0_9 l0_9.length c0_9, .bool a0_10, .bool true, .slice A0_12 l0_12.length c0_12, .int .i64 a0_13, .slice A0_14 l0_14.length c0_14, .int .i64 a0_15, .string a0_16, .slice A0_17 l0_17.length c0_17, .int .i64 a0_18, .int .i64 a0_19, .slice A0_20 l0_20.length c0_20, .bool a0_21, .string a0_22, .string a0_23]) (t := 48) ?_; intro gb306 hg w21 hbox hb; have BK306 := Aside0.mk (hbox); have GW306 := gw HB hg; have GE306 := GW306; replace HB := Aside0.mk (below_step (zb HB) hb); clear hb hbox hg; obtain ⟨hcz22_0, hcz22_1, hcz22_2, hcz22_3, hcz22_4, hcz22_5, hcz22_6, hcz22_7, hcz22_8, hcz22_9, hcz22_10, hcz22_11, hcz22_12, hcz22_13, hcz22_14, hcz22_15, hcz22_16, hcz22_17, hcz22_18, hcz22_19, hcz22_20, hcz22_21, hcz22_22, hcz22_23, hfz22_0, hfz22_1, hfz22_2, hfz22_3, hfz22_4, hfz22_5, hfz22_6, hfz22_7, hfz22_8, hfz22_9, hfz22_10, hfz22_11, hfz22_12, hfz22_13, hfz22_14, hfz22_15, hfz22_16, hfz22_17, hfz22_18, hfz22_19, hfz22_20, hfz22_21, hfz22_22, hfz22_23⟩ := c24 BK306) | ((with_reducible refine gq 36 rfl ?_); refine gl (some 5) Try.func36 #[.agg #[.bool false, .slice A0_1 l0_1.length c0_1, .int .i64 a0_2, .slice A0_3 l0_3.length c0_3, .int .i64 a0_4, .string a0_5, .slice A0_6 l0_6.length c0_6, .int .i64 a0_7, .int .i64 a0_8, .slice A0_9 l0_9.length c0_9, .bool a0_10]] ?_; (with_reducible refine (spec_EndOk.calls k false _ _ l0_1 a0_2 _ _ l0_3 a0_4 a0_5 _ _ l0_6 a0_7 a0_8 _ _ l0_9 a0_10 true _ ?side1 ?side2 ?side3 ?side4 ?side5 ?side6 ?side7 ?side8 A2.out).mono ?_); (case side1 => exact zc (Kd.C_below HR0_1.out HB.out)); (case side2 => exact HC0_1.out); (case side3 => exact zc (Kd.C_below HR0_3.out HB.out)); (case side4 => exact HC0_3.out); (case side5 => exact zc (Kd.C_below HR0_6.out HB.out)); (case side6 => exact HC0_6.out); (case side7 => exact zc (Kd.C_below HR0_9.out HB.out)); (case side8 => exact HC0_9.out); rintro e w23 ⟨rfl, hb⟩; refine ⟨_, rfl, ?_⟩; replace BK306 := kb BK306 hb; replace HB := Aside0.mk (below_step (zb HB) hb); (try clear hb); obtain ⟨hcz24_0, hcz24_1, hcz24_2, hcz24_3, hcz24_4, hcz24_5, hcz24_6, hcz24_7, hcz24_8, hcz24_9, hcz24_10, hcz24_11, hcz24_12, hcz24_13, hcz24_14, hcz24_15, hcz24_16, hcz24_17, hcz24_18, hcz24_19, hcz24_20, hcz24_21, hcz24_22, hcz24_23, hfz24_0, hfz24_1, hfz24_2, hfz24_3, hfz24_4, hfz24_5, hfz24_6, hfz24_7, hfz24_8, hfz24_9, hfz24_10, hfz24_11, hfz24_12, hfz24_13, hfz24_14, hfz24_15, hfz24_16, hfz24_17, hfz24_18, hfz24_19, hfz24_20, hfz24_21, hfz24_22, hfz24_23⟩ := c24 BK306) | (go_at_call 36; (with_reducible refine (spec_EndOk.calls k true _ _ l0_12 a0_13 _ _ l0_14 a0_15 a0_16 _ _ l0_17 a0_18 a0_19 _ _ l0_20 a0_21 true _ ?side1 ?side2 ?side3 ?side4 ?side5 ?side6 ?side7 ?side8 A4.out).mono ?_); (case side1 => exact zc (Kd.C_below HR0_12.out HB.out)); (case side2 => exact HC0_12.out); (case side3 => exact zc (Kd.C_below HR0_14.out HB.out)); (case side4 => exact HC0_14.out); (case side5 => exact zc (Kd.C_below HR0_17.out HB.out)); (case side6 => exact HC0_17.out); (case side7 => exact zc (Kd.C_below HR0_20.out HB.out)); (case side8 => exact HC0_20.out); rintro e w25 ⟨rfl, hb⟩; replace BK306 := kb BK306 hb; replace HB := Aside0.mk (below_step (zb HB) hb); (try clear hb); obtain ⟨hcz26_0, hcz26_1, hcz26_2, hcz26_3, hcz26_4, hcz26_5, hcz26_6, hcz26_7, hcz26_8, hcz26_9, hcz26_10, hcz26_11, hcz26_12, hcz26_13, hcz26_14, hcz26_15, hcz26_16, hcz26_17, hcz26_18, hcz26_19, hcz26_20, hcz26_21, hcz26_22, hcz26_23, hfz26_0, hfz26_1, hfz26_2, hfz26_3, hfz26_4, hfz26_5, hfz26_6, hfz26_7, hfz26_8, hfz26_9, hfz26_10, hfz26_11, hfz26_12, hfz26_13, hfz26_14, hfz26_15, hfz26_16, hfz26_17, hfz26_18, hfz26_19, hfz26_20, hfz26_21, hfz26_22, hfz26_23⟩ := c24 BK306))
      go_ret
      exact ⟨ze, zb HB⟩
    ·replace c13 := Bool.eq_false_iff.mpr c13
     subst c13
     rw [if_neg (show ¬ (false = true) by decide)] at H
     obtain rfl := Option.some.inj H
     go_enter Try.func39, Try.ntmps39
     go_wp2_with (first | ((with_reducible refine gd 1 rfl ?_); (try (refine gate_guard (by rfl) ?_; dsimp only)); refine bx (N := 1) (cs := #[.bool false, .slice A0_1 l0_1.length c0_1, .int .i64 a0_2, .slice A0_3 l0_3.length c0_3, .int .i64 a0_4, .string a0_5, .slice A0_6 l0_6.length c0_6, .int .i64 a0_7, .int .i64 a0_8, .slice A0_9 l0_9.length c0_9, .bool a0_10, .bool false, .slice A0_12 l0_12.length c0_12, .int .i64 a0_13, .slice A0_14 l0_14.length c0_14, .int .i64 a0_15, .string a0_16, .slice A0_17 l0_17.length c0_17, .int .i64 a0_18, .int .i64 a0_19, .slice A0_20 l0_20.length c0_20, .bool a0_21, .string a0_22, .string a0_23]) (t := 48) ?_; intro gb306 hg w27 hbox hb; have BK306 := Aside0.mk (hbox); have GW306 := gw HB hg; have GE306 := GW306; replace HB := Aside0.mk (below_step (zb HB) hb); clear hb hbox hg; obtain ⟨hcz28_0, hcz28_1, hcz28_2, hcz28_3, hcz28_4, hcz28_5, hcz28_6, hcz28_7, hcz28_8, hcz28_9, hcz28_10, hcz28_11, hcz28_12, hcz28_13, hcz28_14, hcz28_15, hcz28_16, hcz28_17, hcz28_18, hcz28_19, hcz28_20, hcz28_21, hcz28_22, hcz28_23, hfz28_0, hfz28_1, hfz28_2, hfz28_3, hfz28_4, hfz28_5, hfz28_6, hfz28_7, hfz28_8, hfz28_9, hfz28_10, hfz28_11, hfz28_12, hfz28_13, hfz28_14, hfz28_15, hfz28_16, hfz28_17, hfz28_18, hfz28_19, hfz28_20, hfz28_21, hfz28_22, hfz28_23⟩ := c24 BK306) | ((with_reducible refine gq 36 rfl ?_); refine gl (some 5) Try.func36 #[.agg #[.bool false, .slice A0_1 l0_1.length c0_1, .int .i64 a0_2, .slice A0_3 l0_3.length c0_3, .int .i64 a0_4, .string a0_5, .slice A0_6 l0_6.length c0_6, .int .i64 a0_7, .int .i64 a0_8, .slice A0_9 l0_9.length c0_9, .bool a0_10]] ?_; (with_reducible refine (spec_EndOk.calls k false _ _ l0_1 a0_2 _ _ l0_3 a0_4 a0_5 _ _ l0_6 a0_7 a0_8 _ _ l0_9 a0_10 true _ ?side1 ?side2 ?side3 ?side4 ?side5 ?side6 ?side7 ?side8 A2.out).mono ?_); (case side1 => exact zc (Kd.C_below HR0_1.out HB.out)); (case side2 => exact HC0_1.out); (case side3 => exact zc (Kd.C_below HR0_3.out HB.out)); (case side4 => exact HC0_3.out); (case side5 => exact zc (Kd.C_below HR0_6.out HB.out)); (case side6 => exact HC0_6.out); (case side7 => exact zc (Kd.C_below HR0_9.out HB.out)); (case side8 => exact HC0_9.out); rintro e w29 ⟨rfl, hb⟩; refine ⟨_, rfl, ?_⟩; replace BK306 := kb BK306 hb; replace HB := Aside0.mk (below_step (zb HB) hb); (try clear hb); obtain ⟨hcz30_0, hcz30_1, hcz30_2, hcz30_3, hcz30_4, hcz30_5, hcz30_6, hcz30_7, hcz30_8, hcz30_9, hcz30_10, hcz30_11, hcz30_12, hcz30_13, hcz30_14, hcz30_15, hcz30_16, hcz30_17, hcz30_18, hcz30_19, hcz30_20, hcz30_21, hcz30_22, hcz30_23, hfz30_0, hfz30_1, hfz30_2, hfz30_3, hfz30_4, hfz30_5, hfz30_6, hfz30_7, hfz30_8, hfz30_9, hfz30_10, hfz30_11, hfz30_12, hfz30_13, hfz30_14, hfz30_15, hfz30_16, hfz30_17, hfz30_18, hfz30_19, hfz30_20, hfz30_21, hfz30_22, hfz30_23⟩ := c24 BK306) | (go_at_call 36; (with_reducible refine (spec_EndOk.calls k false _ _ l0_12 a0_13 _ _ l0_14 a0_15 a0_16 _ _ l0_17 a0_18 a0_19 _ _ l0_20 a0_21 true _ ?side1 ?side2 ?side3 ?side4 ?side5 ?side6 ?side7 ?side8 A4.out).mono ?_); (case side1 => exact zc (Kd.C_below HR0_12.out HB.out)); (case side2 => exact HC0_12.out); (case side3 => exact zc (Kd.C_below HR0_14.out HB.out)); (case side4 => exact HC0_14.out); (case side5 => exact zc (Kd.C_below HR0_17.out HB.out)); (case side6 => exact HC0_17.out); (case side7 => exact zc (Kd.C_below HR0_20.out HB.out)); (case side8 => exact HC0_20.out); rintro e w31 ⟨rfl, hb⟩; replace BK306 := kb BK306 hb; replace HB := Aside0.mk (below_step (zb HB) hb); (try clear hb); obtain ⟨hcz32_0, hcz32_1, hcz32_2, hcz32_3, hcz32_4, hcz32_5, hcz32_6, hcz32_7, hcz32_8, hcz32_9, hcz32_10, hcz32_11, hcz32_12, hcz32_13, hcz32_14, hcz32_15, hcz32_16, hcz32_17, hcz32_18, hcz32_19, hcz32_20, hcz32_21, hcz32_22, hcz32_23, hfz32_0, hfz32_1, hfz32_2, hfz32_3, hfz32_4, hfz32_5, hfz32_6, hfz32_7, hfz32_8, hfz32_9, hfz32_10, hfz32_11, hfz32_12, hfz32_13, hfz32_14, hfz32_15, hfz32_16, hfz32_17, hfz32_18, hfz32_19, hfz32_20, hfz32_21, hfz32_22, hfz32_23⟩ := c24 BK306))
     go_ret
     exact ⟨ze, zb HB⟩
  ·replace c5 := Bool.eq_false_iff.mpr c5
   subst c5
   rw [if_neg (show ¬ (false = true) by decide)] at H
   obtain rfl := Option.some.inj H
   go_enter Try.func39, Try.ntmps39
   go_wp2_with (first | ((with_reducible refine gd 1 rfl ?_); (try (refine gate_guard (by rfl) ?_; dsimp only)); refine bx (N := 1) (cs := #[.bool a0_0, .slice A0_1 l0_1.length c0_1, .int .i64 a0_2, .slice A0_3 l0_3.length c0_3, .int .i64 a0_4, .string a0_5, .slice A0_6 l0_6.length c0_6, .int .i64 a0_7, .int .i64 a0_8, .slice A0_9 l0_9.length c0_9, .bool a0_10, .bool a0_11, .slice A0_12 l0_12.length c0_12, .int .i64 a0_13, .slice A0_14 l0_14.length c0_14, .int .i64 a0_15, .string a0_16, .slice A0_17 l0_17.length c0_17, .int .i64 a0_18, .int .i64 a0_19, .slice A0_20 l0_20.length c0_20, .bool a0_21, .string a0_22, .string a0_23]) (t := 48) ?_; intro gb306 hg w33 hbox hb; have BK306 := Aside0.mk (hbox); have GW306 := gw HB hg; have GE306 := GW306; replace HB := Aside0.mk (below_step (zb HB) hb); clear hb hbox hg; obtain ⟨hcz34_0, hcz34_1, hcz34_2, hcz34_3, hcz34_4, hcz34_5, hcz34_6, hcz34_7, hcz34_8, hcz34_9, hcz34_10, hcz34_11, hcz34_12, hcz34_13, hcz34_14, hcz34_15, hcz34_16, hcz34_17, hcz34_18, hcz34_19, hcz34_20, hcz34_21, hcz34_22, hcz34_23, hfz34_0, hfz34_1, hfz34_2, hfz34_3, hfz34_4, hfz34_5, hfz34_6, hfz34_7, hfz34_8, hfz34_9, hfz34_10, hfz34_11, hfz34_12, hfz34_13, hfz34_14, hfz34_15, hfz34_16, hfz34_17, hfz34_18, hfz34_19, hfz34_20, hfz34_21, hfz34_22, hfz34_23⟩ := c24 BK306) | ((with_reducible refine gq 36 rfl ?_); refine gl (some 5) Try.func36 #[.agg #[.bool a0_0, .slice A0_1 l0_1.length c0_1, .int .i64 a0_2, .slice A0_3 l0_3.length c0_3, .int .i64 a0_4, .string a0_5, .slice A0_6 l0_6.length c0_6, .int .i64 a0_7, .int .i64 a0_8, .slice A0_9 l0_9.length c0_9, .bool a0_10]] ?_; (with_reducible refine (spec_EndOk.calls k a0_0 _ _ l0_1 a0_2 _ _ l0_3 a0_4 a0_5 _ _ l0_6 a0_7 a0_8 _ _ l0_9 a0_10 true _ ?side1 ?side2 ?side3 ?side4 ?side5 ?side6 ?side7 ?side8 A2.out).mono ?_); (case side1 => exact zc (Kd.C_below HR0_1.out HB.out)); (case side2 => exact HC0_1.out); (case side3 => exact zc (Kd.C_below HR0_3.out HB.out)); (case side4 => exact HC0_3.out); (case side5 => exact zc (Kd.C_below HR0_6.out HB.out)); (case side6 => exact HC0_6.out); (case side7 => exact zc (Kd.C_below HR0_9.out HB.out)); (case side8 => exact HC0_9.out); rintro e w35 ⟨rfl, hb⟩; refine ⟨_, rfl, ?_⟩; replace BK306 := kb BK306 hb; replace HB := Aside0.mk (below_step (zb HB) hb); (try clear hb); obtain ⟨hcz36_0, hcz36_1, hcz36_2, hcz36_3, hcz36_4, hcz36_5, hcz36_6, hcz36_7, hcz36_8, hcz36_9, hcz36_10, hcz36_11, hcz36_12, hcz36_13, hcz36_14, hcz36_15, hcz36_16, hcz36_17, hcz36_18, hcz36_19, hcz36_20, hcz36_21, hcz36_22, hcz36_23, hfz36_0, hfz36_1, hfz36_2, hfz36_3, hfz36_4, hfz36_5, hfz36_6, hfz36_7, hfz36_8, hfz36_9, hfz36_10, hfz36_11, hfz36_12, hfz36_13, hfz36_14, hfz36_15, hfz36_16, hfz36_17, hfz36_18, hfz36_19, hfz36_20, hfz36_21, hfz36_22, hfz36_23⟩ := c24 BK306) | (go_at_call 36; (with_reducible refine (spec_EndOk.calls k a0_11 _ _ l0_12 a0_13 _ _ l0_14 a0_15 a0_16 _ _ l0_17 a0_18 a0_19 _ _ l0_20 a0_21 false _ ?side1 ?side2 ?side3 ?side4 ?side5 ?side6 ?side7 ?side8 A4.out).mono ?_); (case side1 => exact zc (Kd.C_below HR0_12.out HB.out)); (case side2 => exact HC0_12.out); (case side3 => exact zc (Kd.C_below HR0_14.out HB.out)); (case side4 => exact HC0_14.out); (case side5 => exact zc (Kd.C_below HR0_17.out HB.out)); (case side6 => exact HC0_17.out); (case side7 => exact zc (Kd.C_below HR0_20.out HB.out)); (case side8 => exact HC0_20.out); rintro e w37 ⟨rfl, hb⟩; replace BK306 := kb BK306 hb; replace HB := Aside0.mk (below_step (zb HB) hb); (try clear hb)))
   go_ret
   exact ⟨ze, zb HB⟩
 ·replace c3 := Bool.eq_false_iff.mpr c3
  subst c3
  rw [if_neg (show ¬ (false = true) by decide)] at H
  obtain rfl := Option.some.inj H
  go_enter Try.func39, Try.ntmps39
  go_wp2_with (first | ((with_reducible refine gd 1 rfl ?_); (try (refine gate_guard (by rfl) ?_; dsimp only)); refine bx (N := 1) (cs := #[.bool a0_0, .slice A0_1 l0_1.length c0_1, .int .i64 a0_2, .slice A0_3 l0_3.length c0_3, .int .i64 a0_4, .string a0_5, .slice A0_6 l0_6.length c0_6, .int .i64 a0_7, .int .i64 a0_8, .slice A0_9 l0_9.length c0_9, .bool a0_10, .bool a0_11, .slice A0_12 l0_12.length c0_12, .int .i64 a0_13, .slice A0_14 l0_14.length c0_14, .int .i64 a0_15, .string a0_16, .slice A0_17 l0_17.length c0_17, .int .i64 a0_18, .int .i64 a0_19, .slice A0_20 l0_20.length c0_20, .bool a0_21, .string a0_22, .string a0_23]) (t := 48) ?_; intro gb306 hg w38 hbox hb; have BK306 := Aside0.mk (hbox); have GW306 := gw HB hg; have GE306 := GW306; replace HB := Aside0.mk (below_step (zb HB) hb); clear hb hbox hg; obtain ⟨hcz39_0, hcz39_1, hcz39_2, hcz39_3, hcz39_4, hcz39_5, hcz39_6, hcz39_7, hcz39_8, hcz39_9, hcz39_10, hcz39_11, hcz39_12, hcz39_13, hcz39_14, hcz39_15, hcz39_16, hcz39_17, hcz39_18, hcz39_19, hcz39_20, hcz39_21, hcz39_22, hcz39_23, hfz39_0, hfz39_1, hfz39_2, hfz39_3, hfz39_4, hfz39_5, hfz39_6, hfz39_7, hfz39_8, hfz39_9, hfz39_10, hfz39_11, hfz39_12, hfz39_13, hfz39_14, hfz39_15, hfz39_16, hfz39_17, hfz39_18, hfz39_19, hfz39_20, hfz39_21, hfz39_22, hfz39_23⟩ := c24 BK306) | ((with_reducible refine gq 36 rfl ?_); refine gl (some 5) Try.func36 #[.agg #[.bool a0_0, .slice A0_1 l0_1.length c0_1, .int .i64 a0_2, .slice A0_3 l0_3.length c0_3, .int .i64 a0_4, .string a0_5, .slice A0_6 l0_6.length c0_6, .int .i64 a0_7, .int .i64 a0_8, .slice A0_9 l0_9.length c0_9, .bool a0_10]] ?_; (with_reducible refine (spec_EndOk.calls k a0_0 _ _ l0_1 a0_2 _ _ l0_3 a0_4 a0_5 _ _ l0_6 a0_7 a0_8 _ _ l0_9 a0_10 false _ ?side1 ?side2 ?side3 ?side4 ?side5 ?side6 ?side7 ?side8 A2.out).mono ?_); (case side1 => exact zc (Kd.C_below HR0_1.out HB.out)); (case side2 => exact HC0_1.out); (case side3 => exact zc (Kd.C_below HR0_3.out HB.out)); (case side4 => exact HC0_3.out); (case side5 => exact zc (Kd.C_below HR0_6.out HB.out)); (case side6 => exact HC0_6.out); (case side7 => exact zc (Kd.C_below HR0_9.out HB.out)); (case side8 => exact HC0_9.out); rintro e w40 ⟨rfl, hb⟩; refine ⟨_, rfl, ?_⟩; replace BK306 := kb BK306 hb; replace HB := Aside0.mk (below_step (zb HB) hb); (try clear hb)))
  go_ret
  exact ⟨ze, zb HB⟩

/-! ### spec_l12Read: function 99 -/
-- thin
def spec_l12Read.j0 : Nat → ByteArray → Int → Bool → Option (Int × Bool × Int × ByteArray × Int × Int)
 | 0, _, _, _ => none
 | k + 1, x0, x5, x20 => if x20 = true then (some (0, false, 0, (⟨#[]⟩ : ByteArray), 0, (-1))) else (if (x0.size : Int) < (wrap64 (4 + x5)) then (some (0, false, 0, (⟨#[]⟩ : ByteArray), 0, 0)) else (if 1 < (x0.size : Int) then (if 2 < (x0.size : Int) then (if 3 < (x0.size : Int) then (if 4 ≤ (wrap64 (4 + x5)) then (if (wrap64 (4 + x5)) ≤ (x0.size : Int) then ((spec_FrameOk.f k (wrap64 (bt x0 1)) ((bt x0 2) == 1) (wrap64 (bt x0 3)) (x0.extract 4 ((wrap64 (4 + x5)) : Int).toNat)).bind fun t311 => (if t311 = true then (some (wrap64 (bt x0 1), ((bt x0 2) == 1), wrap64 (bt x0 3), x0.extract 4 ((wrap64 (4 + x5)) : Int).toNat, wrap64 (4 + x5), 1)) else (some (0, false, 0, (⟨#[]⟩ : ByteArray), 0, (-1))))) else (none)) else (none)) else (none)) else (none)) else (none)))
def spec_l12Read.f (k : Nat) (a0 : ByteArray) : Option (Int × Bool × Int × ByteArray × Int × Int) := if (a0.size : Int) < 4 then (some (0, false, 0, (⟨#[]⟩ : ByteArray), 0, 0)) else (if 0 < (a0.size : Int) then (if (wrap64 (bt a0 0)) > 200 then (spec_l12Read.j0 k a0 (wrap64 (bt a0 0)) true) else (if 2 < (a0.size : Int) then (spec_l12Read.j0 k a0 (wrap64 (bt a0 0)) (decide ((bt a0 2) > 1))) else (none))) else (none))
theorem spec_l12Read.mono_l : ∀ k, (∀ y0 y1 y2, LeO (spec_l12Read.j0 k y0 y1 y2) (spec_l12Read.j0 (k + 1) y0 y1 y2))
 | 0 => fun _ _ _ r h => by simp [spec_l12Read.j0] at h
 | k + 1 => by
  have ih0 := spec_l12Read.mono_l k
  ·intro y0 y1 y2
   unfold spec_l12Read.j0
   have m0 := @spec_FrameOk.mono
   exact zm
theorem spec_l12Read.mono : ∀ a0 k, LeO (spec_l12Read.f k a0) (spec_l12Read.f (k + 1) a0) := by
 intro a0 k
 have ih0 := spec_l12Read.mono_l k
 unfold spec_l12Read.f
 have m0 := @spec_FrameOk.mono
 exact zm
def spec_l12Read.T8 : Bool × List (List Nat × List Nat) := (true, [([], []), ([0], [0]), ([1], [1]), ([], []), ([3], [3]), ([4], [4]), ([], []), ([6], [6]), ([7], [7]), ([], []), ([], []), ([10], [10]), ([9, 11], [9, 11]), ([2, 5, 8, 12], [2, 5, 8, 12]), ([], []), ([14, 13, 0, 1, 2, 3, 4, 5, 6, 7, 8, 9, 10, 11, 12, 13, 14], [13, 14])])
def spec_l12Read.B8 : List Nat := [0, 1, 3, 0, 8, 24, 0, 64, 192, 0, 0, 1024, 3584, 8191, 0, 32767]
theorem spec_l12Read.tab8 : rtab .any (opsOf Try.f99 8) = spec_l12Read.T8 := by kernel_rfl
theorem spec_l12Read.bits8 : waitsOk spec_l12Read.T8.2 spec_l12Read.B8 = true := by kernel_rfl
set_option maxHeartbeats 8000000 in
set_option maxRecDepth 100000 in
theorem spec_l12Read.calls (k : Nat) (a0 : ByteArray) (r1 : Int) (r2 : Bool) (r3 : Int) (r4 : ByteArray) (r5 : Int) (r6 : Int) (w : World) (h : spec_l12Read.f k a0 = some (r1, r2, r3, r4, r5, r6)) :
  Calls Try.prog 99 #[.string a0] w fun e w' => e = .returned (.tuple #[.agg #[.int .i64 r1, .bool r2, .int .i64 r3, .string r4], .int .i64 r5, .int .i64 r6]) ∧ Below w.heap.size w w' := by
 have hu110 := Try.underlying110
 have HB := Aside0.mk (Below.refl w.heap.size w)
 have H : (if (a0.size : Int) < 4 then (some (0, false, 0, (⟨#[]⟩ : ByteArray), 0, 0)) else (if 0 < (a0.size : Int) then (if (wrap64 (bt a0 0)) > 200 then (spec_l12Read.j0 k a0 (wrap64 (bt a0 0)) true) else (if 2 < (a0.size : Int) then (spec_l12Read.j0 k a0 (wrap64 (bt a0 0)) (decide ((bt a0 2) > 1))) else (none))) else (none))) = some (r1, r2, r3, r4, r5, r6) := h
 clear h
 replace H := sp H
 rcases H with ⟨c2, H⟩ | ⟨c2, H⟩
 ·skip
  have c2b0 := decide_eq_true c2
  have c2b1 := decide_eq_true (by omega)
  clear c2
  simp only [Option.some.injEq, Prod.mk.injEq] at H
  obtain ⟨rfl, rfl, rfl, rfl, rfl, rfl⟩ := H
  go_enter Try.func99, Try.ntmps99
  go_wp2_with (first | ((with_reducible refine gd 2 rfl ?_); refine bx (N := 2) (cs := #[.int .i64 0, .bool false, .int .i64 0, .string (⟨#[]⟩ : ByteArray)]) (t := 110) ?_; intro gb309 hg w3 hbox hb; have BK309 := Aside0.mk (hbox); have GW309 := gw HB hg; have GE309 := GW309; replace HB := Aside0.mk (below_step (zb HB) hb); clear hb hbox hg; obtain ⟨hcz4_0, hcz4_1, hcz4_2, hcz4_3, hfz4_0, hfz4_1, hfz4_2, hfz4_3⟩ := c4 BK309))
  refine bodyPost_ret (results_ctt rfl _ _ gb309 110 #[.int .i64 0, .bool false, .int .i64 0, .string (⟨#[]⟩ : ByteArray)] (0, 0) _ rfl (zp BK309) Try.underlying110 rfl (by kernel_rfl)) rfl ?_
  exact ⟨ze, zb HB⟩
 ·skip
  have c2b0 := decide_eq_false c2
  have c2b1 := decide_eq_false (by omega)
  clear c2
  replace H := sp H
  rcases H with ⟨c5, H⟩ | ⟨c5, H⟩
  ·skip
   have c5b0 := decide_eq_true c5
   have c5b1 := decide_eq_true (by omega)
   clear c5
   have HC7 := Aside0.mk H
   clear H
   go_enter Try.func99, Try.ntmps99
   go_upto_region 4 with (first | ((with_reducible refine gd 2 rfl ?_); refine bx (N := 2) (cs := #[.int .i64 0, .bool false, .int .i64 0, .string (⟨#[]⟩ : ByteArray)]) (t := 110) ?_; intro gb309 hg w8 hbox hb; have BK309 := Aside0.mk (hbox); have GW309 := gw HB hg; have GE309 := GW309; replace HB := Aside0.mk (below_step (zb HB) hb); clear hb hbox hg; have p6 : 0 ≤ (0 : Int) := (by omega); have q6 : 0 < a0.size := (by have : (0 : Int) < (a0.size : Int) := of_decide_eq_true za; omega); have hx6 : ∀ h : 0 < a0.size, ((a0[0]'h).toNat : Int) = bt a0 0 := bt_at a0 0; clear p6; have qi6 : (0 < (a0.size : Int)) = True := eq_true (of_decide_eq_true za); replace q6 := eq_true q6))
   (try simp only [Act.put, s1, s2, s3])
   go_cut [20] (fun v20 wc => ∃ (kq : Nat) (x20_6 : Bool), v20 = .bool x20_6 ∧ Aside0 (spec_l12Read.j0 kq a0 (wrap64 (bt a0 0)) x20_6 = some (r1, r2, r3, r4, r5, r6)) ∧ Aside0 (kq ≤ k) ∧ Aside0 (wc.heap[gb309]? = some (.cells #[.int .i64 0, .bool false, .int .i64 0, .string (⟨#[]⟩ : ByteArray)] 110 (0, 0))) ∧ Aside0 (Below w.heap.size w wc))
   case first =>
    have H := HC7.out
    clear HC7
    by_cases c9 : (wrap64 (bt a0 0)) > 200
    ·rw [if_pos c9] at H
     have c9b0 := decide_eq_true c9
     clear c9
     (first | rw [c9b0] | rw [c9b1] | rw [c9b2] | (simp only [i64_w, i32_w]; rw [c9b0]) | skip)
     have H' := Aside0.mk H
     clear H
     go_wp2
     go_meet
     case rel => exact ⟨_, (true), zs, H', ⟨by first | omega | exact Nat.le_refl _⟩, ⟨by exact zk BK309⟩, ⟨zb HB⟩⟩
    ·rw [if_neg c9] at H
     have c9b0 := decide_eq_false c9
     clear c9
     (first | rw [c9b0] | rw [c9b1] | rw [c9b2] | (simp only [i64_w, i32_w]; rw [c9b0]) | skip)
     by_cases c10 : 2 < (a0.size : Int)
     ·rw [if_pos c10] at H
      have c10b0 := decide_eq_true c10
      have c10b1 := decide_eq_true (by omega)
      clear c10
      have H' := Aside0.mk H
      clear H
      have p11 : 0 ≤ (2 : Int) := (by omega)
      have q11 : 2 < a0.size := (by have : (2 : Int) < (a0.size : Int) := of_decide_eq_true za; omega)
      have hx11 : ∀ h : 2 < a0.size, ((a0[2]'h).toNat : Int) = bt a0 2 := bt_at a0 2
      clear p11
      have qi11 : (2 < (a0.size : Int)) = True := eq_true (of_decide_eq_true za)
      replace q11 := eq_true q11
      go_wp2
      go_meet
      case rel => exact ⟨_, (decide ((bt a0 2) > 1)), zs, H', ⟨by first | omega | exact Nat.le_refl _⟩, ⟨by exact zk BK309⟩, ⟨zb HB⟩⟩
     ·rw [if_neg c10] at H
      exact absurd H (by simp)
   case rest =>
    clear HC7
    try clear c1
    try clear p1
    try clear q1
    try clear hx1
    try clear qi1
    try clear c2
    try clear c2b0
    try clear c2b1
    try clear p2
    try clear c5
    try clear c5b0
    try clear c5b1
    try clear p6
    try clear q6
    try clear hx6
    try clear qi6
    try clear c9
    try clear c9b0
    try clear c9b1
    try clear c9b2
    try clear c10
    try clear c10b0
    try clear c10b1
    try clear p11
    try clear q11
    try clear hx11
    try clear qi11
    try clear hcz4_0
    try clear hcz4_1
    try clear hcz4_2
    try clear hcz4_3
    try clear hfz4_0
    try clear hfz4_1
    try clear hfz4_2
    try clear hfz4_3
    try clear p11
    try clear p6
    try clear q11
    try clear q6
    obtain ⟨kq, x20_6, rfl, HA, HJ6, BK309, HB⟩ := hcut
    cases kq with
    | zero => exact absurd HA.out (by simp [spec_l12Read.j0])
    | succ kj6 =>
     have H := HA.out
     clear HA
     simp only [spec_l12Read.j0] at H
     by_cases c12 : x20_6 = true
     ·subst c12
      rw [if_pos rfl] at H
      simp only [Option.some.injEq, Prod.mk.injEq] at H
      obtain ⟨rfl, rfl, rfl, rfl, rfl, rfl⟩ := H
      obtain ⟨hcz13_0, hcz13_1, hcz13_2, hcz13_3, hfz13_0, hfz13_1, hfz13_2, hfz13_3⟩ := c4 BK309
      go_wp2
      refine bodyPost_ret (results_ctt rfl _ _ gb309 110 #[.int .i64 0, .bool false, .int .i64 0, .string (⟨#[]⟩ : ByteArray)] (0, 0) _ rfl (zp BK309) Try.underlying110 rfl (by kernel_rfl)) rfl ?_
      exact ⟨ze, zb HB⟩
     ·replace c12 := Bool.eq_false_iff.mpr c12
      subst c12
      rw [if_neg (show ¬ (false = true) by decide)] at H
      by_cases c14 : (a0.size : Int) < (wrap64 (4 + (wrap64 (bt a0 0))))
      ·rw [if_pos c14] at H
       have c14b0 := decide_eq_true c14
       clear c14
       simp only [Option.some.injEq, Prod.mk.injEq] at H
       obtain ⟨rfl, rfl, rfl, rfl, rfl, rfl⟩ := H
       obtain ⟨hcz15_0, hcz15_1, hcz15_2, hcz15_3, hfz15_0, hfz15_1, hfz15_2, hfz15_3⟩ := c4 BK309
       go_wp2
       refine bodyPost_ret (results_ctt rfl _ _ gb309 110 #[.int .i64 0, .bool false, .int .i64 0, .string (⟨#[]⟩ : ByteArray)] (0, 0) _ rfl (zp BK309) Try.underlying110 rfl (by kernel_rfl)) rfl ?_
       exact ⟨ze, zb HB⟩
      ·rw [if_neg c14] at H
       have c14b0 := decide_eq_false c14
       clear c14
       by_cases c16 : 1 < (a0.size : Int)
       ·rw [if_pos c16] at H
        have c16b0 := decide_eq_true c16
        have c16b1 := decide_eq_true (by omega)
        clear c16
        by_cases c18 : 2 < (a0.size : Int)
        ·rw [if_pos c18] at H
         have c18b0 := decide_eq_true c18
         have c18b1 := decide_eq_true (by omega)
         clear c18
         by_cases c20 : 3 < (a0.size : Int)
         ·rw [if_pos c20] at H
          have c20b0 := decide_eq_true c20
          have c20b1 := decide_eq_true (by omega)
          clear c20
          by_cases c22 : 4 ≤ (wrap64 (4 + (wrap64 (bt a0 0))))
          ·rw [if_pos c22] at H
           have c22b0 := eq_true c22
           have c22b1 := decide_eq_true c22
           by_cases c23 : (wrap64 (4 + (wrap64 (bt a0 0)))) ≤ (a0.size : Int)
           ·rw [if_pos c23] at H
            have c23b0 := eq_true c23
            have c23b1 := decide_eq_true c23
            obtain ⟨t311, A24, H⟩ := ob H
            (try dsimp only at H)
            have HC25 := Aside0.mk H
            clear H
            try go_wp2
            replace BK309 := Aside0.mk (blk_drew BK309.out)
            replace HB := Aside0.mk (below_drew1 HB.out)
            have p17 : 0 ≤ (1 : Int) := (by omega)
            have q17 : 1 < a0.size := (by have : (1 : Int) < (a0.size : Int) := of_decide_eq_true za; omega)
            have hx17 : ∀ h : 1 < a0.size, ((a0[1]'h).toNat : Int) = bt a0 1 := bt_at a0 1
            clear p17
            have qi17 : (1 < (a0.size : Int)) = True := eq_true (of_decide_eq_true za)
            replace q17 := eq_true q17
            have p19 : 0 ≤ (2 : Int) := (by omega)
            have q19 : 2 < a0.size := (by have : (2 : Int) < (a0.size : Int) := of_decide_eq_true za; omega)
            have hx19 : ∀ h : 2 < a0.size, ((a0[2]'h).toNat : Int) = bt a0 2 := bt_at a0 2
            clear p19
            have qi19 : (2 < (a0.size : Int)) = True := eq_true (of_decide_eq_true za)
            replace q19 := eq_true q19
            have p21 : 0 ≤ (3 : Int) := (by omega)
            have q21 : 3 < a0.size := (by have : (3 : Int) < (a0.size : Int) := of_decide_eq_true za; omega)
            have hx21 : ∀ h : 3 < a0.size, ((a0[3]'h).toNat : Int) = bt a0 3 := bt_at a0 3
            clear p21
            have qi21 : (3 < (a0.size : Int)) = True := eq_true (of_decide_eq_true za)
            replace q21 := eq_true q21
            refine start_ (n := 16) (S := fun w' => True) (ds := []) #[false, false, false, false, false, false, false, false, false, false, false, false, false, false, false, false] (by kernel_rfl) rfl rfl trivial (fun hHeld => ?_); refine with_tabW spec_l12Read.tab8 spec_l12Read.bits8 (fun HT_ HW_ => ?_)
            generalize wc.drew = w26 at BK309 HB hHeld ⊢
            refine pu 0 (some 28) (bm 16 1) rfl rfl ?_
            refine pu 3 (some 31) (bm 16 9) rfl rfl ?_
            refine pu 6 (some 34) (bm 16 73) rfl rfl ?_
            refine pu 9 (some 37) (bm 16 585) rfl rfl ?_
            refine pu 10 (some 38) (bm 16 1609) rfl rfl ?_
            refine pu 11 (some 39) (bm 16 3657) rfl rfl ?_
            refine pu 12 (some 40) (bm 16 7753) rfl rfl ?_
            refine take_ (i := 1) (N := some 29) (v := ?_) (a' := ?_) #[true, true, false, true, false, false, true, false, false, true, true, true, true, false, false, false] rfl rfl (take_ofW HT_.out HW_.out (by kernel_rfl)) (fun _ _ _ h => h) (Or.inl ⟨by rfl, ?_⟩) hHeld ?_ ?_
            rotate_left
            ·intro w' _
             go_simp
             with_reducible rfl
            rotate_left
            ·simp only [Act.put, s1, s2, s3, i64_w, i32_w]
             rfl
            refine pu 2 (some 30) (bm 16 7759) rfl rfl ?_
            refine take_ (i := 4) (N := some 32) (v := ?_) (a' := ?_) #[true, true, true, true, true, false, true, false, false, true, true, true, true, false, false, false] rfl rfl (take_ofW HT_.out HW_.out (by kernel_rfl)) (fun _ _ _ h => h) (Or.inl ⟨by rfl, ?_⟩) hHeld ?_ ?_
            rotate_left
            ·intro w' _
             go_simp
             with_reducible rfl
            rotate_left
            ·simp only [Act.put, s1, s2, s3, i64_w, i32_w]
             rfl
            refine pu 5 (some 33) (bm 16 7807) rfl rfl ?_
            refine take_ (i := 7) (N := some 35) (v := ?_) (a' := ?_) #[true, true, true, true, true, true, true, true, false, true, true, true, true, false, false, false] rfl rfl (take_ofW HT_.out HW_.out (by kernel_rfl)) (fun _ _ _ h => h) (Or.inl ⟨by rfl, ?_⟩) hHeld ?_ ?_
            rotate_left
            ·intro w' _
             go_simp
             with_reducible rfl
            rotate_left
            ·simp only [Act.put, s1, s2, s3, i64_w, i32_w]
             rfl
            refine pu 8 (some 36) (bm 16 8191) rfl rfl ?_
            refine pu 13 (some 41) (bm 16 16383) rfl rfl ?_
            refine one_ (i := 14) (N := some 6) (bm 16 32767) rfl rfl (one_of HT_.out (by kernel_rfl)) (by decide) (fun K hK => ?_)
            refine box_step ?hg (N := 6) ?hd (cs := #[.int .i64 0, .bool false, .int .i64 0, .string (⟨#[]⟩ : ByteArray)]) (t := 110) ?hr ?_; (case hd => rfl); (case hg => rfl); (case hr => first | (go_simp; done) | (go_simp; rfl))
            intro gb310 hg w27 hbox hb
            have BK310 := Aside0.mk (hbox)
            have GW310 := gw HB hg
            have GE310 := gw HB hg
            replace HB := Aside0.mk (below_step (zb HB) hb)
            have NB309_310 := Aside0.mk ((by rw [hg]; exact Nat.ne_of_lt (blk_lt (zk BK309)) : gb309 ≠ gb310))
            have NB310_309 := Aside0.mk ((by rw [hg]; exact Nat.ne_of_gt (blk_lt (zk BK309)) : gb310 ≠ gb309))
            replace BK309 := kb BK309 hb
            clear hb hbox hg
            refine hK.out _ _ trivial (fun hHeld => ?_)
            clear hK K
            refine nm ?_
            refine one_ (i := 15) (N := none) (bm 16 65535) rfl rfl (one_of HT_.out (by kernel_rfl)) (by decide) (fun K hK => ?_)
            have hs28 : w27.cell? ⟨gb310, 0, none⟩ = some (.int .i64 0) := (blk_cell BK310.out 0).trans rfl
            have hfs28 := blk_frozen BK310.out 0
            have hns28_0 := NB309_310.out
            have hms28_0 := NB310_309.out
            have hs29 : w27.cell? ⟨gb310, 1, none⟩ = some (.bool false) := (blk_cell BK310.out 1).trans rfl
            have hfs29 := blk_frozen BK310.out 1
            have hns29_0 := NB309_310.out
            have hms29_0 := NB310_309.out
            have hs30 : w27.cell? ⟨gb310, 2, none⟩ = some (.int .i64 0) := (blk_cell BK310.out 2).trans rfl
            have hfs30 := blk_frozen BK310.out 2
            have hns30_0 := NB309_310.out
            have hms30_0 := NB310_309.out
            have hs31 : w27.cell? ⟨gb310, 3, none⟩ = some (.string (⟨#[]⟩ : ByteArray)) := (blk_cell BK310.out 3).trans rfl
            have hfs31 := blk_frozen BK310.out 3
            have hns31_0 := NB309_310.out
            have hms31_0 := NB310_309.out
            refine skip_ (w1 := ?_) (by rfl) rfl ?_ ?_
            rotate_left
            ·go_simp
             rfl
            refine hK.out _ _ trivial (fun hHeld => ?_)
            clear hK K
            refine done_ (done_of HT_.out (by kernel_rfl)) ?_
            have hnb32 := NB310_309.out
            have hnc32 := NB309_310.out
            obtain ⟨hcz33_0, hcz33_1, hcz33_2, hcz33_3, hfz33_0, hfz33_1, hfz33_2, hfz33_3⟩ := c4 BK310
            go_upto_if 44 with (first | ((with_reducible refine gq 93 rfl ?_); refine gl (some 43) Try.func93 #[.agg #[.int .i64 (wrap64 (bt a0 1)), .bool ((bt a0 2) == 1), .int .i64 (wrap64 (bt a0 3)), .string (a0.extract 4 ((wrap64 (4 + (wrap64 (bt a0 0)))) : Int).toNat)]] ?_; (with_reducible refine (spec_FrameOk.calls kj6 (wrap64 (bt a0 1)) ((bt a0 2) == 1) (wrap64 (bt a0 3)) (a0.extract 4 ((wrap64 (4 + (wrap64 (bt a0 0)))) : Int).toNat) t311 _ A24.out).mono ?_); rintro e w34 ⟨rfl, hb⟩; refine ⟨_, rfl, ?_⟩; replace BK309 := Aside0.mk (blk_below (g := gb309) (o := .cells #[.int .i64 0, .bool false, .int .i64 0, .string (⟨#[]⟩ : ByteArray)] 110 (0, 0)) (zp BK309) hb); replace BK310 := Aside0.mk (blk_below (g := gb310) (o := .cells #[.int .i64 (wrap64 (bt a0 1)), .bool ((bt a0 2) == 1), .int .i64 (wrap64 (bt a0 3)), .string (a0.extract 4 ((wrap64 (4 + (wrap64 (bt a0 0)))) : Int).toNat)] 110 (0, 0)) (zp BK310) hb); replace HB := Aside0.mk (below_step (zb HB) hb); (try clear hb)))
            (try simp only [Act.put, s1, s2, s3])
            have H := HC25.out
            clear HC25
            by_cases c35 : t311 = true
            ·subst c35
             rw [if_pos rfl] at H
             simp only [Option.some.injEq, Prod.mk.injEq] at H
             obtain ⟨rfl, rfl, rfl, rfl, rfl, rfl⟩ := H
             have hnb36 := NB310_309.out
             have hnc36 := NB309_310.out
             have hcz37_0 : w34.cell? ⟨gb310, 0, none⟩ = some (.int .i64 (wrap64 (bt a0 1))) := (blk_cell BK310.out 0).trans rfl
             have hcz37_1 : w34.cell? ⟨gb310, 1, none⟩ = some (.bool ((bt a0 2) == 1)) := (blk_cell BK310.out 1).trans rfl
             have hcz37_2 : w34.cell? ⟨gb310, 2, none⟩ = some (.int .i64 (wrap64 (bt a0 3))) := (blk_cell BK310.out 2).trans rfl
             have hcz37_3 : w34.cell? ⟨gb310, 3, none⟩ = some (.string (a0.extract 4 ((wrap64 (4 + (wrap64 (bt a0 0)))) : Int).toNat)) := (blk_cell BK310.out 3).trans rfl
             have hfz37_0 := blk_frozen BK310.out 0
             have hfz37_1 := blk_frozen BK310.out 1
             have hfz37_2 := blk_frozen BK310.out 2
             have hfz37_3 := blk_frozen BK310.out 3
             obtain ⟨hcz38_0, hcz38_1, hcz38_2, hcz38_3, hfz38_0, hfz38_1, hfz38_2, hfz38_3⟩ := c4 BK309
             go_wp2
             refine bodyPost_ret (results_ctt rfl _ _ gb309 110 #[.int .i64 (wrap64 (bt a0 1)), .bool ((bt a0 2) == 1), .int .i64 (wrap64 (bt a0 3)), .string (a0.extract 4 ((wrap64 (4 + (wrap64 (bt a0 0)))) : Int).toNat)] (0, 0) _ rfl (zp BK309) Try.underlying110 rfl (by kernel_rfl)) rfl ?_
             exact ⟨ze, zb HB⟩
            ·replace c35 := Bool.eq_false_iff.mpr c35
             subst c35
             rw [if_neg (show ¬ (false = true) by decide)] at H
             simp only [Option.some.injEq, Prod.mk.injEq] at H
             obtain ⟨rfl, rfl, rfl, rfl, rfl, rfl⟩ := H
             have hnb39 := NB309_310.out
             have hnc39 := NB310_309.out
             obtain ⟨hcz40_0, hcz40_1, hcz40_2, hcz40_3, hfz40_0, hfz40_1, hfz40_2, hfz40_3⟩ := c4 BK309
             go_wp2
             refine bodyPost_ret (results_ctt rfl _ _ gb309 110 #[.int .i64 0, .bool false, .int .i64 0, .string (⟨#[]⟩ : ByteArray)] (0, 0) _ rfl (zp BK309) Try.underlying110 rfl (by kernel_rfl)) rfl ?_
             exact ⟨ze, zb HB⟩
           ·rw [if_neg c23] at H
            exact absurd H (by simp)
          ·rw [if_neg c22] at H
           exact absurd H (by simp)
         ·rw [if_neg c20] at H
          exact absurd H (by simp)
        ·rw [if_neg c18] at H
         exact absurd H (by simp)
       ·rw [if_neg c16] at H
        exact absurd H (by simp)
  ·skip
   exact absurd H (by simp)

end Go.Proofs.Ytlpibelofcabhaa.PFnExactWorldFrames
