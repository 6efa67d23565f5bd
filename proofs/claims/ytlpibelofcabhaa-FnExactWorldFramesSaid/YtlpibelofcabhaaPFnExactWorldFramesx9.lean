-- WRITTEN BY a turned print (wip/tools of the prover's repo)
import Derived.Test.YtlpibelofcabhaaPFnExactWorldFramesx4
import Derived.Test.YtlpibelofcabhaaPFnExactWorldFramesx0
import Derived.Test.YtlpibelofcabhaaPFnExactWorldFramesx5
import Derived.Test.YtlpibelofcabhaaPFnExactWorldFramesx8
namespace Go.Proofs.Ytlpibelofcabhaa.PFnExactWorldFrames
open Go.RowKit Go.Proofs.YtlpibelofcabhaaW.PrintWords Go.Proofs.YtlpibelofcabhaaW.PrintLast Go.Proofs.YtlpibelofcabhaaW.PrintMore Go.Proofs.Ytlpibelofcabhaa.Lm
attribute [local go_sem] max2_int min2_int max_two min_two max_three min_three max_four min_four   -- for this text's walks alone
set_option linter.unusedVariables false
set_option linter.unusedSimpArgs false

/-! ### spec_WorldFrames: function 42 -/
-- thin
mutual
def spec_WorldFrames.j0 : Nat → Int → List (S110) → Bool → Bool → List (S88) → Int → List (S88) → Int → ByteArray → List (S104) → Int → Int → List (S110) → Bool → Bool → List (S88) → Int → List (S88) → Int → ByteArray → List (S104) → Int → Int → List (S110) → Bool → ByteArray → ByteArray → Option ((List (S110)))
 | 0, _, _, _, _, _, _, _, _, _, _, _, _, _, _, _, _, _, _, _, _, _, _, _, _, _, _, _ => none
 | k + 1, x1, x5, x18, x313000, x313001, x313002, x313003, x313004, x313005, x313006, x313007, x313008, x313009, x313010, x313011, x313012, x313013, x313014, x313015, x313016, x313017, x313018, x313019, x313020, x313021, x313022, x313023 => if x18 = true then (some x5) else (if x313016.size + x313022.size ≤ 9223372036854775807 then (if x1 = 1 then (if x313005.size + x313023.size ≤ 9223372036854775807 then (spec_WorldFrames.j1 k x5 (x313005 ++ x313023)) else (none)) else (spec_WorldFrames.j1 k x5 (x313016 ++ x313022))) else (none))
def spec_WorldFrames.j1 : Nat → List (S110) → ByteArray → Option ((List (S110)))
 | 0, _, _ => none
 | k + 1, x5, x6 => spec_WorldFrames.l0 k x5 x6
def spec_WorldFrames.l0 : Nat → List (S110) → ByteArray → Option ((List (S110)))
 | 0, _, _ => none
 | k + 1, x5, x6 => (spec_l12Read.f k x6).bind fun bt318 => (if bt318.2.2.2.2.2 ≤ 0 then (some x5) else (if x5.length < 3518437208883 then (if 0 ≤ bt318.2.2.2.2.1 then (if bt318.2.2.2.2.1 ≤ (x6.size : Int) then (spec_WorldFrames.l0 k (x5 ++ [(⟨bt318.1, bt318.2.1, bt318.2.2.1, bt318.2.2.2.1⟩ : S110)]) (x6.extract (bt318.2.2.2.2.1 : Int).toNat x6.size)) else (none)) else (none)) else (none)))
end
def spec_WorldFrames.f (k : Nat) (a0_0 : Bool) (l0_1 : List (S88)) (a0_2 : Int) (l0_3 : List (S88)) (a0_4 : Int) (a0_5 : ByteArray) (l0_6 : List (S104)) (a0_7 : Int) (a0_8 : Int) (l0_9 : List (S110)) (a0_10 : Bool) (a0_11 : Bool) (l0_12 : List (S88)) (a0_13 : Int) (l0_14 : List (S88)) (a0_15 : Int) (a0_16 : ByteArray) (l0_17 : List (S104)) (a0_18 : Int) (a0_19 : Int) (l0_20 : List (S110)) (a0_21 : Bool) (a0_22 : ByteArray) (a0_23 : ByteArray) (a1 : Int) : Option ((List (S110))) := (some (([] : List (S110)) : List (S110))).bind fun y313 => ((spec_WorldOk.f k a0_0 l0_1 a0_2 l0_3 a0_4 a0_5 l0_6 a0_7 a0_8 l0_9 a0_10 a0_11 l0_12 a0_13 l0_14 a0_15 a0_16 l0_17 a0_18 a0_19 l0_20 a0_21 a0_22 a0_23).bind fun t316 => (if t316 = true then ((spec_l6In.f a1 0 1).bind fun t317 => (spec_WorldFrames.j0 k a1 y313 (!t317) a0_0 l0_1 a0_2 l0_3 a0_4 a0_5 l0_6 a0_7 a0_8 l0_9 a0_10 a0_11 l0_12 a0_13 l0_14 a0_15 a0_16 l0_17 a0_18 a0_19 l0_20 a0_21 a0_22 a0_23)) else (spec_WorldFrames.j0 k a1 y313 true a0_0 l0_1 a0_2 l0_3 a0_4 a0_5 l0_6 a0_7 a0_8 l0_9 a0_10 a0_11 l0_12 a0_13 l0_14 a0_15 a0_16 l0_17 a0_18 a0_19 l0_20 a0_21 a0_22 a0_23)))
theorem spec_WorldFrames.mono_l : ∀ k, (∀ y0 y1 y2 y3 y4 y5 y6 y7 y8 y9 y10 y11 y12 y13 y14 y15 y16 y17 y18 y19 y20 y21 y22 y23 y24 y25 y26, LeO (spec_WorldFrames.j0 k y0 y1 y2 y3 y4 y5 y6 y7 y8 y9 y10 y11 y12 y13 y14 y15 y16 y17 y18 y19 y20 y21 y22 y23 y24 y25 y26) (spec_WorldFrames.j0 (k + 1) y0 y1 y2 y3 y4 y5 y6 y7 y8 y9 y10 y11 y12 y13 y14 y15 y16 y17 y18 y19 y20 y21 y22 y23 y24 y25 y26)) ∧ (∀ y0 y1, LeO (spec_WorldFrames.j1 k y0 y1) (spec_WorldFrames.j1 (k + 1) y0 y1)) ∧ (∀ y0 y1, LeO (spec_WorldFrames.l0 k y0 y1) (spec_WorldFrames.l0 (k + 1) y0 y1))
 | 0 => ⟨fun _ _ _ _ _ _ _ _ _ _ _ _ _ _ _ _ _ _ _ _ _ _ _ _ _ _ _ r h => by simp [spec_WorldFrames.j0] at h, fun _ _ r h => by simp [spec_WorldFrames.j1] at h, fun _ _ r h => by simp [spec_WorldFrames.l0] at h⟩
 | k + 1 => by
  obtain ⟨ih0, ih1, ih2⟩ := spec_WorldFrames.mono_l k
  refine ⟨?_, ?_, ?_⟩
  ·intro y0 y1 y2 y3 y4 y5 y6 y7 y8 y9 y10 y11 y12 y13 y14 y15 y16 y17 y18 y19 y20 y21 y22 y23 y24 y25 y26
   unfold spec_WorldFrames.j0
   have m0 := @spec_WorldOk.mono
   have m1 := @spec_l12Read.mono
   exact zm
  ·intro y0 y1
   unfold spec_WorldFrames.j1
   have m0 := @spec_WorldOk.mono
   have m1 := @spec_l12Read.mono
   exact zm
  ·intro y0 y1
   unfold spec_WorldFrames.l0
   have m0 := @spec_WorldOk.mono
   have m1 := @spec_l12Read.mono
   exact zm
theorem spec_WorldFrames.mono : ∀ a0 a1 a2 a3 a4 a5 a6 a7 a8 a9 a10 a11 a12 a13 a14 a15 a16 a17 a18 a19 a20 a21 a22 a23 a24 k, LeO (spec_WorldFrames.f k a0 a1 a2 a3 a4 a5 a6 a7 a8 a9 a10 a11 a12 a13 a14 a15 a16 a17 a18 a19 a20 a21 a22 a23 a24) (spec_WorldFrames.f (k + 1) a0 a1 a2 a3 a4 a5 a6 a7 a8 a9 a10 a11 a12 a13 a14 a15 a16 a17 a18 a19 a20 a21 a22 a23 a24) := by
 intro a0 a1 a2 a3 a4 a5 a6 a7 a8 a9 a10 a11 a12 a13 a14 a15 a16 a17 a18 a19 a20 a21 a22 a23 a24 k
 obtain ⟨ih0, ih1, ih2⟩ := spec_WorldFrames.mono_l k
 unfold spec_WorldFrames.f
 have m0 := @spec_WorldOk.mono
 have m1 := @spec_l12Read.mono
 exact zm
set_option maxHeartbeats 8000000 in
set_option maxRecDepth 100000 in
theorem spec_WorldFrames.calls (k : Nat) (a0_0 : Bool) (A0_1 : Option Addr) (c0_1 : Nat) (l0_1 : List (S88)) (a0_2 : Int) (A0_3 : Option Addr) (c0_3 : Nat) (l0_3 : List (S88)) (a0_4 : Int) (a0_5 : ByteArray) (A0_6 : Option Addr) (c0_6 : Nat) (l0_6 : List (S104)) (a0_7 : Int) (a0_8 : Int) (A0_9 : Option Addr) (c0_9 : Nat) (l0_9 : List (S110)) (a0_10 : Bool) (a0_11 : Bool) (A0_12 : Option Addr) (c0_12 : Nat) (l0_12 : List (S88)) (a0_13 : Int) (A0_14 : Option Addr) (c0_14 : Nat) (l0_14 : List (S88)) (a0_15 : Int) (a0_16 : ByteArray) (A0_17 : Option Addr) (c0_17 : Nat) (l0_17 : List (S104)) (a0_18 : Int) (a0_19 : Int) (A0_20 : Option Addr) (c0_20 : Nat) (l0_20 : List (S110)) (a0_21 : Bool) (a0_22 : ByteArray) (a0_23 : ByteArray) (a1 : Int) (r : List (S110)) (w : World) (hr0_1 : Kd.C k88 w A0_1 l0_1.length l0_1) (hc0_1 : l0_1.length ≤ c0_1) (hr0_3 : Kd.C k88 w A0_3 l0_3.length l0_3) (hc0_3 : l0_3.length ≤ c0_3) (hr0_6 : Kd.C k104 w A0_6 l0_6.length l0_6) (hc0_6 : l0_6.length ≤ c0_6) (hr0_9 : Kd.C k110 w A0_9 l0_9.length l0_9) (hc0_9 : l0_9.length ≤ c0_9) (hr0_12 : Kd.C k88 w A0_12 l0_12.length l0_12) (hc0_12 : l0_12.length ≤ c0_12) (hr0_14 : Kd.C k88 w A0_14 l0_14.length l0_14) (hc0_14 : l0_14.length ≤ c0_14) (hr0_17 : Kd.C k104 w A0_17 l0_17.length l0_17) (hc0_17 : l0_17.length ≤ c0_17) (hr0_20 : Kd.C k110 w A0_20 l0_20.length l0_20) (hc0_20 : l0_20.length ≤ c0_20) (h : spec_WorldFrames.f k a0_0 l0_1 a0_2 l0_3 a0_4 a0_5 l0_6 a0_7 a0_8 l0_9 a0_10 a0_11 l0_12 a0_13 l0_14 a0_15 a0_16 l0_17 a0_18 a0_19 l0_20 a0_21 a0_22 a0_23 a1 = some r) :
  Calls Try.prog 42 #[.agg #[.bool a0_0, .slice A0_1 l0_1.length c0_1, .int .i64 a0_2, .slice A0_3 l0_3.length c0_3, .int .i64 a0_4, .string a0_5, .slice A0_6 l0_6.length c0_6, .int .i64 a0_7, .int .i64 a0_8, .slice A0_9 l0_9.length c0_9, .bool a0_10, .bool a0_11, .slice A0_12 l0_12.length c0_12, .int .i64 a0_13, .slice A0_14 l0_14.length c0_14, .int .i64 a0_15, .string a0_16, .slice A0_17 l0_17.length c0_17, .int .i64 a0_18, .int .i64 a0_19, .slice A0_20 l0_20.length c0_20, .bool a0_21, .string a0_22, .string a0_23], .int .i64 a1] w fun e w' => ∃ v0_ : Value, e = .returned (v0_) ∧ Kd.R k110 110 w' w.heap.size (fun _ => True) v0_ r ∧ Below w.heap.size w w' := by
 have hu48 := Try.underlying48
 have hu110 := Try.underlying110
 have HR0_1 := Aside0.mk hr0_1
 have HC0_1 := Aside0.mk hc0_1
 clear hr0_1 hc0_1
 have HR0_3 := Aside0.mk hr0_3
 have HC0_3 := Aside0.mk hc0_3
 clear hr0_3 hc0_3
 have HR0_6 := Aside0.mk hr0_6
 have HC0_6 := Aside0.mk hc0_6
 clear hr0_6 hc0_6
 have HR0_9 := Aside0.mk hr0_9
 have HC0_9 := Aside0.mk hc0_9
 clear hr0_9 hc0_9
 have HR0_12 := Aside0.mk hr0_12
 have HC0_12 := Aside0.mk hc0_12
 clear hr0_12 hc0_12
 have HR0_14 := Aside0.mk hr0_14
 have HC0_14 := Aside0.mk hc0_14
 clear hr0_14 hc0_14
 have HR0_17 := Aside0.mk hr0_17
 have HC0_17 := Aside0.mk hc0_17
 clear hr0_17 hc0_17
 have HR0_20 := Aside0.mk hr0_20
 have HC0_20 := Aside0.mk hc0_20
 clear hr0_20 hc0_20
 have HB := Aside0.mk (Below.refl w.heap.size w)
 have H : ((some (([] : List (S110)) : List (S110))).bind fun y313 => ((spec_WorldOk.f k a0_0 l0_1 a0_2 l0_3 a0_4 a0_5 l0_6 a0_7 a0_8 l0_9 a0_10 a0_11 l0_12 a0_13 l0_14 a0_15 a0_16 l0_17 a0_18 a0_19 l0_20 a0_21 a0_22 a0_23).bind fun t316 => (if t316 = true then ((spec_l6In.f a1 0 1).bind fun t317 => (spec_WorldFrames.j0 k a1 y313 (!t317) a0_0 l0_1 a0_2 l0_3 a0_4 a0_5 l0_6 a0_7 a0_8 l0_9 a0_10 a0_11 l0_12 a0_13 l0_14 a0_15 a0_16 l0_17 a0_18 a0_19 l0_20 a0_21 a0_22 a0_23)) else (spec_WorldFrames.j0 k a1 y313 true a0_0 l0_1 a0_2 l0_3 a0_4 a0_5 l0_6 a0_7 a0_8 l0_9 a0_10 a0_11 l0_12 a0_13 l0_14 a0_15 a0_16 l0_17 a0_18 a0_19 l0_20 a0_21 a0_22 a0_23)))) = some r := h
 clear h
 obtain ⟨y313, hy313⟩ : ∃ y_ : List (S110), y_ = (([] : List (S110))) := ⟨_, rfl⟩
 replace H : ((spec_WorldOk.f k a0_0 l0_1 a0_2 l0_3 a0_4 a0_5 l0_6 a0_7 a0_8 l0_9 a0_10 a0_11 l0_12 a0_13 l0_14 a0_15 a0_16 l0_17 a0_18 a0_19 l0_20 a0_21 a0_22 a0_23).bind fun t316 => (if t316 = true then ((spec_l6In.f a1 0 1).bind fun t317 => (spec_WorldFrames.j0 k a1 y313 (!t317) a0_0 l0_1 a0_2 l0_3 a0_4 a0_5 l0_6 a0_7 a0_8 l0_9 a0_10 a0_11 l0_12 a0_13 l0_14 a0_15 a0_16 l0_17 a0_18 a0_19 l0_20 a0_21 a0_22 a0_23)) else (spec_WorldFrames.j0 k a1 y313 true a0_0 l0_1 a0_2 l0_3 a0_4 a0_5 l0_6 a0_7 a0_8 l0_9 a0_10 a0_11 l0_12 a0_13 l0_14 a0_15 a0_16 l0_17 a0_18 a0_19 l0_20 a0_21 a0_22 a0_23))) = some r := by first | (rw [hy313]; with_reducible exact H) | (have H2_ := (Option.bind_some _ _).symm.trans H; rw [hy313]; with_reducible exact H2_) | (have H2_ := (Option.bind_some _ _).symm.trans H; with_reducible exact H2_) | with_reducible exact H | (rw [hy313]; exact H) | exact H
 have Ny313 := Aside0.mk hy313
 clear hy313
 have HC3 := Aside0.mk H
 clear H
 go_enter Try.func42, Try.ntmps42
 go_upto_region 2 with (first | ((with_reducible refine gd 2 rfl ?_); refine bx (N := 2) (cs := #[.bool a0_0, .slice A0_1 l0_1.length c0_1, .int .i64 a0_2, .slice A0_3 l0_3.length c0_3, .int .i64 a0_4, .string a0_5, .slice A0_6 l0_6.length c0_6, .int .i64 a0_7, .int .i64 a0_8, .slice A0_9 l0_9.length c0_9, .bool a0_10, .bool a0_11, .slice A0_12 l0_12.length c0_12, .int .i64 a0_13, .slice A0_14 l0_14.length c0_14, .int .i64 a0_15, .string a0_16, .slice A0_17 l0_17.length c0_17, .int .i64 a0_18, .int .i64 a0_19, .slice A0_20 l0_20.length c0_20, .bool a0_21, .string a0_22, .string a0_23]) (t := 48) ?_; intro gb312 hg w4 hbox hb; have BK312 := Aside0.mk (hbox); have GW312 := gw HB hg; have GE312 := GW312; replace HB := Aside0.mk (below_step (zb HB) hb); clear hb hbox hg) | ((with_reducible refine gd 10 rfl ?_); refine Kd.R_lit k110 _ 110 ?hg (N := 10) ?hd (xs := ([] : List (S110))) (inner := []) (ok := fun _ => True) (okp := fun _ => True) ?hr ?hp (fun _ hk => hk) trivial (Below.refl _ _) (Nat.le_refl _) (by simp) ?_; (case hd => rfl); (case hg => rfl); (case hr => first | (go_simp; done) | (go_simp; rfl)); (case hp => exact (Reps.none _ _)); intro v314 w5 ho6 hb hg_ hnew_; clear hg_ hnew_; (first | rw [← Ny313.out] at ho6 | (simp only [Int.reduceToNat] at ho6; rw [← Ny313.out] at ho6)); have HO315 := Aside0.mk (Kd.R_lower ho6 (below_size (zb HB))); replace BK312 := kb BK312 hb; replace HB := Aside0.mk (below_step (zb HB) hb); clear hb ho6))
 (try simp only [Act.put, s1, s2, s3])
 go_cut [18] (fun v18 wc => ∃ (kq : Nat) (x18_2 : Bool), v18 = .bool x18_2 ∧ Aside0 (spec_WorldFrames.j0 kq a1 y313 x18_2 a0_0 l0_1 a0_2 l0_3 a0_4 a0_5 l0_6 a0_7 a0_8 l0_9 a0_10 a0_11 l0_12 a0_13 l0_14 a0_15 a0_16 l0_17 a0_18 a0_19 l0_20 a0_21 a0_22 a0_23 = some r) ∧ Aside0 (kq ≤ k) ∧ Aside0 (Kd.R k110 110 wc w.heap.size (fun _ => True) v314 y313) ∧ Aside0 (wc.heap[gb312]? = some (.cells #[.bool a0_0, (.slice A0_1 l0_1.length c0_1), .int .i64 a0_2, (.slice A0_3 l0_3.length c0_3), .int .i64 a0_4, .string a0_5, (.slice A0_6 l0_6.length c0_6), .int .i64 a0_7, .int .i64 a0_8, (.slice A0_9 l0_9.length c0_9), .bool a0_10, .bool a0_11, (.slice A0_12 l0_12.length c0_12), .int .i64 a0_13, (.slice A0_14 l0_14.length c0_14), .int .i64 a0_15, .string a0_16, (.slice A0_17 l0_17.length c0_17), .int .i64 a0_18, .int .i64 a0_19, (.slice A0_20 l0_20.length c0_20), .bool a0_21, .string a0_22, .string a0_23] 48 (0, 0))) ∧ Aside0 (Below w.heap.size w wc))
 case first =>
  have H := HC3.out
  clear HC3
  obtain ⟨t316, A7, H⟩ := ob H
  (try dsimp only at H)
  by_cases c8 : t316 = true
  ·subst c8
   rw [if_pos rfl] at H
   obtain ⟨t317, A9, H⟩ := ob H
   (try dsimp only at H)
   have H' := Aside0.mk H
   clear H
   go_wp2_with (first | ((with_reducible refine gd 11 rfl ?_); refine ld BK312 0 ([.bool a0_0, .slice A0_1 l0_1.length c0_1, .int .i64 a0_2, .slice A0_3 l0_3.length c0_3, .int .i64 a0_4, .string a0_5, .slice A0_6 l0_6.length c0_6, .int .i64 a0_7, .int .i64 a0_8, .slice A0_9 l0_9.length c0_9, .bool a0_10, .bool a0_11, .slice A0_12 l0_12.length c0_12, .int .i64 a0_13, .slice A0_14 l0_14.length c0_14, .int .i64 a0_15, .string a0_16, .slice A0_17 l0_17.length c0_17, .int .i64 a0_18, .int .i64 a0_19, .slice A0_20 l0_20.length c0_20, .bool a0_21, .string a0_22, .string a0_23] : List Value) Try.underlying48 ?_) | ((with_reducible refine gq 39 rfl ?_); refine gl (some 12) Try.func39 #[.agg #[.bool a0_0, .slice A0_1 l0_1.length c0_1, .int .i64 a0_2, .slice A0_3 l0_3.length c0_3, .int .i64 a0_4, .string a0_5, .slice A0_6 l0_6.length c0_6, .int .i64 a0_7, .int .i64 a0_8, .slice A0_9 l0_9.length c0_9, .bool a0_10, .bool a0_11, .slice A0_12 l0_12.length c0_12, .int .i64 a0_13, .slice A0_14 l0_14.length c0_14, .int .i64 a0_15, .string a0_16, .slice A0_17 l0_17.length c0_17, .int .i64 a0_18, .int .i64 a0_19, .slice A0_20 l0_20.length c0_20, .bool a0_21, .string a0_22, .string a0_23]] ?_; (with_reducible refine (spec_WorldOk.calls k a0_0 _ _ l0_1 a0_2 _ _ l0_3 a0_4 a0_5 _ _ l0_6 a0_7 a0_8 _ _ l0_9 a0_10 a0_11 _ _ l0_12 a0_13 _ _ l0_14 a0_15 a0_16 _ _ l0_17 a0_18 a0_19 _ _ l0_20 a0_21 a0_22 a0_23 true _ ?side1 ?side2 ?side3 ?side4 ?side5 ?side6 ?side7 ?side8 ?side9 ?side10 ?side11 ?side12 ?side13 ?side14 ?side15 ?side16 A7.out).mono ?_); (case side1 => exact zc (Kd.C_below HR0_1.out HB.out)); (case side2 => exact HC0_1.out); (case side3 => exact zc (Kd.C_below HR0_3.out HB.out)); (case side4 => exact HC0_3.out); (case side5 => exact zc (Kd.C_below HR0_6.out HB.out)); (case side6 => exact HC0_6.out); (case side7 => exact zc (Kd.C_below HR0_9.out HB.out)); (case side8 => exact HC0_9.out); (case side9 => exact zc (Kd.C_below HR0_12.out HB.out)); (case side10 => exact HC0_12.out); (case side11 => exact zc (Kd.C_below HR0_14.out HB.out)); (case side12 => exact HC0_14.out); (case side13 => exact zc (Kd.C_below HR0_17.out HB.out)); (case side14 => exact HC0_17.out); (case side15 => exact zc (Kd.C_below HR0_20.out HB.out)); (case side16 => exact HC0_20.out); rintro e w11 ⟨rfl, hb⟩; refine ⟨_, rfl, ?_⟩; replace HO315 := Aside0.mk (Kd.R_below (zr HO315) hb); replace BK312 := kb BK312 hb; replace HB := Aside0.mk (below_step (zb HB) hb); (try clear hb)) | (go_at_call 56; (with_reducible refine (spec_l6In.calls a1 0 1 t317 _ A9.out).mono ?_); rintro e w' ⟨rfl, ⟨nd, rfl⟩⟩))
   go_meet
   case rel => exact ⟨_, (!t317), zs, H', ⟨by first | omega | exact Nat.le_refl _⟩, ⟨by exact zr HO315⟩, ⟨by exact zk BK312⟩, ⟨zb HB⟩⟩
  ·replace c8 := Bool.eq_false_iff.mpr c8
   subst c8
   rw [if_neg (show ¬ (false = true) by decide)] at H
   have H' := Aside0.mk H
   clear H
   go_wp2_with (first | ((with_reducible refine gd 11 rfl ?_); refine ld BK312 0 ([.bool a0_0, .slice A0_1 l0_1.length c0_1, .int .i64 a0_2, .slice A0_3 l0_3.length c0_3, .int .i64 a0_4, .string a0_5, .slice A0_6 l0_6.length c0_6, .int .i64 a0_7, .int .i64 a0_8, .slice A0_9 l0_9.length c0_9, .bool a0_10, .bool a0_11, .slice A0_12 l0_12.length c0_12, .int .i64 a0_13, .slice A0_14 l0_14.length c0_14, .int .i64 a0_15, .string a0_16, .slice A0_17 l0_17.length c0_17, .int .i64 a0_18, .int .i64 a0_19, .slice A0_20 l0_20.length c0_20, .bool a0_21, .string a0_22, .string a0_23] : List Value) Try.underlying48 ?_) | ((with_reducible refine gq 39 rfl ?_); refine gl (some 12) Try.func39 #[.agg #[.bool a0_0, .slice A0_1 l0_1.length c0_1, .int .i64 a0_2, .slice A0_3 l0_3.length c0_3, .int .i64 a0_4, .string a0_5, .slice A0_6 l0_6.length c0_6, .int .i64 a0_7, .int .i64 a0_8, .slice A0_9 l0_9.length c0_9, .bool a0_10, .bool a0_11, .slice A0_12 l0_12.length c0_12, .int .i64 a0_13, .slice A0_14 l0_14.length c0_14, .int .i64 a0_15, .string a0_16, .slice A0_17 l0_17.length c0_17, .int .i64 a0_18, .int .i64 a0_19, .slice A0_20 l0_20.length c0_20, .bool a0_21, .string a0_22, .string a0_23]] ?_; (with_reducible refine (spec_WorldOk.calls k a0_0 _ _ l0_1 a0_2 _ _ l0_3 a0_4 a0_5 _ _ l0_6 a0_7 a0_8 _ _ l0_9 a0_10 a0_11 _ _ l0_12 a0_13 _ _ l0_14 a0_15 a0_16 _ _ l0_17 a0_18 a0_19 _ _ l0_20 a0_21 a0_22 a0_23 false _ ?side1 ?side2 ?side3 ?side4 ?side5 ?side6 ?side7 ?side8 ?side9 ?side10 ?side11 ?side12 ?side13 ?side14 ?side15 ?side16 A7.out).mono ?_); (case side1 => exact zc (Kd.C_below HR0_1.out HB.out)); (case side2 => exact HC0_1.out); (case side3 => exact zc (Kd.C_below HR0_3.out HB.out)); (case side4 => exact HC0_3.out); (case side5 => exact zc (Kd.C_below HR0_6.out HB.out)); (case side6 => exact HC0_6.out); (case side7 => exact zc (Kd.C_below HR0_9.out HB.out)); (case side8 => exact HC0_9.out); (case side9 => exact zc (Kd.C_below HR0_12.out HB.out)); (case side10 => exact HC0_12.out); (case side11 => exact zc (Kd.C_below HR0_14.out HB.out)); (case side12 => exact HC0_14.out); (case side13 => exact zc (Kd.C_below HR0_17.out HB.out)); (case side14 => exact HC0_17.out); (case side15 => exact zc (Kd.C_below HR0_20.out HB.out)); (case side16 => exact HC0_20.out); rintro e w13 ⟨rfl, hb⟩; refine ⟨_, rfl, ?_⟩; replace HO315 := Aside0.mk (Kd.R_below (zr HO315) hb); replace BK312 := kb BK312 hb; replace HB := Aside0.mk (below_step (zb HB) hb); (try clear hb)))
   go_meet
   case rel => exact ⟨_, (true), zs, H', ⟨by first | omega | exact Nat.le_refl _⟩, ⟨by exact zr HO315⟩, ⟨by exact zk BK312⟩, ⟨zb HB⟩⟩
 case rest =>
  clear HC3
  try clear p2
  try clear c3
  try clear c4
  try clear c8
  obtain ⟨kq, x18_2, rfl, HA, HJ2, HO_5, BK312, HB⟩ := hcut
  cases kq with
  | zero => exact absurd HA.out (by simp [spec_WorldFrames.j0])
  | succ kj2 =>
   have H := HA.out
   clear HA
   simp only [spec_WorldFrames.j0] at H
   by_cases c14 : x18_2 = true
   ·subst c14
    rw [if_pos rfl] at H
    obtain rfl := Option.some.inj H
    go_wp2
    go_ret
    exact ⟨_, ze, zq (HO_5.out), zb HB⟩
   ·replace c14 := Bool.eq_false_iff.mpr c14
    subst c14
    rw [if_neg (show ¬ (false = true) by decide)] at H
    replace H := sp H
    rcases H with ⟨c15, H⟩ | ⟨c15, H⟩
    ·skip
     have c15b0 := eq_true c15
     have c15b1 := decide_eq_true c15
     try have c15b2 : (9223372036854775807 < a0_16.size + a0_22.size) = False := eq_false (Nat.not_lt.2 c15)
     have HC16 := Aside0.mk H
     clear H
     have hcz17_5 := cz (v := .string a0_5) BK312 5 rfl
     have hcz17_16 := cz (v := .string a0_16) BK312 16 rfl
     have hcz17_22 := cz (v := .string a0_22) BK312 22 rfl
     have hcz17_23 := cz (v := .string a0_23) BK312 23 rfl
     go_upto_if 27 with (fail)
     go_cut [6] (fun v6 wc => ∃ (kq : Nat) (x6_15 : ByteArray), v6 = .string x6_15 ∧ Aside0 (spec_WorldFrames.j1 kq y313 x6_15 = some r) ∧ Aside0 (kq ≤ kj2) ∧ Aside0 (Kd.R k110 110 wc w.heap.size (fun _ => True) v314 y313) ∧ Aside0 (wc.heap[gb312]? = some (.cells #[.bool a0_0, (.slice A0_1 l0_1.length c0_1), .int .i64 a0_2, (.slice A0_3 l0_3.length c0_3), .int .i64 a0_4, .string a0_5, (.slice A0_6 l0_6.length c0_6), .int .i64 a0_7, .int .i64 a0_8, (.slice A0_9 l0_9.length c0_9), .bool a0_10, .bool a0_11, (.slice A0_12 l0_12.length c0_12), .int .i64 a0_13, (.slice A0_14 l0_14.length c0_14), .int .i64 a0_15, .string a0_16, (.slice A0_17 l0_17.length c0_17), .int .i64 a0_18, .int .i64 a0_19, (.slice A0_20 l0_20.length c0_20), .bool a0_21, .string a0_22, .string a0_23] 48 (0, 0))) ∧ Aside0 (Below w.heap.size w wc))
     case first =>
      have H := HC16.out
      clear HC16
      by_cases c18 : a1 = 1
      ·rw [if_pos c18] at H
       have c18b0 : (a1 == 1) = true := beq_iff_eq.mpr c18
       have c18b1 : (a1 != 1) = false := bne_eq_false_iff_eq.mpr c18
       clear c18
       (first | rw [c18b0] | rw [c18b1] | rw [c18b2] | (simp only [i64_w, i32_w]; rw [c18b0]) | skip)
       by_cases c19 : a0_5.size + a0_23.size ≤ 9223372036854775807
       ·rw [if_pos c19] at H
        have c19b0 := eq_true c19
        have c19b1 := decide_eq_true c19
        try have c19b2 : (9223372036854775807 < a0_5.size + a0_23.size) = False := eq_false (Nat.not_lt.2 c19)
        have H' := Aside0.mk H
        clear H
        have hcz20_5 := cz (v := .string a0_5) BK312 5 rfl
        have hcz20_16 := cz (v := .string a0_16) BK312 16 rfl
        have hcz20_22 := cz (v := .string a0_22) BK312 22 rfl
        have hcz20_23 := cz (v := .string a0_23) BK312 23 rfl
        go_wp2
        go_meet
        case rel => exact ⟨_, (a0_5 ++ a0_23), zs, H', ⟨by have := HJ2.out; first | omega | exact Nat.le_refl _⟩, ⟨by exact zr HO_5⟩, ⟨by exact zk BK312⟩, ⟨zb HB⟩⟩
       ·rw [if_neg c19] at H
        exact absurd H (by simp)
      ·rw [if_neg c18] at H
       have c18b0 : (a1 == 1) = false := beq_eq_false_iff_ne.mpr c18
       have c18b1 : (a1 != 1) = true := bne_iff_ne.mpr c18
       (first | rw [c18b0] | rw [c18b1] | rw [c18b2] | (simp only [i64_w, i32_w]; rw [c18b0]) | skip)
       have H' := Aside0.mk H
       clear H
       go_wp2
       go_meet
       case rel => exact ⟨_, (a0_16 ++ a0_22), zs, H', ⟨by have := HJ2.out; first | omega | exact Nat.le_refl _⟩, ⟨by exact zr HO_5⟩, ⟨by exact zk BK312⟩, ⟨zb HB⟩⟩
     case rest =>
      clear HC16
      try clear c1
      try clear p2
      try clear c3
      try clear c4
      try clear c8
      try clear c14
      try clear c15
      try clear c15b0
      try clear c15b1
      try clear c15b2
      try clear c18
      try clear c18b0
      try clear c18b1
      try clear c18b2
      try clear c19
      try clear c19b0
      try clear c19b1
      try clear c19b2
      try clear p2
      obtain ⟨kq, x6_15, rfl, HA, HJ15, HO_5, BK312, HB⟩ := hcut
      cases kq with
      | zero => exact absurd HA.out (by simp [spec_WorldFrames.j1])
      | succ kj15 =>
       have H := HA.out
       clear HA
       simp only [spec_WorldFrames.j1] at H
       have H' := Aside0.mk H
       clear H
       go_wp2
       go_loopg [5, 6] kj15 (fun kq v5 v6 w' => ∃ (x5_3 : List (S110)) (x6_3 : ByteArray), v6 = .string x6_3 ∧ Aside0 (spec_WorldFrames.l0 kq x5_3 x6_3 = some r) ∧ Aside0 (kq ≤ kj15) ∧ Aside0 (Kd.R k110 110 w' w.heap.size (fun _ => True) v5 x5_3) ∧ Aside0 (w'.heap[gb312]? = some (.cells #[.bool a0_0, (.slice A0_1 l0_1.length c0_1), .int .i64 a0_2, (.slice A0_3 l0_3.length c0_3), .int .i64 a0_4, .string a0_5, (.slice A0_6 l0_6.length c0_6), .int .i64 a0_7, .int .i64 a0_8, (.slice A0_9 l0_9.length c0_9), .bool a0_10, .bool a0_11, (.slice A0_12 l0_12.length c0_12), .int .i64 a0_13, (.slice A0_14 l0_14.length c0_14), .int .i64 a0_15, .string a0_16, (.slice A0_17 l0_17.length c0_17), .int .i64 a0_18, .int .i64 a0_19, (.slice A0_20 l0_20.length c0_20), .bool a0_21, .string a0_22, .string a0_23] 48 (0, 0))) ∧ Aside0 (Below w.heap.size w w'))
       case atStart => exact ⟨(y313), (x6_15), zs, H', ⟨Nat.le_refl _⟩, ⟨by exact zr HO_5⟩, ⟨by exact zk BK312⟩, ⟨zb HB⟩⟩
       case round =>
        clear H'
        try clear c1
        try clear p2
        try clear c3
        try clear c4
        try clear c8
        try clear c14
        try clear c15
        try clear c15b0
        try clear c15b1
        try clear c15b2
        try clear c18
        try clear c18b0
        try clear c18b1
        try clear c18b2
        try clear c19
        try clear c19b0
        try clear c19b1
        try clear c19b2
        try clear p2
        obtain ⟨x5_3, x6_3, rfl, HA, HK3, HO_5, BK312, HB⟩ := hrel
        cases gk with
        | zero => exact absurd HA.out (by simp [spec_WorldFrames.l0])
        | succ k3 =>
         have H := HA.out
         clear HA
         simp only [spec_WorldFrames.l0] at H
         obtain ⟨⟨t318, t319, t320, t321, t322, t323⟩, A21, H⟩ := ob H
         (try dsimp only at H)
         have HC22 := Aside0.mk H
         clear H
         go_upto_if 41 with (first | ((with_reducible refine gq 99 rfl ?_); refine gl (some 36) Try.func99 #[.string x6_3] ?_; (with_reducible refine (spec_l12Read.calls k3 x6_3 t318 t319 t320 t321 t322 t323 _ A21.out).mono ?_); rintro e w23 ⟨rfl, hb⟩; refine ⟨_, rfl, ?_⟩; replace HO_5 := Aside0.mk (Kd.R_below (zr HO_5) hb); replace BK312 := kb BK312 hb; replace HB := Aside0.mk (below_step (zb HB) hb); (try clear hb)) | ((with_reducible refine gd 7 rfl ?_); refine bx (N := 7) (cs := #[.int .i64 0, .bool false, .int .i64 0, .string (⟨#[]⟩ : ByteArray)]) (t := 110) ?_; intro gb324 hg w24 hbox hb; replace HO_5 := Aside0.mk (Kd.R_below (Kd.R_elderB (zr HO_5) gb324 (Nat.le_of_eq hg.symm)) hb); have BK324 := Aside0.mk (hbox); have GW324 := gw HB hg; have GE324 := GW324; replace HB := Aside0.mk (below_step (zb HB) hb); obtain ⟨NB312_324, NB324_312⟩ := nb BK312 hg; replace BK312 := kb BK312 hb; clear hb hbox hg; have hnb25 := NB324_312.out; have hnc25 := NB312_324.out; obtain ⟨hcz26_0, hcz26_1, hcz26_2, hcz26_3, hfz26_0, hfz26_1, hfz26_2, hfz26_3⟩ := c4 BK324))
         (try simp only [Act.put, s1, s2, s3])
         have H := HC22.out
         clear HC22
         by_cases c27 : t323 ≤ 0
         ·rw [if_pos c27] at H
          have c27b0 := decide_eq_true c27
          clear c27
          (first | rw [c27b0] | rw [c27b1] | rw [c27b2] | (simp only [i64_w, i32_w]; rw [c27b0]) | skip)
          obtain rfl := Option.some.inj H
          go_wp2
          go_ret
          exact ⟨_, ze, (Kd.R_mono (ztR (Kd.R_mono HO_5.out (fun k_ hk => (⟨hk, hk.2⟩ : _ ∧ k_ ≠ gb324)))) (fun _ hk => trivial)), zb HB⟩
         ·rw [if_neg c27] at H
          have c27b0 := decide_eq_false c27
          clear c27
          (first | rw [c27b0] | rw [c27b1] | rw [c27b2] | (simp only [i64_w, i32_w]; rw [c27b0]) | skip)
          by_cases c28 : x5_3.length < 3518437208883
          ·rw [if_pos c28] at H
           have LMc28 := Aside0.mk c28
           clear c28
           obtain ⟨y325, hy325⟩ : ∃ y_ : List (S110), y_ = (x5_3 ++ [(⟨t318, t319, t320, t321⟩ : S110)]) := ⟨_, rfl⟩
           replace H : (if 0 ≤ t322 then (if t322 ≤ (x6_3.size : Int) then (spec_WorldFrames.l0 k3 y325 (x6_3.extract (t322 : Int).toNat x6_3.size)) else (none)) else (none)) = some r := by first | (rw [hy325]; with_reducible exact H) | (have H2_ := (Option.bind_some _ _).symm.trans H; rw [hy325]; with_reducible exact H2_) | (have H2_ := (Option.bind_some _ _).symm.trans H; with_reducible exact H2_) | with_reducible exact H | (rw [hy325]; exact H) | exact H
           have Ny325 := Aside0.mk hy325
           clear hy325
           by_cases c29 : 0 ≤ t322
           ·rw [if_pos c29] at H
            have c29b0 := eq_true c29
            have c29b1 := decide_eq_true c29
            clear c29
            by_cases c30 : t322 ≤ (x6_3.size : Int)
            ·rw [if_pos c30] at H
             have c30b0 := eq_true c30
             have c30b1 := decide_eq_true c30
             clear c30
             have H' := Aside0.mk H
             clear H
             have hnb31 := NB324_312.out
             have hnc31 := NB312_324.out
             obtain ⟨hcz32_0, hcz32_1, hcz32_2, hcz32_3, hfz32_0, hfz32_1, hfz32_2, hfz32_3⟩ := c4 BK324
             go_wp2_with (first | ((with_reducible refine gate_builtin (b := .append) (xs := #[.tmp 43, .tmp 45]) rfl ?_); at_builtin; refine Kd.R_append k110 (w0 := w) w.heap.size rfl (.tmp 43) (.tmp 45) 40 110 (.agg #[(.int .i64 0), (.bool false), (.int .i64 0), (.string ⟨#[]⟩)]) 40 rfl Try.underlying40 info110 rfl (by decide) (by omega) u5 x5_3 (⟨t318, t319, t320, t321⟩ : S110) [.int .i64 t318, .bool t319, .int .i64 t320, .string t321] (fun k_ => k_ ≠ gb324) (fun _ => False) rfl (by first | (go_simp; done) | (go_simp; rfl)) ?aP (fun _ hk => hk.elim) ?aF ?aO ?aB ?aS ?aL ?_; (case aP => exact k110_mkM _ _ _ (⟨t318, t319, t320, t321⟩ : S110)); (case aB => exact (zb HB)); (case aF => exact (fun k_ hk => Kd.freshB (g := gb324) (o := .cells #[.int .i64 t318, .bool t319, .int .i64 t320, .string t321] 110 (0, 0)) (zp BK324) k_ hk)); (case aO => exact ((Kd.R_mono (ztR (Kd.R_mono HO_5.out (fun k_ hk => (⟨hk, hk.2⟩ : _ ∧ k_ ≠ gb324)))) (fun _ hk => hk.1.2)))); (case aS => exact (below_size (zb HB))); (case aL => have := LMc28.out; omega); intro v326 w33 ho hb hg hat; rw [← Ny325.out] at ho; replace BK312 := Aside0.mk (blk_grown (g := gb312) (o := .cells #[.bool a0_0, .slice A0_1 l0_1.length c0_1, .int .i64 a0_2, .slice A0_3 l0_3.length c0_3, .int .i64 a0_4, .string a0_5, .slice A0_6 l0_6.length c0_6, .int .i64 a0_7, .int .i64 a0_8, .slice A0_9 l0_9.length c0_9, .bool a0_10, .bool a0_11, .slice A0_12 l0_12.length c0_12, .int .i64 a0_13, .slice A0_14 l0_14.length c0_14, .int .i64 a0_15, .string a0_16, .slice A0_17 l0_17.length c0_17, .int .i64 a0_18, .int .i64 a0_19, .slice A0_20 l0_20.length c0_20, .bool a0_21, .string a0_22, .string a0_23] 48 (0, 0)) (zp BK312) hg (Kd.R_ne HO_5.out BK312.out (by decide))); replace BK324 := Aside0.mk (blk_grown (g := gb324) (o := .cells #[.int .i64 t318, .bool t319, .int .i64 t320, .string t321] 110 (0, 0)) (zp BK324) hg (Kd.R_away HO_5.out (fun _ hk => hk.2))); replace HB := Aside0.mk (hb); have HO327 := Aside0.mk (ho); clear HO_5; clear ho hb hg hat))
             go_roundg k3
             case measure => have := HJ2.out; have := HJ15.out; have := HK3.out; omega
             case rel => exact ⟨(y325), (x6_3.extract (t322 : Int).toNat x6_3.size), zs, H', ⟨by have := HJ2.out; have := HJ15.out; have := HK3.out; omega⟩, ⟨zq (Kd.R_mono HO327.out (fun _ hk => trivial))⟩, ⟨by exact zk BK312⟩, ⟨zb HB⟩⟩
            ·rw [if_neg c30] at H
             exact absurd H (by simp)
           ·rw [if_neg c29] at H
            exact absurd H (by simp)
          ·rw [if_neg c28] at H
           exact absurd H (by simp)
    ·skip
     exact absurd H (by simp)

/-! ### impl_in: function 61 -/
-- thin
def impl_in.f (a0 : Int) (a1 : Int) (a2 : Int) : Option (Bool) := if a1 ≤ a0 then (some (decide (a0 ≤ a2))) else (some false)
set_option maxHeartbeats 8000000 in
set_option maxRecDepth 100000 in
theorem impl_in.calls (a0 : Int) (a1 : Int) (a2 : Int) (r : Bool) (w : World) (h : impl_in.f a0 a1 a2 = some r) :
  Calls Try.prog 61 #[.int .i64 a0, .int .i64 a1, .int .i64 a2] w fun e w' => e = .returned (.bool r) ∧ Drawn0 w w' := by
 have H : (if a1 ≤ a0 then (some (decide (a0 ≤ a2))) else (some false)) = some r := h
 clear h
 replace H := sp H
 rcases H with ⟨c4, H⟩ | ⟨c4, H⟩
 ·skip
  have c4b0 := decide_eq_true c4
  clear c4
  obtain rfl := Option.some.inj H
  go_enter Try.func61, Try.ntmps61
  go_wp2
  go_ret
  exact ⟨zs, by repeat (first | exact Drawn0.refl _ | apply Drawn0.step)⟩
 ·skip
  have c4b0 := decide_eq_false c4
  clear c4
  obtain rfl := Option.some.inj H
  go_enter Try.func61, Try.ntmps61
  go_wp2
  go_ret
  exact ⟨zs, by repeat (first | exact Drawn0.refl _ | apply Drawn0.step)⟩

-- NOT PRINTED: function 171 (bytealg_IndexByteString)

-- NOT PRINTED: function 167 (stringslite_IndexByte)

/-! ### strings_IndexByte: function 153 -/
-- by hand
def TryL.lays137_ren : Go.Shelf.Ren := ⟨fun | 137 => 153 | 217 => 167 | 266 => 171 | n => n, fun | 9 => 9 | 5 => 5 | 3 => 3 | n => n, fun | n => n⟩
theorem TryL.lays137 : Go.Proofs.Lays.n137 Try.prog TryL.lays137_ren := {
  mixed := by kernel_rfl
  f137 := Try.func153.trans (congrArg some (by kernel_rfl))
  f217 := Try.func167.trans (congrArg some (by kernel_rfl))
  f266 := Try.func171.trans (congrArg some (by kernel_rfl))
  t3 := Try.underlying3
  a3 := Try.isAgg3
  z3 := Try.sizeOf3
  v3 := Try.zeroValue3
  t5 := Try.underlying5
  a5 := Try.isAgg5
  z5 := Try.sizeOf5
  v5 := Try.zeroValue5
  t9 := Try.underlying9
  a9 := Try.isAgg9
  z9 := Try.sizeOf9
  v9 := Try.zeroValue9 }
/-- The place of the first byte that is a1; -1, if there is none. -/
def strings_IndexByte.f (a0 : ByteArray) (a1 : Int) : Option (Int) := some (Lib.indexByte a0.data.toList a1.toNat.toUInt8)
theorem strings_IndexByte.calls (a0 : ByteArray) (a1 : Int) (r : Int) (w : World) (h : strings_IndexByte.f a0 a1 = some r) :
    Calls Try.prog 153 #[.string a0, .int .u8 a1] w fun e w' => e = .returned (.int .i64 r) ∧ Drawn0 w w' := by
  simp only [strings_IndexByte.f, Option.some.injEq] at h
  subst h
  refine (Go.Proofs.Any.strings_IndexByte TryL.lays137 a0 a1 w).mono ?_
  rintro e w' ⟨rfl, rfl⟩
  exact ⟨rfl, Drawn0.refl _⟩

end Go.Proofs.Ytlpibelofcabhaa.PFnExactWorldFrames
