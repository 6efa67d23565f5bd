-- WRITTEN BY a turned print (wip/tools of the prover's repo)
import Derived.Test.YtlpibelofcabhaaPFnExactWorldFramesx4
import Derived.Test.YtlpibelofcabhaaPFnExactWorldFramesx0
import Derived.Test.YtlpibelofcabhaaPFnExactWorldFramesx9
import Derived.Test.YtlpibelofcabhaaPFnExactWorldFramesx13
namespace Go.Proofs.Ytlpibelofcabhaa.PFnExactWorldFrames
open Go.RowKit Go.Proofs.YtlpibelofcabhaaW.PrintWords Go.Proofs.YtlpibelofcabhaaW.PrintLast Go.Proofs.YtlpibelofcabhaaW.PrintMore Go.Proofs.Ytlpibelofcabhaa.Lm
attribute [local go_sem] max2_int min2_int max_two min_two max_three min_three max_four min_four   -- for this text's walks alone
set_option linter.unusedVariables false
set_option linter.unusedSimpArgs false

/-! ### impl_WorldFrames: function 43 -/
-- thin
mutual
def impl_WorldFrames.j0 : Nat → Int → Bool → Bool → List (S88) → Int → List (S88) → Int → ByteArray → List (S104) → Int → Int → List (S110) → Bool → Bool → List (S88) → Int → List (S88) → Int → ByteArray → List (S104) → Int → Int → List (S110) → Bool → ByteArray → ByteArray → Option ((List (S110)))
 | 0, _, _, _, _, _, _, _, _, _, _, _, _, _, _, _, _, _, _, _, _, _, _, _, _, _, _ => none
 | k + 1, x1, x17, x383000, x383001, x383002, x383003, x383004, x383005, x383006, x383007, x383008, x383009, x383010, x383011, x383012, x383013, x383014, x383015, x383016, x383017, x383018, x383019, x383020, x383021, x383022, x383023 => if x17 = true then (some ([] : List (S110))) else (if x383016.size + x383022.size ≤ 9223372036854775807 then (if x1 = 1 then (if x383005.size + x383023.size ≤ 9223372036854775807 then (impl_WorldFrames.j1 k (x383005 ++ x383023)) else (none)) else (impl_WorldFrames.j1 k (x383016 ++ x383022))) else (none))
def impl_WorldFrames.j1 : Nat → ByteArray → Option ((List (S110)))
 | 0, _ => none
 | k + 1, x5 => impl_WorldFrames.l0 k x5 ([] : List (S110))
def impl_WorldFrames.l0 : Nat → ByteArray → List (S110) → Option ((List (S110)))
 | 0, _, _ => none
 | k + 1, x5, x6 => (impl_FrameRead.f k x5).bind fun bt385 => (if bt385.2.2.2.2.2 = 1 then (if x6.length < 3518437208883 then (if 0 ≤ bt385.2.2.2.2.1 then (if bt385.2.2.2.2.1 ≤ (x5.size : Int) then (impl_WorldFrames.l0 k (x5.extract (bt385.2.2.2.2.1 : Int).toNat x5.size) (x6 ++ [(⟨bt385.1, bt385.2.1, bt385.2.2.1, bt385.2.2.2.1⟩ : S110)])) else (none)) else (none)) else (none)) else (some x6))
end
def impl_WorldFrames.f (k : Nat) (a0_0 : Bool) (l0_1 : List (S88)) (a0_2 : Int) (l0_3 : List (S88)) (a0_4 : Int) (a0_5 : ByteArray) (l0_6 : List (S104)) (a0_7 : Int) (a0_8 : Int) (l0_9 : List (S110)) (a0_10 : Bool) (a0_11 : Bool) (l0_12 : List (S88)) (a0_13 : Int) (l0_14 : List (S88)) (a0_15 : Int) (a0_16 : ByteArray) (l0_17 : List (S104)) (a0_18 : Int) (a0_19 : Int) (l0_20 : List (S110)) (a0_21 : Bool) (a0_22 : ByteArray) (a0_23 : ByteArray) (a1 : Int) : Option ((List (S110))) := (impl_WorldOk.f k a0_0 l0_1 a0_2 l0_3 a0_4 a0_5 l0_6 a0_7 a0_8 l0_9 a0_10 a0_11 l0_12 a0_13 l0_14 a0_15 a0_16 l0_17 a0_18 a0_19 l0_20 a0_21 a0_22 a0_23).bind fun t383 => (if t383 = true then ((impl_in.f a1 0 1).bind fun t384 => (impl_WorldFrames.j0 k a1 (!t384) a0_0 l0_1 a0_2 l0_3 a0_4 a0_5 l0_6 a0_7 a0_8 l0_9 a0_10 a0_11 l0_12 a0_13 l0_14 a0_15 a0_16 l0_17 a0_18 a0_19 l0_20 a0_21 a0_22 a0_23)) else (impl_WorldFrames.j0 k a1 true a0_0 l0_1 a0_2 l0_3 a0_4 a0_5 l0_6 a0_7 a0_8 l0_9 a0_10 a0_11 l0_12 a0_13 l0_14 a0_15 a0_16 l0_17 a0_18 a0_19 l0_20 a0_21 a0_22 a0_23))
theorem impl_WorldFrames.mono_l : ∀ k, (∀ y0 y1 y2 y3 y4 y5 y6 y7 y8 y9 y10 y11 y12 y13 y14 y15 y16 y17 y18 y19 y20 y21 y22 y23 y24 y25, LeO (impl_WorldFrames.j0 k y0 y1 y2 y3 y4 y5 y6 y7 y8 y9 y10 y11 y12 y13 y14 y15 y16 y17 y18 y19 y20 y21 y22 y23 y24 y25) (impl_WorldFrames.j0 (k + 1) y0 y1 y2 y3 y4 y5 y6 y7 y8 y9 y10 y11 y12 y13 y14 y15 y16 y17 y18 y19 y20 y21 y22 y23 y24 y25)) ∧ (∀ y0, LeO (impl_WorldFrames.j1 k y0) (impl_WorldFrames.j1 (k + 1) y0)) ∧ (∀ y0 y1, LeO (impl_WorldFrames.l0 k y0 y1) (impl_WorldFrames.l0 (k + 1) y0 y1))
 | 0 => ⟨fun _ _ _ _ _ _ _ _ _ _ _ _ _ _ _ _ _ _ _ _ _ _ _ _ _ _ r h => by simp [impl_WorldFrames.j0] at h, fun _ r h => by simp [impl_WorldFrames.j1] at h, fun _ _ r h => by simp [impl_WorldFrames.l0] at h⟩
 | k + 1 => by
  obtain ⟨ih0, ih1, ih2⟩ := impl_WorldFrames.mono_l k
  refine ⟨?_, ?_, ?_⟩
  ·intro y0 y1 y2 y3 y4 y5 y6 y7 y8 y9 y10 y11 y12 y13 y14 y15 y16 y17 y18 y19 y20 y21 y22 y23 y24 y25
   unfold impl_WorldFrames.j0
   have m0 := @impl_FrameRead.mono
   have m1 := @impl_WorldOk.mono
   exact zm
  ·intro y0
   unfold impl_WorldFrames.j1
   have m0 := @impl_FrameRead.mono
   have m1 := @impl_WorldOk.mono
   exact zm
  ·intro y0 y1
   unfold impl_WorldFrames.l0
   have m0 := @impl_FrameRead.mono
   have m1 := @impl_WorldOk.mono
   exact zm
theorem impl_WorldFrames.mono : ∀ a0 a1 a2 a3 a4 a5 a6 a7 a8 a9 a10 a11 a12 a13 a14 a15 a16 a17 a18 a19 a20 a21 a22 a23 a24 k, LeO (impl_WorldFrames.f k a0 a1 a2 a3 a4 a5 a6 a7 a8 a9 a10 a11 a12 a13 a14 a15 a16 a17 a18 a19 a20 a21 a22 a23 a24) (impl_WorldFrames.f (k + 1) a0 a1 a2 a3 a4 a5 a6 a7 a8 a9 a10 a11 a12 a13 a14 a15 a16 a17 a18 a19 a20 a21 a22 a23 a24) := by
 intro a0 a1 a2 a3 a4 a5 a6 a7 a8 a9 a10 a11 a12 a13 a14 a15 a16 a17 a18 a19 a20 a21 a22 a23 a24 k
 obtain ⟨ih0, ih1, ih2⟩ := impl_WorldFrames.mono_l k
 unfold impl_WorldFrames.f
 have m0 := @impl_FrameRead.mono
 have m1 := @impl_WorldOk.mono
 exact zm
set_option maxHeartbeats 8000000 in
set_option maxRecDepth 100000 in
theorem impl_WorldFrames.calls (k : Nat) (a0_0 : Bool) (A0_1 : Option Addr) (c0_1 : Nat) (l0_1 : List (S88)) (a0_2 : Int) (A0_3 : Option Addr) (c0_3 : Nat) (l0_3 : List (S88)) (a0_4 : Int) (a0_5 : ByteArray) (A0_6 : Option Addr) (c0_6 : Nat) (l0_6 : List (S104)) (a0_7 : Int) (a0_8 : Int) (A0_9 : Option Addr) (c0_9 : Nat) (l0_9 : List (S110)) (a0_10 : Bool) (a0_11 : Bool) (A0_12 : Option Addr) (c0_12 : Nat) (l0_12 : List (S88)) (a0_13 : Int) (A0_14 : Option Addr) (c0_14 : Nat) (l0_14 : List (S88)) (a0_15 : Int) (a0_16 : ByteArray) (A0_17 : Option Addr) (c0_17 : Nat) (l0_17 : List (S104)) (a0_18 : Int) (a0_19 : Int) (A0_20 : Option Addr) (c0_20 : Nat) (l0_20 : List (S110)) (a0_21 : Bool) (a0_22 : ByteArray) (a0_23 : ByteArray) (a1 : Int) (r : List (S110)) (w : World) (hr0_1 : Kd.C k88 w A0_1 l0_1.length l0_1) (hc0_1 : l0_1.length ≤ c0_1) (hr0_3 : Kd.C k88 w A0_3 l0_3.length l0_3) (hc0_3 : l0_3.length ≤ c0_3) (hr0_6 : Kd.C k104 w A0_6 l0_6.length l0_6) (hc0_6 : l0_6.length ≤ c0_6) (hr0_9 : Kd.C k110 w A0_9 l0_9.length l0_9) (hc0_9 : l0_9.length ≤ c0_9) (hr0_12 : Kd.C k88 w A0_12 l0_12.length l0_12) (hc0_12 : l0_12.length ≤ c0_12) (hr0_14 : Kd.C k88 w A0_14 l0_14.length l0_14) (hc0_14 : l0_14.length ≤ c0_14) (hr0_17 : Kd.C k104 w A0_17 l0_17.length l0_17) (hc0_17 : l0_17.length ≤ c0_17) (hr0_20 : Kd.C k110 w A0_20 l0_20.length l0_20) (hc0_20 : l0_20.length ≤ c0_20) (h : impl_WorldFrames.f k a0_0 l0_1 a0_2 l0_3 a0_4 a0_5 l0_6 a0_7 a0_8 l0_9 a0_10 a0_11 l0_12 a0_13 l0_14 a0_15 a0_16 l0_17 a0_18 a0_19 l0_20 a0_21 a0_22 a0_23 a1 = some r) :
  Calls Try.prog 43 #[.agg #[.bool a0_0, .slice A0_1 l0_1.length c0_1, .int .i64 a0_2, .slice A0_3 l0_3.length c0_3, .int .i64 a0_4, .string a0_5, .slice A0_6 l0_6.length c0_6, .int .i64 a0_7, .int .i64 a0_8, .slice A0_9 l0_9.length c0_9, .bool a0_10, .bool a0_11, .slice A0_12 l0_12.length c0_12, .int .i64 a0_13, .slice A0_14 l0_14.length c0_14, .int .i64 a0_15, .string a0_16, .slice A0_17 l0_17.length c0_17, .int .i64 a0_18, .int .i64 a0_19, .slice A0_20 l0_20.length c0_20, .bool a0_21, .string a0_22, .string a0_23], .int .i64 a1] w fun e w' => ∃ v0_ : Value, e = .returned (v0_) ∧ Kd.R k110 110 w' w.heap.size (fun _ => True) v0_ r ∧ Below w.heap.size w w' := by
 have hu48 := Try.underlying48
 have hu110 := Try.underlying110
 have HR0_1 := Aside0.mk hr0_1
 have HC0_1 := Aside0.mk hc0_1
 clear hr0_1 hc0_1
 have HR0_3 := Aside0.mk hr0_3
 have HC0_3 := Aside0.mk hc0_3
 clear hr0_3 hc0_3
 have HR0_6 := Aside0.mk hr0_6
 have HC0_6 := Aside0.mk hc0_6
 clear hr0_6 hc0_6
 have HR0_9 := Aside0.mk hr0_9
 have HC0_9 := Aside0.mk hc0_9
 clear hr0_9 hc0_9
 have HR0_12 := Aside0.mk hr0_12
 have HC0_12 := Aside0.mk hc0_12
 clear hr0_12 hc0_12
 have HR0_14 := Aside0.mk hr0_14
 have HC0_14 := Aside0.mk hc0_14
 clear hr0_14 hc0_14
 have HR0_17 := Aside0.mk hr0_17
 have HC0_17 := Aside0.mk hc0_17
 clear hr0_17 hc0_17
 have HR0_20 := Aside0.mk hr0_20
 have HC0_20 := Aside0.mk hc0_20
 clear hr0_20 hc0_20
 have HB := Aside0.mk (Below.refl w.heap.size w)
 have H : ((impl_WorldOk.f k a0_0 l0_1 a0_2 l0_3 a0_4 a0_5 l0_6 a0_7 a0_8 l0_9 a0_10 a0_11 l0_12 a0_13 l0_14 a0_15 a0_16 l0_17 a0_18 a0_19 l0_20 a0_21 a0_22 a0_23).bind fun t383 => (if t383 = true then ((impl_in.f a1 0 1).bind fun t384 => (impl_WorldFrames.j0 k a1 (!t384) a0_0 l0_1 a0_2 l0_3 a0_4 a0_5 l0_6 a0_7 a0_8 l0_9 a0_10 a0_11 l0_12 a0_13 l0_14 a0_15 a0_16 l0_17 a0_18 a0_19 l0_20 a0_21 a0_22 a0_23)) else (impl_WorldFrames.j0 k a1 true a0_0 l0_1 a0_2 l0_3 a0_4 a0_5 l0_6 a0_7 a0_8 l0_9 a0_10 a0_11 l0_12 a0_13 l0_14 a0_15 a0_16 l0_17 a0_18 a0_19 l0_20 a0_21 a0_22 a0_23))) = some r := h
 clear h
 have HC3 := Aside0.mk H
 clear H
 go_enter Try.func43, Try.ntmps43
 go_upto_region 1 with (first | ((with_reducible refine gd 2 rfl ?_); refine bx (N := 2) (cs := #[.bool a0_0, .slice A0_1 l0_1.length c0_1, .int .i64 a0_2, .slice A0_3 l0_3.length c0_3, .int .i64 a0_4, .string a0_5, .slice A0_6 l0_6.length c0_6, .int .i64 a0_7, .int .i64 a0_8, .slice A0_9 l0_9.length c0_9, .bool a0_10, .bool a0_11, .slice A0_12 l0_12.length c0_12, .int .i64 a0_13, .slice A0_14 l0_14.length c0_14, .int .i64 a0_15, .string a0_16, .slice A0_17 l0_17.length c0_17, .int .i64 a0_18, .int .i64 a0_19, .slice A0_20 l0_20.length c0_20, .bool a0_21, .string a0_22, .string a0_23]) (t := 48) ?_; intro gb382 hg w4 hbox hb; have BK382 := Aside0.mk (hbox); have GW382 := gw HB hg; have GE382 := GW382; replace HB := Aside0.mk (below_step (zb HB) hb); clear hb hbox hg))
 (try simp only [Act.put, s1, s2, s3])
 go_cut [17] (fun v17 wc => ∃ (kq : Nat) (x17_2 : Bool), v17 = .bool x17_2 ∧ Aside0 (impl_WorldFrames.j0 kq a1 x17_2 a0_0 l0_1 a0_2 l0_3 a0_4 a0_5 l0_6 a0_7 a0_8 l0_9 a0_10 a0_11 l0_12 a0_13 l0_14 a0_15 a0_16 l0_17 a0_18 a0_19 l0_20 a0_21 a0_22 a0_23 = some r) ∧ Aside0 (kq ≤ k) ∧ Aside0 (wc.heap[gb382]? = some (.cells #[.bool a0_0, (.slice A0_1 l0_1.length c0_1), .int .i64 a0_2, (.slice A0_3 l0_3.length c0_3), .int .i64 a0_4, .string a0_5, (.slice A0_6 l0_6.length c0_6), .int .i64 a0_7, .int .i64 a0_8, (.slice A0_9 l0_9.length c0_9), .bool a0_10, .bool a0_11, (.slice A0_12 l0_12.length c0_12), .int .i64 a0_13, (.slice A0_14 l0_14.length c0_14), .int .i64 a0_15, .string a0_16, (.slice A0_17 l0_17.length c0_17), .int .i64 a0_18, .int .i64 a0_19, (.slice A0_20 l0_20.length c0_20), .bool a0_21, .string a0_22, .string a0_23] 48 (0, 0))) ∧ Aside0 (Below w.heap.size w wc))
 case first =>
  have H := HC3.out
  clear HC3
  obtain ⟨t383, A5, H⟩ := ob H
  (try dsimp only at H)
  by_cases c6 : t383 = true
  ·subst c6
   rw [if_pos rfl] at H
   obtain ⟨t384, A7, H⟩ := ob H
   (try dsimp only at H)
   have H' := Aside0.mk H
   clear H
   go_wp2_with (first | ((with_reducible refine gd 10 rfl ?_); refine ld BK382 0 ([.bool a0_0, .slice A0_1 l0_1.length c0_1, .int .i64 a0_2, .slice A0_3 l0_3.length c0_3, .int .i64 a0_4, .string a0_5, .slice A0_6 l0_6.length c0_6, .int .i64 a0_7, .int .i64 a0_8, .slice A0_9 l0_9.length c0_9, .bool a0_10, .bool a0_11, .slice A0_12 l0_12.length c0_12, .int .i64 a0_13, .slice A0_14 l0_14.length c0_14, .int .i64 a0_15, .string a0_16, .slice A0_17 l0_17.length c0_17, .int .i64 a0_18, .int .i64 a0_19, .slice A0_20 l0_20.length c0_20, .bool a0_21, .string a0_22, .string a0_23] : List Value) Try.underlying48 ?_) | ((with_reducible refine gq 41 rfl ?_); refine gl (some 11) Try.func41 #[.agg #[.bool a0_0, .slice A0_1 l0_1.length c0_1, .int .i64 a0_2, .slice A0_3 l0_3.length c0_3, .int .i64 a0_4, .string a0_5, .slice A0_6 l0_6.length c0_6, .int .i64 a0_7, .int .i64 a0_8, .slice A0_9 l0_9.length c0_9, .bool a0_10, .bool a0_11, .slice A0_12 l0_12.length c0_12, .int .i64 a0_13, .slice A0_14 l0_14.length c0_14, .int .i64 a0_15, .string a0_16, .slice A0_17 l0_17.length c0_17, .int .i64 a0_18, .int .i64 a0_19, .slice A0_20 l0_20.length c0_20, .bool a0_21, .string a0_22, .string a0_23]] ?_; (with_reducible refine (impl_WorldOk.calls k a0_0 _ _ l0_1 a0_2 _ _ l0_3 a0_4 a0_5 _ _ l0_6 a0_7 a0_8 _ _ l0_9 a0_10 a0_11 _ _ l0_12 a0_13 _ _ l0_14 a0_15 a0_16 _ _ l0_17 a0_18 a0_19 _ _ l0_20 a0_21 a0_22 a0_23 true _ ?side1 ?side2 ?side3 ?side4 ?side5 ?side6 ?side7 ?side8 ?side9 ?side10 ?side11 ?side12 ?side13 ?side14 ?side15 ?side16 A5.out).mono ?_); (case side1 => exact zc (Kd.C_below HR0_1.out HB.out)); (case side2 => exact HC0_1.out); (case side3 => exact zc (Kd.C_below HR0_3.out HB.out)); (case side4 => exact HC0_3.out); (case side5 => exact zc (Kd.C_below HR0_6.out HB.out)); (case side6 => exact HC0_6.out); (case side7 => exact zc (Kd.C_below HR0_9.out HB.out)); (case side8 => exact HC0_9.out); (case side9 => exact zc (Kd.C_below HR0_12.out HB.out)); (case side10 => exact HC0_12.out); (case side11 => exact zc (Kd.C_below HR0_14.out HB.out)); (case side12 => exact HC0_14.out); (case side13 => exact zc (Kd.C_below HR0_17.out HB.out)); (case side14 => exact HC0_17.out); (case side15 => exact zc (Kd.C_below HR0_20.out HB.out)); (case side16 => exact HC0_20.out); rintro e w9 ⟨rfl, hb⟩; refine ⟨_, rfl, ?_⟩; replace BK382 := kb BK382 hb; replace HB := Aside0.mk (below_step (zb HB) hb); (try clear hb)) | (go_at_call 61; (with_reducible refine (impl_in.calls a1 0 1 t384 _ A7.out).mono ?_); rintro e w' ⟨rfl, ⟨nd, rfl⟩⟩))
   go_meet
   case rel => exact ⟨_, (!t384), zs, H', ⟨by first | omega | exact Nat.le_refl _⟩, ⟨by exact zk BK382⟩, ⟨zb HB⟩⟩
  ·replace c6 := Bool.eq_false_iff.mpr c6
   subst c6
   rw [if_neg (show ¬ (false = true) by decide)] at H
   have H' := Aside0.mk H
   clear H
   go_wp2_with (first | ((with_reducible refine gd 10 rfl ?_); refine ld BK382 0 ([.bool a0_0, .slice A0_1 l0_1.length c0_1, .int .i64 a0_2, .slice A0_3 l0_3.length c0_3, .int .i64 a0_4, .string a0_5, .slice A0_6 l0_6.length c0_6, .int .i64 a0_7, .int .i64 a0_8, .slice A0_9 l0_9.length c0_9, .bool a0_10, .bool a0_11, .slice A0_12 l0_12.length c0_12, .int .i64 a0_13, .slice A0_14 l0_14.length c0_14, .int .i64 a0_15, .string a0_16, .slice A0_17 l0_17.length c0_17, .int .i64 a0_18, .int .i64 a0_19, .slice A0_20 l0_20.length c0_20, .bool a0_21, .string a0_22, .string a0_23] : List Value) Try.underlying48 ?_) | ((with_reducible refine gq 41 rfl ?_); refine gl (some 11) Try.func41 #[.agg #[.bool a0_0, .slice A0_1 l0_1.length c0_1, .int .i64 a0_2, .slice A0_3 l0_3.length c0_3, .int .i64 a0_4, .string a0_5, .slice A0_6 l0_6.length c0_6, .int .i64 a0_7, .int .i64 a0_8, .slice A0_9 l0_9.length c0_9, .bool a0_10, .bool a0_11, .slice A0_12 l0_12.length c0_12, .int .i64 a0_13, .slice A0_14 l0_14.length c0_14, .int .i64 a0_15, .string a0_16, .slice A0_17 l0_17.length c0_17, .int .i64 a0_18, .int .i64 a0_19, .slice A0_20 l0_20.length c0_20, .bool a0_21, .string a0_22, .string a0_23]] ?_; (with_reducible refine (impl_WorldOk.calls k a0_0 _ _ l0_1 a0_2 _ _ l0_3 a0_4 a0_5 _ _ l0_6 a0_7 a0_8 _ _ l0_9 a0_10 a0_11 _ _ l0_12 a0_13 _ _ l0_14 a0_15 a0_16 _ _ l0_17 a0_18 a0_19 _ _ l0_20 a0_21 a0_22 a0_23 false _ ?side1 ?side2 ?side3 ?side4 ?side5 ?side6 ?side7 ?side8 ?side9 ?side10 ?side11 ?side12 ?side13 ?side14 ?side15 ?side16 A5.out).mono ?_); (case side1 => exact zc (Kd.C_below HR0_1.out HB.out)); (case side2 => exact HC0_1.out); (case side3 => exact zc (Kd.C_below HR0_3.out HB.out)); (case side4 => exact HC0_3.out); (case side5 => exact zc (Kd.C_below HR0_6.out HB.out)); (case side6 => exact HC0_6.out); (case side7 => exact zc (Kd.C_below HR0_9.out HB.out)); (case side8 => exact HC0_9.out); (case side9 => exact zc (Kd.C_below HR0_12.out HB.out)); (case side10 => exact HC0_12.out); (case side11 => exact zc (Kd.C_below HR0_14.out HB.out)); (case side12 => exact HC0_14.out); (case side13 => exact zc (Kd.C_below HR0_17.out HB.out)); (case side14 => exact HC0_17.out); (case side15 => exact zc (Kd.C_below HR0_20.out HB.out)); (case side16 => exact HC0_20.out); rintro e w11 ⟨rfl, hb⟩; refine ⟨_, rfl, ?_⟩; replace BK382 := kb BK382 hb; replace HB := Aside0.mk (below_step (zb HB) hb); (try clear hb)))
   go_meet
   case rel => exact ⟨_, (true), zs, H', ⟨by first | omega | exact Nat.le_refl _⟩, ⟨by exact zk BK382⟩, ⟨zb HB⟩⟩
 case rest =>
  clear HC3
  try clear p2
  try clear c4
  try clear c6
  obtain ⟨kq, x17_2, rfl, HA, HJ2, BK382, HB⟩ := hcut
  cases kq with
  | zero => exact absurd HA.out (by simp [impl_WorldFrames.j0])
  | succ kj2 =>
   have H := HA.out
   clear HA
   simp only [impl_WorldFrames.j0] at H
   by_cases c12 : x17_2 = true
   ·subst c12
    rw [if_pos rfl] at H
    obtain rfl := Option.some.inj H
    go_wp2
    go_ret
    exact ⟨_, ze, by first | exact Kd.R_nil _ _ _ _ _ | exact Kd.N_nil _ _ _ _ _ | exact Kd.V_nil _ _ _ _ _ | exact Kd.Q_nil _ _ _ _ _ | exact Kd.S_nil _ _ _ _ _, zb HB⟩
   ·replace c12 := Bool.eq_false_iff.mpr c12
    subst c12
    rw [if_neg (show ¬ (false = true) by decide)] at H
    replace H := sp H
    rcases H with ⟨c13, H⟩ | ⟨c13, H⟩
    ·skip
     have c13b0 := eq_true c13
     have c13b1 := decide_eq_true c13
     try have c13b2 : (9223372036854775807 < a0_16.size + a0_22.size) = False := eq_false (Nat.not_lt.2 c13)
     have HC14 := Aside0.mk H
     clear H
     have hcz15_5 := cz (v := .string a0_5) BK382 5 rfl
     have hcz15_16 := cz (v := .string a0_16) BK382 16 rfl
     have hcz15_22 := cz (v := .string a0_22) BK382 22 rfl
     have hcz15_23 := cz (v := .string a0_23) BK382 23 rfl
     go_upto_if 25 with (fail)
     go_cut [5] (fun v5 wc => ∃ (kq : Nat) (x5_13 : ByteArray), v5 = .string x5_13 ∧ Aside0 (impl_WorldFrames.j1 kq x5_13 = some r) ∧ Aside0 (kq ≤ kj2) ∧ Aside0 (wc.heap[gb382]? = some (.cells #[.bool a0_0, (.slice A0_1 l0_1.length c0_1), .int .i64 a0_2, (.slice A0_3 l0_3.length c0_3), .int .i64 a0_4, .string a0_5, (.slice A0_6 l0_6.length c0_6), .int .i64 a0_7, .int .i64 a0_8, (.slice A0_9 l0_9.length c0_9), .bool a0_10, .bool a0_11, (.slice A0_12 l0_12.length c0_12), .int .i64 a0_13, (.slice A0_14 l0_14.length c0_14), .int .i64 a0_15, .string a0_16, (.slice A0_17 l0_17.length c0_17), .int .i64 a0_18, .int .i64 a0_19, (.slice A0_20 l0_20.length c0_20), .bool a0_21, .string a0_22, .string a0_23] 48 (0, 0))) ∧ Aside0 (Below w.heap.size w wc))
     case first =>
      have H := HC14.out
      clear HC14
      by_cases c16 : a1 = 1
      ·rw [if_pos c16] at H
       have c16b0 : (a1 == 1) = true := beq_iff_eq.mpr c16
       have c16b1 : (a1 != 1) = false := bne_eq_false_iff_eq.mpr c16
       clear c16
       (first | rw [c16b0] | rw [c16b1] | rw [c16b2] | (simp only [i64_w, i32_w]; rw [c16b0]) | skip)
       by_cases c17 : a0_5.size + a0_23.size ≤ 9223372036854775807
       ·rw [if_pos c17] at H
        have c17b0 := eq_true c17
        have c17b1 := decide_eq_true c17
        try have c17b2 : (9223372036854775807 < a0_5.size + a0_23.size) = False := eq_false (Nat.not_lt.2 c17)
        have H' := Aside0.mk H
        clear H
        have hcz18_5 := cz (v := .string a0_5) BK382 5 rfl
        have hcz18_16 := cz (v := .string a0_16) BK382 16 rfl
        have hcz18_22 := cz (v := .string a0_22) BK382 22 rfl
        have hcz18_23 := cz (v := .string a0_23) BK382 23 rfl
        go_wp2
        go_meet
        case rel => exact ⟨_, (a0_5 ++ a0_23), zs, H', ⟨by have := HJ2.out; first | omega | exact Nat.le_refl _⟩, ⟨by exact zk BK382⟩, ⟨zb HB⟩⟩
       ·rw [if_neg c17] at H
        exact absurd H (by simp)
      ·rw [if_neg c16] at H
       have c16b0 : (a1 == 1) = false := beq_eq_false_iff_ne.mpr c16
       have c16b1 : (a1 != 1) = true := bne_iff_ne.mpr c16
       (first | rw [c16b0] | rw [c16b1] | rw [c16b2] | (simp only [i64_w, i32_w]; rw [c16b0]) | skip)
       have H' := Aside0.mk H
       clear H
       go_wp2
       go_meet
       case rel => exact ⟨_, (a0_16 ++ a0_22), zs, H', ⟨by have := HJ2.out; first | omega | exact Nat.le_refl _⟩, ⟨by exact zk BK382⟩, ⟨zb HB⟩⟩
     case rest =>
      clear HC14
      try clear c1
      try clear p2
      try clear c4
      try clear c6
      try clear c12
      try clear c13
      try clear c13b0
      try clear c13b1
      try clear c13b2
      try clear c16
      try clear c16b0
      try clear c16b1
      try clear c16b2
      try clear c17
      try clear c17b0
      try clear c17b1
      try clear c17b2
      try clear p2
      obtain ⟨kq, x5_13, rfl, HA, HJ13, BK382, HB⟩ := hcut
      cases kq with
      | zero => exact absurd HA.out (by simp [impl_WorldFrames.j1])
      | succ kj13 =>
       have H := HA.out
       clear HA
       simp only [impl_WorldFrames.j1] at H
       have H' := Aside0.mk H
       clear H
       go_wp2
       go_loopg [5, 6] kj13 (fun kq v5 v6 w' => ∃ (x5_3 : ByteArray) (x6_3 : List (S110)), v5 = .string x5_3 ∧ Aside0 (impl_WorldFrames.l0 kq x5_3 x6_3 = some r) ∧ Aside0 (kq ≤ kj13) ∧ Aside0 (Kd.R k110 110 w' w.heap.size (fun _ => True) v6 x6_3) ∧ Aside0 (w'.heap[gb382]? = some (.cells #[.bool a0_0, (.slice A0_1 l0_1.length c0_1), .int .i64 a0_2, (.slice A0_3 l0_3.length c0_3), .int .i64 a0_4, .string a0_5, (.slice A0_6 l0_6.length c0_6), .int .i64 a0_7, .int .i64 a0_8, (.slice A0_9 l0_9.length c0_9), .bool a0_10, .bool a0_11, (.slice A0_12 l0_12.length c0_12), .int .i64 a0_13, (.slice A0_14 l0_14.length c0_14), .int .i64 a0_15, .string a0_16, (.slice A0_17 l0_17.length c0_17), .int .i64 a0_18, .int .i64 a0_19, (.slice A0_20 l0_20.length c0_20), .bool a0_21, .string a0_22, .string a0_23] 48 (0, 0))) ∧ Aside0 (Below w.heap.size w w'))
       case atStart => exact ⟨(x5_13), (([] : List (S110))), zs, H', ⟨Nat.le_refl _⟩, ⟨by first | exact Kd.R_nil _ _ _ _ _ | exact Kd.N_nil _ _ _ _ _ | exact Kd.V_nil _ _ _ _ _ | exact Kd.Q_nil _ _ _ _ _ | exact Kd.S_nil _ _ _ _ _⟩, ⟨by exact zk BK382⟩, ⟨zb HB⟩⟩
       case round =>
        clear H'
        try clear c1
        try clear p2
        try clear c4
        try clear c6
        try clear c12
        try clear c13
        try clear c13b0
        try clear c13b1
        try clear c13b2
        try clear c16
        try clear c16b0
        try clear c16b1
        try clear c16b2
        try clear c17
        try clear c17b0
        try clear c17b1
        try clear c17b2
        try clear p2
        obtain ⟨x5_3, x6_3, rfl, HA, HK3, HO_6, BK382, HB⟩ := hrel
        cases gk with
        | zero => exact absurd HA.out (by simp [impl_WorldFrames.l0])
        | succ k3 =>
         have H := HA.out
         clear HA
         simp only [impl_WorldFrames.l0] at H
         obtain ⟨⟨t385, t386, t387, t388, t389, t390⟩, A19, H⟩ := ob H
         (try dsimp only at H)
         have HC20 := Aside0.mk H
         clear H
         go_upto_if 39 with (first | ((with_reducible refine gq 100 rfl ?_); refine gl (some 34) Try.func100 #[.string x5_3] ?_; (with_reducible refine (impl_FrameRead.calls k3 x5_3 t385 t386 t387 t388 t389 t390 _ A19.out).mono ?_); rintro e w21 ⟨rfl, hb⟩; refine ⟨_, rfl, ?_⟩; replace HO_6 := Aside0.mk (Kd.R_below (zr HO_6) hb); replace BK382 := kb BK382 hb; replace HB := Aside0.mk (below_step (zb HB) hb); (try clear hb)) | ((with_reducible refine gd 7 rfl ?_); refine bx (N := 7) (cs := #[.int .i64 0, .bool false, .int .i64 0, .string (⟨#[]⟩ : ByteArray)]) (t := 110) ?_; intro gb391 hg w22 hbox hb; replace HO_6 := Aside0.mk (Kd.R_below (Kd.R_elderB (zr HO_6) gb391 (Nat.le_of_eq hg.symm)) hb); have BK391 := Aside0.mk (hbox); have GW391 := gw HB hg; have GE391 := GW391; replace HB := Aside0.mk (below_step (zb HB) hb); obtain ⟨NB382_391, NB391_382⟩ := nb BK382 hg; replace BK382 := kb BK382 hb; clear hb hbox hg; have hnb23 := NB391_382.out; have hnc23 := NB382_391.out; obtain ⟨hcz24_0, hcz24_1, hcz24_2, hcz24_3, hfz24_0, hfz24_1, hfz24_2, hfz24_3⟩ := c4 BK391))
         (try simp only [Act.put, s1, s2, s3])
         have H := HC20.out
         clear HC20
         by_cases c25 : t390 = 1
         ·rw [if_pos c25] at H
          have c25b0 : (t390 == 1) = true := beq_iff_eq.mpr c25
          have c25b1 : (t390 != 1) = false := bne_eq_false_iff_eq.mpr c25
          clear c25
          (first | rw [c25b0] | rw [c25b1] | rw [c25b2] | (simp only [i64_w, i32_w]; rw [c25b0]) | skip)
          by_cases c26 : x6_3.length < 3518437208883
          ·rw [if_pos c26] at H
           have LMc26 := Aside0.mk c26
           clear c26
           obtain ⟨y392, hy392⟩ : ∃ y_ : List (S110), y_ = (x6_3 ++ [(⟨t385, t386, t387, t388⟩ : S110)]) := ⟨_, rfl⟩
           replace H : (if 0 ≤ t389 then (if t389 ≤ (x5_3.size : Int) then (impl_WorldFrames.l0 k3 (x5_3.extract (t389 : Int).toNat x5_3.size) y392) else (none)) else (none)) = some r := by first | (rw [hy392]; with_reducible exact H) | (have H2_ := (Option.bind_some _ _).symm.trans H; rw [hy392]; with_reducible exact H2_) | (have H2_ := (Option.bind_some _ _).symm.trans H; with_reducible exact H2_) | with_reducible exact H | (rw [hy392]; exact H) | exact H
           have Ny392 := Aside0.mk hy392
           clear hy392
           by_cases c27 : 0 ≤ t389
           ·rw [if_pos c27] at H
            have c27b0 := eq_true c27
            have c27b1 := decide_eq_true c27
            clear c27
            by_cases c28 : t389 ≤ (x5_3.size : Int)
            ·rw [if_pos c28] at H
             have c28b0 := eq_true c28
             have c28b1 := decide_eq_true c28
             clear c28
             have H' := Aside0.mk H
             clear H
             have hnb29 := NB391_382.out
             have hnc29 := NB382_391.out
             obtain ⟨hcz30_0, hcz30_1, hcz30_2, hcz30_3, hfz30_0, hfz30_1, hfz30_2, hfz30_3⟩ := c4 BK391
             go_wp2_with (first | ((with_reducible refine gate_builtin (b := .append) (xs := #[.tmp 41, .tmp 43]) rfl ?_); at_builtin; refine Kd.R_append k110 (w0 := w) w.heap.size rfl (.tmp 41) (.tmp 43) 40 110 (.agg #[(.int .i64 0), (.bool false), (.int .i64 0), (.string ⟨#[]⟩)]) 40 rfl Try.underlying40 info110 rfl (by decide) (by omega) u6 x6_3 (⟨t385, t386, t387, t388⟩ : S110) [.int .i64 t385, .bool t386, .int .i64 t387, .string t388] (fun k_ => k_ ≠ gb391) (fun _ => False) rfl (by first | (go_simp; done) | (go_simp; rfl)) ?aP (fun _ hk => hk.elim) ?aF ?aO ?aB ?aS ?aL ?_; (case aP => exact k110_mkM _ _ _ (⟨t385, t386, t387, t388⟩ : S110)); (case aB => exact (zb HB)); (case aF => exact (fun k_ hk => Kd.freshB (g := gb391) (o := .cells #[.int .i64 t385, .bool t386, .int .i64 t387, .string t388] 110 (0, 0)) (zp BK391) k_ hk)); (case aO => exact ((Kd.R_mono (ztR (Kd.R_mono HO_6.out (fun k_ hk => (⟨hk, hk.2⟩ : _ ∧ k_ ≠ gb391)))) (fun _ hk => hk.1.2)))); (case aS => exact (below_size (zb HB))); (case aL => have := LMc26.out; omega); intro v393 w31 ho hb hg hat; rw [← Ny392.out] at ho; replace BK382 := Aside0.mk (blk_grown (g := gb382) (o := .cells #[.bool a0_0, .slice A0_1 l0_1.length c0_1, .int .i64 a0_2, .slice A0_3 l0_3.length c0_3, .int .i64 a0_4, .string a0_5, .slice A0_6 l0_6.length c0_6, .int .i64 a0_7, .int .i64 a0_8, .slice A0_9 l0_9.length c0_9, .bool a0_10, .bool a0_11, .slice A0_12 l0_12.length c0_12, .int .i64 a0_13, .slice A0_14 l0_14.length c0_14, .int .i64 a0_15, .string a0_16, .slice A0_17 l0_17.length c0_17, .int .i64 a0_18, .int .i64 a0_19, .slice A0_20 l0_20.length c0_20, .bool a0_21, .string a0_22, .string a0_23] 48 (0, 0)) (zp BK382) hg (Kd.R_ne HO_6.out BK382.out (by decide))); replace BK391 := Aside0.mk (blk_grown (g := gb391) (o := .cells #[.int .i64 t385, .bool t386, .int .i64 t387, .string t388] 110 (0, 0)) (zp BK391) hg (Kd.R_away HO_6.out (fun _ hk => hk.2))); replace HB := Aside0.mk (hb); have HO394 := Aside0.mk (ho); clear HO_6; clear ho hb hg hat))
             go_roundg k3
             case measure => have := HJ2.out; have := HJ13.out; have := HK3.out; omega
             case rel => exact ⟨(x5_3.extract (t389 : Int).toNat x5_3.size), (y392), zs, H', ⟨by have := HJ2.out; have := HJ13.out; have := HK3.out; omega⟩, ⟨zq (Kd.R_mono HO394.out (fun _ hk => trivial))⟩, ⟨by exact zk BK382⟩, ⟨zb HB⟩⟩
            ·rw [if_neg c28] at H
             exact absurd H (by simp)
           ·rw [if_neg c27] at H
            exact absurd H (by simp)
          ·rw [if_neg c26] at H
           exact absurd H (by simp)
         ·rw [if_neg c25] at H
          have c25b0 : (t390 == 1) = false := beq_eq_false_iff_ne.mpr c25
          have c25b1 : (t390 != 1) = true := bne_iff_ne.mpr c25
          (first | rw [c25b0] | rw [c25b1] | rw [c25b2] | (simp only [i64_w, i32_w]; rw [c25b0]) | skip)
          obtain rfl := Option.some.inj H
          go_wp2
          go_ret
          exact ⟨_, ze, (Kd.R_mono (ztR (Kd.R_mono HO_6.out (fun k_ hk => (⟨hk, hk.2⟩ : _ ∧ k_ ≠ gb391)))) (fun _ hk => trivial)), zb HB⟩
    ·skip
     exact absurd H (by simp)

end Go.Proofs.Ytlpibelofcabhaa.PFnExactWorldFrames
