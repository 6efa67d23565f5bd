-- WRITTEN BY a turned print (wip/tools of the prover's repo)
import Derived.Test.YtlpibelofcabhaaPFnEndNewx0
import Derived.Test.YtlpibelofcabhaaPFnEndNewx1
import Derived.Test.YtlpibelofcabhaaPFnEndNewx4
import Derived.Test.YtlpibelofcabhaaPFnEndNewx5
namespace Go.Proofs.Ytlpibelofcabhaa.PFnEndNew
open Go.RowKit Go.Proofs.YtlpibelofcabhaaW.PrintWords Go.Proofs.YtlpibelofcabhaaW.PrintLast Go.Proofs.YtlpibelofcabhaaW.PrintMore Go.Proofs.Ytlpibelofcabhaa.Lm
attribute [local go_sem] max2_int min2_int max_two min_two max_three min_three max_four min_four   -- for this text's walks alone
set_option linter.unusedVariables false
set_option linter.unusedSimpArgs false

attribute [local go_sem high] eqA39
/-! ### laws_lkEnd: function 31 -/
-- thin
mutual
def laws_lkEnd.j0 : Nat → Bool → Bool → List (S88) → Int → List (S88) → Int → ByteArray → List (S104) → Int → Int → List (S110) → Bool → Bool → List (S88) → Int → List (S88) → Int → ByteArray → List (S104) → Int → Int → List (S110) → Bool → Option (Bool)
 | 0, _, _, _, _, _, _, _, _, _, _, _, _, _, _, _, _, _, _, _, _, _, _, _ => none
 | k + 1, x40, x144000, x144001, x144002, x144003, x144004, x144005, x144006, x144007, x144008, x144009, x144010, x145000, x145001, x145002, x145003, x145004, x145005, x145006, x145007, x145008, x145009, x145010 => if x40 = true then (some false) else (laws_lkEnd.l0 k 0 x144000 x144001 x144002 x144003 x144004 x144005 x144006 x144007 x144008 x144009 x144010 x145000 x145001 x145002 x145003 x145004 x145005 x145006 x145007 x145008 x145009 x145010)
def laws_lkEnd.l0 : Nat → Int → Bool → List (S88) → Int → List (S88) → Int → ByteArray → List (S104) → Int → Int → List (S110) → Bool → Bool → List (S88) → Int → List (S88) → Int → ByteArray → List (S104) → Int → Int → List (S110) → Bool → Option (Bool)
 | 0, _, _, _, _, _, _, _, _, _, _, _, _, _, _, _, _, _, _, _, _, _, _, _ => none
 | k + 1, x5, x144000, x144001, x144002, x144003, x144004, x144005, x144006, x144007, x144008, x144009, x144010, x145000, x145001, x145002, x145003, x145004, x145005, x145006, x145007, x145008, x145009, x145010 => if x5 < (x144006.length : Int) then (if 0 ≤ x5 then (if x5 < (x145006.length : Int) then ((laws_lkStream.f k ((rd_T104 x144006 x5).f0) ((rd_T104 x144006 x5).f1) ((rd_T104 x144006 x5).f2) ((rd_T104 x144006 x5).f3) ((rd_T104 x144006 x5).f4) ((rd_T104 x144006 x5).f5) ((rd_T104 x144006 x5).f6) ((rd_T104 x144006 x5).f7) ((rd_T104 x144006 x5).f8) ((rd_T104 x144006 x5).f9) ((rd_T104 x144006 x5).f10.f0) ((rd_T104 x144006 x5).f10.f1) ((rd_T104 x145006 x5).f0) ((rd_T104 x145006 x5).f1) ((rd_T104 x145006 x5).f2) ((rd_T104 x145006 x5).f3) ((rd_T104 x145006 x5).f4) ((rd_T104 x145006 x5).f5) ((rd_T104 x145006 x5).f6) ((rd_T104 x145006 x5).f7) ((rd_T104 x145006 x5).f8) ((rd_T104 x145006 x5).f9) ((rd_T104 x145006 x5).f10.f0) ((rd_T104 x145006 x5).f10.f1)).bind fun t147 => (if t147 = true then (laws_lkEnd.l0 k (wrap64 (x5 + 1)) x144000 x144001 x144002 x144003 x144004 x144005 x144006 x144007 x144008 x144009 x144010 x145000 x145001 x145002 x145003 x145004 x145005 x145006 x145007 x145008 x145009 x145010) else (some false))) else (none)) else (none)) else ((laws_lkTable.f k x144001 x144002 x145001 x145002).bind fun t148 => (if t148 = true then ((laws_lkTable.f k x144003 x144004 x145003 x145004).bind fun t149 => (if t149 = true then ((laws_lkFrames.f k x144009 x145009).bind fun t150 => (some t150)) else (some false))) else (some false)))
end
def laws_lkEnd.f (k : Nat) (a0_0 : Bool) (l0_1 : List (S88)) (a0_2 : Int) (l0_3 : List (S88)) (a0_4 : Int) (a0_5 : ByteArray) (l0_6 : List (S104)) (a0_7 : Int) (a0_8 : Int) (l0_9 : List (S110)) (a0_10 : Bool) (a1_0 : Bool) (l1_1 : List (S88)) (a1_2 : Int) (l1_3 : List (S88)) (a1_4 : Int) (a1_5 : ByteArray) (l1_6 : List (S104)) (a1_7 : Int) (a1_8 : Int) (l1_9 : List (S110)) (a1_10 : Bool) : Option (Bool) := if (a0_0 != a1_0) = true then (laws_lkEnd.j0 k true a0_0 l0_1 a0_2 l0_3 a0_4 a0_5 l0_6 a0_7 a0_8 l0_9 a0_10 a1_0 l1_1 a1_2 l1_3 a1_4 a1_5 l1_6 a1_7 a1_8 l1_9 a1_10) else (if a0_5.toList = a1_5.toList then (if (!(a0_7 == a1_7) || (!(a0_8 == a1_8))) = true then (laws_lkEnd.j0 k true a0_0 l0_1 a0_2 l0_3 a0_4 a0_5 l0_6 a0_7 a0_8 l0_9 a0_10 a1_0 l1_1 a1_2 l1_3 a1_4 a1_5 l1_6 a1_7 a1_8 l1_9 a1_10) else (if (a0_10 != a1_10) = true then (laws_lkEnd.j0 k true a0_0 l0_1 a0_2 l0_3 a0_4 a0_5 l0_6 a0_7 a0_8 l0_9 a0_10 a1_0 l1_1 a1_2 l1_3 a1_4 a1_5 l1_6 a1_7 a1_8 l1_9 a1_10) else (laws_lkEnd.j0 k ((l0_6.length : Int) != (l1_6.length : Int)) a0_0 l0_1 a0_2 l0_3 a0_4 a0_5 l0_6 a0_7 a0_8 l0_9 a0_10 a1_0 l1_1 a1_2 l1_3 a1_4 a1_5 l1_6 a1_7 a1_8 l1_9 a1_10))) else (laws_lkEnd.j0 k true a0_0 l0_1 a0_2 l0_3 a0_4 a0_5 l0_6 a0_7 a0_8 l0_9 a0_10 a1_0 l1_1 a1_2 l1_3 a1_4 a1_5 l1_6 a1_7 a1_8 l1_9 a1_10))
theorem laws_lkEnd.mono_l : ∀ k, (∀ y0 y1 y2 y3 y4 y5 y6 y7 y8 y9 y10 y11 y12 y13 y14 y15 y16 y17 y18 y19 y20 y21 y22, LeO (laws_lkEnd.j0 k y0 y1 y2 y3 y4 y5 y6 y7 y8 y9 y10 y11 y12 y13 y14 y15 y16 y17 y18 y19 y20 y21 y22) (laws_lkEnd.j0 (k + 1) y0 y1 y2 y3 y4 y5 y6 y7 y8 y9 y10 y11 y12 y13 y14 y15 y16 y17 y18 y19 y20 y21 y22)) ∧ (∀ y0 y1 y2 y3 y4 y5 y6 y7 y8 y9 y10 y11 y12 y13 y14 y15 y16 y17 y18 y19 y20 y21 y22, LeO (laws_lkEnd.l0 k y0 y1 y2 y3 y4 y5 y6 y7 y8 y9 y10 y11 y12 y13 y14 y15 y16 y17 y18 y19 y20 y21 y22) (laws_lkEnd.l0 (k + 1) y0 y1 y2 y3 y4 y5 y6 y7 y8 y9 y10 y11 y12 y13 y14 y15 y16 y17 y18 y19 y20 y21 y22))
 | 0 => ⟨fun _ _ _ _ _ _ _ _ _ _ _ _ _ _ _ _ _ _ _ _ _ _ _ r h => by simp [laws_lkEnd.j0] at h, fun _ _ _ _ _ _ _ _ _ _ _ _ _ _ _ _ _ _ _ _ _ _ _ r h => by simp [laws_lkEnd.l0] at h⟩
 | k + 1 => by
  obtain ⟨ih0, ih1⟩ := laws_lkEnd.mono_l k
  refine ⟨?_, ?_⟩
  ·intro y0 y1 y2 y3 y4 y5 y6 y7 y8 y9 y10 y11 y12 y13 y14 y15 y16 y17 y18 y19 y20 y21 y22
   unfold laws_lkEnd.j0
   have m0 := @laws_lkFrames.mono
   have m1 := @laws_lkStream.mono
   have m2 := @laws_lkTable.mono
   exact zm
  ·intro y0 y1 y2 y3 y4 y5 y6 y7 y8 y9 y10 y11 y12 y13 y14 y15 y16 y17 y18 y19 y20 y21 y22
   unfold laws_lkEnd.l0
   have m0 := @laws_lkFrames.mono
   have m1 := @laws_lkStream.mono
   have m2 := @laws_lkTable.mono
   exact zm
theorem laws_lkEnd.mono : ∀ a0 a1 a2 a3 a4 a5 a6 a7 a8 a9 a10 a11 a12 a13 a14 a15 a16 a17 a18 a19 a20 a21 k, LeO (laws_lkEnd.f k a0 a1 a2 a3 a4 a5 a6 a7 a8 a9 a10 a11 a12 a13 a14 a15 a16 a17 a18 a19 a20 a21) (laws_lkEnd.f (k + 1) a0 a1 a2 a3 a4 a5 a6 a7 a8 a9 a10 a11 a12 a13 a14 a15 a16 a17 a18 a19 a20 a21) := by
 intro a0 a1 a2 a3 a4 a5 a6 a7 a8 a9 a10 a11 a12 a13 a14 a15 a16 a17 a18 a19 a20 a21 k
 obtain ⟨ih0, ih1⟩ := laws_lkEnd.mono_l k
 unfold laws_lkEnd.f
 have m0 := @laws_lkFrames.mono
 have m1 := @laws_lkStream.mono
 have m2 := @laws_lkTable.mono
 exact zm
def laws_lkEnd.T6 : Bool × List (List Nat × List Nat) := (true, [([], []), ([0], [0]), ([], []), ([1, 2], [1, 2]), ([3], [3]), ([], []), ([5], [5]), ([], []), ([6, 7], [6, 7]), ([8], [8]), ([4, 9], [4, 9]), ([10], [10])])
def laws_lkEnd.B6 : List Nat := [0, 1, 0, 7, 15, 0, 32, 0, 224, 480, 1023, 2047]
theorem laws_lkEnd.tab6 : rtab .any (opsOf Try.f31 6) = laws_lkEnd.T6 := by kernel_rfl
theorem laws_lkEnd.bits6 : waitsOk laws_lkEnd.T6.2 laws_lkEnd.B6 = true := by kernel_rfl
set_option maxHeartbeats 8000000 in
set_option maxRecDepth 100000 in
theorem laws_lkEnd.calls (k : Nat) (a0_0 : Bool) (A0_1 : Option Addr) (c0_1 : Nat) (l0_1 : List (S88)) (a0_2 : Int) (A0_3 : Option Addr) (c0_3 : Nat) (l0_3 : List (S88)) (a0_4 : Int) (a0_5 : ByteArray) (A0_6 : Option Addr) (c0_6 : Nat) (l0_6 : List (S104)) (a0_7 : Int) (a0_8 : Int) (A0_9 : Option Addr) (c0_9 : Nat) (l0_9 : List (S110)) (a0_10 : Bool) (a1_0 : Bool) (A1_1 : Option Addr) (c1_1 : Nat) (l1_1 : List (S88)) (a1_2 : Int) (A1_3 : Option Addr) (c1_3 : Nat) (l1_3 : List (S88)) (a1_4 : Int) (a1_5 : ByteArray) (A1_6 : Option Addr) (c1_6 : Nat) (l1_6 : List (S104)) (a1_7 : Int) (a1_8 : Int) (A1_9 : Option Addr) (c1_9 : Nat) (l1_9 : List (S110)) (a1_10 : Bool) (r : Bool) (w : World) (hr0_1 : Kd.C k88 w A0_1 l0_1.length l0_1) (hc0_1 : l0_1.length ≤ c0_1) (hr0_3 : Kd.C k88 w A0_3 l0_3.length l0_3) (hc0_3 : l0_3.length ≤ c0_3) (hr0_6 : Kd.C k104 w A0_6 l0_6.length l0_6) (hc0_6 : l0_6.length ≤ c0_6) (hr0_9 : Kd.C k110 w A0_9 l0_9.length l0_9) (hc0_9 : l0_9.length ≤ c0_9) (hr1_1 : Kd.C k88 w A1_1 l1_1.length l1_1) (hc1_1 : l1_1.length ≤ c1_1) (hr1_3 : Kd.C k88 w A1_3 l1_3.length l1_3) (hc1_3 : l1_3.length ≤ c1_3) (hr1_6 : Kd.C k104 w A1_6 l1_6.length l1_6) (hc1_6 : l1_6.length ≤ c1_6) (hr1_9 : Kd.C k110 w A1_9 l1_9.length l1_9) (hc1_9 : l1_9.length ≤ c1_9) (h : laws_lkEnd.f k a0_0 l0_1 a0_2 l0_3 a0_4 a0_5 l0_6 a0_7 a0_8 l0_9 a0_10 a1_0 l1_1 a1_2 l1_3 a1_4 a1_5 l1_6 a1_7 a1_8 l1_9 a1_10 = some r) :
  Calls Try.prog 31 #[.agg #[.bool a0_0, .slice A0_1 l0_1.length c0_1, .int .i64 a0_2, .slice A0_3 l0_3.length c0_3, .int .i64 a0_4, .string a0_5, .slice A0_6 l0_6.length c0_6, .int .i64 a0_7, .int .i64 a0_8, .slice A0_9 l0_9.length c0_9, .bool a0_10], .agg #[.bool a1_0, .slice A1_1 l1_1.length c1_1, .int .i64 a1_2, .slice A1_3 l1_3.length c1_3, .int .i64 a1_4, .string a1_5, .slice A1_6 l1_6.length c1_6, .int .i64 a1_7, .int .i64 a1_8, .slice A1_9 l1_9.length c1_9, .bool a1_10]] w fun e w' => e = .returned (.bool r) ∧ Below w.heap.size w w' := by
 have hu42 := Try.underlying42
 have hu39 := Try.underlying39
 have hu104 := Try.underlying104
 have hu25 := Try.underlying25
 have HR0_1 := Aside0.mk hr0_1
 have HC0_1 := Aside0.mk hc0_1
 clear hr0_1 hc0_1
 have HR0_3 := Aside0.mk hr0_3
 have HC0_3 := Aside0.mk hc0_3
 clear hr0_3 hc0_3
 have HR0_6 := Aside0.mk hr0_6
 have HC0_6 := Aside0.mk hc0_6
 clear hr0_6 hc0_6
 have HR0_9 := Aside0.mk hr0_9
 have HC0_9 := Aside0.mk hc0_9
 clear hr0_9 hc0_9
 have HR1_1 := Aside0.mk hr1_1
 have HC1_1 := Aside0.mk hc1_1
 clear hr1_1 hc1_1
 have HR1_3 := Aside0.mk hr1_3
 have HC1_3 := Aside0.mk hc1_3
 clear hr1_3 hc1_3
 have HR1_6 := Aside0.mk hr1_6
 have HC1_6 := Aside0.mk hc1_6
 clear hr1_6 hc1_6
 have HR1_9 := Aside0.mk hr1_9
 have HC1_9 := Aside0.mk hc1_9
 clear hr1_9 hc1_9
 have HB := Aside0.mk (Below.refl w.heap.size w)
 have H : (if (a0_0 != a1_0) = true then (laws_lkEnd.j0 k true a0_0 l0_1 a0_2 l0_3 a0_4 a0_5 l0_6 a0_7 a0_8 l0_9 a0_10 a1_0 l1_1 a1_2 l1_3 a1_4 a1_5 l1_6 a1_7 a1_8 l1_9 a1_10) else (if a0_5.toList = a1_5.toList then (if (!(a0_7 == a1_7) || (!(a0_8 == a1_8))) = true then (laws_lkEnd.j0 k true a0_0 l0_1 a0_2 l0_3 a0_4 a0_5 l0_6 a0_7 a0_8 l0_9 a0_10 a1_0 l1_1 a1_2 l1_3 a1_4 a1_5 l1_6 a1_7 a1_8 l1_9 a1_10) else (if (a0_10 != a1_10) = true then (laws_lkEnd.j0 k true a0_0 l0_1 a0_2 l0_3 a0_4 a0_5 l0_6 a0_7 a0_8 l0_9 a0_10 a1_0 l1_1 a1_2 l1_3 a1_4 a1_5 l1_6 a1_7 a1_8 l1_9 a1_10) else (laws_lkEnd.j0 k ((l0_6.length : Int) != (l1_6.length : Int)) a0_0 l0_1 a0_2 l0_3 a0_4 a0_5 l0_6 a0_7 a0_8 l0_9 a0_10 a1_0 l1_1 a1_2 l1_3 a1_4 a1_5 l1_6 a1_7 a1_8 l1_9 a1_10))) else (laws_lkEnd.j0 k true a0_0 l0_1 a0_2 l0_3 a0_4 a0_5 l0_6 a0_7 a0_8 l0_9 a0_10 a1_0 l1_1 a1_2 l1_3 a1_4 a1_5 l1_6 a1_7 a1_8 l1_9 a1_10))) = some r := h
 clear h
 have HC3 := Aside0.mk H
 clear H
 go_enter Try.func31, Try.ntmps31
 go_upto_region 1 with (first | ((with_reducible refine gd 2 rfl ?_); (try (refine gate_guard (by rfl) ?_; dsimp only)); refine bx (N := 2) (cs := #[.bool a0_0, .slice A0_1 l0_1.length c0_1, .int .i64 a0_2, .slice A0_3 l0_3.length c0_3, .int .i64 a0_4, .string a0_5, .slice A0_6 l0_6.length c0_6, .int .i64 a0_7, .int .i64 a0_8, .slice A0_9 l0_9.length c0_9, .bool a0_10]) (t := 42) ?_; intro gb143 hg w4 hbox hb; have BK143 := Aside0.mk (hbox); have GW143 := gw HB hg; have GE143 := GW143; replace HB := Aside0.mk (below_step (zb HB) hb); clear hb hbox hg) | ((with_reducible refine gd 3 rfl ?_); (try (refine gate_guard (by rfl) ?_; dsimp only)); refine bx (N := 3) (cs := #[.bool a1_0, .slice A1_1 l1_1.length c1_1, .int .i64 a1_2, .slice A1_3 l1_3.length c1_3, .int .i64 a1_4, .string a1_5, .slice A1_6 l1_6.length c1_6, .int .i64 a1_7, .int .i64 a1_8, .slice A1_9 l1_9.length c1_9, .bool a1_10]) (t := 42) ?_; intro gb144 hg w5 hbox hb; have BK144 := Aside0.mk (hbox); have GW144 := gw HB hg; have GE144 := GW144; replace HB := Aside0.mk (below_step (zb HB) hb); obtain ⟨NB143_144, NB144_143⟩ := nb BK143 hg; replace BK143 := kb BK143 hb; clear hb hbox hg))
 (try simp only [Act.put, s1, s2, s3])
 go_cut [40] (fun v40 wc => ∃ (kq : Nat) (x40_2 : Bool), v40 = .bool x40_2 ∧ Aside0 (laws_lkEnd.j0 kq x40_2 a0_0 l0_1 a0_2 l0_3 a0_4 a0_5 l0_6 a0_7 a0_8 l0_9 a0_10 a1_0 l1_1 a1_2 l1_3 a1_4 a1_5 l1_6 a1_7 a1_8 l1_9 a1_10 = some r) ∧ Aside0 (kq ≤ k) ∧ Aside0 (wc.heap[gb143]? = some (.cells #[.bool a0_0, (.slice A0_1 l0_1.length c0_1), .int .i64 a0_2, (.slice A0_3 l0_3.length c0_3), .int .i64 a0_4, .string a0_5, (.slice A0_6 l0_6.length c0_6), .int .i64 a0_7, .int .i64 a0_8, (.slice A0_9 l0_9.length c0_9), .bool a0_10] 42 (0, 0))) ∧ Aside0 (wc.heap[gb144]? = some (.cells #[.bool a1_0, (.slice A1_1 l1_1.length c1_1), .int .i64 a1_2, (.slice A1_3 l1_3.length c1_3), .int .i64 a1_4, .string a1_5, (.slice A1_6 l1_6.length c1_6), .int .i64 a1_7, .int .i64 a1_8, (.slice A1_9 l1_9.length c1_9), .bool a1_10] 42 (0, 0))) ∧ Aside0 (Below w.heap.size w wc))
 case first =>
  have H := HC3.out
  clear HC3
  replace H := sp H
  rcases H with ⟨c6, H⟩ | ⟨c6, H⟩
  ·skip
   have c6b0 : (a0_0 != a1_0) = true := c6
   (try (have c6b1 : decide (a0_0 = a1_0) = false := by simpa using c6))
   (try (have c6b2 : (a0_0 == a1_0) = false := by simpa using c6))
   (try (have c6b3 : ¬ (a0_0 = a1_0) := by simpa using c6))
   clear c6
   (first | rw [c6b0] | rw [c6b1] | rw [c6b2] | (simp only [i64_w, i32_w]; rw [c6b0]) | skip)
   have H' := Aside0.mk H
   clear H
   have hnb7 := NB143_144.out
   have hnc7 := NB144_143.out
   obtain ⟨hcz8_0, hcz8_1, hcz8_2, hcz8_3, hcz8_4, hcz8_5, hcz8_6, hcz8_7, hcz8_8, hcz8_9, hcz8_10, hfz8_0, hfz8_1, hfz8_2, hfz8_3, hfz8_4, hfz8_5, hfz8_6, hfz8_7, hfz8_8, hfz8_9, hfz8_10⟩ := c11 BK143
   obtain ⟨hcz9_0, hcz9_1, hcz9_2, hcz9_3, hcz9_4, hcz9_5, hcz9_6, hcz9_7, hcz9_8, hcz9_9, hcz9_10, hfz9_0, hfz9_1, hfz9_2, hfz9_3, hfz9_4, hfz9_5, hfz9_6, hfz9_7, hfz9_8, hfz9_9, hfz9_10⟩ := c11 BK144
   go_wp2
   go_meet
   case rel => exact ⟨_, (true), zs, H', ⟨by first | omega | exact Nat.le_refl _⟩, ⟨by exact zk BK143⟩, ⟨by exact zk BK144⟩, ⟨zb HB⟩⟩
  ·skip
   have c6b0 : (a0_0 != a1_0) = false := by simpa using c6
   (try (have c6b1 : decide (a0_0 = a1_0) = true := by simpa using c6))
   (try (have c6b2 : (a0_0 == a1_0) = true := by simpa using c6))
   clear c6
   (first | rw [c6b0] | rw [c6b1] | rw [c6b2] | (simp only [i64_w, i32_w]; rw [c6b0]) | skip)
   replace H := sp H
   rcases H with ⟨c10, H⟩ | ⟨c10, H⟩
   ·skip
    have c10b0 : (a0_5.toList == a1_5.toList) = true := beq_iff_eq.mpr c10
    have c10b1 : (a0_5.toList != a1_5.toList) = false := bne_eq_false_iff_eq.mpr c10
    clear c10
    by_cases c11 : (!(a0_7 == a1_7) || (!(a0_8 == a1_8))) = true
    ·rw [if_pos c11] at H
     have c11b0 : (!(a0_7 == a1_7) || (!(a0_8 == a1_8))) = true := c11
     clear c11
     have H' := Aside0.mk H
     clear H
     have hnb12 := NB143_144.out
     have hnc12 := NB144_143.out
     obtain ⟨hcz13_0, hcz13_1, hcz13_2, hcz13_3, hcz13_4, hcz13_5, hcz13_6, hcz13_7, hcz13_8, hcz13_9, hcz13_10, hfz13_0, hfz13_1, hfz13_2, hfz13_3, hfz13_4, hfz13_5, hfz13_6, hfz13_7, hfz13_8, hfz13_9, hfz13_10⟩ := c11 BK143
     obtain ⟨hcz14_0, hcz14_1, hcz14_2, hcz14_3, hcz14_4, hcz14_5, hcz14_6, hcz14_7, hcz14_8, hcz14_9, hcz14_10, hfz14_0, hfz14_1, hfz14_2, hfz14_3, hfz14_4, hfz14_5, hfz14_6, hfz14_7, hfz14_8, hfz14_9, hfz14_10⟩ := c11 BK144
     go_wp2
     go_meet
     case rel => exact ⟨_, (true), zs, H', ⟨by first | omega | exact Nat.le_refl _⟩, ⟨by exact zk BK143⟩, ⟨by exact zk BK144⟩, ⟨zb HB⟩⟩
    ·rw [if_neg c11] at H
     have c11b0 : (!(a0_7 == a1_7) || (!(a0_8 == a1_8))) = false := by simpa using c11
     clear c11
     by_cases c15 : (a0_10 != a1_10) = true
     ·rw [if_pos c15] at H
      have c15b0 : (a0_10 != a1_10) = true := c15
      (try (have c15b1 : decide (a0_10 = a1_10) = false := by simpa using c15))
      (try (have c15b2 : (a0_10 == a1_10) = false := by simpa using c15))
      (try (have c15b3 : ¬ (a0_10 = a1_10) := by simpa using c15))
      clear c15
      have H' := Aside0.mk H
      clear H
      have hnb16 := NB143_144.out
      have hnc16 := NB144_143.out
      obtain ⟨hcz17_0, hcz17_1, hcz17_2, hcz17_3, hcz17_4, hcz17_5, hcz17_6, hcz17_7, hcz17_8, hcz17_9, hcz17_10, hfz17_0, hfz17_1, hfz17_2, hfz17_3, hfz17_4, hfz17_5, hfz17_6, hfz17_7, hfz17_8, hfz17_9, hfz17_10⟩ := c11 BK143
      obtain ⟨hcz18_0, hcz18_1, hcz18_2, hcz18_3, hcz18_4, hcz18_5, hcz18_6, hcz18_7, hcz18_8, hcz18_9, hcz18_10, hfz18_0, hfz18_1, hfz18_2, hfz18_3, hfz18_4, hfz18_5, hfz18_6, hfz18_7, hfz18_8, hfz18_9, hfz18_10⟩ := c11 BK144
      go_wp2
      go_meet
      case rel => exact ⟨_, (true), zs, H', ⟨by first | omega | exact Nat.le_refl _⟩, ⟨by exact zk BK143⟩, ⟨by exact zk BK144⟩, ⟨zb HB⟩⟩
     ·rw [if_neg c15] at H
      have c15b0 : (a0_10 != a1_10) = false := by simpa using c15
      (try (have c15b1 : decide (a0_10 = a1_10) = true := by simpa using c15))
      (try (have c15b2 : (a0_10 == a1_10) = true := by simpa using c15))
      clear c15
      have H' := Aside0.mk H
      clear H
      have hnb19 := NB143_144.out
      have hnc19 := NB144_143.out
      obtain ⟨hcz20_0, hcz20_1, hcz20_2, hcz20_3, hcz20_4, hcz20_5, hcz20_6, hcz20_7, hcz20_8, hcz20_9, hcz20_10, hfz20_0, hfz20_1, hfz20_2, hfz20_3, hfz20_4, hfz20_5, hfz20_6, hfz20_7, hfz20_8, hfz20_9, hfz20_10⟩ := c11 BK143
      obtain ⟨hcz21_0, hcz21_1, hcz21_2, hcz21_3, hcz21_4, hcz21_5, hcz21_6, hcz21_7, hcz21_8, hcz21_9, hcz21_10, hfz21_0, hfz21_1, hfz21_2, hfz21_3, hfz21_4, hfz21_5, hfz21_6, hfz21_7, hfz21_8, hfz21_9, hfz21_10⟩ := c11 BK144
      go_wp2
      go_meet
      case rel => exact ⟨_, (((l0_6.length : Int) != (l1_6.length : Int))), zs, H', ⟨by first | omega | exact Nat.le_refl _⟩, ⟨by exact zk BK143⟩, ⟨by exact zk BK144⟩, ⟨zb HB⟩⟩
   ·skip
    have c10b0 : (a0_5.toList == a1_5.toList) = false := beq_eq_false_iff_ne.mpr c10
    have c10b1 : (a0_5.toList != a1_5.toList) = true := bne_iff_ne.mpr c10
    have H' := Aside0.mk H
    clear H
    have hnb22 := NB143_144.out
    have hnc22 := NB144_143.out
    obtain ⟨hcz23_0, hcz23_1, hcz23_2, hcz23_3, hcz23_4, hcz23_5, hcz23_6, hcz23_7, hcz23_8, hcz23_9, hcz23_10, hfz23_0, hfz23_1, hfz23_2, hfz23_3, hfz23_4, hfz23_5, hfz23_6, hfz23_7, hfz23_8, hfz23_9, hfz23_10⟩ := c11 BK143
    obtain ⟨hcz24_0, hcz24_1, hcz24_2, hcz24_3, hcz24_4, hcz24_5, hcz24_6, hcz24_7, hcz24_8, hcz24_9, hcz24_10, hfz24_0, hfz24_1, hfz24_2, hfz24_3, hfz24_4, hfz24_5, hfz24_6, hfz24_7, hfz24_8, hfz24_9, hfz24_10⟩ := c11 BK144
    go_wp2
    go_meet
    case rel => exact ⟨_, (true), zs, H', ⟨by first | omega | exact Nat.le_refl _⟩, ⟨by exact zk BK143⟩, ⟨by exact zk BK144⟩, ⟨zb HB⟩⟩
 case rest =>
  clear HC3
  try clear c1
  try clear c2
  try clear p2
  try clear c3
  try clear c6
  try clear c6b0
  try clear c6b1
  try clear c6b2
  try clear c7
  try clear c10
  try clear c10b0
  try clear c10b1
  try clear c11
  try clear c11b0
  try clear c12
  try clear c15
  try clear c15b0
  try clear c15b1
  try clear c15b2
  try clear c16
  try clear c19
  try clear c22
  try clear hcz13_0
  try clear hcz13_1
  try clear hcz13_10
  try clear hcz13_2
  try clear hcz13_3
  try clear hcz13_4
  try clear hcz13_5
  try clear hcz13_6
  try clear hcz13_7
  try clear hcz13_8
  try clear hcz13_9
  try clear hcz14_0
  try clear hcz14_1
  try clear hcz14_10
  try clear hcz14_2
  try clear hcz14_3
  try clear hcz14_4
  try clear hcz14_5
  try clear hcz14_6
  try clear hcz14_7
  try clear hcz14_8
  try clear hcz14_9
  try clear hcz17_0
  try clear hcz17_1
  try clear hcz17_10
  try clear hcz17_2
  try clear hcz17_3
  try clear hcz17_4
  try clear hcz17_5
  try clear hcz17_6
  try clear hcz17_7
  try clear hcz17_8
  try clear hcz17_9
  try clear hcz18_0
  try clear hcz18_1
  try clear hcz18_10
  try clear hcz18_2
  try clear hcz18_3
  try clear hcz18_4
  try clear hcz18_5
  try clear hcz18_6
  try clear hcz18_7
  try clear hcz18_8
  try clear hcz18_9
  try clear hcz20_0
  try clear hcz20_1
  try clear hcz20_10
  try clear hcz20_2
  try clear hcz20_3
  try clear hcz20_4
  try clear hcz20_5
  try clear hcz20_6
  try clear hcz20_7
  try clear hcz20_8
  try clear hcz20_9
  try clear hcz21_0
  try clear hcz21_1
  try clear hcz21_10
  try clear hcz21_2
  try clear hcz21_3
  try clear hcz21_4
  try clear hcz21_5
  try clear hcz21_6
  try clear hcz21_7
  try clear hcz21_8
  try clear hcz21_9
  try clear hcz23_0
  try clear hcz23_1
  try clear hcz23_10
  try clear hcz23_2
  try clear hcz23_3
  try clear hcz23_4
  try clear hcz23_5
  try clear hcz23_6
  try clear hcz23_7
  try clear hcz23_8
  try clear hcz23_9
  try clear hcz24_0
  try clear hcz24_1
  try clear hcz24_10
  try clear hcz24_2
  try clear hcz24_3
  try clear hcz24_4
  try clear hcz24_5
  try clear hcz24_6
  try clear hcz24_7
  try clear hcz24_8
  try clear hcz24_9
  try clear hcz8_0
  try clear hcz8_1
  try clear hcz8_10
  try clear hcz8_2
  try clear hcz8_3
  try clear hcz8_4
  try clear hcz8_5
  try clear hcz8_6
  try clear hcz8_7
  try clear hcz8_8
  try clear hcz8_9
  try clear hcz9_0
  try clear hcz9_1
  try clear hcz9_10
  try clear hcz9_2
  try clear hcz9_3
  try clear hcz9_4
  try clear hcz9_5
  try clear hcz9_6
  try clear hcz9_7
  try clear hcz9_8
  try clear hcz9_9
  try clear hfz13_0
  try clear hfz13_1
  try clear hfz13_10
  try clear hfz13_2
  try clear hfz13_3
  try clear hfz13_4
  try clear hfz13_5
  try clear hfz13_6
  try clear hfz13_7
  try clear hfz13_8
  try clear hfz13_9
  try clear hfz14_0
  try clear hfz14_1
  try clear hfz14_10
  try clear hfz14_2
  try clear hfz14_3
  try clear hfz14_4
  try clear hfz14_5
  try clear hfz14_6
  try clear hfz14_7
  try clear hfz14_8
  try clear hfz14_9
  try clear hfz17_0
  try clear hfz17_1
  try clear hfz17_10
  try clear hfz17_2
  try clear hfz17_3
  try clear hfz17_4
  try clear hfz17_5
  try clear hfz17_6
  try clear hfz17_7
  try clear hfz17_8
  try clear hfz17_9
  try clear hfz18_0
  try clear hfz18_1
  try clear hfz18_10
  try clear hfz18_2
  try clear hfz18_3
  try clear hfz18_4
  try clear hfz18_5
  try clear hfz18_6
  try clear hfz18_7
  try clear hfz18_8
  try clear hfz18_9
  try clear hfz20_0
  try clear hfz20_1
  try clear hfz20_10
  try clear hfz20_2
  try clear hfz20_3
  try clear hfz20_4
  try clear hfz20_5
  try clear hfz20_6
  try clear hfz20_7
  try clear hfz20_8
  try clear hfz20_9
  try clear hfz21_0
  try clear hfz21_1
  try clear hfz21_10
  try clear hfz21_2
  try clear hfz21_3
  try clear hfz21_4
  try clear hfz21_5
  try clear hfz21_6
  try clear hfz21_7
  try clear hfz21_8
  try clear hfz21_9
  try clear hfz23_0
  try clear hfz23_1
  try clear hfz23_10
  try clear hfz23_2
  try clear hfz23_3
  try clear hfz23_4
  try clear hfz23_5
  try clear hfz23_6
  try clear hfz23_7
  try clear hfz23_8
  try clear hfz23_9
  try clear hfz24_0
  try clear hfz24_1
  try clear hfz24_10
  try clear hfz24_2
  try clear hfz24_3
  try clear hfz24_4
  try clear hfz24_5
  try clear hfz24_6
  try clear hfz24_7
  try clear hfz24_8
  try clear hfz24_9
  try clear hfz8_0
  try clear hfz8_1
  try clear hfz8_10
  try clear hfz8_2
  try clear hfz8_3
  try clear hfz8_4
  try clear hfz8_5
  try clear hfz8_6
  try clear hfz8_7
  try clear hfz8_8
  try clear hfz8_9
  try clear hfz9_0
  try clear hfz9_1
  try clear hfz9_10
  try clear hfz9_2
  try clear hfz9_3
  try clear hfz9_4
  try clear hfz9_5
  try clear hfz9_6
  try clear hfz9_7
  try clear hfz9_8
  try clear hfz9_9
  obtain ⟨kq, x40_2, rfl, HA, HJ2, BK143, BK144, HB⟩ := hcut
  cases kq with
  | zero => exact absurd HA.out (by simp [laws_lkEnd.j0])
  | succ kj2 =>
   have H := HA.out
   clear HA
   simp only [laws_lkEnd.j0] at H
   by_cases c25 : x40_2 = true
   ·subst c25
    rw [if_pos rfl] at H
    obtain rfl := Option.some.inj H
    go_wp2
    go_ret
    exact ⟨ze, zb HB⟩
   ·replace c25 := Bool.eq_false_iff.mpr c25
    subst c25
    rw [if_neg (show ¬ (false = true) by decide)] at H
    have H' := Aside0.mk H
    clear H
    go_wp2
    go_loopg [5] kj2 (fun kq v5 w' => ∃ (x5_2 : Int), v5 = .int .i64 x5_2 ∧ Aside0 (laws_lkEnd.l0 kq x5_2 a0_0 l0_1 a0_2 l0_3 a0_4 a0_5 l0_6 a0_7 a0_8 l0_9 a0_10 a1_0 l1_1 a1_2 l1_3 a1_4 a1_5 l1_6 a1_7 a1_8 l1_9 a1_10 = some r) ∧ Aside0 (kq ≤ kj2) ∧ Aside0 (w'.heap[gb143]? = some (.cells #[.bool a0_0, (.slice A0_1 l0_1.length c0_1), .int .i64 a0_2, (.slice A0_3 l0_3.length c0_3), .int .i64 a0_4, .string a0_5, (.slice A0_6 l0_6.length c0_6), .int .i64 a0_7, .int .i64 a0_8, (.slice A0_9 l0_9.length c0_9), .bool a0_10] 42 (0, 0))) ∧ Aside0 (w'.heap[gb144]? = some (.cells #[.bool a1_0, (.slice A1_1 l1_1.length c1_1), .int .i64 a1_2, (.slice A1_3 l1_3.length c1_3), .int .i64 a1_4, .string a1_5, (.slice A1_6 l1_6.length c1_6), .int .i64 a1_7, .int .i64 a1_8, (.slice A1_9 l1_9.length c1_9), .bool a1_10] 42 (0, 0))) ∧ Aside0 (Below w.heap.size w w'))
    case atStart => exact ⟨(0), zs, H', ⟨Nat.le_refl _⟩, ⟨by exact zk BK143⟩, ⟨by exact zk BK144⟩, ⟨zb HB⟩⟩
    case round =>
     clear H'
     try clear c1
     try clear c2
     try clear p2
     try clear c3
     try clear c6
     try clear c6b0
     try clear c6b1
     try clear c6b2
     try clear c7
     try clear c10
     try clear c10b0
     try clear c10b1
     try clear c11
     try clear c11b0
     try clear c12
     try clear c15
     try clear c15b0
     try clear c15b1
     try clear c15b2
     try clear c16
     try clear c19
     try clear c22
     try clear c25
     try clear hcz13_0
     try clear hcz13_1
     try clear hcz13_10
     try clear hcz13_2
     try clear hcz13_3
     try clear hcz13_4
     try clear hcz13_5
     try clear hcz13_6
     try clear hcz13_7
     try clear hcz13_8
     try clear hcz13_9
     try clear hcz14_0
     try clear hcz14_1
     try clear hcz14_10
     try clear hcz14_2
     try clear hcz14_3
     try clear hcz14_4
     try clear hcz14_5
     try clear hcz14_6
     try clear hcz14_7
     try clear hcz14_8
     try clear hcz14_9
     try clear hcz17_0
     try clear hcz17_1
     try clear hcz17_10
     try clear hcz17_2
     try clear hcz17_3
     try clear hcz17_4
     try clear hcz17_5
     try clear hcz17_6
     try clear hcz17_7
     try clear hcz17_8
     try clear hcz17_9
     try clear hcz18_0
     try clear hcz18_1
     try clear hcz18_10
     try clear hcz18_2
     try clear hcz18_3
     try clear hcz18_4
     try clear hcz18_5
     try clear hcz18_6
     try clear hcz18_7
     try clear hcz18_8
     try clear hcz18_9
     try clear hcz20_0
     try clear hcz20_1
     try clear hcz20_10
     try clear hcz20_2
     try clear hcz20_3
     try clear hcz20_4
     try clear hcz20_5
     try clear hcz20_6
     try clear hcz20_7
     try clear hcz20_8
     try clear hcz20_9
     try clear hcz21_0
     try clear hcz21_1
     try clear hcz21_10
     try clear hcz21_2
     try clear hcz21_3
     try clear hcz21_4
     try clear hcz21_5
     try clear hcz21_6
     try clear hcz21_7
     try clear hcz21_8
     try clear hcz21_9
     try clear hcz23_0
     try clear hcz23_1
     try clear hcz23_10
     try clear hcz23_2
     try clear hcz23_3
     try clear hcz23_4
     try clear hcz23_5
     try clear hcz23_6
     try clear hcz23_7
     try clear hcz23_8
     try clear hcz23_9
     try clear hcz24_0
     try clear hcz24_1
     try clear hcz24_10
     try clear hcz24_2
     try clear hcz24_3
     try clear hcz24_4
     try clear hcz24_5
     try clear hcz24_6
     try clear hcz24_7
     try clear hcz24_8
     try clear hcz24_9
     try clear hcz8_0
     try clear hcz8_1
     try clear hcz8_10
     try clear hcz8_2
     try clear hcz8_3
     try clear hcz8_4
     try clear hcz8_5
     try clear hcz8_6
     try clear hcz8_7
     try clear hcz8_8
     try clear hcz8_9
     try clear hcz9_0
     try clear hcz9_1
     try clear hcz9_10
     try clear hcz9_2
     try clear hcz9_3
     try clear hcz9_4
     try clear hcz9_5
     try clear hcz9_6
     try clear hcz9_7
     try clear hcz9_8
     try clear hcz9_9
     try clear hfz13_0
     try clear hfz13_1
     try clear hfz13_10
     try clear hfz13_2
     try clear hfz13_3
     try clear hfz13_4
     try clear hfz13_5
     try clear hfz13_6
     try clear hfz13_7
     try clear hfz13_8
     try clear hfz13_9
     try clear hfz14_0
     try clear hfz14_1
     try clear hfz14_10
     try clear hfz14_2
     try clear hfz14_3
     try clear hfz14_4
     try clear hfz14_5
     try clear hfz14_6
     try clear hfz14_7
     try clear hfz14_8
     try clear hfz14_9
     try clear hfz17_0
     try clear hfz17_1
     try clear hfz17_10
     try clear hfz17_2
     try clear hfz17_3
     try clear hfz17_4
     try clear hfz17_5
     try clear hfz17_6
     try clear hfz17_7
     try clear hfz17_8
     try clear hfz17_9
     try clear hfz18_0
     try clear hfz18_1
     try clear hfz18_10
     try clear hfz18_2
     try clear hfz18_3
     try clear hfz18_4
     try clear hfz18_5
     try clear hfz18_6
     try clear hfz18_7
     try clear hfz18_8
     try clear hfz18_9
     try clear hfz20_0
     try clear hfz20_1
     try clear hfz20_10
     try clear hfz20_2
     try clear hfz20_3
     try clear hfz20_4
     try clear hfz20_5
     try clear hfz20_6
     try clear hfz20_7
     try clear hfz20_8
     try clear hfz20_9
     try clear hfz21_0
     try clear hfz21_1
     try clear hfz21_10
     try clear hfz21_2
     try clear hfz21_3
     try clear hfz21_4
     try clear hfz21_5
     try clear hfz21_6
     try clear hfz21_7
     try clear hfz21_8
     try clear hfz21_9
     try clear hfz23_0
     try clear hfz23_1
     try clear hfz23_10
     try clear hfz23_2
     try clear hfz23_3
     try clear hfz23_4
     try clear hfz23_5
     try clear hfz23_6
     try clear hfz23_7
     try clear hfz23_8
     try clear hfz23_9
     try clear hfz24_0
     try clear hfz24_1
     try clear hfz24_10
     try clear hfz24_2
     try clear hfz24_3
     try clear hfz24_4
     try clear hfz24_5
     try clear hfz24_6
     try clear hfz24_7
     try clear hfz24_8
     try clear hfz24_9
     try clear hfz8_0
     try clear hfz8_1
     try clear hfz8_10
     try clear hfz8_2
     try clear hfz8_3
     try clear hfz8_4
     try clear hfz8_5
     try clear hfz8_6
     try clear hfz8_7
     try clear hfz8_8
     try clear hfz8_9
     try clear hfz9_0
     try clear hfz9_1
     try clear hfz9_10
     try clear hfz9_2
     try clear hfz9_3
     try clear hfz9_4
     try clear hfz9_5
     try clear hfz9_6
     try clear hfz9_7
     try clear hfz9_8
     try clear hfz9_9
     try clear p2
     obtain ⟨x5_2, rfl, HA, HK2, BK143, BK144, HB⟩ := hrel
     cases gk with
     | zero => exact absurd HA.out (by simp [laws_lkEnd.l0])
     | succ k2 =>
      have H := HA.out
      clear HA
      simp only [laws_lkEnd.l0] at H
      replace H := sp H
      rcases H with ⟨c26, H⟩ | ⟨c26, H⟩
      ·skip
       have c26b0 := decide_eq_true c26
       clear c26
       by_cases c27 : 0 ≤ x5_2
       ·rw [if_pos c27] at H
        have c27b0 := decide_eq_true c27
        clear c27
        by_cases c28 : x5_2 < (l1_6.length : Int)
        ·rw [if_pos c28] at H
         have c28b0 := decide_eq_true c28
         clear c28
         obtain ⟨t147, A29, H⟩ := ob H
         (try dsimp only at H)
         have HC30 := Aside0.mk H
         clear H
         have hnb31 := NB143_144.out
         have hnc31 := NB144_143.out
         obtain ⟨hcz32_0, hcz32_1, hcz32_2, hcz32_3, hcz32_4, hcz32_5, hcz32_6, hcz32_7, hcz32_8, hcz32_9, hcz32_10, hfz32_0, hfz32_1, hfz32_2, hfz32_3, hfz32_4, hfz32_5, hfz32_6, hfz32_7, hfz32_8, hfz32_9, hfz32_10⟩ := c11 BK143
         try go_wp2
         replace BK143 := Aside0.mk (blk_drew BK143.out)
         replace BK144 := Aside0.mk (blk_drew BK144.out)
         replace HB := Aside0.mk (below_drew1 HB.out)
         have p145 : 0 ≤ (x5_2 : Int) := of_decide_eq_true za
         have q145 : x5_2 < (l0_6.length : Int) := of_decide_eq_true za
         obtain ⟨ad145, A145_2, c145_2, A145_7, c145_7, e145, hx145_0, hx145_1, hx145_2, hx145_3, hx145_4, hx145_5, hx145_6, hx145_7, hx145_8, hx145_9, hx145_10, hx145_11, hl145_2, hi145_2, hl145_7, hi145_7⟩ := at_T104 HR0_6.out x5_2 p145 q145
         have hw145_11 := hx145_11
         have hw145_10 := hx145_10
         have hw145_9 := hx145_9
         have hw145_8 := hx145_8
         have hw145_7 := hx145_7
         have hw145_6 := hx145_6
         have hw145_5 := hx145_5
         have hw145_4 := hx145_4
         have hw145_3 := hx145_3
         have hw145_2 := hx145_2
         have hw145_1 := hx145_1
         have hw145_0 := hx145_0
         cases e145
         replace hx145_0 := cb0 hx145_0 HB
         replace hx145_1 := cb0 hx145_1 HB
         replace hx145_2 := cb0 hx145_2 HB
         replace hx145_3 := cb0 hx145_3 HB
         replace hx145_4 := cb0 hx145_4 HB
         replace hx145_5 := cb0 hx145_5 HB
         replace hx145_6 := cb0 hx145_6 HB
         replace hx145_7 := cb0 hx145_7 HB
         replace hx145_8 := cb0 hx145_8 HB
         replace hx145_9 := cb0 hx145_9 HB
         replace hx145_10 := cb0 hx145_10 HB
         replace hx145_11 := cb0 hx145_11 HB
         have HR145_2 := Aside0.mk hi145_2
         have HC145_2 := Aside0.mk hl145_2
         clear hi145_2 hl145_2
         have HR145_7 := Aside0.mk hi145_7
         have HC145_7 := Aside0.mk hl145_7
         clear hi145_7 hl145_7
         replace p145 := eq_true p145
         replace q145 := eq_true q145
         have p146 : 0 ≤ (x5_2 : Int) := of_decide_eq_true za
         have q146 : x5_2 < (l1_6.length : Int) := of_decide_eq_true za
         obtain ⟨ad146, A146_2, c146_2, A146_7, c146_7, e146, hx146_0, hx146_1, hx146_2, hx146_3, hx146_4, hx146_5, hx146_6, hx146_7, hx146_8, hx146_9, hx146_10, hx146_11, hl146_2, hi146_2, hl146_7, hi146_7⟩ := at_T104 HR1_6.out x5_2 p146 q146
         have hw146_11 := hx146_11
         have hw146_10 := hx146_10
         have hw146_9 := hx146_9
         have hw146_8 := hx146_8
         have hw146_7 := hx146_7
         have hw146_6 := hx146_6
         have hw146_5 := hx146_5
         have hw146_4 := hx146_4
         have hw146_3 := hx146_3
         have hw146_2 := hx146_2
         have hw146_1 := hx146_1
         have hw146_0 := hx146_0
         cases e146
         replace hx146_0 := cb0 hx146_0 HB
         replace hx146_1 := cb0 hx146_1 HB
         replace hx146_2 := cb0 hx146_2 HB
         replace hx146_3 := cb0 hx146_3 HB
         replace hx146_4 := cb0 hx146_4 HB
         replace hx146_5 := cb0 hx146_5 HB
         replace hx146_6 := cb0 hx146_6 HB
         replace hx146_7 := cb0 hx146_7 HB
         replace hx146_8 := cb0 hx146_8 HB
         replace hx146_9 := cb0 hx146_9 HB
         replace hx146_10 := cb0 hx146_10 HB
         replace hx146_11 := cb0 hx146_11 HB
         have HR146_2 := Aside0.mk hi146_2
         have HC146_2 := Aside0.mk hl146_2
         clear hi146_2 hl146_2
         have HR146_7 := Aside0.mk hi146_7
         have HC146_7 := Aside0.mk hl146_7
         clear hi146_7 hl146_7
         replace p146 := eq_true p146
         replace q146 := eq_true q146
         refine st 12 (an (b11 BK143) (an (b11 BK144) (an (cb hw145_0 HB) (an (cb hw145_1 HB) (an (cb hw145_2 HB) (an (cb hw145_3 HB) (an (cb hw145_4 HB) (an (cb hw145_5 HB) (an (cb hw145_6 HB) (an (cb hw145_7 HB) (an (cb hw145_8 HB) (an (cb hw145_9 HB) (an (cb hw145_10 HB) (an (cb hw145_11 HB) (an (cb hw146_0 HB) (an (cb hw146_1 HB) (an (cb hw146_2 HB) (an (cb hw146_3 HB) (an (cb hw146_4 HB) (an (cb hw146_5 HB) (an (cb hw146_6 HB) (an (cb hw146_7 HB) (an (cb hw146_8 HB) (an (cb hw146_9 HB) (an (cb hw146_10 HB) (cb hw146_11 HB)))))))))))))))))))))))))) (fun hHeld => ?_); refine with_tabW laws_lkEnd.tab6 laws_lkEnd.bits6 (fun HT_ HW_ => ?_)
         generalize wr.drew = w33 at BK143 BK144 HB HR145_2 HR145_7 HR146_2 HR146_7 hx145_0 hx145_1 hx145_10 hx145_11 hx145_2 hx145_3 hx145_4 hx145_5 hx145_6 hx145_7 hx145_8 hx145_9 hx146_0 hx146_1 hx146_10 hx146_11 hx146_2 hx146_3 hx146_4 hx146_5 hx146_6 hx146_7 hx146_8 hx146_9 hHeld ⊢
         refine pu 0 (some 48) (bm 12 1) rfl rfl ?_
         refine pu 2 (some 50) (bm 12 5) rfl rfl ?_
         refine pu 5 (some 53) (bm 12 37) rfl rfl ?_
         refine pu 7 (some 55) (bm 12 165) rfl rfl ?_
         refine tk 1 (some 49) (bm 12 167) rfl rfl hHeld ?_
         refine pu 3 (some 51) (bm 12 175) rfl rfl ?_
         refine tk 4 (some 52) (bm 12 191) rfl rfl hHeld ?_
         refine tk 6 (some 54) (bm 12 255) rfl rfl hHeld ?_
         refine pu 8 (some 56) (bm 12 511) rfl rfl ?_
         refine tk 9 (some 57) (bm 12 1023) rfl rfl hHeld ?_
         refine one_ (i := 10) (N := some 58) (bm 12 2047) rfl rfl (one_of HT_.out (by kernel_rfl)) (by decide) (fun K hK => ?_)
         refine gs Try.func75 #[.agg #[.int .i64 ((rd_T104 l0_6 x5_2).f0), .int .i64 ((rd_T104 l0_6 x5_2).f1), .slice A145_2 ((rd_T104 l0_6 x5_2).f2).length c145_2, .string ((rd_T104 l0_6 x5_2).f3), .bool ((rd_T104 l0_6 x5_2).f4), .bool ((rd_T104 l0_6 x5_2).f5), .int .i64 ((rd_T104 l0_6 x5_2).f6), .slice A145_7 ((rd_T104 l0_6 x5_2).f7).length c145_7, .string ((rd_T104 l0_6 x5_2).f8), .bool ((rd_T104 l0_6 x5_2).f9), .int .i64 ((rd_T104 l0_6 x5_2).f10.f0), .int .i64 ((rd_T104 l0_6 x5_2).f10.f1)], .agg #[.int .i64 ((rd_T104 l1_6 x5_2).f0), .int .i64 ((rd_T104 l1_6 x5_2).f1), .slice A146_2 ((rd_T104 l1_6 x5_2).f2).length c146_2, .string ((rd_T104 l1_6 x5_2).f3), .bool ((rd_T104 l1_6 x5_2).f4), .bool ((rd_T104 l1_6 x5_2).f5), .int .i64 ((rd_T104 l1_6 x5_2).f6), .slice A146_7 ((rd_T104 l1_6 x5_2).f7).length c146_7, .string ((rd_T104 l1_6 x5_2).f8), .bool ((rd_T104 l1_6 x5_2).f9), .int .i64 ((rd_T104 l1_6 x5_2).f10.f0), .int .i64 ((rd_T104 l1_6 x5_2).f10.f1)]] ?_
         with_reducible refine (laws_lkStream.calls k2 ((rd_T104 l0_6 x5_2).f0) ((rd_T104 l0_6 x5_2).f1) _ _ ((rd_T104 l0_6 x5_2).f2) ((rd_T104 l0_6 x5_2).f3) ((rd_T104 l0_6 x5_2).f4) ((rd_T104 l0_6 x5_2).f5) ((rd_T104 l0_6 x5_2).f6) _ _ ((rd_T104 l0_6 x5_2).f7) ((rd_T104 l0_6 x5_2).f8) ((rd_T104 l0_6 x5_2).f9) ((rd_T104 l0_6 x5_2).f10.f0) ((rd_T104 l0_6 x5_2).f10.f1) ((rd_T104 l1_6 x5_2).f0) ((rd_T104 l1_6 x5_2).f1) _ _ ((rd_T104 l1_6 x5_2).f2) ((rd_T104 l1_6 x5_2).f3) ((rd_T104 l1_6 x5_2).f4) ((rd_T104 l1_6 x5_2).f5) ((rd_T104 l1_6 x5_2).f6) _ _ ((rd_T104 l1_6 x5_2).f7) ((rd_T104 l1_6 x5_2).f8) ((rd_T104 l1_6 x5_2).f9) ((rd_T104 l1_6 x5_2).f10.f0) ((rd_T104 l1_6 x5_2).f10.f1) t147 _ ?side1 ?side2 ?side3 ?side4 ?side5 ?side6 ?side7 ?side8 A29.out).mono ?_
         (case side1 => exact zc (Kd.C_below HR145_2.out HB.out))
         (case side2 => exact HC145_2.out)
         (case side3 => exact zc (Kd.C_below HR145_7.out HB.out))
         (case side4 => exact HC145_7.out)
         (case side5 => exact zc (Kd.C_below HR146_2.out HB.out))
         (case side6 => exact HC146_2.out)
         (case side7 => exact zc (Kd.C_below HR146_7.out HB.out))
         (case side8 => exact HC146_7.out)
         rintro e w34 ⟨rfl, hb⟩
         refine ⟨_, rfl, ?_⟩
         replace BK143 := kb BK143 hb
         replace BK144 := kb BK144 hb
         replace HB := Aside0.mk (below_step (zb HB) hb)
         (try clear hb)
         refine hK.out _ _ (an (b11 BK143) (an (b11 BK144) (an (cb hw145_0 HB) (an (cb hw145_1 HB) (an (cb hw145_2 HB) (an (cb hw145_3 HB) (an (cb hw145_4 HB) (an (cb hw145_5 HB) (an (cb hw145_6 HB) (an (cb hw145_7 HB) (an (cb hw145_8 HB) (an (cb hw145_9 HB) (an (cb hw145_10 HB) (an (cb hw145_11 HB) (an (cb hw146_0 HB) (an (cb hw146_1 HB) (an (cb hw146_2 HB) (an (cb hw146_3 HB) (an (cb hw146_4 HB) (an (cb hw146_5 HB) (an (cb hw146_6 HB) (an (cb hw146_7 HB) (an (cb hw146_8 HB) (an (cb hw146_9 HB) (an (cb hw146_10 HB) (cb hw146_11 HB)))))))))))))))))))))))))) (fun hHeld => ?_)
         clear hK K
         refine nm ?_
         refine pu 11 (some 59) (bm 12 4095) rfl rfl ?_
         refine done_ (done_of HT_.out (by kernel_rfl)) ?_
         go_upto_if 59 with (fail)
         have H := HC30.out
         clear HC30
         by_cases c35 : t147 = true
         ·subst c35
          rw [if_pos rfl] at H
          have H' := Aside0.mk H
          clear H
          go_wp2
          go_roundg k2
          case measure => have := HJ2.out; have := HK2.out; omega
          case rel => exact ⟨(wrap64 (x5_2 + 1)), zs, H', ⟨by have := HJ2.out; have := HK2.out; omega⟩, ⟨by exact zk BK143⟩, ⟨by exact zk BK144⟩, ⟨zb HB⟩⟩
         ·replace c35 := Bool.eq_false_iff.mpr c35
          subst c35
          rw [if_neg (show ¬ (false = true) by decide)] at H
          obtain rfl := Option.some.inj H
          go_wp2
          go_ret
          exact ⟨ze, zb HB⟩
        ·rw [if_neg c28] at H
         exact absurd H (by simp)
       ·rw [if_neg c27] at H
        exact absurd H (by simp)
      ·skip
       have c26b0 := decide_eq_false c26
       clear c26
       obtain ⟨t148, A36, H⟩ := ob H
       (try dsimp only at H)
       by_cases c37 : t148 = true
       ·subst c37
        rw [if_pos rfl] at H
        obtain ⟨t149, A38, H⟩ := ob H
        (try dsimp only at H)
        by_cases c39 : t149 = true
        ·subst c39
         rw [if_pos rfl] at H
         obtain ⟨t150, A40, H⟩ := ob H
         (try dsimp only at H)
         obtain rfl := Option.some.inj H
         have hnb41 := NB143_144.out
         have hnc41 := NB144_143.out
         obtain ⟨hcz42_0, hcz42_1, hcz42_2, hcz42_3, hcz42_4, hcz42_5, hcz42_6, hcz42_7, hcz42_8, hcz42_9, hcz42_10, hfz42_0, hfz42_1, hfz42_2, hfz42_3, hfz42_4, hfz42_5, hfz42_6, hfz42_7, hfz42_8, hfz42_9, hfz42_10⟩ := c11 BK143
         obtain ⟨hcz43_0, hcz43_1, hcz43_2, hcz43_3, hcz43_4, hcz43_5, hcz43_6, hcz43_7, hcz43_8, hcz43_9, hcz43_10, hfz43_0, hfz43_1, hfz43_2, hfz43_3, hfz43_4, hfz43_5, hfz43_6, hfz43_7, hfz43_8, hfz43_9, hfz43_10⟩ := c11 BK144
         go_wp2_with (first | ((with_reducible refine gq 14 rfl ?_); refine gl (some 64) Try.func14 #[.agg #[.slice A0_1 l0_1.length c0_1, .int .i64 a0_2], .agg #[.slice A1_1 l1_1.length c1_1, .int .i64 a1_2]] ?_; (with_reducible refine (laws_lkTable.calls k2 _ _ l0_1 a0_2 _ _ l1_1 a1_2 true _ ?side1 ?side2 ?side3 ?side4 A36.out).mono ?_); (case side1 => exact zc (Kd.C_below HR0_1.out HB.out)); (case side2 => exact HC0_1.out); (case side3 => exact zc (Kd.C_below HR1_1.out HB.out)); (case side4 => exact HC1_1.out); rintro e w44 ⟨rfl, hb⟩; refine ⟨_, rfl, ?_⟩; replace BK143 := kb BK143 hb; replace BK144 := kb BK144 hb; replace HB := Aside0.mk (below_step (zb HB) hb); (try clear hb); obtain ⟨hcz45_0, hcz45_1, hcz45_2, hcz45_3, hcz45_4, hcz45_5, hcz45_6, hcz45_7, hcz45_8, hcz45_9, hcz45_10, hfz45_0, hfz45_1, hfz45_2, hfz45_3, hfz45_4, hfz45_5, hfz45_6, hfz45_7, hfz45_8, hfz45_9, hfz45_10⟩ := c11 BK143; obtain ⟨hcz46_0, hcz46_1, hcz46_2, hcz46_3, hcz46_4, hcz46_5, hcz46_6, hcz46_7, hcz46_8, hcz46_9, hcz46_10, hfz46_0, hfz46_1, hfz46_2, hfz46_3, hfz46_4, hfz46_5, hfz46_6, hfz46_7, hfz46_8, hfz46_9, hfz46_10⟩ := c11 BK144) | (go_at_call 14; (with_reducible refine (laws_lkTable.calls k2 _ _ l0_3 a0_4 _ _ l1_3 a1_4 true _ ?side1 ?side2 ?side3 ?side4 A38.out).mono ?_); (case side1 => exact zc (Kd.C_below HR0_3.out HB.out)); (case side2 => exact HC0_3.out); (case side3 => exact zc (Kd.C_below HR1_3.out HB.out)); (case side4 => exact HC1_3.out); rintro e w47 ⟨rfl, hb⟩; replace BK143 := kb BK143 hb; replace BK144 := kb BK144 hb; replace HB := Aside0.mk (below_step (zb HB) hb); (try clear hb); obtain ⟨hcz48_0, hcz48_1, hcz48_2, hcz48_3, hcz48_4, hcz48_5, hcz48_6, hcz48_7, hcz48_8, hcz48_9, hcz48_10, hfz48_0, hfz48_1, hfz48_2, hfz48_3, hfz48_4, hfz48_5, hfz48_6, hfz48_7, hfz48_8, hfz48_9, hfz48_10⟩ := c11 BK143; obtain ⟨hcz49_0, hcz49_1, hcz49_2, hcz49_3, hcz49_4, hcz49_5, hcz49_6, hcz49_7, hcz49_8, hcz49_9, hcz49_10, hfz49_0, hfz49_1, hfz49_2, hfz49_3, hfz49_4, hfz49_5, hfz49_6, hfz49_7, hfz49_8, hfz49_9, hfz49_10⟩ := c11 BK144) | (go_at_call 76; (with_reducible refine (laws_lkFrames.calls k2 _ _ l0_9 _ _ l1_9 t150 _ ?side1 ?side2 ?side3 ?side4 A40.out).mono ?_); (case side1 => exact zc (Kd.C_below HR0_9.out HB.out)); (case side2 => exact HC0_9.out); (case side3 => exact zc (Kd.C_below HR1_9.out HB.out)); (case side4 => exact HC1_9.out); rintro e w' ⟨rfl, ⟨nd, rfl⟩⟩))
         go_ret
         exact ⟨ze, zb HB⟩
        ·replace c39 := Bool.eq_false_iff.mpr c39
         subst c39
         rw [if_neg (show ¬ (false = true) by decide)] at H
         obtain rfl := Option.some.inj H
         have hnb50 := NB143_144.out
         have hnc50 := NB144_143.out
         obtain ⟨hcz51_0, hcz51_1, hcz51_2, hcz51_3, hcz51_4, hcz51_5, hcz51_6, hcz51_7, hcz51_8, hcz51_9, hcz51_10, hfz51_0, hfz51_1, hfz51_2, hfz51_3, hfz51_4, hfz51_5, hfz51_6, hfz51_7, hfz51_8, hfz51_9, hfz51_10⟩ := c11 BK143
         obtain ⟨hcz52_0, hcz52_1, hcz52_2, hcz52_3, hcz52_4, hcz52_5, hcz52_6, hcz52_7, hcz52_8, hcz52_9, hcz52_10, hfz52_0, hfz52_1, hfz52_2, hfz52_3, hfz52_4, hfz52_5, hfz52_6, hfz52_7, hfz52_8, hfz52_9, hfz52_10⟩ := c11 BK144
         go_wp2_with (first | ((with_reducible refine gq 14 rfl ?_); refine gl (some 64) Try.func14 #[.agg #[.slice A0_1 l0_1.length c0_1, .int .i64 a0_2], .agg #[.slice A1_1 l1_1.length c1_1, .int .i64 a1_2]] ?_; (with_reducible refine (laws_lkTable.calls k2 _ _ l0_1 a0_2 _ _ l1_1 a1_2 true _ ?side1 ?side2 ?side3 ?side4 A36.out).mono ?_); (case side1 => exact zc (Kd.C_below HR0_1.out HB.out)); (case side2 => exact HC0_1.out); (case side3 => exact zc (Kd.C_below HR1_1.out HB.out)); (case side4 => exact HC1_1.out); rintro e w53 ⟨rfl, hb⟩; refine ⟨_, rfl, ?_⟩; replace BK143 := kb BK143 hb; replace BK144 := kb BK144 hb; replace HB := Aside0.mk (below_step (zb HB) hb); (try clear hb); obtain ⟨hcz54_0, hcz54_1, hcz54_2, hcz54_3, hcz54_4, hcz54_5, hcz54_6, hcz54_7, hcz54_8, hcz54_9, hcz54_10, hfz54_0, hfz54_1, hfz54_2, hfz54_3, hfz54_4, hfz54_5, hfz54_6, hfz54_7, hfz54_8, hfz54_9, hfz54_10⟩ := c11 BK143; obtain ⟨hcz55_0, hcz55_1, hcz55_2, hcz55_3, hcz55_4, hcz55_5, hcz55_6, hcz55_7, hcz55_8, hcz55_9, hcz55_10, hfz55_0, hfz55_1, hfz55_2, hfz55_3, hfz55_4, hfz55_5, hfz55_6, hfz55_7, hfz55_8, hfz55_9, hfz55_10⟩ := c11 BK144) | (go_at_call 14; (with_reducible refine (laws_lkTable.calls k2 _ _ l0_3 a0_4 _ _ l1_3 a1_4 false _ ?side1 ?side2 ?side3 ?side4 A38.out).mono ?_); (case side1 => exact zc (Kd.C_below HR0_3.out HB.out)); (case side2 => exact HC0_3.out); (case side3 => exact zc (Kd.C_below HR1_3.out HB.out)); (case side4 => exact HC1_3.out); rintro e w56 ⟨rfl, hb⟩; replace BK143 := kb BK143 hb; replace BK144 := kb BK144 hb; replace HB := Aside0.mk (below_step (zb HB) hb); (try clear hb)))
         go_ret
         exact ⟨ze, zb HB⟩
       ·replace c37 := Bool.eq_false_iff.mpr c37
        subst c37
        rw [if_neg (show ¬ (false = true) by decide)] at H
        obtain rfl := Option.some.inj H
        have hnb57 := NB143_144.out
        have hnc57 := NB144_143.out
        obtain ⟨hcz58_0, hcz58_1, hcz58_2, hcz58_3, hcz58_4, hcz58_5, hcz58_6, hcz58_7, hcz58_8, hcz58_9, hcz58_10, hfz58_0, hfz58_1, hfz58_2, hfz58_3, hfz58_4, hfz58_5, hfz58_6, hfz58_7, hfz58_8, hfz58_9, hfz58_10⟩ := c11 BK143
        obtain ⟨hcz59_0, hcz59_1, hcz59_2, hcz59_3, hcz59_4, hcz59_5, hcz59_6, hcz59_7, hcz59_8, hcz59_9, hcz59_10, hfz59_0, hfz59_1, hfz59_2, hfz59_3, hfz59_4, hfz59_5, hfz59_6, hfz59_7, hfz59_8, hfz59_9, hfz59_10⟩ := c11 BK144
        go_wp2_with (first | ((with_reducible refine gq 14 rfl ?_); refine gl (some 64) Try.func14 #[.agg #[.slice A0_1 l0_1.length c0_1, .int .i64 a0_2], .agg #[.slice A1_1 l1_1.length c1_1, .int .i64 a1_2]] ?_; (with_reducible refine (laws_lkTable.calls k2 _ _ l0_1 a0_2 _ _ l1_1 a1_2 false _ ?side1 ?side2 ?side3 ?side4 A36.out).mono ?_); (case side1 => exact zc (Kd.C_below HR0_1.out HB.out)); (case side2 => exact HC0_1.out); (case side3 => exact zc (Kd.C_below HR1_1.out HB.out)); (case side4 => exact HC1_1.out); rintro e w60 ⟨rfl, hb⟩; refine ⟨_, rfl, ?_⟩; replace BK143 := kb BK143 hb; replace BK144 := kb BK144 hb; replace HB := Aside0.mk (below_step (zb HB) hb); (try clear hb)))
        go_ret
        exact ⟨ze, zb HB⟩

end Go.Proofs.Ytlpibelofcabhaa.PFnEndNew
