-- WRITTEN BY a turned print (wip/tools of the prover's repo)
import Derived.Test.YtlpibelofcabhaaDoorPFnExactEndCallx0
import Derived.Test.YtlpibelofcabhaaDoorPFnExactEndCallx1
import Derived.Test.YtlpibelofcabhaaDoorPFnExactEndCallx2
import Derived.Test.YtlpibelofcabhaaDoorPFnExactEndCallx3
namespace Go.Proofs.YtlpibelofcabhaaDoor.PFnExactEndCall
open Go.RowKit Go.Proofs.YtlpibelofcabhaaDoorW.PrintWords Go.Proofs.YtlpibelofcabhaaDoorW.PrintLast Go.Proofs.YtlpibelofcabhaaDoorW.PrintMore Go.Proofs.YtlpibelofcabhaaDoor.Lm
attribute [local go_sem] max2_int min2_int max_two min_two max_three min_three max_four min_four   -- for this text's walks alone
set_option linter.unusedVariables false
set_option linter.unusedSimpArgs false

/-! ### spec_EndOk: function 14 -/
-- thin
mutual
def spec_EndOk.l0 : Nat → Int → Bool → List (S61) → Int → List (S61) → Int → ByteArray → List (S58) → Int → Int → List (S79) → Bool → Option (Bool)
 | 0, _, _, _, _, _, _, _, _, _, _, _, _ => none
 | k + 1, x3, x154000, x154001, x154002, x154003, x154004, x154005, x154006, x154007, x154008, x154009, x154010 => if x3 < (x154006.length : Int) then (if 0 ≤ x3 then ((spec_l21Stream.f k ((rd_T58 x154006 x3).f0) ((rd_T58 x154006 x3).f1) ((rd_T58 x154006 x3).f2) ((rd_T58 x154006 x3).f3) ((rd_T58 x154006 x3).f4) ((rd_T58 x154006 x3).f5) ((rd_T58 x154006 x3).f6) ((rd_T58 x154006 x3).f7) ((rd_T58 x154006 x3).f8) ((rd_T58 x154006 x3).f9) ((rd_T58 x154006 x3).f10.f0) ((rd_T58 x154006 x3).f10.f1)).bind fun t155 => (if t155 = true then (if x3 > 0 then (if 0 ≤ (wrap64 (x3 - 1)) then (if (wrap64 (x3 - 1)) < (x154006.length : Int) then (if ((rd_T58 x154006 (wrap64 (x3 - 1))).f0) ≥ ((rd_T58 x154006 x3).f0) then (some false) else (if x154000 = true then (spec_EndOk.l0 k (wrap64 (x3 + 1)) x154000 x154001 x154002 x154003 x154004 x154005 x154006 x154007 x154008 x154009 x154010) else (if ((rd_T58 x154006 x3).f0) = (wrap64 ((wrap64 (2 * x3)) + 1)) then (spec_EndOk.l0 k (wrap64 (x3 + 1)) x154000 x154001 x154002 x154003 x154004 x154005 x154006 x154007 x154008 x154009 x154010) else (some false)))) else (none)) else (none)) else (if x154000 = true then (spec_EndOk.l0 k (wrap64 (x3 + 1)) x154000 x154001 x154002 x154003 x154004 x154005 x154006 x154007 x154008 x154009 x154010) else (if ((rd_T58 x154006 x3).f0) = (wrap64 ((wrap64 (2 * x3)) + 1)) then (spec_EndOk.l0 k (wrap64 (x3 + 1)) x154000 x154001 x154002 x154003 x154004 x154005 x154006 x154007 x154008 x154009 x154010) else (some false)))) else (some false))) else (none)) else (spec_EndOk.l1 k 0 x154000 x154001 x154002 x154003 x154004 x154005 x154006 x154007 x154008 x154009 x154010)
def spec_EndOk.l1 : Nat → Int → Bool → List (S61) → Int → List (S61) → Int → ByteArray → List (S58) → Int → Int → List (S79) → Bool → Option (Bool)
 | 0, _, _, _, _, _, _, _, _, _, _, _, _ => none
 | k + 1, x4, x154000, x154001, x154002, x154003, x154004, x154005, x154006, x154007, x154008, x154009, x154010 => if x4 < (x154009.length : Int) then (if 0 ≤ x4 then ((spec_FrameOk.f k ((rd_T79 x154009 x4).f0) ((rd_T79 x154009 x4).f1) ((rd_T79 x154009 x4).f2) ((rd_T79 x154009 x4).f3)).bind fun t161 => (if t161 = true then (spec_EndOk.l1 k (wrap64 (x4 + 1)) x154000 x154001 x154002 x154003 x154004 x154005 x154006 x154007 x154008 x154009 x154010) else (some false))) else (none)) else ((spec_TableOk.f k x154001 x154002).bind fun t162 => (if t162 = true then ((spec_TableOk.f k x154003 x154004).bind fun t163 => (if t163 = true then ((spec_FlowOk.f x154007 x154008).bind fun t164 => (if t164 = true then (if (x154005.size : Int) ≤ 600 then (some (decide ((x154009.length : Int) ≤ 60))) else (some false)) else (some false))) else (some false))) else (some false)))
end
def spec_EndOk.f (k : Nat) (a0_0 : Bool) (l0_1 : List (S61)) (a0_2 : Int) (l0_3 : List (S61)) (a0_4 : Int) (a0_5 : ByteArray) (l0_6 : List (S58)) (a0_7 : Int) (a0_8 : Int) (l0_9 : List (S79)) (a0_10 : Bool) : Option (Bool) := spec_EndOk.l0 k 0 a0_0 l0_1 a0_2 l0_3 a0_4 a0_5 l0_6 a0_7 a0_8 l0_9 a0_10
theorem spec_EndOk.mono_l : ∀ k, (∀ y0 y1 y2 y3 y4 y5 y6 y7 y8 y9 y10 y11, LeO (spec_EndOk.l0 k y0 y1 y2 y3 y4 y5 y6 y7 y8 y9 y10 y11) (spec_EndOk.l0 (k + 1) y0 y1 y2 y3 y4 y5 y6 y7 y8 y9 y10 y11)) ∧ (∀ y0 y1 y2 y3 y4 y5 y6 y7 y8 y9 y10 y11, LeO (spec_EndOk.l1 k y0 y1 y2 y3 y4 y5 y6 y7 y8 y9 y10 y11) (spec_EndOk.l1 (k + 1) y0 y1 y2 y3 y4 y5 y6 y7 y8 y9 y10 y11))
 | 0 => ⟨fun _ _ _ _ _ _ _ _ _ _ _ _ r h => by simp [spec_EndOk.l0] at h, fun _ _ _ _ _ _ _ _ _ _ _ _ r h => by simp [spec_EndOk.l1] at h⟩
 | k + 1 => by
  obtain ⟨ih0, ih1⟩ := spec_EndOk.mono_l k
  refine ⟨?_, ?_⟩
  ·intro y0 y1 y2 y3 y4 y5 y6 y7 y8 y9 y10 y11
   unfold spec_EndOk.l0
   have m0 := @spec_FrameOk.mono
   have m1 := @spec_TableOk.mono
   have m2 := @spec_l21Stream.mono
   exact zm
  ·intro y0 y1 y2 y3 y4 y5 y6 y7 y8 y9 y10 y11
   unfold spec_EndOk.l1
   have m0 := @spec_FrameOk.mono
   have m1 := @spec_TableOk.mono
   have m2 := @spec_l21Stream.mono
   exact zm
theorem spec_EndOk.mono : ∀ a0 a1 a2 a3 a4 a5 a6 a7 a8 a9 a10 k, LeO (spec_EndOk.f k a0 a1 a2 a3 a4 a5 a6 a7 a8 a9 a10) (spec_EndOk.f (k + 1) a0 a1 a2 a3 a4 a5 a6 a7 a8 a9 a10) := by
 intro a0 a1 a2 a3 a4 a5 a6 a7 a8 a9 a10 k
 obtain ⟨ih0, ih1⟩ := spec_EndOk.mono_l k
 unfold spec_EndOk.f
 have m0 := @spec_FrameOk.mono
 have m1 := @spec_TableOk.mono
 have m2 := @spec_l21Stream.mono
 exact zm
def spec_EndOk.T4 : Bool × List (List Nat × List Nat) := (true, [([], []), ([0], [0]), ([], []), ([1, 2], [1, 2]), ([3], [3]), ([4], [4]), ([5], [5]), ([6, 5], [6]), ([7], [7]), ([8, 7], [7, 8]), ([9, 7, 7], [7, 9]), ([10], [10]), ([11, 10], [10, 11]), ([10], [10]), ([13, 10], [10, 13]), ([12, 14, 10], [10, 12, 14]), ([15, 10], [10, 15]), ([16, 10], [10, 16]), ([10], [10]), ([18, 10], [10, 18]), ([10], [10]), ([19, 20, 10], [10, 19, 20]), ([21, 10], [10, 21]), ([22, 10], [10, 22]), ([17, 23, 10], [10, 17, 23]), ([10, 24, 7], [7, 10, 24]), ([7, 25], [7, 25]), ([26, 10], [26]), ([27], [27]), ([28, 27], [27, 28]), ([29, 27], [27, 29]), ([30, 27, 27], [27, 30]), ([31], [31]), ([32, 31], [31, 32]), ([31], [31]), ([33, 34, 31], [31, 33, 34]), ([35, 31], [31, 35]), ([36, 31], [31, 36]), ([31], [31]), ([38, 31], [31, 38]), ([39, 31], [31, 39]), ([37, 40, 31], [31, 37, 40]), ([31, 41, 27], [27, 31, 41]), ([27, 42], [27, 42])])
def spec_EndOk.B4 : List Nat := [0, 1, 0, 7, 15, 31, 63, 127, 255, 511, 1023, 2047, 4095, 2047, 10239, 32767, 65535, 131071, 2047, 264191, 2047, 1837055, 3934207, 8128511, 16777215, 33554431, 67108863, 134217727, 268435455, 536870911, 1073741823, 2147483647, 4294967295, 8589934591, 4294967295, 34359738367, 68719476735, 137438953471, 4294967295, 279172874239, 828928688127, 2199023255551, 4398046511103, 8796093022207]
theorem spec_EndOk.tab4 : rtab .any (opsOf Tryd.f14 4) = spec_EndOk.T4 := by kernel_rfl
theorem spec_EndOk.bits4 : waitsOk spec_EndOk.T4.2 spec_EndOk.B4 = true := by kernel_rfl
set_option maxHeartbeats 8000000 in
set_option maxRecDepth 100000 in
theorem spec_EndOk.calls (k : Nat) (a0_0 : Bool) (A0_1 : Option Addr) (c0_1 : Nat) (l0_1 : List (S61)) (a0_2 : Int) (A0_3 : Option Addr) (c0_3 : Nat) (l0_3 : List (S61)) (a0_4 : Int) (a0_5 : ByteArray) (A0_6 : Option Addr) (c0_6 : Nat) (l0_6 : List (S58)) (a0_7 : Int) (a0_8 : Int) (A0_9 : Option Addr) (c0_9 : Nat) (l0_9 : List (S79)) (a0_10 : Bool) (r : Bool) (w : World) (hr0_1 : Kd.C k61 w A0_1 l0_1.length l0_1) (hc0_1 : l0_1.length ≤ c0_1) (hr0_3 : Kd.C k61 w A0_3 l0_3.length l0_3) (hc0_3 : l0_3.length ≤ c0_3) (hr0_6 : Kd.C k58 w A0_6 l0_6.length l0_6) (hc0_6 : l0_6.length ≤ c0_6) (hr0_9 : Kd.C k79 w A0_9 l0_9.length l0_9) (hc0_9 : l0_9.length ≤ c0_9) (h : spec_EndOk.f k a0_0 l0_1 a0_2 l0_3 a0_4 a0_5 l0_6 a0_7 a0_8 l0_9 a0_10 = some r) :
  Calls Tryd.prog 14 #[.agg #[.bool a0_0, .slice A0_1 l0_1.length c0_1, .int .i64 a0_2, .slice A0_3 l0_3.length c0_3, .int .i64 a0_4, .string a0_5, .slice A0_6 l0_6.length c0_6, .int .i64 a0_7, .int .i64 a0_8, .slice A0_9 l0_9.length c0_9, .bool a0_10]] w fun e w' => e = .returned (.bool r) ∧ Below w.heap.size w w' := by
 have hu39 := Tryd.underlying39
 have hu58 := Tryd.underlying58
 have hu79 := Tryd.underlying79
 have hu34 := Tryd.underlying34
 have hu36 := Tryd.underlying36
 have HR0_1 := Aside0.mk hr0_1
 have HC0_1 := Aside0.mk hc0_1
 clear hr0_1 hc0_1
 have HR0_3 := Aside0.mk hr0_3
 have HC0_3 := Aside0.mk hc0_3
 clear hr0_3 hc0_3
 have HR0_6 := Aside0.mk hr0_6
 have HC0_6 := Aside0.mk hc0_6
 clear hr0_6 hc0_6
 have HR0_9 := Aside0.mk hr0_9
 have HC0_9 := Aside0.mk hc0_9
 clear hr0_9 hc0_9
 have HB := Aside0.mk (Below.refl w.heap.size w)
 have H : (spec_EndOk.l0 k 0 a0_0 l0_1 a0_2 l0_3 a0_4 a0_5 l0_6 a0_7 a0_8 l0_9 a0_10) = some r := h
 clear h
 have H' := Aside0.mk H
 clear H
 go_enter Tryd.func14, Tryd.ntmps14
 go_wp2_with (first | ((with_reducible refine gd 1 rfl ?_); (try (refine gate_guard (by rfl) ?_; dsimp only)); refine bx (N := 1) (cs := #[.bool a0_0, .slice A0_1 l0_1.length c0_1, .int .i64 a0_2, .slice A0_3 l0_3.length c0_3, .int .i64 a0_4, .string a0_5, .slice A0_6 l0_6.length c0_6, .int .i64 a0_7, .int .i64 a0_8, .slice A0_9 l0_9.length c0_9, .bool a0_10]) (t := 39) ?_; intro gb153 hg w2 hbox hb; have BK153 := Aside0.mk (hbox); have GW153 := gw HB hg; have GE153 := GW153; replace HB := Aside0.mk (below_step (zb HB) hb); clear hb hbox hg))
 go_loopg [3] k (fun kq v3 w' => ∃ (x3_1 : Int), v3 = .int .i64 x3_1 ∧ Aside0 (spec_EndOk.l0 kq x3_1 a0_0 l0_1 a0_2 l0_3 a0_4 a0_5 l0_6 a0_7 a0_8 l0_9 a0_10 = some r) ∧ Aside0 (kq ≤ k) ∧ Aside0 (w'.heap[gb153]? = some (.cells #[.bool a0_0, (.slice A0_1 l0_1.length c0_1), .int .i64 a0_2, (.slice A0_3 l0_3.length c0_3), .int .i64 a0_4, .string a0_5, (.slice A0_6 l0_6.length c0_6), .int .i64 a0_7, .int .i64 a0_8, (.slice A0_9 l0_9.length c0_9), .bool a0_10] 39 (0, 0))) ∧ Aside0 (Below w.heap.size w w'))
 case atStart => exact ⟨(0), zs, H', ⟨Nat.le_refl _⟩, ⟨by exact zk BK153⟩, ⟨zb HB⟩⟩
 case round =>
  clear H'
  try clear c1
  try clear p2
  obtain ⟨x3_1, rfl, HA, HK1, BK153, HB⟩ := hrel
  cases gk with
  | zero => exact absurd HA.out (by simp [spec_EndOk.l0])
  | succ k1 =>
   have H := HA.out
   clear HA
   simp only [spec_EndOk.l0] at H
   replace H := sp H
   rcases H with ⟨c3, H⟩ | ⟨c3, H⟩
   ·skip
    have c3b0 := decide_eq_true c3
    clear c3
    by_cases c4 : 0 ≤ x3_1
    ·rw [if_pos c4] at H
     have c4b0 := decide_eq_true c4
     clear c4
     obtain ⟨t155, A5, H⟩ := ob H
     (try dsimp only at H)
     by_cases c6 : t155 = true
     ·subst c6
      rw [if_pos rfl] at H
      by_cases c7 : x3_1 > 0
      ·rw [if_pos c7] at H
       have c7b0 := decide_eq_true c7
       clear c7
       obtain ⟨ji8, hji8⟩ : ∃ j_ : Int, (wrap64 (x3_1 - 1)) = j_ := ⟨_, rfl⟩
       replace H : (if 0 ≤ (ji8) then (if (ji8) < (l0_6.length : Int) then (if ((rd_T58 l0_6 (ji8)).f0) ≥ ((rd_T58 l0_6 x3_1).f0) then (some false) else (if a0_0 = true then (spec_EndOk.l0 k1 (wrap64 (x3_1 + 1)) a0_0 l0_1 a0_2 l0_3 a0_4 a0_5 l0_6 a0_7 a0_8 l0_9 a0_10) else (if ((rd_T58 l0_6 x3_1).f0) = (wrap64 ((wrap64 (2 * x3_1)) + 1)) then (spec_EndOk.l0 k1 (wrap64 (x3_1 + 1)) a0_0 l0_1 a0_2 l0_3 a0_4 a0_5 l0_6 a0_7 a0_8 l0_9 a0_10) else (some false)))) else (none)) else (none)) = some r := by first | (rw [hji8] at H; exact H) | (simp only [hji8] at H ⊢; exact H)
       (try rw [hji8] at A5)
       have hji8w : (IntKind.i64.wrap (x3_1 - 1)) = ji8 := (i64_w _).trans hji8
       by_cases c9 : 0 ≤ (ji8)
       ·rw [if_pos c9] at H
        have c9b0 := decide_eq_true c9
        clear c9
        by_cases c10 : (ji8) < (l0_6.length : Int)
        ·rw [if_pos c10] at H
         have c10b0 := decide_eq_true c10
         clear c10
         by_cases c11 : ((rd_T58 l0_6 (ji8)).f0) ≥ ((rd_T58 l0_6 x3_1).f0)
         ·rw [if_pos c11] at H
          have c11b0 := decide_eq_true c11
          clear c11
          obtain rfl := Option.some.inj H
          obtain ⟨hcz12_0, hcz12_1, hcz12_2, hcz12_3, hcz12_4, hcz12_5, hcz12_6, hcz12_7, hcz12_8, hcz12_9, hcz12_10, hfz12_0, hfz12_1, hfz12_2, hfz12_3, hfz12_4, hfz12_5, hfz12_6, hfz12_7, hfz12_8, hfz12_9, hfz12_10⟩ := c11 BK153
          try go_wp2
          replace BK153 := Aside0.mk (blk_drew BK153.out)
          replace HB := Aside0.mk (below_drew1 HB.out)
          have p154 : 0 ≤ (x3_1 : Int) := of_decide_eq_true za
          have q154 : x3_1 < (l0_6.length : Int) := of_decide_eq_true za
          obtain ⟨ad154, A154_2, c154_2, A154_7, c154_7, e154, hx154_0, hx154_1, hx154_2, hx154_3, hx154_4, hx154_5, hx154_6, hx154_7, hx154_8, hx154_9, hx154_10, hx154_11, hl154_2, hi154_2, hl154_7, hi154_7⟩ := at_T58 HR0_6.out x3_1 p154 q154
          have hw154_11 := hx154_11
          have hw154_10 := hx154_10
          have hw154_9 := hx154_9
          have hw154_8 := hx154_8
          have hw154_7 := hx154_7
          have hw154_6 := hx154_6
          have hw154_5 := hx154_5
          have hw154_4 := hx154_4
          have hw154_3 := hx154_3
          have hw154_2 := hx154_2
          have hw154_1 := hx154_1
          have hw154_0 := hx154_0
          cases e154
          replace hx154_0 := cb0 hx154_0 HB
          replace hx154_1 := cb0 hx154_1 HB
          replace hx154_2 := cb0 hx154_2 HB
          replace hx154_3 := cb0 hx154_3 HB
          replace hx154_4 := cb0 hx154_4 HB
          replace hx154_5 := cb0 hx154_5 HB
          replace hx154_6 := cb0 hx154_6 HB
          replace hx154_7 := cb0 hx154_7 HB
          replace hx154_8 := cb0 hx154_8 HB
          replace hx154_9 := cb0 hx154_9 HB
          replace hx154_10 := cb0 hx154_10 HB
          replace hx154_11 := cb0 hx154_11 HB
          have HR154_2 := Aside0.mk hi154_2
          have HC154_2 := Aside0.mk hl154_2
          clear hi154_2 hl154_2
          have HR154_7 := Aside0.mk hi154_7
          have HC154_7 := Aside0.mk hl154_7
          clear hi154_7 hl154_7
          replace p154 := eq_true p154
          replace q154 := eq_true q154
          have p156 : 0 ≤ ((ji8) : Int) := of_decide_eq_true za
          have q156 : (ji8) < (l0_6.length : Int) := of_decide_eq_true za
          obtain ⟨ad156, A156_2, c156_2, A156_7, c156_7, e156, hx156_0, hx156_1, hx156_2, hx156_3, hx156_4, hx156_5, hx156_6, hx156_7, hx156_8, hx156_9, hx156_10, hx156_11, hl156_2, hi156_2, hl156_7, hi156_7⟩ := at_T58 HR0_6.out (ji8) p156 q156
          have hw156_11 := hx156_11
          have hw156_10 := hx156_10
          have hw156_9 := hx156_9
          have hw156_8 := hx156_8
          have hw156_7 := hx156_7
          have hw156_6 := hx156_6
          have hw156_5 := hx156_5
          have hw156_4 := hx156_4
          have hw156_3 := hx156_3
          have hw156_2 := hx156_2
          have hw156_1 := hx156_1
          have hw156_0 := hx156_0
          obtain rfl : ad154 = ad156 := (by injection e156)
          replace hx156_0 := cb0 hx156_0 HB
          replace hx156_1 := cb0 hx156_1 HB
          replace hx156_2 := cb0 hx156_2 HB
          replace hx156_3 := cb0 hx156_3 HB
          replace hx156_4 := cb0 hx156_4 HB
          replace hx156_5 := cb0 hx156_5 HB
          replace hx156_6 := cb0 hx156_6 HB
          replace hx156_7 := cb0 hx156_7 HB
          replace hx156_8 := cb0 hx156_8 HB
          replace hx156_9 := cb0 hx156_9 HB
          replace hx156_10 := cb0 hx156_10 HB
          replace hx156_11 := cb0 hx156_11 HB
          have HR156_2 := Aside0.mk hi156_2
          have HC156_2 := Aside0.mk hl156_2
          clear hi156_2 hl156_2
          have HR156_7 := Aside0.mk hi156_7
          have HC156_7 := Aside0.mk hl156_7
          clear hi156_7 hl156_7
          replace p156 := eq_true p156
          replace q156 := eq_true q156
          have p157 : 0 ≤ (x3_1 : Int) := of_decide_eq_true za
          have q157 : x3_1 < (l0_6.length : Int) := of_decide_eq_true za
          obtain ⟨ad157, A157_2, c157_2, A157_7, c157_7, e157, hx157_0, hx157_1, hx157_2, hx157_3, hx157_4, hx157_5, hx157_6, hx157_7, hx157_8, hx157_9, hx157_10, hx157_11, hl157_2, hi157_2, hl157_7, hi157_7⟩ := at_T58 HR0_6.out x3_1 p157 q157
          have hw157_11 := hx157_11
          have hw157_10 := hx157_10
          have hw157_9 := hx157_9
          have hw157_8 := hx157_8
          have hw157_7 := hx157_7
          have hw157_6 := hx157_6
          have hw157_5 := hx157_5
          have hw157_4 := hx157_4
          have hw157_3 := hx157_3
          have hw157_2 := hx157_2
          have hw157_1 := hx157_1
          have hw157_0 := hx157_0
          obtain rfl : ad154 = ad157 := (by injection e157)
          replace hx157_0 := cb0 hx157_0 HB
          replace hx157_1 := cb0 hx157_1 HB
          replace hx157_2 := cb0 hx157_2 HB
          replace hx157_3 := cb0 hx157_3 HB
          replace hx157_4 := cb0 hx157_4 HB
          replace hx157_5 := cb0 hx157_5 HB
          replace hx157_6 := cb0 hx157_6 HB
          replace hx157_7 := cb0 hx157_7 HB
          replace hx157_8 := cb0 hx157_8 HB
          replace hx157_9 := cb0 hx157_9 HB
          replace hx157_10 := cb0 hx157_10 HB
          replace hx157_11 := cb0 hx157_11 HB
          have HR157_2 := Aside0.mk hi157_2
          have HC157_2 := Aside0.mk hl157_2
          clear hi157_2 hl157_2
          have HR157_7 := Aside0.mk hi157_7
          have HC157_7 := Aside0.mk hl157_7
          clear hi157_7 hl157_7
          replace p157 := eq_true p157
          replace q157 := eq_true q157
          refine st 44 (an (b11 BK153) (an (cb hw154_0 HB) (an (cb hw154_1 HB) (an (cb hw154_2 HB) (an (cb hw154_3 HB) (an (cb hw154_4 HB) (an (cb hw154_5 HB) (an (cb hw154_6 HB) (an (cb hw154_7 HB) (an (cb hw154_8 HB) (an (cb hw154_9 HB) (an (cb hw154_10 HB) (an (cb hw154_11 HB) (an (cb hw156_0 HB) (an (cb hw156_1 HB) (an (cb hw156_2 HB) (an (cb hw156_3 HB) (an (cb hw156_4 HB) (an (cb hw156_5 HB) (an (cb hw156_6 HB) (an (cb hw156_7 HB) (an (cb hw156_8 HB) (an (cb hw156_9 HB) (an (cb hw156_10 HB) (an (cb hw156_11 HB) (an (cb hw157_0 HB) (an (cb hw157_1 HB) (an (cb hw157_2 HB) (an (cb hw157_3 HB) (an (cb hw157_4 HB) (an (cb hw157_5 HB) (an (cb hw157_6 HB) (an (cb hw157_7 HB) (an (cb hw157_8 HB) (an (cb hw157_9 HB) (an (cb hw157_10 HB) (cb hw157_11 HB))))))))))))))))))))))))))))))))))))) (fun hHeld => ?_); refine with_tabW spec_EndOk.tab4 spec_EndOk.bits4 (fun HT_ HW_ => ?_)
          generalize wr.drew = w13 at BK153 HB HR154_2 HR154_7 HR156_2 HR156_7 HR157_2 HR157_7 hx154_0 hx154_1 hx154_10 hx154_11 hx154_2 hx154_3 hx154_4 hx154_5 hx154_6 hx154_7 hx154_8 hx154_9 hx156_0 hx156_1 hx156_10 hx156_11 hx156_2 hx156_3 hx156_4 hx156_5 hx156_6 hx156_7 hx156_8 hx156_9 hx157_0 hx157_1 hx157_10 hx157_11 hx157_2 hx157_3 hx157_4 hx157_5 hx157_6 hx157_7 hx157_8 hx157_9 hHeld ⊢
          refine pu 0 (some 12) (bm 44 1) rfl rfl ?_
          refine pu 2 (some 14) (bm 44 5) rfl rfl ?_
          refine tk 1 (some 13) (bm 44 7) rfl rfl hHeld ?_
          refine pu 3 (some 15) (bm 44 15) rfl rfl ?_
          refine tk 4 (some 16) (bm 44 31) rfl rfl hHeld ?_
          refine one_ (i := 5) (N := some 17) (bm 44 63) rfl rfl (one_of HT_.out (by kernel_rfl)) (by decide) (fun K hK => ?_)
          refine gs Tryd.func39 #[.agg #[.int .i64 ((rd_T58 l0_6 x3_1).f0), .int .i64 ((rd_T58 l0_6 x3_1).f1), .slice A154_2 ((rd_T58 l0_6 x3_1).f2).length c154_2, .string ((rd_T58 l0_6 x3_1).f3), .bool ((rd_T58 l0_6 x3_1).f4), .bool ((rd_T58 l0_6 x3_1).f5), .int .i64 ((rd_T58 l0_6 x3_1).f6), .slice A154_7 ((rd_T58 l0_6 x3_1).f7).length c154_7, .string ((rd_T58 l0_6 x3_1).f8), .bool ((rd_T58 l0_6 x3_1).f9), .int .i64 ((rd_T58 l0_6 x3_1).f10.f0), .int .i64 ((rd_T58 l0_6 x3_1).f10.f1)]] ?_
          with_reducible refine (spec_l21Stream.calls k1 ((rd_T58 l0_6 x3_1).f0) ((rd_T58 l0_6 x3_1).f1) _ _ ((rd_T58 l0_6 x3_1).f2) ((rd_T58 l0_6 x3_1).f3) ((rd_T58 l0_6 x3_1).f4) ((rd_T58 l0_6 x3_1).f5) ((rd_T58 l0_6 x3_1).f6) _ _ ((rd_T58 l0_6 x3_1).f7) ((rd_T58 l0_6 x3_1).f8) ((rd_T58 l0_6 x3_1).f9) ((rd_T58 l0_6 x3_1).f10.f0) ((rd_T58 l0_6 x3_1).f10.f1) true _ ?side1 ?side2 ?side3 ?side4 A5.out).mono ?_
          (case side1 => exact zc (Kd.C_below HR154_2.out HB.out))
          (case side2 => exact HC154_2.out)
          (case side3 => exact zc (Kd.C_below HR154_7.out HB.out))
          (case side4 => exact HC154_7.out)
          rintro e w14 ⟨rfl, hb⟩
          refine ⟨_, rfl, ?_⟩
          replace BK153 := kb BK153 hb
          replace HB := Aside0.mk (below_step (zb HB) hb)
          (try clear hb)
          refine hK.out _ _ (an (b11 BK153) (an (cb hw154_0 HB) (an (cb hw154_1 HB) (an (cb hw154_2 HB) (an (cb hw154_3 HB) (an (cb hw154_4 HB) (an (cb hw154_5 HB) (an (cb hw154_6 HB) (an (cb hw154_7 HB) (an (cb hw154_8 HB) (an (cb hw154_9 HB) (an (cb hw154_10 HB) (an (cb hw154_11 HB) (an (cb hw156_0 HB) (an (cb hw156_1 HB) (an (cb hw156_2 HB) (an (cb hw156_3 HB) (an (cb hw156_4 HB) (an (cb hw156_5 HB) (an (cb hw156_6 HB) (an (cb hw156_7 HB) (an (cb hw156_8 HB) (an (cb hw156_9 HB) (an (cb hw156_10 HB) (an (cb hw156_11 HB) (an (cb hw157_0 HB) (an (cb hw157_1 HB) (an (cb hw157_2 HB) (an (cb hw157_3 HB) (an (cb hw157_4 HB) (an (cb hw157_5 HB) (an (cb hw157_6 HB) (an (cb hw157_7 HB) (an (cb hw157_8 HB) (an (cb hw157_9 HB) (an (cb hw157_10 HB) (cb hw157_11 HB))))))))))))))))))))))))))))))))))))) (fun hHeld => ?_)
          clear hK K
          refine nm ?_
          refine pu 6 (some 18) (bm 44 127) rfl rfl ?_
          refine pu 7 (some 19) (bm 44 255) rfl rfl ?_
          refine pu 8 (some 20) (bm 44 511) rfl rfl ?_
          refine pu 9 (some 21) (bm 44 1023) rfl rfl ?_
          refine pu 10 (some 22) (bm 44 2047) rfl rfl ?_
          refine pu 11 (some 23) (bm 44 4095) rfl rfl ?_
          refine pu 13 (some 25) (bm 44 12287) rfl rfl ?_
          refine pu 14 (some 26) (bm 44 28671) rfl rfl ?_
          refine pu 18 (some 30) (bm 44 290815) rfl rfl ?_
          refine pu 20 (some 32) (bm 44 1339391) rfl rfl ?_
          refine tk 12 (some 24) (bm 44 1343487) rfl rfl hHeld ?_
          refine pu 15 (some 27) (bm 44 1376255) rfl rfl ?_
          refine pu 16 (some 28) (bm 44 1441791) rfl rfl ?_
          refine tk 17 (some 29) (bm 44 1572863) rfl rfl hHeld ?_
          refine tk 19 (some 31) (bm 44 2097151) rfl rfl hHeld ?_
          refine pu 21 (some 33) (bm 44 4194303) rfl rfl ?_
          refine pu 22 (some 34) (bm 44 8388607) rfl rfl ?_
          refine tk 23 (some 35) (bm 44 16777215) rfl rfl hHeld ?_
          refine pu 24 (some 36) (bm 44 33554431) rfl rfl ?_
          refine pu 25 (some 37) (bm 44 67108863) rfl rfl ?_
          refine pu 26 (some 38) (bm 44 134217727) rfl rfl ?_
          refine pu 27 (some 39) (bm 44 268435455) rfl rfl ?_
          refine pv 28 (some 40) (bm 44 536870911) rfl rfl ?_
          refine pv 29 (some 41) (bm 44 1073741823) rfl rfl ?_
          refine pv 30 (some 42) (bm 44 2147483647) rfl rfl ?_
          refine pv 31 (some 43) (bm 44 4294967295) rfl rfl ?_
          refine pv 32 (some 44) (bm 44 8589934591) rfl rfl ?_
          refine pv 33 (some 45) (bm 44 17179869183) rfl rfl ?_
          refine pv 34 (some 46) (bm 44 34359738367) rfl rfl ?_
          refine pv 35 (some 47) (bm 44 68719476735) rfl rfl ?_
          refine pv 36 (some 48) (bm 44 137438953471) rfl rfl ?_
          refine pv 37 (some 49) (bm 44 274877906943) rfl rfl ?_
          refine pv 38 (some 50) (bm 44 549755813887) rfl rfl ?_
          refine pv 39 (some 51) (bm 44 1099511627775) rfl rfl ?_
          refine pv 40 (some 52) (bm 44 2199023255551) rfl rfl ?_
          refine pv 41 (some 53) (bm 44 4398046511103) rfl rfl ?_
          refine pv 42 (some 54) (bm 44 8796093022207) rfl rfl ?_
          refine pu 43 (some 55) (bm 44 17592186044415) rfl rfl ?_
          refine done_ (done_of HT_.out (by kernel_rfl)) ?_
          try go_wp2
          go_ret
          exact ⟨by first | rfl | (simp [errW_none, errW_some] <;> rfl) | (simp only [← hji8]; first | rfl | (simp [errW_none, errW_some] <;> rfl)) | (simp [*, errW_none, errW_some] <;> rfl) | (simp [errW_none, errW_some]; exact (by intro l_; cases l_ <;> rfl : ∀ l_ : List UInt8, l_.isEmpty = !(l_ != [])) _), zb HB⟩
         ·rw [if_neg c11] at H
          have c11b0 := decide_eq_false c11
          clear c11
          by_cases c15 : a0_0 = true
          ·subst c15
           rw [if_pos rfl] at H
           have H' := Aside0.mk H
           clear H
           obtain ⟨hcz16_0, hcz16_1, hcz16_2, hcz16_3, hcz16_4, hcz16_5, hcz16_6, hcz16_7, hcz16_8, hcz16_9, hcz16_10, hfz16_0, hfz16_1, hfz16_2, hfz16_3, hfz16_4, hfz16_5, hfz16_6, hfz16_7, hfz16_8, hfz16_9, hfz16_10⟩ := c11 BK153
           try go_wp2
           replace BK153 := Aside0.mk (blk_drew BK153.out)
           replace HB := Aside0.mk (below_drew1 HB.out)
           have p154 : 0 ≤ (x3_1 : Int) := of_decide_eq_true za
           have q154 : x3_1 < (l0_6.length : Int) := of_decide_eq_true za
           obtain ⟨ad154, A154_2, c154_2, A154_7, c154_7, e154, hx154_0, hx154_1, hx154_2, hx154_3, hx154_4, hx154_5, hx154_6, hx154_7, hx154_8, hx154_9, hx154_10, hx154_11, hl154_2, hi154_2, hl154_7, hi154_7⟩ := at_T58 HR0_6.out x3_1 p154 q154
           have hw154_11 := hx154_11
           have hw154_10 := hx154_10
           have hw154_9 := hx154_9
           have hw154_8 := hx154_8
           have hw154_7 := hx154_7
           have hw154_6 := hx154_6
           have hw154_5 := hx154_5
           have hw154_4 := hx154_4
           have hw154_3 := hx154_3
           have hw154_2 := hx154_2
           have hw154_1 := hx154_1
           have hw154_0 := hx154_0
           cases e154
           replace hx154_0 := cb0 hx154_0 HB
           replace hx154_1 := cb0 hx154_1 HB
           replace hx154_2 := cb0 hx154_2 HB
           replace hx154_3 := cb0 hx154_3 HB
           replace hx154_4 := cb0 hx154_4 HB
           replace hx154_5 := cb0 hx154_5 HB
           replace hx154_6 := cb0 hx154_6 HB
           replace hx154_7 := cb0 hx154_7 HB
           replace hx154_8 := cb0 hx154_8 HB
           replace hx154_9 := cb0 hx154_9 HB
           replace hx154_10 := cb0 hx154_10 HB
           replace hx154_11 := cb0 hx154_11 HB
           have HR154_2 := Aside0.mk hi154_2
           have HC154_2 := Aside0.mk hl154_2
           clear hi154_2 hl154_2
           have HR154_7 := Aside0.mk hi154_7
           have HC154_7 := Aside0.mk hl154_7
           clear hi154_7 hl154_7
           replace p154 := eq_true p154
           replace q154 := eq_true q154
           have p156 : 0 ≤ ((ji8) : Int) := of_decide_eq_true za
           have q156 : (ji8) < (l0_6.length : Int) := of_decide_eq_true za
           obtain ⟨ad156, A156_2, c156_2, A156_7, c156_7, e156, hx156_0, hx156_1, hx156_2, hx156_3, hx156_4, hx156_5, hx156_6, hx156_7, hx156_8, hx156_9, hx156_10, hx156_11, hl156_2, hi156_2, hl156_7, hi156_7⟩ := at_T58 HR0_6.out (ji8) p156 q156
           have hw156_11 := hx156_11
           have hw156_10 := hx156_10
           have hw156_9 := hx156_9
           have hw156_8 := hx156_8
           have hw156_7 := hx156_7
           have hw156_6 := hx156_6
           have hw156_5 := hx156_5
           have hw156_4 := hx156_4
           have hw156_3 := hx156_3
           have hw156_2 := hx156_2
           have hw156_1 := hx156_1
           have hw156_0 := hx156_0
           obtain rfl : ad154 = ad156 := (by injection e156)
           replace hx156_0 := cb0 hx156_0 HB
           replace hx156_1 := cb0 hx156_1 HB
           replace hx156_2 := cb0 hx156_2 HB
           replace hx156_3 := cb0 hx156_3 HB
           replace hx156_4 := cb0 hx156_4 HB
           replace hx156_5 := cb0 hx156_5 HB
           replace hx156_6 := cb0 hx156_6 HB
           replace hx156_7 := cb0 hx156_7 HB
           replace hx156_8 := cb0 hx156_8 HB
           replace hx156_9 := cb0 hx156_9 HB
           replace hx156_10 := cb0 hx156_10 HB
           replace hx156_11 := cb0 hx156_11 HB
           have HR156_2 := Aside0.mk hi156_2
           have HC156_2 := Aside0.mk hl156_2
           clear hi156_2 hl156_2
           have HR156_7 := Aside0.mk hi156_7
           have HC156_7 := Aside0.mk hl156_7
           clear hi156_7 hl156_7
           replace p156 := eq_true p156
           replace q156 := eq_true q156
           have p157 : 0 ≤ (x3_1 : Int) := of_decide_eq_true za
           have q157 : x3_1 < (l0_6.length : Int) := of_decide_eq_true za
           obtain ⟨ad157, A157_2, c157_2, A157_7, c157_7, e157, hx157_0, hx157_1, hx157_2, hx157_3, hx157_4, hx157_5, hx157_6, hx157_7, hx157_8, hx157_9, hx157_10, hx157_11, hl157_2, hi157_2, hl157_7, hi157_7⟩ := at_T58 HR0_6.out x3_1 p157 q157
           have hw157_11 := hx157_11
           have hw157_10 := hx157_10
           have hw157_9 := hx157_9
           have hw157_8 := hx157_8
           have hw157_7 := hx157_7
           have hw157_6 := hx157_6
           have hw157_5 := hx157_5
           have hw157_4 := hx157_4
           have hw157_3 := hx157_3
           have hw157_2 := hx157_2
           have hw157_1 := hx157_1
           have hw157_0 := hx157_0
           obtain rfl : ad154 = ad157 := (by injection e157)
           replace hx157_0 := cb0 hx157_0 HB
           replace hx157_1 := cb0 hx157_1 HB
           replace hx157_2 := cb0 hx157_2 HB
           replace hx157_3 := cb0 hx157_3 HB
           replace hx157_4 := cb0 hx157_4 HB
           replace hx157_5 := cb0 hx157_5 HB
           replace hx157_6 := cb0 hx157_6 HB
           replace hx157_7 := cb0 hx157_7 HB
           replace hx157_8 := cb0 hx157_8 HB
           replace hx157_9 := cb0 hx157_9 HB
           replace hx157_10 := cb0 hx157_10 HB
           replace hx157_11 := cb0 hx157_11 HB
           have HR157_2 := Aside0.mk hi157_2
           have HC157_2 := Aside0.mk hl157_2
           clear hi157_2 hl157_2
           have HR157_7 := Aside0.mk hi157_7
           have HC157_7 := Aside0.mk hl157_7
           clear hi157_7 hl157_7
           replace p157 := eq_true p157
           replace q157 := eq_true q157
           refine st 44 (an (b11 BK153) (an (cb hw154_0 HB) (an (cb hw154_1 HB) (an (cb hw154_2 HB) (an (cb hw154_3 HB) (an (cb hw154_4 HB) (an (cb hw154_5 HB) (an (cb hw154_6 HB) (an (cb hw154_7 HB) (an (cb hw154_8 HB) (an (cb hw154_9 HB) (an (cb hw154_10 HB) (an (cb hw154_11 HB) (an (cb hw156_0 HB) (an (cb hw156_1 HB) (an (cb hw156_2 HB) (an (cb hw156_3 HB) (an (cb hw156_4 HB) (an (cb hw156_5 HB) (an (cb hw156_6 HB) (an (cb hw156_7 HB) (an (cb hw156_8 HB) (an (cb hw156_9 HB) (an (cb hw156_10 HB) (an (cb hw156_11 HB) (an (cb hw157_0 HB) (an (cb hw157_1 HB) (an (cb hw157_2 HB) (an (cb hw157_3 HB) (an (cb hw157_4 HB) (an (cb hw157_5 HB) (an (cb hw157_6 HB) (an (cb hw157_7 HB) (an (cb hw157_8 HB) (an (cb hw157_9 HB) (an (cb hw157_10 HB) (cb hw157_11 HB))))))))))))))))))))))))))))))))))))) (fun hHeld => ?_); refine with_tabW spec_EndOk.tab4 spec_EndOk.bits4 (fun HT_ HW_ => ?_)
           generalize wr.drew = w17 at BK153 HB HR154_2 HR154_7 HR156_2 HR156_7 HR157_2 HR157_7 hx154_0 hx154_1 hx154_10 hx154_11 hx154_2 hx154_3 hx154_4 hx154_5 hx154_6 hx154_7 hx154_8 hx154_9 hx156_0 hx156_1 hx156_10 hx156_11 hx156_2 hx156_3 hx156_4 hx156_5 hx156_6 hx156_7 hx156_8 hx156_9 hx157_0 hx157_1 hx157_10 hx157_11 hx157_2 hx157_3 hx157_4 hx157_5 hx157_6 hx157_7 hx157_8 hx157_9 hHeld ⊢
           refine pu 0 (some 12) (bm 44 1) rfl rfl ?_
           refine pu 2 (some 14) (bm 44 5) rfl rfl ?_
           refine tk 1 (some 13) (bm 44 7) rfl rfl hHeld ?_
           refine pu 3 (some 15) (bm 44 15) rfl rfl ?_
           refine tk 4 (some 16) (bm 44 31) rfl rfl hHeld ?_
           refine one_ (i := 5) (N := some 17) (bm 44 63) rfl rfl (one_of HT_.out (by kernel_rfl)) (by decide) (fun K hK => ?_)
           refine gs Tryd.func39 #[.agg #[.int .i64 ((rd_T58 l0_6 x3_1).f0), .int .i64 ((rd_T58 l0_6 x3_1).f1), .slice A154_2 ((rd_T58 l0_6 x3_1).f2).length c154_2, .string ((rd_T58 l0_6 x3_1).f3), .bool ((rd_T58 l0_6 x3_1).f4), .bool ((rd_T58 l0_6 x3_1).f5), .int .i64 ((rd_T58 l0_6 x3_1).f6), .slice A154_7 ((rd_T58 l0_6 x3_1).f7).length c154_7, .string ((rd_T58 l0_6 x3_1).f8), .bool ((rd_T58 l0_6 x3_1).f9), .int .i64 ((rd_T58 l0_6 x3_1).f10.f0), .int .i64 ((rd_T58 l0_6 x3_1).f10.f1)]] ?_
           with_reducible refine (spec_l21Stream.calls k1 ((rd_T58 l0_6 x3_1).f0) ((rd_T58 l0_6 x3_1).f1) _ _ ((rd_T58 l0_6 x3_1).f2) ((rd_T58 l0_6 x3_1).f3) ((rd_T58 l0_6 x3_1).f4) ((rd_T58 l0_6 x3_1).f5) ((rd_T58 l0_6 x3_1).f6) _ _ ((rd_T58 l0_6 x3_1).f7) ((rd_T58 l0_6 x3_1).f8) ((rd_T58 l0_6 x3_1).f9) ((rd_T58 l0_6 x3_1).f10.f0) ((rd_T58 l0_6 x3_1).f10.f1) true _ ?side1 ?side2 ?side3 ?side4 A5.out).mono ?_
           (case side1 => exact zc (Kd.C_below HR154_2.out HB.out))
           (case side2 => exact HC154_2.out)
           (case side3 => exact zc (Kd.C_below HR154_7.out HB.out))
           (case side4 => exact HC154_7.out)
           rintro e w18 ⟨rfl, hb⟩
           refine ⟨_, rfl, ?_⟩
           replace BK153 := kb BK153 hb
           replace HB := Aside0.mk (below_step (zb HB) hb)
           (try clear hb)
           refine hK.out _ _ (an (b11 BK153) (an (cb hw154_0 HB) (an (cb hw154_1 HB) (an (cb hw154_2 HB) (an (cb hw154_3 HB) (an (cb hw154_4 HB) (an (cb hw154_5 HB) (an (cb hw154_6 HB) (an (cb hw154_7 HB) (an (cb hw154_8 HB) (an (cb hw154_9 HB) (an (cb hw154_10 HB) (an (cb hw154_11 HB) (an (cb hw156_0 HB) (an (cb hw156_1 HB) (an (cb hw156_2 HB) (an (cb hw156_3 HB) (an (cb hw156_4 HB) (an (cb hw156_5 HB) (an (cb hw156_6 HB) (an (cb hw156_7 HB) (an (cb hw156_8 HB) (an (cb hw156_9 HB) (an (cb hw156_10 HB) (an (cb hw156_11 HB) (an (cb hw157_0 HB) (an (cb hw157_1 HB) (an (cb hw157_2 HB) (an (cb hw157_3 HB) (an (cb hw157_4 HB) (an (cb hw157_5 HB) (an (cb hw157_6 HB) (an (cb hw157_7 HB) (an (cb hw157_8 HB) (an (cb hw157_9 HB) (an (cb hw157_10 HB) (cb hw157_11 HB))))))))))))))))))))))))))))))))))))) (fun hHeld => ?_)
           clear hK K
           refine nm ?_
           refine pu 6 (some 18) (bm 44 127) rfl rfl ?_
           refine pu 7 (some 19) (bm 44 255) rfl rfl ?_
           refine pu 8 (some 20) (bm 44 511) rfl rfl ?_
           refine pu 9 (some 21) (bm 44 1023) rfl rfl ?_
           refine pu 10 (some 22) (bm 44 2047) rfl rfl ?_
           refine pu 11 (some 23) (bm 44 4095) rfl rfl ?_
           refine pu 13 (some 25) (bm 44 12287) rfl rfl ?_
           refine pu 14 (some 26) (bm 44 28671) rfl rfl ?_
           refine pu 18 (some 30) (bm 44 290815) rfl rfl ?_
           refine pu 20 (some 32) (bm 44 1339391) rfl rfl ?_
           refine tk 12 (some 24) (bm 44 1343487) rfl rfl hHeld ?_
           refine pu 15 (some 27) (bm 44 1376255) rfl rfl ?_
           refine pu 16 (some 28) (bm 44 1441791) rfl rfl ?_
           refine tk 17 (some 29) (bm 44 1572863) rfl rfl hHeld ?_
           refine tk 19 (some 31) (bm 44 2097151) rfl rfl hHeld ?_
           refine pu 21 (some 33) (bm 44 4194303) rfl rfl ?_
           refine pu 22 (some 34) (bm 44 8388607) rfl rfl ?_
           refine tk 23 (some 35) (bm 44 16777215) rfl rfl hHeld ?_
           refine pu 24 (some 36) (bm 44 33554431) rfl rfl ?_
           refine pu 25 (some 37) (bm 44 67108863) rfl rfl ?_
           refine pu 26 (some 38) (bm 44 134217727) rfl rfl ?_
           refine pu 27 (some 39) (bm 44 268435455) rfl rfl ?_
           refine pu 28 (some 40) (bm 44 536870911) rfl rfl ?_
           refine tk 29 (some 41) (bm 44 1073741823) rfl rfl hHeld ?_
           refine pu 30 (some 42) (bm 44 2147483647) rfl rfl ?_
           refine pu 31 (some 43) (bm 44 4294967295) rfl rfl ?_
           refine pv 32 (some 44) (bm 44 8589934591) rfl rfl ?_
           refine pv 33 (some 45) (bm 44 17179869183) rfl rfl ?_
           refine pv 34 (some 46) (bm 44 34359738367) rfl rfl ?_
           refine pv 35 (some 47) (bm 44 68719476735) rfl rfl ?_
           refine pv 36 (some 48) (bm 44 137438953471) rfl rfl ?_
           refine pv 37 (some 49) (bm 44 274877906943) rfl rfl ?_
           refine pv 38 (some 50) (bm 44 549755813887) rfl rfl ?_
           refine pv 39 (some 51) (bm 44 1099511627775) rfl rfl ?_
           refine pv 40 (some 52) (bm 44 2199023255551) rfl rfl ?_
           refine pv 41 (some 53) (bm 44 4398046511103) rfl rfl ?_
           refine pu 42 (some 54) (bm 44 8796093022207) rfl rfl ?_
           refine pu 43 (some 55) (bm 44 17592186044415) rfl rfl ?_
           refine done_ (done_of HT_.out (by kernel_rfl)) ?_
           try go_wp2
           go_roundg k1
           case measure => have := HK1.out; omega
           case rel => exact ⟨(wrap64 (x3_1 + 1)), zs, H', ⟨by have := HK1.out; omega⟩, ⟨by exact zk BK153⟩, ⟨zb HB⟩⟩
          ·replace c15 := Bool.eq_false_iff.mpr c15
           subst c15
           rw [if_neg (show ¬ (false = true) by decide)] at H
           have HC19 := Aside0.mk H
           clear H
           obtain ⟨hcz20_0, hcz20_1, hcz20_2, hcz20_3, hcz20_4, hcz20_5, hcz20_6, hcz20_7, hcz20_8, hcz20_9, hcz20_10, hfz20_0, hfz20_1, hfz20_2, hfz20_3, hfz20_4, hfz20_5, hfz20_6, hfz20_7, hfz20_8, hfz20_9, hfz20_10⟩ := c11 BK153
           try go_wp2
           replace BK153 := Aside0.mk (blk_drew BK153.out)
           replace HB := Aside0.mk (below_drew1 HB.out)
           have p154 : 0 ≤ (x3_1 : Int) := of_decide_eq_true za
           have q154 : x3_1 < (l0_6.length : Int) := of_decide_eq_true za
           obtain ⟨ad154, A154_2, c154_2, A154_7, c154_7, e154, hx154_0, hx154_1, hx154_2, hx154_3, hx154_4, hx154_5, hx154_6, hx154_7, hx154_8, hx154_9, hx154_10, hx154_11, hl154_2, hi154_2, hl154_7, hi154_7⟩ := at_T58 HR0_6.out x3_1 p154 q154
           have hw154_11 := hx154_11
           have hw154_10 := hx154_10
           have hw154_9 := hx154_9
           have hw154_8 := hx154_8
           have hw154_7 := hx154_7
           have hw154_6 := hx154_6
           have hw154_5 := hx154_5
           have hw154_4 := hx154_4
           have hw154_3 := hx154_3
           have hw154_2 := hx154_2
           have hw154_1 := hx154_1
           have hw154_0 := hx154_0
           cases e154
           replace hx154_0 := cb0 hx154_0 HB
           replace hx154_1 := cb0 hx154_1 HB
           replace hx154_2 := cb0 hx154_2 HB
           replace hx154_3 := cb0 hx154_3 HB
           replace hx154_4 := cb0 hx154_4 HB
           replace hx154_5 := cb0 hx154_5 HB
           replace hx154_6 := cb0 hx154_6 HB
           replace hx154_7 := cb0 hx154_7 HB
           replace hx154_8 := cb0 hx154_8 HB
           replace hx154_9 := cb0 hx154_9 HB
           replace hx154_10 := cb0 hx154_10 HB
           replace hx154_11 := cb0 hx154_11 HB
           have HR154_2 := Aside0.mk hi154_2
           have HC154_2 := Aside0.mk hl154_2
           clear hi154_2 hl154_2
           have HR154_7 := Aside0.mk hi154_7
           have HC154_7 := Aside0.mk hl154_7
           clear hi154_7 hl154_7
           replace p154 := eq_true p154
           replace q154 := eq_true q154
           have p156 : 0 ≤ ((ji8) : Int) := of_decide_eq_true za
           have q156 : (ji8) < (l0_6.length : Int) := of_decide_eq_true za
           obtain ⟨ad156, A156_2, c156_2, A156_7, c156_7, e156, hx156_0, hx156_1, hx156_2, hx156_3, hx156_4, hx156_5, hx156_6, hx156_7, hx156_8, hx156_9, hx156_10, hx156_11, hl156_2, hi156_2, hl156_7, hi156_7⟩ := at_T58 HR0_6.out (ji8) p156 q156
           have hw156_11 := hx156_11
           have hw156_10 := hx156_10
           have hw156_9 := hx156_9
           have hw156_8 := hx156_8
           have hw156_7 := hx156_7
           have hw156_6 := hx156_6
           have hw156_5 := hx156_5
           have hw156_4 := hx156_4
           have hw156_3 := hx156_3
           have hw156_2 := hx156_2
           have hw156_1 := hx156_1
           have hw156_0 := hx156_0
           obtain rfl : ad154 = ad156 := (by injection e156)
           replace hx156_0 := cb0 hx156_0 HB
           replace hx156_1 := cb0 hx156_1 HB
           replace hx156_2 := cb0 hx156_2 HB
           replace hx156_3 := cb0 hx156_3 HB
           replace hx156_4 := cb0 hx156_4 HB
           replace hx156_5 := cb0 hx156_5 HB
           replace hx156_6 := cb0 hx156_6 HB
           replace hx156_7 := cb0 hx156_7 HB
           replace hx156_8 := cb0 hx156_8 HB
           replace hx156_9 := cb0 hx156_9 HB
           replace hx156_10 := cb0 hx156_10 HB
           replace hx156_11 := cb0 hx156_11 HB
           have HR156_2 := Aside0.mk hi156_2
           have HC156_2 := Aside0.mk hl156_2
           clear hi156_2 hl156_2
           have HR156_7 := Aside0.mk hi156_7
           have HC156_7 := Aside0.mk hl156_7
           clear hi156_7 hl156_7
           replace p156 := eq_true p156
           replace q156 := eq_true q156
           have p157 : 0 ≤ (x3_1 : Int) := of_decide_eq_true za
           have q157 : x3_1 < (l0_6.length : Int) := of_decide_eq_true za
           obtain ⟨ad157, A157_2, c157_2, A157_7, c157_7, e157, hx157_0, hx157_1, hx157_2, hx157_3, hx157_4, hx157_5, hx157_6, hx157_7, hx157_8, hx157_9, hx157_10, hx157_11, hl157_2, hi157_2, hl157_7, hi157_7⟩ := at_T58 HR0_6.out x3_1 p157 q157
           have hw157_11 := hx157_11
           have hw157_10 := hx157_10
           have hw157_9 := hx157_9
           have hw157_8 := hx157_8
           have hw157_7 := hx157_7
           have hw157_6 := hx157_6
           have hw157_5 := hx157_5
           have hw157_4 := hx157_4
           have hw157_3 := hx157_3
           have hw157_2 := hx157_2
           have hw157_1 := hx157_1
           have hw157_0 := hx157_0
           obtain rfl : ad154 = ad157 := (by injection e157)
           replace hx157_0 := cb0 hx157_0 HB
           replace hx157_1 := cb0 hx157_1 HB
           replace hx157_2 := cb0 hx157_2 HB
           replace hx157_3 := cb0 hx157_3 HB
           replace hx157_4 := cb0 hx157_4 HB
           replace hx157_5 := cb0 hx157_5 HB
           replace hx157_6 := cb0 hx157_6 HB
           replace hx157_7 := cb0 hx157_7 HB
           replace hx157_8 := cb0 hx157_8 HB
           replace hx157_9 := cb0 hx157_9 HB
           replace hx157_10 := cb0 hx157_10 HB
           replace hx157_11 := cb0 hx157_11 HB
           have HR157_2 := Aside0.mk hi157_2
           have HC157_2 := Aside0.mk hl157_2
           clear hi157_2 hl157_2
           have HR157_7 := Aside0.mk hi157_7
           have HC157_7 := Aside0.mk hl157_7
           clear hi157_7 hl157_7
           replace p157 := eq_true p157
           replace q157 := eq_true q157
           have p158 : 0 ≤ (x3_1 : Int) := of_decide_eq_true za
           have q158 : x3_1 < (l0_6.length : Int) := of_decide_eq_true za
           obtain ⟨ad158, A158_2, c158_2, A158_7, c158_7, e158, hx158_0, hx158_1, hx158_2, hx158_3, hx158_4, hx158_5, hx158_6, hx158_7, hx158_8, hx158_9, hx158_10, hx158_11, hl158_2, hi158_2, hl158_7, hi158_7⟩ := at_T58 HR0_6.out x3_1 p158 q158
           have hw158_11 := hx158_11
           have hw158_10 := hx158_10
           have hw158_9 := hx158_9
           have hw158_8 := hx158_8
           have hw158_7 := hx158_7
           have hw158_6 := hx158_6
           have hw158_5 := hx158_5
           have hw158_4 := hx158_4
           have hw158_3 := hx158_3
           have hw158_2 := hx158_2
           have hw158_1 := hx158_1
           have hw158_0 := hx158_0
           obtain rfl : ad154 = ad158 := (by injection e158)
           replace hx158_0 := cb0 hx158_0 HB
           replace hx158_1 := cb0 hx158_1 HB
           replace hx158_2 := cb0 hx158_2 HB
           replace hx158_3 := cb0 hx158_3 HB
           replace hx158_4 := cb0 hx158_4 HB
           replace hx158_5 := cb0 hx158_5 HB
           replace hx158_6 := cb0 hx158_6 HB
           replace hx158_7 := cb0 hx158_7 HB
           replace hx158_8 := cb0 hx158_8 HB
           replace hx158_9 := cb0 hx158_9 HB
           replace hx158_10 := cb0 hx158_10 HB
           replace hx158_11 := cb0 hx158_11 HB
           have HR158_2 := Aside0.mk hi158_2
           have HC158_2 := Aside0.mk hl158_2
           clear hi158_2 hl158_2
           have HR158_7 := Aside0.mk hi158_7
           have HC158_7 := Aside0.mk hl158_7
           clear hi158_7 hl158_7
           replace p158 := eq_true p158
           replace q158 := eq_true q158
           have ea_ := Option.some.inj (hx157_2.symm.trans hx158_2)
           injection ea_ with ea_ en_ ec_
           subst ea_
           subst ec_
           clear en_
           have ea_ := Option.some.inj (hx157_7.symm.trans hx158_7)
           injection ea_ with ea_ en_ ec_
           subst ea_
           subst ec_
           clear en_
           refine st 44 (an (b11 BK153) (an (cb hw154_0 HB) (an (cb hw154_1 HB) (an (cb hw154_2 HB) (an (cb hw154_3 HB) (an (cb hw154_4 HB) (an (cb hw154_5 HB) (an (cb hw154_6 HB) (an (cb hw154_7 HB) (an (cb hw154_8 HB) (an (cb hw154_9 HB) (an (cb hw154_10 HB) (an (cb hw154_11 HB) (an (cb hw156_0 HB) (an (cb hw156_1 HB) (an (cb hw156_2 HB) (an (cb hw156_3 HB) (an (cb hw156_4 HB) (an (cb hw156_5 HB) (an (cb hw156_6 HB) (an (cb hw156_7 HB) (an (cb hw156_8 HB) (an (cb hw156_9 HB) (an (cb hw156_10 HB) (an (cb hw156_11 HB) (an (cb hw157_0 HB) (an (cb hw157_1 HB) (an (cb hw157_2 HB) (an (cb hw157_3 HB) (an (cb hw157_4 HB) (an (cb hw157_5 HB) (an (cb hw157_6 HB) (an (cb hw157_7 HB) (an (cb hw157_8 HB) (an (cb hw157_9 HB) (an (cb hw157_10 HB) (an (cb hw157_11 HB) (an (cb hw158_0 HB) (an (cb hw158_1 HB) (an (cb hw158_2 HB) (an (cb hw158_3 HB) (an (cb hw158_4 HB) (an (cb hw158_5 HB) (an (cb hw158_6 HB) (an (cb hw158_7 HB) (an (cb hw158_8 HB) (an (cb hw158_9 HB) (an (cb hw158_10 HB) (cb hw158_11 HB))))))))))))))))))))))))))))))))))))))))))))))))) (fun hHeld => ?_); refine with_tabW spec_EndOk.tab4 spec_EndOk.bits4 (fun HT_ HW_ => ?_)
           generalize wr.drew = w21 at BK153 HB HR154_2 HR154_7 HR156_2 HR156_7 HR157_2 HR157_7 HR158_2 HR158_7 hx154_0 hx154_1 hx154_10 hx154_11 hx154_2 hx154_3 hx154_4 hx154_5 hx154_6 hx154_7 hx154_8 hx154_9 hx156_0 hx156_1 hx156_10 hx156_11 hx156_2 hx156_3 hx156_4 hx156_5 hx156_6 hx156_7 hx156_8 hx156_9 hx157_0 hx157_1 hx157_10 hx157_11 hx157_2 hx157_3 hx157_4 hx157_5 hx157_6 hx157_7 hx157_8 hx157_9 hx158_0 hx158_1 hx158_10 hx158_11 hx158_2 hx158_3 hx158_4 hx158_5 hx158_6 hx158_7 hx158_8 hx158_9 hHeld ⊢
           refine pu 0 (some 12) (bm 44 1) rfl rfl ?_
           refine pu 2 (some 14) (bm 44 5) rfl rfl ?_
           refine tk 1 (some 13) (bm 44 7) rfl rfl hHeld ?_
           refine pu 3 (some 15) (bm 44 15) rfl rfl ?_
           refine tk 4 (some 16) (bm 44 31) rfl rfl hHeld ?_
           refine one_ (i := 5) (N := some 17) (bm 44 63) rfl rfl (one_of HT_.out (by kernel_rfl)) (by decide) (fun K hK => ?_)
           refine gs Tryd.func39 #[.agg #[.int .i64 ((rd_T58 l0_6 x3_1).f0), .int .i64 ((rd_T58 l0_6 x3_1).f1), .slice A154_2 ((rd_T58 l0_6 x3_1).f2).length c154_2, .string ((rd_T58 l0_6 x3_1).f3), .bool ((rd_T58 l0_6 x3_1).f4), .bool ((rd_T58 l0_6 x3_1).f5), .int .i64 ((rd_T58 l0_6 x3_1).f6), .slice A154_7 ((rd_T58 l0_6 x3_1).f7).length c154_7, .string ((rd_T58 l0_6 x3_1).f8), .bool ((rd_T58 l0_6 x3_1).f9), .int .i64 ((rd_T58 l0_6 x3_1).f10.f0), .int .i64 ((rd_T58 l0_6 x3_1).f10.f1)]] ?_
           with_reducible refine (spec_l21Stream.calls k1 ((rd_T58 l0_6 x3_1).f0) ((rd_T58 l0_6 x3_1).f1) _ _ ((rd_T58 l0_6 x3_1).f2) ((rd_T58 l0_6 x3_1).f3) ((rd_T58 l0_6 x3_1).f4) ((rd_T58 l0_6 x3_1).f5) ((rd_T58 l0_6 x3_1).f6) _ _ ((rd_T58 l0_6 x3_1).f7) ((rd_T58 l0_6 x3_1).f8) ((rd_T58 l0_6 x3_1).f9) ((rd_T58 l0_6 x3_1).f10.f0) ((rd_T58 l0_6 x3_1).f10.f1) true _ ?side1 ?side2 ?side3 ?side4 A5.out).mono ?_
           (case side1 => exact zc (Kd.C_below HR154_2.out HB.out))
           (case side2 => exact HC154_2.out)
           (case side3 => exact zc (Kd.C_below HR154_7.out HB.out))
           (case side4 => exact HC154_7.out)
           rintro e w22 ⟨rfl, hb⟩
           refine ⟨_, rfl, ?_⟩
           replace BK153 := kb BK153 hb
           replace HB := Aside0.mk (below_step (zb HB) hb)
           (try clear hb)
           refine hK.out _ _ (an (b11 BK153) (an (cb hw154_0 HB) (an (cb hw154_1 HB) (an (cb hw154_2 HB) (an (cb hw154_3 HB) (an (cb hw154_4 HB) (an (cb hw154_5 HB) (an (cb hw154_6 HB) (an (cb hw154_7 HB) (an (cb hw154_8 HB) (an (cb hw154_9 HB) (an (cb hw154_10 HB) (an (cb hw154_11 HB) (an (cb hw156_0 HB) (an (cb hw156_1 HB) (an (cb hw156_2 HB) (an (cb hw156_3 HB) (an (cb hw156_4 HB) (an (cb hw156_5 HB) (an (cb hw156_6 HB) (an (cb hw156_7 HB) (an (cb hw156_8 HB) (an (cb hw156_9 HB) (an (cb hw156_10 HB) (an (cb hw156_11 HB) (an (cb hw157_0 HB) (an (cb hw157_1 HB) (an (cb hw157_2 HB) (an (cb hw157_3 HB) (an (cb hw157_4 HB) (an (cb hw157_5 HB) (an (cb hw157_6 HB) (an (cb hw157_7 HB) (an (cb hw157_8 HB) (an (cb hw157_9 HB) (an (cb hw157_10 HB) (an (cb hw157_11 HB) (an (cb hw158_0 HB) (an (cb hw158_1 HB) (an (cb hw158_2 HB) (an (cb hw158_3 HB) (an (cb hw158_4 HB) (an (cb hw158_5 HB) (an (cb hw158_6 HB) (an (cb hw158_7 HB) (an (cb hw158_8 HB) (an (cb hw158_9 HB) (an (cb hw158_10 HB) (cb hw158_11 HB))))))))))))))))))))))))))))))))))))))))))))))))) (fun hHeld => ?_)
           clear hK K
           refine nm ?_
           refine pu 6 (some 18) (bm 44 127) rfl rfl ?_
           refine pu 7 (some 19) (bm 44 255) rfl rfl ?_
           refine pu 8 (some 20) (bm 44 511) rfl rfl ?_
           refine pu 9 (some 21) (bm 44 1023) rfl rfl ?_
           refine pu 10 (some 22) (bm 44 2047) rfl rfl ?_
           refine pu 11 (some 23) (bm 44 4095) rfl rfl ?_
           refine pu 13 (some 25) (bm 44 12287) rfl rfl ?_
           refine pu 14 (some 26) (bm 44 28671) rfl rfl ?_
           refine pu 18 (some 30) (bm 44 290815) rfl rfl ?_
           refine pu 20 (some 32) (bm 44 1339391) rfl rfl ?_
           refine tk 12 (some 24) (bm 44 1343487) rfl rfl hHeld ?_
           refine pu 15 (some 27) (bm 44 1376255) rfl rfl ?_
           refine pu 16 (some 28) (bm 44 1441791) rfl rfl ?_
           refine tk 17 (some 29) (bm 44 1572863) rfl rfl hHeld ?_
           refine tk 19 (some 31) (bm 44 2097151) rfl rfl hHeld ?_
           refine pu 21 (some 33) (bm 44 4194303) rfl rfl ?_
           refine pu 22 (some 34) (bm 44 8388607) rfl rfl ?_
           refine tk 23 (some 35) (bm 44 16777215) rfl rfl hHeld ?_
           refine pu 24 (some 36) (bm 44 33554431) rfl rfl ?_
           refine pu 25 (some 37) (bm 44 67108863) rfl rfl ?_
           refine pu 26 (some 38) (bm 44 134217727) rfl rfl ?_
           refine pu 27 (some 39) (bm 44 268435455) rfl rfl ?_
           refine pu 28 (some 40) (bm 44 536870911) rfl rfl ?_
           refine tk 29 (some 41) (bm 44 1073741823) rfl rfl hHeld ?_
           refine pu 30 (some 42) (bm 44 2147483647) rfl rfl ?_
           refine pu 31 (some 43) (bm 44 4294967295) rfl rfl ?_
           refine pu 32 (some 44) (bm 44 8589934591) rfl rfl ?_
           refine pu 34 (some 46) (bm 44 25769803775) rfl rfl ?_
           refine pu 38 (some 50) (bm 44 300647710719) rfl rfl ?_
           refine pu 39 (some 51) (bm 44 850403524607) rfl rfl ?_
           refine pu 40 (some 52) (bm 44 1949915152383) rfl rfl ?_
           refine tk 33 (some 45) (bm 44 1958505086975) rfl rfl hHeld ?_
           refine pu 35 (some 47) (bm 44 1992864825343) rfl rfl ?_
           refine pu 36 (some 48) (bm 44 2061584302079) rfl rfl ?_
           refine tk 37 (some 49) (bm 44 2199023255551) rfl rfl hHeld ?_
           refine pu 41 (some 53) (bm 44 4398046511103) rfl rfl ?_
           refine pu 42 (some 54) (bm 44 8796093022207) rfl rfl ?_
           refine pu 43 (some 55) (bm 44 17592186044415) rfl rfl ?_
           refine done_ (done_of HT_.out (by kernel_rfl)) ?_
           go_upto_if 55 with (fail)
           have H := HC19.out
           clear HC19
           by_cases c23 : ((rd_T58 l0_6 x3_1).f0) = (wrap64 ((wrap64 (2 * x3_1)) + 1))
           ·rw [if_pos c23] at H
            have c23b0 : (((rd_T58 l0_6 x3_1).f0) == (wrap64 ((wrap64 (2 * x3_1)) + 1))) = true := beq_iff_eq.mpr c23
            have c23b1 : (((rd_T58 l0_6 x3_1).f0) != (wrap64 ((wrap64 (2 * x3_1)) + 1))) = false := bne_eq_false_iff_eq.mpr c23
            clear c23
            (first | rw [c23b0] | rw [c23b1] | rw [c23b2] | (simp only [i64_w, i32_w]; rw [c23b0]) | skip)
            have H' := Aside0.mk H
            clear H
            go_wp2
            go_roundg k1
            case measure => have := HK1.out; omega
            case rel => exact ⟨(wrap64 (x3_1 + 1)), zs, H', ⟨by have := HK1.out; omega⟩, ⟨by exact zk BK153⟩, ⟨zb HB⟩⟩
           ·rw [if_neg c23] at H
            have c23b0 : (((rd_T58 l0_6 x3_1).f0) == (wrap64 ((wrap64 (2 * x3_1)) + 1))) = false := beq_eq_false_iff_ne.mpr c23
            have c23b1 : (((rd_T58 l0_6 x3_1).f0) != (wrap64 ((wrap64 (2 * x3_1)) + 1))) = true := bne_iff_ne.mpr c23
            (first | rw [c23b0] | rw [c23b1] | rw [c23b2] | (simp only [i64_w, i32_w]; rw [c23b0]) | skip)
            obtain rfl := Option.some.inj H
            go_wp2
            go_ret
            exact ⟨by first | rfl | (simp [errW_none, errW_some] <;> rfl) | (simp only [← hji8]; first | rfl | (simp [errW_none, errW_some] <;> rfl)) | (simp [*, errW_none, errW_some] <;> rfl) | (simp [errW_none, errW_some]; exact (by intro l_; cases l_ <;> rfl : ∀ l_ : List UInt8, l_.isEmpty = !(l_ != [])) _), zb HB⟩
        ·rw [if_neg c10] at H
         exact absurd H (by simp)
       ·rw [if_neg c9] at H
        exact absurd H (by simp)
      ·rw [if_neg c7] at H
       have c7b0 := decide_eq_false c7
       clear c7
       by_cases c24 : a0_0 = true
       ·subst c24
        rw [if_pos rfl] at H
        have H' := Aside0.mk H
        clear H
        obtain ⟨hcz25_0, hcz25_1, hcz25_2, hcz25_3, hcz25_4, hcz25_5, hcz25_6, hcz25_7, hcz25_8, hcz25_9, hcz25_10, hfz25_0, hfz25_1, hfz25_2, hfz25_3, hfz25_4, hfz25_5, hfz25_6, hfz25_7, hfz25_8, hfz25_9, hfz25_10⟩ := c11 BK153
        try go_wp2
        replace BK153 := Aside0.mk (blk_drew BK153.out)
        replace HB := Aside0.mk (below_drew1 HB.out)
        have p154 : 0 ≤ (x3_1 : Int) := of_decide_eq_true za
        have q154 : x3_1 < (l0_6.length : Int) := of_decide_eq_true za
        try clear hHeld
        try clear hx157_2
        try clear hx157_7
        try clear hx158_2
        try clear hx158_7
        obtain ⟨ad154, A154_2, c154_2, A154_7, c154_7, e154, hx154_0, hx154_1, hx154_2, hx154_3, hx154_4, hx154_5, hx154_6, hx154_7, hx154_8, hx154_9, hx154_10, hx154_11, hl154_2, hi154_2, hl154_7, hi154_7⟩ := at_T58 HR0_6.out x3_1 p154 q154
        have hw154_11 := hx154_11
        have hw154_10 := hx154_10
        have hw154_9 := hx154_9
        have hw154_8 := hx154_8
        have hw154_7 := hx154_7
        have hw154_6 := hx154_6
        have hw154_5 := hx154_5
        have hw154_4 := hx154_4
        have hw154_3 := hx154_3
        have hw154_2 := hx154_2
        have hw154_1 := hx154_1
        have hw154_0 := hx154_0
        cases e154
        replace hx154_0 := cb0 hx154_0 HB
        replace hx154_1 := cb0 hx154_1 HB
        replace hx154_2 := cb0 hx154_2 HB
        replace hx154_3 := cb0 hx154_3 HB
        replace hx154_4 := cb0 hx154_4 HB
        replace hx154_5 := cb0 hx154_5 HB
        replace hx154_6 := cb0 hx154_6 HB
        replace hx154_7 := cb0 hx154_7 HB
        replace hx154_8 := cb0 hx154_8 HB
        replace hx154_9 := cb0 hx154_9 HB
        replace hx154_10 := cb0 hx154_10 HB
        replace hx154_11 := cb0 hx154_11 HB
        have HR154_2 := Aside0.mk hi154_2
        have HC154_2 := Aside0.mk hl154_2
        clear hi154_2 hl154_2
        have HR154_7 := Aside0.mk hi154_7
        have HC154_7 := Aside0.mk hl154_7
        clear hi154_7 hl154_7
        replace p154 := eq_true p154
        replace q154 := eq_true q154
        refine st 44 (an (b11 BK153) (an (cb hw154_0 HB) (an (cb hw154_1 HB) (an (cb hw154_2 HB) (an (cb hw154_3 HB) (an (cb hw154_4 HB) (an (cb hw154_5 HB) (an (cb hw154_6 HB) (an (cb hw154_7 HB) (an (cb hw154_8 HB) (an (cb hw154_9 HB) (an (cb hw154_10 HB) (cb hw154_11 HB))))))))))))) (fun hHeld => ?_); refine with_tabW spec_EndOk.tab4 spec_EndOk.bits4 (fun HT_ HW_ => ?_)
        generalize wr.drew = w26 at BK153 HB HR154_2 HR154_7 hx154_0 hx154_1 hx154_10 hx154_11 hx154_2 hx154_3 hx154_4 hx154_5 hx154_6 hx154_7 hx154_8 hx154_9 hHeld ⊢
        refine pu 0 (some 12) (bm 44 1) rfl rfl ?_
        refine pu 2 (some 14) (bm 44 5) rfl rfl ?_
        refine tk 1 (some 13) (bm 44 7) rfl rfl hHeld ?_
        refine pu 3 (some 15) (bm 44 15) rfl rfl ?_
        refine tk 4 (some 16) (bm 44 31) rfl rfl hHeld ?_
        refine one_ (i := 5) (N := some 17) (bm 44 63) rfl rfl (one_of HT_.out (by kernel_rfl)) (by decide) (fun K hK => ?_)
        refine gs Tryd.func39 #[.agg #[.int .i64 ((rd_T58 l0_6 x3_1).f0), .int .i64 ((rd_T58 l0_6 x3_1).f1), .slice A154_2 ((rd_T58 l0_6 x3_1).f2).length c154_2, .string ((rd_T58 l0_6 x3_1).f3), .bool ((rd_T58 l0_6 x3_1).f4), .bool ((rd_T58 l0_6 x3_1).f5), .int .i64 ((rd_T58 l0_6 x3_1).f6), .slice A154_7 ((rd_T58 l0_6 x3_1).f7).length c154_7, .string ((rd_T58 l0_6 x3_1).f8), .bool ((rd_T58 l0_6 x3_1).f9), .int .i64 ((rd_T58 l0_6 x3_1).f10.f0), .int .i64 ((rd_T58 l0_6 x3_1).f10.f1)]] ?_
        with_reducible refine (spec_l21Stream.calls k1 ((rd_T58 l0_6 x3_1).f0) ((rd_T58 l0_6 x3_1).f1) _ _ ((rd_T58 l0_6 x3_1).f2) ((rd_T58 l0_6 x3_1).f3) ((rd_T58 l0_6 x3_1).f4) ((rd_T58 l0_6 x3_1).f5) ((rd_T58 l0_6 x3_1).f6) _ _ ((rd_T58 l0_6 x3_1).f7) ((rd_T58 l0_6 x3_1).f8) ((rd_T58 l0_6 x3_1).f9) ((rd_T58 l0_6 x3_1).f10.f0) ((rd_T58 l0_6 x3_1).f10.f1) true _ ?side1 ?side2 ?side3 ?side4 A5.out).mono ?_
        (case side1 => exact zc (Kd.C_below HR154_2.out HB.out))
        (case side2 => exact HC154_2.out)
        (case side3 => exact zc (Kd.C_below HR154_7.out HB.out))
        (case side4 => exact HC154_7.out)
        rintro e w27 ⟨rfl, hb⟩
        refine ⟨_, rfl, ?_⟩
        replace BK153 := kb BK153 hb
        replace HB := Aside0.mk (below_step (zb HB) hb)
        (try clear hb)
        refine hK.out _ _ (an (b11 BK153) (an (cb hw154_0 HB) (an (cb hw154_1 HB) (an (cb hw154_2 HB) (an (cb hw154_3 HB) (an (cb hw154_4 HB) (an (cb hw154_5 HB) (an (cb hw154_6 HB) (an (cb hw154_7 HB) (an (cb hw154_8 HB) (an (cb hw154_9 HB) (an (cb hw154_10 HB) (cb hw154_11 HB))))))))))))) (fun hHeld => ?_)
        clear hK K
        refine nm ?_
        refine pu 6 (some 18) (bm 44 127) rfl rfl ?_
        refine pu 7 (some 19) (bm 44 255) rfl rfl ?_
        refine pu 8 (some 20) (bm 44 511) rfl rfl ?_
        refine pu 9 (some 21) (bm 44 1023) rfl rfl ?_
        refine pu 10 (some 22) (bm 44 2047) rfl rfl ?_
        refine pv 11 (some 23) (bm 44 4095) rfl rfl ?_
        refine pv 12 (some 24) (bm 44 8191) rfl rfl ?_
        refine pv 13 (some 25) (bm 44 16383) rfl rfl ?_
        refine pv 14 (some 26) (bm 44 32767) rfl rfl ?_
        refine pv 15 (some 27) (bm 44 65535) rfl rfl ?_
        refine pv 16 (some 28) (bm 44 131071) rfl rfl ?_
        refine pv 17 (some 29) (bm 44 262143) rfl rfl ?_
        refine pv 18 (some 30) (bm 44 524287) rfl rfl ?_
        refine pv 19 (some 31) (bm 44 1048575) rfl rfl ?_
        refine pv 20 (some 32) (bm 44 2097151) rfl rfl ?_
        refine pv 21 (some 33) (bm 44 4194303) rfl rfl ?_
        refine pv 22 (some 34) (bm 44 8388607) rfl rfl ?_
        refine pv 23 (some 35) (bm 44 16777215) rfl rfl ?_
        refine pv 24 (some 36) (bm 44 33554431) rfl rfl ?_
        refine pu 25 (some 37) (bm 44 67108863) rfl rfl ?_
        refine pu 26 (some 38) (bm 44 134217727) rfl rfl ?_
        refine pu 27 (some 39) (bm 44 268435455) rfl rfl ?_
        refine pu 28 (some 40) (bm 44 536870911) rfl rfl ?_
        refine tk 29 (some 41) (bm 44 1073741823) rfl rfl hHeld ?_
        refine pu 30 (some 42) (bm 44 2147483647) rfl rfl ?_
        refine pu 31 (some 43) (bm 44 4294967295) rfl rfl ?_
        refine pv 32 (some 44) (bm 44 8589934591) rfl rfl ?_
        refine pv 33 (some 45) (bm 44 17179869183) rfl rfl ?_
        refine pv 34 (some 46) (bm 44 34359738367) rfl rfl ?_
        refine pv 35 (some 47) (bm 44 68719476735) rfl rfl ?_
        refine pv 36 (some 48) (bm 44 137438953471) rfl rfl ?_
        refine pv 37 (some 49) (bm 44 274877906943) rfl rfl ?_
        refine pv 38 (some 50) (bm 44 549755813887) rfl rfl ?_
        refine pv 39 (some 51) (bm 44 1099511627775) rfl rfl ?_
        refine pv 40 (some 52) (bm 44 2199023255551) rfl rfl ?_
        refine pv 41 (some 53) (bm 44 4398046511103) rfl rfl ?_
        refine pu 42 (some 54) (bm 44 8796093022207) rfl rfl ?_
        refine pu 43 (some 55) (bm 44 17592186044415) rfl rfl ?_
        refine done_ (done_of HT_.out (by kernel_rfl)) ?_
        try go_wp2
        go_roundg k1
        case measure => have := HK1.out; omega
        case rel => exact ⟨(wrap64 (x3_1 + 1)), zs, H', ⟨by have := HK1.out; omega⟩, ⟨by exact zk BK153⟩, ⟨zb HB⟩⟩
       ·replace c24 := Bool.eq_false_iff.mpr c24
        subst c24
        rw [if_neg (show ¬ (false = true) by decide)] at H
        have HC28 := Aside0.mk H
        clear H
        obtain ⟨hcz29_0, hcz29_1, hcz29_2, hcz29_3, hcz29_4, hcz29_5, hcz29_6, hcz29_7, hcz29_8, hcz29_9, hcz29_10, hfz29_0, hfz29_1, hfz29_2, hfz29_3, hfz29_4, hfz29_5, hfz29_6, hfz29_7, hfz29_8, hfz29_9, hfz29_10⟩ := c11 BK153
        try go_wp2
        replace BK153 := Aside0.mk (blk_drew BK153.out)
        replace HB := Aside0.mk (below_drew1 HB.out)
        have p154 : 0 ≤ (x3_1 : Int) := of_decide_eq_true za
        have q154 : x3_1 < (l0_6.length : Int) := of_decide_eq_true za
        try clear hHeld
        try clear hx157_2
        try clear hx157_7
        try clear hx158_2
        try clear hx158_7
        obtain ⟨ad154, A154_2, c154_2, A154_7, c154_7, e154, hx154_0, hx154_1, hx154_2, hx154_3, hx154_4, hx154_5, hx154_6, hx154_7, hx154_8, hx154_9, hx154_10, hx154_11, hl154_2, hi154_2, hl154_7, hi154_7⟩ := at_T58 HR0_6.out x3_1 p154 q154
        have hw154_11 := hx154_11
        have hw154_10 := hx154_10
        have hw154_9 := hx154_9
        have hw154_8 := hx154_8
        have hw154_7 := hx154_7
        have hw154_6 := hx154_6
        have hw154_5 := hx154_5
        have hw154_4 := hx154_4
        have hw154_3 := hx154_3
        have hw154_2 := hx154_2
        have hw154_1 := hx154_1
        have hw154_0 := hx154_0
        cases e154
        replace hx154_0 := cb0 hx154_0 HB
        replace hx154_1 := cb0 hx154_1 HB
        replace hx154_2 := cb0 hx154_2 HB
        replace hx154_3 := cb0 hx154_3 HB
        replace hx154_4 := cb0 hx154_4 HB
        replace hx154_5 := cb0 hx154_5 HB
        replace hx154_6 := cb0 hx154_6 HB
        replace hx154_7 := cb0 hx154_7 HB
        replace hx154_8 := cb0 hx154_8 HB
        replace hx154_9 := cb0 hx154_9 HB
        replace hx154_10 := cb0 hx154_10 HB
        replace hx154_11 := cb0 hx154_11 HB
        have HR154_2 := Aside0.mk hi154_2
        have HC154_2 := Aside0.mk hl154_2
        clear hi154_2 hl154_2
        have HR154_7 := Aside0.mk hi154_7
        have HC154_7 := Aside0.mk hl154_7
        clear hi154_7 hl154_7
        replace p154 := eq_true p154
        replace q154 := eq_true q154
        have p159 : 0 ≤ (x3_1 : Int) := of_decide_eq_true za
        have q159 : x3_1 < (l0_6.length : Int) := of_decide_eq_true za
        try clear hHeld
        try clear hx157_2
        try clear hx157_7
        try clear hx158_2
        try clear hx158_7
        obtain ⟨ad159, A159_2, c159_2, A159_7, c159_7, e159, hx159_0, hx159_1, hx159_2, hx159_3, hx159_4, hx159_5, hx159_6, hx159_7, hx159_8, hx159_9, hx159_10, hx159_11, hl159_2, hi159_2, hl159_7, hi159_7⟩ := at_T58 HR0_6.out x3_1 p159 q159
        have hw159_11 := hx159_11
        have hw159_10 := hx159_10
        have hw159_9 := hx159_9
        have hw159_8 := hx159_8
        have hw159_7 := hx159_7
        have hw159_6 := hx159_6
        have hw159_5 := hx159_5
        have hw159_4 := hx159_4
        have hw159_3 := hx159_3
        have hw159_2 := hx159_2
        have hw159_1 := hx159_1
        have hw159_0 := hx159_0
        obtain rfl : ad154 = ad159 := (by injection e159)
        replace hx159_0 := cb0 hx159_0 HB
        replace hx159_1 := cb0 hx159_1 HB
        replace hx159_2 := cb0 hx159_2 HB
        replace hx159_3 := cb0 hx159_3 HB
        replace hx159_4 := cb0 hx159_4 HB
        replace hx159_5 := cb0 hx159_5 HB
        replace hx159_6 := cb0 hx159_6 HB
        replace hx159_7 := cb0 hx159_7 HB
        replace hx159_8 := cb0 hx159_8 HB
        replace hx159_9 := cb0 hx159_9 HB
        replace hx159_10 := cb0 hx159_10 HB
        replace hx159_11 := cb0 hx159_11 HB
        have HR159_2 := Aside0.mk hi159_2
        have HC159_2 := Aside0.mk hl159_2
        clear hi159_2 hl159_2
        have HR159_7 := Aside0.mk hi159_7
        have HC159_7 := Aside0.mk hl159_7
        clear hi159_7 hl159_7
        replace p159 := eq_true p159
        replace q159 := eq_true q159
        refine st 44 (an (b11 BK153) (an (cb hw154_0 HB) (an (cb hw154_1 HB) (an (cb hw154_2 HB) (an (cb hw154_3 HB) (an (cb hw154_4 HB) (an (cb hw154_5 HB) (an (cb hw154_6 HB) (an (cb hw154_7 HB) (an (cb hw154_8 HB) (an (cb hw154_9 HB) (an (cb hw154_10 HB) (an (cb hw154_11 HB) (an (cb hw159_0 HB) (an (cb hw159_1 HB) (an (cb hw159_2 HB) (an (cb hw159_3 HB) (an (cb hw159_4 HB) (an (cb hw159_5 HB) (an (cb hw159_6 HB) (an (cb hw159_7 HB) (an (cb hw159_8 HB) (an (cb hw159_9 HB) (an (cb hw159_10 HB) (cb hw159_11 HB))))))))))))))))))))))))) (fun hHeld => ?_); refine with_tabW spec_EndOk.tab4 spec_EndOk.bits4 (fun HT_ HW_ => ?_)
        generalize wr.drew = w30 at BK153 HB HR154_2 HR154_7 HR159_2 HR159_7 hx154_0 hx154_1 hx154_10 hx154_11 hx154_2 hx154_3 hx154_4 hx154_5 hx154_6 hx154_7 hx154_8 hx154_9 hx159_0 hx159_1 hx159_10 hx159_11 hx159_2 hx159_3 hx159_4 hx159_5 hx159_6 hx159_7 hx159_8 hx159_9 hHeld ⊢
        refine pu 0 (some 12) (bm 44 1) rfl rfl ?_
        refine pu 2 (some 14) (bm 44 5) rfl rfl ?_
        refine tk 1 (some 13) (bm 44 7) rfl rfl hHeld ?_
        refine pu 3 (some 15) (bm 44 15) rfl rfl ?_
        refine tk 4 (some 16) (bm 44 31) rfl rfl hHeld ?_
        refine one_ (i := 5) (N := some 17) (bm 44 63) rfl rfl (one_of HT_.out (by kernel_rfl)) (by decide) (fun K hK => ?_)
        refine gs Tryd.func39 #[.agg #[.int .i64 ((rd_T58 l0_6 x3_1).f0), .int .i64 ((rd_T58 l0_6 x3_1).f1), .slice A154_2 ((rd_T58 l0_6 x3_1).f2).length c154_2, .string ((rd_T58 l0_6 x3_1).f3), .bool ((rd_T58 l0_6 x3_1).f4), .bool ((rd_T58 l0_6 x3_1).f5), .int .i64 ((rd_T58 l0_6 x3_1).f6), .slice A154_7 ((rd_T58 l0_6 x3_1).f7).length c154_7, .string ((rd_T58 l0_6 x3_1).f8), .bool ((rd_T58 l0_6 x3_1).f9), .int .i64 ((rd_T58 l0_6 x3_1).f10.f0), .int .i64 ((rd_T58 l0_6 x3_1).f10.f1)]] ?_
        with_reducible refine (spec_l21Stream.calls k1 ((rd_T58 l0_6 x3_1).f0) ((rd_T58 l0_6 x3_1).f1) _ _ ((rd_T58 l0_6 x3_1).f2) ((rd_T58 l0_6 x3_1).f3) ((rd_T58 l0_6 x3_1).f4) ((rd_T58 l0_6 x3_1).f5) ((rd_T58 l0_6 x3_1).f6) _ _ ((rd_T58 l0_6 x3_1).f7) ((rd_T58 l0_6 x3_1).f8) ((rd_T58 l0_6 x3_1).f9) ((rd_T58 l0_6 x3_1).f10.f0) ((rd_T58 l0_6 x3_1).f10.f1) true _ ?side1 ?side2 ?side3 ?side4 A5.out).mono ?_
        (case side1 => exact zc (Kd.C_below HR154_2.out HB.out))
        (case side2 => exact HC154_2.out)
        (case side3 => exact zc (Kd.C_below HR154_7.out HB.out))
        (case side4 => exact HC154_7.out)
        rintro e w31 ⟨rfl, hb⟩
        refine ⟨_, rfl, ?_⟩
        replace BK153 := kb BK153 hb
        replace HB := Aside0.mk (below_step (zb HB) hb)
        (try clear hb)
        refine hK.out _ _ (an (b11 BK153) (an (cb hw154_0 HB) (an (cb hw154_1 HB) (an (cb hw154_2 HB) (an (cb hw154_3 HB) (an (cb hw154_4 HB) (an (cb hw154_5 HB) (an (cb hw154_6 HB) (an (cb hw154_7 HB) (an (cb hw154_8 HB) (an (cb hw154_9 HB) (an (cb hw154_10 HB) (an (cb hw154_11 HB) (an (cb hw159_0 HB) (an (cb hw159_1 HB) (an (cb hw159_2 HB) (an (cb hw159_3 HB) (an (cb hw159_4 HB) (an (cb hw159_5 HB) (an (cb hw159_6 HB) (an (cb hw159_7 HB) (an (cb hw159_8 HB) (an (cb hw159_9 HB) (an (cb hw159_10 HB) (cb hw159_11 HB))))))))))))))))))))))))) (fun hHeld => ?_)
        clear hK K
        refine nm ?_
        refine pu 6 (some 18) (bm 44 127) rfl rfl ?_
        refine pu 7 (some 19) (bm 44 255) rfl rfl ?_
        refine pu 8 (some 20) (bm 44 511) rfl rfl ?_
        refine pu 9 (some 21) (bm 44 1023) rfl rfl ?_
        refine pu 10 (some 22) (bm 44 2047) rfl rfl ?_
        refine pv 11 (some 23) (bm 44 4095) rfl rfl ?_
        refine pv 12 (some 24) (bm 44 8191) rfl rfl ?_
        refine pv 13 (some 25) (bm 44 16383) rfl rfl ?_
        refine pv 14 (some 26) (bm 44 32767) rfl rfl ?_
        refine pv 15 (some 27) (bm 44 65535) rfl rfl ?_
        refine pv 16 (some 28) (bm 44 131071) rfl rfl ?_
        refine pv 17 (some 29) (bm 44 262143) rfl rfl ?_
        refine pv 18 (some 30) (bm 44 524287) rfl rfl ?_
        refine pv 19 (some 31) (bm 44 1048575) rfl rfl ?_
        refine pv 20 (some 32) (bm 44 2097151) rfl rfl ?_
        refine pv 21 (some 33) (bm 44 4194303) rfl rfl ?_
        refine pv 22 (some 34) (bm 44 8388607) rfl rfl ?_
        refine pv 23 (some 35) (bm 44 16777215) rfl rfl ?_
        refine pv 24 (some 36) (bm 44 33554431) rfl rfl ?_
        refine pu 25 (some 37) (bm 44 67108863) rfl rfl ?_
        refine pu 26 (some 38) (bm 44 134217727) rfl rfl ?_
        refine pu 27 (some 39) (bm 44 268435455) rfl rfl ?_
        refine pu 28 (some 40) (bm 44 536870911) rfl rfl ?_
        refine tk 29 (some 41) (bm 44 1073741823) rfl rfl hHeld ?_
        refine pu 30 (some 42) (bm 44 2147483647) rfl rfl ?_
        refine pu 31 (some 43) (bm 44 4294967295) rfl rfl ?_
        refine pu 32 (some 44) (bm 44 8589934591) rfl rfl ?_
        refine pu 34 (some 46) (bm 44 25769803775) rfl rfl ?_
        refine pu 38 (some 50) (bm 44 300647710719) rfl rfl ?_
        refine pu 39 (some 51) (bm 44 850403524607) rfl rfl ?_
        refine pu 40 (some 52) (bm 44 1949915152383) rfl rfl ?_
        refine tk 33 (some 45) (bm 44 1958505086975) rfl rfl hHeld ?_
        refine pu 35 (some 47) (bm 44 1992864825343) rfl rfl ?_
        refine pu 36 (some 48) (bm 44 2061584302079) rfl rfl ?_
        refine tk 37 (some 49) (bm 44 2199023255551) rfl rfl hHeld ?_
        refine pu 41 (some 53) (bm 44 4398046511103) rfl rfl ?_
        refine pu 42 (some 54) (bm 44 8796093022207) rfl rfl ?_
        refine pu 43 (some 55) (bm 44 17592186044415) rfl rfl ?_
        refine done_ (done_of HT_.out (by kernel_rfl)) ?_
        go_upto_if 55 with (fail)
        have H := HC28.out
        clear HC28
        by_cases c32 : ((rd_T58 l0_6 x3_1).f0) = (wrap64 ((wrap64 (2 * x3_1)) + 1))
        ·rw [if_pos c32] at H
         have c32b0 : (((rd_T58 l0_6 x3_1).f0) == (wrap64 ((wrap64 (2 * x3_1)) + 1))) = true := beq_iff_eq.mpr c32
         have c32b1 : (((rd_T58 l0_6 x3_1).f0) != (wrap64 ((wrap64 (2 * x3_1)) + 1))) = false := bne_eq_false_iff_eq.mpr c32
         clear c32
         (first | rw [c32b0] | rw [c32b1] | rw [c32b2] | (simp only [i64_w, i32_w]; rw [c32b0]) | skip)
         have H' := Aside0.mk H
         clear H
         go_wp2
         go_roundg k1
         case measure => have := HK1.out; omega
         case rel => exact ⟨(wrap64 (x3_1 + 1)), zs, H', ⟨by have := HK1.out; omega⟩, ⟨by exact zk BK153⟩, ⟨zb HB⟩⟩
        ·rw [if_neg c32] at H
         have c32b0 : (((rd_T58 l0_6 x3_1).f0) == (wrap64 ((wrap64 (2 * x3_1)) + 1))) = false := beq_eq_false_iff_ne.mpr c32
         have c32b1 : (((rd_T58 l0_6 x3_1).f0) != (wrap64 ((wrap64 (2 * x3_1)) + 1))) = true := bne_iff_ne.mpr c32
         (first | rw [c32b0] | rw [c32b1] | rw [c32b2] | (simp only [i64_w, i32_w]; rw [c32b0]) | skip)
         obtain rfl := Option.some.inj H
         go_wp2
         go_ret
         exact ⟨ze, zb HB⟩
     ·replace c6 := Bool.eq_false_iff.mpr c6
      subst c6
      rw [if_neg (show ¬ (false = true) by decide)] at H
      obtain rfl := Option.some.inj H
      obtain ⟨hcz33_0, hcz33_1, hcz33_2, hcz33_3, hcz33_4, hcz33_5, hcz33_6, hcz33_7, hcz33_8, hcz33_9, hcz33_10, hfz33_0, hfz33_1, hfz33_2, hfz33_3, hfz33_4, hfz33_5, hfz33_6, hfz33_7, hfz33_8, hfz33_9, hfz33_10⟩ := c11 BK153
      try go_wp2
      replace BK153 := Aside0.mk (blk_drew BK153.out)
      replace HB := Aside0.mk (below_drew1 HB.out)
      have p154 : 0 ≤ (x3_1 : Int) := of_decide_eq_true za
      have q154 : x3_1 < (l0_6.length : Int) := of_decide_eq_true za
      try clear hHeld
      try clear hx157_2
      try clear hx157_7
      try clear hx158_2
      try clear hx158_7
      try clear hx159_2
      try clear hx159_7
      obtain ⟨ad154, A154_2, c154_2, A154_7, c154_7, e154, hx154_0, hx154_1, hx154_2, hx154_3, hx154_4, hx154_5, hx154_6, hx154_7, hx154_8, hx154_9, hx154_10, hx154_11, hl154_2, hi154_2, hl154_7, hi154_7⟩ := at_T58 HR0_6.out x3_1 p154 q154
      have hw154_11 := hx154_11
      have hw154_10 := hx154_10
      have hw154_9 := hx154_9
      have hw154_8 := hx154_8
      have hw154_7 := hx154_7
      have hw154_6 := hx154_6
      have hw154_5 := hx154_5
      have hw154_4 := hx154_4
      have hw154_3 := hx154_3
      have hw154_2 := hx154_2
      have hw154_1 := hx154_1
      have hw154_0 := hx154_0
      cases e154
      replace hx154_0 := cb0 hx154_0 HB
      replace hx154_1 := cb0 hx154_1 HB
      replace hx154_2 := cb0 hx154_2 HB
      replace hx154_3 := cb0 hx154_3 HB
      replace hx154_4 := cb0 hx154_4 HB
      replace hx154_5 := cb0 hx154_5 HB
      replace hx154_6 := cb0 hx154_6 HB
      replace hx154_7 := cb0 hx154_7 HB
      replace hx154_8 := cb0 hx154_8 HB
      replace hx154_9 := cb0 hx154_9 HB
      replace hx154_10 := cb0 hx154_10 HB
      replace hx154_11 := cb0 hx154_11 HB
      have HR154_2 := Aside0.mk hi154_2
      have HC154_2 := Aside0.mk hl154_2
      clear hi154_2 hl154_2
      have HR154_7 := Aside0.mk hi154_7
      have HC154_7 := Aside0.mk hl154_7
      clear hi154_7 hl154_7
      replace p154 := eq_true p154
      replace q154 := eq_true q154
      refine st 44 (an (b11 BK153) (an (cb hw154_0 HB) (an (cb hw154_1 HB) (an (cb hw154_2 HB) (an (cb hw154_3 HB) (an (cb hw154_4 HB) (an (cb hw154_5 HB) (an (cb hw154_6 HB) (an (cb hw154_7 HB) (an (cb hw154_8 HB) (an (cb hw154_9 HB) (an (cb hw154_10 HB) (cb hw154_11 HB))))))))))))) (fun hHeld => ?_); refine with_tabW spec_EndOk.tab4 spec_EndOk.bits4 (fun HT_ HW_ => ?_)
      generalize wr.drew = w34 at BK153 HB HR154_2 HR154_7 hx154_0 hx154_1 hx154_10 hx154_11 hx154_2 hx154_3 hx154_4 hx154_5 hx154_6 hx154_7 hx154_8 hx154_9 hHeld ⊢
      refine pu 0 (some 12) (bm 44 1) rfl rfl ?_
      refine pu 2 (some 14) (bm 44 5) rfl rfl ?_
      refine tk 1 (some 13) (bm 44 7) rfl rfl hHeld ?_
      refine pu 3 (some 15) (bm 44 15) rfl rfl ?_
      refine tk 4 (some 16) (bm 44 31) rfl rfl hHeld ?_
      refine one_ (i := 5) (N := some 17) (bm 44 63) rfl rfl (one_of HT_.out (by kernel_rfl)) (by decide) (fun K hK => ?_)
      refine gs Tryd.func39 #[.agg #[.int .i64 ((rd_T58 l0_6 x3_1).f0), .int .i64 ((rd_T58 l0_6 x3_1).f1), .slice A154_2 ((rd_T58 l0_6 x3_1).f2).length c154_2, .string ((rd_T58 l0_6 x3_1).f3), .bool ((rd_T58 l0_6 x3_1).f4), .bool ((rd_T58 l0_6 x3_1).f5), .int .i64 ((rd_T58 l0_6 x3_1).f6), .slice A154_7 ((rd_T58 l0_6 x3_1).f7).length c154_7, .string ((rd_T58 l0_6 x3_1).f8), .bool ((rd_T58 l0_6 x3_1).f9), .int .i64 ((rd_T58 l0_6 x3_1).f10.f0), .int .i64 ((rd_T58 l0_6 x3_1).f10.f1)]] ?_
      with_reducible refine (spec_l21Stream.calls k1 ((rd_T58 l0_6 x3_1).f0) ((rd_T58 l0_6 x3_1).f1) _ _ ((rd_T58 l0_6 x3_1).f2) ((rd_T58 l0_6 x3_1).f3) ((rd_T58 l0_6 x3_1).f4) ((rd_T58 l0_6 x3_1).f5) ((rd_T58 l0_6 x3_1).f6) _ _ ((rd_T58 l0_6 x3_1).f7) ((rd_T58 l0_6 x3_1).f8) ((rd_T58 l0_6 x3_1).f9) ((rd_T58 l0_6 x3_1).f10.f0) ((rd_T58 l0_6 x3_1).f10.f1) false _ ?side1 ?side2 ?side3 ?side4 A5.out).mono ?_
      (case side1 => exact zc (Kd.C_below HR154_2.out HB.out))
      (case side2 => exact HC154_2.out)
      (case side3 => exact zc (Kd.C_below HR154_7.out HB.out))
      (case side4 => exact HC154_7.out)
      rintro e w35 ⟨rfl, hb⟩
      refine ⟨_, rfl, ?_⟩
      replace BK153 := kb BK153 hb
      replace HB := Aside0.mk (below_step (zb HB) hb)
      (try clear hb)
      refine hK.out _ _ (an (b11 BK153) (an (cb hw154_0 HB) (an (cb hw154_1 HB) (an (cb hw154_2 HB) (an (cb hw154_3 HB) (an (cb hw154_4 HB) (an (cb hw154_5 HB) (an (cb hw154_6 HB) (an (cb hw154_7 HB) (an (cb hw154_8 HB) (an (cb hw154_9 HB) (an (cb hw154_10 HB) (cb hw154_11 HB))))))))))))) (fun hHeld => ?_)
      clear hK K
      refine nm ?_
      refine pu 6 (some 18) (bm 44 127) rfl rfl ?_
      refine pu 7 (some 19) (bm 44 255) rfl rfl ?_
      refine pv 8 (some 20) (bm 44 511) rfl rfl ?_
      refine pv 9 (some 21) (bm 44 1023) rfl rfl ?_
      refine pv 10 (some 22) (bm 44 2047) rfl rfl ?_
      refine pv 11 (some 23) (bm 44 4095) rfl rfl ?_
      refine pv 12 (some 24) (bm 44 8191) rfl rfl ?_
      refine pv 13 (some 25) (bm 44 16383) rfl rfl ?_
      refine pv 14 (some 26) (bm 44 32767) rfl rfl ?_
      refine pv 15 (some 27) (bm 44 65535) rfl rfl ?_
      refine pv 16 (some 28) (bm 44 131071) rfl rfl ?_
      refine pv 17 (some 29) (bm 44 262143) rfl rfl ?_
      refine pv 18 (some 30) (bm 44 524287) rfl rfl ?_
      refine pv 19 (some 31) (bm 44 1048575) rfl rfl ?_
      refine pv 20 (some 32) (bm 44 2097151) rfl rfl ?_
      refine pv 21 (some 33) (bm 44 4194303) rfl rfl ?_
      refine pv 22 (some 34) (bm 44 8388607) rfl rfl ?_
      refine pv 23 (some 35) (bm 44 16777215) rfl rfl ?_
      refine pv 24 (some 36) (bm 44 33554431) rfl rfl ?_
      refine pv 25 (some 37) (bm 44 67108863) rfl rfl ?_
      refine pu 26 (some 38) (bm 44 134217727) rfl rfl ?_
      refine pu 27 (some 39) (bm 44 268435455) rfl rfl ?_
      refine pv 28 (some 40) (bm 44 536870911) rfl rfl ?_
      refine pv 29 (some 41) (bm 44 1073741823) rfl rfl ?_
      refine pv 30 (some 42) (bm 44 2147483647) rfl rfl ?_
      refine pv 31 (some 43) (bm 44 4294967295) rfl rfl ?_
      refine pv 32 (some 44) (bm 44 8589934591) rfl rfl ?_
      refine pv 33 (some 45) (bm 44 17179869183) rfl rfl ?_
      refine pv 34 (some 46) (bm 44 34359738367) rfl rfl ?_
      refine pv 35 (some 47) (bm 44 68719476735) rfl rfl ?_
      refine pv 36 (some 48) (bm 44 137438953471) rfl rfl ?_
      refine pv 37 (some 49) (bm 44 274877906943) rfl rfl ?_
      refine pv 38 (some 50) (bm 44 549755813887) rfl rfl ?_
      refine pv 39 (some 51) (bm 44 1099511627775) rfl rfl ?_
      refine pv 40 (some 52) (bm 44 2199023255551) rfl rfl ?_
      refine pv 41 (some 53) (bm 44 4398046511103) rfl rfl ?_
      refine pv 42 (some 54) (bm 44 8796093022207) rfl rfl ?_
      refine pu 43 (some 55) (bm 44 17592186044415) rfl rfl ?_
      refine done_ (done_of HT_.out (by kernel_rfl)) ?_
      try go_wp2
      go_ret
      exact ⟨ze, zb HB⟩
    ·rw [if_neg c4] at H
     exact absurd H (by simp)
   ·skip
    have c3b0 := decide_eq_false c3
    clear c3
    have H' := Aside0.mk H
    clear H
    obtain ⟨hcz36_0, hcz36_1, hcz36_2, hcz36_3, hcz36_4, hcz36_5, hcz36_6, hcz36_7, hcz36_8, hcz36_9, hcz36_10, hfz36_0, hfz36_1, hfz36_2, hfz36_3, hfz36_4, hfz36_5, hfz36_6, hfz36_7, hfz36_8, hfz36_9, hfz36_10⟩ := c11 BK153
    go_wp2
    go_loopg [4] k1 (fun kq v4 w' => ∃ (x4_2 : Int), v4 = .int .i64 x4_2 ∧ Aside0 (spec_EndOk.l1 kq x4_2 a0_0 l0_1 a0_2 l0_3 a0_4 a0_5 l0_6 a0_7 a0_8 l0_9 a0_10 = some r) ∧ Aside0 (kq ≤ k1) ∧ Aside0 (w'.heap[gb153]? = some (.cells #[.bool a0_0, (.slice A0_1 l0_1.length c0_1), .int .i64 a0_2, (.slice A0_3 l0_3.length c0_3), .int .i64 a0_4, .string a0_5, (.slice A0_6 l0_6.length c0_6), .int .i64 a0_7, .int .i64 a0_8, (.slice A0_9 l0_9.length c0_9), .bool a0_10] 39 (0, 0))) ∧ Aside0 (Below w.heap.size w w'))
    case atStart => exact ⟨(0), zs, H', ⟨Nat.le_refl _⟩, ⟨by exact zk BK153⟩, ⟨zb HB⟩⟩
    case round =>
     clear H'
     try clear c1
     try clear p1
     try clear q1
     try clear hx1
     try clear p2
     try clear c3
     try clear c3b0
     try clear c4
     try clear c6
     try clear p6
     try clear c15
     try clear p15
     try clear q15
     try clear hx15
     try clear c32
     try clear c32b0
     try clear c32b1
     try clear c32b2
     try clear hcz33_0
     try clear hcz33_1
     try clear hcz33_10
     try clear hcz33_2
     try clear hcz33_3
     try clear hcz33_4
     try clear hcz33_5
     try clear hcz33_6
     try clear hcz33_7
     try clear hcz33_8
     try clear hcz33_9
     try clear hcz36_0
     try clear hcz36_1
     try clear hcz36_10
     try clear hcz36_2
     try clear hcz36_3
     try clear hcz36_4
     try clear hcz36_5
     try clear hcz36_6
     try clear hcz36_7
     try clear hcz36_8
     try clear hcz36_9
     try clear hfz33_0
     try clear hfz33_1
     try clear hfz33_10
     try clear hfz33_2
     try clear hfz33_3
     try clear hfz33_4
     try clear hfz33_5
     try clear hfz33_6
     try clear hfz33_7
     try clear hfz33_8
     try clear hfz33_9
     try clear hfz36_0
     try clear hfz36_1
     try clear hfz36_10
     try clear hfz36_2
     try clear hfz36_3
     try clear hfz36_4
     try clear hfz36_5
     try clear hfz36_6
     try clear hfz36_7
     try clear hfz36_8
     try clear hfz36_9
     try clear hx154_0
     try clear hx154_1
     try clear hx154_10
     try clear hx154_11
     try clear hx154_2
     try clear hx154_3
     try clear hx154_4
     try clear hx154_5
     try clear hx154_6
     try clear hx154_7
     try clear hx154_8
     try clear hx154_9
     try clear p154
     try clear q154
     obtain ⟨x4_2, rfl, HA, HK2, BK153, HB⟩ := hrel
     cases gk with
     | zero => exact absurd HA.out (by simp [spec_EndOk.l1])
     | succ k2 =>
      have H := HA.out
      clear HA
      simp only [spec_EndOk.l1] at H
      replace H := sp H
      rcases H with ⟨c37, H⟩ | ⟨c37, H⟩
      ·skip
       have c37b0 := decide_eq_true c37
       clear c37
       by_cases c38 : 0 ≤ x4_2
       ·rw [if_pos c38] at H
        have c38b0 := decide_eq_true c38
        clear c38
        obtain ⟨t161, A39, H⟩ := ob H
        (try dsimp only at H)
        have HC40 := Aside0.mk H
        clear H
        obtain ⟨hcz41_0, hcz41_1, hcz41_2, hcz41_3, hcz41_4, hcz41_5, hcz41_6, hcz41_7, hcz41_8, hcz41_9, hcz41_10, hfz41_0, hfz41_1, hfz41_2, hfz41_3, hfz41_4, hfz41_5, hfz41_6, hfz41_7, hfz41_8, hfz41_9, hfz41_10⟩ := c11 BK153
        have p160 : 0 ≤ (x4_2 : Int) := of_decide_eq_true za
        have q160 : x4_2 < (l0_9.length : Int) := of_decide_eq_true za
        obtain ⟨ad160, e160, hx160_0, hx160_1, hx160_2, hx160_3⟩ := at_T79 HR0_9.out x4_2 p160 q160
        cases e160
        replace hx160_0 := cb0 hx160_0 HB
        replace hx160_1 := cb0 hx160_1 HB
        replace hx160_2 := cb0 hx160_2 HB
        replace hx160_3 := cb0 hx160_3 HB
        replace p160 := eq_true p160
        replace q160 := eq_true q160
        go_upto_if 69 with (first | ((with_reducible refine gq 40 rfl ?_); refine gl (some 68) Tryd.func40 #[.agg #[.int .i64 ((rd_T79 l0_9 x4_2).f0), .bool ((rd_T79 l0_9 x4_2).f1), .int .i64 ((rd_T79 l0_9 x4_2).f2), .string ((rd_T79 l0_9 x4_2).f3)]] ?_; (with_reducible refine (spec_FrameOk.calls k2 ((rd_T79 l0_9 x4_2).f0) ((rd_T79 l0_9 x4_2).f1) ((rd_T79 l0_9 x4_2).f2) ((rd_T79 l0_9 x4_2).f3) t161 _ A39.out).mono ?_); rintro e w42 ⟨rfl, hb⟩; refine ⟨_, rfl, ?_⟩; replace BK153 := kb BK153 hb; replace HB := Aside0.mk (below_step (zb HB) hb); (try clear hb)))
        (try simp only [Act.put, s1, s2, s3])
        have H := HC40.out
        clear HC40
        by_cases c43 : t161 = true
        ·subst c43
         rw [if_pos rfl] at H
         have H' := Aside0.mk H
         clear H
         go_wp2
         go_roundg k2
         case measure => have := HK1.out; have := HK2.out; omega
         case rel => exact ⟨(wrap64 (x4_2 + 1)), zs, H', ⟨by have := HK1.out; have := HK2.out; omega⟩, ⟨by exact zk BK153⟩, ⟨zb HB⟩⟩
        ·replace c43 := Bool.eq_false_iff.mpr c43
         subst c43
         rw [if_neg (show ¬ (false = true) by decide)] at H
         obtain rfl := Option.some.inj H
         go_wp2
         go_ret
         exact ⟨ze, zb HB⟩
       ·rw [if_neg c38] at H
        exact absurd H (by simp)
      ·skip
       have c37b0 := decide_eq_false c37
       clear c37
       obtain ⟨t162, A44, H⟩ := ob H
       (try dsimp only at H)
       by_cases c45 : t162 = true
       ·subst c45
        rw [if_pos rfl] at H
        obtain ⟨t163, A46, H⟩ := ob H
        (try dsimp only at H)
        by_cases c47 : t163 = true
        ·subst c47
         rw [if_pos rfl] at H
         obtain ⟨t164, A48, H⟩ := ob H
         (try dsimp only at H)
         by_cases c49 : t164 = true
         ·subst c49
          rw [if_pos rfl] at H
          replace H := sp H
          rcases H with ⟨c50, H⟩ | ⟨c50, H⟩
          ·skip
           have c50b0 := decide_eq_true c50
           have c50b1 := decide_eq_true (by omega)
           clear c50
           obtain rfl := Option.some.inj H
           obtain ⟨hcz51_0, hcz51_1, hcz51_2, hcz51_3, hcz51_4, hcz51_5, hcz51_6, hcz51_7, hcz51_8, hcz51_9, hcz51_10, hfz51_0, hfz51_1, hfz51_2, hfz51_3, hfz51_4, hfz51_5, hfz51_6, hfz51_7, hfz51_8, hfz51_9, hfz51_10⟩ := c11 BK153
           go_wp2_with (first | ((with_reducible refine gq 41 rfl ?_); refine gl (some 72) Tryd.func41 #[.agg #[.slice A0_1 l0_1.length c0_1, .int .i64 a0_2]] ?_; (with_reducible refine (spec_TableOk.calls k2 _ _ l0_1 a0_2 true _ ?side1 ?side2 A44.out).mono ?_); (case side1 => exact zc (Kd.C_below HR0_1.out HB.out)); (case side2 => exact HC0_1.out); rintro e w52 ⟨rfl, hb⟩; refine ⟨_, rfl, ?_⟩; replace BK153 := kb BK153 hb; replace HB := Aside0.mk (below_step (zb HB) hb); (try clear hb); obtain ⟨hcz53_0, hcz53_1, hcz53_2, hcz53_3, hcz53_4, hcz53_5, hcz53_6, hcz53_7, hcz53_8, hcz53_9, hcz53_10, hfz53_0, hfz53_1, hfz53_2, hfz53_3, hfz53_4, hfz53_5, hfz53_6, hfz53_7, hfz53_8, hfz53_9, hfz53_10⟩ := c11 BK153) | (go_at_call 41; (with_reducible refine (spec_TableOk.calls k2 _ _ l0_3 a0_4 true _ ?side1 ?side2 A46.out).mono ?_); (case side1 => exact zc (Kd.C_below HR0_3.out HB.out)); (case side2 => exact HC0_3.out); rintro e w54 ⟨rfl, hb⟩; replace BK153 := kb BK153 hb; replace HB := Aside0.mk (below_step (zb HB) hb); (try clear hb); obtain ⟨hcz55_0, hcz55_1, hcz55_2, hcz55_3, hcz55_4, hcz55_5, hcz55_6, hcz55_7, hcz55_8, hcz55_9, hcz55_10, hfz55_0, hfz55_1, hfz55_2, hfz55_3, hfz55_4, hfz55_5, hfz55_6, hfz55_7, hfz55_8, hfz55_9, hfz55_10⟩ := c11 BK153) | (go_at_call 42; (with_reducible refine (spec_FlowOk.calls a0_7 a0_8 true _ A48.out).mono ?_); rintro e w56 ⟨rfl, hb⟩; replace BK153 := kb BK153 hb; replace HB := Aside0.mk (below_step (zb HB) hb); (try clear hb); obtain ⟨hcz57_0, hcz57_1, hcz57_2, hcz57_3, hcz57_4, hcz57_5, hcz57_6, hcz57_7, hcz57_8, hcz57_9, hcz57_10, hfz57_0, hfz57_1, hfz57_2, hfz57_3, hfz57_4, hfz57_5, hfz57_6, hfz57_7, hfz57_8, hfz57_9, hfz57_10⟩ := c11 BK153))
           go_ret
           exact ⟨ze, zb HB⟩
          ·skip
           have c50b0 := decide_eq_false c50
           have c50b1 := decide_eq_false (by omega)
           clear c50
           obtain rfl := Option.some.inj H
           obtain ⟨hcz58_0, hcz58_1, hcz58_2, hcz58_3, hcz58_4, hcz58_5, hcz58_6, hcz58_7, hcz58_8, hcz58_9, hcz58_10, hfz58_0, hfz58_1, hfz58_2, hfz58_3, hfz58_4, hfz58_5, hfz58_6, hfz58_7, hfz58_8, hfz58_9, hfz58_10⟩ := c11 BK153
           go_wp2_with (first | ((with_reducible refine gq 41 rfl ?_); refine gl (some 72) Tryd.func41 #[.agg #[.slice A0_1 l0_1.length c0_1, .int .i64 a0_2]] ?_; (with_reducible refine (spec_TableOk.calls k2 _ _ l0_1 a0_2 true _ ?side1 ?side2 A44.out).mono ?_); (case side1 => exact zc (Kd.C_below HR0_1.out HB.out)); (case side2 => exact HC0_1.out); rintro e w59 ⟨rfl, hb⟩; refine ⟨_, rfl, ?_⟩; replace BK153 := kb BK153 hb; replace HB := Aside0.mk (below_step (zb HB) hb); (try clear hb); obtain ⟨hcz60_0, hcz60_1, hcz60_2, hcz60_3, hcz60_4, hcz60_5, hcz60_6, hcz60_7, hcz60_8, hcz60_9, hcz60_10, hfz60_0, hfz60_1, hfz60_2, hfz60_3, hfz60_4, hfz60_5, hfz60_6, hfz60_7, hfz60_8, hfz60_9, hfz60_10⟩ := c11 BK153) | (go_at_call 41; (with_reducible refine (spec_TableOk.calls k2 _ _ l0_3 a0_4 true _ ?side1 ?side2 A46.out).mono ?_); (case side1 => exact zc (Kd.C_below HR0_3.out HB.out)); (case side2 => exact HC0_3.out); rintro e w61 ⟨rfl, hb⟩; replace BK153 := kb BK153 hb; replace HB := Aside0.mk (below_step (zb HB) hb); (try clear hb); obtain ⟨hcz62_0, hcz62_1, hcz62_2, hcz62_3, hcz62_4, hcz62_5, hcz62_6, hcz62_7, hcz62_8, hcz62_9, hcz62_10, hfz62_0, hfz62_1, hfz62_2, hfz62_3, hfz62_4, hfz62_5, hfz62_6, hfz62_7, hfz62_8, hfz62_9, hfz62_10⟩ := c11 BK153) | (go_at_call 42; (with_reducible refine (spec_FlowOk.calls a0_7 a0_8 true _ A48.out).mono ?_); rintro e w63 ⟨rfl, hb⟩; replace BK153 := kb BK153 hb; replace HB := Aside0.mk (below_step (zb HB) hb); (try clear hb); obtain ⟨hcz64_0, hcz64_1, hcz64_2, hcz64_3, hcz64_4, hcz64_5, hcz64_6, hcz64_7, hcz64_8, hcz64_9, hcz64_10, hfz64_0, hfz64_1, hfz64_2, hfz64_3, hfz64_4, hfz64_5, hfz64_6, hfz64_7, hfz64_8, hfz64_9, hfz64_10⟩ := c11 BK153))
           go_ret
           exact ⟨ze, zb HB⟩
         ·replace c49 := Bool.eq_false_iff.mpr c49
          subst c49
          rw [if_neg (show ¬ (false = true) by decide)] at H
          obtain rfl := Option.some.inj H
          obtain ⟨hcz65_0, hcz65_1, hcz65_2, hcz65_3, hcz65_4, hcz65_5, hcz65_6, hcz65_7, hcz65_8, hcz65_9, hcz65_10, hfz65_0, hfz65_1, hfz65_2, hfz65_3, hfz65_4, hfz65_5, hfz65_6, hfz65_7, hfz65_8, hfz65_9, hfz65_10⟩ := c11 BK153
          go_wp2_with (first | ((with_reducible refine gq 41 rfl ?_); refine gl (some 72) Tryd.func41 #[.agg #[.slice A0_1 l0_1.length c0_1, .int .i64 a0_2]] ?_; (with_reducible refine (spec_TableOk.calls k2 _ _ l0_1 a0_2 true _ ?side1 ?side2 A44.out).mono ?_); (case side1 => exact zc (Kd.C_below HR0_1.out HB.out)); (case side2 => exact HC0_1.out); rintro e w66 ⟨rfl, hb⟩; refine ⟨_, rfl, ?_⟩; replace BK153 := kb BK153 hb; replace HB := Aside0.mk (below_step (zb HB) hb); (try clear hb); obtain ⟨hcz67_0, hcz67_1, hcz67_2, hcz67_3, hcz67_4, hcz67_5, hcz67_6, hcz67_7, hcz67_8, hcz67_9, hcz67_10, hfz67_0, hfz67_1, hfz67_2, hfz67_3, hfz67_4, hfz67_5, hfz67_6, hfz67_7, hfz67_8, hfz67_9, hfz67_10⟩ := c11 BK153) | (go_at_call 41; (with_reducible refine (spec_TableOk.calls k2 _ _ l0_3 a0_4 true _ ?side1 ?side2 A46.out).mono ?_); (case side1 => exact zc (Kd.C_below HR0_3.out HB.out)); (case side2 => exact HC0_3.out); rintro e w68 ⟨rfl, hb⟩; replace BK153 := kb BK153 hb; replace HB := Aside0.mk (below_step (zb HB) hb); (try clear hb); obtain ⟨hcz69_0, hcz69_1, hcz69_2, hcz69_3, hcz69_4, hcz69_5, hcz69_6, hcz69_7, hcz69_8, hcz69_9, hcz69_10, hfz69_0, hfz69_1, hfz69_2, hfz69_3, hfz69_4, hfz69_5, hfz69_6, hfz69_7, hfz69_8, hfz69_9, hfz69_10⟩ := c11 BK153) | (go_at_call 42; (with_reducible refine (spec_FlowOk.calls a0_7 a0_8 false _ A48.out).mono ?_); rintro e w70 ⟨rfl, hb⟩; replace BK153 := kb BK153 hb; replace HB := Aside0.mk (below_step (zb HB) hb); (try clear hb)))
          go_ret
          exact ⟨ze, zb HB⟩
        ·replace c47 := Bool.eq_false_iff.mpr c47
         subst c47
         rw [if_neg (show ¬ (false = true) by decide)] at H
         obtain rfl := Option.some.inj H
         obtain ⟨hcz71_0, hcz71_1, hcz71_2, hcz71_3, hcz71_4, hcz71_5, hcz71_6, hcz71_7, hcz71_8, hcz71_9, hcz71_10, hfz71_0, hfz71_1, hfz71_2, hfz71_3, hfz71_4, hfz71_5, hfz71_6, hfz71_7, hfz71_8, hfz71_9, hfz71_10⟩ := c11 BK153
         go_wp2_with (first | ((with_reducible refine gq 41 rfl ?_); refine gl (some 72) Tryd.func41 #[.agg #[.slice A0_1 l0_1.length c0_1, .int .i64 a0_2]] ?_; (with_reducible refine (spec_TableOk.calls k2 _ _ l0_1 a0_2 true _ ?side1 ?side2 A44.out).mono ?_); (case side1 => exact zc (Kd.C_below HR0_1.out HB.out)); (case side2 => exact HC0_1.out); rintro e w72 ⟨rfl, hb⟩; refine ⟨_, rfl, ?_⟩; replace BK153 := kb BK153 hb; replace HB := Aside0.mk (below_step (zb HB) hb); (try clear hb); obtain ⟨hcz73_0, hcz73_1, hcz73_2, hcz73_3, hcz73_4, hcz73_5, hcz73_6, hcz73_7, hcz73_8, hcz73_9, hcz73_10, hfz73_0, hfz73_1, hfz73_2, hfz73_3, hfz73_4, hfz73_5, hfz73_6, hfz73_7, hfz73_8, hfz73_9, hfz73_10⟩ := c11 BK153) | (go_at_call 41; (with_reducible refine (spec_TableOk.calls k2 _ _ l0_3 a0_4 false _ ?side1 ?side2 A46.out).mono ?_); (case side1 => exact zc (Kd.C_below HR0_3.out HB.out)); (case side2 => exact HC0_3.out); rintro e w74 ⟨rfl, hb⟩; replace BK153 := kb BK153 hb; replace HB := Aside0.mk (below_step (zb HB) hb); (try clear hb)))
         go_ret
         exact ⟨ze, zb HB⟩
       ·replace c45 := Bool.eq_false_iff.mpr c45
        subst c45
        rw [if_neg (show ¬ (false = true) by decide)] at H
        obtain rfl := Option.some.inj H
        obtain ⟨hcz75_0, hcz75_1, hcz75_2, hcz75_3, hcz75_4, hcz75_5, hcz75_6, hcz75_7, hcz75_8, hcz75_9, hcz75_10, hfz75_0, hfz75_1, hfz75_2, hfz75_3, hfz75_4, hfz75_5, hfz75_6, hfz75_7, hfz75_8, hfz75_9, hfz75_10⟩ := c11 BK153
        go_wp2_with (first | ((with_reducible refine gq 41 rfl ?_); refine gl (some 72) Tryd.func41 #[.agg #[.slice A0_1 l0_1.length c0_1, .int .i64 a0_2]] ?_; (with_reducible refine (spec_TableOk.calls k2 _ _ l0_1 a0_2 false _ ?side1 ?side2 A44.out).mono ?_); (case side1 => exact zc (Kd.C_below HR0_1.out HB.out)); (case side2 => exact HC0_1.out); rintro e w76 ⟨rfl, hb⟩; refine ⟨_, rfl, ?_⟩; replace BK153 := kb BK153 hb; replace HB := Aside0.mk (below_step (zb HB) hb); (try clear hb)))
        go_ret
        exact ⟨ze, zb HB⟩

end Go.Proofs.YtlpibelofcabhaaDoor.PFnExactEndCall
