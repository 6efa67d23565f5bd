-- WRITTEN BY a turned print (wip/tools of the prover's repo)
import Derived.Test.YtlpibelofcabhaaPFnExactEndLeavex0
import Derived.Test.YtlpibelofcabhaaPFnExactEndLeavex7
namespace Go.Proofs.Ytlpibelofcabhaa.PFnExactEndLeave
open Go.RowKit Go.Proofs.YtlpibelofcabhaaW.PrintWords Go.Proofs.YtlpibelofcabhaaW.PrintLast Go.Proofs.YtlpibelofcabhaaW.PrintMore Go.Proofs.Ytlpibelofcabhaa.Lm
attribute [local go_sem] max2_int min2_int max_two min_two max_three min_three max_four min_four   -- for this text's walks alone
set_option linter.unusedVariables false
set_option linter.unusedSimpArgs false

/-! ### spec_EndOk: function 36 -/
-- thin
mutual
def spec_EndOk.l0 : Nat → Int → Bool → List (S88) → Int → List (S88) → Int → ByteArray → List (S104) → Int → Int → List (S110) → Bool → Option (Bool)
 | 0, _, _, _, _, _, _, _, _, _, _, _, _ => none
 | k + 1, x3, x316000, x316001, x316002, x316003, x316004, x316005, x316006, x316007, x316008, x316009, x316010 => if x3 < (x316006.length : Int) then (if 0 ≤ x3 then ((spec_l21Stream.f k ((rd_T104 x316006 x3).f0) ((rd_T104 x316006 x3).f1) ((rd_T104 x316006 x3).f2) ((rd_T104 x316006 x3).f3) ((rd_T104 x316006 x3).f4) ((rd_T104 x316006 x3).f5) ((rd_T104 x316006 x3).f6) ((rd_T104 x316006 x3).f7) ((rd_T104 x316006 x3).f8) ((rd_T104 x316006 x3).f9) ((rd_T104 x316006 x3).f10.f0) ((rd_T104 x316006 x3).f10.f1)).bind fun t317 => (if t317 = true then (if x3 > 0 then (if 0 ≤ (wrap64 (x3 - 1)) then (if (wrap64 (x3 - 1)) < (x316006.length : Int) then (if ((rd_T104 x316006 (wrap64 (x3 - 1))).f0) ≥ ((rd_T104 x316006 x3).f0) then (some false) else (if x316000 = true then (spec_EndOk.l0 k (wrap64 (x3 + 1)) x316000 x316001 x316002 x316003 x316004 x316005 x316006 x316007 x316008 x316009 x316010) else (if ((rd_T104 x316006 x3).f0) = (wrap64 ((wrap64 (2 * x3)) + 1)) then (spec_EndOk.l0 k (wrap64 (x3 + 1)) x316000 x316001 x316002 x316003 x316004 x316005 x316006 x316007 x316008 x316009 x316010) else (some false)))) else (none)) else (none)) else (if x316000 = true then (spec_EndOk.l0 k (wrap64 (x3 + 1)) x316000 x316001 x316002 x316003 x316004 x316005 x316006 x316007 x316008 x316009 x316010) else (if ((rd_T104 x316006 x3).f0) = (wrap64 ((wrap64 (2 * x3)) + 1)) then (spec_EndOk.l0 k (wrap64 (x3 + 1)) x316000 x316001 x316002 x316003 x316004 x316005 x316006 x316007 x316008 x316009 x316010) else (some false)))) else (some false))) else (none)) else (spec_EndOk.l1 k 0 x316000 x316001 x316002 x316003 x316004 x316005 x316006 x316007 x316008 x316009 x316010)
def spec_EndOk.l1 : Nat → Int → Bool → List (S88) → Int → List (S88) → Int → ByteArray → List (S104) → Int → Int → List (S110) → Bool → Option (Bool)
 | 0, _, _, _, _, _, _, _, _, _, _, _, _ => none
 | k + 1, x4, x316000, x316001, x316002, x316003, x316004, x316005, x316006, x316007, x316008, x316009, x316010 => if x4 < (x316009.length : Int) then (if 0 ≤ x4 then ((spec_FrameOk.f k ((rd_T110 x316009 x4).f0) ((rd_T110 x316009 x4).f1) ((rd_T110 x316009 x4).f2) ((rd_T110 x316009 x4).f3)).bind fun t323 => (if t323 = true then (spec_EndOk.l1 k (wrap64 (x4 + 1)) x316000 x316001 x316002 x316003 x316004 x316005 x316006 x316007 x316008 x316009 x316010) else (some false))) else (none)) else ((spec_TableOk.f k x316001 x316002).bind fun t324 => (if t324 = true then ((spec_TableOk.f k x316003 x316004).bind fun t325 => (if t325 = true then ((spec_FlowOk.f x316007 x316008).bind fun t326 => (if t326 = true then (if (x316005.size : Int) ≤ 600 then (some (decide ((x316009.length : Int) ≤ 60))) else (some false)) else (some false))) else (some false))) else (some false)))
end
def spec_EndOk.f (k : Nat) (a0_0 : Bool) (l0_1 : List (S88)) (a0_2 : Int) (l0_3 : List (S88)) (a0_4 : Int) (a0_5 : ByteArray) (l0_6 : List (S104)) (a0_7 : Int) (a0_8 : Int) (l0_9 : List (S110)) (a0_10 : Bool) : Option (Bool) := spec_EndOk.l0 k 0 a0_0 l0_1 a0_2 l0_3 a0_4 a0_5 l0_6 a0_7 a0_8 l0_9 a0_10
theorem spec_EndOk.mono_l : ∀ k, (∀ y0 y1 y2 y3 y4 y5 y6 y7 y8 y9 y10 y11, LeO (spec_EndOk.l0 k y0 y1 y2 y3 y4 y5 y6 y7 y8 y9 y10 y11) (spec_EndOk.l0 (k + 1) y0 y1 y2 y3 y4 y5 y6 y7 y8 y9 y10 y11)) ∧ (∀ y0 y1 y2 y3 y4 y5 y6 y7 y8 y9 y10 y11, LeO (spec_EndOk.l1 k y0 y1 y2 y3 y4 y5 y6 y7 y8 y9 y10 y11) (spec_EndOk.l1 (k + 1) y0 y1 y2 y3 y4 y5 y6 y7 y8 y9 y10 y11))
 | 0 => ⟨fun _ _ _ _ _ _ _ _ _ _ _ _ r h => by simp [spec_EndOk.l0] at h, fun _ _ _ _ _ _ _ _ _ _ _ _ r h => by simp [spec_EndOk.l1] at h⟩
 | k + 1 => by
  obtain ⟨ih0, ih1⟩ := spec_EndOk.mono_l k
  refine ⟨?_, ?_⟩
  ·intro y0 y1 y2 y3 y4 y5 y6 y7 y8 y9 y10 y11
   unfold spec_EndOk.l0
   have m0 := @spec_FrameOk.mono
   have m1 := @spec_TableOk.mono
   have m2 := @spec_l21Stream.mono
   exact zm
  ·intro y0 y1 y2 y3 y4 y5 y6 y7 y8 y9 y10 y11
   unfold spec_EndOk.l1
   have m0 := @spec_FrameOk.mono
   have m1 := @spec_TableOk.mono
   have m2 := @spec_l21Stream.mono
   exact zm
theorem spec_EndOk.mono : ∀ a0 a1 a2 a3 a4 a5 a6 a7 a8 a9 a10 k, LeO (spec_EndOk.f k a0 a1 a2 a3 a4 a5 a6 a7 a8 a9 a10) (spec_EndOk.f (k + 1) a0 a1 a2 a3 a4 a5 a6 a7 a8 a9 a10) := by
 intro a0 a1 a2 a3 a4 a5 a6 a7 a8 a9 a10 k
 obtain ⟨ih0, ih1⟩ := spec_EndOk.mono_l k
 unfold spec_EndOk.f
 have m0 := @spec_FrameOk.mono
 have m1 := @spec_TableOk.mono
 have m2 := @spec_l21Stream.mono
 exact zm
def spec_EndOk.T4 : Bool × List (List Nat × List Nat) := (true, [([], []), ([0], [0]), ([], []), ([1, 2], [1, 2]), ([3], [3]), ([4], [4]), ([5], [5]), ([6, 5], [6]), ([7], [7]), ([8, 7], [7, 8]), ([9, 7, 7], [7, 9]), ([10], [10]), ([11, 10], [10, 11]), ([10], [10]), ([13, 10], [10, 13]), ([12, 14, 10], [10, 12, 14]), ([15, 10], [10, 15]), ([16, 10], [10, 16]), ([10], [10]), ([18, 10], [10, 18]), ([10], [10]), ([19, 20, 10], [10, 19, 20]), ([21, 10], [10, 21]), ([22, 10], [10, 22]), ([17, 23, 10], [10, 17, 23]), ([10, 24, 7], [7, 10, 24]), ([7, 25], [7, 25]), ([26, 10], [26]), ([27], [27]), ([28, 27], [27, 28]), ([29, 27], [27, 29]), ([30, 27, 27], [27, 30]), ([31], [31]), ([32, 31], [31, 32]), ([31], [31]), ([33, 34, 31], [31, 33, 34]), ([35, 31], [31, 35]), ([36, 31], [31, 36]), ([31], [31]), ([38, 31], [31, 38]), ([39, 31], [31, 39]), ([37, 40, 31], [31, 37, 40]), ([31, 41, 27], [27, 31, 41]), ([27, 42], [27, 42])])
def spec_EndOk.B4 : List Nat := [0, 1, 0, 7, 15, 31, 63, 127, 255, 511, 1023, 2047, 4095, 2047, 10239, 32767, 65535, 131071, 2047, 264191, 2047, 1837055, 3934207, 8128511, 16777215, 33554431, 67108863, 134217727, 268435455, 536870911, 1073741823, 2147483647, 4294967295, 8589934591, 4294967295, 34359738367, 68719476735, 137438953471, 4294967295, 279172874239, 828928688127, 2199023255551, 4398046511103, 8796093022207]
theorem spec_EndOk.tab4 : rtab .any (opsOf Try.f36 4) = spec_EndOk.T4 := by kernel_rfl
theorem spec_EndOk.bits4 : waitsOk spec_EndOk.T4.2 spec_EndOk.B4 = true := by kernel_rfl
set_option maxHeartbeats 8000000 in
set_option maxRecDepth 100000 in
theorem spec_EndOk.calls (k : Nat) (a0_0 : Bool) (A0_1 : Option Addr) (c0_1 : Nat) (l0_1 : List (S88)) (a0_2 : Int) (A0_3 : Option Addr) (c0_3 : Nat) (l0_3 : List (S88)) (a0_4 : Int) (a0_5 : ByteArray) (A0_6 : Option Addr) (c0_6 : Nat) (l0_6 : List (S104)) (a0_7 : Int) (a0_8 : Int) (A0_9 : Option Addr) (c0_9 : Nat) (l0_9 : List (S110)) (a0_10 : Bool) (r : Bool) (w : World) (hr0_1 : Kd.C k88 w A0_1 l0_1.length l0_1) (hc0_1 : l0_1.length ≤ c0_1) (hr0_3 : Kd.C k88 w A0_3 l0_3.length l0_3) (hc0_3 : l0_3.length ≤ c0_3) (hr0_6 : Kd.C k104 w A0_6 l0_6.length l0_6) (hc0_6 : l0_6.length ≤ c0_6) (hr0_9 : Kd.C k110 w A0_9 l0_9.length l0_9) (hc0_9 : l0_9.length ≤ c0_9) (h : spec_EndOk.f k a0_0 l0_1 a0_2 l0_3 a0_4 a0_5 l0_6 a0_7 a0_8 l0_9 a0_10 = some r) :
  Calls Try.prog 36 #[.agg #[.bool a0_0, .slice A0_1 l0_1.length c0_1, .int .i64 a0_2, .slice A0_3 l0_3.length c0_3, .int .i64 a0_4, .string a0_5, .slice A0_6 l0_6.length c0_6, .int .i64 a0_7, .int .i64 a0_8, .slice A0_9 l0_9.length c0_9, .bool a0_10]] w fun e w' => e = .returned (.bool r) ∧ Below w.heap.size w w' := by
 have hu42 := Try.underlying42
 have hu104 := Try.underlying104
 have hu110 := Try.underlying110
 have hu25 := Try.underlying25
 have hu39 := Try.underlying39
 have HR0_1 := Aside0.mk hr0_1
 have HC0_1 := Aside0.mk hc0_1
 clear hr0_1 hc0_1
 have HR0_3 := Aside0.mk hr0_3
 have HC0_3 := Aside0.mk hc0_3
 clear hr0_3 hc0_3
 have HR0_6 := Aside0.mk hr0_6
 have HC0_6 := Aside0.mk hc0_6
 clear hr0_6 hc0_6
 have HR0_9 := Aside0.mk hr0_9
 have HC0_9 := Aside0.mk hc0_9
 clear hr0_9 hc0_9
 have HB := Aside0.mk (Below.refl w.heap.size w)
 have H : (spec_EndOk.l0 k 0 a0_0 l0_1 a0_2 l0_3 a0_4 a0_5 l0_6 a0_7 a0_8 l0_9 a0_10) = some r := h
 clear h
 have H' := Aside0.mk H
 clear H
 go_enter Try.func36, Try.ntmps36
 go_wp2_with (first | ((with_reducible refine gd 1 rfl ?_); (try (refine gate_guard (by rfl) ?_; dsimp only)); refine bx (N := 1) (cs := #[.bool a0_0, .slice A0_1 l0_1.length c0_1, .int .i64 a0_2, .slice A0_3 l0_3.length c0_3, .int .i64 a0_4, .string a0_5, .slice A0_6 l0_6.length c0_6, .int .i64 a0_7, .int .i64 a0_8, .slice A0_9 l0_9.length c0_9, .bool a0_10]) (t := 42) ?_; intro gb315 hg w2 hbox hb; have BK315 := Aside0.mk (hbox); have GW315 := gw HB hg; have GE315 := GW315; replace HB := Aside0.mk (below_step (zb HB) hb); clear hb hbox hg))
 go_loopg [3] k (fun kq v3 w' => ∃ (x3_1 : Int), v3 = .int .i64 x3_1 ∧ Aside0 (spec_EndOk.l0 kq x3_1 a0_0 l0_1 a0_2 l0_3 a0_4 a0_5 l0_6 a0_7 a0_8 l0_9 a0_10 = some r) ∧ Aside0 (kq ≤ k) ∧ Aside0 (w'.heap[gb315]? = some (.cells #[.bool a0_0, (.slice A0_1 l0_1.length c0_1), .int .i64 a0_2, (.slice A0_3 l0_3.length c0_3), .int .i64 a0_4, .string a0_5, (.slice A0_6 l0_6.length c0_6), .int .i64 a0_7, .int .i64 a0_8, (.slice A0_9 l0_9.length c0_9), .bool a0_10] 42 (0, 0))) ∧ Aside0 (Below w.heap.size w w'))
 case atStart => exact ⟨(0), zs, H', ⟨Nat.le_refl _⟩, ⟨by exact zk BK315⟩, ⟨zb HB⟩⟩
 case round =>
  clear H'
  try clear p2
  obtain ⟨x3_1, rfl, HA, HK1, BK315, HB⟩ := hrel
  cases gk with
  | zero => exact absurd HA.out (by simp [spec_EndOk.l0])
  | succ k1 =>
   have H := HA.out
   clear HA
   simp only [spec_EndOk.l0] at H
   replace H := sp H
   rcases H with ⟨c3, H⟩ | ⟨c3, H⟩
   ·skip
    have c3b0 := decide_eq_true c3
    clear c3
    by_cases c4 : 0 ≤ x3_1
    ·rw [if_pos c4] at H
     have c4b0 := decide_eq_true c4
     clear c4
     obtain ⟨t317, A5, H⟩ := ob H
     (try dsimp only at H)
     by_cases c6 : t317 = true
     ·subst c6
      rw [if_pos rfl] at H
      by_cases c7 : x3_1 > 0
      ·rw [if_pos c7] at H
       have c7b0 := decide_eq_true c7
       clear c7
       obtain ⟨ji8, hji8⟩ : ∃ j_ : Int, (wrap64 (x3_1 - 1)) = j_ := ⟨_, rfl⟩
       replace H : (if 0 ≤ (ji8) then (if (ji8) < (l0_6.length : Int) then (if ((rd_T104 l0_6 (ji8)).f0) ≥ ((rd_T104 l0_6 x3_1).f0) then (some false) else (if a0_0 = true then (spec_EndOk.l0 k1 (wrap64 (x3_1 + 1)) a0_0 l0_1 a0_2 l0_3 a0_4 a0_5 l0_6 a0_7 a0_8 l0_9 a0_10) else (if ((rd_T104 l0_6 x3_1).f0) = (wrap64 ((wrap64 (2 * x3_1)) + 1)) then (spec_EndOk.l0 k1 (wrap64 (x3_1 + 1)) a0_0 l0_1 a0_2 l0_3 a0_4 a0_5 l0_6 a0_7 a0_8 l0_9 a0_10) else (some false)))) else (none)) else (none)) = some r := by first | (rw [hji8] at H; exact H) | (simp only [hji8] at H ⊢; exact H)
       (try rw [hji8] at A5)
       have hji8w : (IntKind.i64.wrap (x3_1 - 1)) = ji8 := (i64_w _).trans hji8
       by_cases c9 : 0 ≤ (ji8)
       ·rw [if_pos c9] at H
        have c9b0 := decide_eq_true c9
        clear c9
        by_cases c10 : (ji8) < (l0_6.length : Int)
        ·rw [if_pos c10] at H
         have c10b0 := decide_eq_true c10
         clear c10
         by_cases c11 : ((rd_T104 l0_6 (ji8)).f0) ≥ ((rd_T104 l0_6 x3_1).f0)
         ·rw [if_pos c11] at H
          have c11b0 := decide_eq_true c11
          clear c11
          obtain rfl := Option.some.inj H
          obtain ⟨hcz12_0, hcz12_1, hcz12_2, hcz12_3, hcz12_4, hcz12_5, hcz12_6, hcz12_7, hcz12_8, hcz12_9, hcz12_10, hfz12_0, hfz12_1, hfz12_2, hfz12_3, hfz12_4, hfz12_5, hfz12_6, hfz12_7, hfz12_8, hfz12_9, hfz12_10⟩ := c11 BK315
          try go_wp2
          replace BK315 := Aside0.mk (blk_drew BK315.out)
          replace HB := Aside0.mk (below_drew1 HB.out)
          have p316 : 0 ≤ (x3_1 : Int) := of_decide_eq_true za
          have q316 : x3_1 < (l0_6.length : Int) := of_decide_eq_true za
          obtain ⟨ad316, A316_2, c316_2, A316_7, c316_7, e316, hx316_0, hx316_1, hx316_2, hx316_3, hx316_4, hx316_5, hx316_6, hx316_7, hx316_8, hx316_9, hx316_10, hx316_11, hl316_2, hi316_2, hl316_7, hi316_7⟩ := at_T104 HR0_6.out x3_1 p316 q316
          have hw316_11 := hx316_11
          have hw316_10 := hx316_10
          have hw316_9 := hx316_9
          have hw316_8 := hx316_8
          have hw316_7 := hx316_7
          have hw316_6 := hx316_6
          have hw316_5 := hx316_5
          have hw316_4 := hx316_4
          have hw316_3 := hx316_3
          have hw316_2 := hx316_2
          have hw316_1 := hx316_1
          have hw316_0 := hx316_0
          cases e316
          replace hx316_0 := cb0 hx316_0 HB
          replace hx316_1 := cb0 hx316_1 HB
          replace hx316_2 := cb0 hx316_2 HB
          replace hx316_3 := cb0 hx316_3 HB
          replace hx316_4 := cb0 hx316_4 HB
          replace hx316_5 := cb0 hx316_5 HB
          replace hx316_6 := cb0 hx316_6 HB
          replace hx316_7 := cb0 hx316_7 HB
          replace hx316_8 := cb0 hx316_8 HB
          replace hx316_9 := cb0 hx316_9 HB
          replace hx316_10 := cb0 hx316_10 HB
          replace hx316_11 := cb0 hx316_11 HB
          have HR316_2 := Aside0.mk hi316_2
          have HC316_2 := Aside0.mk hl316_2
          clear hi316_2 hl316_2
          have HR316_7 := Aside0.mk hi316_7
          have HC316_7 := Aside0.mk hl316_7
          clear hi316_7 hl316_7
          replace p316 := eq_true p316
          replace q316 := eq_true q316
          have p318 : 0 ≤ ((ji8) : Int) := of_decide_eq_true za
          have q318 : (ji8) < (l0_6.length : Int) := of_decide_eq_true za
          obtain ⟨ad318, A318_2, c318_2, A318_7, c318_7, e318, hx318_0, hx318_1, hx318_2, hx318_3, hx318_4, hx318_5, hx318_6, hx318_7, hx318_8, hx318_9, hx318_10, hx318_11, hl318_2, hi318_2, hl318_7, hi318_7⟩ := at_T104 HR0_6.out (ji8) p318 q318
          have hw318_11 := hx318_11
          have hw318_10 := hx318_10
          have hw318_9 := hx318_9
          have hw318_8 := hx318_8
          have hw318_7 := hx318_7
          have hw318_6 := hx318_6
          have hw318_5 := hx318_5
          have hw318_4 := hx318_4
          have hw318_3 := hx318_3
          have hw318_2 := hx318_2
          have hw318_1 := hx318_1
          have hw318_0 := hx318_0
          obtain rfl : ad316 = ad318 := (by injection e318)
          replace hx318_0 := cb0 hx318_0 HB
          replace hx318_1 := cb0 hx318_1 HB
          replace hx318_2 := cb0 hx318_2 HB
          replace hx318_3 := cb0 hx318_3 HB
          replace hx318_4 := cb0 hx318_4 HB
          replace hx318_5 := cb0 hx318_5 HB
          replace hx318_6 := cb0 hx318_6 HB
          replace hx318_7 := cb0 hx318_7 HB
          replace hx318_8 := cb0 hx318_8 HB
          replace hx318_9 := cb0 hx318_9 HB
          replace hx318_10 := cb0 hx318_10 HB
          replace hx318_11 := cb0 hx318_11 HB
          have HR318_2 := Aside0.mk hi318_2
          have HC318_2 := Aside0.mk hl318_2
          clear hi318_2 hl318_2
          have HR318_7 := Aside0.mk hi318_7
          have HC318_7 := Aside0.mk hl318_7
          clear hi318_7 hl318_7
          replace p318 := eq_true p318
          replace q318 := eq_true q318
          have p319 : 0 ≤ (x3_1 : Int) := of_decide_eq_true za
          have q319 : x3_1 < (l0_6.length : Int) := of_decide_eq_true za
          obtain ⟨ad319, A319_2, c319_2, A319_7, c319_7, e319, hx319_0, hx319_1, hx319_2, hx319_3, hx319_4, hx319_5, hx319_6, hx319_7, hx319_8, hx319_9, hx319_10, hx319_11, hl319_2, hi319_2, hl319_7, hi319_7⟩ := at_T104 HR0_6.out x3_1 p319 q319
          have hw319_11 := hx319_11
          have hw319_10 := hx319_10
          have hw319_9 := hx319_9
          have hw319_8 := hx319_8
          have hw319_7 := hx319_7
          have hw319_6 := hx319_6
          have hw319_5 := hx319_5
          have hw319_4 := hx319_4
          have hw319_3 := hx319_3
          have hw319_2 := hx319_2
          have hw319_1 := hx319_1
          have hw319_0 := hx319_0
          obtain rfl : ad316 = ad319 := (by injection e319)
          replace hx319_0 := cb0 hx319_0 HB
          replace hx319_1 := cb0 hx319_1 HB
          replace hx319_2 := cb0 hx319_2 HB
          replace hx319_3 := cb0 hx319_3 HB
          replace hx319_4 := cb0 hx319_4 HB
          replace hx319_5 := cb0 hx319_5 HB
          replace hx319_6 := cb0 hx319_6 HB
          replace hx319_7 := cb0 hx319_7 HB
          replace hx319_8 := cb0 hx319_8 HB
          replace hx319_9 := cb0 hx319_9 HB
          replace hx319_10 := cb0 hx319_10 HB
          replace hx319_11 := cb0 hx319_11 HB
          have HR319_2 := Aside0.mk hi319_2
          have HC319_2 := Aside0.mk hl319_2
          clear hi319_2 hl319_2
          have HR319_7 := Aside0.mk hi319_7
          have HC319_7 := Aside0.mk hl319_7
          clear hi319_7 hl319_7
          replace p319 := eq_true p319
          replace q319 := eq_true q319
          refine st 44 (an (b11 BK315) (an (cb hw316_0 HB) (an (cb hw316_1 HB) (an (cb hw316_2 HB) (an (cb hw316_3 HB) (an (cb hw316_4 HB) (an (cb hw316_5 HB) (an (cb hw316_6 HB) (an (cb hw316_7 HB) (an (cb hw316_8 HB) (an (cb hw316_9 HB) (an (cb hw316_10 HB) (an (cb hw316_11 HB) (an (cb hw318_0 HB) (an (cb hw318_1 HB) (an (cb hw318_2 HB) (an (cb hw318_3 HB) (an (cb hw318_4 HB) (an (cb hw318_5 HB) (an (cb hw318_6 HB) (an (cb hw318_7 HB) (an (cb hw318_8 HB) (an (cb hw318_9 HB) (an (cb hw318_10 HB) (an (cb hw318_11 HB) (an (cb hw319_0 HB) (an (cb hw319_1 HB) (an (cb hw319_2 HB) (an (cb hw319_3 HB) (an (cb hw319_4 HB) (an (cb hw319_5 HB) (an (cb hw319_6 HB) (an (cb hw319_7 HB) (an (cb hw319_8 HB) (an (cb hw319_9 HB) (an (cb hw319_10 HB) (cb hw319_11 HB))))))))))))))))))))))))))))))))))))) (fun hHeld => ?_); refine with_tabW spec_EndOk.tab4 spec_EndOk.bits4 (fun HT_ HW_ => ?_)
          generalize wr.drew = w13 at BK315 HB HR316_2 HR316_7 HR318_2 HR318_7 HR319_2 HR319_7 hx316_0 hx316_1 hx316_10 hx316_11 hx316_2 hx316_3 hx316_4 hx316_5 hx316_6 hx316_7 hx316_8 hx316_9 hx318_0 hx318_1 hx318_10 hx318_11 hx318_2 hx318_3 hx318_4 hx318_5 hx318_6 hx318_7 hx318_8 hx318_9 hx319_0 hx319_1 hx319_10 hx319_11 hx319_2 hx319_3 hx319_4 hx319_5 hx319_6 hx319_7 hx319_8 hx319_9 hHeld ⊢
          refine pu 0 (some 12) (bm 44 1) rfl rfl ?_
          refine pu 2 (some 14) (bm 44 5) rfl rfl ?_
          refine tk 1 (some 13) (bm 44 7) rfl rfl hHeld ?_
          refine pu 3 (some 15) (bm 44 15) rfl rfl ?_
          refine tk 4 (some 16) (bm 44 31) rfl rfl hHeld ?_
          refine one_ (i := 5) (N := some 17) (bm 44 63) rfl rfl (one_of HT_.out (by kernel_rfl)) (by decide) (fun K hK => ?_)
          refine gs Try.func92 #[.agg #[.int .i64 ((rd_T104 l0_6 x3_1).f0), .int .i64 ((rd_T104 l0_6 x3_1).f1), .slice A316_2 ((rd_T104 l0_6 x3_1).f2).length c316_2, .string ((rd_T104 l0_6 x3_1).f3), .bool ((rd_T104 l0_6 x3_1).f4), .bool ((rd_T104 l0_6 x3_1).f5), .int .i64 ((rd_T104 l0_6 x3_1).f6), .slice A316_7 ((rd_T104 l0_6 x3_1).f7).length c316_7, .string ((rd_T104 l0_6 x3_1).f8), .bool ((rd_T104 l0_6 x3_1).f9), .int .i64 ((rd_T104 l0_6 x3_1).f10.f0), .int .i64 ((rd_T104 l0_6 x3_1).f10.f1)]] ?_
          with_reducible refine (spec_l21Stream.calls k1 ((rd_T104 l0_6 x3_1).f0) ((rd_T104 l0_6 x3_1).f1) _ _ ((rd_T104 l0_6 x3_1).f2) ((rd_T104 l0_6 x3_1).f3) ((rd_T104 l0_6 x3_1).f4) ((rd_T104 l0_6 x3_1).f5) ((rd_T104 l0_6 x3_1).f6) _ _ ((rd_T104 l0_6 x3_1).f7) ((rd_T104 l0_6 x3_1).f8) ((rd_T104 l0_6 x3_1).f9) ((rd_T104 l0_6 x3_1).f10.f0) ((rd_T104 l0_6 x3_1).f10.f1) true _ ?side1 ?side2 ?side3 ?side4 A5.out).mono ?_
          (case side1 => exact zc (Kd.C_below HR316_2.out HB.out))
          (case side2 => exact HC316_2.out)
          (case side3 => exact zc (Kd.C_below HR316_7.out HB.out))
          (case side4 => exact HC316_7.out)
          rintro e w14 ⟨rfl, hb⟩
          refine ⟨_, rfl, ?_⟩
          replace BK315 := kb BK315 hb
          replace HB := Aside0.mk (below_step (zb HB) hb)
          (try clear hb)
          refine hK.out _ _ (an (b11 BK315) (an (cb hw316_0 HB) (an (cb hw316_1 HB) (an (cb hw316_2 HB) (an (cb hw316_3 HB) (an (cb hw316_4 HB) (an (cb hw316_5 HB) (an (cb hw316_6 HB) (an (cb hw316_7 HB) (an (cb hw316_8 HB) (an (cb hw316_9 HB) (an (cb hw316_10 HB) (an (cb hw316_11 HB) (an (cb hw318_0 HB) (an (cb hw318_1 HB) (an (cb hw318_2 HB) (an (cb hw318_3 HB) (an (cb hw318_4 HB) (an (cb hw318_5 HB) (an (cb hw318_6 HB) (an (cb hw318_7 HB) (an (cb hw318_8 HB) (an (cb hw318_9 HB) (an (cb hw318_10 HB) (an (cb hw318_11 HB) (an (cb hw319_0 HB) (an (cb hw319_1 HB) (an (cb hw319_2 HB) (an (cb hw319_3 HB) (an (cb hw319_4 HB) (an (cb hw319_5 HB) (an (cb hw319_6 HB) (an (cb hw319_7 HB) (an (cb hw319_8 HB) (an (cb hw319_9 HB) (an (cb hw319_10 HB) (cb hw319_11 HB))))))))))))))))))))))))))))))))))))) (fun hHeld => ?_)
          clear hK K
          refine nm ?_
          refine pu 6 (some 18) (bm 44 127) rfl rfl ?_
          refine pu 7 (some 19) (bm 44 255) rfl rfl ?_
          refine pu 8 (some 20) (bm 44 511) rfl rfl ?_
          refine pu 9 (some 21) (bm 44 1023) rfl rfl ?_
          refine pu 10 (some 22) (bm 44 2047) rfl rfl ?_
          refine pu 11 (some 23) (bm 44 4095) rfl rfl ?_
          refine pu 13 (some 25) (bm 44 12287) rfl rfl ?_
          refine pu 14 (some 26) (bm 44 28671) rfl rfl ?_
          refine pu 18 (some 30) (bm 44 290815) rfl rfl ?_
          refine pu 20 (some 32) (bm 44 1339391) rfl rfl ?_
          refine tk 12 (some 24) (bm 44 1343487) rfl rfl hHeld ?_
          refine pu 15 (some 27) (bm 44 1376255) rfl rfl ?_
          refine pu 16 (some 28) (bm 44 1441791) rfl rfl ?_
          refine tk 17 (some 29) (bm 44 1572863) rfl rfl hHeld ?_
          refine tk 19 (some 31) (bm 44 2097151) rfl rfl hHeld ?_
          refine pu 21 (some 33) (bm 44 4194303) rfl rfl ?_
          refine pu 22 (some 34) (bm 44 8388607) rfl rfl ?_
          refine tk 23 (some 35) (bm 44 16777215) rfl rfl hHeld ?_
          refine pu 24 (some 36) (bm 44 33554431) rfl rfl ?_
          refine pu 25 (some 37) (bm 44 67108863) rfl rfl ?_
          refine pu 26 (some 38) (bm 44 134217727) rfl rfl ?_
          refine pu 27 (some 39) (bm 44 268435455) rfl rfl ?_
          refine pv 28 (some 40) (bm 44 536870911) rfl rfl ?_
          refine pv 29 (some 41) (bm 44 1073741823) rfl rfl ?_
          refine pv 30 (some 42) (bm 44 2147483647) rfl rfl ?_
          refine pv 31 (some 43) (bm 44 4294967295) rfl rfl ?_
          refine pv 32 (some 44) (bm 44 8589934591) rfl rfl ?_
          refine pv 33 (some 45) (bm 44 17179869183) rfl rfl ?_
          refine pv 34 (some 46) (bm 44 34359738367) rfl rfl ?_
          refine pv 35 (some 47) (bm 44 68719476735) rfl rfl ?_
          refine pv 36 (some 48) (bm 44 137438953471) rfl rfl ?_
          refine pv 37 (some 49) (bm 44 274877906943) rfl rfl ?_
          refine pv 38 (some 50) (bm 44 549755813887) rfl rfl ?_
          refine pv 39 (some 51) (bm 44 1099511627775) rfl rfl ?_
          refine pv 40 (some 52) (bm 44 2199023255551) rfl rfl ?_
          refine pv 41 (some 53) (bm 44 4398046511103) rfl rfl ?_
          refine pv 42 (some 54) (bm 44 8796093022207) rfl rfl ?_
          refine pu 43 (some 55) (bm 44 17592186044415) rfl rfl ?_
          refine done_ (done_of HT_.out (by kernel_rfl)) ?_
          try go_wp2
          go_ret
          exact ⟨by first | rfl | (simp [errW_none, errW_some] <;> rfl) | (simp only [← hji8]; first | rfl | (simp [errW_none, errW_some] <;> rfl)) | (simp [*, errW_none, errW_some] <;> rfl) | (simp [errW_none, errW_some]; exact (by intro l_; cases l_ <;> rfl : ∀ l_ : List UInt8, l_.isEmpty = !(l_ != [])) _), zb HB⟩
         ·rw [if_neg c11] at H
          have c11b0 := decide_eq_false c11
          clear c11
          by_cases c15 : a0_0 = true
          ·subst c15
           rw [if_pos rfl] at H
           have H' := Aside0.mk H
           clear H
           obtain ⟨hcz16_0, hcz16_1, hcz16_2, hcz16_3, hcz16_4, hcz16_5, hcz16_6, hcz16_7, hcz16_8, hcz16_9, hcz16_10, hfz16_0, hfz16_1, hfz16_2, hfz16_3, hfz16_4, hfz16_5, hfz16_6, hfz16_7, hfz16_8, hfz16_9, hfz16_10⟩ := c11 BK315
           try go_wp2
           replace BK315 := Aside0.mk (blk_drew BK315.out)
           replace HB := Aside0.mk (below_drew1 HB.out)
           have p316 : 0 ≤ (x3_1 : Int) := of_decide_eq_true za
           have q316 : x3_1 < (l0_6.length : Int) := of_decide_eq_true za
           obtain ⟨ad316, A316_2, c316_2, A316_7, c316_7, e316, hx316_0, hx316_1, hx316_2, hx316_3, hx316_4, hx316_5, hx316_6, hx316_7, hx316_8, hx316_9, hx316_10, hx316_11, hl316_2, hi316_2, hl316_7, hi316_7⟩ := at_T104 HR0_6.out x3_1 p316 q316
           have hw316_11 := hx316_11
           have hw316_10 := hx316_10
           have hw316_9 := hx316_9
           have hw316_8 := hx316_8
           have hw316_7 := hx316_7
           have hw316_6 := hx316_6
           have hw316_5 := hx316_5
           have hw316_4 := hx316_4
           have hw316_3 := hx316_3
           have hw316_2 := hx316_2
           have hw316_1 := hx316_1
           have hw316_0 := hx316_0
           cases e316
           replace hx316_0 := cb0 hx316_0 HB
           replace hx316_1 := cb0 hx316_1 HB
           replace hx316_2 := cb0 hx316_2 HB
           replace hx316_3 := cb0 hx316_3 HB
           replace hx316_4 := cb0 hx316_4 HB
           replace hx316_5 := cb0 hx316_5 HB
           replace hx316_6 := cb0 hx316_6 HB
           replace hx316_7 := cb0 hx316_7 HB
           replace hx316_8 := cb0 hx316_8 HB
           replace hx316_9 := cb0 hx316_9 HB
           replace hx316_10 := cb0 hx316_10 HB
           replace hx316_11 := cb0 hx316_11 HB
           have HR316_2 := Aside0.mk hi316_2
           have HC316_2 := Aside0.mk hl316_2
           clear hi316_2 hl316_2
           have HR316_7 := Aside0.mk hi316_7
           have HC316_7 := Aside0.mk hl316_7
           clear hi316_7 hl316_7
           replace p316 := eq_true p316
           replace q316 := eq_true q316
           have p318 : 0 ≤ ((ji8) : Int) := of_decide_eq_true za
           have q318 : (ji8) < (l0_6.length : Int) := of_decide_eq_true za
           obtain ⟨ad318, A318_2, c318_2, A318_7, c318_7, e318, hx318_0, hx318_1, hx318_2, hx318_3, hx318_4, hx318_5, hx318_6, hx318_7, hx318_8, hx318_9, hx318_10, hx318_11, hl318_2, hi318_2, hl318_7, hi318_7⟩ := at_T104 HR0_6.out (ji8) p318 q318
           have hw318_11 := hx318_11
           have hw318_10 := hx318_10
           have hw318_9 := hx318_9
           have hw318_8 := hx318_8
           have hw318_7 := hx318_7
           have hw318_6 := hx318_6
           have hw318_5 := hx318_5
           have hw318_4 := hx318_4
           have hw318_3 := hx318_3
           have hw318_2 := hx318_2
           have hw318_1 := hx318_1
           have hw318_0 := hx318_0
           obtain rfl : ad316 = ad318 := (by injection e318)
           replace hx318_0 := cb0 hx318_0 HB
           replace hx318_1 := cb0 hx318_1 HB
           replace hx318_2 := cb0 hx318_2 HB
           replace hx318_3 := cb0 hx318_3 HB
           replace hx318_4 := cb0 hx318_4 HB
           replace hx318_5 := cb0 hx318_5 HB
           replace hx318_6 := cb0 hx318_6 HB
           replace hx318_7 := cb0 hx318_7 HB
           replace hx318_8 := cb0 hx318_8 HB
           replace hx318_9 := cb0 hx318_9 HB
           replace hx318_10 := cb0 hx318_10 HB
           replace hx318_11 := cb0 hx318_11 HB
           have HR318_2 := Aside0.mk hi318_2
           have HC318_2 := Aside0.mk hl318_2
           clear hi318_2 hl318_2
           have HR318_7 := Aside0.mk hi318_7
           have HC318_7 := Aside0.mk hl318_7
           clear hi318_7 hl318_7
           replace p318 := eq_true p318
           replace q318 := eq_true q318
           have p319 : 0 ≤ (x3_1 : Int) := of_decide_eq_true za
           have q319 : x3_1 < (l0_6.length : Int) := of_decide_eq_true za
           obtain ⟨ad319, A319_2, c319_2, A319_7, c319_7, e319, hx319_0, hx319_1, hx319_2, hx319_3, hx319_4, hx319_5, hx319_6, hx319_7, hx319_8, hx319_9, hx319_10, hx319_11, hl319_2, hi319_2, hl319_7, hi319_7⟩ := at_T104 HR0_6.out x3_1 p319 q319
           have hw319_11 := hx319_11
           have hw319_10 := hx319_10
           have hw319_9 := hx319_9
           have hw319_8 := hx319_8
           have hw319_7 := hx319_7
           have hw319_6 := hx319_6
           have hw319_5 := hx319_5
           have hw319_4 := hx319_4
           have hw319_3 := hx319_3
           have hw319_2 := hx319_2
           have hw319_1 := hx319_1
           have hw319_0 := hx319_0
           obtain rfl : ad316 = ad319 := (by injection e319)
           replace hx319_0 := cb0 hx319_0 HB
           replace hx319_1 := cb0 hx319_1 HB
           replace hx319_2 := cb0 hx319_2 HB
           replace hx319_3 := cb0 hx319_3 HB
           replace hx319_4 := cb0 hx319_4 HB
           replace hx319_5 := cb0 hx319_5 HB
           replace hx319_6 := cb0 hx319_6 HB
           replace hx319_7 := cb0 hx319_7 HB
           replace hx319_8 := cb0 hx319_8 HB
           replace hx319_9 := cb0 hx319_9 HB
           replace hx319_10 := cb0 hx319_10 HB
           replace hx319_11 := cb0 hx319_11 HB
           have HR319_2 := Aside0.mk hi319_2
           have HC319_2 := Aside0.mk hl319_2
           clear hi319_2 hl319_2
           have HR319_7 := Aside0.mk hi319_7
           have HC319_7 := Aside0.mk hl319_7
           clear hi319_7 hl319_7
           replace p319 := eq_true p319
           replace q319 := eq_true q319
           refine st 44 (an (b11 BK315) (an (cb hw316_0 HB) (an (cb hw316_1 HB) (an (cb hw316_2 HB) (an (cb hw316_3 HB) (an (cb hw316_4 HB) (an (cb hw316_5 HB) (an (cb hw316_6 HB) (an (cb hw316_7 HB) (an (cb hw316_8 HB) (an (cb hw316_9 HB) (an (cb hw316_10 HB) (an (cb hw316_11 HB) (an (cb hw318_0 HB) (an (cb hw318_1 HB) (an (cb hw318_2 HB) (an (cb hw318_3 HB) (an (cb hw318_4 HB) (an (cb hw318_5 HB) (an (cb hw318_6 HB) (an (cb hw318_7 HB) (an (cb hw318_8 HB) (an (cb hw318_9 HB) (an (cb hw318_10 HB) (an (cb hw318_11 HB) (an (cb hw319_0 HB) (an (cb hw319_1 HB) (an (cb hw319_2 HB) (an (cb hw319_3 HB) (an (cb hw319_4 HB) (an (cb hw319_5 HB) (an (cb hw319_6 HB) (an (cb hw319_7 HB) (an (cb hw319_8 HB) (an (cb hw319_9 HB) (an (cb hw319_10 HB) (cb hw319_11 HB))))))))))))))))))))))))))))))))))))) (fun hHeld => ?_); refine with_tabW spec_EndOk.tab4 spec_EndOk.bits4 (fun HT_ HW_ => ?_)
           generalize wr.drew = w17 at BK315 HB HR316_2 HR316_7 HR318_2 HR318_7 HR319_2 HR319_7 hx316_0 hx316_1 hx316_10 hx316_11 hx316_2 hx316_3 hx316_4 hx316_5 hx316_6 hx316_7 hx316_8 hx316_9 hx318_0 hx318_1 hx318_10 hx318_11 hx318_2 hx318_3 hx318_4 hx318_5 hx318_6 hx318_7 hx318_8 hx318_9 hx319_0 hx319_1 hx319_10 hx319_11 hx319_2 hx319_3 hx319_4 hx319_5 hx319_6 hx319_7 hx319_8 hx319_9 hHeld ⊢
           refine pu 0 (some 12) (bm 44 1) rfl rfl ?_
           refine pu 2 (some 14) (bm 44 5) rfl rfl ?_
           refine tk 1 (some 13) (bm 44 7) rfl rfl hHeld ?_
           refine pu 3 (some 15) (bm 44 15) rfl rfl ?_
           refine tk 4 (some 16) (bm 44 31) rfl rfl hHeld ?_
           refine one_ (i := 5) (N := some 17) (bm 44 63) rfl rfl (one_of HT_.out (by kernel_rfl)) (by decide) (fun K hK => ?_)
           refine gs Try.func92 #[.agg #[.int .i64 ((rd_T104 l0_6 x3_1).f0), .int .i64 ((rd_T104 l0_6 x3_1).f1), .slice A316_2 ((rd_T104 l0_6 x3_1).f2).length c316_2, .string ((rd_T104 l0_6 x3_1).f3), .bool ((rd_T104 l0_6 x3_1).f4), .bool ((rd_T104 l0_6 x3_1).f5), .int .i64 ((rd_T104 l0_6 x3_1).f6), .slice A316_7 ((rd_T104 l0_6 x3_1).f7).length c316_7, .string ((rd_T104 l0_6 x3_1).f8), .bool ((rd_T104 l0_6 x3_1).f9), .int .i64 ((rd_T104 l0_6 x3_1).f10.f0), .int .i64 ((rd_T104 l0_6 x3_1).f10.f1)]] ?_
           with_reducible refine (spec_l21Stream.calls k1 ((rd_T104 l0_6 x3_1).f0) ((rd_T104 l0_6 x3_1).f1) _ _ ((rd_T104 l0_6 x3_1).f2) ((rd_T104 l0_6 x3_1).f3) ((rd_T104 l0_6 x3_1).f4) ((rd_T104 l0_6 x3_1).f5) ((rd_T104 l0_6 x3_1).f6) _ _ ((rd_T104 l0_6 x3_1).f7) ((rd_T104 l0_6 x3_1).f8) ((rd_T104 l0_6 x3_1).f9) ((rd_T104 l0_6 x3_1).f10.f0) ((rd_T104 l0_6 x3_1).f10.f1) true _ ?side1 ?side2 ?side3 ?side4 A5.out).mono ?_
           (case side1 => exact zc (Kd.C_below HR316_2.out HB.out))
           (case side2 => exact HC316_2.out)
           (case side3 => exact zc (Kd.C_below HR316_7.out HB.out))
           (case side4 => exact HC316_7.out)
           rintro e w18 ⟨rfl, hb⟩
           refine ⟨_, rfl, ?_⟩
           replace BK315 := kb BK315 hb
           replace HB := Aside0.mk (below_step (zb HB) hb)
           (try clear hb)
           refine hK.out _ _ (an (b11 BK315) (an (cb hw316_0 HB) (an (cb hw316_1 HB) (an (cb hw316_2 HB) (an (cb hw316_3 HB) (an (cb hw316_4 HB) (an (cb hw316_5 HB) (an (cb hw316_6 HB) (an (cb hw316_7 HB) (an (cb hw316_8 HB) (an (cb hw316_9 HB) (an (cb hw316_10 HB) (an (cb hw316_11 HB) (an (cb hw318_0 HB) (an (cb hw318_1 HB) (an (cb hw318_2 HB) (an (cb hw318_3 HB) (an (cb hw318_4 HB) (an (cb hw318_5 HB) (an (cb hw318_6 HB) (an (cb hw318_7 HB) (an (cb hw318_8 HB) (an (cb hw318_9 HB) (an (cb hw318_10 HB) (an (cb hw318_11 HB) (an (cb hw319_0 HB) (an (cb hw319_1 HB) (an (cb hw319_2 HB) (an (cb hw319_3 HB) (an (cb hw319_4 HB) (an (cb hw319_5 HB) (an (cb hw319_6 HB) (an (cb hw319_7 HB) (an (cb hw319_8 HB) (an (cb hw319_9 HB) (an (cb hw319_10 HB) (cb hw319_11 HB))))))))))))))))))))))))))))))))))))) (fun hHeld => ?_)
           clear hK K
           refine nm ?_
           refine pu 6 (some 18) (bm 44 127) rfl rfl ?_
           refine pu 7 (some 19) (bm 44 255) rfl rfl ?_
           refine pu 8 (some 20) (bm 44 511) rfl rfl ?_
           refine pu 9 (some 21) (bm 44 1023) rfl rfl ?_
           refine pu 10 (some 22) (bm 44 2047) rfl rfl ?_
           refine pu 11 (some 23) (bm 44 4095) rfl rfl ?_
           refine pu 13 (some 25) (bm 44 12287) rfl rfl ?_
           refine pu 14 (some 26) (bm 44 28671) rfl rfl ?_
           refine pu 18 (some 30) (bm 44 290815) rfl rfl ?_
           refine pu 20 (some 32) (bm 44 1339391) rfl rfl ?_
           refine tk 12 (some 24) (bm 44 1343487) rfl rfl hHeld ?_
           refine pu 15 (some 27) (bm 44 1376255) rfl rfl ?_
           refine pu 16 (some 28) (bm 44 1441791) rfl rfl ?_
           refine tk 17 (some 29) (bm 44 1572863) rfl rfl hHeld ?_
           refine tk 19 (some 31) (bm 44 2097151) rfl rfl hHeld ?_
           refine pu 21 (some 33) (bm 44 4194303) rfl rfl ?_
           refine pu 22 (some 34) (bm 44 8388607) rfl rfl ?_
           refine tk 23 (some 35) (bm 44 16777215) rfl rfl hHeld ?_
           refine pu 24 (some 36) (bm 44 33554431) rfl rfl ?_
           refine pu 25 (some 37) (bm 44 67108863) rfl rfl ?_
           refine pu 26 (some 38) (bm 44 134217727) rfl rfl ?_
           refine pu 27 (some 39) (bm 44 268435455) rfl rfl ?_
           refine pu 28 (some 40) (bm 44 536870911) rfl rfl ?_
           refine tk 29 (some 41) (bm 44 1073741823) rfl rfl hHeld ?_
           refine pu 30 (some 42) (bm 44 2147483647) rfl rfl ?_
           refine pu 31 (some 43) (bm 44 4294967295) rfl rfl ?_
           refine pv 32 (some 44) (bm 44 8589934591) rfl rfl ?_
           refine pv 33 (some 45) (bm 44 17179869183) rfl rfl ?_
           refine pv 34 (some 46) (bm 44 34359738367) rfl rfl ?_
           refine pv 35 (some 47) (bm 44 68719476735) rfl rfl ?_
           refine pv 36 (some 48) (bm 44 137438953471) rfl rfl ?_
           refine pv 37 (some 49) (bm 44 274877906943) rfl rfl ?_
           refine pv 38 (some 50) (bm 44 549755813887) rfl rfl ?_
           refine pv 39 (some 51) (bm 44 1099511627775) rfl rfl ?_
           refine pv 40 (some 52) (bm 44 2199023255551) rfl rfl ?_
           refine pv 41 (some 53) (bm 44 4398046511103) rfl rfl ?_
           refine pu 42 (some 54) (bm 44 8796093022207) rfl rfl ?_
           refine pu 43 (some 55) (bm 44 17592186044415) rfl rfl ?_
           refine done_ (done_of HT_.out (by kernel_rfl)) ?_
           try go_wp2
           go_roundg k1
           case measure => have := HK1.out; omega
           case rel => exact ⟨(wrap64 (x3_1 + 1)), zs, H', ⟨by have := HK1.out; omega⟩, ⟨by exact zk BK315⟩, ⟨zb HB⟩⟩
          ·replace c15 := Bool.eq_false_iff.mpr c15
           subst c15
           rw [if_neg (show ¬ (false = true) by decide)] at H
           have HC19 := Aside0.mk H
           clear H
           obtain ⟨hcz20_0, hcz20_1, hcz20_2, hcz20_3, hcz20_4, hcz20_5, hcz20_6, hcz20_7, hcz20_8, hcz20_9, hcz20_10, hfz20_0, hfz20_1, hfz20_2, hfz20_3, hfz20_4, hfz20_5, hfz20_6, hfz20_7, hfz20_8, hfz20_9, hfz20_10⟩ := c11 BK315
           try go_wp2
           replace BK315 := Aside0.mk (blk_drew BK315.out)
           replace HB := Aside0.mk (below_drew1 HB.out)
           have p316 : 0 ≤ (x3_1 : Int) := of_decide_eq_true za
           have q316 : x3_1 < (l0_6.length : Int) := of_decide_eq_true za
           obtain ⟨ad316, A316_2, c316_2, A316_7, c316_7, e316, hx316_0, hx316_1, hx316_2, hx316_3, hx316_4, hx316_5, hx316_6, hx316_7, hx316_8, hx316_9, hx316_10, hx316_11, hl316_2, hi316_2, hl316_7, hi316_7⟩ := at_T104 HR0_6.out x3_1 p316 q316
           have hw316_11 := hx316_11
           have hw316_10 := hx316_10
           have hw316_9 := hx316_9
           have hw316_8 := hx316_8
           have hw316_7 := hx316_7
           have hw316_6 := hx316_6
           have hw316_5 := hx316_5
           have hw316_4 := hx316_4
           have hw316_3 := hx316_3
           have hw316_2 := hx316_2
           have hw316_1 := hx316_1
           have hw316_0 := hx316_0
           cases e316
           replace hx316_0 := cb0 hx316_0 HB
           replace hx316_1 := cb0 hx316_1 HB
           replace hx316_2 := cb0 hx316_2 HB
           replace hx316_3 := cb0 hx316_3 HB
           replace hx316_4 := cb0 hx316_4 HB
           replace hx316_5 := cb0 hx316_5 HB
           replace hx316_6 := cb0 hx316_6 HB
           replace hx316_7 := cb0 hx316_7 HB
           replace hx316_8 := cb0 hx316_8 HB
           replace hx316_9 := cb0 hx316_9 HB
           replace hx316_10 := cb0 hx316_10 HB
           replace hx316_11 := cb0 hx316_11 HB
           have HR316_2 := Aside0.mk hi316_2
           have HC316_2 := Aside0.mk hl316_2
           clear hi316_2 hl316_2
           have HR316_7 := Aside0.mk hi316_7
           have HC316_7 := Aside0.mk hl316_7
           clear hi316_7 hl316_7
           replace p316 := eq_true p316
           replace q316 := eq_true q316
           have p318 : 0 ≤ ((ji8) : Int) := of_decide_eq_true za
           have q318 : (ji8) < (l0_6.length : Int) := of_decide_eq_true za
           obtain ⟨ad318, A318_2, c318_2, A318_7, c318_7, e318, hx318_0, hx318_1, hx318_2, hx318_3, hx318_4, hx318_5, hx318_6, hx318_7, hx318_8, hx318_9, hx318_10, hx318_11, hl318_2, hi318_2, hl318_7, hi318_7⟩ := at_T104 HR0_6.out (ji8) p318 q318
           have hw318_11 := hx318_11
           have hw318_10 := hx318_10
           have hw318_9 := hx318_9
           have hw318_8 := hx318_8
           have hw318_7 := hx318_7
           have hw318_6 := hx318_6
           have hw318_5 := hx318_5
           have hw318_4 := hx318_4
           have hw318_3 := hx318_3
           have hw318_2 := hx318_2
           have hw318_1 := hx318_1
           have hw318_0 := hx318_0
           obtain rfl : ad316 = ad318 := (by injection e318)
           replace hx318_0 := cb0 hx318_0 HB
           replace hx318_1 := cb0 hx318_1 HB
           replace hx318_2 := cb0 hx318_2 HB
           replace hx318_3 := cb0 hx318_3 HB
           replace hx318_4 := cb0 hx318_4 HB
           replace hx318_5 := cb0 hx318_5 HB
           replace hx318_6 := cb0 hx318_6 HB
           replace hx318_7 := cb0 hx318_7 HB
           replace hx318_8 := cb0 hx318_8 HB
           replace hx318_9 := cb0 hx318_9 HB
           replace hx318_10 := cb0 hx318_10 HB
           replace hx318_11 := cb0 hx318_11 HB
           have HR318_2 := Aside0.mk hi318_2
           have HC318_2 := Aside0.mk hl318_2
           clear hi318_2 hl318_2
           have HR318_7 := Aside0.mk hi318_7
           have HC318_7 := Aside0.mk hl318_7
           clear hi318_7 hl318_7
           replace p318 := eq_true p318
           replace q318 := eq_true q318
           have p319 : 0 ≤ (x3_1 : Int) := of_decide_eq_true za
           have q319 : x3_1 < (l0_6.length : Int) := of_decide_eq_true za
           obtain ⟨ad319, A319_2, c319_2, A319_7, c319_7, e319, hx319_0, hx319_1, hx319_2, hx319_3, hx319_4, hx319_5, hx319_6, hx319_7, hx319_8, hx319_9, hx319_10, hx319_11, hl319_2, hi319_2, hl319_7, hi319_7⟩ := at_T104 HR0_6.out x3_1 p319 q319
           have hw319_11 := hx319_11
           have hw319_10 := hx319_10
           have hw319_9 := hx319_9
           have hw319_8 := hx319_8
           have hw319_7 := hx319_7
           have hw319_6 := hx319_6
           have hw319_5 := hx319_5
           have hw319_4 := hx319_4
           have hw319_3 := hx319_3
           have hw319_2 := hx319_2
           have hw319_1 := hx319_1
           have hw319_0 := hx319_0
           obtain rfl : ad316 = ad319 := (by injection e319)
           replace hx319_0 := cb0 hx319_0 HB
           replace hx319_1 := cb0 hx319_1 HB
           replace hx319_2 := cb0 hx319_2 HB
           replace hx319_3 := cb0 hx319_3 HB
           replace hx319_4 := cb0 hx319_4 HB
           replace hx319_5 := cb0 hx319_5 HB
           replace hx319_6 := cb0 hx319_6 HB
           replace hx319_7 := cb0 hx319_7 HB
           replace hx319_8 := cb0 hx319_8 HB
           replace hx319_9 := cb0 hx319_9 HB
           replace hx319_10 := cb0 hx319_10 HB
           replace hx319_11 := cb0 hx319_11 HB
           have HR319_2 := Aside0.mk hi319_2
           have HC319_2 := Aside0.mk hl319_2
           clear hi319_2 hl319_2
           have HR319_7 := Aside0.mk hi319_7
           have HC319_7 := Aside0.mk hl319_7
           clear hi319_7 hl319_7
           replace p319 := eq_true p319
           replace q319 := eq_true q319
           have p320 : 0 ≤ (x3_1 : Int) := of_decide_eq_true za
           have q320 : x3_1 < (l0_6.length : Int) := of_decide_eq_true za
           obtain ⟨ad320, A320_2, c320_2, A320_7, c320_7, e320, hx320_0, hx320_1, hx320_2, hx320_3, hx320_4, hx320_5, hx320_6, hx320_7, hx320_8, hx320_9, hx320_10, hx320_11, hl320_2, hi320_2, hl320_7, hi320_7⟩ := at_T104 HR0_6.out x3_1 p320 q320
           have hw320_11 := hx320_11
           have hw320_10 := hx320_10
           have hw320_9 := hx320_9
           have hw320_8 := hx320_8
           have hw320_7 := hx320_7
           have hw320_6 := hx320_6
           have hw320_5 := hx320_5
           have hw320_4 := hx320_4
           have hw320_3 := hx320_3
           have hw320_2 := hx320_2
           have hw320_1 := hx320_1
           have hw320_0 := hx320_0
           obtain rfl : ad316 = ad320 := (by injection e320)
           replace hx320_0 := cb0 hx320_0 HB
           replace hx320_1 := cb0 hx320_1 HB
           replace hx320_2 := cb0 hx320_2 HB
           replace hx320_3 := cb0 hx320_3 HB
           replace hx320_4 := cb0 hx320_4 HB
           replace hx320_5 := cb0 hx320_5 HB
           replace hx320_6 := cb0 hx320_6 HB
           replace hx320_7 := cb0 hx320_7 HB
           replace hx320_8 := cb0 hx320_8 HB
           replace hx320_9 := cb0 hx320_9 HB
           replace hx320_10 := cb0 hx320_10 HB
           replace hx320_11 := cb0 hx320_11 HB
           have HR320_2 := Aside0.mk hi320_2
           have HC320_2 := Aside0.mk hl320_2
           clear hi320_2 hl320_2
           have HR320_7 := Aside0.mk hi320_7
           have HC320_7 := Aside0.mk hl320_7
           clear hi320_7 hl320_7
           replace p320 := eq_true p320
           replace q320 := eq_true q320
           have ea_ := Option.some.inj (hx319_2.symm.trans hx320_2)
           injection ea_ with ea_ en_ ec_
           subst ea_
           subst ec_
           clear en_
           have ea_ := Option.some.inj (hx319_7.symm.trans hx320_7)
           injection ea_ with ea_ en_ ec_
           subst ea_
           subst ec_
           clear en_
           refine st 44 (an (b11 BK315) (an (cb hw316_0 HB) (an (cb hw316_1 HB) (an (cb hw316_2 HB) (an (cb hw316_3 HB) (an (cb hw316_4 HB) (an (cb hw316_5 HB) (an (cb hw316_6 HB) (an (cb hw316_7 HB) (an (cb hw316_8 HB) (an (cb hw316_9 HB) (an (cb hw316_10 HB) (an (cb hw316_11 HB) (an (cb hw318_0 HB) (an (cb hw318_1 HB) (an (cb hw318_2 HB) (an (cb hw318_3 HB) (an (cb hw318_4 HB) (an (cb hw318_5 HB) (an (cb hw318_6 HB) (an (cb hw318_7 HB) (an (cb hw318_8 HB) (an (cb hw318_9 HB) (an (cb hw318_10 HB) (an (cb hw318_11 HB) (an (cb hw319_0 HB) (an (cb hw319_1 HB) (an (cb hw319_2 HB) (an (cb hw319_3 HB) (an (cb hw319_4 HB) (an (cb hw319_5 HB) (an (cb hw319_6 HB) (an (cb hw319_7 HB) (an (cb hw319_8 HB) (an (cb hw319_9 HB) (an (cb hw319_10 HB) (an (cb hw319_11 HB) (an (cb hw320_0 HB) (an (cb hw320_1 HB) (an (cb hw320_2 HB) (an (cb hw320_3 HB) (an (cb hw320_4 HB) (an (cb hw320_5 HB) (an (cb hw320_6 HB) (an (cb hw320_7 HB) (an (cb hw320_8 HB) (an (cb hw320_9 HB) (an (cb hw320_10 HB) (cb hw320_11 HB))))))))))))))))))))))))))))))))))))))))))))))))) (fun hHeld => ?_); refine with_tabW spec_EndOk.tab4 spec_EndOk.bits4 (fun HT_ HW_ => ?_)
           generalize wr.drew = w21 at BK315 HB HR316_2 HR316_7 HR318_2 HR318_7 HR319_2 HR319_7 HR320_2 HR320_7 hx316_0 hx316_1 hx316_10 hx316_11 hx316_2 hx316_3 hx316_4 hx316_5 hx316_6 hx316_7 hx316_8 hx316_9 hx318_0 hx318_1 hx318_10 hx318_11 hx318_2 hx318_3 hx318_4 hx318_5 hx318_6 hx318_7 hx318_8 hx318_9 hx319_0 hx319_1 hx319_10 hx319_11 hx319_2 hx319_3 hx319_4 hx319_5 hx319_6 hx319_7 hx319_8 hx319_9 hx320_0 hx320_1 hx320_10 hx320_11 hx320_2 hx320_3 hx320_4 hx320_5 hx320_6 hx320_7 hx320_8 hx320_9 hHeld ⊢
           refine pu 0 (some 12) (bm 44 1) rfl rfl ?_
           refine pu 2 (some 14) (bm 44 5) rfl rfl ?_
           refine tk 1 (some 13) (bm 44 7) rfl rfl hHeld ?_
           refine pu 3 (some 15) (bm 44 15) rfl rfl ?_
           refine tk 4 (some 16) (bm 44 31) rfl rfl hHeld ?_
           refine one_ (i := 5) (N := some 17) (bm 44 63) rfl rfl (one_of HT_.out (by kernel_rfl)) (by decide) (fun K hK => ?_)
           refine gs Try.func92 #[.agg #[.int .i64 ((rd_T104 l0_6 x3_1).f0), .int .i64 ((rd_T104 l0_6 x3_1).f1), .slice A316_2 ((rd_T104 l0_6 x3_1).f2).length c316_2, .string ((rd_T104 l0_6 x3_1).f3), .bool ((rd_T104 l0_6 x3_1).f4), .bool ((rd_T104 l0_6 x3_1).f5), .int .i64 ((rd_T104 l0_6 x3_1).f6), .slice A316_7 ((rd_T104 l0_6 x3_1).f7).length c316_7, .string ((rd_T104 l0_6 x3_1).f8), .bool ((rd_T104 l0_6 x3_1).f9), .int .i64 ((rd_T104 l0_6 x3_1).f10.f0), .int .i64 ((rd_T104 l0_6 x3_1).f10.f1)]] ?_
           with_reducible refine (spec_l21Stream.calls k1 ((rd_T104 l0_6 x3_1).f0) ((rd_T104 l0_6 x3_1).f1) _ _ ((rd_T104 l0_6 x3_1).f2) ((rd_T104 l0_6 x3_1).f3) ((rd_T104 l0_6 x3_1).f4) ((rd_T104 l0_6 x3_1).f5) ((rd_T104 l0_6 x3_1).f6) _ _ ((rd_T104 l0_6 x3_1).f7) ((rd_T104 l0_6 x3_1).f8) ((rd_T104 l0_6 x3_1).f9) ((rd_T104 l0_6 x3_1).f10.f0) ((rd_T104 l0_6 x3_1).f10.f1) true _ ?side1 ?side2 ?side3 ?side4 A5.out).mono ?_
           (case side1 => exact zc (Kd.C_below HR316_2.out HB.out))
           (case side2 => exact HC316_2.out)
           (case side3 => exact zc (Kd.C_below HR316_7.out HB.out))
           (case side4 => exact HC316_7.out)
           rintro e w22 ⟨rfl, hb⟩
           refine ⟨_, rfl, ?_⟩
           replace BK315 := kb BK315 hb
           replace HB := Aside0.mk (below_step (zb HB) hb)
           (try clear hb)
           refine hK.out _ _ (an (b11 BK315) (an (cb hw316_0 HB) (an (cb hw316_1 HB) (an (cb hw316_2 HB) (an (cb hw316_3 HB) (an (cb hw316_4 HB) (an (cb hw316_5 HB) (an (cb hw316_6 HB) (an (cb hw316_7 HB) (an (cb hw316_8 HB) (an (cb hw316_9 HB) (an (cb hw316_10 HB) (an (cb hw316_11 HB) (an (cb hw318_0 HB) (an (cb hw318_1 HB) (an (cb hw318_2 HB) (an (cb hw318_3 HB) (an (cb hw318_4 HB) (an (cb hw318_5 HB) (an (cb hw318_6 HB) (an (cb hw318_7 HB) (an (cb hw318_8 HB) (an (cb hw318_9 HB) (an (cb hw318_10 HB) (an (cb hw318_11 HB) (an (cb hw319_0 HB) (an (cb hw319_1 HB) (an (cb hw319_2 HB) (an (cb hw319_3 HB) (an (cb hw319_4 HB) (an (cb hw319_5 HB) (an (cb hw319_6 HB) (an (cb hw319_7 HB) (an (cb hw319_8 HB) (an (cb hw319_9 HB) (an (cb hw319_10 HB) (an (cb hw319_11 HB) (an (cb hw320_0 HB) (an (cb hw320_1 HB) (an (cb hw320_2 HB) (an (cb hw320_3 HB) (an (cb hw320_4 HB) (an (cb hw320_5 HB) (an (cb hw320_6 HB) (an (cb hw320_7 HB) (an (cb hw320_8 HB) (an (cb hw320_9 HB) (an (cb hw320_10 HB) (cb hw320_11 HB))))))))))))))))))))))))))))))))))))))))))))))))) (fun hHeld => ?_)
           clear hK K
           refine nm ?_
           refine pu 6 (some 18) (bm 44 127) rfl rfl ?_
           refine pu 7 (some 19) (bm 44 255) rfl rfl ?_
           refine pu 8 (some 20) (bm 44 511) rfl rfl ?_
           refine pu 9 (some 21) (bm 44 1023) rfl rfl ?_
           refine pu 10 (some 22) (bm 44 2047) rfl rfl ?_
           refine pu 11 (some 23) (bm 44 4095) rfl rfl ?_
           refine pu 13 (some 25) (bm 44 12287) rfl rfl ?_
           refine pu 14 (some 26) (bm 44 28671) rfl rfl ?_
           refine pu 18 (some 30) (bm 44 290815) rfl rfl ?_
           refine pu 20 (some 32) (bm 44 1339391) rfl rfl ?_
           refine tk 12 (some 24) (bm 44 1343487) rfl rfl hHeld ?_
           refine pu 15 (some 27) (bm 44 1376255) rfl rfl ?_
           refine pu 16 (some 28) (bm 44 1441791) rfl rfl ?_
           refine tk 17 (some 29) (bm 44 1572863) rfl rfl hHeld ?_
           refine tk 19 (some 31) (bm 44 2097151) rfl rfl hHeld ?_
           refine pu 21 (some 33) (bm 44 4194303) rfl rfl ?_
           refine pu 22 (some 34) (bm 44 8388607) rfl rfl ?_
           refine tk 23 (some 35) (bm 44 16777215) rfl rfl hHeld ?_
           refine pu 24 (some 36) (bm 44 33554431) rfl rfl ?_
           refine pu 25 (some 37) (bm 44 67108863) rfl rfl ?_
           refine pu 26 (some 38) (bm 44 134217727) rfl rfl ?_
           refine pu 27 (some 39) (bm 44 268435455) rfl rfl ?_
           refine pu 28 (some 40) (bm 44 536870911) rfl rfl ?_
           refine tk 29 (some 41) (bm 44 1073741823) rfl rfl hHeld ?_
           refine pu 30 (some 42) (bm 44 2147483647) rfl rfl ?_
           refine pu 31 (some 43) (bm 44 4294967295) rfl rfl ?_
           refine pu 32 (some 44) (bm 44 8589934591) rfl rfl ?_
           refine pu 34 (some 46) (bm 44 25769803775) rfl rfl ?_
           refine pu 38 (some 50) (bm 44 300647710719) rfl rfl ?_
           refine pu 39 (some 51) (bm 44 850403524607) rfl rfl ?_
           refine pu 40 (some 52) (bm 44 1949915152383) rfl rfl ?_
           refine tk 33 (some 45) (bm 44 1958505086975) rfl rfl hHeld ?_
           refine pu 35 (some 47) (bm 44 1992864825343) rfl rfl ?_
           refine pu 36 (some 48) (bm 44 2061584302079) rfl rfl ?_
           refine tk 37 (some 49) (bm 44 2199023255551) rfl rfl hHeld ?_
           refine pu 41 (some 53) (bm 44 4398046511103) rfl rfl ?_
           refine pu 42 (some 54) (bm 44 8796093022207) rfl rfl ?_
           refine pu 43 (some 55) (bm 44 17592186044415) rfl rfl ?_
           refine done_ (done_of HT_.out (by kernel_rfl)) ?_
           go_upto_if 55 with (fail)
           have H := HC19.out
           clear HC19
           by_cases c23 : ((rd_T104 l0_6 x3_1).f0) = (wrap64 ((wrap64 (2 * x3_1)) + 1))
           ·rw [if_pos c23] at H
            have c23b0 : (((rd_T104 l0_6 x3_1).f0) == (wrap64 ((wrap64 (2 * x3_1)) + 1))) = true := beq_iff_eq.mpr c23
            have c23b1 : (((rd_T104 l0_6 x3_1).f0) != (wrap64 ((wrap64 (2 * x3_1)) + 1))) = false := bne_eq_false_iff_eq.mpr c23
            clear c23
            (first | rw [c23b0] | rw [c23b1] | rw [c23b2] | (simp only [i64_w, i32_w]; rw [c23b0]) | skip)
            have H' := Aside0.mk H
            clear H
            go_wp2
            go_roundg k1
            case measure => have := HK1.out; omega
            case rel => exact ⟨(wrap64 (x3_1 + 1)), zs, H', ⟨by have := HK1.out; omega⟩, ⟨by exact zk BK315⟩, ⟨zb HB⟩⟩
           ·rw [if_neg c23] at H
            have c23b0 : (((rd_T104 l0_6 x3_1).f0) == (wrap64 ((wrap64 (2 * x3_1)) + 1))) = false := beq_eq_false_iff_ne.mpr c23
            have c23b1 : (((rd_T104 l0_6 x3_1).f0) != (wrap64 ((wrap64 (2 * x3_1)) + 1))) = true := bne_iff_ne.mpr c23
            (first | rw [c23b0] | rw [c23b1] | rw [c23b2] | (simp only [i64_w, i32_w]; rw [c23b0]) | skip)
            obtain rfl := Option.some.inj H
            go_wp2
            go_ret
            exact ⟨by first | rfl | (simp [errW_none, errW_some] <;> rfl) | (simp only [← hji8]; first | rfl | (simp [errW_none, errW_some] <;> rfl)) | (simp [*, errW_none, errW_some] <;> rfl) | (simp [errW_none, errW_some]; exact (by intro l_; cases l_ <;> rfl : ∀ l_ : List UInt8, l_.isEmpty = !(l_ != [])) _), zb HB⟩
        ·rw [if_neg c10] at H
         exact absurd H (by simp)
       ·rw [if_neg c9] at H
        exact absurd H (by simp)
      ·rw [if_neg c7] at H
       have c7b0 := decide_eq_false c7
       clear c7
       by_cases c24 : a0_0 = true
       ·subst c24
        rw [if_pos rfl] at H
        have H' := Aside0.mk H
        clear H
        obtain ⟨hcz25_0, hcz25_1, hcz25_2, hcz25_3, hcz25_4, hcz25_5, hcz25_6, hcz25_7, hcz25_8, hcz25_9, hcz25_10, hfz25_0, hfz25_1, hfz25_2, hfz25_3, hfz25_4, hfz25_5, hfz25_6, hfz25_7, hfz25_8, hfz25_9, hfz25_10⟩ := c11 BK315
        try go_wp2
        replace BK315 := Aside0.mk (blk_drew BK315.out)
        replace HB := Aside0.mk (below_drew1 HB.out)
        have p316 : 0 ≤ (x3_1 : Int) := of_decide_eq_true za
        have q316 : x3_1 < (l0_6.length : Int) := of_decide_eq_true za
        try clear hHeld
        try clear hx319_2
        try clear hx319_7
        try clear hx320_2
        try clear hx320_7
        obtain ⟨ad316, A316_2, c316_2, A316_7, c316_7, e316, hx316_0, hx316_1, hx316_2, hx316_3, hx316_4, hx316_5, hx316_6, hx316_7, hx316_8, hx316_9, hx316_10, hx316_11, hl316_2, hi316_2, hl316_7, hi316_7⟩ := at_T104 HR0_6.out x3_1 p316 q316
        have hw316_11 := hx316_11
        have hw316_10 := hx316_10
        have hw316_9 := hx316_9
        have hw316_8 := hx316_8
        have hw316_7 := hx316_7
        have hw316_6 := hx316_6
        have hw316_5 := hx316_5
        have hw316_4 := hx316_4
        have hw316_3 := hx316_3
        have hw316_2 := hx316_2
        have hw316_1 := hx316_1
        have hw316_0 := hx316_0
        cases e316
        replace hx316_0 := cb0 hx316_0 HB
        replace hx316_1 := cb0 hx316_1 HB
        replace hx316_2 := cb0 hx316_2 HB
        replace hx316_3 := cb0 hx316_3 HB
        replace hx316_4 := cb0 hx316_4 HB
        replace hx316_5 := cb0 hx316_5 HB
        replace hx316_6 := cb0 hx316_6 HB
        replace hx316_7 := cb0 hx316_7 HB
        replace hx316_8 := cb0 hx316_8 HB
        replace hx316_9 := cb0 hx316_9 HB
        replace hx316_10 := cb0 hx316_10 HB
        replace hx316_11 := cb0 hx316_11 HB
        have HR316_2 := Aside0.mk hi316_2
        have HC316_2 := Aside0.mk hl316_2
        clear hi316_2 hl316_2
        have HR316_7 := Aside0.mk hi316_7
        have HC316_7 := Aside0.mk hl316_7
        clear hi316_7 hl316_7
        replace p316 := eq_true p316
        replace q316 := eq_true q316
        refine st 44 (an (b11 BK315) (an (cb hw316_0 HB) (an (cb hw316_1 HB) (an (cb hw316_2 HB) (an (cb hw316_3 HB) (an (cb hw316_4 HB) (an (cb hw316_5 HB) (an (cb hw316_6 HB) (an (cb hw316_7 HB) (an (cb hw316_8 HB) (an (cb hw316_9 HB) (an (cb hw316_10 HB) (cb hw316_11 HB))))))))))))) (fun hHeld => ?_); refine with_tabW spec_EndOk.tab4 spec_EndOk.bits4 (fun HT_ HW_ => ?_)
        generalize wr.drew = w26 at BK315 HB HR316_2 HR316_7 hx316_0 hx316_1 hx316_10 hx316_11 hx316_2 hx316_3 hx316_4 hx316_5 hx316_6 hx316_7 hx316_8 hx316_9 hHeld ⊢
        refine pu 0 (some 12) (bm 44 1) rfl rfl ?_
        refine pu 2 (some 14) (bm 44 5) rfl rfl ?_
        refine tk 1 (some 13) (bm 44 7) rfl rfl hHeld ?_
        refine pu 3 (some 15) (bm 44 15) rfl rfl ?_
        refine tk 4 (some 16) (bm 44 31) rfl rfl hHeld ?_
        refine one_ (i := 5) (N := some 17) (bm 44 63) rfl rfl (one_of HT_.out (by kernel_rfl)) (by decide) (fun K hK => ?_)
        refine gs Try.func92 #[.agg #[.int .i64 ((rd_T104 l0_6 x3_1).f0), .int .i64 ((rd_T104 l0_6 x3_1).f1), .slice A316_2 ((rd_T104 l0_6 x3_1).f2).length c316_2, .string ((rd_T104 l0_6 x3_1).f3), .bool ((rd_T104 l0_6 x3_1).f4), .bool ((rd_T104 l0_6 x3_1).f5), .int .i64 ((rd_T104 l0_6 x3_1).f6), .slice A316_7 ((rd_T104 l0_6 x3_1).f7).length c316_7, .string ((rd_T104 l0_6 x3_1).f8), .bool ((rd_T104 l0_6 x3_1).f9), .int .i64 ((rd_T104 l0_6 x3_1).f10.f0), .int .i64 ((rd_T104 l0_6 x3_1).f10.f1)]] ?_
        with_reducible refine (spec_l21Stream.calls k1 ((rd_T104 l0_6 x3_1).f0) ((rd_T104 l0_6 x3_1).f1) _ _ ((rd_T104 l0_6 x3_1).f2) ((rd_T104 l0_6 x3_1).f3) ((rd_T104 l0_6 x3_1).f4) ((rd_T104 l0_6 x3_1).f5) ((rd_T104 l0_6 x3_1).f6) _ _ ((rd_T104 l0_6 x3_1).f7) ((rd_T104 l0_6 x3_1).f8) ((rd_T104 l0_6 x3_1).f9) ((rd_T104 l0_6 x3_1).f10.f0) ((rd_T104 l0_6 x3_1).f10.f1) true _ ?side1 ?side2 ?side3 ?side4 A5.out).mono ?_
        (case side1 => exact zc (Kd.C_below HR316_2.out HB.out))
        (case side2 => exact HC316_2.out)
        (case side3 => exact zc (Kd.C_below HR316_7.out HB.out))
        (case side4 => exact HC316_7.out)
        rintro e w27 ⟨rfl, hb⟩
        refine ⟨_, rfl, ?_⟩
        replace BK315 := kb BK315 hb
        replace HB := Aside0.mk (below_step (zb HB) hb)
        (try clear hb)
        refine hK.out _ _ (an (b11 BK315) (an (cb hw316_0 HB) (an (cb hw316_1 HB) (an (cb hw316_2 HB) (an (cb hw316_3 HB) (an (cb hw316_4 HB) (an (cb hw316_5 HB) (an (cb hw316_6 HB) (an (cb hw316_7 HB) (an (cb hw316_8 HB) (an (cb hw316_9 HB) (an (cb hw316_10 HB) (cb hw316_11 HB))))))))))))) (fun hHeld => ?_)
        clear hK K
        refine nm ?_
        refine pu 6 (some 18) (bm 44 127) rfl rfl ?_
        refine pu 7 (some 19) (bm 44 255) rfl rfl ?_
        refine pu 8 (some 20) (bm 44 511) rfl rfl ?_
        refine pu 9 (some 21) (bm 44 1023) rfl rfl ?_
        refine pu 10 (some 22) (bm 44 2047) rfl rfl ?_
        refine pv 11 (some 23) (bm 44 4095) rfl rfl ?_
        refine pv 12 (some 24) (bm 44 8191) rfl rfl ?_
        refine pv 13 (some 25) (bm 44 16383) rfl rfl ?_
        refine pv 14 (some 26) (bm 44 32767) rfl rfl ?_
        refine pv 15 (some 27) (bm 44 65535) rfl rfl ?_
        refine pv 16 (some 28) (bm 44 131071) rfl rfl ?_
        refine pv 17 (some 29) (bm 44 262143) rfl rfl ?_
        refine pv 18 (some 30) (bm 44 524287) rfl rfl ?_
        refine pv 19 (some 31) (bm 44 1048575) rfl rfl ?_
        refine pv 20 (some 32) (bm 44 2097151) rfl rfl ?_
        refine pv 21 (some 33) (bm 44 4194303) rfl rfl ?_
        refine pv 22 (some 34) (bm 44 8388607) rfl rfl ?_
        refine pv 23 (some 35) (bm 44 16777215) rfl rfl ?_
        refine pv 24 (some 36) (bm 44 33554431) rfl rfl ?_
        refine pu 25 (some 37) (bm 44 67108863) rfl rfl ?_
        refine pu 26 (some 38) (bm 44 134217727) rfl rfl ?_
        refine pu 27 (some 39) (bm 44 268435455) rfl rfl ?_
        refine pu 28 (some 40) (bm 44 536870911) rfl rfl ?_
        refine tk 29 (some 41) (bm 44 1073741823) rfl rfl hHeld ?_
        refine pu 30 (some 42) (bm 44 2147483647) rfl rfl ?_
        refine pu 31 (some 43) (bm 44 4294967295) rfl rfl ?_
        refine pv 32 (some 44) (bm 44 8589934591) rfl rfl ?_
        refine pv 33 (some 45) (bm 44 17179869183) rfl rfl ?_
        refine pv 34 (some 46) (bm 44 34359738367) rfl rfl ?_
        refine pv 35 (some 47) (bm 44 68719476735) rfl rfl ?_
        refine pv 36 (some 48) (bm 44 137438953471) rfl rfl ?_
        refine pv 37 (some 49) (bm 44 274877906943) rfl rfl ?_
        refine pv 38 (some 50) (bm 44 549755813887) rfl rfl ?_
        refine pv 39 (some 51) (bm 44 1099511627775) rfl rfl ?_
        refine pv 40 (some 52) (bm 44 2199023255551) rfl rfl ?_
        refine pv 41 (some 53) (bm 44 4398046511103) rfl rfl ?_
        refine pu 42 (some 54) (bm 44 8796093022207) rfl rfl ?_
        refine pu 43 (some 55) (bm 44 17592186044415) rfl rfl ?_
        refine done_ (done_of HT_.out (by kernel_rfl)) ?_
        try go_wp2
        go_roundg k1
        case measure => have := HK1.out; omega
        case rel => exact ⟨(wrap64 (x3_1 + 1)), zs, H', ⟨by have := HK1.out; omega⟩, ⟨by exact zk BK315⟩, ⟨zb HB⟩⟩
       ·replace c24 := Bool.eq_false_iff.mpr c24
        subst c24
        rw [if_neg (show ¬ (false = true) by decide)] at H
        have HC28 := Aside0.mk H
        clear H
        obtain ⟨hcz29_0, hcz29_1, hcz29_2, hcz29_3, hcz29_4, hcz29_5, hcz29_6, hcz29_7, hcz29_8, hcz29_9, hcz29_10, hfz29_0, hfz29_1, hfz29_2, hfz29_3, hfz29_4, hfz29_5, hfz29_6, hfz29_7, hfz29_8, hfz29_9, hfz29_10⟩ := c11 BK315
        try go_wp2
        replace BK315 := Aside0.mk (blk_drew BK315.out)
        replace HB := Aside0.mk (below_drew1 HB.out)
        have p316 : 0 ≤ (x3_1 : Int) := of_decide_eq_true za
        have q316 : x3_1 < (l0_6.length : Int) := of_decide_eq_true za
        try clear hHeld
        try clear hx319_2
        try clear hx319_7
        try clear hx320_2
        try clear hx320_7
        obtain ⟨ad316, A316_2, c316_2, A316_7, c316_7, e316, hx316_0, hx316_1, hx316_2, hx316_3, hx316_4, hx316_5, hx316_6, hx316_7, hx316_8, hx316_9, hx316_10, hx316_11, hl316_2, hi316_2, hl316_7, hi316_7⟩ := at_T104 HR0_6.out x3_1 p316 q316
        have hw316_11 := hx316_11
        have hw316_10 := hx316_10
        have hw316_9 := hx316_9
        have hw316_8 := hx316_8
        have hw316_7 := hx316_7
        have hw316_6 := hx316_6
        have hw316_5 := hx316_5
        have hw316_4 := hx316_4
        have hw316_3 := hx316_3
        have hw316_2 := hx316_2
        have hw316_1 := hx316_1
        have hw316_0 := hx316_0
        cases e316
        replace hx316_0 := cb0 hx316_0 HB
        replace hx316_1 := cb0 hx316_1 HB
        replace hx316_2 := cb0 hx316_2 HB
        replace hx316_3 := cb0 hx316_3 HB
        replace hx316_4 := cb0 hx316_4 HB
        replace hx316_5 := cb0 hx316_5 HB
        replace hx316_6 := cb0 hx316_6 HB
        replace hx316_7 := cb0 hx316_7 HB
        replace hx316_8 := cb0 hx316_8 HB
        replace hx316_9 := cb0 hx316_9 HB
        replace hx316_10 := cb0 hx316_10 HB
        replace hx316_11 := cb0 hx316_11 HB
        have HR316_2 := Aside0.mk hi316_2
        have HC316_2 := Aside0.mk hl316_2
        clear hi316_2 hl316_2
        have HR316_7 := Aside0.mk hi316_7
        have HC316_7 := Aside0.mk hl316_7
        clear hi316_7 hl316_7
        replace p316 := eq_true p316
        replace q316 := eq_true q316
        have p321 : 0 ≤ (x3_1 : Int) := of_decide_eq_true za
        have q321 : x3_1 < (l0_6.length : Int) := of_decide_eq_true za
        try clear hHeld
        try clear hx319_2
        try clear hx319_7
        try clear hx320_2
        try clear hx320_7
        obtain ⟨ad321, A321_2, c321_2, A321_7, c321_7, e321, hx321_0, hx321_1, hx321_2, hx321_3, hx321_4, hx321_5, hx321_6, hx321_7, hx321_8, hx321_9, hx321_10, hx321_11, hl321_2, hi321_2, hl321_7, hi321_7⟩ := at_T104 HR0_6.out x3_1 p321 q321
        have hw321_11 := hx321_11
        have hw321_10 := hx321_10
        have hw321_9 := hx321_9
        have hw321_8 := hx321_8
        have hw321_7 := hx321_7
        have hw321_6 := hx321_6
        have hw321_5 := hx321_5
        have hw321_4 := hx321_4
        have hw321_3 := hx321_3
        have hw321_2 := hx321_2
        have hw321_1 := hx321_1
        have hw321_0 := hx321_0
        obtain rfl : ad316 = ad321 := (by injection e321)
        replace hx321_0 := cb0 hx321_0 HB
        replace hx321_1 := cb0 hx321_1 HB
        replace hx321_2 := cb0 hx321_2 HB
        replace hx321_3 := cb0 hx321_3 HB
        replace hx321_4 := cb0 hx321_4 HB
        replace hx321_5 := cb0 hx321_5 HB
        replace hx321_6 := cb0 hx321_6 HB
        replace hx321_7 := cb0 hx321_7 HB
        replace hx321_8 := cb0 hx321_8 HB
        replace hx321_9 := cb0 hx321_9 HB
        replace hx321_10 := cb0 hx321_10 HB
        replace hx321_11 := cb0 hx321_11 HB
        have HR321_2 := Aside0.mk hi321_2
        have HC321_2 := Aside0.mk hl321_2
        clear hi321_2 hl321_2
        have HR321_7 := Aside0.mk hi321_7
        have HC321_7 := Aside0.mk hl321_7
        clear hi321_7 hl321_7
        replace p321 := eq_true p321
        replace q321 := eq_true q321
        refine st 44 (an (b11 BK315) (an (cb hw316_0 HB) (an (cb hw316_1 HB) (an (cb hw316_2 HB) (an (cb hw316_3 HB) (an (cb hw316_4 HB) (an (cb hw316_5 HB) (an (cb hw316_6 HB) (an (cb hw316_7 HB) (an (cb hw316_8 HB) (an (cb hw316_9 HB) (an (cb hw316_10 HB) (an (cb hw316_11 HB) (an (cb hw321_0 HB) (an (cb hw321_1 HB) (an (cb hw321_2 HB) (an (cb hw321_3 HB) (an (cb hw321_4 HB) (an (cb hw321_5 HB) (an (cb hw321_6 HB) (an (cb hw321_7 HB) (an (cb hw321_8 HB) (an (cb hw321_9 HB) (an (cb hw321_10 HB) (cb hw321_11 HB))))))))))))))))))))))))) (fun hHeld => ?_); refine with_tabW spec_EndOk.tab4 spec_EndOk.bits4 (fun HT_ HW_ => ?_)
        generalize wr.drew = w30 at BK315 HB HR316_2 HR316_7 HR321_2 HR321_7 hx316_0 hx316_1 hx316_10 hx316_11 hx316_2 hx316_3 hx316_4 hx316_5 hx316_6 hx316_7 hx316_8 hx316_9 hx321_0 hx321_1 hx321_10 hx321_11 hx321_2 hx321_3 hx321_4 hx321_5 hx321_6 hx321_7 hx321_8 hx321_9 hHeld ⊢
        refine pu 0 (some 12) (bm 44 1) rfl rfl ?_
        refine pu 2 (some 14) (bm 44 5) rfl rfl ?_
        refine tk 1 (some 13) (bm 44 7) rfl rfl hHeld ?_
        refine pu 3 (some 15) (bm 44 15) rfl rfl ?_
        refine tk 4 (some 16) (bm 44 31) rfl rfl hHeld ?_
        refine one_ (i := 5) (N := some 17) (bm 44 63) rfl rfl (one_of HT_.out (by kernel_rfl)) (by decide) (fun K hK => ?_)
        refine gs Try.func92 #[.agg #[.int .i64 ((rd_T104 l0_6 x3_1).f0), .int .i64 ((rd_T104 l0_6 x3_1).f1), .slice A316_2 ((rd_T104 l0_6 x3_1).f2).length c316_2, .string ((rd_T104 l0_6 x3_1).f3), .bool ((rd_T104 l0_6 x3_1).f4), .bool ((rd_T104 l0_6 x3_1).f5), .int .i64 ((rd_T104 l0_6 x3_1).f6), .slice A316_7 ((rd_T104 l0_6 x3_1).f7).length c316_7, .string ((rd_T104 l0_6 x3_1).f8), .bool ((rd_T104 l0_6 x3_1).f9), .int .i64 ((rd_T104 l0_6 x3_1).f10.f0), .int .i64 ((rd_T104 l0_6 x3_1).f10.f1)]] ?_
        with_reducible refine (spec_l21Stream.calls k1 ((rd_T104 l0_6 x3_1).f0) ((rd_T104 l0_6 x3_1).f1) _ _ ((rd_T104 l0_6 x3_1).f2) ((rd_T104 l0_6 x3_1).f3) ((rd_T104 l0_6 x3_1).f4) ((rd_T104 l0_6 x3_1).f5) ((rd_T104 l0_6 x3_1).f6) _ _ ((rd_T104 l0_6 x3_1).f7) ((rd_T104 l0_6 x3_1).f8) ((rd_T104 l0_6 x3_1).f9) ((rd_T104 l0_6 x3_1).f10.f0) ((rd_T104 l0_6 x3_1).f10.f1) true _ ?side1 ?side2 ?side3 ?side4 A5.out).mono ?_
        (case side1 => exact zc (Kd.C_below HR316_2.out HB.out))
        (case side2 => exact HC316_2.out)
        (case side3 => exact zc (Kd.C_below HR316_7.out HB.out))
        (case side4 => exact HC316_7.out)
        rintro e w31 ⟨rfl, hb⟩
        refine ⟨_, rfl, ?_⟩
        replace BK315 := kb BK315 hb
        replace HB := Aside0.mk (below_step (zb HB) hb)
        (try clear hb)
        refine hK.out _ _ (an (b11 BK315) (an (cb hw316_0 HB) (an (cb hw316_1 HB) (an (cb hw316_2 HB) (an (cb hw316_3 HB) (an (cb hw316_4 HB) (an (cb hw316_5 HB) (an (cb hw316_6 HB) (an (cb hw316_7 HB) (an (cb hw316_8 HB) (an (cb hw316_9 HB) (an (cb hw316_10 HB) (an (cb hw316_11 HB) (an (cb hw321_0 HB) (an (cb hw321_1 HB) (an (cb hw321_2 HB) (an (cb hw321_3 HB) (an (cb hw321_4 HB) (an (cb hw321_5 HB) (an (cb hw321_6 HB) (an (cb hw321_7 HB) (an (cb hw321_8 HB) (an (cb hw321_9 HB) (an (cb hw321_10 HB) (cb hw321_11 HB))))))))))))))))))))))))) (fun hHeld => ?_)
        clear hK K
        refine nm ?_
        refine pu 6 (some 18) (bm 44 127) rfl rfl ?_
        refine pu 7 (some 19) (bm 44 255) rfl rfl ?_
        refine pu 8 (some 20) (bm 44 511) rfl rfl ?_
        refine pu 9 (some 21) (bm 44 1023) rfl rfl ?_
        refine pu 10 (some 22) (bm 44 2047) rfl rfl ?_
        refine pv 11 (some 23) (bm 44 4095) rfl rfl ?_
        refine pv 12 (some 24) (bm 44 8191) rfl rfl ?_
        refine pv 13 (some 25) (bm 44 16383) rfl rfl ?_
        refine pv 14 (some 26) (bm 44 32767) rfl rfl ?_
        refine pv 15 (some 27) (bm 44 65535) rfl rfl ?_
        refine pv 16 (some 28) (bm 44 131071) rfl rfl ?_
        refine pv 17 (some 29) (bm 44 262143) rfl rfl ?_
        refine pv 18 (some 30) (bm 44 524287) rfl rfl ?_
        refine pv 19 (some 31) (bm 44 1048575) rfl rfl ?_
        refine pv 20 (some 32) (bm 44 2097151) rfl rfl ?_
        refine pv 21 (some 33) (bm 44 4194303) rfl rfl ?_
        refine pv 22 (some 34) (bm 44 8388607) rfl rfl ?_
        refine pv 23 (some 35) (bm 44 16777215) rfl rfl ?_
        refine pv 24 (some 36) (bm 44 33554431) rfl rfl ?_
        refine pu 25 (some 37) (bm 44 67108863) rfl rfl ?_
        refine pu 26 (some 38) (bm 44 134217727) rfl rfl ?_
        refine pu 27 (some 39) (bm 44 268435455) rfl rfl ?_
        refine pu 28 (some 40) (bm 44 536870911) rfl rfl ?_
        refine tk 29 (some 41) (bm 44 1073741823) rfl rfl hHeld ?_
        refine pu 30 (some 42) (bm 44 2147483647) rfl rfl ?_
        refine pu 31 (some 43) (bm 44 4294967295) rfl rfl ?_
        refine pu 32 (some 44) (bm 44 8589934591) rfl rfl ?_
        refine pu 34 (some 46) (bm 44 25769803775) rfl rfl ?_
        refine pu 38 (some 50) (bm 44 300647710719) rfl rfl ?_
        refine pu 39 (some 51) (bm 44 850403524607) rfl rfl ?_
        refine pu 40 (some 52) (bm 44 1949915152383) rfl rfl ?_
        refine tk 33 (some 45) (bm 44 1958505086975) rfl rfl hHeld ?_
        refine pu 35 (some 47) (bm 44 1992864825343) rfl rfl ?_
        refine pu 36 (some 48) (bm 44 2061584302079) rfl rfl ?_
        refine tk 37 (some 49) (bm 44 2199023255551) rfl rfl hHeld ?_
        refine pu 41 (some 53) (bm 44 4398046511103) rfl rfl ?_
        refine pu 42 (some 54) (bm 44 8796093022207) rfl rfl ?_
        refine pu 43 (some 55) (bm 44 17592186044415) rfl rfl ?_
        refine done_ (done_of HT_.out (by kernel_rfl)) ?_
        go_upto_if 55 with (fail)
        have H := HC28.out
        clear HC28
        by_cases c32 : ((rd_T104 l0_6 x3_1).f0) = (wrap64 ((wrap64 (2 * x3_1)) + 1))
        ·rw [if_pos c32] at H
         have c32b0 : (((rd_T104 l0_6 x3_1).f0) == (wrap64 ((wrap64 (2 * x3_1)) + 1))) = true := beq_iff_eq.mpr c32
         have c32b1 : (((rd_T104 l0_6 x3_1).f0) != (wrap64 ((wrap64 (2 * x3_1)) + 1))) = false := bne_eq_false_iff_eq.mpr c32
         clear c32
         (first | rw [c32b0] | rw [c32b1] | rw [c32b2] | (simp only [i64_w, i32_w]; rw [c32b0]) | skip)
         have H' := Aside0.mk H
         clear H
         go_wp2
         go_roundg k1
         case measure => have := HK1.out; omega
         case rel => exact ⟨(wrap64 (x3_1 + 1)), zs, H', ⟨by have := HK1.out; omega⟩, ⟨by exact zk BK315⟩, ⟨zb HB⟩⟩
        ·rw [if_neg c32] at H
         have c32b0 : (((rd_T104 l0_6 x3_1).f0) == (wrap64 ((wrap64 (2 * x3_1)) + 1))) = false := beq_eq_false_iff_ne.mpr c32
         have c32b1 : (((rd_T104 l0_6 x3_1).f0) != (wrap64 ((wrap64 (2 * x3_1)) + 1))) = true := bne_iff_ne.mpr c32
         (first | rw [c32b0] | rw [c32b1] | rw [c32b2] | (simp only [i64_w, i32_w]; rw [c32b0]) | skip)
         obtain rfl := Option.some.inj H
         go_wp2
         go_ret
         exact ⟨ze, zb HB⟩
     ·replace c6 := Bool.eq_false_iff.mpr c6
      subst c6
      rw [if_neg (show ¬ (false = true) by decide)] at H
      obtain rfl := Option.some.inj H
      obtain ⟨hcz33_0, hcz33_1, hcz33_2, hcz33_3, hcz33_4, hcz33_5, hcz33_6, hcz33_7, hcz33_8, hcz33_9, hcz33_10, hfz33_0, hfz33_1, hfz33_2, hfz33_3, hfz33_4, hfz33_5, hfz33_6, hfz33_7, hfz33_8, hfz33_9, hfz33_10⟩ := c11 BK315
      try go_wp2
      replace BK315 := Aside0.mk (blk_drew BK315.out)
      replace HB := Aside0.mk (below_drew1 HB.out)
      have p316 : 0 ≤ (x3_1 : Int) := of_decide_eq_true za
      have q316 : x3_1 < (l0_6.length : Int) := of_decide_eq_true za
      try clear hHeld
      try clear hx319_2
      try clear hx319_7
      try clear hx320_2
      try clear hx320_7
      try clear hx321_2
      try clear hx321_7
      obtain ⟨ad316, A316_2, c316_2, A316_7, c316_7, e316, hx316_0, hx316_1, hx316_2, hx316_3, hx316_4, hx316_5, hx316_6, hx316_7, hx316_8, hx316_9, hx316_10, hx316_11, hl316_2, hi316_2, hl316_7, hi316_7⟩ := at_T104 HR0_6.out x3_1 p316 q316
      have hw316_11 := hx316_11
      have hw316_10 := hx316_10
      have hw316_9 := hx316_9
      have hw316_8 := hx316_8
      have hw316_7 := hx316_7
      have hw316_6 := hx316_6
      have hw316_5 := hx316_5
      have hw316_4 := hx316_4
      have hw316_3 := hx316_3
      have hw316_2 := hx316_2
      have hw316_1 := hx316_1
      have hw316_0 := hx316_0
      cases e316
      replace hx316_0 := cb0 hx316_0 HB
      replace hx316_1 := cb0 hx316_1 HB
      replace hx316_2 := cb0 hx316_2 HB
      replace hx316_3 := cb0 hx316_3 HB
      replace hx316_4 := cb0 hx316_4 HB
      replace hx316_5 := cb0 hx316_5 HB
      replace hx316_6 := cb0 hx316_6 HB
      replace hx316_7 := cb0 hx316_7 HB
      replace hx316_8 := cb0 hx316_8 HB
      replace hx316_9 := cb0 hx316_9 HB
      replace hx316_10 := cb0 hx316_10 HB
      replace hx316_11 := cb0 hx316_11 HB
      have HR316_2 := Aside0.mk hi316_2
      have HC316_2 := Aside0.mk hl316_2
      clear hi316_2 hl316_2
      have HR316_7 := Aside0.mk hi316_7
      have HC316_7 := Aside0.mk hl316_7
      clear hi316_7 hl316_7
      replace p316 := eq_true p316
      replace q316 := eq_true q316
      refine st 44 (an (b11 BK315) (an (cb hw316_0 HB) (an (cb hw316_1 HB) (an (cb hw316_2 HB) (an (cb hw316_3 HB) (an (cb hw316_4 HB) (an (cb hw316_5 HB) (an (cb hw316_6 HB) (an (cb hw316_7 HB) (an (cb hw316_8 HB) (an (cb hw316_9 HB) (an (cb hw316_10 HB) (cb hw316_11 HB))))))))))))) (fun hHeld => ?_); refine with_tabW spec_EndOk.tab4 spec_EndOk.bits4 (fun HT_ HW_ => ?_)
      generalize wr.drew = w34 at BK315 HB HR316_2 HR316_7 hx316_0 hx316_1 hx316_10 hx316_11 hx316_2 hx316_3 hx316_4 hx316_5 hx316_6 hx316_7 hx316_8 hx316_9 hHeld ⊢
      refine pu 0 (some 12) (bm 44 1) rfl rfl ?_
      refine pu 2 (some 14) (bm 44 5) rfl rfl ?_
      refine tk 1 (some 13) (bm 44 7) rfl rfl hHeld ?_
      refine pu 3 (some 15) (bm 44 15) rfl rfl ?_
      refine tk 4 (some 16) (bm 44 31) rfl rfl hHeld ?_
      refine one_ (i := 5) (N := some 17) (bm 44 63) rfl rfl (one_of HT_.out (by kernel_rfl)) (by decide) (fun K hK => ?_)
      refine gs Try.func92 #[.agg #[.int .i64 ((rd_T104 l0_6 x3_1).f0), .int .i64 ((rd_T104 l0_6 x3_1).f1), .slice A316_2 ((rd_T104 l0_6 x3_1).f2).length c316_2, .string ((rd_T104 l0_6 x3_1).f3), .bool ((rd_T104 l0_6 x3_1).f4), .bool ((rd_T104 l0_6 x3_1).f5), .int .i64 ((rd_T104 l0_6 x3_1).f6), .slice A316_7 ((rd_T104 l0_6 x3_1).f7).length c316_7, .string ((rd_T104 l0_6 x3_1).f8), .bool ((rd_T104 l0_6 x3_1).f9), .int .i64 ((rd_T104 l0_6 x3_1).f10.f0), .int .i64 ((rd_T104 l0_6 x3_1).f10.f1)]] ?_
      with_reducible refine (spec_l21Stream.calls k1 ((rd_T104 l0_6 x3_1).f0) ((rd_T104 l0_6 x3_1).f1) _ _ ((rd_T104 l0_6 x3_1).f2) ((rd_T104 l0_6 x3_1).f3) ((rd_T104 l0_6 x3_1).f4) ((rd_T104 l0_6 x3_1).f5) ((rd_T104 l0_6 x3_1).f6) _ _ ((rd_T104 l0_6 x3_1).f7) ((rd_T104 l0_6 x3_1).f8) ((rd_T104 l0_6 x3_1).f9) ((rd_T104 l0_6 x3_1).f10.f0) ((rd_T104 l0_6 x3_1).f10.f1) false _ ?side1 ?side2 ?side3 ?side4 A5.out).mono ?_
      (case side1 => exact zc (Kd.C_below HR316_2.out HB.out))
      (case side2 => exact HC316_2.out)
      (case side3 => exact zc (Kd.C_below HR316_7.out HB.out))
      (case side4 => exact HC316_7.out)
      rintro e w35 ⟨rfl, hb⟩
      refine ⟨_, rfl, ?_⟩
      replace BK315 := kb BK315 hb
      replace HB := Aside0.mk (below_step (zb HB) hb)
      (try clear hb)
      refine hK.out _ _ (an (b11 BK315) (an (cb hw316_0 HB) (an (cb hw316_1 HB) (an (cb hw316_2 HB) (an (cb hw316_3 HB) (an (cb hw316_4 HB) (an (cb hw316_5 HB) (an (cb hw316_6 HB) (an (cb hw316_7 HB) (an (cb hw316_8 HB) (an (cb hw316_9 HB) (an (cb hw316_10 HB) (cb hw316_11 HB))))))))))))) (fun hHeld => ?_)
      clear hK K
      refine nm ?_
      refine pu 6 (some 18) (bm 44 127) rfl rfl ?_
      refine pu 7 (some 19) (bm 44 255) rfl rfl ?_
      refine pv 8 (some 20) (bm 44 511) rfl rfl ?_
      refine pv 9 (some 21) (bm 44 1023) rfl rfl ?_
      refine pv 10 (some 22) (bm 44 2047) rfl rfl ?_
      refine pv 11 (some 23) (bm 44 4095) rfl rfl ?_
      refine pv 12 (some 24) (bm 44 8191) rfl rfl ?_
      refine pv 13 (some 25) (bm 44 16383) rfl rfl ?_
      refine pv 14 (some 26) (bm 44 32767) rfl rfl ?_
      refine pv 15 (some 27) (bm 44 65535) rfl rfl ?_
      refine pv 16 (some 28) (bm 44 131071) rfl rfl ?_
      refine pv 17 (some 29) (bm 44 262143) rfl rfl ?_
      refine pv 18 (some 30) (bm 44 524287) rfl rfl ?_
      refine pv 19 (some 31) (bm 44 1048575) rfl rfl ?_
      refine pv 20 (some 32) (bm 44 2097151) rfl rfl ?_
      refine pv 21 (some 33) (bm 44 4194303) rfl rfl ?_
      refine pv 22 (some 34) (bm 44 8388607) rfl rfl ?_
      refine pv 23 (some 35) (bm 44 16777215) rfl rfl ?_
      refine pv 24 (some 36) (bm 44 33554431) rfl rfl ?_
      refine pv 25 (some 37) (bm 44 67108863) rfl rfl ?_
      refine pu 26 (some 38) (bm 44 134217727) rfl rfl ?_
      refine pu 27 (some 39) (bm 44 268435455) rfl rfl ?_
      refine pv 28 (some 40) (bm 44 536870911) rfl rfl ?_
      refine pv 29 (some 41) (bm 44 1073741823) rfl rfl ?_
      refine pv 30 (some 42) (bm 44 2147483647) rfl rfl ?_
      refine pv 31 (some 43) (bm 44 4294967295) rfl rfl ?_
      refine pv 32 (some 44) (bm 44 8589934591) rfl rfl ?_
      refine pv 33 (some 45) (bm 44 17179869183) rfl rfl ?_
      refine pv 34 (some 46) (bm 44 34359738367) rfl rfl ?_
      refine pv 35 (some 47) (bm 44 68719476735) rfl rfl ?_
      refine pv 36 (some 48) (bm 44 137438953471) rfl rfl ?_
      refine pv 37 (some 49) (bm 44 274877906943) rfl rfl ?_
      refine pv 38 (some 50) (bm 44 549755813887) rfl rfl ?_
      refine pv 39 (some 51) (bm 44 1099511627775) rfl rfl ?_
      refine pv 40 (some 52) (bm 44 2199023255551) rfl rfl ?_
      refine pv 41 (some 53) (bm 44 4398046511103) rfl rfl ?_
      refine pv 42 (some 54) (bm 44 8796093022207) rfl rfl ?_
      refine pu 43 (some 55) (bm 44 17592186044415) rfl rfl ?_
      refine done_ (done_of HT_.out (by kernel_rfl)) ?_
      try go_wp2
      go_ret
      exact ⟨ze, zb HB⟩
    ·rw [if_neg c4] at H
     exact absurd H (by simp)
   ·skip
    have c3b0 := decide_eq_false c3
    clear c3
    have H' := Aside0.mk H
    clear H
    obtain ⟨hcz36_0, hcz36_1, hcz36_2, hcz36_3, hcz36_4, hcz36_5, hcz36_6, hcz36_7, hcz36_8, hcz36_9, hcz36_10, hfz36_0, hfz36_1, hfz36_2, hfz36_3, hfz36_4, hfz36_5, hfz36_6, hfz36_7, hfz36_8, hfz36_9, hfz36_10⟩ := c11 BK315
    go_wp2
    go_loopg [4] k1 (fun kq v4 w' => ∃ (x4_2 : Int), v4 = .int .i64 x4_2 ∧ Aside0 (spec_EndOk.l1 kq x4_2 a0_0 l0_1 a0_2 l0_3 a0_4 a0_5 l0_6 a0_7 a0_8 l0_9 a0_10 = some r) ∧ Aside0 (kq ≤ k1) ∧ Aside0 (w'.heap[gb315]? = some (.cells #[.bool a0_0, (.slice A0_1 l0_1.length c0_1), .int .i64 a0_2, (.slice A0_3 l0_3.length c0_3), .int .i64 a0_4, .string a0_5, (.slice A0_6 l0_6.length c0_6), .int .i64 a0_7, .int .i64 a0_8, (.slice A0_9 l0_9.length c0_9), .bool a0_10] 42 (0, 0))) ∧ Aside0 (Below w.heap.size w w'))
    case atStart => exact ⟨(0), zs, H', ⟨Nat.le_refl _⟩, ⟨by exact zk BK315⟩, ⟨zb HB⟩⟩
    case round =>
     clear H'
     try clear p2
     try clear c3
     try clear c3b0
     try clear p3
     try clear q3
     try clear hx3
     try clear c4
     try clear c6
     try clear p6
     try clear c9
     try clear c31
     try clear p31
     try clear q31
     try clear hx31
     try clear c32
     try clear c32b0
     try clear c32b1
     try clear c32b2
     try clear hcz33_0
     try clear hcz33_1
     try clear hcz33_10
     try clear hcz33_2
     try clear hcz33_3
     try clear hcz33_4
     try clear hcz33_5
     try clear hcz33_6
     try clear hcz33_7
     try clear hcz33_8
     try clear hcz33_9
     try clear hcz36_0
     try clear hcz36_1
     try clear hcz36_10
     try clear hcz36_2
     try clear hcz36_3
     try clear hcz36_4
     try clear hcz36_5
     try clear hcz36_6
     try clear hcz36_7
     try clear hcz36_8
     try clear hcz36_9
     try clear hfz33_0
     try clear hfz33_1
     try clear hfz33_10
     try clear hfz33_2
     try clear hfz33_3
     try clear hfz33_4
     try clear hfz33_5
     try clear hfz33_6
     try clear hfz33_7
     try clear hfz33_8
     try clear hfz33_9
     try clear hfz36_0
     try clear hfz36_1
     try clear hfz36_10
     try clear hfz36_2
     try clear hfz36_3
     try clear hfz36_4
     try clear hfz36_5
     try clear hfz36_6
     try clear hfz36_7
     try clear hfz36_8
     try clear hfz36_9
     try clear hx316_0
     try clear hx316_1
     try clear hx316_10
     try clear hx316_11
     try clear hx316_2
     try clear hx316_3
     try clear hx316_4
     try clear hx316_5
     try clear hx316_6
     try clear hx316_7
     try clear hx316_8
     try clear hx316_9
     try clear p316
     try clear q316
     obtain ⟨x4_2, rfl, HA, HK2, BK315, HB⟩ := hrel
     cases gk with
     | zero => exact absurd HA.out (by simp [spec_EndOk.l1])
     | succ k2 =>
      have H := HA.out
      clear HA
      simp only [spec_EndOk.l1] at H
      replace H := sp H
      rcases H with ⟨c37, H⟩ | ⟨c37, H⟩
      ·skip
       have c37b0 := decide_eq_true c37
       clear c37
       by_cases c38 : 0 ≤ x4_2
       ·rw [if_pos c38] at H
        have c38b0 := decide_eq_true c38
        clear c38
        obtain ⟨t323, A39, H⟩ := ob H
        (try dsimp only at H)
        have HC40 := Aside0.mk H
        clear H
        obtain ⟨hcz41_0, hcz41_1, hcz41_2, hcz41_3, hcz41_4, hcz41_5, hcz41_6, hcz41_7, hcz41_8, hcz41_9, hcz41_10, hfz41_0, hfz41_1, hfz41_2, hfz41_3, hfz41_4, hfz41_5, hfz41_6, hfz41_7, hfz41_8, hfz41_9, hfz41_10⟩ := c11 BK315
        have p322 : 0 ≤ (x4_2 : Int) := of_decide_eq_true za
        have q322 : x4_2 < (l0_9.length : Int) := of_decide_eq_true za
        obtain ⟨ad322, e322, hx322_0, hx322_1, hx322_2, hx322_3⟩ := at_T110 HR0_9.out x4_2 p322 q322
        cases e322
        replace hx322_0 := cb0 hx322_0 HB
        replace hx322_1 := cb0 hx322_1 HB
        replace hx322_2 := cb0 hx322_2 HB
        replace hx322_3 := cb0 hx322_3 HB
        replace p322 := eq_true p322
        replace q322 := eq_true q322
        go_upto_if 69 with (first | ((with_reducible refine gq 93 rfl ?_); refine gl (some 68) Try.func93 #[.agg #[.int .i64 ((rd_T110 l0_9 x4_2).f0), .bool ((rd_T110 l0_9 x4_2).f1), .int .i64 ((rd_T110 l0_9 x4_2).f2), .string ((rd_T110 l0_9 x4_2).f3)]] ?_; (with_reducible refine (spec_FrameOk.calls k2 ((rd_T110 l0_9 x4_2).f0) ((rd_T110 l0_9 x4_2).f1) ((rd_T110 l0_9 x4_2).f2) ((rd_T110 l0_9 x4_2).f3) t323 _ A39.out).mono ?_); rintro e w42 ⟨rfl, hb⟩; refine ⟨_, rfl, ?_⟩; replace BK315 := kb BK315 hb; replace HB := Aside0.mk (below_step (zb HB) hb); (try clear hb)))
        (try simp only [Act.put, s1, s2, s3])
        have H := HC40.out
        clear HC40
        by_cases c43 : t323 = true
        ·subst c43
         rw [if_pos rfl] at H
         have H' := Aside0.mk H
         clear H
         go_wp2
         go_roundg k2
         case measure => have := HK1.out; have := HK2.out; omega
         case rel => exact ⟨(wrap64 (x4_2 + 1)), zs, H', ⟨by have := HK1.out; have := HK2.out; omega⟩, ⟨by exact zk BK315⟩, ⟨zb HB⟩⟩
        ·replace c43 := Bool.eq_false_iff.mpr c43
         subst c43
         rw [if_neg (show ¬ (false = true) by decide)] at H
         obtain rfl := Option.some.inj H
         go_wp2
         go_ret
         exact ⟨ze, zb HB⟩
       ·rw [if_neg c38] at H
        exact absurd H (by simp)
      ·skip
       have c37b0 := decide_eq_false c37
       clear c37
       obtain ⟨t324, A44, H⟩ := ob H
       (try dsimp only at H)
       by_cases c45 : t324 = true
       ·subst c45
        rw [if_pos rfl] at H
        obtain ⟨t325, A46, H⟩ := ob H
        (try dsimp only at H)
        by_cases c47 : t325 = true
        ·subst c47
         rw [if_pos rfl] at H
         obtain ⟨t326, A48, H⟩ := ob H
         (try dsimp only at H)
         by_cases c49 : t326 = true
         ·subst c49
          rw [if_pos rfl] at H
          replace H := sp H
          rcases H with ⟨c50, H⟩ | ⟨c50, H⟩
          ·skip
           have c50b0 := decide_eq_true c50
           have c50b1 := decide_eq_true (by omega)
           clear c50
           obtain rfl := Option.some.inj H
           obtain ⟨hcz51_0, hcz51_1, hcz51_2, hcz51_3, hcz51_4, hcz51_5, hcz51_6, hcz51_7, hcz51_8, hcz51_9, hcz51_10, hfz51_0, hfz51_1, hfz51_2, hfz51_3, hfz51_4, hfz51_5, hfz51_6, hfz51_7, hfz51_8, hfz51_9, hfz51_10⟩ := c11 BK315
           go_wp2_with (first | ((with_reducible refine gq 15 rfl ?_); refine gl (some 72) Try.func15 #[.agg #[.slice A0_1 l0_1.length c0_1, .int .i64 a0_2]] ?_; (with_reducible refine (spec_TableOk.calls k2 _ _ l0_1 a0_2 true _ ?side1 ?side2 A44.out).mono ?_); (case side1 => exact zc (Kd.C_below HR0_1.out HB.out)); (case side2 => exact HC0_1.out); rintro e w52 ⟨rfl, hb⟩; refine ⟨_, rfl, ?_⟩; replace BK315 := kb BK315 hb; replace HB := Aside0.mk (below_step (zb HB) hb); (try clear hb); obtain ⟨hcz53_0, hcz53_1, hcz53_2, hcz53_3, hcz53_4, hcz53_5, hcz53_6, hcz53_7, hcz53_8, hcz53_9, hcz53_10, hfz53_0, hfz53_1, hfz53_2, hfz53_3, hfz53_4, hfz53_5, hfz53_6, hfz53_7, hfz53_8, hfz53_9, hfz53_10⟩ := c11 BK315) | (go_at_call 15; (with_reducible refine (spec_TableOk.calls k2 _ _ l0_3 a0_4 true _ ?side1 ?side2 A46.out).mono ?_); (case side1 => exact zc (Kd.C_below HR0_3.out HB.out)); (case side2 => exact HC0_3.out); rintro e w54 ⟨rfl, hb⟩; replace BK315 := kb BK315 hb; replace HB := Aside0.mk (below_step (zb HB) hb); (try clear hb); obtain ⟨hcz55_0, hcz55_1, hcz55_2, hcz55_3, hcz55_4, hcz55_5, hcz55_6, hcz55_7, hcz55_8, hcz55_9, hcz55_10, hfz55_0, hfz55_1, hfz55_2, hfz55_3, hfz55_4, hfz55_5, hfz55_6, hfz55_7, hfz55_8, hfz55_9, hfz55_10⟩ := c11 BK315) | (go_at_call 94; (with_reducible refine (spec_FlowOk.calls a0_7 a0_8 true _ A48.out).mono ?_); rintro e w56 ⟨rfl, hb⟩; replace BK315 := kb BK315 hb; replace HB := Aside0.mk (below_step (zb HB) hb); (try clear hb); obtain ⟨hcz57_0, hcz57_1, hcz57_2, hcz57_3, hcz57_4, hcz57_5, hcz57_6, hcz57_7, hcz57_8, hcz57_9, hcz57_10, hfz57_0, hfz57_1, hfz57_2, hfz57_3, hfz57_4, hfz57_5, hfz57_6, hfz57_7, hfz57_8, hfz57_9, hfz57_10⟩ := c11 BK315))
           go_ret
           exact ⟨ze, zb HB⟩
          ·skip
           have c50b0 := decide_eq_false c50
           have c50b1 := decide_eq_false (by omega)
           clear c50
           obtain rfl := Option.some.inj H
           obtain ⟨hcz58_0, hcz58_1, hcz58_2, hcz58_3, hcz58_4, hcz58_5, hcz58_6, hcz58_7, hcz58_8, hcz58_9, hcz58_10, hfz58_0, hfz58_1, hfz58_2, hfz58_3, hfz58_4, hfz58_5, hfz58_6, hfz58_7, hfz58_8, hfz58_9, hfz58_10⟩ := c11 BK315
           go_wp2_with (first | ((with_reducible refine gq 15 rfl ?_); refine gl (some 72) Try.func15 #[.agg #[.slice A0_1 l0_1.length c0_1, .int .i64 a0_2]] ?_; (with_reducible refine (spec_TableOk.calls k2 _ _ l0_1 a0_2 true _ ?side1 ?side2 A44.out).mono ?_); (case side1 => exact zc (Kd.C_below HR0_1.out HB.out)); (case side2 => exact HC0_1.out); rintro e w59 ⟨rfl, hb⟩; refine ⟨_, rfl, ?_⟩; replace BK315 := kb BK315 hb; replace HB := Aside0.mk (below_step (zb HB) hb); (try clear hb); obtain ⟨hcz60_0, hcz60_1, hcz60_2, hcz60_3, hcz60_4, hcz60_5, hcz60_6, hcz60_7, hcz60_8, hcz60_9, hcz60_10, hfz60_0, hfz60_1, hfz60_2, hfz60_3, hfz60_4, hfz60_5, hfz60_6, hfz60_7, hfz60_8, hfz60_9, hfz60_10⟩ := c11 BK315) | (go_at_call 15; (with_reducible refine (spec_TableOk.calls k2 _ _ l0_3 a0_4 true _ ?side1 ?side2 A46.out).mono ?_); (case side1 => exact zc (Kd.C_below HR0_3.out HB.out)); (case side2 => exact HC0_3.out); rintro e w61 ⟨rfl, hb⟩; replace BK315 := kb BK315 hb; replace HB := Aside0.mk (below_step (zb HB) hb); (try clear hb); obtain ⟨hcz62_0, hcz62_1, hcz62_2, hcz62_3, hcz62_4, hcz62_5, hcz62_6, hcz62_7, hcz62_8, hcz62_9, hcz62_10, hfz62_0, hfz62_1, hfz62_2, hfz62_3, hfz62_4, hfz62_5, hfz62_6, hfz62_7, hfz62_8, hfz62_9, hfz62_10⟩ := c11 BK315) | (go_at_call 94; (with_reducible refine (spec_FlowOk.calls a0_7 a0_8 true _ A48.out).mono ?_); rintro e w63 ⟨rfl, hb⟩; replace BK315 := kb BK315 hb; replace HB := Aside0.mk (below_step (zb HB) hb); (try clear hb); obtain ⟨hcz64_0, hcz64_1, hcz64_2, hcz64_3, hcz64_4, hcz64_5, hcz64_6, hcz64_7, hcz64_8, hcz64_9, hcz64_10, hfz64_0, hfz64_1, hfz64_2, hfz64_3, hfz64_4, hfz64_5, hfz64_6, hfz64_7, hfz64_8, hfz64_9, hfz64_10⟩ := c11 BK315))
           go_ret
           exact ⟨ze, zb HB⟩
         ·replace c49 := Bool.eq_false_iff.mpr c49
          subst c49
          rw [if_neg (show ¬ (false = true) by decide)] at H
          obtain rfl := Option.some.inj H
          obtain ⟨hcz65_0, hcz65_1, hcz65_2, hcz65_3, hcz65_4, hcz65_5, hcz65_6, hcz65_7, hcz65_8, hcz65_9, hcz65_10, hfz65_0, hfz65_1, hfz65_2, hfz65_3, hfz65_4, hfz65_5, hfz65_6, hfz65_7, hfz65_8, hfz65_9, hfz65_10⟩ := c11 BK315
          go_wp2_with (first | ((with_reducible refine gq 15 rfl ?_); refine gl (some 72) Try.func15 #[.agg #[.slice A0_1 l0_1.length c0_1, .int .i64 a0_2]] ?_; (with_reducible refine (spec_TableOk.calls k2 _ _ l0_1 a0_2 true _ ?side1 ?side2 A44.out).mono ?_); (case side1 => exact zc (Kd.C_below HR0_1.out HB.out)); (case side2 => exact HC0_1.out); rintro e w66 ⟨rfl, hb⟩; refine ⟨_, rfl, ?_⟩; replace BK315 := kb BK315 hb; replace HB := Aside0.mk (below_step (zb HB) hb); (try clear hb); obtain ⟨hcz67_0, hcz67_1, hcz67_2, hcz67_3, hcz67_4, hcz67_5, hcz67_6, hcz67_7, hcz67_8, hcz67_9, hcz67_10, hfz67_0, hfz67_1, hfz67_2, hfz67_3, hfz67_4, hfz67_5, hfz67_6, hfz67_7, hfz67_8, hfz67_9, hfz67_10⟩ := c11 BK315) | (go_at_call 15; (with_reducible refine (spec_TableOk.calls k2 _ _ l0_3 a0_4 true _ ?side1 ?side2 A46.out).mono ?_); (case side1 => exact zc (Kd.C_below HR0_3.out HB.out)); (case side2 => exact HC0_3.out); rintro e w68 ⟨rfl, hb⟩; replace BK315 := kb BK315 hb; replace HB := Aside0.mk (below_step (zb HB) hb); (try clear hb); obtain ⟨hcz69_0, hcz69_1, hcz69_2, hcz69_3, hcz69_4, hcz69_5, hcz69_6, hcz69_7, hcz69_8, hcz69_9, hcz69_10, hfz69_0, hfz69_1, hfz69_2, hfz69_3, hfz69_4, hfz69_5, hfz69_6, hfz69_7, hfz69_8, hfz69_9, hfz69_10⟩ := c11 BK315) | (go_at_call 94; (with_reducible refine (spec_FlowOk.calls a0_7 a0_8 false _ A48.out).mono ?_); rintro e w70 ⟨rfl, hb⟩; replace BK315 := kb BK315 hb; replace HB := Aside0.mk (below_step (zb HB) hb); (try clear hb)))
          go_ret
          exact ⟨ze, zb HB⟩
        ·replace c47 := Bool.eq_false_iff.mpr c47
         subst c47
         rw [if_neg (show ¬ (false = true) by decide)] at H
         obtain rfl := Option.some.inj H
         obtain ⟨hcz71_0, hcz71_1, hcz71_2, hcz71_3, hcz71_4, hcz71_5, hcz71_6, hcz71_7, hcz71_8, hcz71_9, hcz71_10, hfz71_0, hfz71_1, hfz71_2, hfz71_3, hfz71_4, hfz71_5, hfz71_6, hfz71_7, hfz71_8, hfz71_9, hfz71_10⟩ := c11 BK315
         go_wp2_with (first | ((with_reducible refine gq 15 rfl ?_); refine gl (some 72) Try.func15 #[.agg #[.slice A0_1 l0_1.length c0_1, .int .i64 a0_2]] ?_; (with_reducible refine (spec_TableOk.calls k2 _ _ l0_1 a0_2 true _ ?side1 ?side2 A44.out).mono ?_); (case side1 => exact zc (Kd.C_below HR0_1.out HB.out)); (case side2 => exact HC0_1.out); rintro e w72 ⟨rfl, hb⟩; refine ⟨_, rfl, ?_⟩; replace BK315 := kb BK315 hb; replace HB := Aside0.mk (below_step (zb HB) hb); (try clear hb); obtain ⟨hcz73_0, hcz73_1, hcz73_2, hcz73_3, hcz73_4, hcz73_5, hcz73_6, hcz73_7, hcz73_8, hcz73_9, hcz73_10, hfz73_0, hfz73_1, hfz73_2, hfz73_3, hfz73_4, hfz73_5, hfz73_6, hfz73_7, hfz73_8, hfz73_9, hfz73_10⟩ := c11 BK315) | (go_at_call 15; (with_reducible refine (spec_TableOk.calls k2 _ _ l0_3 a0_4 false _ ?side1 ?side2 A46.out).mono ?_); (case side1 => exact zc (Kd.C_below HR0_3.out HB.out)); (case side2 => exact HC0_3.out); rintro e w74 ⟨rfl, hb⟩; replace BK315 := kb BK315 hb; replace HB := Aside0.mk (below_step (zb HB) hb); (try clear hb)))
         go_ret
         exact ⟨ze, zb HB⟩
       ·replace c45 := Bool.eq_false_iff.mpr c45
        subst c45
        rw [if_neg (show ¬ (false = true) by decide)] at H
        obtain rfl := Option.some.inj H
        obtain ⟨hcz75_0, hcz75_1, hcz75_2, hcz75_3, hcz75_4, hcz75_5, hcz75_6, hcz75_7, hcz75_8, hcz75_9, hcz75_10, hfz75_0, hfz75_1, hfz75_2, hfz75_3, hfz75_4, hfz75_5, hfz75_6, hfz75_7, hfz75_8, hfz75_9, hfz75_10⟩ := c11 BK315
        go_wp2_with (first | ((with_reducible refine gq 15 rfl ?_); refine gl (some 72) Try.func15 #[.agg #[.slice A0_1 l0_1.length c0_1, .int .i64 a0_2]] ?_; (with_reducible refine (spec_TableOk.calls k2 _ _ l0_1 a0_2 false _ ?side1 ?side2 A44.out).mono ?_); (case side1 => exact zc (Kd.C_below HR0_1.out HB.out)); (case side2 => exact HC0_1.out); rintro e w76 ⟨rfl, hb⟩; refine ⟨_, rfl, ?_⟩; replace BK315 := kb BK315 hb; replace HB := Aside0.mk (below_step (zb HB) hb); (try clear hb)))
        go_ret
        exact ⟨ze, zb HB⟩

end Go.Proofs.Ytlpibelofcabhaa.PFnExactEndLeave
