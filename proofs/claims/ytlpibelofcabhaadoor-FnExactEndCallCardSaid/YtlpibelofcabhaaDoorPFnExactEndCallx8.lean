-- WRITTEN BY a turned print (wip/tools of the prover's repo)
import Derived.Test.YtlpibelofcabhaaDoorPFnExactEndCallx0
import Derived.Test.YtlpibelofcabhaaDoorPFnExactEndCallx6
import Derived.Test.YtlpibelofcabhaaDoorPFnExactEndCallx7
namespace Go.Proofs.YtlpibelofcabhaaDoor.PFnExactEndCall
open Go.RowKit Go.Proofs.YtlpibelofcabhaaDoorW.PrintWords Go.Proofs.YtlpibelofcabhaaDoorW.PrintLast Go.Proofs.YtlpibelofcabhaaDoorW.PrintMore Go.Proofs.YtlpibelofcabhaaDoor.Lm
attribute [local go_sem] max2_int min2_int max_two min_two max_three min_three max_four min_four   -- for this text's walks alone
set_option linter.unusedVariables false
set_option linter.unusedSimpArgs false

/-! ### impl_EndOk: function 21 -/
-- thin
def impl_EndOk.l0 : Nat → List (S58) → Int → Int → Bool → List (S61) → Int → List (S61) → Int → ByteArray → List (S58) → Int → Int → List (S79) → Bool → Option (Bool)
 | 0, _, _, _, _, _, _, _, _, _, _, _, _, _, _ => none
 | k + 1, x6, x7, x8, x380000, x380001, x380002, x380003, x380004, x380005, x380006, x380007, x380008, x380009, x380010 => if x8 < x7 then (if 0 ≤ x8 then (if x8 < (x6.length : Int) then ((impl_isStream.f ((rd_T58 x6 x8).f0)).bind fun t382 => (if t382 = true then (if x8 > 0 then (if 0 ≤ (wrap64 (x8 - 1)) then (if (wrap64 (x8 - 1)) < (x380006.length : Int) then (if ((rd_T58 x6 x8).f0) ≤ ((rd_T58 x380006 (wrap64 (x8 - 1))).f0) then (some false) else (if x380000 = true then ((impl_streamOk.f k ((rd_T58 x6 x8).f0) ((rd_T58 x6 x8).f1) ((rd_T58 x6 x8).f2) ((rd_T58 x6 x8).f3) ((rd_T58 x6 x8).f4) ((rd_T58 x6 x8).f5) ((rd_T58 x6 x8).f6) ((rd_T58 x6 x8).f7) ((rd_T58 x6 x8).f8) ((rd_T58 x6 x8).f9) ((rd_T58 x6 x8).f10.f0) ((rd_T58 x6 x8).f10.f1)).bind fun t384 => (if t384 = true then (impl_EndOk.l0 k x6 x7 (wrap64 (x8 + 1)) x380000 x380001 x380002 x380003 x380004 x380005 x380006 x380007 x380008 x380009 x380010) else (some false))) else (if ((rd_T58 x6 x8).f0) = (wrap64 ((wrap64 (2 * x8)) + 1)) then ((impl_streamOk.f k ((rd_T58 x6 x8).f0) ((rd_T58 x6 x8).f1) ((rd_T58 x6 x8).f2) ((rd_T58 x6 x8).f3) ((rd_T58 x6 x8).f4) ((rd_T58 x6 x8).f5) ((rd_T58 x6 x8).f6) ((rd_T58 x6 x8).f7) ((rd_T58 x6 x8).f8) ((rd_T58 x6 x8).f9) ((rd_T58 x6 x8).f10.f0) ((rd_T58 x6 x8).f10.f1)).bind fun t385 => (if t385 = true then (impl_EndOk.l0 k x6 x7 (wrap64 (x8 + 1)) x380000 x380001 x380002 x380003 x380004 x380005 x380006 x380007 x380008 x380009 x380010) else (some false))) else (some false)))) else (none)) else (none)) else (if x380000 = true then ((impl_streamOk.f k ((rd_T58 x6 x8).f0) ((rd_T58 x6 x8).f1) ((rd_T58 x6 x8).f2) ((rd_T58 x6 x8).f3) ((rd_T58 x6 x8).f4) ((rd_T58 x6 x8).f5) ((rd_T58 x6 x8).f6) ((rd_T58 x6 x8).f7) ((rd_T58 x6 x8).f8) ((rd_T58 x6 x8).f9) ((rd_T58 x6 x8).f10.f0) ((rd_T58 x6 x8).f10.f1)).bind fun t386 => (if t386 = true then (impl_EndOk.l0 k x6 x7 (wrap64 (x8 + 1)) x380000 x380001 x380002 x380003 x380004 x380005 x380006 x380007 x380008 x380009 x380010) else (some false))) else (if ((rd_T58 x6 x8).f0) = (wrap64 ((wrap64 (2 * x8)) + 1)) then ((impl_streamOk.f k ((rd_T58 x6 x8).f0) ((rd_T58 x6 x8).f1) ((rd_T58 x6 x8).f2) ((rd_T58 x6 x8).f3) ((rd_T58 x6 x8).f4) ((rd_T58 x6 x8).f5) ((rd_T58 x6 x8).f6) ((rd_T58 x6 x8).f7) ((rd_T58 x6 x8).f8) ((rd_T58 x6 x8).f9) ((rd_T58 x6 x8).f10.f0) ((rd_T58 x6 x8).f10.f1)).bind fun t387 => (if t387 = true then (impl_EndOk.l0 k x6 x7 (wrap64 (x8 + 1)) x380000 x380001 x380002 x380003 x380004 x380005 x380006 x380007 x380008 x380009 x380010) else (some false))) else (some false)))) else (some false))) else (none)) else (none)) else (if (x380009.length : Int) ≤ 60 then ((ContainsFunc_Frame.f k x380009 54).bind fun t388 => (if t388 = true then (some false) else (if (x380005.size : Int) ≤ 600 then ((impl_TableOk.f k x380001 x380002).bind fun t389 => (if t389 = true then ((impl_TableOk.f k x380003 x380004).bind fun t390 => (if t390 = true then ((impl_FlowOk.f x380007 x380008).bind fun t391 => (some t391)) else (some false))) else (some false))) else (some false)))) else (some false))
def impl_EndOk.f (k : Nat) (a0_0 : Bool) (l0_1 : List (S61)) (a0_2 : Int) (l0_3 : List (S61)) (a0_4 : Int) (a0_5 : ByteArray) (l0_6 : List (S58)) (a0_7 : Int) (a0_8 : Int) (l0_9 : List (S79)) (a0_10 : Bool) : Option (Bool) := impl_EndOk.l0 k l0_6 (l0_6.length : Int) 0 a0_0 l0_1 a0_2 l0_3 a0_4 a0_5 l0_6 a0_7 a0_8 l0_9 a0_10
theorem impl_EndOk.mono_l : ∀ k, (∀ y0 y1 y2 y3 y4 y5 y6 y7 y8 y9 y10 y11 y12 y13, LeO (impl_EndOk.l0 k y0 y1 y2 y3 y4 y5 y6 y7 y8 y9 y10 y11 y12 y13) (impl_EndOk.l0 (k + 1) y0 y1 y2 y3 y4 y5 y6 y7 y8 y9 y10 y11 y12 y13))
 | 0 => fun _ _ _ _ _ _ _ _ _ _ _ _ _ _ r h => by simp [impl_EndOk.l0] at h
 | k + 1 => by
  have ih0 := impl_EndOk.mono_l k
  ·intro y0 y1 y2 y3 y4 y5 y6 y7 y8 y9 y10 y11 y12 y13
   unfold impl_EndOk.l0
   have m0 := @ContainsFunc_Frame.mono
   have m1 := @impl_TableOk.mono
   have m2 := @impl_streamOk.mono
   exact zm
theorem impl_EndOk.mono : ∀ a0 a1 a2 a3 a4 a5 a6 a7 a8 a9 a10 k, LeO (impl_EndOk.f k a0 a1 a2 a3 a4 a5 a6 a7 a8 a9 a10) (impl_EndOk.f (k + 1) a0 a1 a2 a3 a4 a5 a6 a7 a8 a9 a10) := by
 intro a0 a1 a2 a3 a4 a5 a6 a7 a8 a9 a10 k
 have ih0 := impl_EndOk.mono_l k
 unfold impl_EndOk.f
 have m0 := @ContainsFunc_Frame.mono
 have m1 := @impl_TableOk.mono
 have m2 := @impl_streamOk.mono
 exact zm
def impl_EndOk.T4 : Bool × List (List Nat × List Nat) := (true, [([], []), ([0], [0]), ([1], [1]), ([2], [2]), ([3, 2], [3]), ([4], [4]), ([5, 4], [4, 5]), ([6, 4, 4], [4, 6]), ([7], [7]), ([8, 7], [7, 8]), ([7], [7]), ([10, 7], [7, 10]), ([7], [7]), ([12, 7], [7, 12]), ([11, 13, 7], [7, 11, 13]), ([14, 7], [7, 14]), ([15, 7], [7, 15]), ([9, 16, 7], [7, 9, 16]), ([7, 17, 4], [4, 7, 17]), ([4, 18], [4, 18]), ([19, 7], [19]), ([20], [20]), ([21, 20], [20, 21]), ([22, 20], [20, 22]), ([23, 20, 20], [20, 23]), ([24], [24]), ([25, 24], [24, 25]), ([24], [24]), ([27, 24], [24, 27]), ([28, 24], [24, 28]), ([26, 29, 24], [24, 26, 29]), ([24, 30, 20], [20, 24, 30]), ([20, 31], [20, 31]), ([32, 24], [32]), ([33], [33]), ([34, 33, 33], [33, 34]), ([35, 33], [33, 35]), ([33, 36], [33, 36])])
def impl_EndOk.B4 : List Nat := [0, 1, 3, 7, 15, 31, 63, 127, 255, 511, 255, 1279, 255, 4351, 15615, 31999, 64767, 131071, 262143, 524287, 1048575, 2097151, 4194303, 8388607, 16777215, 33554431, 67108863, 33554431, 167772159, 436207615, 1073741823, 2147483647, 4294967295, 8589934591, 17179869183, 34359738367, 68719476735, 137438953471]
theorem impl_EndOk.tab4 : rtab .any (opsOf Tryd.f21 4) = impl_EndOk.T4 := by kernel_rfl
theorem impl_EndOk.bits4 : waitsOk impl_EndOk.T4.2 impl_EndOk.B4 = true := by kernel_rfl
set_option maxHeartbeats 8000000 in
set_option maxRecDepth 100000 in
theorem impl_EndOk.calls (k : Nat) (a0_0 : Bool) (A0_1 : Option Addr) (c0_1 : Nat) (l0_1 : List (S61)) (a0_2 : Int) (A0_3 : Option Addr) (c0_3 : Nat) (l0_3 : List (S61)) (a0_4 : Int) (a0_5 : ByteArray) (A0_6 : Option Addr) (c0_6 : Nat) (l0_6 : List (S58)) (a0_7 : Int) (a0_8 : Int) (A0_9 : Option Addr) (c0_9 : Nat) (l0_9 : List (S79)) (a0_10 : Bool) (r : Bool) (w : World) (hr0_1 : Kd.C k61 w A0_1 l0_1.length l0_1) (hc0_1 : l0_1.length ≤ c0_1) (hr0_3 : Kd.C k61 w A0_3 l0_3.length l0_3) (hc0_3 : l0_3.length ≤ c0_3) (hr0_6 : Kd.C k58 w A0_6 l0_6.length l0_6) (hc0_6 : l0_6.length ≤ c0_6) (hr0_9 : Kd.C k79 w A0_9 l0_9.length l0_9) (hc0_9 : l0_9.length ≤ c0_9) (h : impl_EndOk.f k a0_0 l0_1 a0_2 l0_3 a0_4 a0_5 l0_6 a0_7 a0_8 l0_9 a0_10 = some r) :
  Calls Tryd.prog 21 #[.agg #[.bool a0_0, .slice A0_1 l0_1.length c0_1, .int .i64 a0_2, .slice A0_3 l0_3.length c0_3, .int .i64 a0_4, .string a0_5, .slice A0_6 l0_6.length c0_6, .int .i64 a0_7, .int .i64 a0_8, .slice A0_9 l0_9.length c0_9, .bool a0_10]] w fun e w' => e = .returned (.bool r) ∧ Below w.heap.size w w' := by
 have hu39 := Tryd.underlying39
 have hu58 := Tryd.underlying58
 have hu34 := Tryd.underlying34
 have hu36 := Tryd.underlying36
 have HR0_1 := Aside0.mk hr0_1
 have HC0_1 := Aside0.mk hc0_1
 clear hr0_1 hc0_1
 have HR0_3 := Aside0.mk hr0_3
 have HC0_3 := Aside0.mk hc0_3
 clear hr0_3 hc0_3
 have HR0_6 := Aside0.mk hr0_6
 have HC0_6 := Aside0.mk hc0_6
 clear hr0_6 hc0_6
 have HR0_9 := Aside0.mk hr0_9
 have HC0_9 := Aside0.mk hc0_9
 clear hr0_9 hc0_9
 have HB := Aside0.mk (Below.refl w.heap.size w)
 have H : (impl_EndOk.l0 k l0_6 (l0_6.length : Int) 0 a0_0 l0_1 a0_2 l0_3 a0_4 a0_5 l0_6 a0_7 a0_8 l0_9 a0_10) = some r := h
 clear h
 have H' := Aside0.mk H
 clear H
 go_enter Tryd.func21, Tryd.ntmps21
 go_wp2_with (first | ((with_reducible refine gd 1 rfl ?_); (try (refine gate_guard (by rfl) ?_; dsimp only)); refine bx (N := 1) (cs := #[.bool a0_0, .slice A0_1 l0_1.length c0_1, .int .i64 a0_2, .slice A0_3 l0_3.length c0_3, .int .i64 a0_4, .string a0_5, .slice A0_6 l0_6.length c0_6, .int .i64 a0_7, .int .i64 a0_8, .slice A0_9 l0_9.length c0_9, .bool a0_10]) (t := 39) ?_; intro gb379 hg w2 hbox hb; have BK379 := Aside0.mk (hbox); have GW379 := gw HB hg; have GE379 := GW379; replace HB := Aside0.mk (below_step (zb HB) hb); clear hb hbox hg; obtain ⟨hcz3_0, hcz3_1, hcz3_2, hcz3_3, hcz3_4, hcz3_5, hcz3_6, hcz3_7, hcz3_8, hcz3_9, hcz3_10, hfz3_0, hfz3_1, hfz3_2, hfz3_3, hfz3_4, hfz3_5, hfz3_6, hfz3_7, hfz3_8, hfz3_9, hfz3_10⟩ := c11 BK379))
 go_loopg [8] k (fun kq v8 w' => ∃ (x8_1 : Int), v8 = .int .i64 x8_1 ∧ Aside0 (impl_EndOk.l0 kq l0_6 (l0_6.length : Int) x8_1 a0_0 l0_1 a0_2 l0_3 a0_4 a0_5 l0_6 a0_7 a0_8 l0_9 a0_10 = some r) ∧ Aside0 (kq ≤ k) ∧ Aside0 (w'.heap[gb379]? = some (.cells #[.bool a0_0, (.slice A0_1 l0_1.length c0_1), .int .i64 a0_2, (.slice A0_3 l0_3.length c0_3), .int .i64 a0_4, .string a0_5, (.slice A0_6 l0_6.length c0_6), .int .i64 a0_7, .int .i64 a0_8, (.slice A0_9 l0_9.length c0_9), .bool a0_10] 39 (0, 0))) ∧ Aside0 (Below w.heap.size w w'))
 case atStart => exact ⟨(0), zs, H', ⟨Nat.le_refl _⟩, ⟨by exact zk BK379⟩, ⟨zb HB⟩⟩
 case round =>
  clear H'
  try clear c2
  try clear p2
  try clear hcz3_0
  try clear hcz3_1
  try clear hcz3_10
  try clear hcz3_2
  try clear hcz3_3
  try clear hcz3_4
  try clear hcz3_5
  try clear hcz3_6
  try clear hcz3_7
  try clear hcz3_8
  try clear hcz3_9
  try clear hfz3_0
  try clear hfz3_1
  try clear hfz3_10
  try clear hfz3_2
  try clear hfz3_3
  try clear hfz3_4
  try clear hfz3_5
  try clear hfz3_6
  try clear hfz3_7
  try clear hfz3_8
  try clear hfz3_9
  obtain ⟨x8_1, rfl, HA, HK1, BK379, HB⟩ := hrel
  cases gk with
  | zero => exact absurd HA.out (by simp [impl_EndOk.l0])
  | succ k1 =>
   have H := HA.out
   clear HA
   simp only [impl_EndOk.l0] at H
   replace H := sp H
   rcases H with ⟨c4, H⟩ | ⟨c4, H⟩
   ·skip
    have c4b0 := decide_eq_true c4
    clear c4
    by_cases c5 : 0 ≤ x8_1
    ·rw [if_pos c5] at H
     have c5b0 := decide_eq_true c5
     clear c5
     by_cases c6 : x8_1 < (l0_6.length : Int)
     ·rw [if_pos c6] at H
      have c6b0 := decide_eq_true c6
      clear c6
      obtain ⟨t382, A7, H⟩ := ob H
      (try dsimp only at H)
      by_cases c8 : t382 = true
      ·subst c8
       rw [if_pos rfl] at H
       by_cases c9 : x8_1 > 0
       ·rw [if_pos c9] at H
        have c9b0 := decide_eq_true c9
        clear c9
        obtain ⟨ji10, hji10⟩ : ∃ j_ : Int, (wrap64 (x8_1 - 1)) = j_ := ⟨_, rfl⟩
        replace H : (if 0 ≤ (ji10) then (if (ji10) < (l0_6.length : Int) then (if ((rd_T58 l0_6 x8_1).f0) ≤ ((rd_T58 l0_6 (ji10)).f0) then (some false) else (if a0_0 = true then ((impl_streamOk.f k1 ((rd_T58 l0_6 x8_1).f0) ((rd_T58 l0_6 x8_1).f1) ((rd_T58 l0_6 x8_1).f2) ((rd_T58 l0_6 x8_1).f3) ((rd_T58 l0_6 x8_1).f4) ((rd_T58 l0_6 x8_1).f5) ((rd_T58 l0_6 x8_1).f6) ((rd_T58 l0_6 x8_1).f7) ((rd_T58 l0_6 x8_1).f8) ((rd_T58 l0_6 x8_1).f9) ((rd_T58 l0_6 x8_1).f10.f0) ((rd_T58 l0_6 x8_1).f10.f1)).bind fun t384 => (if t384 = true then (impl_EndOk.l0 k1 l0_6 (l0_6.length : Int) (wrap64 (x8_1 + 1)) a0_0 l0_1 a0_2 l0_3 a0_4 a0_5 l0_6 a0_7 a0_8 l0_9 a0_10) else (some false))) else (if ((rd_T58 l0_6 x8_1).f0) = (wrap64 ((wrap64 (2 * x8_1)) + 1)) then ((impl_streamOk.f k1 ((rd_T58 l0_6 x8_1).f0) ((rd_T58 l0_6 x8_1).f1) ((rd_T58 l0_6 x8_1).f2) ((rd_T58 l0_6 x8_1).f3) ((rd_T58 l0_6 x8_1).f4) ((rd_T58 l0_6 x8_1).f5) ((rd_T58 l0_6 x8_1).f6) ((rd_T58 l0_6 x8_1).f7) ((rd_T58 l0_6 x8_1).f8) ((rd_T58 l0_6 x8_1).f9) ((rd_T58 l0_6 x8_1).f10.f0) ((rd_T58 l0_6 x8_1).f10.f1)).bind fun t385 => (if t385 = true then (impl_EndOk.l0 k1 l0_6 (l0_6.length : Int) (wrap64 (x8_1 + 1)) a0_0 l0_1 a0_2 l0_3 a0_4 a0_5 l0_6 a0_7 a0_8 l0_9 a0_10) else (some false))) else (some false)))) else (none)) else (none)) = some r := by first | (rw [hji10] at H; exact H) | (simp only [hji10] at H ⊢; exact H)
        (try rw [hji10] at A7)
        have hji10w : (IntKind.i64.wrap (x8_1 - 1)) = ji10 := (i64_w _).trans hji10
        by_cases c11 : 0 ≤ (ji10)
        ·rw [if_pos c11] at H
         have c11b0 := decide_eq_true c11
         clear c11
         by_cases c12 : (ji10) < (l0_6.length : Int)
         ·rw [if_pos c12] at H
          have c12b0 := decide_eq_true c12
          clear c12
          by_cases c13 : ((rd_T58 l0_6 x8_1).f0) ≤ ((rd_T58 l0_6 (ji10)).f0)
          ·rw [if_pos c13] at H
           have c13b0 := decide_eq_true c13
           clear c13
           obtain rfl := Option.some.inj H
           have p380 : 0 ≤ (x8_1 : Int) := of_decide_eq_true za
           have q380 : x8_1 < (l0_6.length : Int) := of_decide_eq_true za
           obtain ⟨ad380, A380_2, c380_2, A380_7, c380_7, e380, hx380_0, hx380_1, hx380_2, hx380_3, hx380_4, hx380_5, hx380_6, hx380_7, hx380_8, hx380_9, hx380_10, hx380_11, hl380_2, hi380_2, hl380_7, hi380_7⟩ := at_T58 HR0_6.out x8_1 p380 q380
           cases e380
           replace hx380_0 := cb0 hx380_0 HB
           replace hx380_1 := cb0 hx380_1 HB
           replace hx380_2 := cb0 hx380_2 HB
           replace hx380_3 := cb0 hx380_3 HB
           replace hx380_4 := cb0 hx380_4 HB
           replace hx380_5 := cb0 hx380_5 HB
           replace hx380_6 := cb0 hx380_6 HB
           replace hx380_7 := cb0 hx380_7 HB
           replace hx380_8 := cb0 hx380_8 HB
           replace hx380_9 := cb0 hx380_9 HB
           replace hx380_10 := cb0 hx380_10 HB
           replace hx380_11 := cb0 hx380_11 HB
           have HR380_2 := Aside0.mk hi380_2
           have HC380_2 := Aside0.mk hl380_2
           clear hi380_2 hl380_2
           have HR380_7 := Aside0.mk hi380_7
           have HC380_7 := Aside0.mk hl380_7
           clear hi380_7 hl380_7
           replace p380 := eq_true p380
           replace q380 := eq_true q380
           try go_wp2_with (first | ((with_reducible refine gd 4 rfl ?_); (try (refine gate_guard (by rfl) ?_; dsimp only)); refine bx (N := 4) (cs := #[.int .i64 0, .int .i64 0, .slice none 0 0, .string (⟨#[]⟩ : ByteArray), .bool false, .bool false, .int .i64 0, .slice none 0 0, .string (⟨#[]⟩ : ByteArray), .bool false, .int .i64 0, .int .i64 0]) (t := 58) ?_; intro gb381 hg w14 hbox hb; have BK381 := Aside0.mk (hbox); have GW381 := gw HB hg; have GE381 := GW381; replace HB := Aside0.mk (below_step (zb HB) hb); obtain ⟨NB379_381, NB381_379⟩ := nb BK379 hg; replace BK379 := kb BK379 hb; clear hb hbox hg; have hnb15 := NB381_379.out; have hnc15 := NB379_381.out; obtain ⟨hcz16_0, hcz16_1, hcz16_2, hcz16_3, hcz16_4, hcz16_5, hcz16_6, hcz16_7, hcz16_8, hcz16_9, hcz16_10, hcz16_11, hfz16_0, hfz16_1, hfz16_2, hfz16_3, hfz16_4, hfz16_5, hfz16_6, hfz16_7, hfz16_8, hfz16_9, hfz16_10, hfz16_11⟩ := c12 BK381))
           have n0_ : Aside0 (((((((((((((w14.setCell ⟨gb381, 0, none⟩ (.int .i64 ((rd_T58 l0_6 x8_1).f0))).setCell ⟨gb381, 1, none⟩ (.int .i64 ((rd_T58 l0_6 x8_1).f1))).setCell ⟨gb381, 2, none⟩ (.slice A380_2 ((rd_T58 l0_6 x8_1).f2).length c380_2)).setCell ⟨gb381, 3, none⟩ (.string ((rd_T58 l0_6 x8_1).f3))).setCell ⟨gb381, 4, none⟩ (.bool ((rd_T58 l0_6 x8_1).f4))).setCell ⟨gb381, 5, none⟩ (.bool ((rd_T58 l0_6 x8_1).f5))).setCell ⟨gb381, 6, none⟩ (.int .i64 ((rd_T58 l0_6 x8_1).f6))).setCell ⟨gb381, 7, none⟩ (.slice A380_7 ((rd_T58 l0_6 x8_1).f7).length c380_7)).setCell ⟨gb381, 8, none⟩ (.string ((rd_T58 l0_6 x8_1).f8))).setCell ⟨gb381, 9, none⟩ (.bool ((rd_T58 l0_6 x8_1).f9))).setCell ⟨gb381, 10, none⟩ (.int .i64 ((rd_T58 l0_6 x8_1).f10.f0))).setCell ⟨gb381, 11, none⟩ (.int .i64 ((rd_T58 l0_6 x8_1).f10.f1))).heap[gb379]? = some (.cells #[.bool a0_0, .slice A0_1 l0_1.length c0_1, .int .i64 a0_2, .slice A0_3 l0_3.length c0_3, .int .i64 a0_4, .string a0_5, .slice (some ad380) l0_6.length c0_6, .int .i64 a0_7, .int .i64 a0_8, .slice A0_9 l0_9.length c0_9, .bool a0_10] 39 (0, 0))) := ⟨zp BK379⟩
           have n1_ : Aside0 (((((((((((((w14.setCell ⟨gb381, 0, none⟩ (.int .i64 ((rd_T58 l0_6 x8_1).f0))).setCell ⟨gb381, 1, none⟩ (.int .i64 ((rd_T58 l0_6 x8_1).f1))).setCell ⟨gb381, 2, none⟩ (.slice A380_2 ((rd_T58 l0_6 x8_1).f2).length c380_2)).setCell ⟨gb381, 3, none⟩ (.string ((rd_T58 l0_6 x8_1).f3))).setCell ⟨gb381, 4, none⟩ (.bool ((rd_T58 l0_6 x8_1).f4))).setCell ⟨gb381, 5, none⟩ (.bool ((rd_T58 l0_6 x8_1).f5))).setCell ⟨gb381, 6, none⟩ (.int .i64 ((rd_T58 l0_6 x8_1).f6))).setCell ⟨gb381, 7, none⟩ (.slice A380_7 ((rd_T58 l0_6 x8_1).f7).length c380_7)).setCell ⟨gb381, 8, none⟩ (.string ((rd_T58 l0_6 x8_1).f8))).setCell ⟨gb381, 9, none⟩ (.bool ((rd_T58 l0_6 x8_1).f9))).setCell ⟨gb381, 10, none⟩ (.int .i64 ((rd_T58 l0_6 x8_1).f10.f0))).setCell ⟨gb381, 11, none⟩ (.int .i64 ((rd_T58 l0_6 x8_1).f10.f1))).heap[gb381]? = some (.cells #[.int .i64 ((rd_T58 l0_6 x8_1).f0), .int .i64 ((rd_T58 l0_6 x8_1).f1), .slice A380_2 ((rd_T58 l0_6 x8_1).f2).length c380_2, .string ((rd_T58 l0_6 x8_1).f3), .bool ((rd_T58 l0_6 x8_1).f4), .bool ((rd_T58 l0_6 x8_1).f5), .int .i64 ((rd_T58 l0_6 x8_1).f6), .slice A380_7 ((rd_T58 l0_6 x8_1).f7).length c380_7, .string ((rd_T58 l0_6 x8_1).f8), .bool ((rd_T58 l0_6 x8_1).f9), .int .i64 ((rd_T58 l0_6 x8_1).f10.f0), .int .i64 ((rd_T58 l0_6 x8_1).f10.f1)] 58 (0, 0))) := ⟨zp BK381⟩
           have n2_ : Aside0 (Below w.heap.size w ((((((((((((w14.setCell ⟨gb381, 0, none⟩ (.int .i64 ((rd_T58 l0_6 x8_1).f0))).setCell ⟨gb381, 1, none⟩ (.int .i64 ((rd_T58 l0_6 x8_1).f1))).setCell ⟨gb381, 2, none⟩ (.slice A380_2 ((rd_T58 l0_6 x8_1).f2).length c380_2)).setCell ⟨gb381, 3, none⟩ (.string ((rd_T58 l0_6 x8_1).f3))).setCell ⟨gb381, 4, none⟩ (.bool ((rd_T58 l0_6 x8_1).f4))).setCell ⟨gb381, 5, none⟩ (.bool ((rd_T58 l0_6 x8_1).f5))).setCell ⟨gb381, 6, none⟩ (.int .i64 ((rd_T58 l0_6 x8_1).f6))).setCell ⟨gb381, 7, none⟩ (.slice A380_7 ((rd_T58 l0_6 x8_1).f7).length c380_7)).setCell ⟨gb381, 8, none⟩ (.string ((rd_T58 l0_6 x8_1).f8))).setCell ⟨gb381, 9, none⟩ (.bool ((rd_T58 l0_6 x8_1).f9))).setCell ⟨gb381, 10, none⟩ (.int .i64 ((rd_T58 l0_6 x8_1).f10.f0))).setCell ⟨gb381, 11, none⟩ (.int .i64 ((rd_T58 l0_6 x8_1).f10.f1)))) := ⟨zb HB⟩
           (try clear BK379)
           (try clear BK381)
           (try clear HB)
           generalize ((((((((((((w14.setCell ⟨gb381, 0, none⟩ (.int .i64 ((rd_T58 l0_6 x8_1).f0))).setCell ⟨gb381, 1, none⟩ (.int .i64 ((rd_T58 l0_6 x8_1).f1))).setCell ⟨gb381, 2, none⟩ (.slice A380_2 ((rd_T58 l0_6 x8_1).f2).length c380_2)).setCell ⟨gb381, 3, none⟩ (.string ((rd_T58 l0_6 x8_1).f3))).setCell ⟨gb381, 4, none⟩ (.bool ((rd_T58 l0_6 x8_1).f4))).setCell ⟨gb381, 5, none⟩ (.bool ((rd_T58 l0_6 x8_1).f5))).setCell ⟨gb381, 6, none⟩ (.int .i64 ((rd_T58 l0_6 x8_1).f6))).setCell ⟨gb381, 7, none⟩ (.slice A380_7 ((rd_T58 l0_6 x8_1).f7).length c380_7)).setCell ⟨gb381, 8, none⟩ (.string ((rd_T58 l0_6 x8_1).f8))).setCell ⟨gb381, 9, none⟩ (.bool ((rd_T58 l0_6 x8_1).f9))).setCell ⟨gb381, 10, none⟩ (.int .i64 ((rd_T58 l0_6 x8_1).f10.f0))).setCell ⟨gb381, 11, none⟩ (.int .i64 ((rd_T58 l0_6 x8_1).f10.f1))) = w17 at n0_ n1_ n2_ ⊢
           have BK379 := n0_
           have BK381 := n1_
           have HB := n2_
           clear n0_ n1_ n2_
           replace BK379 := Aside0.mk (blk_drew BK379.out)
           replace BK381 := Aside0.mk (blk_drew BK381.out)
           replace HB := Aside0.mk (below_drew1 HB.out)
           have p383 : 0 ≤ ((ji10) : Int) := of_decide_eq_true za
           have q383 : (ji10) < (l0_6.length : Int) := of_decide_eq_true za
           obtain ⟨ad383, A383_2, c383_2, A383_7, c383_7, e383, hx383_0, hx383_1, hx383_2, hx383_3, hx383_4, hx383_5, hx383_6, hx383_7, hx383_8, hx383_9, hx383_10, hx383_11, hl383_2, hi383_2, hl383_7, hi383_7⟩ := at_T58 HR0_6.out (ji10) p383 q383
           have hw383_11 := hx383_11
           have hw383_10 := hx383_10
           have hw383_9 := hx383_9
           have hw383_8 := hx383_8
           have hw383_7 := hx383_7
           have hw383_6 := hx383_6
           have hw383_5 := hx383_5
           have hw383_4 := hx383_4
           have hw383_3 := hx383_3
           have hw383_2 := hx383_2
           have hw383_1 := hx383_1
           have hw383_0 := hx383_0
           obtain rfl : ad380 = ad383 := (by injection e383)
           replace hx383_0 := cb0 hx383_0 HB
           replace hx383_1 := cb0 hx383_1 HB
           replace hx383_2 := cb0 hx383_2 HB
           replace hx383_3 := cb0 hx383_3 HB
           replace hx383_4 := cb0 hx383_4 HB
           replace hx383_5 := cb0 hx383_5 HB
           replace hx383_6 := cb0 hx383_6 HB
           replace hx383_7 := cb0 hx383_7 HB
           replace hx383_8 := cb0 hx383_8 HB
           replace hx383_9 := cb0 hx383_9 HB
           replace hx383_10 := cb0 hx383_10 HB
           replace hx383_11 := cb0 hx383_11 HB
           have HR383_2 := Aside0.mk hi383_2
           have HC383_2 := Aside0.mk hl383_2
           clear hi383_2 hl383_2
           have HR383_7 := Aside0.mk hi383_7
           have HC383_7 := Aside0.mk hl383_7
           clear hi383_7 hl383_7
           replace p383 := eq_true p383
           replace q383 := eq_true q383
           refine st 38 (an (b12 BK381) (an (b11 BK379) (an (cb hw383_0 HB) (an (cb hw383_1 HB) (an (cb hw383_2 HB) (an (cb hw383_3 HB) (an (cb hw383_4 HB) (an (cb hw383_5 HB) (an (cb hw383_6 HB) (an (cb hw383_7 HB) (an (cb hw383_8 HB) (an (cb hw383_9 HB) (an (cb hw383_10 HB) (cb hw383_11 HB)))))))))))))) (fun hHeld => ?_); refine with_tabW impl_EndOk.tab4 impl_EndOk.bits4 (fun HT_ HW_ => ?_)
           generalize w17.drew = w18 at BK379 BK381 HB HR383_2 HR383_7 hx383_0 hx383_1 hx383_10 hx383_11 hx383_2 hx383_3 hx383_4 hx383_5 hx383_6 hx383_7 hx383_8 hx383_9 hHeld ⊢
           refine pu 0 (some 13) (bm 38 1) rfl rfl ?_
           refine tk 1 (some 14) (bm 38 3) rfl rfl hHeld ?_
           refine one_ (i := 2) (N := some 15) (bm 38 7) rfl rfl (one_of HT_.out (by kernel_rfl)) (by decide) (fun K hK => ?_)
           refine gs Tryd.func51 #[.int .i64 ((rd_T58 l0_6 x8_1).f0)] ?_
           with_reducible refine (impl_isStream.calls ((rd_T58 l0_6 x8_1).f0) true _ A7.out).mono ?_
           rintro e w' ⟨rfl, ⟨nd, rfl⟩⟩
           refine ⟨_, rfl, ?_⟩
           refine hK.out _ _ (an (b12 BK381) (an (b11 BK379) (an (cb hw383_0 HB) (an (cb hw383_1 HB) (an (cb hw383_2 HB) (an (cb hw383_3 HB) (an (cb hw383_4 HB) (an (cb hw383_5 HB) (an (cb hw383_6 HB) (an (cb hw383_7 HB) (an (cb hw383_8 HB) (an (cb hw383_9 HB) (an (cb hw383_10 HB) (cb hw383_11 HB)))))))))))))) (fun hHeld => ?_)
           clear hK K
           refine nm ?_
           refine pu 3 (some 16) (bm 38 15) rfl rfl ?_
           refine pu 4 (some 17) (bm 38 31) rfl rfl ?_
           refine pu 5 (some 18) (bm 38 63) rfl rfl ?_
           refine pu 6 (some 19) (bm 38 127) rfl rfl ?_
           refine pu 7 (some 20) (bm 38 255) rfl rfl ?_
           refine pu 8 (some 21) (bm 38 511) rfl rfl ?_
           refine pu 10 (some 23) (bm 38 1535) rfl rfl ?_
           refine pu 12 (some 25) (bm 38 5631) rfl rfl ?_
           refine pu 13 (some 26) (bm 38 13823) rfl rfl ?_
           refine tk 9 (some 22) (bm 38 14335) rfl rfl hHeld ?_
           refine tk 11 (some 24) (bm 38 16383) rfl rfl hHeld ?_
           refine pu 14 (some 27) (bm 38 32767) rfl rfl ?_
           refine pu 15 (some 28) (bm 38 65535) rfl rfl ?_
           refine tk 16 (some 29) (bm 38 131071) rfl rfl hHeld ?_
           refine pu 17 (some 30) (bm 38 262143) rfl rfl ?_
           refine pu 18 (some 31) (bm 38 524287) rfl rfl ?_
           refine pu 19 (some 32) (bm 38 1048575) rfl rfl ?_
           refine pu 20 (some 33) (bm 38 2097151) rfl rfl ?_
           refine pv 21 (some 34) (bm 38 4194303) rfl rfl ?_
           refine pv 22 (some 35) (bm 38 8388607) rfl rfl ?_
           refine pv 23 (some 36) (bm 38 16777215) rfl rfl ?_
           refine pv 24 (some 37) (bm 38 33554431) rfl rfl ?_
           refine pv 25 (some 38) (bm 38 67108863) rfl rfl ?_
           refine pv 26 (some 39) (bm 38 134217727) rfl rfl ?_
           refine pv 27 (some 40) (bm 38 268435455) rfl rfl ?_
           refine pv 28 (some 41) (bm 38 536870911) rfl rfl ?_
           refine pv 29 (some 42) (bm 38 1073741823) rfl rfl ?_
           refine pv 30 (some 43) (bm 38 2147483647) rfl rfl ?_
           refine pv 31 (some 44) (bm 38 4294967295) rfl rfl ?_
           refine pu 32 (some 45) (bm 38 8589934591) rfl rfl ?_
           refine pu 33 (some 46) (bm 38 17179869183) rfl rfl ?_
           refine pv 34 (some 47) (bm 38 34359738367) rfl rfl ?_
           refine pv 35 (some 48) (bm 38 68719476735) rfl rfl ?_
           refine pv 36 (some 49) (bm 38 137438953471) rfl rfl ?_
           refine pu 37 (some 50) (bm 38 274877906943) rfl rfl ?_
           refine done_ (done_of HT_.out (by kernel_rfl)) ?_
           try go_wp2
           go_ret
           exact ⟨by first | rfl | (simp [errW_none, errW_some] <;> rfl) | (simp only [← hji10]; first | rfl | (simp [errW_none, errW_some] <;> rfl)) | (simp [*, errW_none, errW_some] <;> rfl) | (simp [errW_none, errW_some]; exact (by intro l_; cases l_ <;> rfl : ∀ l_ : List UInt8, l_.isEmpty = !(l_ != [])) _), zb HB⟩
          ·rw [if_neg c13] at H
           have c13b0 := decide_eq_false c13
           clear c13
           by_cases c19 : a0_0 = true
           ·subst c19
            rw [if_pos rfl] at H
            obtain ⟨t384, A20, H⟩ := ob H
            (try dsimp only at H)
            have HC21 := Aside0.mk H
            clear H
            have p380 : 0 ≤ (x8_1 : Int) := of_decide_eq_true za
            have q380 : x8_1 < (l0_6.length : Int) := of_decide_eq_true za
            obtain ⟨ad380, A380_2, c380_2, A380_7, c380_7, e380, hx380_0, hx380_1, hx380_2, hx380_3, hx380_4, hx380_5, hx380_6, hx380_7, hx380_8, hx380_9, hx380_10, hx380_11, hl380_2, hi380_2, hl380_7, hi380_7⟩ := at_T58 HR0_6.out x8_1 p380 q380
            cases e380
            replace hx380_0 := cb0 hx380_0 HB
            replace hx380_1 := cb0 hx380_1 HB
            replace hx380_2 := cb0 hx380_2 HB
            replace hx380_3 := cb0 hx380_3 HB
            replace hx380_4 := cb0 hx380_4 HB
            replace hx380_5 := cb0 hx380_5 HB
            replace hx380_6 := cb0 hx380_6 HB
            replace hx380_7 := cb0 hx380_7 HB
            replace hx380_8 := cb0 hx380_8 HB
            replace hx380_9 := cb0 hx380_9 HB
            replace hx380_10 := cb0 hx380_10 HB
            replace hx380_11 := cb0 hx380_11 HB
            have HR380_2 := Aside0.mk hi380_2
            have HC380_2 := Aside0.mk hl380_2
            clear hi380_2 hl380_2
            have HR380_7 := Aside0.mk hi380_7
            have HC380_7 := Aside0.mk hl380_7
            clear hi380_7 hl380_7
            replace p380 := eq_true p380
            replace q380 := eq_true q380
            try go_wp2_with (first | ((with_reducible refine gd 4 rfl ?_); (try (refine gate_guard (by rfl) ?_; dsimp only)); refine bx (N := 4) (cs := #[.int .i64 0, .int .i64 0, .slice none 0 0, .string (⟨#[]⟩ : ByteArray), .bool false, .bool false, .int .i64 0, .slice none 0 0, .string (⟨#[]⟩ : ByteArray), .bool false, .int .i64 0, .int .i64 0]) (t := 58) ?_; intro gb381 hg w22 hbox hb; have BK381 := Aside0.mk (hbox); have GW381 := gw HB hg; have GE381 := GW381; replace HB := Aside0.mk (below_step (zb HB) hb); obtain ⟨NB379_381, NB381_379⟩ := nb BK379 hg; replace BK379 := kb BK379 hb; clear hb hbox hg; have hnb23 := NB381_379.out; have hnc23 := NB379_381.out; obtain ⟨hcz24_0, hcz24_1, hcz24_2, hcz24_3, hcz24_4, hcz24_5, hcz24_6, hcz24_7, hcz24_8, hcz24_9, hcz24_10, hcz24_11, hfz24_0, hfz24_1, hfz24_2, hfz24_3, hfz24_4, hfz24_5, hfz24_6, hfz24_7, hfz24_8, hfz24_9, hfz24_10, hfz24_11⟩ := c12 BK381))
            have n0_ : Aside0 (((((((((((((w22.setCell ⟨gb381, 0, none⟩ (.int .i64 ((rd_T58 l0_6 x8_1).f0))).setCell ⟨gb381, 1, none⟩ (.int .i64 ((rd_T58 l0_6 x8_1).f1))).setCell ⟨gb381, 2, none⟩ (.slice A380_2 ((rd_T58 l0_6 x8_1).f2).length c380_2)).setCell ⟨gb381, 3, none⟩ (.string ((rd_T58 l0_6 x8_1).f3))).setCell ⟨gb381, 4, none⟩ (.bool ((rd_T58 l0_6 x8_1).f4))).setCell ⟨gb381, 5, none⟩ (.bool ((rd_T58 l0_6 x8_1).f5))).setCell ⟨gb381, 6, none⟩ (.int .i64 ((rd_T58 l0_6 x8_1).f6))).setCell ⟨gb381, 7, none⟩ (.slice A380_7 ((rd_T58 l0_6 x8_1).f7).length c380_7)).setCell ⟨gb381, 8, none⟩ (.string ((rd_T58 l0_6 x8_1).f8))).setCell ⟨gb381, 9, none⟩ (.bool ((rd_T58 l0_6 x8_1).f9))).setCell ⟨gb381, 10, none⟩ (.int .i64 ((rd_T58 l0_6 x8_1).f10.f0))).setCell ⟨gb381, 11, none⟩ (.int .i64 ((rd_T58 l0_6 x8_1).f10.f1))).heap[gb379]? = some (.cells #[.bool true, .slice A0_1 l0_1.length c0_1, .int .i64 a0_2, .slice A0_3 l0_3.length c0_3, .int .i64 a0_4, .string a0_5, .slice (some ad380) l0_6.length c0_6, .int .i64 a0_7, .int .i64 a0_8, .slice A0_9 l0_9.length c0_9, .bool a0_10] 39 (0, 0))) := ⟨zp BK379⟩
            have n1_ : Aside0 (((((((((((((w22.setCell ⟨gb381, 0, none⟩ (.int .i64 ((rd_T58 l0_6 x8_1).f0))).setCell ⟨gb381, 1, none⟩ (.int .i64 ((rd_T58 l0_6 x8_1).f1))).setCell ⟨gb381, 2, none⟩ (.slice A380_2 ((rd_T58 l0_6 x8_1).f2).length c380_2)).setCell ⟨gb381, 3, none⟩ (.string ((rd_T58 l0_6 x8_1).f3))).setCell ⟨gb381, 4, none⟩ (.bool ((rd_T58 l0_6 x8_1).f4))).setCell ⟨gb381, 5, none⟩ (.bool ((rd_T58 l0_6 x8_1).f5))).setCell ⟨gb381, 6, none⟩ (.int .i64 ((rd_T58 l0_6 x8_1).f6))).setCell ⟨gb381, 7, none⟩ (.slice A380_7 ((rd_T58 l0_6 x8_1).f7).length c380_7)).setCell ⟨gb381, 8, none⟩ (.string ((rd_T58 l0_6 x8_1).f8))).setCell ⟨gb381, 9, none⟩ (.bool ((rd_T58 l0_6 x8_1).f9))).setCell ⟨gb381, 10, none⟩ (.int .i64 ((rd_T58 l0_6 x8_1).f10.f0))).setCell ⟨gb381, 11, none⟩ (.int .i64 ((rd_T58 l0_6 x8_1).f10.f1))).heap[gb381]? = some (.cells #[.int .i64 ((rd_T58 l0_6 x8_1).f0), .int .i64 ((rd_T58 l0_6 x8_1).f1), .slice A380_2 ((rd_T58 l0_6 x8_1).f2).length c380_2, .string ((rd_T58 l0_6 x8_1).f3), .bool ((rd_T58 l0_6 x8_1).f4), .bool ((rd_T58 l0_6 x8_1).f5), .int .i64 ((rd_T58 l0_6 x8_1).f6), .slice A380_7 ((rd_T58 l0_6 x8_1).f7).length c380_7, .string ((rd_T58 l0_6 x8_1).f8), .bool ((rd_T58 l0_6 x8_1).f9), .int .i64 ((rd_T58 l0_6 x8_1).f10.f0), .int .i64 ((rd_T58 l0_6 x8_1).f10.f1)] 58 (0, 0))) := ⟨zp BK381⟩
            have n2_ : Aside0 (Below w.heap.size w ((((((((((((w22.setCell ⟨gb381, 0, none⟩ (.int .i64 ((rd_T58 l0_6 x8_1).f0))).setCell ⟨gb381, 1, none⟩ (.int .i64 ((rd_T58 l0_6 x8_1).f1))).setCell ⟨gb381, 2, none⟩ (.slice A380_2 ((rd_T58 l0_6 x8_1).f2).length c380_2)).setCell ⟨gb381, 3, none⟩ (.string ((rd_T58 l0_6 x8_1).f3))).setCell ⟨gb381, 4, none⟩ (.bool ((rd_T58 l0_6 x8_1).f4))).setCell ⟨gb381, 5, none⟩ (.bool ((rd_T58 l0_6 x8_1).f5))).setCell ⟨gb381, 6, none⟩ (.int .i64 ((rd_T58 l0_6 x8_1).f6))).setCell ⟨gb381, 7, none⟩ (.slice A380_7 ((rd_T58 l0_6 x8_1).f7).length c380_7)).setCell ⟨gb381, 8, none⟩ (.string ((rd_T58 l0_6 x8_1).f8))).setCell ⟨gb381, 9, none⟩ (.bool ((rd_T58 l0_6 x8_1).f9))).setCell ⟨gb381, 10, none⟩ (.int .i64 ((rd_T58 l0_6 x8_1).f10.f0))).setCell ⟨gb381, 11, none⟩ (.int .i64 ((rd_T58 l0_6 x8_1).f10.f1)))) := ⟨zb HB⟩
            (try clear BK379)
            (try clear BK381)
            (try clear HB)
            generalize ((((((((((((w22.setCell ⟨gb381, 0, none⟩ (.int .i64 ((rd_T58 l0_6 x8_1).f0))).setCell ⟨gb381, 1, none⟩ (.int .i64 ((rd_T58 l0_6 x8_1).f1))).setCell ⟨gb381, 2, none⟩ (.slice A380_2 ((rd_T58 l0_6 x8_1).f2).length c380_2)).setCell ⟨gb381, 3, none⟩ (.string ((rd_T58 l0_6 x8_1).f3))).setCell ⟨gb381, 4, none⟩ (.bool ((rd_T58 l0_6 x8_1).f4))).setCell ⟨gb381, 5, none⟩ (.bool ((rd_T58 l0_6 x8_1).f5))).setCell ⟨gb381, 6, none⟩ (.int .i64 ((rd_T58 l0_6 x8_1).f6))).setCell ⟨gb381, 7, none⟩ (.slice A380_7 ((rd_T58 l0_6 x8_1).f7).length c380_7)).setCell ⟨gb381, 8, none⟩ (.string ((rd_T58 l0_6 x8_1).f8))).setCell ⟨gb381, 9, none⟩ (.bool ((rd_T58 l0_6 x8_1).f9))).setCell ⟨gb381, 10, none⟩ (.int .i64 ((rd_T58 l0_6 x8_1).f10.f0))).setCell ⟨gb381, 11, none⟩ (.int .i64 ((rd_T58 l0_6 x8_1).f10.f1))) = w25 at n0_ n1_ n2_ ⊢
            have BK379 := n0_
            have BK381 := n1_
            have HB := n2_
            clear n0_ n1_ n2_
            replace BK379 := Aside0.mk (blk_drew BK379.out)
            replace BK381 := Aside0.mk (blk_drew BK381.out)
            replace HB := Aside0.mk (below_drew1 HB.out)
            have p383 : 0 ≤ ((ji10) : Int) := of_decide_eq_true za
            have q383 : (ji10) < (l0_6.length : Int) := of_decide_eq_true za
            obtain ⟨ad383, A383_2, c383_2, A383_7, c383_7, e383, hx383_0, hx383_1, hx383_2, hx383_3, hx383_4, hx383_5, hx383_6, hx383_7, hx383_8, hx383_9, hx383_10, hx383_11, hl383_2, hi383_2, hl383_7, hi383_7⟩ := at_T58 HR0_6.out (ji10) p383 q383
            have hw383_11 := hx383_11
            have hw383_10 := hx383_10
            have hw383_9 := hx383_9
            have hw383_8 := hx383_8
            have hw383_7 := hx383_7
            have hw383_6 := hx383_6
            have hw383_5 := hx383_5
            have hw383_4 := hx383_4
            have hw383_3 := hx383_3
            have hw383_2 := hx383_2
            have hw383_1 := hx383_1
            have hw383_0 := hx383_0
            obtain rfl : ad380 = ad383 := (by injection e383)
            replace hx383_0 := cb0 hx383_0 HB
            replace hx383_1 := cb0 hx383_1 HB
            replace hx383_2 := cb0 hx383_2 HB
            replace hx383_3 := cb0 hx383_3 HB
            replace hx383_4 := cb0 hx383_4 HB
            replace hx383_5 := cb0 hx383_5 HB
            replace hx383_6 := cb0 hx383_6 HB
            replace hx383_7 := cb0 hx383_7 HB
            replace hx383_8 := cb0 hx383_8 HB
            replace hx383_9 := cb0 hx383_9 HB
            replace hx383_10 := cb0 hx383_10 HB
            replace hx383_11 := cb0 hx383_11 HB
            have HR383_2 := Aside0.mk hi383_2
            have HC383_2 := Aside0.mk hl383_2
            clear hi383_2 hl383_2
            have HR383_7 := Aside0.mk hi383_7
            have HC383_7 := Aside0.mk hl383_7
            clear hi383_7 hl383_7
            replace p383 := eq_true p383
            replace q383 := eq_true q383
            refine st 38 (an (b12 BK381) (an (b11 BK379) (an (cb hw383_0 HB) (an (cb hw383_1 HB) (an (cb hw383_2 HB) (an (cb hw383_3 HB) (an (cb hw383_4 HB) (an (cb hw383_5 HB) (an (cb hw383_6 HB) (an (cb hw383_7 HB) (an (cb hw383_8 HB) (an (cb hw383_9 HB) (an (cb hw383_10 HB) (cb hw383_11 HB)))))))))))))) (fun hHeld => ?_); refine with_tabW impl_EndOk.tab4 impl_EndOk.bits4 (fun HT_ HW_ => ?_)
            generalize w25.drew = w26 at BK379 BK381 HB HR383_2 HR383_7 hx383_0 hx383_1 hx383_10 hx383_11 hx383_2 hx383_3 hx383_4 hx383_5 hx383_6 hx383_7 hx383_8 hx383_9 hHeld ⊢
            refine pu 0 (some 13) (bm 38 1) rfl rfl ?_
            refine tk 1 (some 14) (bm 38 3) rfl rfl hHeld ?_
            refine one_ (i := 2) (N := some 15) (bm 38 7) rfl rfl (one_of HT_.out (by kernel_rfl)) (by decide) (fun K hK => ?_)
            refine gs Tryd.func51 #[.int .i64 ((rd_T58 l0_6 x8_1).f0)] ?_
            with_reducible refine (impl_isStream.calls ((rd_T58 l0_6 x8_1).f0) true _ A7.out).mono ?_
            rintro e w' ⟨rfl, ⟨nd, rfl⟩⟩
            refine ⟨_, rfl, ?_⟩
            refine hK.out _ _ (an (b12 BK381) (an (b11 BK379) (an (cb hw383_0 HB) (an (cb hw383_1 HB) (an (cb hw383_2 HB) (an (cb hw383_3 HB) (an (cb hw383_4 HB) (an (cb hw383_5 HB) (an (cb hw383_6 HB) (an (cb hw383_7 HB) (an (cb hw383_8 HB) (an (cb hw383_9 HB) (an (cb hw383_10 HB) (cb hw383_11 HB)))))))))))))) (fun hHeld => ?_)
            clear hK K
            refine nm ?_
            refine pu 3 (some 16) (bm 38 15) rfl rfl ?_
            refine pu 4 (some 17) (bm 38 31) rfl rfl ?_
            refine pu 5 (some 18) (bm 38 63) rfl rfl ?_
            refine pu 6 (some 19) (bm 38 127) rfl rfl ?_
            refine pu 7 (some 20) (bm 38 255) rfl rfl ?_
            refine pu 8 (some 21) (bm 38 511) rfl rfl ?_
            refine pu 10 (some 23) (bm 38 1535) rfl rfl ?_
            refine pu 12 (some 25) (bm 38 5631) rfl rfl ?_
            refine pu 13 (some 26) (bm 38 13823) rfl rfl ?_
            refine tk 9 (some 22) (bm 38 14335) rfl rfl hHeld ?_
            refine tk 11 (some 24) (bm 38 16383) rfl rfl hHeld ?_
            refine pu 14 (some 27) (bm 38 32767) rfl rfl ?_
            refine pu 15 (some 28) (bm 38 65535) rfl rfl ?_
            refine tk 16 (some 29) (bm 38 131071) rfl rfl hHeld ?_
            refine pu 17 (some 30) (bm 38 262143) rfl rfl ?_
            refine pu 18 (some 31) (bm 38 524287) rfl rfl ?_
            refine pu 19 (some 32) (bm 38 1048575) rfl rfl ?_
            refine pu 20 (some 33) (bm 38 2097151) rfl rfl ?_
            refine pu 21 (some 34) (bm 38 4194303) rfl rfl ?_
            refine tk 22 (some 35) (bm 38 8388607) rfl rfl hHeld ?_
            refine pu 23 (some 36) (bm 38 16777215) rfl rfl ?_
            refine pu 24 (some 37) (bm 38 33554431) rfl rfl ?_
            refine pv 25 (some 38) (bm 38 67108863) rfl rfl ?_
            refine pv 26 (some 39) (bm 38 134217727) rfl rfl ?_
            refine pv 27 (some 40) (bm 38 268435455) rfl rfl ?_
            refine pv 28 (some 41) (bm 38 536870911) rfl rfl ?_
            refine pv 29 (some 42) (bm 38 1073741823) rfl rfl ?_
            refine pv 30 (some 43) (bm 38 2147483647) rfl rfl ?_
            refine pu 31 (some 44) (bm 38 4294967295) rfl rfl ?_
            refine pu 32 (some 45) (bm 38 8589934591) rfl rfl ?_
            refine pu 33 (some 46) (bm 38 17179869183) rfl rfl ?_
            refine tk 34 (some 47) (bm 38 34359738367) rfl rfl hHeld ?_
            refine one_ (i := 35) (N := some 48) (bm 38 68719476735) rfl rfl (one_of HT_.out (by kernel_rfl)) (by decide) (fun K hK => ?_)
            refine gs Tryd.func52 #[.agg #[.int .i64 ((rd_T58 l0_6 x8_1).f0), .int .i64 ((rd_T58 l0_6 x8_1).f1), .slice A380_2 ((rd_T58 l0_6 x8_1).f2).length c380_2, .string ((rd_T58 l0_6 x8_1).f3), .bool ((rd_T58 l0_6 x8_1).f4), .bool ((rd_T58 l0_6 x8_1).f5), .int .i64 ((rd_T58 l0_6 x8_1).f6), .slice A380_7 ((rd_T58 l0_6 x8_1).f7).length c380_7, .string ((rd_T58 l0_6 x8_1).f8), .bool ((rd_T58 l0_6 x8_1).f9), .int .i64 ((rd_T58 l0_6 x8_1).f10.f0), .int .i64 ((rd_T58 l0_6 x8_1).f10.f1)]] ?_
            with_reducible refine (impl_streamOk.calls k1 ((rd_T58 l0_6 x8_1).f0) ((rd_T58 l0_6 x8_1).f1) _ _ ((rd_T58 l0_6 x8_1).f2) ((rd_T58 l0_6 x8_1).f3) ((rd_T58 l0_6 x8_1).f4) ((rd_T58 l0_6 x8_1).f5) ((rd_T58 l0_6 x8_1).f6) _ _ ((rd_T58 l0_6 x8_1).f7) ((rd_T58 l0_6 x8_1).f8) ((rd_T58 l0_6 x8_1).f9) ((rd_T58 l0_6 x8_1).f10.f0) ((rd_T58 l0_6 x8_1).f10.f1) t384 _ ?side1 ?side2 ?side3 ?side4 A20.out).mono ?_
            (case side1 => exact (Kd.C_below HR380_2.out (zb HB)))
            (case side2 => exact HC380_2.out)
            (case side3 => exact (Kd.C_below HR380_7.out (zb HB)))
            (case side4 => exact HC380_7.out)
            rintro e w27 ⟨rfl, hb⟩
            refine ⟨_, rfl, ?_⟩
            replace BK379 := kb BK379 hb
            replace BK381 := kb BK381 hb
            replace HB := Aside0.mk (below_step (zb HB) hb)
            (try clear hb)
            refine hK.out _ _ (an (b12 BK381) (an (b11 BK379) (an (cb hw383_0 HB) (an (cb hw383_1 HB) (an (cb hw383_2 HB) (an (cb hw383_3 HB) (an (cb hw383_4 HB) (an (cb hw383_5 HB) (an (cb hw383_6 HB) (an (cb hw383_7 HB) (an (cb hw383_8 HB) (an (cb hw383_9 HB) (an (cb hw383_10 HB) (cb hw383_11 HB)))))))))))))) (fun hHeld => ?_)
            clear hK K
            refine nm ?_
            refine pu 36 (some 49) (bm 38 137438953471) rfl rfl ?_
            refine pu 37 (some 50) (bm 38 274877906943) rfl rfl ?_
            refine done_ (done_of HT_.out (by kernel_rfl)) ?_
            go_upto_if 50 with (fail)
            have H := HC21.out
            clear HC21
            by_cases c28 : t384 = true
            ·subst c28
             rw [if_pos rfl] at H
             have H' := Aside0.mk H
             clear H
             go_wp2
             go_roundg k1
             case measure => have := HK1.out; omega
             case rel => exact ⟨(wrap64 (x8_1 + 1)), zs, H', ⟨by have := HK1.out; omega⟩, ⟨by exact zk BK379⟩, ⟨zb HB⟩⟩
            ·replace c28 := Bool.eq_false_iff.mpr c28
             subst c28
             rw [if_neg (show ¬ (false = true) by decide)] at H
             obtain rfl := Option.some.inj H
             go_wp2
             go_ret
             exact ⟨by first | rfl | (simp [errW_none, errW_some] <;> rfl) | (simp only [← hji10]; first | rfl | (simp [errW_none, errW_some] <;> rfl)) | (simp [*, errW_none, errW_some] <;> rfl) | (simp [errW_none, errW_some]; exact (by intro l_; cases l_ <;> rfl : ∀ l_ : List UInt8, l_.isEmpty = !(l_ != [])) _), zb HB⟩
           ·replace c19 := Bool.eq_false_iff.mpr c19
            subst c19
            rw [if_neg (show ¬ (false = true) by decide)] at H
            by_cases c29 : ((rd_T58 l0_6 x8_1).f0) = (wrap64 ((wrap64 (2 * x8_1)) + 1))
            ·rw [if_pos c29] at H
             have c29b0 : (((rd_T58 l0_6 x8_1).f0) == (wrap64 ((wrap64 (2 * x8_1)) + 1))) = true := beq_iff_eq.mpr c29
             have c29b1 : (((rd_T58 l0_6 x8_1).f0) != (wrap64 ((wrap64 (2 * x8_1)) + 1))) = false := bne_eq_false_iff_eq.mpr c29
             clear c29
             obtain ⟨t385, A30, H⟩ := ob H
             (try dsimp only at H)
             have HC31 := Aside0.mk H
             clear H
             have p380 : 0 ≤ (x8_1 : Int) := of_decide_eq_true za
             have q380 : x8_1 < (l0_6.length : Int) := of_decide_eq_true za
             obtain ⟨ad380, A380_2, c380_2, A380_7, c380_7, e380, hx380_0, hx380_1, hx380_2, hx380_3, hx380_4, hx380_5, hx380_6, hx380_7, hx380_8, hx380_9, hx380_10, hx380_11, hl380_2, hi380_2, hl380_7, hi380_7⟩ := at_T58 HR0_6.out x8_1 p380 q380
             cases e380
             replace hx380_0 := cb0 hx380_0 HB
             replace hx380_1 := cb0 hx380_1 HB
             replace hx380_2 := cb0 hx380_2 HB
             replace hx380_3 := cb0 hx380_3 HB
             replace hx380_4 := cb0 hx380_4 HB
             replace hx380_5 := cb0 hx380_5 HB
             replace hx380_6 := cb0 hx380_6 HB
             replace hx380_7 := cb0 hx380_7 HB
             replace hx380_8 := cb0 hx380_8 HB
             replace hx380_9 := cb0 hx380_9 HB
             replace hx380_10 := cb0 hx380_10 HB
             replace hx380_11 := cb0 hx380_11 HB
             have HR380_2 := Aside0.mk hi380_2
             have HC380_2 := Aside0.mk hl380_2
             clear hi380_2 hl380_2
             have HR380_7 := Aside0.mk hi380_7
             have HC380_7 := Aside0.mk hl380_7
             clear hi380_7 hl380_7
             replace p380 := eq_true p380
             replace q380 := eq_true q380
             try go_wp2_with (first | ((with_reducible refine gd 4 rfl ?_); (try (refine gate_guard (by rfl) ?_; dsimp only)); refine bx (N := 4) (cs := #[.int .i64 0, .int .i64 0, .slice none 0 0, .string (⟨#[]⟩ : ByteArray), .bool false, .bool false, .int .i64 0, .slice none 0 0, .string (⟨#[]⟩ : ByteArray), .bool false, .int .i64 0, .int .i64 0]) (t := 58) ?_; intro gb381 hg w32 hbox hb; have BK381 := Aside0.mk (hbox); have GW381 := gw HB hg; have GE381 := GW381; replace HB := Aside0.mk (below_step (zb HB) hb); obtain ⟨NB379_381, NB381_379⟩ := nb BK379 hg; replace BK379 := kb BK379 hb; clear hb hbox hg; have hnb33 := NB381_379.out; have hnc33 := NB379_381.out; obtain ⟨hcz34_0, hcz34_1, hcz34_2, hcz34_3, hcz34_4, hcz34_5, hcz34_6, hcz34_7, hcz34_8, hcz34_9, hcz34_10, hcz34_11, hfz34_0, hfz34_1, hfz34_2, hfz34_3, hfz34_4, hfz34_5, hfz34_6, hfz34_7, hfz34_8, hfz34_9, hfz34_10, hfz34_11⟩ := c12 BK381))
             have n0_ : Aside0 (((((((((((((w32.setCell ⟨gb381, 0, none⟩ (.int .i64 ((rd_T58 l0_6 x8_1).f0))).setCell ⟨gb381, 1, none⟩ (.int .i64 ((rd_T58 l0_6 x8_1).f1))).setCell ⟨gb381, 2, none⟩ (.slice A380_2 ((rd_T58 l0_6 x8_1).f2).length c380_2)).setCell ⟨gb381, 3, none⟩ (.string ((rd_T58 l0_6 x8_1).f3))).setCell ⟨gb381, 4, none⟩ (.bool ((rd_T58 l0_6 x8_1).f4))).setCell ⟨gb381, 5, none⟩ (.bool ((rd_T58 l0_6 x8_1).f5))).setCell ⟨gb381, 6, none⟩ (.int .i64 ((rd_T58 l0_6 x8_1).f6))).setCell ⟨gb381, 7, none⟩ (.slice A380_7 ((rd_T58 l0_6 x8_1).f7).length c380_7)).setCell ⟨gb381, 8, none⟩ (.string ((rd_T58 l0_6 x8_1).f8))).setCell ⟨gb381, 9, none⟩ (.bool ((rd_T58 l0_6 x8_1).f9))).setCell ⟨gb381, 10, none⟩ (.int .i64 ((rd_T58 l0_6 x8_1).f10.f0))).setCell ⟨gb381, 11, none⟩ (.int .i64 ((rd_T58 l0_6 x8_1).f10.f1))).heap[gb379]? = some (.cells #[.bool false, .slice A0_1 l0_1.length c0_1, .int .i64 a0_2, .slice A0_3 l0_3.length c0_3, .int .i64 a0_4, .string a0_5, .slice (some ad380) l0_6.length c0_6, .int .i64 a0_7, .int .i64 a0_8, .slice A0_9 l0_9.length c0_9, .bool a0_10] 39 (0, 0))) := ⟨zp BK379⟩
             have n1_ : Aside0 (((((((((((((w32.setCell ⟨gb381, 0, none⟩ (.int .i64 ((rd_T58 l0_6 x8_1).f0))).setCell ⟨gb381, 1, none⟩ (.int .i64 ((rd_T58 l0_6 x8_1).f1))).setCell ⟨gb381, 2, none⟩ (.slice A380_2 ((rd_T58 l0_6 x8_1).f2).length c380_2)).setCell ⟨gb381, 3, none⟩ (.string ((rd_T58 l0_6 x8_1).f3))).setCell ⟨gb381, 4, none⟩ (.bool ((rd_T58 l0_6 x8_1).f4))).setCell ⟨gb381, 5, none⟩ (.bool ((rd_T58 l0_6 x8_1).f5))).setCell ⟨gb381, 6, none⟩ (.int .i64 ((rd_T58 l0_6 x8_1).f6))).setCell ⟨gb381, 7, none⟩ (.slice A380_7 ((rd_T58 l0_6 x8_1).f7).length c380_7)).setCell ⟨gb381, 8, none⟩ (.string ((rd_T58 l0_6 x8_1).f8))).setCell ⟨gb381, 9, none⟩ (.bool ((rd_T58 l0_6 x8_1).f9))).setCell ⟨gb381, 10, none⟩ (.int .i64 ((rd_T58 l0_6 x8_1).f10.f0))).setCell ⟨gb381, 11, none⟩ (.int .i64 ((rd_T58 l0_6 x8_1).f10.f1))).heap[gb381]? = some (.cells #[.int .i64 ((rd_T58 l0_6 x8_1).f0), .int .i64 ((rd_T58 l0_6 x8_1).f1), .slice A380_2 ((rd_T58 l0_6 x8_1).f2).length c380_2, .string ((rd_T58 l0_6 x8_1).f3), .bool ((rd_T58 l0_6 x8_1).f4), .bool ((rd_T58 l0_6 x8_1).f5), .int .i64 ((rd_T58 l0_6 x8_1).f6), .slice A380_7 ((rd_T58 l0_6 x8_1).f7).length c380_7, .string ((rd_T58 l0_6 x8_1).f8), .bool ((rd_T58 l0_6 x8_1).f9), .int .i64 ((rd_T58 l0_6 x8_1).f10.f0), .int .i64 ((rd_T58 l0_6 x8_1).f10.f1)] 58 (0, 0))) := ⟨zp BK381⟩
             have n2_ : Aside0 (Below w.heap.size w ((((((((((((w32.setCell ⟨gb381, 0, none⟩ (.int .i64 ((rd_T58 l0_6 x8_1).f0))).setCell ⟨gb381, 1, none⟩ (.int .i64 ((rd_T58 l0_6 x8_1).f1))).setCell ⟨gb381, 2, none⟩ (.slice A380_2 ((rd_T58 l0_6 x8_1).f2).length c380_2)).setCell ⟨gb381, 3, none⟩ (.string ((rd_T58 l0_6 x8_1).f3))).setCell ⟨gb381, 4, none⟩ (.bool ((rd_T58 l0_6 x8_1).f4))).setCell ⟨gb381, 5, none⟩ (.bool ((rd_T58 l0_6 x8_1).f5))).setCell ⟨gb381, 6, none⟩ (.int .i64 ((rd_T58 l0_6 x8_1).f6))).setCell ⟨gb381, 7, none⟩ (.slice A380_7 ((rd_T58 l0_6 x8_1).f7).length c380_7)).setCell ⟨gb381, 8, none⟩ (.string ((rd_T58 l0_6 x8_1).f8))).setCell ⟨gb381, 9, none⟩ (.bool ((rd_T58 l0_6 x8_1).f9))).setCell ⟨gb381, 10, none⟩ (.int .i64 ((rd_T58 l0_6 x8_1).f10.f0))).setCell ⟨gb381, 11, none⟩ (.int .i64 ((rd_T58 l0_6 x8_1).f10.f1)))) := ⟨zb HB⟩
             (try clear BK379)
             (try clear BK381)
             (try clear HB)
             generalize ((((((((((((w32.setCell ⟨gb381, 0, none⟩ (.int .i64 ((rd_T58 l0_6 x8_1).f0))).setCell ⟨gb381, 1, none⟩ (.int .i64 ((rd_T58 l0_6 x8_1).f1))).setCell ⟨gb381, 2, none⟩ (.slice A380_2 ((rd_T58 l0_6 x8_1).f2).length c380_2)).setCell ⟨gb381, 3, none⟩ (.string ((rd_T58 l0_6 x8_1).f3))).setCell ⟨gb381, 4, none⟩ (.bool ((rd_T58 l0_6 x8_1).f4))).setCell ⟨gb381, 5, none⟩ (.bool ((rd_T58 l0_6 x8_1).f5))).setCell ⟨gb381, 6, none⟩ (.int .i64 ((rd_T58 l0_6 x8_1).f6))).setCell ⟨gb381, 7, none⟩ (.slice A380_7 ((rd_T58 l0_6 x8_1).f7).length c380_7)).setCell ⟨gb381, 8, none⟩ (.string ((rd_T58 l0_6 x8_1).f8))).setCell ⟨gb381, 9, none⟩ (.bool ((rd_T58 l0_6 x8_1).f9))).setCell ⟨gb381, 10, none⟩ (.int .i64 ((rd_T58 l0_6 x8_1).f10.f0))).setCell ⟨gb381, 11, none⟩ (.int .i64 ((rd_T58 l0_6 x8_1).f10.f1))) = w35 at n0_ n1_ n2_ ⊢
             have BK379 := n0_
             have BK381 := n1_
             have HB := n2_
             clear n0_ n1_ n2_
             replace BK379 := Aside0.mk (blk_drew BK379.out)
             replace BK381 := Aside0.mk (blk_drew BK381.out)
             replace HB := Aside0.mk (below_drew1 HB.out)
             have p383 : 0 ≤ ((ji10) : Int) := of_decide_eq_true za
             have q383 : (ji10) < (l0_6.length : Int) := of_decide_eq_true za
             obtain ⟨ad383, A383_2, c383_2, A383_7, c383_7, e383, hx383_0, hx383_1, hx383_2, hx383_3, hx383_4, hx383_5, hx383_6, hx383_7, hx383_8, hx383_9, hx383_10, hx383_11, hl383_2, hi383_2, hl383_7, hi383_7⟩ := at_T58 HR0_6.out (ji10) p383 q383
             have hw383_11 := hx383_11
             have hw383_10 := hx383_10
             have hw383_9 := hx383_9
             have hw383_8 := hx383_8
             have hw383_7 := hx383_7
             have hw383_6 := hx383_6
             have hw383_5 := hx383_5
             have hw383_4 := hx383_4
             have hw383_3 := hx383_3
             have hw383_2 := hx383_2
             have hw383_1 := hx383_1
             have hw383_0 := hx383_0
             obtain rfl : ad380 = ad383 := (by injection e383)
             replace hx383_0 := cb0 hx383_0 HB
             replace hx383_1 := cb0 hx383_1 HB
             replace hx383_2 := cb0 hx383_2 HB
             replace hx383_3 := cb0 hx383_3 HB
             replace hx383_4 := cb0 hx383_4 HB
             replace hx383_5 := cb0 hx383_5 HB
             replace hx383_6 := cb0 hx383_6 HB
             replace hx383_7 := cb0 hx383_7 HB
             replace hx383_8 := cb0 hx383_8 HB
             replace hx383_9 := cb0 hx383_9 HB
             replace hx383_10 := cb0 hx383_10 HB
             replace hx383_11 := cb0 hx383_11 HB
             have HR383_2 := Aside0.mk hi383_2
             have HC383_2 := Aside0.mk hl383_2
             clear hi383_2 hl383_2
             have HR383_7 := Aside0.mk hi383_7
             have HC383_7 := Aside0.mk hl383_7
             clear hi383_7 hl383_7
             replace p383 := eq_true p383
             replace q383 := eq_true q383
             refine st 38 (an (b12 BK381) (an (b11 BK379) (an (cb hw383_0 HB) (an (cb hw383_1 HB) (an (cb hw383_2 HB) (an (cb hw383_3 HB) (an (cb hw383_4 HB) (an (cb hw383_5 HB) (an (cb hw383_6 HB) (an (cb hw383_7 HB) (an (cb hw383_8 HB) (an (cb hw383_9 HB) (an (cb hw383_10 HB) (cb hw383_11 HB)))))))))))))) (fun hHeld => ?_); refine with_tabW impl_EndOk.tab4 impl_EndOk.bits4 (fun HT_ HW_ => ?_)
             generalize w35.drew = w36 at BK379 BK381 HB HR383_2 HR383_7 hx383_0 hx383_1 hx383_10 hx383_11 hx383_2 hx383_3 hx383_4 hx383_5 hx383_6 hx383_7 hx383_8 hx383_9 hHeld ⊢
             refine pu 0 (some 13) (bm 38 1) rfl rfl ?_
             refine tk 1 (some 14) (bm 38 3) rfl rfl hHeld ?_
             refine one_ (i := 2) (N := some 15) (bm 38 7) rfl rfl (one_of HT_.out (by kernel_rfl)) (by decide) (fun K hK => ?_)
             refine gs Tryd.func51 #[.int .i64 ((rd_T58 l0_6 x8_1).f0)] ?_
             with_reducible refine (impl_isStream.calls ((rd_T58 l0_6 x8_1).f0) true _ A7.out).mono ?_
             rintro e w' ⟨rfl, ⟨nd, rfl⟩⟩
             refine ⟨_, rfl, ?_⟩
             refine hK.out _ _ (an (b12 BK381) (an (b11 BK379) (an (cb hw383_0 HB) (an (cb hw383_1 HB) (an (cb hw383_2 HB) (an (cb hw383_3 HB) (an (cb hw383_4 HB) (an (cb hw383_5 HB) (an (cb hw383_6 HB) (an (cb hw383_7 HB) (an (cb hw383_8 HB) (an (cb hw383_9 HB) (an (cb hw383_10 HB) (cb hw383_11 HB)))))))))))))) (fun hHeld => ?_)
             clear hK K
             refine nm ?_
             refine pu 3 (some 16) (bm 38 15) rfl rfl ?_
             refine pu 4 (some 17) (bm 38 31) rfl rfl ?_
             refine pu 5 (some 18) (bm 38 63) rfl rfl ?_
             refine pu 6 (some 19) (bm 38 127) rfl rfl ?_
             refine pu 7 (some 20) (bm 38 255) rfl rfl ?_
             refine pu 8 (some 21) (bm 38 511) rfl rfl ?_
             refine pu 10 (some 23) (bm 38 1535) rfl rfl ?_
             refine pu 12 (some 25) (bm 38 5631) rfl rfl ?_
             refine pu 13 (some 26) (bm 38 13823) rfl rfl ?_
             refine tk 9 (some 22) (bm 38 14335) rfl rfl hHeld ?_
             refine tk 11 (some 24) (bm 38 16383) rfl rfl hHeld ?_
             refine pu 14 (some 27) (bm 38 32767) rfl rfl ?_
             refine pu 15 (some 28) (bm 38 65535) rfl rfl ?_
             refine tk 16 (some 29) (bm 38 131071) rfl rfl hHeld ?_
             refine pu 17 (some 30) (bm 38 262143) rfl rfl ?_
             refine pu 18 (some 31) (bm 38 524287) rfl rfl ?_
             refine pu 19 (some 32) (bm 38 1048575) rfl rfl ?_
             refine pu 20 (some 33) (bm 38 2097151) rfl rfl ?_
             refine pu 21 (some 34) (bm 38 4194303) rfl rfl ?_
             refine tk 22 (some 35) (bm 38 8388607) rfl rfl hHeld ?_
             refine pu 23 (some 36) (bm 38 16777215) rfl rfl ?_
             refine pu 24 (some 37) (bm 38 33554431) rfl rfl ?_
             refine pu 25 (some 38) (bm 38 67108863) rfl rfl ?_
             refine pu 27 (some 40) (bm 38 201326591) rfl rfl ?_
             refine pu 28 (some 41) (bm 38 469762047) rfl rfl ?_
             refine pu 29 (some 42) (bm 38 1006632959) rfl rfl ?_
             refine tk 26 (some 39) (bm 38 1073741823) rfl rfl hHeld ?_
             refine pu 30 (some 43) (bm 38 2147483647) rfl rfl ?_
             refine pu 31 (some 44) (bm 38 4294967295) rfl rfl ?_
             refine pu 32 (some 45) (bm 38 8589934591) rfl rfl ?_
             refine pu 33 (some 46) (bm 38 17179869183) rfl rfl ?_
             refine tk 34 (some 47) (bm 38 34359738367) rfl rfl hHeld ?_
             refine one_ (i := 35) (N := some 48) (bm 38 68719476735) rfl rfl (one_of HT_.out (by kernel_rfl)) (by decide) (fun K hK => ?_)
             refine gs Tryd.func52 #[.agg #[.int .i64 ((rd_T58 l0_6 x8_1).f0), .int .i64 ((rd_T58 l0_6 x8_1).f1), .slice A380_2 ((rd_T58 l0_6 x8_1).f2).length c380_2, .string ((rd_T58 l0_6 x8_1).f3), .bool ((rd_T58 l0_6 x8_1).f4), .bool ((rd_T58 l0_6 x8_1).f5), .int .i64 ((rd_T58 l0_6 x8_1).f6), .slice A380_7 ((rd_T58 l0_6 x8_1).f7).length c380_7, .string ((rd_T58 l0_6 x8_1).f8), .bool ((rd_T58 l0_6 x8_1).f9), .int .i64 ((rd_T58 l0_6 x8_1).f10.f0), .int .i64 ((rd_T58 l0_6 x8_1).f10.f1)]] ?_
             with_reducible refine (impl_streamOk.calls k1 ((rd_T58 l0_6 x8_1).f0) ((rd_T58 l0_6 x8_1).f1) _ _ ((rd_T58 l0_6 x8_1).f2) ((rd_T58 l0_6 x8_1).f3) ((rd_T58 l0_6 x8_1).f4) ((rd_T58 l0_6 x8_1).f5) ((rd_T58 l0_6 x8_1).f6) _ _ ((rd_T58 l0_6 x8_1).f7) ((rd_T58 l0_6 x8_1).f8) ((rd_T58 l0_6 x8_1).f9) ((rd_T58 l0_6 x8_1).f10.f0) ((rd_T58 l0_6 x8_1).f10.f1) t385 _ ?side1 ?side2 ?side3 ?side4 A30.out).mono ?_
             (case side1 => exact (Kd.C_below HR380_2.out (zb HB)))
             (case side2 => exact HC380_2.out)
             (case side3 => exact (Kd.C_below HR380_7.out (zb HB)))
             (case side4 => exact HC380_7.out)
             rintro e w37 ⟨rfl, hb⟩
             refine ⟨_, rfl, ?_⟩
             replace BK379 := kb BK379 hb
             replace BK381 := kb BK381 hb
             replace HB := Aside0.mk (below_step (zb HB) hb)
             (try clear hb)
             refine hK.out _ _ (an (b12 BK381) (an (b11 BK379) (an (cb hw383_0 HB) (an (cb hw383_1 HB) (an (cb hw383_2 HB) (an (cb hw383_3 HB) (an (cb hw383_4 HB) (an (cb hw383_5 HB) (an (cb hw383_6 HB) (an (cb hw383_7 HB) (an (cb hw383_8 HB) (an (cb hw383_9 HB) (an (cb hw383_10 HB) (cb hw383_11 HB)))))))))))))) (fun hHeld => ?_)
             clear hK K
             refine nm ?_
             refine pu 36 (some 49) (bm 38 137438953471) rfl rfl ?_
             refine pu 37 (some 50) (bm 38 274877906943) rfl rfl ?_
             refine done_ (done_of HT_.out (by kernel_rfl)) ?_
             go_upto_if 50 with (fail)
             have H := HC31.out
             clear HC31
             by_cases c38 : t385 = true
             ·subst c38
              rw [if_pos rfl] at H
              have H' := Aside0.mk H
              clear H
              go_wp2
              go_roundg k1
              case measure => have := HK1.out; omega
              case rel => exact ⟨(wrap64 (x8_1 + 1)), zs, H', ⟨by have := HK1.out; omega⟩, ⟨by exact zk BK379⟩, ⟨zb HB⟩⟩
             ·replace c38 := Bool.eq_false_iff.mpr c38
              subst c38
              rw [if_neg (show ¬ (false = true) by decide)] at H
              obtain rfl := Option.some.inj H
              go_wp2
              go_ret
              exact ⟨by first | rfl | (simp [errW_none, errW_some] <;> rfl) | (simp only [← hji10]; first | rfl | (simp [errW_none, errW_some] <;> rfl)) | (simp [*, errW_none, errW_some] <;> rfl) | (simp [errW_none, errW_some]; exact (by intro l_; cases l_ <;> rfl : ∀ l_ : List UInt8, l_.isEmpty = !(l_ != [])) _), zb HB⟩
            ·rw [if_neg c29] at H
             have c29b0 : (((rd_T58 l0_6 x8_1).f0) == (wrap64 ((wrap64 (2 * x8_1)) + 1))) = false := beq_eq_false_iff_ne.mpr c29
             have c29b1 : (((rd_T58 l0_6 x8_1).f0) != (wrap64 ((wrap64 (2 * x8_1)) + 1))) = true := bne_iff_ne.mpr c29
             obtain rfl := Option.some.inj H
             have p380 : 0 ≤ (x8_1 : Int) := of_decide_eq_true za
             have q380 : x8_1 < (l0_6.length : Int) := of_decide_eq_true za
             obtain ⟨ad380, A380_2, c380_2, A380_7, c380_7, e380, hx380_0, hx380_1, hx380_2, hx380_3, hx380_4, hx380_5, hx380_6, hx380_7, hx380_8, hx380_9, hx380_10, hx380_11, hl380_2, hi380_2, hl380_7, hi380_7⟩ := at_T58 HR0_6.out x8_1 p380 q380
             cases e380
             replace hx380_0 := cb0 hx380_0 HB
             replace hx380_1 := cb0 hx380_1 HB
             replace hx380_2 := cb0 hx380_2 HB
             replace hx380_3 := cb0 hx380_3 HB
             replace hx380_4 := cb0 hx380_4 HB
             replace hx380_5 := cb0 hx380_5 HB
             replace hx380_6 := cb0 hx380_6 HB
             replace hx380_7 := cb0 hx380_7 HB
             replace hx380_8 := cb0 hx380_8 HB
             replace hx380_9 := cb0 hx380_9 HB
             replace hx380_10 := cb0 hx380_10 HB
             replace hx380_11 := cb0 hx380_11 HB
             have HR380_2 := Aside0.mk hi380_2
             have HC380_2 := Aside0.mk hl380_2
             clear hi380_2 hl380_2
             have HR380_7 := Aside0.mk hi380_7
             have HC380_7 := Aside0.mk hl380_7
             clear hi380_7 hl380_7
             replace p380 := eq_true p380
             replace q380 := eq_true q380
             try go_wp2_with (first | ((with_reducible refine gd 4 rfl ?_); (try (refine gate_guard (by rfl) ?_; dsimp only)); refine bx (N := 4) (cs := #[.int .i64 0, .int .i64 0, .slice none 0 0, .string (⟨#[]⟩ : ByteArray), .bool false, .bool false, .int .i64 0, .slice none 0 0, .string (⟨#[]⟩ : ByteArray), .bool false, .int .i64 0, .int .i64 0]) (t := 58) ?_; intro gb381 hg w39 hbox hb; have BK381 := Aside0.mk (hbox); have GW381 := gw HB hg; have GE381 := GW381; replace HB := Aside0.mk (below_step (zb HB) hb); obtain ⟨NB379_381, NB381_379⟩ := nb BK379 hg; replace BK379 := kb BK379 hb; clear hb hbox hg; have hnb40 := NB381_379.out; have hnc40 := NB379_381.out; obtain ⟨hcz41_0, hcz41_1, hcz41_2, hcz41_3, hcz41_4, hcz41_5, hcz41_6, hcz41_7, hcz41_8, hcz41_9, hcz41_10, hcz41_11, hfz41_0, hfz41_1, hfz41_2, hfz41_3, hfz41_4, hfz41_5, hfz41_6, hfz41_7, hfz41_8, hfz41_9, hfz41_10, hfz41_11⟩ := c12 BK381))
             have n0_ : Aside0 (((((((((((((w39.setCell ⟨gb381, 0, none⟩ (.int .i64 ((rd_T58 l0_6 x8_1).f0))).setCell ⟨gb381, 1, none⟩ (.int .i64 ((rd_T58 l0_6 x8_1).f1))).setCell ⟨gb381, 2, none⟩ (.slice A380_2 ((rd_T58 l0_6 x8_1).f2).length c380_2)).setCell ⟨gb381, 3, none⟩ (.string ((rd_T58 l0_6 x8_1).f3))).setCell ⟨gb381, 4, none⟩ (.bool ((rd_T58 l0_6 x8_1).f4))).setCell ⟨gb381, 5, none⟩ (.bool ((rd_T58 l0_6 x8_1).f5))).setCell ⟨gb381, 6, none⟩ (.int .i64 ((rd_T58 l0_6 x8_1).f6))).setCell ⟨gb381, 7, none⟩ (.slice A380_7 ((rd_T58 l0_6 x8_1).f7).length c380_7)).setCell ⟨gb381, 8, none⟩ (.string ((rd_T58 l0_6 x8_1).f8))).setCell ⟨gb381, 9, none⟩ (.bool ((rd_T58 l0_6 x8_1).f9))).setCell ⟨gb381, 10, none⟩ (.int .i64 ((rd_T58 l0_6 x8_1).f10.f0))).setCell ⟨gb381, 11, none⟩ (.int .i64 ((rd_T58 l0_6 x8_1).f10.f1))).heap[gb379]? = some (.cells #[.bool false, .slice A0_1 l0_1.length c0_1, .int .i64 a0_2, .slice A0_3 l0_3.length c0_3, .int .i64 a0_4, .string a0_5, .slice (some ad380) l0_6.length c0_6, .int .i64 a0_7, .int .i64 a0_8, .slice A0_9 l0_9.length c0_9, .bool a0_10] 39 (0, 0))) := ⟨zp BK379⟩
             have n1_ : Aside0 (((((((((((((w39.setCell ⟨gb381, 0, none⟩ (.int .i64 ((rd_T58 l0_6 x8_1).f0))).setCell ⟨gb381, 1, none⟩ (.int .i64 ((rd_T58 l0_6 x8_1).f1))).setCell ⟨gb381, 2, none⟩ (.slice A380_2 ((rd_T58 l0_6 x8_1).f2).length c380_2)).setCell ⟨gb381, 3, none⟩ (.string ((rd_T58 l0_6 x8_1).f3))).setCell ⟨gb381, 4, none⟩ (.bool ((rd_T58 l0_6 x8_1).f4))).setCell ⟨gb381, 5, none⟩ (.bool ((rd_T58 l0_6 x8_1).f5))).setCell ⟨gb381, 6, none⟩ (.int .i64 ((rd_T58 l0_6 x8_1).f6))).setCell ⟨gb381, 7, none⟩ (.slice A380_7 ((rd_T58 l0_6 x8_1).f7).length c380_7)).setCell ⟨gb381, 8, none⟩ (.string ((rd_T58 l0_6 x8_1).f8))).setCell ⟨gb381, 9, none⟩ (.bool ((rd_T58 l0_6 x8_1).f9))).setCell ⟨gb381, 10, none⟩ (.int .i64 ((rd_T58 l0_6 x8_1).f10.f0))).setCell ⟨gb381, 11, none⟩ (.int .i64 ((rd_T58 l0_6 x8_1).f10.f1))).heap[gb381]? = some (.cells #[.int .i64 ((rd_T58 l0_6 x8_1).f0), .int .i64 ((rd_T58 l0_6 x8_1).f1), .slice A380_2 ((rd_T58 l0_6 x8_1).f2).length c380_2, .string ((rd_T58 l0_6 x8_1).f3), .bool ((rd_T58 l0_6 x8_1).f4), .bool ((rd_T58 l0_6 x8_1).f5), .int .i64 ((rd_T58 l0_6 x8_1).f6), .slice A380_7 ((rd_T58 l0_6 x8_1).f7).length c380_7, .string ((rd_T58 l0_6 x8_1).f8), .bool ((rd_T58 l0_6 x8_1).f9), .int .i64 ((rd_T58 l0_6 x8_1).f10.f0), .int .i64 ((rd_T58 l0_6 x8_1).f10.f1)] 58 (0, 0))) := ⟨zp BK381⟩
             have n2_ : Aside0 (Below w.heap.size w ((((((((((((w39.setCell ⟨gb381, 0, none⟩ (.int .i64 ((rd_T58 l0_6 x8_1).f0))).setCell ⟨gb381, 1, none⟩ (.int .i64 ((rd_T58 l0_6 x8_1).f1))).setCell ⟨gb381, 2, none⟩ (.slice A380_2 ((rd_T58 l0_6 x8_1).f2).length c380_2)).setCell ⟨gb381, 3, none⟩ (.string ((rd_T58 l0_6 x8_1).f3))).setCell ⟨gb381, 4, none⟩ (.bool ((rd_T58 l0_6 x8_1).f4))).setCell ⟨gb381, 5, none⟩ (.bool ((rd_T58 l0_6 x8_1).f5))).setCell ⟨gb381, 6, none⟩ (.int .i64 ((rd_T58 l0_6 x8_1).f6))).setCell ⟨gb381, 7, none⟩ (.slice A380_7 ((rd_T58 l0_6 x8_1).f7).length c380_7)).setCell ⟨gb381, 8, none⟩ (.string ((rd_T58 l0_6 x8_1).f8))).setCell ⟨gb381, 9, none⟩ (.bool ((rd_T58 l0_6 x8_1).f9))).setCell ⟨gb381, 10, none⟩ (.int .i64 ((rd_T58 l0_6 x8_1).f10.f0))).setCell ⟨gb381, 11, none⟩ (.int .i64 ((rd_T58 l0_6 x8_1).f10.f1)))) := ⟨zb HB⟩
             (try clear BK379)
             (try clear BK381)
             (try clear HB)
             generalize ((((((((((((w39.setCell ⟨gb381, 0, none⟩ (.int .i64 ((rd_T58 l0_6 x8_1).f0))).setCell ⟨gb381, 1, none⟩ (.int .i64 ((rd_T58 l0_6 x8_1).f1))).setCell ⟨gb381, 2, none⟩ (.slice A380_2 ((rd_T58 l0_6 x8_1).f2).length c380_2)).setCell ⟨gb381, 3, none⟩ (.string ((rd_T58 l0_6 x8_1).f3))).setCell ⟨gb381, 4, none⟩ (.bool ((rd_T58 l0_6 x8_1).f4))).setCell ⟨gb381, 5, none⟩ (.bool ((rd_T58 l0_6 x8_1).f5))).setCell ⟨gb381, 6, none⟩ (.int .i64 ((rd_T58 l0_6 x8_1).f6))).setCell ⟨gb381, 7, none⟩ (.slice A380_7 ((rd_T58 l0_6 x8_1).f7).length c380_7)).setCell ⟨gb381, 8, none⟩ (.string ((rd_T58 l0_6 x8_1).f8))).setCell ⟨gb381, 9, none⟩ (.bool ((rd_T58 l0_6 x8_1).f9))).setCell ⟨gb381, 10, none⟩ (.int .i64 ((rd_T58 l0_6 x8_1).f10.f0))).setCell ⟨gb381, 11, none⟩ (.int .i64 ((rd_T58 l0_6 x8_1).f10.f1))) = w42 at n0_ n1_ n2_ ⊢
             have BK379 := n0_
             have BK381 := n1_
             have HB := n2_
             clear n0_ n1_ n2_
             replace BK379 := Aside0.mk (blk_drew BK379.out)
             replace BK381 := Aside0.mk (blk_drew BK381.out)
             replace HB := Aside0.mk (below_drew1 HB.out)
             have p383 : 0 ≤ ((ji10) : Int) := of_decide_eq_true za
             have q383 : (ji10) < (l0_6.length : Int) := of_decide_eq_true za
             obtain ⟨ad383, A383_2, c383_2, A383_7, c383_7, e383, hx383_0, hx383_1, hx383_2, hx383_3, hx383_4, hx383_5, hx383_6, hx383_7, hx383_8, hx383_9, hx383_10, hx383_11, hl383_2, hi383_2, hl383_7, hi383_7⟩ := at_T58 HR0_6.out (ji10) p383 q383
             have hw383_11 := hx383_11
             have hw383_10 := hx383_10
             have hw383_9 := hx383_9
             have hw383_8 := hx383_8
             have hw383_7 := hx383_7
             have hw383_6 := hx383_6
             have hw383_5 := hx383_5
             have hw383_4 := hx383_4
             have hw383_3 := hx383_3
             have hw383_2 := hx383_2
             have hw383_1 := hx383_1
             have hw383_0 := hx383_0
             obtain rfl : ad380 = ad383 := (by injection e383)
             replace hx383_0 := cb0 hx383_0 HB
             replace hx383_1 := cb0 hx383_1 HB
             replace hx383_2 := cb0 hx383_2 HB
             replace hx383_3 := cb0 hx383_3 HB
             replace hx383_4 := cb0 hx383_4 HB
             replace hx383_5 := cb0 hx383_5 HB
             replace hx383_6 := cb0 hx383_6 HB
             replace hx383_7 := cb0 hx383_7 HB
             replace hx383_8 := cb0 hx383_8 HB
             replace hx383_9 := cb0 hx383_9 HB
             replace hx383_10 := cb0 hx383_10 HB
             replace hx383_11 := cb0 hx383_11 HB
             have HR383_2 := Aside0.mk hi383_2
             have HC383_2 := Aside0.mk hl383_2
             clear hi383_2 hl383_2
             have HR383_7 := Aside0.mk hi383_7
             have HC383_7 := Aside0.mk hl383_7
             clear hi383_7 hl383_7
             replace p383 := eq_true p383
             replace q383 := eq_true q383
             refine st 38 (an (b12 BK381) (an (b11 BK379) (an (cb hw383_0 HB) (an (cb hw383_1 HB) (an (cb hw383_2 HB) (an (cb hw383_3 HB) (an (cb hw383_4 HB) (an (cb hw383_5 HB) (an (cb hw383_6 HB) (an (cb hw383_7 HB) (an (cb hw383_8 HB) (an (cb hw383_9 HB) (an (cb hw383_10 HB) (cb hw383_11 HB)))))))))))))) (fun hHeld => ?_); refine with_tabW impl_EndOk.tab4 impl_EndOk.bits4 (fun HT_ HW_ => ?_)
             generalize w42.drew = w43 at BK379 BK381 HB HR383_2 HR383_7 hx383_0 hx383_1 hx383_10 hx383_11 hx383_2 hx383_3 hx383_4 hx383_5 hx383_6 hx383_7 hx383_8 hx383_9 hHeld ⊢
             refine pu 0 (some 13) (bm 38 1) rfl rfl ?_
             refine tk 1 (some 14) (bm 38 3) rfl rfl hHeld ?_
             refine one_ (i := 2) (N := some 15) (bm 38 7) rfl rfl (one_of HT_.out (by kernel_rfl)) (by decide) (fun K hK => ?_)
             refine gs Tryd.func51 #[.int .i64 ((rd_T58 l0_6 x8_1).f0)] ?_
             with_reducible refine (impl_isStream.calls ((rd_T58 l0_6 x8_1).f0) true _ A7.out).mono ?_
             rintro e w' ⟨rfl, ⟨nd, rfl⟩⟩
             refine ⟨_, rfl, ?_⟩
             refine hK.out _ _ (an (b12 BK381) (an (b11 BK379) (an (cb hw383_0 HB) (an (cb hw383_1 HB) (an (cb hw383_2 HB) (an (cb hw383_3 HB) (an (cb hw383_4 HB) (an (cb hw383_5 HB) (an (cb hw383_6 HB) (an (cb hw383_7 HB) (an (cb hw383_8 HB) (an (cb hw383_9 HB) (an (cb hw383_10 HB) (cb hw383_11 HB)))))))))))))) (fun hHeld => ?_)
             clear hK K
             refine nm ?_
             refine pu 3 (some 16) (bm 38 15) rfl rfl ?_
             refine pu 4 (some 17) (bm 38 31) rfl rfl ?_
             refine pu 5 (some 18) (bm 38 63) rfl rfl ?_
             refine pu 6 (some 19) (bm 38 127) rfl rfl ?_
             refine pu 7 (some 20) (bm 38 255) rfl rfl ?_
             refine pu 8 (some 21) (bm 38 511) rfl rfl ?_
             refine pu 10 (some 23) (bm 38 1535) rfl rfl ?_
             refine pu 12 (some 25) (bm 38 5631) rfl rfl ?_
             refine pu 13 (some 26) (bm 38 13823) rfl rfl ?_
             refine tk 9 (some 22) (bm 38 14335) rfl rfl hHeld ?_
             refine tk 11 (some 24) (bm 38 16383) rfl rfl hHeld ?_
             refine pu 14 (some 27) (bm 38 32767) rfl rfl ?_
             refine pu 15 (some 28) (bm 38 65535) rfl rfl ?_
             refine tk 16 (some 29) (bm 38 131071) rfl rfl hHeld ?_
             refine pu 17 (some 30) (bm 38 262143) rfl rfl ?_
             refine pu 18 (some 31) (bm 38 524287) rfl rfl ?_
             refine pu 19 (some 32) (bm 38 1048575) rfl rfl ?_
             refine pu 20 (some 33) (bm 38 2097151) rfl rfl ?_
             refine pu 21 (some 34) (bm 38 4194303) rfl rfl ?_
             refine tk 22 (some 35) (bm 38 8388607) rfl rfl hHeld ?_
             refine pu 23 (some 36) (bm 38 16777215) rfl rfl ?_
             refine pu 24 (some 37) (bm 38 33554431) rfl rfl ?_
             refine pu 25 (some 38) (bm 38 67108863) rfl rfl ?_
             refine pu 27 (some 40) (bm 38 201326591) rfl rfl ?_
             refine pu 28 (some 41) (bm 38 469762047) rfl rfl ?_
             refine pu 29 (some 42) (bm 38 1006632959) rfl rfl ?_
             refine tk 26 (some 39) (bm 38 1073741823) rfl rfl hHeld ?_
             refine pu 30 (some 43) (bm 38 2147483647) rfl rfl ?_
             refine pu 31 (some 44) (bm 38 4294967295) rfl rfl ?_
             refine pu 32 (some 45) (bm 38 8589934591) rfl rfl ?_
             refine pu 33 (some 46) (bm 38 17179869183) rfl rfl ?_
             refine pv 34 (some 47) (bm 38 34359738367) rfl rfl ?_
             refine pv 35 (some 48) (bm 38 68719476735) rfl rfl ?_
             refine pv 36 (some 49) (bm 38 137438953471) rfl rfl ?_
             refine pu 37 (some 50) (bm 38 274877906943) rfl rfl ?_
             refine done_ (done_of HT_.out (by kernel_rfl)) ?_
             try go_wp2
             go_ret
             exact ⟨by first | rfl | (simp [errW_none, errW_some] <;> rfl) | (simp only [← hji10]; first | rfl | (simp [errW_none, errW_some] <;> rfl)) | (simp [*, errW_none, errW_some] <;> rfl) | (simp [errW_none, errW_some]; exact (by intro l_; cases l_ <;> rfl : ∀ l_ : List UInt8, l_.isEmpty = !(l_ != [])) _), zb HB⟩
         ·rw [if_neg c12] at H
          exact absurd H (by simp)
        ·rw [if_neg c11] at H
         exact absurd H (by simp)
       ·rw [if_neg c9] at H
        have c9b0 := decide_eq_false c9
        clear c9
        by_cases c44 : a0_0 = true
        ·subst c44
         rw [if_pos rfl] at H
         obtain ⟨t386, A45, H⟩ := ob H
         (try dsimp only at H)
         have HC46 := Aside0.mk H
         clear H
         have p380 : 0 ≤ (x8_1 : Int) := of_decide_eq_true za
         have q380 : x8_1 < (l0_6.length : Int) := of_decide_eq_true za
         obtain ⟨ad380, A380_2, c380_2, A380_7, c380_7, e380, hx380_0, hx380_1, hx380_2, hx380_3, hx380_4, hx380_5, hx380_6, hx380_7, hx380_8, hx380_9, hx380_10, hx380_11, hl380_2, hi380_2, hl380_7, hi380_7⟩ := at_T58 HR0_6.out x8_1 p380 q380
         cases e380
         replace hx380_0 := cb0 hx380_0 HB
         replace hx380_1 := cb0 hx380_1 HB
         replace hx380_2 := cb0 hx380_2 HB
         replace hx380_3 := cb0 hx380_3 HB
         replace hx380_4 := cb0 hx380_4 HB
         replace hx380_5 := cb0 hx380_5 HB
         replace hx380_6 := cb0 hx380_6 HB
         replace hx380_7 := cb0 hx380_7 HB
         replace hx380_8 := cb0 hx380_8 HB
         replace hx380_9 := cb0 hx380_9 HB
         replace hx380_10 := cb0 hx380_10 HB
         replace hx380_11 := cb0 hx380_11 HB
         have HR380_2 := Aside0.mk hi380_2
         have HC380_2 := Aside0.mk hl380_2
         clear hi380_2 hl380_2
         have HR380_7 := Aside0.mk hi380_7
         have HC380_7 := Aside0.mk hl380_7
         clear hi380_7 hl380_7
         replace p380 := eq_true p380
         replace q380 := eq_true q380
         try go_wp2_with (first | ((with_reducible refine gd 4 rfl ?_); (try (refine gate_guard (by rfl) ?_; dsimp only)); refine bx (N := 4) (cs := #[.int .i64 0, .int .i64 0, .slice none 0 0, .string (⟨#[]⟩ : ByteArray), .bool false, .bool false, .int .i64 0, .slice none 0 0, .string (⟨#[]⟩ : ByteArray), .bool false, .int .i64 0, .int .i64 0]) (t := 58) ?_; intro gb381 hg w47 hbox hb; have BK381 := Aside0.mk (hbox); have GW381 := gw HB hg; have GE381 := GW381; replace HB := Aside0.mk (below_step (zb HB) hb); obtain ⟨NB379_381, NB381_379⟩ := nb BK379 hg; replace BK379 := kb BK379 hb; clear hb hbox hg; have hnb48 := NB381_379.out; have hnc48 := NB379_381.out; obtain ⟨hcz49_0, hcz49_1, hcz49_2, hcz49_3, hcz49_4, hcz49_5, hcz49_6, hcz49_7, hcz49_8, hcz49_9, hcz49_10, hcz49_11, hfz49_0, hfz49_1, hfz49_2, hfz49_3, hfz49_4, hfz49_5, hfz49_6, hfz49_7, hfz49_8, hfz49_9, hfz49_10, hfz49_11⟩ := c12 BK381))
         have n0_ : Aside0 (((((((((((((w47.setCell ⟨gb381, 0, none⟩ (.int .i64 ((rd_T58 l0_6 x8_1).f0))).setCell ⟨gb381, 1, none⟩ (.int .i64 ((rd_T58 l0_6 x8_1).f1))).setCell ⟨gb381, 2, none⟩ (.slice A380_2 ((rd_T58 l0_6 x8_1).f2).length c380_2)).setCell ⟨gb381, 3, none⟩ (.string ((rd_T58 l0_6 x8_1).f3))).setCell ⟨gb381, 4, none⟩ (.bool ((rd_T58 l0_6 x8_1).f4))).setCell ⟨gb381, 5, none⟩ (.bool ((rd_T58 l0_6 x8_1).f5))).setCell ⟨gb381, 6, none⟩ (.int .i64 ((rd_T58 l0_6 x8_1).f6))).setCell ⟨gb381, 7, none⟩ (.slice A380_7 ((rd_T58 l0_6 x8_1).f7).length c380_7)).setCell ⟨gb381, 8, none⟩ (.string ((rd_T58 l0_6 x8_1).f8))).setCell ⟨gb381, 9, none⟩ (.bool ((rd_T58 l0_6 x8_1).f9))).setCell ⟨gb381, 10, none⟩ (.int .i64 ((rd_T58 l0_6 x8_1).f10.f0))).setCell ⟨gb381, 11, none⟩ (.int .i64 ((rd_T58 l0_6 x8_1).f10.f1))).heap[gb379]? = some (.cells #[.bool true, .slice A0_1 l0_1.length c0_1, .int .i64 a0_2, .slice A0_3 l0_3.length c0_3, .int .i64 a0_4, .string a0_5, .slice (some ad380) l0_6.length c0_6, .int .i64 a0_7, .int .i64 a0_8, .slice A0_9 l0_9.length c0_9, .bool a0_10] 39 (0, 0))) := ⟨zp BK379⟩
         have n1_ : Aside0 (((((((((((((w47.setCell ⟨gb381, 0, none⟩ (.int .i64 ((rd_T58 l0_6 x8_1).f0))).setCell ⟨gb381, 1, none⟩ (.int .i64 ((rd_T58 l0_6 x8_1).f1))).setCell ⟨gb381, 2, none⟩ (.slice A380_2 ((rd_T58 l0_6 x8_1).f2).length c380_2)).setCell ⟨gb381, 3, none⟩ (.string ((rd_T58 l0_6 x8_1).f3))).setCell ⟨gb381, 4, none⟩ (.bool ((rd_T58 l0_6 x8_1).f4))).setCell ⟨gb381, 5, none⟩ (.bool ((rd_T58 l0_6 x8_1).f5))).setCell ⟨gb381, 6, none⟩ (.int .i64 ((rd_T58 l0_6 x8_1).f6))).setCell ⟨gb381, 7, none⟩ (.slice A380_7 ((rd_T58 l0_6 x8_1).f7).length c380_7)).setCell ⟨gb381, 8, none⟩ (.string ((rd_T58 l0_6 x8_1).f8))).setCell ⟨gb381, 9, none⟩ (.bool ((rd_T58 l0_6 x8_1).f9))).setCell ⟨gb381, 10, none⟩ (.int .i64 ((rd_T58 l0_6 x8_1).f10.f0))).setCell ⟨gb381, 11, none⟩ (.int .i64 ((rd_T58 l0_6 x8_1).f10.f1))).heap[gb381]? = some (.cells #[.int .i64 ((rd_T58 l0_6 x8_1).f0), .int .i64 ((rd_T58 l0_6 x8_1).f1), .slice A380_2 ((rd_T58 l0_6 x8_1).f2).length c380_2, .string ((rd_T58 l0_6 x8_1).f3), .bool ((rd_T58 l0_6 x8_1).f4), .bool ((rd_T58 l0_6 x8_1).f5), .int .i64 ((rd_T58 l0_6 x8_1).f6), .slice A380_7 ((rd_T58 l0_6 x8_1).f7).length c380_7, .string ((rd_T58 l0_6 x8_1).f8), .bool ((rd_T58 l0_6 x8_1).f9), .int .i64 ((rd_T58 l0_6 x8_1).f10.f0), .int .i64 ((rd_T58 l0_6 x8_1).f10.f1)] 58 (0, 0))) := ⟨zp BK381⟩
         have n2_ : Aside0 (Below w.heap.size w ((((((((((((w47.setCell ⟨gb381, 0, none⟩ (.int .i64 ((rd_T58 l0_6 x8_1).f0))).setCell ⟨gb381, 1, none⟩ (.int .i64 ((rd_T58 l0_6 x8_1).f1))).setCell ⟨gb381, 2, none⟩ (.slice A380_2 ((rd_T58 l0_6 x8_1).f2).length c380_2)).setCell ⟨gb381, 3, none⟩ (.string ((rd_T58 l0_6 x8_1).f3))).setCell ⟨gb381, 4, none⟩ (.bool ((rd_T58 l0_6 x8_1).f4))).setCell ⟨gb381, 5, none⟩ (.bool ((rd_T58 l0_6 x8_1).f5))).setCell ⟨gb381, 6, none⟩ (.int .i64 ((rd_T58 l0_6 x8_1).f6))).setCell ⟨gb381, 7, none⟩ (.slice A380_7 ((rd_T58 l0_6 x8_1).f7).length c380_7)).setCell ⟨gb381, 8, none⟩ (.string ((rd_T58 l0_6 x8_1).f8))).setCell ⟨gb381, 9, none⟩ (.bool ((rd_T58 l0_6 x8_1).f9))).setCell ⟨gb381, 10, none⟩ (.int .i64 ((rd_T58 l0_6 x8_1).f10.f0))).setCell ⟨gb381, 11, none⟩ (.int .i64 ((rd_T58 l0_6 x8_1).f10.f1)))) := ⟨zb HB⟩
         (try clear BK379)
         (try clear BK381)
         (try clear HB)
         generalize ((((((((((((w47.setCell ⟨gb381, 0, none⟩ (.int .i64 ((rd_T58 l0_6 x8_1).f0))).setCell ⟨gb381, 1, none⟩ (.int .i64 ((rd_T58 l0_6 x8_1).f1))).setCell ⟨gb381, 2, none⟩ (.slice A380_2 ((rd_T58 l0_6 x8_1).f2).length c380_2)).setCell ⟨gb381, 3, none⟩ (.string ((rd_T58 l0_6 x8_1).f3))).setCell ⟨gb381, 4, none⟩ (.bool ((rd_T58 l0_6 x8_1).f4))).setCell ⟨gb381, 5, none⟩ (.bool ((rd_T58 l0_6 x8_1).f5))).setCell ⟨gb381, 6, none⟩ (.int .i64 ((rd_T58 l0_6 x8_1).f6))).setCell ⟨gb381, 7, none⟩ (.slice A380_7 ((rd_T58 l0_6 x8_1).f7).length c380_7)).setCell ⟨gb381, 8, none⟩ (.string ((rd_T58 l0_6 x8_1).f8))).setCell ⟨gb381, 9, none⟩ (.bool ((rd_T58 l0_6 x8_1).f9))).setCell ⟨gb381, 10, none⟩ (.int .i64 ((rd_T58 l0_6 x8_1).f10.f0))).setCell ⟨gb381, 11, none⟩ (.int .i64 ((rd_T58 l0_6 x8_1).f10.f1))) = w50 at n0_ n1_ n2_ ⊢
         have BK379 := n0_
         have BK381 := n1_
         have HB := n2_
         clear n0_ n1_ n2_
         replace BK379 := Aside0.mk (blk_drew BK379.out)
         replace BK381 := Aside0.mk (blk_drew BK381.out)
         replace HB := Aside0.mk (below_drew1 HB.out)
         refine st 38 (an (b12 BK381) (b11 BK379)) (fun hHeld => ?_); refine with_tabW impl_EndOk.tab4 impl_EndOk.bits4 (fun HT_ HW_ => ?_)
         generalize w50.drew = w51 at BK379 BK381 HB hHeld ⊢
         refine pu 0 (some 13) (bm 38 1) rfl rfl ?_
         refine tk 1 (some 14) (bm 38 3) rfl rfl hHeld ?_
         refine one_ (i := 2) (N := some 15) (bm 38 7) rfl rfl (one_of HT_.out (by kernel_rfl)) (by decide) (fun K hK => ?_)
         refine gs Tryd.func51 #[.int .i64 ((rd_T58 l0_6 x8_1).f0)] ?_
         with_reducible refine (impl_isStream.calls ((rd_T58 l0_6 x8_1).f0) true _ A7.out).mono ?_
         rintro e w' ⟨rfl, ⟨nd, rfl⟩⟩
         refine ⟨_, rfl, ?_⟩
         refine hK.out _ _ (an (b12 BK381) (b11 BK379)) (fun hHeld => ?_)
         clear hK K
         refine nm ?_
         refine pu 3 (some 16) (bm 38 15) rfl rfl ?_
         refine pu 4 (some 17) (bm 38 31) rfl rfl ?_
         refine pu 5 (some 18) (bm 38 63) rfl rfl ?_
         refine pu 6 (some 19) (bm 38 127) rfl rfl ?_
         refine pu 7 (some 20) (bm 38 255) rfl rfl ?_
         refine pv 8 (some 21) (bm 38 511) rfl rfl ?_
         refine pv 9 (some 22) (bm 38 1023) rfl rfl ?_
         refine pv 10 (some 23) (bm 38 2047) rfl rfl ?_
         refine pv 11 (some 24) (bm 38 4095) rfl rfl ?_
         refine pv 12 (some 25) (bm 38 8191) rfl rfl ?_
         refine pv 13 (some 26) (bm 38 16383) rfl rfl ?_
         refine pv 14 (some 27) (bm 38 32767) rfl rfl ?_
         refine pv 15 (some 28) (bm 38 65535) rfl rfl ?_
         refine pv 16 (some 29) (bm 38 131071) rfl rfl ?_
         refine pv 17 (some 30) (bm 38 262143) rfl rfl ?_
         refine pu 18 (some 31) (bm 38 524287) rfl rfl ?_
         refine pu 19 (some 32) (bm 38 1048575) rfl rfl ?_
         refine pu 20 (some 33) (bm 38 2097151) rfl rfl ?_
         refine pu 21 (some 34) (bm 38 4194303) rfl rfl ?_
         refine tk 22 (some 35) (bm 38 8388607) rfl rfl hHeld ?_
         refine pu 23 (some 36) (bm 38 16777215) rfl rfl ?_
         refine pu 24 (some 37) (bm 38 33554431) rfl rfl ?_
         refine pv 25 (some 38) (bm 38 67108863) rfl rfl ?_
         refine pv 26 (some 39) (bm 38 134217727) rfl rfl ?_
         refine pv 27 (some 40) (bm 38 268435455) rfl rfl ?_
         refine pv 28 (some 41) (bm 38 536870911) rfl rfl ?_
         refine pv 29 (some 42) (bm 38 1073741823) rfl rfl ?_
         refine pv 30 (some 43) (bm 38 2147483647) rfl rfl ?_
         refine pu 31 (some 44) (bm 38 4294967295) rfl rfl ?_
         refine pu 32 (some 45) (bm 38 8589934591) rfl rfl ?_
         refine pu 33 (some 46) (bm 38 17179869183) rfl rfl ?_
         refine tk 34 (some 47) (bm 38 34359738367) rfl rfl hHeld ?_
         refine one_ (i := 35) (N := some 48) (bm 38 68719476735) rfl rfl (one_of HT_.out (by kernel_rfl)) (by decide) (fun K hK => ?_)
         refine gs Tryd.func52 #[.agg #[.int .i64 ((rd_T58 l0_6 x8_1).f0), .int .i64 ((rd_T58 l0_6 x8_1).f1), .slice A380_2 ((rd_T58 l0_6 x8_1).f2).length c380_2, .string ((rd_T58 l0_6 x8_1).f3), .bool ((rd_T58 l0_6 x8_1).f4), .bool ((rd_T58 l0_6 x8_1).f5), .int .i64 ((rd_T58 l0_6 x8_1).f6), .slice A380_7 ((rd_T58 l0_6 x8_1).f7).length c380_7, .string ((rd_T58 l0_6 x8_1).f8), .bool ((rd_T58 l0_6 x8_1).f9), .int .i64 ((rd_T58 l0_6 x8_1).f10.f0), .int .i64 ((rd_T58 l0_6 x8_1).f10.f1)]] ?_
         with_reducible refine (impl_streamOk.calls k1 ((rd_T58 l0_6 x8_1).f0) ((rd_T58 l0_6 x8_1).f1) _ _ ((rd_T58 l0_6 x8_1).f2) ((rd_T58 l0_6 x8_1).f3) ((rd_T58 l0_6 x8_1).f4) ((rd_T58 l0_6 x8_1).f5) ((rd_T58 l0_6 x8_1).f6) _ _ ((rd_T58 l0_6 x8_1).f7) ((rd_T58 l0_6 x8_1).f8) ((rd_T58 l0_6 x8_1).f9) ((rd_T58 l0_6 x8_1).f10.f0) ((rd_T58 l0_6 x8_1).f10.f1) t386 _ ?side1 ?side2 ?side3 ?side4 A45.out).mono ?_
         (case side1 => exact (Kd.C_below HR380_2.out (zb HB)))
         (case side2 => exact HC380_2.out)
         (case side3 => exact (Kd.C_below HR380_7.out (zb HB)))
         (case side4 => exact HC380_7.out)
         rintro e w52 ⟨rfl, hb⟩
         refine ⟨_, rfl, ?_⟩
         replace BK379 := kb BK379 hb
         replace BK381 := kb BK381 hb
         replace HB := Aside0.mk (below_step (zb HB) hb)
         (try clear hb)
         refine hK.out _ _ (an (b12 BK381) (b11 BK379)) (fun hHeld => ?_)
         clear hK K
         refine nm ?_
         refine pu 36 (some 49) (bm 38 137438953471) rfl rfl ?_
         refine pu 37 (some 50) (bm 38 274877906943) rfl rfl ?_
         refine done_ (done_of HT_.out (by kernel_rfl)) ?_
         go_upto_if 50 with (fail)
         have H := HC46.out
         clear HC46
         by_cases c53 : t386 = true
         ·subst c53
          rw [if_pos rfl] at H
          have H' := Aside0.mk H
          clear H
          go_wp2
          go_roundg k1
          case measure => have := HK1.out; omega
          case rel => exact ⟨(wrap64 (x8_1 + 1)), zs, H', ⟨by have := HK1.out; omega⟩, ⟨by exact zk BK379⟩, ⟨zb HB⟩⟩
         ·replace c53 := Bool.eq_false_iff.mpr c53
          subst c53
          rw [if_neg (show ¬ (false = true) by decide)] at H
          obtain rfl := Option.some.inj H
          go_wp2
          go_ret
          exact ⟨ze, zb HB⟩
        ·replace c44 := Bool.eq_false_iff.mpr c44
         subst c44
         rw [if_neg (show ¬ (false = true) by decide)] at H
         by_cases c54 : ((rd_T58 l0_6 x8_1).f0) = (wrap64 ((wrap64 (2 * x8_1)) + 1))
         ·rw [if_pos c54] at H
          have c54b0 : (((rd_T58 l0_6 x8_1).f0) == (wrap64 ((wrap64 (2 * x8_1)) + 1))) = true := beq_iff_eq.mpr c54
          have c54b1 : (((rd_T58 l0_6 x8_1).f0) != (wrap64 ((wrap64 (2 * x8_1)) + 1))) = false := bne_eq_false_iff_eq.mpr c54
          clear c54
          obtain ⟨t387, A55, H⟩ := ob H
          (try dsimp only at H)
          have HC56 := Aside0.mk H
          clear H
          have p380 : 0 ≤ (x8_1 : Int) := of_decide_eq_true za
          have q380 : x8_1 < (l0_6.length : Int) := of_decide_eq_true za
          obtain ⟨ad380, A380_2, c380_2, A380_7, c380_7, e380, hx380_0, hx380_1, hx380_2, hx380_3, hx380_4, hx380_5, hx380_6, hx380_7, hx380_8, hx380_9, hx380_10, hx380_11, hl380_2, hi380_2, hl380_7, hi380_7⟩ := at_T58 HR0_6.out x8_1 p380 q380
          cases e380
          replace hx380_0 := cb0 hx380_0 HB
          replace hx380_1 := cb0 hx380_1 HB
          replace hx380_2 := cb0 hx380_2 HB
          replace hx380_3 := cb0 hx380_3 HB
          replace hx380_4 := cb0 hx380_4 HB
          replace hx380_5 := cb0 hx380_5 HB
          replace hx380_6 := cb0 hx380_6 HB
          replace hx380_7 := cb0 hx380_7 HB
          replace hx380_8 := cb0 hx380_8 HB
          replace hx380_9 := cb0 hx380_9 HB
          replace hx380_10 := cb0 hx380_10 HB
          replace hx380_11 := cb0 hx380_11 HB
          have HR380_2 := Aside0.mk hi380_2
          have HC380_2 := Aside0.mk hl380_2
          clear hi380_2 hl380_2
          have HR380_7 := Aside0.mk hi380_7
          have HC380_7 := Aside0.mk hl380_7
          clear hi380_7 hl380_7
          replace p380 := eq_true p380
          replace q380 := eq_true q380
          try go_wp2_with (first | ((with_reducible refine gd 4 rfl ?_); (try (refine gate_guard (by rfl) ?_; dsimp only)); refine bx (N := 4) (cs := #[.int .i64 0, .int .i64 0, .slice none 0 0, .string (⟨#[]⟩ : ByteArray), .bool false, .bool false, .int .i64 0, .slice none 0 0, .string (⟨#[]⟩ : ByteArray), .bool false, .int .i64 0, .int .i64 0]) (t := 58) ?_; intro gb381 hg w57 hbox hb; have BK381 := Aside0.mk (hbox); have GW381 := gw HB hg; have GE381 := GW381; replace HB := Aside0.mk (below_step (zb HB) hb); obtain ⟨NB379_381, NB381_379⟩ := nb BK379 hg; replace BK379 := kb BK379 hb; clear hb hbox hg; have hnb58 := NB381_379.out; have hnc58 := NB379_381.out; obtain ⟨hcz59_0, hcz59_1, hcz59_2, hcz59_3, hcz59_4, hcz59_5, hcz59_6, hcz59_7, hcz59_8, hcz59_9, hcz59_10, hcz59_11, hfz59_0, hfz59_1, hfz59_2, hfz59_3, hfz59_4, hfz59_5, hfz59_6, hfz59_7, hfz59_8, hfz59_9, hfz59_10, hfz59_11⟩ := c12 BK381))
          have n0_ : Aside0 (((((((((((((w57.setCell ⟨gb381, 0, none⟩ (.int .i64 ((rd_T58 l0_6 x8_1).f0))).setCell ⟨gb381, 1, none⟩ (.int .i64 ((rd_T58 l0_6 x8_1).f1))).setCell ⟨gb381, 2, none⟩ (.slice A380_2 ((rd_T58 l0_6 x8_1).f2).length c380_2)).setCell ⟨gb381, 3, none⟩ (.string ((rd_T58 l0_6 x8_1).f3))).setCell ⟨gb381, 4, none⟩ (.bool ((rd_T58 l0_6 x8_1).f4))).setCell ⟨gb381, 5, none⟩ (.bool ((rd_T58 l0_6 x8_1).f5))).setCell ⟨gb381, 6, none⟩ (.int .i64 ((rd_T58 l0_6 x8_1).f6))).setCell ⟨gb381, 7, none⟩ (.slice A380_7 ((rd_T58 l0_6 x8_1).f7).length c380_7)).setCell ⟨gb381, 8, none⟩ (.string ((rd_T58 l0_6 x8_1).f8))).setCell ⟨gb381, 9, none⟩ (.bool ((rd_T58 l0_6 x8_1).f9))).setCell ⟨gb381, 10, none⟩ (.int .i64 ((rd_T58 l0_6 x8_1).f10.f0))).setCell ⟨gb381, 11, none⟩ (.int .i64 ((rd_T58 l0_6 x8_1).f10.f1))).heap[gb379]? = some (.cells #[.bool false, .slice A0_1 l0_1.length c0_1, .int .i64 a0_2, .slice A0_3 l0_3.length c0_3, .int .i64 a0_4, .string a0_5, .slice (some ad380) l0_6.length c0_6, .int .i64 a0_7, .int .i64 a0_8, .slice A0_9 l0_9.length c0_9, .bool a0_10] 39 (0, 0))) := ⟨zp BK379⟩
          have n1_ : Aside0 (((((((((((((w57.setCell ⟨gb381, 0, none⟩ (.int .i64 ((rd_T58 l0_6 x8_1).f0))).setCell ⟨gb381, 1, none⟩ (.int .i64 ((rd_T58 l0_6 x8_1).f1))).setCell ⟨gb381, 2, none⟩ (.slice A380_2 ((rd_T58 l0_6 x8_1).f2).length c380_2)).setCell ⟨gb381, 3, none⟩ (.string ((rd_T58 l0_6 x8_1).f3))).setCell ⟨gb381, 4, none⟩ (.bool ((rd_T58 l0_6 x8_1).f4))).setCell ⟨gb381, 5, none⟩ (.bool ((rd_T58 l0_6 x8_1).f5))).setCell ⟨gb381, 6, none⟩ (.int .i64 ((rd_T58 l0_6 x8_1).f6))).setCell ⟨gb381, 7, none⟩ (.slice A380_7 ((rd_T58 l0_6 x8_1).f7).length c380_7)).setCell ⟨gb381, 8, none⟩ (.string ((rd_T58 l0_6 x8_1).f8))).setCell ⟨gb381, 9, none⟩ (.bool ((rd_T58 l0_6 x8_1).f9))).setCell ⟨gb381, 10, none⟩ (.int .i64 ((rd_T58 l0_6 x8_1).f10.f0))).setCell ⟨gb381, 11, none⟩ (.int .i64 ((rd_T58 l0_6 x8_1).f10.f1))).heap[gb381]? = some (.cells #[.int .i64 ((rd_T58 l0_6 x8_1).f0), .int .i64 ((rd_T58 l0_6 x8_1).f1), .slice A380_2 ((rd_T58 l0_6 x8_1).f2).length c380_2, .string ((rd_T58 l0_6 x8_1).f3), .bool ((rd_T58 l0_6 x8_1).f4), .bool ((rd_T58 l0_6 x8_1).f5), .int .i64 ((rd_T58 l0_6 x8_1).f6), .slice A380_7 ((rd_T58 l0_6 x8_1).f7).length c380_7, .string ((rd_T58 l0_6 x8_1).f8), .bool ((rd_T58 l0_6 x8_1).f9), .int .i64 ((rd_T58 l0_6 x8_1).f10.f0), .int .i64 ((rd_T58 l0_6 x8_1).f10.f1)] 58 (0, 0))) := ⟨zp BK381⟩
          have n2_ : Aside0 (Below w.heap.size w ((((((((((((w57.setCell ⟨gb381, 0, none⟩ (.int .i64 ((rd_T58 l0_6 x8_1).f0))).setCell ⟨gb381, 1, none⟩ (.int .i64 ((rd_T58 l0_6 x8_1).f1))).setCell ⟨gb381, 2, none⟩ (.slice A380_2 ((rd_T58 l0_6 x8_1).f2).length c380_2)).setCell ⟨gb381, 3, none⟩ (.string ((rd_T58 l0_6 x8_1).f3))).setCell ⟨gb381, 4, none⟩ (.bool ((rd_T58 l0_6 x8_1).f4))).setCell ⟨gb381, 5, none⟩ (.bool ((rd_T58 l0_6 x8_1).f5))).setCell ⟨gb381, 6, none⟩ (.int .i64 ((rd_T58 l0_6 x8_1).f6))).setCell ⟨gb381, 7, none⟩ (.slice A380_7 ((rd_T58 l0_6 x8_1).f7).length c380_7)).setCell ⟨gb381, 8, none⟩ (.string ((rd_T58 l0_6 x8_1).f8))).setCell ⟨gb381, 9, none⟩ (.bool ((rd_T58 l0_6 x8_1).f9))).setCell ⟨gb381, 10, none⟩ (.int .i64 ((rd_T58 l0_6 x8_1).f10.f0))).setCell ⟨gb381, 11, none⟩ (.int .i64 ((rd_T58 l0_6 x8_1).f10.f1)))) := ⟨zb HB⟩
          (try clear BK379)
          (try clear BK381)
          (try clear HB)
          generalize ((((((((((((w57.setCell ⟨gb381, 0, none⟩ (.int .i64 ((rd_T58 l0_6 x8_1).f0))).setCell ⟨gb381, 1, none⟩ (.int .i64 ((rd_T58 l0_6 x8_1).f1))).setCell ⟨gb381, 2, none⟩ (.slice A380_2 ((rd_T58 l0_6 x8_1).f2).length c380_2)).setCell ⟨gb381, 3, none⟩ (.string ((rd_T58 l0_6 x8_1).f3))).setCell ⟨gb381, 4, none⟩ (.bool ((rd_T58 l0_6 x8_1).f4))).setCell ⟨gb381, 5, none⟩ (.bool ((rd_T58 l0_6 x8_1).f5))).setCell ⟨gb381, 6, none⟩ (.int .i64 ((rd_T58 l0_6 x8_1).f6))).setCell ⟨gb381, 7, none⟩ (.slice A380_7 ((rd_T58 l0_6 x8_1).f7).length c380_7)).setCell ⟨gb381, 8, none⟩ (.string ((rd_T58 l0_6 x8_1).f8))).setCell ⟨gb381, 9, none⟩ (.bool ((rd_T58 l0_6 x8_1).f9))).setCell ⟨gb381, 10, none⟩ (.int .i64 ((rd_T58 l0_6 x8_1).f10.f0))).setCell ⟨gb381, 11, none⟩ (.int .i64 ((rd_T58 l0_6 x8_1).f10.f1))) = w60 at n0_ n1_ n2_ ⊢
          have BK379 := n0_
          have BK381 := n1_
          have HB := n2_
          clear n0_ n1_ n2_
          replace BK379 := Aside0.mk (blk_drew BK379.out)
          replace BK381 := Aside0.mk (blk_drew BK381.out)
          replace HB := Aside0.mk (below_drew1 HB.out)
          refine st 38 (an (b12 BK381) (b11 BK379)) (fun hHeld => ?_); refine with_tabW impl_EndOk.tab4 impl_EndOk.bits4 (fun HT_ HW_ => ?_)
          generalize w60.drew = w61 at BK379 BK381 HB hHeld ⊢
          refine pu 0 (some 13) (bm 38 1) rfl rfl ?_
          refine tk 1 (some 14) (bm 38 3) rfl rfl hHeld ?_
          refine one_ (i := 2) (N := some 15) (bm 38 7) rfl rfl (one_of HT_.out (by kernel_rfl)) (by decide) (fun K hK => ?_)
          refine gs Tryd.func51 #[.int .i64 ((rd_T58 l0_6 x8_1).f0)] ?_
          with_reducible refine (impl_isStream.calls ((rd_T58 l0_6 x8_1).f0) true _ A7.out).mono ?_
          rintro e w' ⟨rfl, ⟨nd, rfl⟩⟩
          refine ⟨_, rfl, ?_⟩
          refine hK.out _ _ (an (b12 BK381) (b11 BK379)) (fun hHeld => ?_)
          clear hK K
          refine nm ?_
          refine pu 3 (some 16) (bm 38 15) rfl rfl ?_
          refine pu 4 (some 17) (bm 38 31) rfl rfl ?_
          refine pu 5 (some 18) (bm 38 63) rfl rfl ?_
          refine pu 6 (some 19) (bm 38 127) rfl rfl ?_
          refine pu 7 (some 20) (bm 38 255) rfl rfl ?_
          refine pv 8 (some 21) (bm 38 511) rfl rfl ?_
          refine pv 9 (some 22) (bm 38 1023) rfl rfl ?_
          refine pv 10 (some 23) (bm 38 2047) rfl rfl ?_
          refine pv 11 (some 24) (bm 38 4095) rfl rfl ?_
          refine pv 12 (some 25) (bm 38 8191) rfl rfl ?_
          refine pv 13 (some 26) (bm 38 16383) rfl rfl ?_
          refine pv 14 (some 27) (bm 38 32767) rfl rfl ?_
          refine pv 15 (some 28) (bm 38 65535) rfl rfl ?_
          refine pv 16 (some 29) (bm 38 131071) rfl rfl ?_
          refine pv 17 (some 30) (bm 38 262143) rfl rfl ?_
          refine pu 18 (some 31) (bm 38 524287) rfl rfl ?_
          refine pu 19 (some 32) (bm 38 1048575) rfl rfl ?_
          refine pu 20 (some 33) (bm 38 2097151) rfl rfl ?_
          refine pu 21 (some 34) (bm 38 4194303) rfl rfl ?_
          refine tk 22 (some 35) (bm 38 8388607) rfl rfl hHeld ?_
          refine pu 23 (some 36) (bm 38 16777215) rfl rfl ?_
          refine pu 24 (some 37) (bm 38 33554431) rfl rfl ?_
          refine pu 25 (some 38) (bm 38 67108863) rfl rfl ?_
          refine pu 27 (some 40) (bm 38 201326591) rfl rfl ?_
          refine pu 28 (some 41) (bm 38 469762047) rfl rfl ?_
          refine pu 29 (some 42) (bm 38 1006632959) rfl rfl ?_
          refine tk 26 (some 39) (bm 38 1073741823) rfl rfl hHeld ?_
          refine pu 30 (some 43) (bm 38 2147483647) rfl rfl ?_
          refine pu 31 (some 44) (bm 38 4294967295) rfl rfl ?_
          refine pu 32 (some 45) (bm 38 8589934591) rfl rfl ?_
          refine pu 33 (some 46) (bm 38 17179869183) rfl rfl ?_
          refine tk 34 (some 47) (bm 38 34359738367) rfl rfl hHeld ?_
          refine one_ (i := 35) (N := some 48) (bm 38 68719476735) rfl rfl (one_of HT_.out (by kernel_rfl)) (by decide) (fun K hK => ?_)
          refine gs Tryd.func52 #[.agg #[.int .i64 ((rd_T58 l0_6 x8_1).f0), .int .i64 ((rd_T58 l0_6 x8_1).f1), .slice A380_2 ((rd_T58 l0_6 x8_1).f2).length c380_2, .string ((rd_T58 l0_6 x8_1).f3), .bool ((rd_T58 l0_6 x8_1).f4), .bool ((rd_T58 l0_6 x8_1).f5), .int .i64 ((rd_T58 l0_6 x8_1).f6), .slice A380_7 ((rd_T58 l0_6 x8_1).f7).length c380_7, .string ((rd_T58 l0_6 x8_1).f8), .bool ((rd_T58 l0_6 x8_1).f9), .int .i64 ((rd_T58 l0_6 x8_1).f10.f0), .int .i64 ((rd_T58 l0_6 x8_1).f10.f1)]] ?_
          with_reducible refine (impl_streamOk.calls k1 ((rd_T58 l0_6 x8_1).f0) ((rd_T58 l0_6 x8_1).f1) _ _ ((rd_T58 l0_6 x8_1).f2) ((rd_T58 l0_6 x8_1).f3) ((rd_T58 l0_6 x8_1).f4) ((rd_T58 l0_6 x8_1).f5) ((rd_T58 l0_6 x8_1).f6) _ _ ((rd_T58 l0_6 x8_1).f7) ((rd_T58 l0_6 x8_1).f8) ((rd_T58 l0_6 x8_1).f9) ((rd_T58 l0_6 x8_1).f10.f0) ((rd_T58 l0_6 x8_1).f10.f1) t387 _ ?side1 ?side2 ?side3 ?side4 A55.out).mono ?_
          (case side1 => exact (Kd.C_below HR380_2.out (zb HB)))
          (case side2 => exact HC380_2.out)
          (case side3 => exact (Kd.C_below HR380_7.out (zb HB)))
          (case side4 => exact HC380_7.out)
          rintro e w62 ⟨rfl, hb⟩
          refine ⟨_, rfl, ?_⟩
          replace BK379 := kb BK379 hb
          replace BK381 := kb BK381 hb
          replace HB := Aside0.mk (below_step (zb HB) hb)
          (try clear hb)
          refine hK.out _ _ (an (b12 BK381) (b11 BK379)) (fun hHeld => ?_)
          clear hK K
          refine nm ?_
          refine pu 36 (some 49) (bm 38 137438953471) rfl rfl ?_
          refine pu 37 (some 50) (bm 38 274877906943) rfl rfl ?_
          refine done_ (done_of HT_.out (by kernel_rfl)) ?_
          go_upto_if 50 with (fail)
          have H := HC56.out
          clear HC56
          by_cases c63 : t387 = true
          ·subst c63
           rw [if_pos rfl] at H
           have H' := Aside0.mk H
           clear H
           go_wp2
           go_roundg k1
           case measure => have := HK1.out; omega
           case rel => exact ⟨(wrap64 (x8_1 + 1)), zs, H', ⟨by have := HK1.out; omega⟩, ⟨by exact zk BK379⟩, ⟨zb HB⟩⟩
          ·replace c63 := Bool.eq_false_iff.mpr c63
           subst c63
           rw [if_neg (show ¬ (false = true) by decide)] at H
           obtain rfl := Option.some.inj H
           go_wp2
           go_ret
           exact ⟨ze, zb HB⟩
         ·rw [if_neg c54] at H
          have c54b0 : (((rd_T58 l0_6 x8_1).f0) == (wrap64 ((wrap64 (2 * x8_1)) + 1))) = false := beq_eq_false_iff_ne.mpr c54
          have c54b1 : (((rd_T58 l0_6 x8_1).f0) != (wrap64 ((wrap64 (2 * x8_1)) + 1))) = true := bne_iff_ne.mpr c54
          obtain rfl := Option.some.inj H
          have p380 : 0 ≤ (x8_1 : Int) := of_decide_eq_true za
          have q380 : x8_1 < (l0_6.length : Int) := of_decide_eq_true za
          obtain ⟨ad380, A380_2, c380_2, A380_7, c380_7, e380, hx380_0, hx380_1, hx380_2, hx380_3, hx380_4, hx380_5, hx380_6, hx380_7, hx380_8, hx380_9, hx380_10, hx380_11, hl380_2, hi380_2, hl380_7, hi380_7⟩ := at_T58 HR0_6.out x8_1 p380 q380
          cases e380
          replace hx380_0 := cb0 hx380_0 HB
          replace hx380_1 := cb0 hx380_1 HB
          replace hx380_2 := cb0 hx380_2 HB
          replace hx380_3 := cb0 hx380_3 HB
          replace hx380_4 := cb0 hx380_4 HB
          replace hx380_5 := cb0 hx380_5 HB
          replace hx380_6 := cb0 hx380_6 HB
          replace hx380_7 := cb0 hx380_7 HB
          replace hx380_8 := cb0 hx380_8 HB
          replace hx380_9 := cb0 hx380_9 HB
          replace hx380_10 := cb0 hx380_10 HB
          replace hx380_11 := cb0 hx380_11 HB
          have HR380_2 := Aside0.mk hi380_2
          have HC380_2 := Aside0.mk hl380_2
          clear hi380_2 hl380_2
          have HR380_7 := Aside0.mk hi380_7
          have HC380_7 := Aside0.mk hl380_7
          clear hi380_7 hl380_7
          replace p380 := eq_true p380
          replace q380 := eq_true q380
          try go_wp2_with (first | ((with_reducible refine gd 4 rfl ?_); (try (refine gate_guard (by rfl) ?_; dsimp only)); refine bx (N := 4) (cs := #[.int .i64 0, .int .i64 0, .slice none 0 0, .string (⟨#[]⟩ : ByteArray), .bool false, .bool false, .int .i64 0, .slice none 0 0, .string (⟨#[]⟩ : ByteArray), .bool false, .int .i64 0, .int .i64 0]) (t := 58) ?_; intro gb381 hg w64 hbox hb; have BK381 := Aside0.mk (hbox); have GW381 := gw HB hg; have GE381 := GW381; replace HB := Aside0.mk (below_step (zb HB) hb); obtain ⟨NB379_381, NB381_379⟩ := nb BK379 hg; replace BK379 := kb BK379 hb; clear hb hbox hg; have hnb65 := NB381_379.out; have hnc65 := NB379_381.out; obtain ⟨hcz66_0, hcz66_1, hcz66_2, hcz66_3, hcz66_4, hcz66_5, hcz66_6, hcz66_7, hcz66_8, hcz66_9, hcz66_10, hcz66_11, hfz66_0, hfz66_1, hfz66_2, hfz66_3, hfz66_4, hfz66_5, hfz66_6, hfz66_7, hfz66_8, hfz66_9, hfz66_10, hfz66_11⟩ := c12 BK381))
          have n0_ : Aside0 (((((((((((((w64.setCell ⟨gb381, 0, none⟩ (.int .i64 ((rd_T58 l0_6 x8_1).f0))).setCell ⟨gb381, 1, none⟩ (.int .i64 ((rd_T58 l0_6 x8_1).f1))).setCell ⟨gb381, 2, none⟩ (.slice A380_2 ((rd_T58 l0_6 x8_1).f2).length c380_2)).setCell ⟨gb381, 3, none⟩ (.string ((rd_T58 l0_6 x8_1).f3))).setCell ⟨gb381, 4, none⟩ (.bool ((rd_T58 l0_6 x8_1).f4))).setCell ⟨gb381, 5, none⟩ (.bool ((rd_T58 l0_6 x8_1).f5))).setCell ⟨gb381, 6, none⟩ (.int .i64 ((rd_T58 l0_6 x8_1).f6))).setCell ⟨gb381, 7, none⟩ (.slice A380_7 ((rd_T58 l0_6 x8_1).f7).length c380_7)).setCell ⟨gb381, 8, none⟩ (.string ((rd_T58 l0_6 x8_1).f8))).setCell ⟨gb381, 9, none⟩ (.bool ((rd_T58 l0_6 x8_1).f9))).setCell ⟨gb381, 10, none⟩ (.int .i64 ((rd_T58 l0_6 x8_1).f10.f0))).setCell ⟨gb381, 11, none⟩ (.int .i64 ((rd_T58 l0_6 x8_1).f10.f1))).heap[gb379]? = some (.cells #[.bool false, .slice A0_1 l0_1.length c0_1, .int .i64 a0_2, .slice A0_3 l0_3.length c0_3, .int .i64 a0_4, .string a0_5, .slice (some ad380) l0_6.length c0_6, .int .i64 a0_7, .int .i64 a0_8, .slice A0_9 l0_9.length c0_9, .bool a0_10] 39 (0, 0))) := ⟨zp BK379⟩
          have n1_ : Aside0 (((((((((((((w64.setCell ⟨gb381, 0, none⟩ (.int .i64 ((rd_T58 l0_6 x8_1).f0))).setCell ⟨gb381, 1, none⟩ (.int .i64 ((rd_T58 l0_6 x8_1).f1))).setCell ⟨gb381, 2, none⟩ (.slice A380_2 ((rd_T58 l0_6 x8_1).f2).length c380_2)).setCell ⟨gb381, 3, none⟩ (.string ((rd_T58 l0_6 x8_1).f3))).setCell ⟨gb381, 4, none⟩ (.bool ((rd_T58 l0_6 x8_1).f4))).setCell ⟨gb381, 5, none⟩ (.bool ((rd_T58 l0_6 x8_1).f5))).setCell ⟨gb381, 6, none⟩ (.int .i64 ((rd_T58 l0_6 x8_1).f6))).setCell ⟨gb381, 7, none⟩ (.slice A380_7 ((rd_T58 l0_6 x8_1).f7).length c380_7)).setCell ⟨gb381, 8, none⟩ (.string ((rd_T58 l0_6 x8_1).f8))).setCell ⟨gb381, 9, none⟩ (.bool ((rd_T58 l0_6 x8_1).f9))).setCell ⟨gb381, 10, none⟩ (.int .i64 ((rd_T58 l0_6 x8_1).f10.f0))).setCell ⟨gb381, 11, none⟩ (.int .i64 ((rd_T58 l0_6 x8_1).f10.f1))).heap[gb381]? = some (.cells #[.int .i64 ((rd_T58 l0_6 x8_1).f0), .int .i64 ((rd_T58 l0_6 x8_1).f1), .slice A380_2 ((rd_T58 l0_6 x8_1).f2).length c380_2, .string ((rd_T58 l0_6 x8_1).f3), .bool ((rd_T58 l0_6 x8_1).f4), .bool ((rd_T58 l0_6 x8_1).f5), .int .i64 ((rd_T58 l0_6 x8_1).f6), .slice A380_7 ((rd_T58 l0_6 x8_1).f7).length c380_7, .string ((rd_T58 l0_6 x8_1).f8), .bool ((rd_T58 l0_6 x8_1).f9), .int .i64 ((rd_T58 l0_6 x8_1).f10.f0), .int .i64 ((rd_T58 l0_6 x8_1).f10.f1)] 58 (0, 0))) := ⟨zp BK381⟩
          have n2_ : Aside0 (Below w.heap.size w ((((((((((((w64.setCell ⟨gb381, 0, none⟩ (.int .i64 ((rd_T58 l0_6 x8_1).f0))).setCell ⟨gb381, 1, none⟩ (.int .i64 ((rd_T58 l0_6 x8_1).f1))).setCell ⟨gb381, 2, none⟩ (.slice A380_2 ((rd_T58 l0_6 x8_1).f2).length c380_2)).setCell ⟨gb381, 3, none⟩ (.string ((rd_T58 l0_6 x8_1).f3))).setCell ⟨gb381, 4, none⟩ (.bool ((rd_T58 l0_6 x8_1).f4))).setCell ⟨gb381, 5, none⟩ (.bool ((rd_T58 l0_6 x8_1).f5))).setCell ⟨gb381, 6, none⟩ (.int .i64 ((rd_T58 l0_6 x8_1).f6))).setCell ⟨gb381, 7, none⟩ (.slice A380_7 ((rd_T58 l0_6 x8_1).f7).length c380_7)).setCell ⟨gb381, 8, none⟩ (.string ((rd_T58 l0_6 x8_1).f8))).setCell ⟨gb381, 9, none⟩ (.bool ((rd_T58 l0_6 x8_1).f9))).setCell ⟨gb381, 10, none⟩ (.int .i64 ((rd_T58 l0_6 x8_1).f10.f0))).setCell ⟨gb381, 11, none⟩ (.int .i64 ((rd_T58 l0_6 x8_1).f10.f1)))) := ⟨zb HB⟩
          (try clear BK379)
          (try clear BK381)
          (try clear HB)
          generalize ((((((((((((w64.setCell ⟨gb381, 0, none⟩ (.int .i64 ((rd_T58 l0_6 x8_1).f0))).setCell ⟨gb381, 1, none⟩ (.int .i64 ((rd_T58 l0_6 x8_1).f1))).setCell ⟨gb381, 2, none⟩ (.slice A380_2 ((rd_T58 l0_6 x8_1).f2).length c380_2)).setCell ⟨gb381, 3, none⟩ (.string ((rd_T58 l0_6 x8_1).f3))).setCell ⟨gb381, 4, none⟩ (.bool ((rd_T58 l0_6 x8_1).f4))).setCell ⟨gb381, 5, none⟩ (.bool ((rd_T58 l0_6 x8_1).f5))).setCell ⟨gb381, 6, none⟩ (.int .i64 ((rd_T58 l0_6 x8_1).f6))).setCell ⟨gb381, 7, none⟩ (.slice A380_7 ((rd_T58 l0_6 x8_1).f7).length c380_7)).setCell ⟨gb381, 8, none⟩ (.string ((rd_T58 l0_6 x8_1).f8))).setCell ⟨gb381, 9, none⟩ (.bool ((rd_T58 l0_6 x8_1).f9))).setCell ⟨gb381, 10, none⟩ (.int .i64 ((rd_T58 l0_6 x8_1).f10.f0))).setCell ⟨gb381, 11, none⟩ (.int .i64 ((rd_T58 l0_6 x8_1).f10.f1))) = w67 at n0_ n1_ n2_ ⊢
          have BK379 := n0_
          have BK381 := n1_
          have HB := n2_
          clear n0_ n1_ n2_
          replace BK379 := Aside0.mk (blk_drew BK379.out)
          replace BK381 := Aside0.mk (blk_drew BK381.out)
          replace HB := Aside0.mk (below_drew1 HB.out)
          refine st 38 (an (b12 BK381) (b11 BK379)) (fun hHeld => ?_); refine with_tabW impl_EndOk.tab4 impl_EndOk.bits4 (fun HT_ HW_ => ?_)
          generalize w67.drew = w68 at BK379 BK381 HB hHeld ⊢
          refine pu 0 (some 13) (bm 38 1) rfl rfl ?_
          refine tk 1 (some 14) (bm 38 3) rfl rfl hHeld ?_
          refine one_ (i := 2) (N := some 15) (bm 38 7) rfl rfl (one_of HT_.out (by kernel_rfl)) (by decide) (fun K hK => ?_)
          refine gs Tryd.func51 #[.int .i64 ((rd_T58 l0_6 x8_1).f0)] ?_
          with_reducible refine (impl_isStream.calls ((rd_T58 l0_6 x8_1).f0) true _ A7.out).mono ?_
          rintro e w' ⟨rfl, ⟨nd, rfl⟩⟩
          refine ⟨_, rfl, ?_⟩
          refine hK.out _ _ (an (b12 BK381) (b11 BK379)) (fun hHeld => ?_)
          clear hK K
          refine nm ?_
          refine pu 3 (some 16) (bm 38 15) rfl rfl ?_
          refine pu 4 (some 17) (bm 38 31) rfl rfl ?_
          refine pu 5 (some 18) (bm 38 63) rfl rfl ?_
          refine pu 6 (some 19) (bm 38 127) rfl rfl ?_
          refine pu 7 (some 20) (bm 38 255) rfl rfl ?_
          refine pv 8 (some 21) (bm 38 511) rfl rfl ?_
          refine pv 9 (some 22) (bm 38 1023) rfl rfl ?_
          refine pv 10 (some 23) (bm 38 2047) rfl rfl ?_
          refine pv 11 (some 24) (bm 38 4095) rfl rfl ?_
          refine pv 12 (some 25) (bm 38 8191) rfl rfl ?_
          refine pv 13 (some 26) (bm 38 16383) rfl rfl ?_
          refine pv 14 (some 27) (bm 38 32767) rfl rfl ?_
          refine pv 15 (some 28) (bm 38 65535) rfl rfl ?_
          refine pv 16 (some 29) (bm 38 131071) rfl rfl ?_
          refine pv 17 (some 30) (bm 38 262143) rfl rfl ?_
          refine pu 18 (some 31) (bm 38 524287) rfl rfl ?_
          refine pu 19 (some 32) (bm 38 1048575) rfl rfl ?_
          refine pu 20 (some 33) (bm 38 2097151) rfl rfl ?_
          refine pu 21 (some 34) (bm 38 4194303) rfl rfl ?_
          refine tk 22 (some 35) (bm 38 8388607) rfl rfl hHeld ?_
          refine pu 23 (some 36) (bm 38 16777215) rfl rfl ?_
          refine pu 24 (some 37) (bm 38 33554431) rfl rfl ?_
          refine pu 25 (some 38) (bm 38 67108863) rfl rfl ?_
          refine pu 27 (some 40) (bm 38 201326591) rfl rfl ?_
          refine pu 28 (some 41) (bm 38 469762047) rfl rfl ?_
          refine pu 29 (some 42) (bm 38 1006632959) rfl rfl ?_
          refine tk 26 (some 39) (bm 38 1073741823) rfl rfl hHeld ?_
          refine pu 30 (some 43) (bm 38 2147483647) rfl rfl ?_
          refine pu 31 (some 44) (bm 38 4294967295) rfl rfl ?_
          refine pu 32 (some 45) (bm 38 8589934591) rfl rfl ?_
          refine pu 33 (some 46) (bm 38 17179869183) rfl rfl ?_
          refine pv 34 (some 47) (bm 38 34359738367) rfl rfl ?_
          refine pv 35 (some 48) (bm 38 68719476735) rfl rfl ?_
          refine pv 36 (some 49) (bm 38 137438953471) rfl rfl ?_
          refine pu 37 (some 50) (bm 38 274877906943) rfl rfl ?_
          refine done_ (done_of HT_.out (by kernel_rfl)) ?_
          try go_wp2
          go_ret
          exact ⟨ze, zb HB⟩
      ·replace c8 := Bool.eq_false_iff.mpr c8
       subst c8
       rw [if_neg (show ¬ (false = true) by decide)] at H
       obtain rfl := Option.some.inj H
       have p380 : 0 ≤ (x8_1 : Int) := of_decide_eq_true za
       have q380 : x8_1 < (l0_6.length : Int) := of_decide_eq_true za
       obtain ⟨ad380, A380_2, c380_2, A380_7, c380_7, e380, hx380_0, hx380_1, hx380_2, hx380_3, hx380_4, hx380_5, hx380_6, hx380_7, hx380_8, hx380_9, hx380_10, hx380_11, hl380_2, hi380_2, hl380_7, hi380_7⟩ := at_T58 HR0_6.out x8_1 p380 q380
       cases e380
       replace hx380_0 := cb0 hx380_0 HB
       replace hx380_1 := cb0 hx380_1 HB
       replace hx380_2 := cb0 hx380_2 HB
       replace hx380_3 := cb0 hx380_3 HB
       replace hx380_4 := cb0 hx380_4 HB
       replace hx380_5 := cb0 hx380_5 HB
       replace hx380_6 := cb0 hx380_6 HB
       replace hx380_7 := cb0 hx380_7 HB
       replace hx380_8 := cb0 hx380_8 HB
       replace hx380_9 := cb0 hx380_9 HB
       replace hx380_10 := cb0 hx380_10 HB
       replace hx380_11 := cb0 hx380_11 HB
       have HR380_2 := Aside0.mk hi380_2
       have HC380_2 := Aside0.mk hl380_2
       clear hi380_2 hl380_2
       have HR380_7 := Aside0.mk hi380_7
       have HC380_7 := Aside0.mk hl380_7
       clear hi380_7 hl380_7
       replace p380 := eq_true p380
       replace q380 := eq_true q380
       try go_wp2_with (first | ((with_reducible refine gd 4 rfl ?_); (try (refine gate_guard (by rfl) ?_; dsimp only)); refine bx (N := 4) (cs := #[.int .i64 0, .int .i64 0, .slice none 0 0, .string (⟨#[]⟩ : ByteArray), .bool false, .bool false, .int .i64 0, .slice none 0 0, .string (⟨#[]⟩ : ByteArray), .bool false, .int .i64 0, .int .i64 0]) (t := 58) ?_; intro gb381 hg w69 hbox hb; have BK381 := Aside0.mk (hbox); have GW381 := gw HB hg; have GE381 := GW381; replace HB := Aside0.mk (below_step (zb HB) hb); obtain ⟨NB379_381, NB381_379⟩ := nb BK379 hg; replace BK379 := kb BK379 hb; clear hb hbox hg; have hnb70 := NB381_379.out; have hnc70 := NB379_381.out; obtain ⟨hcz71_0, hcz71_1, hcz71_2, hcz71_3, hcz71_4, hcz71_5, hcz71_6, hcz71_7, hcz71_8, hcz71_9, hcz71_10, hcz71_11, hfz71_0, hfz71_1, hfz71_2, hfz71_3, hfz71_4, hfz71_5, hfz71_6, hfz71_7, hfz71_8, hfz71_9, hfz71_10, hfz71_11⟩ := c12 BK381))
       have n0_ : Aside0 (((((((((((((w69.setCell ⟨gb381, 0, none⟩ (.int .i64 ((rd_T58 l0_6 x8_1).f0))).setCell ⟨gb381, 1, none⟩ (.int .i64 ((rd_T58 l0_6 x8_1).f1))).setCell ⟨gb381, 2, none⟩ (.slice A380_2 ((rd_T58 l0_6 x8_1).f2).length c380_2)).setCell ⟨gb381, 3, none⟩ (.string ((rd_T58 l0_6 x8_1).f3))).setCell ⟨gb381, 4, none⟩ (.bool ((rd_T58 l0_6 x8_1).f4))).setCell ⟨gb381, 5, none⟩ (.bool ((rd_T58 l0_6 x8_1).f5))).setCell ⟨gb381, 6, none⟩ (.int .i64 ((rd_T58 l0_6 x8_1).f6))).setCell ⟨gb381, 7, none⟩ (.slice A380_7 ((rd_T58 l0_6 x8_1).f7).length c380_7)).setCell ⟨gb381, 8, none⟩ (.string ((rd_T58 l0_6 x8_1).f8))).setCell ⟨gb381, 9, none⟩ (.bool ((rd_T58 l0_6 x8_1).f9))).setCell ⟨gb381, 10, none⟩ (.int .i64 ((rd_T58 l0_6 x8_1).f10.f0))).setCell ⟨gb381, 11, none⟩ (.int .i64 ((rd_T58 l0_6 x8_1).f10.f1))).heap[gb379]? = some (.cells #[.bool a0_0, .slice A0_1 l0_1.length c0_1, .int .i64 a0_2, .slice A0_3 l0_3.length c0_3, .int .i64 a0_4, .string a0_5, .slice (some ad380) l0_6.length c0_6, .int .i64 a0_7, .int .i64 a0_8, .slice A0_9 l0_9.length c0_9, .bool a0_10] 39 (0, 0))) := ⟨zp BK379⟩
       have n1_ : Aside0 (((((((((((((w69.setCell ⟨gb381, 0, none⟩ (.int .i64 ((rd_T58 l0_6 x8_1).f0))).setCell ⟨gb381, 1, none⟩ (.int .i64 ((rd_T58 l0_6 x8_1).f1))).setCell ⟨gb381, 2, none⟩ (.slice A380_2 ((rd_T58 l0_6 x8_1).f2).length c380_2)).setCell ⟨gb381, 3, none⟩ (.string ((rd_T58 l0_6 x8_1).f3))).setCell ⟨gb381, 4, none⟩ (.bool ((rd_T58 l0_6 x8_1).f4))).setCell ⟨gb381, 5, none⟩ (.bool ((rd_T58 l0_6 x8_1).f5))).setCell ⟨gb381, 6, none⟩ (.int .i64 ((rd_T58 l0_6 x8_1).f6))).setCell ⟨gb381, 7, none⟩ (.slice A380_7 ((rd_T58 l0_6 x8_1).f7).length c380_7)).setCell ⟨gb381, 8, none⟩ (.string ((rd_T58 l0_6 x8_1).f8))).setCell ⟨gb381, 9, none⟩ (.bool ((rd_T58 l0_6 x8_1).f9))).setCell ⟨gb381, 10, none⟩ (.int .i64 ((rd_T58 l0_6 x8_1).f10.f0))).setCell ⟨gb381, 11, none⟩ (.int .i64 ((rd_T58 l0_6 x8_1).f10.f1))).heap[gb381]? = some (.cells #[.int .i64 ((rd_T58 l0_6 x8_1).f0), .int .i64 ((rd_T58 l0_6 x8_1).f1), .slice A380_2 ((rd_T58 l0_6 x8_1).f2).length c380_2, .string ((rd_T58 l0_6 x8_1).f3), .bool ((rd_T58 l0_6 x8_1).f4), .bool ((rd_T58 l0_6 x8_1).f5), .int .i64 ((rd_T58 l0_6 x8_1).f6), .slice A380_7 ((rd_T58 l0_6 x8_1).f7).length c380_7, .string ((rd_T58 l0_6 x8_1).f8), .bool ((rd_T58 l0_6 x8_1).f9), .int .i64 ((rd_T58 l0_6 x8_1).f10.f0), .int .i64 ((rd_T58 l0_6 x8_1).f10.f1)] 58 (0, 0))) := ⟨zp BK381⟩
       have n2_ : Aside0 (Below w.heap.size w ((((((((((((w69.setCell ⟨gb381, 0, none⟩ (.int .i64 ((rd_T58 l0_6 x8_1).f0))).setCell ⟨gb381, 1, none⟩ (.int .i64 ((rd_T58 l0_6 x8_1).f1))).setCell ⟨gb381, 2, none⟩ (.slice A380_2 ((rd_T58 l0_6 x8_1).f2).length c380_2)).setCell ⟨gb381, 3, none⟩ (.string ((rd_T58 l0_6 x8_1).f3))).setCell ⟨gb381, 4, none⟩ (.bool ((rd_T58 l0_6 x8_1).f4))).setCell ⟨gb381, 5, none⟩ (.bool ((rd_T58 l0_6 x8_1).f5))).setCell ⟨gb381, 6, none⟩ (.int .i64 ((rd_T58 l0_6 x8_1).f6))).setCell ⟨gb381, 7, none⟩ (.slice A380_7 ((rd_T58 l0_6 x8_1).f7).length c380_7)).setCell ⟨gb381, 8, none⟩ (.string ((rd_T58 l0_6 x8_1).f8))).setCell ⟨gb381, 9, none⟩ (.bool ((rd_T58 l0_6 x8_1).f9))).setCell ⟨gb381, 10, none⟩ (.int .i64 ((rd_T58 l0_6 x8_1).f10.f0))).setCell ⟨gb381, 11, none⟩ (.int .i64 ((rd_T58 l0_6 x8_1).f10.f1)))) := ⟨zb HB⟩
       (try clear BK379)
       (try clear BK381)
       (try clear HB)
       generalize ((((((((((((w69.setCell ⟨gb381, 0, none⟩ (.int .i64 ((rd_T58 l0_6 x8_1).f0))).setCell ⟨gb381, 1, none⟩ (.int .i64 ((rd_T58 l0_6 x8_1).f1))).setCell ⟨gb381, 2, none⟩ (.slice A380_2 ((rd_T58 l0_6 x8_1).f2).length c380_2)).setCell ⟨gb381, 3, none⟩ (.string ((rd_T58 l0_6 x8_1).f3))).setCell ⟨gb381, 4, none⟩ (.bool ((rd_T58 l0_6 x8_1).f4))).setCell ⟨gb381, 5, none⟩ (.bool ((rd_T58 l0_6 x8_1).f5))).setCell ⟨gb381, 6, none⟩ (.int .i64 ((rd_T58 l0_6 x8_1).f6))).setCell ⟨gb381, 7, none⟩ (.slice A380_7 ((rd_T58 l0_6 x8_1).f7).length c380_7)).setCell ⟨gb381, 8, none⟩ (.string ((rd_T58 l0_6 x8_1).f8))).setCell ⟨gb381, 9, none⟩ (.bool ((rd_T58 l0_6 x8_1).f9))).setCell ⟨gb381, 10, none⟩ (.int .i64 ((rd_T58 l0_6 x8_1).f10.f0))).setCell ⟨gb381, 11, none⟩ (.int .i64 ((rd_T58 l0_6 x8_1).f10.f1))) = w72 at n0_ n1_ n2_ ⊢
       have BK379 := n0_
       have BK381 := n1_
       have HB := n2_
       clear n0_ n1_ n2_
       replace BK379 := Aside0.mk (blk_drew BK379.out)
       replace BK381 := Aside0.mk (blk_drew BK381.out)
       replace HB := Aside0.mk (below_drew1 HB.out)
       refine st 38 (b12 BK381) (fun hHeld => ?_); refine with_tabW impl_EndOk.tab4 impl_EndOk.bits4 (fun HT_ HW_ => ?_)
       generalize w72.drew = w73 at BK379 BK381 HB hHeld ⊢
       refine pu 0 (some 13) (bm 38 1) rfl rfl ?_
       refine tk 1 (some 14) (bm 38 3) rfl rfl hHeld ?_
       refine one_ (i := 2) (N := some 15) (bm 38 7) rfl rfl (one_of HT_.out (by kernel_rfl)) (by decide) (fun K hK => ?_)
       refine gs Tryd.func51 #[.int .i64 ((rd_T58 l0_6 x8_1).f0)] ?_
       with_reducible refine (impl_isStream.calls ((rd_T58 l0_6 x8_1).f0) false _ A7.out).mono ?_
       rintro e w' ⟨rfl, ⟨nd, rfl⟩⟩
       refine ⟨_, rfl, ?_⟩
       refine hK.out _ _ (b12 BK381) (fun hHeld => ?_)
       clear hK K
       refine nm ?_
       refine pu 3 (some 16) (bm 38 15) rfl rfl ?_
       refine pu 4 (some 17) (bm 38 31) rfl rfl ?_
       refine pv 5 (some 18) (bm 38 63) rfl rfl ?_
       refine pv 6 (some 19) (bm 38 127) rfl rfl ?_
       refine pv 7 (some 20) (bm 38 255) rfl rfl ?_
       refine pv 8 (some 21) (bm 38 511) rfl rfl ?_
       refine pv 9 (some 22) (bm 38 1023) rfl rfl ?_
       refine pv 10 (some 23) (bm 38 2047) rfl rfl ?_
       refine pv 11 (some 24) (bm 38 4095) rfl rfl ?_
       refine pv 12 (some 25) (bm 38 8191) rfl rfl ?_
       refine pv 13 (some 26) (bm 38 16383) rfl rfl ?_
       refine pv 14 (some 27) (bm 38 32767) rfl rfl ?_
       refine pv 15 (some 28) (bm 38 65535) rfl rfl ?_
       refine pv 16 (some 29) (bm 38 131071) rfl rfl ?_
       refine pv 17 (some 30) (bm 38 262143) rfl rfl ?_
       refine pv 18 (some 31) (bm 38 524287) rfl rfl ?_
       refine pu 19 (some 32) (bm 38 1048575) rfl rfl ?_
       refine pu 20 (some 33) (bm 38 2097151) rfl rfl ?_
       refine pv 21 (some 34) (bm 38 4194303) rfl rfl ?_
       refine pv 22 (some 35) (bm 38 8388607) rfl rfl ?_
       refine pv 23 (some 36) (bm 38 16777215) rfl rfl ?_
       refine pv 24 (some 37) (bm 38 33554431) rfl rfl ?_
       refine pv 25 (some 38) (bm 38 67108863) rfl rfl ?_
       refine pv 26 (some 39) (bm 38 134217727) rfl rfl ?_
       refine pv 27 (some 40) (bm 38 268435455) rfl rfl ?_
       refine pv 28 (some 41) (bm 38 536870911) rfl rfl ?_
       refine pv 29 (some 42) (bm 38 1073741823) rfl rfl ?_
       refine pv 30 (some 43) (bm 38 2147483647) rfl rfl ?_
       refine pv 31 (some 44) (bm 38 4294967295) rfl rfl ?_
       refine pu 32 (some 45) (bm 38 8589934591) rfl rfl ?_
       refine pu 33 (some 46) (bm 38 17179869183) rfl rfl ?_
       refine pv 34 (some 47) (bm 38 34359738367) rfl rfl ?_
       refine pv 35 (some 48) (bm 38 68719476735) rfl rfl ?_
       refine pv 36 (some 49) (bm 38 137438953471) rfl rfl ?_
       refine pu 37 (some 50) (bm 38 274877906943) rfl rfl ?_
       refine done_ (done_of HT_.out (by kernel_rfl)) ?_
       try go_wp2
       go_ret
       exact ⟨ze, zb HB⟩
     ·rw [if_neg c6] at H
      exact absurd H (by simp)
    ·rw [if_neg c5] at H
     exact absurd H (by simp)
   ·skip
    have c4b0 := decide_eq_false c4
    clear c4
    replace H := sp H
    rcases H with ⟨c74, H⟩ | ⟨c74, H⟩
    ·skip
     have c74b0 := decide_eq_true c74
     have c74b1 := decide_eq_true (by omega)
     clear c74
     obtain ⟨t388, A75, H⟩ := ob H
     (try dsimp only at H)
     by_cases c76 : t388 = true
     ·subst c76
      rw [if_pos rfl] at H
      obtain rfl := Option.some.inj H
      obtain ⟨hcz77_0, hcz77_1, hcz77_2, hcz77_3, hcz77_4, hcz77_5, hcz77_6, hcz77_7, hcz77_8, hcz77_9, hcz77_10, hfz77_0, hfz77_1, hfz77_2, hfz77_3, hfz77_4, hfz77_5, hfz77_6, hfz77_7, hfz77_8, hfz77_9, hfz77_10⟩ := c11 BK379
      go_wp2_with (first | (go_at_call 53; (with_reducible refine (ContainsFunc_Frame.calls k1 _ _ l0_9 54 true _ ?side1 ?side2 A75.out).mono ?_); (case side1 => exact zc (Kd.C_below HR0_9.out HB.out)); (case side2 => exact HC0_9.out); rintro e w78 ⟨rfl, hb⟩; replace BK379 := kb BK379 hb; replace HB := Aside0.mk (below_step (zb HB) hb); (try clear hb)))
      go_ret
      exact ⟨ze, zb HB⟩
     ·replace c76 := Bool.eq_false_iff.mpr c76
      subst c76
      rw [if_neg (show ¬ (false = true) by decide)] at H
      by_cases c79 : (a0_5.size : Int) ≤ 600
      ·rw [if_pos c79] at H
       have c79b0 := decide_eq_true c79
       have c79b1 := decide_eq_true (by omega)
       clear c79
       obtain ⟨t389, A80, H⟩ := ob H
       (try dsimp only at H)
       by_cases c81 : t389 = true
       ·subst c81
        rw [if_pos rfl] at H
        obtain ⟨t390, A82, H⟩ := ob H
        (try dsimp only at H)
        by_cases c83 : t390 = true
        ·subst c83
         rw [if_pos rfl] at H
         obtain ⟨t391, A84, H⟩ := ob H
         (try dsimp only at H)
         obtain rfl := Option.some.inj H
         obtain ⟨hcz85_0, hcz85_1, hcz85_2, hcz85_3, hcz85_4, hcz85_5, hcz85_6, hcz85_7, hcz85_8, hcz85_9, hcz85_10, hfz85_0, hfz85_1, hfz85_2, hfz85_3, hfz85_4, hfz85_5, hfz85_6, hfz85_7, hfz85_8, hfz85_9, hfz85_10⟩ := c11 BK379
         go_wp2_with (first | (go_at_call 53; (with_reducible refine (ContainsFunc_Frame.calls k1 _ _ l0_9 54 false _ ?side1 ?side2 A75.out).mono ?_); (case side1 => exact zc (Kd.C_below HR0_9.out HB.out)); (case side2 => exact HC0_9.out); rintro e w86 ⟨rfl, hb⟩; replace BK379 := kb BK379 hb; replace HB := Aside0.mk (below_step (zb HB) hb); (try clear hb); obtain ⟨hcz87_0, hcz87_1, hcz87_2, hcz87_3, hcz87_4, hcz87_5, hcz87_6, hcz87_7, hcz87_8, hcz87_9, hcz87_10, hfz87_0, hfz87_1, hfz87_2, hfz87_3, hfz87_4, hfz87_5, hfz87_6, hfz87_7, hfz87_8, hfz87_9, hfz87_10⟩ := c11 BK379) | (go_at_call 56; (with_reducible refine (impl_TableOk.calls k1 _ _ l0_1 a0_2 true _ ?side1 ?side2 A80.out).mono ?_); (case side1 => exact zc (Kd.C_below HR0_1.out HB.out)); (case side2 => exact HC0_1.out); rintro e w88 ⟨rfl, hb⟩; replace BK379 := kb BK379 hb; replace HB := Aside0.mk (below_step (zb HB) hb); (try clear hb); obtain ⟨hcz89_0, hcz89_1, hcz89_2, hcz89_3, hcz89_4, hcz89_5, hcz89_6, hcz89_7, hcz89_8, hcz89_9, hcz89_10, hfz89_0, hfz89_1, hfz89_2, hfz89_3, hfz89_4, hfz89_5, hfz89_6, hfz89_7, hfz89_8, hfz89_9, hfz89_10⟩ := c11 BK379) | (go_at_call 56; (with_reducible refine (impl_TableOk.calls k1 _ _ l0_3 a0_4 true _ ?side1 ?side2 A82.out).mono ?_); (case side1 => exact zc (Kd.C_below HR0_3.out HB.out)); (case side2 => exact HC0_3.out); rintro e w90 ⟨rfl, hb⟩; replace BK379 := kb BK379 hb; replace HB := Aside0.mk (below_step (zb HB) hb); (try clear hb); obtain ⟨hcz91_0, hcz91_1, hcz91_2, hcz91_3, hcz91_4, hcz91_5, hcz91_6, hcz91_7, hcz91_8, hcz91_9, hcz91_10, hfz91_0, hfz91_1, hfz91_2, hfz91_3, hfz91_4, hfz91_5, hfz91_6, hfz91_7, hfz91_8, hfz91_9, hfz91_10⟩ := c11 BK379) | (go_at_call 57; (with_reducible refine (impl_FlowOk.calls a0_7 a0_8 t391 _ A84.out).mono ?_); rintro e w92 ⟨rfl, hb⟩; replace BK379 := kb BK379 hb; replace HB := Aside0.mk (below_step (zb HB) hb); (try clear hb)))
         go_ret
         exact ⟨ze, zb HB⟩
        ·replace c83 := Bool.eq_false_iff.mpr c83
         subst c83
         rw [if_neg (show ¬ (false = true) by decide)] at H
         obtain rfl := Option.some.inj H
         obtain ⟨hcz93_0, hcz93_1, hcz93_2, hcz93_3, hcz93_4, hcz93_5, hcz93_6, hcz93_7, hcz93_8, hcz93_9, hcz93_10, hfz93_0, hfz93_1, hfz93_2, hfz93_3, hfz93_4, hfz93_5, hfz93_6, hfz93_7, hfz93_8, hfz93_9, hfz93_10⟩ := c11 BK379
         go_wp2_with (first | (go_at_call 53; (with_reducible refine (ContainsFunc_Frame.calls k1 _ _ l0_9 54 false _ ?side1 ?side2 A75.out).mono ?_); (case side1 => exact zc (Kd.C_below HR0_9.out HB.out)); (case side2 => exact HC0_9.out); rintro e w94 ⟨rfl, hb⟩; replace BK379 := kb BK379 hb; replace HB := Aside0.mk (below_step (zb HB) hb); (try clear hb); obtain ⟨hcz95_0, hcz95_1, hcz95_2, hcz95_3, hcz95_4, hcz95_5, hcz95_6, hcz95_7, hcz95_8, hcz95_9, hcz95_10, hfz95_0, hfz95_1, hfz95_2, hfz95_3, hfz95_4, hfz95_5, hfz95_6, hfz95_7, hfz95_8, hfz95_9, hfz95_10⟩ := c11 BK379) | (go_at_call 56; (with_reducible refine (impl_TableOk.calls k1 _ _ l0_1 a0_2 true _ ?side1 ?side2 A80.out).mono ?_); (case side1 => exact zc (Kd.C_below HR0_1.out HB.out)); (case side2 => exact HC0_1.out); rintro e w96 ⟨rfl, hb⟩; replace BK379 := kb BK379 hb; replace HB := Aside0.mk (below_step (zb HB) hb); (try clear hb); obtain ⟨hcz97_0, hcz97_1, hcz97_2, hcz97_3, hcz97_4, hcz97_5, hcz97_6, hcz97_7, hcz97_8, hcz97_9, hcz97_10, hfz97_0, hfz97_1, hfz97_2, hfz97_3, hfz97_4, hfz97_5, hfz97_6, hfz97_7, hfz97_8, hfz97_9, hfz97_10⟩ := c11 BK379) | (go_at_call 56; (with_reducible refine (impl_TableOk.calls k1 _ _ l0_3 a0_4 false _ ?side1 ?side2 A82.out).mono ?_); (case side1 => exact zc (Kd.C_below HR0_3.out HB.out)); (case side2 => exact HC0_3.out); rintro e w98 ⟨rfl, hb⟩; replace BK379 := kb BK379 hb; replace HB := Aside0.mk (below_step (zb HB) hb); (try clear hb)))
         go_ret
         exact ⟨ze, zb HB⟩
       ·replace c81 := Bool.eq_false_iff.mpr c81
        subst c81
        rw [if_neg (show ¬ (false = true) by decide)] at H
        obtain rfl := Option.some.inj H
        obtain ⟨hcz99_0, hcz99_1, hcz99_2, hcz99_3, hcz99_4, hcz99_5, hcz99_6, hcz99_7, hcz99_8, hcz99_9, hcz99_10, hfz99_0, hfz99_1, hfz99_2, hfz99_3, hfz99_4, hfz99_5, hfz99_6, hfz99_7, hfz99_8, hfz99_9, hfz99_10⟩ := c11 BK379
        go_wp2_with (first | (go_at_call 53; (with_reducible refine (ContainsFunc_Frame.calls k1 _ _ l0_9 54 false _ ?side1 ?side2 A75.out).mono ?_); (case side1 => exact zc (Kd.C_below HR0_9.out HB.out)); (case side2 => exact HC0_9.out); rintro e w100 ⟨rfl, hb⟩; replace BK379 := kb BK379 hb; replace HB := Aside0.mk (below_step (zb HB) hb); (try clear hb); obtain ⟨hcz101_0, hcz101_1, hcz101_2, hcz101_3, hcz101_4, hcz101_5, hcz101_6, hcz101_7, hcz101_8, hcz101_9, hcz101_10, hfz101_0, hfz101_1, hfz101_2, hfz101_3, hfz101_4, hfz101_5, hfz101_6, hfz101_7, hfz101_8, hfz101_9, hfz101_10⟩ := c11 BK379) | (go_at_call 56; (with_reducible refine (impl_TableOk.calls k1 _ _ l0_1 a0_2 false _ ?side1 ?side2 A80.out).mono ?_); (case side1 => exact zc (Kd.C_below HR0_1.out HB.out)); (case side2 => exact HC0_1.out); rintro e w102 ⟨rfl, hb⟩; replace BK379 := kb BK379 hb; replace HB := Aside0.mk (below_step (zb HB) hb); (try clear hb)))
        go_ret
        exact ⟨ze, zb HB⟩
      ·rw [if_neg c79] at H
       have c79b0 := decide_eq_false c79
       have c79b1 := decide_eq_false (by omega)
       clear c79
       obtain rfl := Option.some.inj H
       obtain ⟨hcz103_0, hcz103_1, hcz103_2, hcz103_3, hcz103_4, hcz103_5, hcz103_6, hcz103_7, hcz103_8, hcz103_9, hcz103_10, hfz103_0, hfz103_1, hfz103_2, hfz103_3, hfz103_4, hfz103_5, hfz103_6, hfz103_7, hfz103_8, hfz103_9, hfz103_10⟩ := c11 BK379
       go_wp2_with (first | (go_at_call 53; (with_reducible refine (ContainsFunc_Frame.calls k1 _ _ l0_9 54 false _ ?side1 ?side2 A75.out).mono ?_); (case side1 => exact zc (Kd.C_below HR0_9.out HB.out)); (case side2 => exact HC0_9.out); rintro e w104 ⟨rfl, hb⟩; replace BK379 := kb BK379 hb; replace HB := Aside0.mk (below_step (zb HB) hb); (try clear hb); obtain ⟨hcz105_0, hcz105_1, hcz105_2, hcz105_3, hcz105_4, hcz105_5, hcz105_6, hcz105_7, hcz105_8, hcz105_9, hcz105_10, hfz105_0, hfz105_1, hfz105_2, hfz105_3, hfz105_4, hfz105_5, hfz105_6, hfz105_7, hfz105_8, hfz105_9, hfz105_10⟩ := c11 BK379))
       go_ret
       exact ⟨ze, zb HB⟩
    ·skip
     have c74b0 := decide_eq_false c74
     have c74b1 := decide_eq_false (by omega)
     clear c74
     obtain rfl := Option.some.inj H
     obtain ⟨hcz106_0, hcz106_1, hcz106_2, hcz106_3, hcz106_4, hcz106_5, hcz106_6, hcz106_7, hcz106_8, hcz106_9, hcz106_10, hfz106_0, hfz106_1, hfz106_2, hfz106_3, hfz106_4, hfz106_5, hfz106_6, hfz106_7, hfz106_8, hfz106_9, hfz106_10⟩ := c11 BK379
     go_wp2
     go_ret
     exact ⟨ze, zb HB⟩

end Go.Proofs.YtlpibelofcabhaaDoor.PFnExactEndCall
