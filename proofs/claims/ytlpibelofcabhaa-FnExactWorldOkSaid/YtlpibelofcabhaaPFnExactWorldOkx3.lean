-- WRITTEN BY a turned print (wip/tools of the prover's repo)
import Derived.Test.YtlpibelofcabhaaPFnExactWorldOkx0
import Derived.Test.YtlpibelofcabhaaPFnExactWorldOkx2
namespace Go.Proofs.Ytlpibelofcabhaa.PFnExactWorldOk
open Go.RowKit Go.Proofs.YtlpibelofcabhaaW.PrintWords Go.Proofs.YtlpibelofcabhaaW.PrintLast Go.Proofs.YtlpibelofcabhaaW.PrintMore Go.Proofs.Ytlpibelofcabhaa.Lm
attribute [local go_sem] max2_int min2_int max_two min_two max_three min_three max_four min_four   -- for this text's walks alone
set_option linter.unusedVariables false
set_option linter.unusedSimpArgs false

/-! ### laws_szStreamS: function 90 -/
-- thin
def laws_szStreamS.l0 : Nat → List (S167) → Int → Int → Option (Int)
 | 0, _, _, _ => none
 | k + 1, x0, x1, x5 => if x5 < (x0.length : Int) then (if 0 ≤ x5 then ((laws_szStream.f k ((rd_T167 x0 x5).f0) ((rd_T167 x0 x5).f1) ((rd_T167 x0 x5).f2) ((rd_T167 x0 x5).f3) ((rd_T167 x0 x5).f4) ((rd_T167 x0 x5).f5) ((rd_T167 x0 x5).f6) ((rd_T167 x0 x5).f7) ((rd_T167 x0 x5).f8) ((rd_T167 x0 x5).f9) ((rd_T167 x0 x5).f10.f0) ((rd_T167 x0 x5).f10.f1) x1).bind fun t144 => (if t144 < 0 then (some (-1)) else (laws_szStreamS.l0 k x0 t144 (wrap64 (x5 + 1))))) else (none)) else (some x1)
def laws_szStreamS.f (k : Nat) (l0 : List (S167)) (a1 : Int) : Option (Int) := if (wrap64 (a1 - (l0.length : Int))) < 0 then (some (-1)) else (laws_szStreamS.l0 k l0 (wrap64 (a1 - (l0.length : Int))) 0)
theorem laws_szStreamS.mono_l : ∀ k, (∀ y0 y1 y2, LeO (laws_szStreamS.l0 k y0 y1 y2) (laws_szStreamS.l0 (k + 1) y0 y1 y2))
 | 0 => fun _ _ _ r h => by simp [laws_szStreamS.l0] at h
 | k + 1 => by
  have ih0 := laws_szStreamS.mono_l k
  ·intro y0 y1 y2
   unfold laws_szStreamS.l0
   have m0 := @laws_szStream.mono
   exact zm
theorem laws_szStreamS.mono : ∀ a0 a1 k, LeO (laws_szStreamS.f k a0 a1) (laws_szStreamS.f (k + 1) a0 a1) := by
 intro a0 a1 k
 have ih0 := laws_szStreamS.mono_l k
 unfold laws_szStreamS.f
 have m0 := @laws_szStream.mono
 exact zm
set_option maxHeartbeats 8000000 in
set_option maxRecDepth 100000 in
theorem laws_szStreamS.calls (k : Nat) (A0 : Option Addr) (c0 : Nat) (l0 : List (S167)) (a1 : Int) (r : Int) (w : World) (hr0 : Kd.C k167 w A0 l0.length l0) (hc0 : l0.length ≤ c0) (h : laws_szStreamS.f k l0 a1 = some r) :
  Calls Try.prog 90 #[.slice A0 l0.length c0, .int .i64 a1] w fun e w' => e = .returned (.int .i64 r) ∧ Below w.heap.size w w' := by
 have hu167 := Try.underlying167
 have HR0 := Aside0.mk hr0
 have HC0 := Aside0.mk hc0
 clear hr0 hc0
 have HB := Aside0.mk (Below.refl w.heap.size w)
 have H : (if (wrap64 (a1 - (l0.length : Int))) < 0 then (some (-1)) else (laws_szStreamS.l0 k l0 (wrap64 (a1 - (l0.length : Int))) 0)) = some r := h
 clear h
 replace H := sp H
 rcases H with ⟨c3, H⟩ | ⟨c3, H⟩
 ·skip
  have c3b0 := decide_eq_true c3
  clear c3
  obtain rfl := Option.some.inj H
  go_enter Try.func90, Try.ntmps90
  go_wp2
  go_ret
  exact ⟨ze, zb HB⟩
 ·skip
  have c3b0 := decide_eq_false c3
  clear c3
  have H' := Aside0.mk H
  clear H
  go_enter Try.func90, Try.ntmps90
  go_wp2
  go_loopg [1, 5] k (fun kq v1 v5 w' => ∃ (x1_1 : Int) (x5_1 : Int), v1 = .int .i64 x1_1 ∧ v5 = .int .i64 x5_1 ∧ Aside0 (laws_szStreamS.l0 kq l0 x1_1 x5_1 = some r) ∧ Aside0 (kq ≤ k) ∧ Aside0 (Below w.heap.size w w'))
  case atStart => exact ⟨(wrap64 (a1 - (l0.length : Int))), (0), zs, zs, H', ⟨Nat.le_refl _⟩, ⟨zb HB⟩⟩
  case round =>
   clear H'
   try clear p2
   try clear c3
   try clear c3b0
   obtain ⟨x1_1, x5_1, rfl, rfl, HA, HK1, HB⟩ := hrel
   cases gk with
   | zero => exact absurd HA.out (by simp [laws_szStreamS.l0])
   | succ k1 =>
    have H := HA.out
    clear HA
    simp only [laws_szStreamS.l0] at H
    replace H := sp H
    rcases H with ⟨c4, H⟩ | ⟨c4, H⟩
    ·skip
     have c4b0 := decide_eq_true c4
     clear c4
     by_cases c5 : 0 ≤ x5_1
     ·rw [if_pos c5] at H
      have c5b0 := decide_eq_true c5
      clear c5
      obtain ⟨t144, A6, H⟩ := ob H
      (try dsimp only at H)
      have HC7 := Aside0.mk H
      clear H
      have p143 : 0 ≤ (x5_1 : Int) := of_decide_eq_true za
      have q143 : x5_1 < (l0.length : Int) := of_decide_eq_true za
      obtain ⟨ad143, A143_2, c143_2, A143_7, c143_7, e143, hx143_0, hx143_1, hx143_2, hx143_3, hx143_4, hx143_5, hx143_6, hx143_7, hx143_8, hx143_9, hx143_10, hx143_11, hl143_2, hi143_2, hl143_7, hi143_7⟩ := at_T167 HR0.out x5_1 p143 q143
      cases e143
      replace hx143_0 := cb0 hx143_0 HB
      replace hx143_1 := cb0 hx143_1 HB
      replace hx143_2 := cb0 hx143_2 HB
      replace hx143_3 := cb0 hx143_3 HB
      replace hx143_4 := cb0 hx143_4 HB
      replace hx143_5 := cb0 hx143_5 HB
      replace hx143_6 := cb0 hx143_6 HB
      replace hx143_7 := cb0 hx143_7 HB
      replace hx143_8 := cb0 hx143_8 HB
      replace hx143_9 := cb0 hx143_9 HB
      replace hx143_10 := cb0 hx143_10 HB
      replace hx143_11 := cb0 hx143_11 HB
      have HR143_2 := Aside0.mk hi143_2
      have HC143_2 := Aside0.mk hl143_2
      clear hi143_2 hl143_2
      have HR143_7 := Aside0.mk hi143_7
      have HC143_7 := Aside0.mk hl143_7
      clear hi143_7 hl143_7
      replace p143 := eq_true p143
      replace q143 := eq_true q143
      go_upto_if 25 with (first | ((with_reducible refine gq 131 rfl ?_); refine gl (some 23) Try.func131 #[.agg #[.int .i64 ((rd_T167 l0 x5_1).f0), .int .i64 ((rd_T167 l0 x5_1).f1), .slice A143_2 ((rd_T167 l0 x5_1).f2).length c143_2, .string ((rd_T167 l0 x5_1).f3), .bool ((rd_T167 l0 x5_1).f4), .bool ((rd_T167 l0 x5_1).f5), .int .i64 ((rd_T167 l0 x5_1).f6), .slice A143_7 ((rd_T167 l0 x5_1).f7).length c143_7, .string ((rd_T167 l0 x5_1).f8), .bool ((rd_T167 l0 x5_1).f9), .int .i64 ((rd_T167 l0 x5_1).f10.f0), .int .i64 ((rd_T167 l0 x5_1).f10.f1)], .int .i64 x1_1] ?_; (with_reducible refine (laws_szStream.calls k1 ((rd_T167 l0 x5_1).f0) ((rd_T167 l0 x5_1).f1) _ _ ((rd_T167 l0 x5_1).f2) ((rd_T167 l0 x5_1).f3) ((rd_T167 l0 x5_1).f4) ((rd_T167 l0 x5_1).f5) ((rd_T167 l0 x5_1).f6) _ _ ((rd_T167 l0 x5_1).f7) ((rd_T167 l0 x5_1).f8) ((rd_T167 l0 x5_1).f9) ((rd_T167 l0 x5_1).f10.f0) ((rd_T167 l0 x5_1).f10.f1) x1_1 t144 _ ?side1 ?side2 ?side3 ?side4 A6.out).mono ?_); (case side1 => exact zc (Kd.C_below HR143_2.out HB.out)); (case side2 => exact HC143_2.out); (case side3 => exact zc (Kd.C_below HR143_7.out HB.out)); (case side4 => exact HC143_7.out); rintro e w8 ⟨rfl, hb⟩; refine ⟨_, rfl, ?_⟩; replace HB := Aside0.mk (below_step (zb HB) hb); (try clear hb)))
      (try simp only [Act.put, s1, s2, s3])
      have H := HC7.out
      clear HC7
      by_cases c9 : t144 < 0
      ·rw [if_pos c9] at H
       have c9b0 := decide_eq_true c9
       clear c9
       (first | rw [c9b0] | rw [c9b1] | rw [c9b2] | (simp only [i64_w, i32_w]; rw [c9b0]) | skip)
       obtain rfl := Option.some.inj H
       go_wp2
       go_ret
       exact ⟨ze, zb HB⟩
      ·rw [if_neg c9] at H
       have c9b0 := decide_eq_false c9
       clear c9
       (first | rw [c9b0] | rw [c9b1] | rw [c9b2] | (simp only [i64_w, i32_w]; rw [c9b0]) | skip)
       have H' := Aside0.mk H
       clear H
       go_wp2
       go_roundg k1
       case measure => have := HK1.out; omega
       case rel => exact ⟨(t144), (wrap64 (x5_1 + 1)), zs, zs, H', ⟨by have := HK1.out; omega⟩, ⟨zb HB⟩⟩
     ·rw [if_neg c5] at H
      exact absurd H (by simp)
    ·skip
     have c4b0 := decide_eq_false c4
     clear c4
     obtain rfl := Option.some.inj H
     go_wp2
     go_ret
     exact ⟨ze, zb HB⟩

/-! ### laws_szFrame: function 132 -/
-- thin
def laws_szFrame.f (a0_0 : Int) (a0_1 : Bool) (a0_2 : Int) (a0_3 : ByteArray) (a1 : Int) : Option (Int) := if (wrap64 (a1 - (a0_3.size : Int))) < 0 then (some (-1)) else (some (wrap64 (a1 - (a0_3.size : Int))))
set_option maxHeartbeats 8000000 in
set_option maxRecDepth 100000 in
theorem laws_szFrame.calls (a0_0 : Int) (a0_1 : Bool) (a0_2 : Int) (a0_3 : ByteArray) (a1 : Int) (r : Int) (w : World) (h : laws_szFrame.f a0_0 a0_1 a0_2 a0_3 a1 = some r) :
  Calls Try.prog 132 #[.agg #[.int .i64 a0_0, .bool a0_1, .int .i64 a0_2, .string a0_3], .int .i64 a1] w fun e w' => e = .returned (.int .i64 r) ∧ Below w.heap.size w w' := by
 have hu169 := Try.underlying169
 have HB := Aside0.mk (Below.refl w.heap.size w)
 have H : (if (wrap64 (a1 - (a0_3.size : Int))) < 0 then (some (-1)) else (some (wrap64 (a1 - (a0_3.size : Int))))) = some r := h
 clear h
 replace H := sp H
 rcases H with ⟨c3, H⟩ | ⟨c3, H⟩
 ·skip
  have c3b0 := decide_eq_true c3
  clear c3
  obtain rfl := Option.some.inj H
  go_enter Try.func132, Try.ntmps132
  go_wp2_with (first | ((with_reducible refine gd 2 rfl ?_); refine bx (N := 2) (cs := #[.int .i64 a0_0, .bool a0_1, .int .i64 a0_2, .string a0_3]) (t := 169) ?_; intro gb145 hg w4 hbox hb; have BK145 := Aside0.mk (hbox); have GW145 := gw HB hg; have GE145 := GW145; replace HB := Aside0.mk (below_step (zb HB) hb); clear hb hbox hg; obtain ⟨hcz5_0, hcz5_1, hcz5_2, hcz5_3, hfz5_0, hfz5_1, hfz5_2, hfz5_3⟩ := c4 BK145))
  go_ret
  exact ⟨ze, zb HB⟩
 ·skip
  have c3b0 := decide_eq_false c3
  clear c3
  obtain rfl := Option.some.inj H
  go_enter Try.func132, Try.ntmps132
  go_wp2_with (first | ((with_reducible refine gd 2 rfl ?_); refine bx (N := 2) (cs := #[.int .i64 a0_0, .bool a0_1, .int .i64 a0_2, .string a0_3]) (t := 169) ?_; intro gb145 hg w6 hbox hb; have BK145 := Aside0.mk (hbox); have GW145 := gw HB hg; have GE145 := GW145; replace HB := Aside0.mk (below_step (zb HB) hb); clear hb hbox hg; obtain ⟨hcz7_0, hcz7_1, hcz7_2, hcz7_3, hfz7_0, hfz7_1, hfz7_2, hfz7_3⟩ := c4 BK145))
  go_ret
  exact ⟨ze, zb HB⟩

/-! ### laws_szFrameS: function 91 -/
-- thin
def laws_szFrameS.l0 : Nat → List (S169) → Int → Int → Option (Int)
 | 0, _, _, _ => none
 | k + 1, x0, x1, x5 => if x5 < (x0.length : Int) then (if 0 ≤ x5 then ((laws_szFrame.f ((rd_T169 x0 x5).f0) ((rd_T169 x0 x5).f1) ((rd_T169 x0 x5).f2) ((rd_T169 x0 x5).f3) x1).bind fun t147 => (if t147 < 0 then (some (-1)) else (laws_szFrameS.l0 k x0 t147 (wrap64 (x5 + 1))))) else (none)) else (some x1)
def laws_szFrameS.f (k : Nat) (l0 : List (S169)) (a1 : Int) : Option (Int) := if (wrap64 (a1 - (l0.length : Int))) < 0 then (some (-1)) else (laws_szFrameS.l0 k l0 (wrap64 (a1 - (l0.length : Int))) 0)
theorem laws_szFrameS.mono_l : ∀ k, (∀ y0 y1 y2, LeO (laws_szFrameS.l0 k y0 y1 y2) (laws_szFrameS.l0 (k + 1) y0 y1 y2))
 | 0 => fun _ _ _ r h => by simp [laws_szFrameS.l0] at h
 | k + 1 => by
  have ih0 := laws_szFrameS.mono_l k
  ·intro y0 y1 y2
   unfold laws_szFrameS.l0
   exact zm
theorem laws_szFrameS.mono : ∀ a0 a1 k, LeO (laws_szFrameS.f k a0 a1) (laws_szFrameS.f (k + 1) a0 a1) := by
 intro a0 a1 k
 have ih0 := laws_szFrameS.mono_l k
 unfold laws_szFrameS.f
 exact zm
set_option maxHeartbeats 8000000 in
set_option maxRecDepth 100000 in
theorem laws_szFrameS.calls (k : Nat) (A0 : Option Addr) (c0 : Nat) (l0 : List (S169)) (a1 : Int) (r : Int) (w : World) (hr0 : Kd.C k169 w A0 l0.length l0) (hc0 : l0.length ≤ c0) (h : laws_szFrameS.f k l0 a1 = some r) :
  Calls Try.prog 91 #[.slice A0 l0.length c0, .int .i64 a1] w fun e w' => e = .returned (.int .i64 r) ∧ Below w.heap.size w w' := by
 have hu169 := Try.underlying169
 have HR0 := Aside0.mk hr0
 have HC0 := Aside0.mk hc0
 clear hr0 hc0
 have HB := Aside0.mk (Below.refl w.heap.size w)
 have H : (if (wrap64 (a1 - (l0.length : Int))) < 0 then (some (-1)) else (laws_szFrameS.l0 k l0 (wrap64 (a1 - (l0.length : Int))) 0)) = some r := h
 clear h
 replace H := sp H
 rcases H with ⟨c3, H⟩ | ⟨c3, H⟩
 ·skip
  have c3b0 := decide_eq_true c3
  clear c3
  obtain rfl := Option.some.inj H
  go_enter Try.func91, Try.ntmps91
  go_wp2
  go_ret
  exact ⟨ze, zb HB⟩
 ·skip
  have c3b0 := decide_eq_false c3
  clear c3
  have H' := Aside0.mk H
  clear H
  go_enter Try.func91, Try.ntmps91
  go_wp2
  go_loopg [1, 5] k (fun kq v1 v5 w' => ∃ (x1_1 : Int) (x5_1 : Int), v1 = .int .i64 x1_1 ∧ v5 = .int .i64 x5_1 ∧ Aside0 (laws_szFrameS.l0 kq l0 x1_1 x5_1 = some r) ∧ Aside0 (kq ≤ k) ∧ Aside0 (Below w.heap.size w w'))
  case atStart => exact ⟨(wrap64 (a1 - (l0.length : Int))), (0), zs, zs, H', ⟨Nat.le_refl _⟩, ⟨zb HB⟩⟩
  case round =>
   clear H'
   try clear p2
   try clear c3
   try clear c3b0
   obtain ⟨x1_1, x5_1, rfl, rfl, HA, HK1, HB⟩ := hrel
   cases gk with
   | zero => exact absurd HA.out (by simp [laws_szFrameS.l0])
   | succ k1 =>
    have H := HA.out
    clear HA
    simp only [laws_szFrameS.l0] at H
    replace H := sp H
    rcases H with ⟨c4, H⟩ | ⟨c4, H⟩
    ·skip
     have c4b0 := decide_eq_true c4
     clear c4
     by_cases c5 : 0 ≤ x5_1
     ·rw [if_pos c5] at H
      have c5b0 := decide_eq_true c5
      clear c5
      obtain ⟨t147, A6, H⟩ := ob H
      (try dsimp only at H)
      have HC7 := Aside0.mk H
      clear H
      have p146 : 0 ≤ (x5_1 : Int) := of_decide_eq_true za
      have q146 : x5_1 < (l0.length : Int) := of_decide_eq_true za
      obtain ⟨ad146, e146, hx146_0, hx146_1, hx146_2, hx146_3⟩ := at_T169 HR0.out x5_1 p146 q146
      cases e146
      replace hx146_0 := cb0 hx146_0 HB
      replace hx146_1 := cb0 hx146_1 HB
      replace hx146_2 := cb0 hx146_2 HB
      replace hx146_3 := cb0 hx146_3 HB
      replace p146 := eq_true p146
      replace q146 := eq_true q146
      go_upto_if 25 with (first | ((with_reducible refine gq 132 rfl ?_); refine gl (some 23) Try.func132 #[.agg #[.int .i64 ((rd_T169 l0 x5_1).f0), .bool ((rd_T169 l0 x5_1).f1), .int .i64 ((rd_T169 l0 x5_1).f2), .string ((rd_T169 l0 x5_1).f3)], .int .i64 x1_1] ?_; (with_reducible refine (laws_szFrame.calls ((rd_T169 l0 x5_1).f0) ((rd_T169 l0 x5_1).f1) ((rd_T169 l0 x5_1).f2) ((rd_T169 l0 x5_1).f3) x1_1 t147 _ A6.out).mono ?_); rintro e w8 ⟨rfl, hb⟩; refine ⟨_, rfl, ?_⟩; replace HB := Aside0.mk (below_step (zb HB) hb); (try clear hb)))
      (try simp only [Act.put, s1, s2, s3])
      have H := HC7.out
      clear HC7
      by_cases c9 : t147 < 0
      ·rw [if_pos c9] at H
       have c9b0 := decide_eq_true c9
       clear c9
       (first | rw [c9b0] | rw [c9b1] | rw [c9b2] | (simp only [i64_w, i32_w]; rw [c9b0]) | skip)
       obtain rfl := Option.some.inj H
       go_wp2
       go_ret
       exact ⟨ze, zb HB⟩
      ·rw [if_neg c9] at H
       have c9b0 := decide_eq_false c9
       clear c9
       (first | rw [c9b0] | rw [c9b1] | rw [c9b2] | (simp only [i64_w, i32_w]; rw [c9b0]) | skip)
       have H' := Aside0.mk H
       clear H
       go_wp2
       go_roundg k1
       case measure => have := HK1.out; omega
       case rel => exact ⟨(t147), (wrap64 (x5_1 + 1)), zs, zs, H', ⟨by have := HK1.out; omega⟩, ⟨zb HB⟩⟩
     ·rw [if_neg c5] at H
      exact absurd H (by simp)
    ·skip
     have c4b0 := decide_eq_false c4
     clear c4
     obtain rfl := Option.some.inj H
     go_wp2
     go_ret
     exact ⟨ze, zb HB⟩

/-! ### laws_szEnd: function 35 -/
-- thin
def laws_szEnd.f (k : Nat) (a0_0 : Bool) (l0_1 : List (S192)) (a0_2 : Int) (l0_3 : List (S192)) (a0_4 : Int) (a0_5 : ByteArray) (l0_6 : List (S167)) (a0_7 : Int) (a0_8 : Int) (l0_9 : List (S169)) (a0_10 : Bool) (a1 : Int) : Option (Int) := (laws_szTable.f k l0_1 a0_2 a1).bind fun t149 => (if t149 < 0 then (some (-1)) else ((laws_szTable.f k l0_3 a0_4 t149).bind fun t150 => (if t150 < 0 then (some (-1)) else (if (wrap64 (t150 - (a0_5.size : Int))) < 0 then (some (-1)) else ((laws_szStreamS.f k l0_6 (wrap64 (t150 - (a0_5.size : Int)))).bind fun t151 => (if t151 < 0 then (some (-1)) else ((laws_szFrameS.f k l0_9 t151).bind fun t152 => (if t152 < 0 then (some (-1)) else (some t152)))))))))
theorem laws_szEnd.mono : ∀ a0 a1 a2 a3 a4 a5 a6 a7 a8 a9 a10 a11 k, LeO (laws_szEnd.f k a0 a1 a2 a3 a4 a5 a6 a7 a8 a9 a10 a11) (laws_szEnd.f (k + 1) a0 a1 a2 a3 a4 a5 a6 a7 a8 a9 a10 a11) := by
 intro a0 a1 a2 a3 a4 a5 a6 a7 a8 a9 a10 a11 k
 unfold laws_szEnd.f
 have m0 := @laws_szFrameS.mono
 have m1 := @laws_szStreamS.mono
 have m2 := @laws_szTable.mono
 exact zm
set_option maxHeartbeats 8000000 in
set_option maxRecDepth 100000 in
theorem laws_szEnd.calls (k : Nat) (a0_0 : Bool) (A0_1 : Option Addr) (c0_1 : Nat) (l0_1 : List (S192)) (a0_2 : Int) (A0_3 : Option Addr) (c0_3 : Nat) (l0_3 : List (S192)) (a0_4 : Int) (a0_5 : ByteArray) (A0_6 : Option Addr) (c0_6 : Nat) (l0_6 : List (S167)) (a0_7 : Int) (a0_8 : Int) (A0_9 : Option Addr) (c0_9 : Nat) (l0_9 : List (S169)) (a0_10 : Bool) (a1 : Int) (r : Int) (w : World) (hr0_1 : Kd.C k192 w A0_1 l0_1.length l0_1) (hc0_1 : l0_1.length ≤ c0_1) (hr0_3 : Kd.C k192 w A0_3 l0_3.length l0_3) (hc0_3 : l0_3.length ≤ c0_3) (hr0_6 : Kd.C k167 w A0_6 l0_6.length l0_6) (hc0_6 : l0_6.length ≤ c0_6) (hr0_9 : Kd.C k169 w A0_9 l0_9.length l0_9) (hc0_9 : l0_9.length ≤ c0_9) (h : laws_szEnd.f k a0_0 l0_1 a0_2 l0_3 a0_4 a0_5 l0_6 a0_7 a0_8 l0_9 a0_10 a1 = some r) :
  Calls Try.prog 35 #[.agg #[.bool a0_0, .slice A0_1 l0_1.length c0_1, .int .i64 a0_2, .slice A0_3 l0_3.length c0_3, .int .i64 a0_4, .string a0_5, .slice A0_6 l0_6.length c0_6, .int .i64 a0_7, .int .i64 a0_8, .slice A0_9 l0_9.length c0_9, .bool a0_10], .int .i64 a1] w fun e w' => e = .returned (.int .i64 r) ∧ Below w.heap.size w w' := by
 have hu64 := Try.underlying64
 have hu59 := Try.underlying59
 have HR0_1 := Aside0.mk hr0_1
 have HC0_1 := Aside0.mk hc0_1
 clear hr0_1 hc0_1
 have HR0_3 := Aside0.mk hr0_3
 have HC0_3 := Aside0.mk hc0_3
 clear hr0_3 hc0_3
 have HR0_6 := Aside0.mk hr0_6
 have HC0_6 := Aside0.mk hc0_6
 clear hr0_6 hc0_6
 have HR0_9 := Aside0.mk hr0_9
 have HC0_9 := Aside0.mk hc0_9
 clear hr0_9 hc0_9
 have HB := Aside0.mk (Below.refl w.heap.size w)
 have H : ((laws_szTable.f k l0_1 a0_2 a1).bind fun t149 => (if t149 < 0 then (some (-1)) else ((laws_szTable.f k l0_3 a0_4 t149).bind fun t150 => (if t150 < 0 then (some (-1)) else (if (wrap64 (t150 - (a0_5.size : Int))) < 0 then (some (-1)) else ((laws_szStreamS.f k l0_6 (wrap64 (t150 - (a0_5.size : Int)))).bind fun t151 => (if t151 < 0 then (some (-1)) else ((laws_szFrameS.f k l0_9 t151).bind fun t152 => (if t152 < 0 then (some (-1)) else (some t152)))))))))) = some r := h
 clear h
 obtain ⟨t149, A3, H⟩ := ob H
 (try dsimp only at H)
 have HC4 := Aside0.mk H
 clear H
 go_enter Try.func35, Try.ntmps35
 go_upto_if 10 with (first | ((with_reducible refine gd 2 rfl ?_); refine bx (N := 2) (cs := #[.bool a0_0, .slice A0_1 l0_1.length c0_1, .int .i64 a0_2, .slice A0_3 l0_3.length c0_3, .int .i64 a0_4, .string a0_5, .slice A0_6 l0_6.length c0_6, .int .i64 a0_7, .int .i64 a0_8, .slice A0_9 l0_9.length c0_9, .bool a0_10]) (t := 64) ?_; intro gb148 hg w5 hbox hb; have BK148 := Aside0.mk (hbox); have GW148 := gw HB hg; have GE148 := GW148; replace HB := Aside0.mk (below_step (zb HB) hb); clear hb hbox hg; obtain ⟨hcz6_0, hcz6_1, hcz6_2, hcz6_3, hcz6_4, hcz6_5, hcz6_6, hcz6_7, hcz6_8, hcz6_9, hcz6_10, hfz6_0, hfz6_1, hfz6_2, hfz6_3, hfz6_4, hfz6_5, hfz6_6, hfz6_7, hfz6_8, hfz6_9, hfz6_10⟩ := c11 BK148) | ((with_reducible refine gq 89 rfl ?_); refine gl (some 8) Try.func89 #[.agg #[.slice A0_1 l0_1.length c0_1, .int .i64 a0_2], .int .i64 a1] ?_; (with_reducible refine (laws_szTable.calls k _ _ l0_1 a0_2 a1 t149 _ ?side1 ?side2 A3.out).mono ?_); (case side1 => exact zc (Kd.C_below HR0_1.out HB.out)); (case side2 => exact HC0_1.out); rintro e w7 ⟨rfl, hb⟩; refine ⟨_, rfl, ?_⟩; replace BK148 := kb BK148 hb; replace HB := Aside0.mk (below_step (zb HB) hb); (try clear hb)))
 (try simp only [Act.put, s1, s2, s3])
 have H := HC4.out
 clear HC4
 replace H := sp H
 rcases H with ⟨c8, H⟩ | ⟨c8, H⟩
 ·skip
  have c8b0 := decide_eq_true c8
  clear c8
  (first | rw [c8b0] | rw [c8b1] | rw [c8b2] | (simp only [i64_w, i32_w]; rw [c8b0]) | skip)
  obtain rfl := Option.some.inj H
  go_wp2
  go_ret
  exact ⟨ze, zb HB⟩
 ·skip
  have c8b0 := decide_eq_false c8
  clear c8
  (first | rw [c8b0] | rw [c8b1] | rw [c8b2] | (simp only [i64_w, i32_w]; rw [c8b0]) | skip)
  obtain ⟨t150, A9, H⟩ := ob H
  (try dsimp only at H)
  replace H := sp H
  rcases H with ⟨c10, H⟩ | ⟨c10, H⟩
  ·skip
   have c10b0 := decide_eq_true c10
   clear c10
   obtain rfl := Option.some.inj H
   obtain ⟨hcz11_0, hcz11_1, hcz11_2, hcz11_3, hcz11_4, hcz11_5, hcz11_6, hcz11_7, hcz11_8, hcz11_9, hcz11_10, hfz11_0, hfz11_1, hfz11_2, hfz11_3, hfz11_4, hfz11_5, hfz11_6, hfz11_7, hfz11_8, hfz11_9, hfz11_10⟩ := c11 BK148
   go_wp2_with (first | ((with_reducible refine gq 89 rfl ?_); refine gl (some 14) Try.func89 #[.agg #[.slice A0_3 l0_3.length c0_3, .int .i64 a0_4], .int .i64 t149] ?_; (with_reducible refine (laws_szTable.calls k _ _ l0_3 a0_4 t149 t150 _ ?side1 ?side2 A9.out).mono ?_); (case side1 => exact zc (Kd.C_below HR0_3.out HB.out)); (case side2 => exact HC0_3.out); rintro e w12 ⟨rfl, hb⟩; refine ⟨_, rfl, ?_⟩; replace BK148 := kb BK148 hb; replace HB := Aside0.mk (below_step (zb HB) hb); (try clear hb)))
   go_ret
   exact ⟨ze, zb HB⟩
  ·skip
   have c10b0 := decide_eq_false c10
   clear c10
   replace H := sp H
   rcases H with ⟨c13, H⟩ | ⟨c13, H⟩
   ·skip
    have c13b0 := decide_eq_true c13
    clear c13
    obtain rfl := Option.some.inj H
    obtain ⟨hcz14_0, hcz14_1, hcz14_2, hcz14_3, hcz14_4, hcz14_5, hcz14_6, hcz14_7, hcz14_8, hcz14_9, hcz14_10, hfz14_0, hfz14_1, hfz14_2, hfz14_3, hfz14_4, hfz14_5, hfz14_6, hfz14_7, hfz14_8, hfz14_9, hfz14_10⟩ := c11 BK148
    go_wp2_with (first | ((with_reducible refine gq 89 rfl ?_); refine gl (some 14) Try.func89 #[.agg #[.slice A0_3 l0_3.length c0_3, .int .i64 a0_4], .int .i64 t149] ?_; (with_reducible refine (laws_szTable.calls k _ _ l0_3 a0_4 t149 t150 _ ?side1 ?side2 A9.out).mono ?_); (case side1 => exact zc (Kd.C_below HR0_3.out HB.out)); (case side2 => exact HC0_3.out); rintro e w15 ⟨rfl, hb⟩; refine ⟨_, rfl, ?_⟩; replace BK148 := kb BK148 hb; replace HB := Aside0.mk (below_step (zb HB) hb); (try clear hb); obtain ⟨hcz16_0, hcz16_1, hcz16_2, hcz16_3, hcz16_4, hcz16_5, hcz16_6, hcz16_7, hcz16_8, hcz16_9, hcz16_10, hfz16_0, hfz16_1, hfz16_2, hfz16_3, hfz16_4, hfz16_5, hfz16_6, hfz16_7, hfz16_8, hfz16_9, hfz16_10⟩ := c11 BK148))
    go_ret
    exact ⟨ze, zb HB⟩
   ·skip
    have c13b0 := decide_eq_false c13
    clear c13
    obtain ⟨t151, A17, H⟩ := ob H
    (try dsimp only at H)
    have HC18 := Aside0.mk H
    clear H
    obtain ⟨hcz19_0, hcz19_1, hcz19_2, hcz19_3, hcz19_4, hcz19_5, hcz19_6, hcz19_7, hcz19_8, hcz19_9, hcz19_10, hfz19_0, hfz19_1, hfz19_2, hfz19_3, hfz19_4, hfz19_5, hfz19_6, hfz19_7, hfz19_8, hfz19_9, hfz19_10⟩ := c11 BK148
    go_upto_if 29 with (first | ((with_reducible refine gq 89 rfl ?_); refine gl (some 14) Try.func89 #[.agg #[.slice A0_3 l0_3.length c0_3, .int .i64 a0_4], .int .i64 t149] ?_; (with_reducible refine (laws_szTable.calls k _ _ l0_3 a0_4 t149 t150 _ ?side1 ?side2 A9.out).mono ?_); (case side1 => exact zc (Kd.C_below HR0_3.out HB.out)); (case side2 => exact HC0_3.out); rintro e w20 ⟨rfl, hb⟩; refine ⟨_, rfl, ?_⟩; replace BK148 := kb BK148 hb; replace HB := Aside0.mk (below_step (zb HB) hb); (try clear hb); obtain ⟨hcz21_0, hcz21_1, hcz21_2, hcz21_3, hcz21_4, hcz21_5, hcz21_6, hcz21_7, hcz21_8, hcz21_9, hcz21_10, hfz21_0, hfz21_1, hfz21_2, hfz21_3, hfz21_4, hfz21_5, hfz21_6, hfz21_7, hfz21_8, hfz21_9, hfz21_10⟩ := c11 BK148) | ((with_reducible refine gq 90 rfl ?_); refine gl (some 27) Try.func90 #[.slice A0_6 l0_6.length c0_6, .int .i64 (wrap64 (t150 - (a0_5.size : Int)))] ?_; (with_reducible refine (laws_szStreamS.calls k _ _ l0_6 (wrap64 (t150 - (a0_5.size : Int))) t151 _ ?side1 ?side2 A17.out).mono ?_); (case side1 => exact zc (Kd.C_below HR0_6.out HB.out)); (case side2 => exact HC0_6.out); rintro e w22 ⟨rfl, hb⟩; refine ⟨_, rfl, ?_⟩; replace BK148 := kb BK148 hb; replace HB := Aside0.mk (below_step (zb HB) hb); (try clear hb)))
    (try simp only [Act.put, s1, s2, s3])
    have H := HC18.out
    clear HC18
    replace H := sp H
    rcases H with ⟨c23, H⟩ | ⟨c23, H⟩
    ·skip
     have c23b0 := decide_eq_true c23
     clear c23
     (first | rw [c23b0] | rw [c23b1] | rw [c23b2] | (simp only [i64_w, i32_w]; rw [c23b0]) | skip)
     obtain rfl := Option.some.inj H
     go_wp2
     go_ret
     exact ⟨ze, zb HB⟩
    ·skip
     have c23b0 := decide_eq_false c23
     clear c23
     (first | rw [c23b0] | rw [c23b1] | rw [c23b2] | (simp only [i64_w, i32_w]; rw [c23b0]) | skip)
     obtain ⟨t152, A24, H⟩ := ob H
     (try dsimp only at H)
     replace H := sp H
     rcases H with ⟨c25, H⟩ | ⟨c25, H⟩
     ·skip
      have c25b0 := decide_eq_true c25
      clear c25
      obtain rfl := Option.some.inj H
      obtain ⟨hcz26_0, hcz26_1, hcz26_2, hcz26_3, hcz26_4, hcz26_5, hcz26_6, hcz26_7, hcz26_8, hcz26_9, hcz26_10, hfz26_0, hfz26_1, hfz26_2, hfz26_3, hfz26_4, hfz26_5, hfz26_6, hfz26_7, hfz26_8, hfz26_9, hfz26_10⟩ := c11 BK148
      go_wp2_with (first | ((with_reducible refine gq 91 rfl ?_); refine gl (some 33) Try.func91 #[.slice A0_9 l0_9.length c0_9, .int .i64 t151] ?_; (with_reducible refine (laws_szFrameS.calls k _ _ l0_9 t151 t152 _ ?side1 ?side2 A24.out).mono ?_); (case side1 => exact zc (Kd.C_below HR0_9.out HB.out)); (case side2 => exact HC0_9.out); rintro e w27 ⟨rfl, hb⟩; refine ⟨_, rfl, ?_⟩; replace BK148 := kb BK148 hb; replace HB := Aside0.mk (below_step (zb HB) hb); (try clear hb)))
      go_ret
      exact ⟨ze, zb HB⟩
     ·skip
      have c25b0 := decide_eq_false c25
      clear c25
      obtain rfl := Option.some.inj H
      obtain ⟨hcz28_0, hcz28_1, hcz28_2, hcz28_3, hcz28_4, hcz28_5, hcz28_6, hcz28_7, hcz28_8, hcz28_9, hcz28_10, hfz28_0, hfz28_1, hfz28_2, hfz28_3, hfz28_4, hfz28_5, hfz28_6, hfz28_7, hfz28_8, hfz28_9, hfz28_10⟩ := c11 BK148
      go_wp2_with (first | ((with_reducible refine gq 91 rfl ?_); refine gl (some 33) Try.func91 #[.slice A0_9 l0_9.length c0_9, .int .i64 t151] ?_; (with_reducible refine (laws_szFrameS.calls k _ _ l0_9 t151 t152 _ ?side1 ?side2 A24.out).mono ?_); (case side1 => exact zc (Kd.C_below HR0_9.out HB.out)); (case side2 => exact HC0_9.out); rintro e w29 ⟨rfl, hb⟩; refine ⟨_, rfl, ?_⟩; replace BK148 := kb BK148 hb; replace HB := Aside0.mk (below_step (zb HB) hb); (try clear hb)))
      go_ret
      exact ⟨ze, zb HB⟩

/-! ### laws_szWorld: function 38 -/
-- thin
def laws_szWorld.f (k : Nat) (a0_0 : Bool) (l0_1 : List (S192)) (a0_2 : Int) (l0_3 : List (S192)) (a0_4 : Int) (a0_5 : ByteArray) (l0_6 : List (S167)) (a0_7 : Int) (a0_8 : Int) (l0_9 : List (S169)) (a0_10 : Bool) (a0_11 : Bool) (l0_12 : List (S192)) (a0_13 : Int) (l0_14 : List (S192)) (a0_15 : Int) (a0_16 : ByteArray) (l0_17 : List (S167)) (a0_18 : Int) (a0_19 : Int) (l0_20 : List (S169)) (a0_21 : Bool) (a0_22 : ByteArray) (a0_23 : ByteArray) (a1 : Int) : Option (Int) := (laws_szEnd.f k a0_0 l0_1 a0_2 l0_3 a0_4 a0_5 l0_6 a0_7 a0_8 l0_9 a0_10 a1).bind fun t154 => (if t154 < 0 then (some (-1)) else ((laws_szEnd.f k a0_11 l0_12 a0_13 l0_14 a0_15 a0_16 l0_17 a0_18 a0_19 l0_20 a0_21 t154).bind fun t155 => (if t155 < 0 then (some (-1)) else (if (wrap64 (t155 - (a0_22.size : Int))) < 0 then (some (-1)) else (if (wrap64 ((wrap64 (t155 - (a0_22.size : Int))) - (a0_23.size : Int))) < 0 then (some (-1)) else (some (wrap64 ((wrap64 (t155 - (a0_22.size : Int))) - (a0_23.size : Int)))))))))
theorem laws_szWorld.mono : ∀ a0 a1 a2 a3 a4 a5 a6 a7 a8 a9 a10 a11 a12 a13 a14 a15 a16 a17 a18 a19 a20 a21 a22 a23 a24 k, LeO (laws_szWorld.f k a0 a1 a2 a3 a4 a5 a6 a7 a8 a9 a10 a11 a12 a13 a14 a15 a16 a17 a18 a19 a20 a21 a22 a23 a24) (laws_szWorld.f (k + 1) a0 a1 a2 a3 a4 a5 a6 a7 a8 a9 a10 a11 a12 a13 a14 a15 a16 a17 a18 a19 a20 a21 a22 a23 a24) := by
 intro a0 a1 a2 a3 a4 a5 a6 a7 a8 a9 a10 a11 a12 a13 a14 a15 a16 a17 a18 a19 a20 a21 a22 a23 a24 k
 unfold laws_szWorld.f
 have m0 := @laws_szEnd.mono
 exact zm
set_option maxHeartbeats 8000000 in
set_option maxRecDepth 100000 in
theorem laws_szWorld.calls (k : Nat) (a0_0 : Bool) (A0_1 : Option Addr) (c0_1 : Nat) (l0_1 : List (S192)) (a0_2 : Int) (A0_3 : Option Addr) (c0_3 : Nat) (l0_3 : List (S192)) (a0_4 : Int) (a0_5 : ByteArray) (A0_6 : Option Addr) (c0_6 : Nat) (l0_6 : List (S167)) (a0_7 : Int) (a0_8 : Int) (A0_9 : Option Addr) (c0_9 : Nat) (l0_9 : List (S169)) (a0_10 : Bool) (a0_11 : Bool) (A0_12 : Option Addr) (c0_12 : Nat) (l0_12 : List (S192)) (a0_13 : Int) (A0_14 : Option Addr) (c0_14 : Nat) (l0_14 : List (S192)) (a0_15 : Int) (a0_16 : ByteArray) (A0_17 : Option Addr) (c0_17 : Nat) (l0_17 : List (S167)) (a0_18 : Int) (a0_19 : Int) (A0_20 : Option Addr) (c0_20 : Nat) (l0_20 : List (S169)) (a0_21 : Bool) (a0_22 : ByteArray) (a0_23 : ByteArray) (a1 : Int) (r : Int) (w : World) (hr0_1 : Kd.C k192 w A0_1 l0_1.length l0_1) (hc0_1 : l0_1.length ≤ c0_1) (hr0_3 : Kd.C k192 w A0_3 l0_3.length l0_3) (hc0_3 : l0_3.length ≤ c0_3) (hr0_6 : Kd.C k167 w A0_6 l0_6.length l0_6) (hc0_6 : l0_6.length ≤ c0_6) (hr0_9 : Kd.C k169 w A0_9 l0_9.length l0_9) (hc0_9 : l0_9.length ≤ c0_9) (hr0_12 : Kd.C k192 w A0_12 l0_12.length l0_12) (hc0_12 : l0_12.length ≤ c0_12) (hr0_14 : Kd.C k192 w A0_14 l0_14.length l0_14) (hc0_14 : l0_14.length ≤ c0_14) (hr0_17 : Kd.C k167 w A0_17 l0_17.length l0_17) (hc0_17 : l0_17.length ≤ c0_17) (hr0_20 : Kd.C k169 w A0_20 l0_20.length l0_20) (hc0_20 : l0_20.length ≤ c0_20) (h : laws_szWorld.f k a0_0 l0_1 a0_2 l0_3 a0_4 a0_5 l0_6 a0_7 a0_8 l0_9 a0_10 a0_11 l0_12 a0_13 l0_14 a0_15 a0_16 l0_17 a0_18 a0_19 l0_20 a0_21 a0_22 a0_23 a1 = some r) :
  Calls Try.prog 38 #[.agg #[.bool a0_0, .slice A0_1 l0_1.length c0_1, .int .i64 a0_2, .slice A0_3 l0_3.length c0_3, .int .i64 a0_4, .string a0_5, .slice A0_6 l0_6.length c0_6, .int .i64 a0_7, .int .i64 a0_8, .slice A0_9 l0_9.length c0_9, .bool a0_10, .bool a0_11, .slice A0_12 l0_12.length c0_12, .int .i64 a0_13, .slice A0_14 l0_14.length c0_14, .int .i64 a0_15, .string a0_16, .slice A0_17 l0_17.length c0_17, .int .i64 a0_18, .int .i64 a0_19, .slice A0_20 l0_20.length c0_20, .bool a0_21, .string a0_22, .string a0_23], .int .i64 a1] w fun e w' => e = .returned (.int .i64 r) ∧ Below w.heap.size w w' := by
 have hu69 := Try.underlying69
 have hu64 := Try.underlying64
 have HR0_1 := Aside0.mk hr0_1
 have HC0_1 := Aside0.mk hc0_1
 clear hr0_1 hc0_1
 have HR0_3 := Aside0.mk hr0_3
 have HC0_3 := Aside0.mk hc0_3
 clear hr0_3 hc0_3
 have HR0_6 := Aside0.mk hr0_6
 have HC0_6 := Aside0.mk hc0_6
 clear hr0_6 hc0_6
 have HR0_9 := Aside0.mk hr0_9
 have HC0_9 := Aside0.mk hc0_9
 clear hr0_9 hc0_9
 have HR0_12 := Aside0.mk hr0_12
 have HC0_12 := Aside0.mk hc0_12
 clear hr0_12 hc0_12
 have HR0_14 := Aside0.mk hr0_14
 have HC0_14 := Aside0.mk hc0_14
 clear hr0_14 hc0_14
 have HR0_17 := Aside0.mk hr0_17
 have HC0_17 := Aside0.mk hc0_17
 clear hr0_17 hc0_17
 have HR0_20 := Aside0.mk hr0_20
 have HC0_20 := Aside0.mk hc0_20
 clear hr0_20 hc0_20
 have HB := Aside0.mk (Below.refl w.heap.size w)
 have H : ((laws_szEnd.f k a0_0 l0_1 a0_2 l0_3 a0_4 a0_5 l0_6 a0_7 a0_8 l0_9 a0_10 a1).bind fun t154 => (if t154 < 0 then (some (-1)) else ((laws_szEnd.f k a0_11 l0_12 a0_13 l0_14 a0_15 a0_16 l0_17 a0_18 a0_19 l0_20 a0_21 t154).bind fun t155 => (if t155 < 0 then (some (-1)) else (if (wrap64 (t155 - (a0_22.size : Int))) < 0 then (some (-1)) else (if (wrap64 ((wrap64 (t155 - (a0_22.size : Int))) - (a0_23.size : Int))) < 0 then (some (-1)) else (some (wrap64 ((wrap64 (t155 - (a0_22.size : Int))) - (a0_23.size : Int)))))))))) = some r := h
 clear h
 obtain ⟨t154, A3, H⟩ := ob H
 (try dsimp only at H)
 have HC4 := Aside0.mk H
 clear H
 go_enter Try.func38, Try.ntmps38
 go_upto_if 10 with (first | ((with_reducible refine gd 2 rfl ?_); refine bx (N := 2) (cs := #[.bool a0_0, .slice A0_1 l0_1.length c0_1, .int .i64 a0_2, .slice A0_3 l0_3.length c0_3, .int .i64 a0_4, .string a0_5, .slice A0_6 l0_6.length c0_6, .int .i64 a0_7, .int .i64 a0_8, .slice A0_9 l0_9.length c0_9, .bool a0_10, .bool a0_11, .slice A0_12 l0_12.length c0_12, .int .i64 a0_13, .slice A0_14 l0_14.length c0_14, .int .i64 a0_15, .string a0_16, .slice A0_17 l0_17.length c0_17, .int .i64 a0_18, .int .i64 a0_19, .slice A0_20 l0_20.length c0_20, .bool a0_21, .string a0_22, .string a0_23]) (t := 69) ?_; intro gb153 hg w5 hbox hb; have BK153 := Aside0.mk (hbox); have GW153 := gw HB hg; have GE153 := GW153; replace HB := Aside0.mk (below_step (zb HB) hb); clear hb hbox hg; obtain ⟨hcz6_0, hcz6_1, hcz6_2, hcz6_3, hcz6_4, hcz6_5, hcz6_6, hcz6_7, hcz6_8, hcz6_9, hcz6_10, hcz6_11, hcz6_12, hcz6_13, hcz6_14, hcz6_15, hcz6_16, hcz6_17, hcz6_18, hcz6_19, hcz6_20, hcz6_21, hcz6_22, hcz6_23, hfz6_0, hfz6_1, hfz6_2, hfz6_3, hfz6_4, hfz6_5, hfz6_6, hfz6_7, hfz6_8, hfz6_9, hfz6_10, hfz6_11, hfz6_12, hfz6_13, hfz6_14, hfz6_15, hfz6_16, hfz6_17, hfz6_18, hfz6_19, hfz6_20, hfz6_21, hfz6_22, hfz6_23⟩ := c24 BK153) | ((with_reducible refine gq 35 rfl ?_); refine gl (some 8) Try.func35 #[.agg #[.bool a0_0, .slice A0_1 l0_1.length c0_1, .int .i64 a0_2, .slice A0_3 l0_3.length c0_3, .int .i64 a0_4, .string a0_5, .slice A0_6 l0_6.length c0_6, .int .i64 a0_7, .int .i64 a0_8, .slice A0_9 l0_9.length c0_9, .bool a0_10], .int .i64 a1] ?_; (with_reducible refine (laws_szEnd.calls k a0_0 _ _ l0_1 a0_2 _ _ l0_3 a0_4 a0_5 _ _ l0_6 a0_7 a0_8 _ _ l0_9 a0_10 a1 t154 _ ?side1 ?side2 ?side3 ?side4 ?side5 ?side6 ?side7 ?side8 A3.out).mono ?_); (case side1 => exact zc (Kd.C_below HR0_1.out HB.out)); (case side2 => exact HC0_1.out); (case side3 => exact zc (Kd.C_below HR0_3.out HB.out)); (case side4 => exact HC0_3.out); (case side5 => exact zc (Kd.C_below HR0_6.out HB.out)); (case side6 => exact HC0_6.out); (case side7 => exact zc (Kd.C_below HR0_9.out HB.out)); (case side8 => exact HC0_9.out); rintro e w7 ⟨rfl, hb⟩; refine ⟨_, rfl, ?_⟩; replace BK153 := kb BK153 hb; replace HB := Aside0.mk (below_step (zb HB) hb); (try clear hb)))
 (try simp only [Act.put, s1, s2, s3])
 have H := HC4.out
 clear HC4
 replace H := sp H
 rcases H with ⟨c8, H⟩ | ⟨c8, H⟩
 ·skip
  have c8b0 := decide_eq_true c8
  clear c8
  (first | rw [c8b0] | rw [c8b1] | rw [c8b2] | (simp only [i64_w, i32_w]; rw [c8b0]) | skip)
  obtain rfl := Option.some.inj H
  go_wp2
  go_ret
  exact ⟨ze, zb HB⟩
 ·skip
  have c8b0 := decide_eq_false c8
  clear c8
  (first | rw [c8b0] | rw [c8b1] | rw [c8b2] | (simp only [i64_w, i32_w]; rw [c8b0]) | skip)
  obtain ⟨t155, A9, H⟩ := ob H
  (try dsimp only at H)
  replace H := sp H
  rcases H with ⟨c10, H⟩ | ⟨c10, H⟩
  ·skip
   have c10b0 := decide_eq_true c10
   clear c10
   obtain rfl := Option.some.inj H
   obtain ⟨hcz11_0, hcz11_1, hcz11_2, hcz11_3, hcz11_4, hcz11_5, hcz11_6, hcz11_7, hcz11_8, hcz11_9, hcz11_10, hcz11_11, hcz11_12, hcz11_13, hcz11_14, hcz11_15, hcz11_16, hcz11_17, hcz11_18, hcz11_19, hcz11_20, hcz11_21, hcz11_22, hcz11_23, hfz11_0, hfz11_1, hfz11_2, hfz11_3, hfz11_4, hfz11_5, hfz11_6, hfz11_7, hfz11_8, hfz11_9, hfz11_10, hfz11_11, hfz11_12, hfz11_13, hfz11_14, hfz11_15, hfz11_16, hfz11_17, hfz11_18, hfz11_19, hfz11_20, hfz11_21, hfz11_22, hfz11_23⟩ := c24 BK153
   go_wp2_with (first | ((with_reducible refine gq 35 rfl ?_); refine gl (some 14) Try.func35 #[.agg #[.bool a0_11, .slice A0_12 l0_12.length c0_12, .int .i64 a0_13, .slice A0_14 l0_14.length c0_14, .int .i64 a0_15, .string a0_16, .slice A0_17 l0_17.length c0_17, .int .i64 a0_18, .int .i64 a0_19, .slice A0_20 l0_20.length c0_20, .bool a0_21], .int .i64 t154] ?_; (with_reducible refine (laws_szEnd.calls k a0_11 _ _ l0_12 a0_13 _ _ l0_14 a0_15 a0_16 _ _ l0_17 a0_18 a0_19 _ _ l0_20 a0_21 t154 t155 _ ?side1 ?side2 ?side3 ?side4 ?side5 ?side6 ?side7 ?side8 A9.out).mono ?_); (case side1 => exact zc (Kd.C_below HR0_12.out HB.out)); (case side2 => exact HC0_12.out); (case side3 => exact zc (Kd.C_below HR0_14.out HB.out)); (case side4 => exact HC0_14.out); (case side5 => exact zc (Kd.C_below HR0_17.out HB.out)); (case side6 => exact HC0_17.out); (case side7 => exact zc (Kd.C_below HR0_20.out HB.out)); (case side8 => exact HC0_20.out); rintro e w12 ⟨rfl, hb⟩; refine ⟨_, rfl, ?_⟩; replace BK153 := kb BK153 hb; replace HB := Aside0.mk (below_step (zb HB) hb); (try clear hb)))
   go_ret
   exact ⟨ze, zb HB⟩
  ·skip
   have c10b0 := decide_eq_false c10
   clear c10
   replace H := sp H
   rcases H with ⟨c13, H⟩ | ⟨c13, H⟩
   ·skip
    have c13b0 := decide_eq_true c13
    clear c13
    obtain rfl := Option.some.inj H
    obtain ⟨hcz14_0, hcz14_1, hcz14_2, hcz14_3, hcz14_4, hcz14_5, hcz14_6, hcz14_7, hcz14_8, hcz14_9, hcz14_10, hcz14_11, hcz14_12, hcz14_13, hcz14_14, hcz14_15, hcz14_16, hcz14_17, hcz14_18, hcz14_19, hcz14_20, hcz14_21, hcz14_22, hcz14_23, hfz14_0, hfz14_1, hfz14_2, hfz14_3, hfz14_4, hfz14_5, hfz14_6, hfz14_7, hfz14_8, hfz14_9, hfz14_10, hfz14_11, hfz14_12, hfz14_13, hfz14_14, hfz14_15, hfz14_16, hfz14_17, hfz14_18, hfz14_19, hfz14_20, hfz14_21, hfz14_22, hfz14_23⟩ := c24 BK153
    go_wp2_with (first | ((with_reducible refine gq 35 rfl ?_); refine gl (some 14) Try.func35 #[.agg #[.bool a0_11, .slice A0_12 l0_12.length c0_12, .int .i64 a0_13, .slice A0_14 l0_14.length c0_14, .int .i64 a0_15, .string a0_16, .slice A0_17 l0_17.length c0_17, .int .i64 a0_18, .int .i64 a0_19, .slice A0_20 l0_20.length c0_20, .bool a0_21], .int .i64 t154] ?_; (with_reducible refine (laws_szEnd.calls k a0_11 _ _ l0_12 a0_13 _ _ l0_14 a0_15 a0_16 _ _ l0_17 a0_18 a0_19 _ _ l0_20 a0_21 t154 t155 _ ?side1 ?side2 ?side3 ?side4 ?side5 ?side6 ?side7 ?side8 A9.out).mono ?_); (case side1 => exact zc (Kd.C_below HR0_12.out HB.out)); (case side2 => exact HC0_12.out); (case side3 => exact zc (Kd.C_below HR0_14.out HB.out)); (case side4 => exact HC0_14.out); (case side5 => exact zc (Kd.C_below HR0_17.out HB.out)); (case side6 => exact HC0_17.out); (case side7 => exact zc (Kd.C_below HR0_20.out HB.out)); (case side8 => exact HC0_20.out); rintro e w15 ⟨rfl, hb⟩; refine ⟨_, rfl, ?_⟩; replace BK153 := kb BK153 hb; replace HB := Aside0.mk (below_step (zb HB) hb); (try clear hb); obtain ⟨hcz16_0, hcz16_1, hcz16_2, hcz16_3, hcz16_4, hcz16_5, hcz16_6, hcz16_7, hcz16_8, hcz16_9, hcz16_10, hcz16_11, hcz16_12, hcz16_13, hcz16_14, hcz16_15, hcz16_16, hcz16_17, hcz16_18, hcz16_19, hcz16_20, hcz16_21, hcz16_22, hcz16_23, hfz16_0, hfz16_1, hfz16_2, hfz16_3, hfz16_4, hfz16_5, hfz16_6, hfz16_7, hfz16_8, hfz16_9, hfz16_10, hfz16_11, hfz16_12, hfz16_13, hfz16_14, hfz16_15, hfz16_16, hfz16_17, hfz16_18, hfz16_19, hfz16_20, hfz16_21, hfz16_22, hfz16_23⟩ := c24 BK153))
    go_ret
    exact ⟨ze, zb HB⟩
   ·skip
    have c13b0 := decide_eq_false c13
    clear c13
    replace H := sp H
    rcases H with ⟨c17, H⟩ | ⟨c17, H⟩
    ·skip
     have c17b0 := decide_eq_true c17
     clear c17
     obtain rfl := Option.some.inj H
     obtain ⟨hcz18_0, hcz18_1, hcz18_2, hcz18_3, hcz18_4, hcz18_5, hcz18_6, hcz18_7, hcz18_8, hcz18_9, hcz18_10, hcz18_11, hcz18_12, hcz18_13, hcz18_14, hcz18_15, hcz18_16, hcz18_17, hcz18_18, hcz18_19, hcz18_20, hcz18_21, hcz18_22, hcz18_23, hfz18_0, hfz18_1, hfz18_2, hfz18_3, hfz18_4, hfz18_5, hfz18_6, hfz18_7, hfz18_8, hfz18_9, hfz18_10, hfz18_11, hfz18_12, hfz18_13, hfz18_14, hfz18_15, hfz18_16, hfz18_17, hfz18_18, hfz18_19, hfz18_20, hfz18_21, hfz18_22, hfz18_23⟩ := c24 BK153
     go_wp2_with (first | ((with_reducible refine gq 35 rfl ?_); refine gl (some 14) Try.func35 #[.agg #[.bool a0_11, .slice A0_12 l0_12.length c0_12, .int .i64 a0_13, .slice A0_14 l0_14.length c0_14, .int .i64 a0_15, .string a0_16, .slice A0_17 l0_17.length c0_17, .int .i64 a0_18, .int .i64 a0_19, .slice A0_20 l0_20.length c0_20, .bool a0_21], .int .i64 t154] ?_; (with_reducible refine (laws_szEnd.calls k a0_11 _ _ l0_12 a0_13 _ _ l0_14 a0_15 a0_16 _ _ l0_17 a0_18 a0_19 _ _ l0_20 a0_21 t154 t155 _ ?side1 ?side2 ?side3 ?side4 ?side5 ?side6 ?side7 ?side8 A9.out).mono ?_); (case side1 => exact zc (Kd.C_below HR0_12.out HB.out)); (case side2 => exact HC0_12.out); (case side3 => exact zc (Kd.C_below HR0_14.out HB.out)); (case side4 => exact HC0_14.out); (case side5 => exact zc (Kd.C_below HR0_17.out HB.out)); (case side6 => exact HC0_17.out); (case side7 => exact zc (Kd.C_below HR0_20.out HB.out)); (case side8 => exact HC0_20.out); rintro e w19 ⟨rfl, hb⟩; refine ⟨_, rfl, ?_⟩; replace BK153 := kb BK153 hb; replace HB := Aside0.mk (below_step (zb HB) hb); (try clear hb); obtain ⟨hcz20_0, hcz20_1, hcz20_2, hcz20_3, hcz20_4, hcz20_5, hcz20_6, hcz20_7, hcz20_8, hcz20_9, hcz20_10, hcz20_11, hcz20_12, hcz20_13, hcz20_14, hcz20_15, hcz20_16, hcz20_17, hcz20_18, hcz20_19, hcz20_20, hcz20_21, hcz20_22, hcz20_23, hfz20_0, hfz20_1, hfz20_2, hfz20_3, hfz20_4, hfz20_5, hfz20_6, hfz20_7, hfz20_8, hfz20_9, hfz20_10, hfz20_11, hfz20_12, hfz20_13, hfz20_14, hfz20_15, hfz20_16, hfz20_17, hfz20_18, hfz20_19, hfz20_20, hfz20_21, hfz20_22, hfz20_23⟩ := c24 BK153))
     go_ret
     exact ⟨ze, zb HB⟩
    ·skip
     have c17b0 := decide_eq_false c17
     clear c17
     obtain rfl := Option.some.inj H
     obtain ⟨hcz21_0, hcz21_1, hcz21_2, hcz21_3, hcz21_4, hcz21_5, hcz21_6, hcz21_7, hcz21_8, hcz21_9, hcz21_10, hcz21_11, hcz21_12, hcz21_13, hcz21_14, hcz21_15, hcz21_16, hcz21_17, hcz21_18, hcz21_19, hcz21_20, hcz21_21, hcz21_22, hcz21_23, hfz21_0, hfz21_1, hfz21_2, hfz21_3, hfz21_4, hfz21_5, hfz21_6, hfz21_7, hfz21_8, hfz21_9, hfz21_10, hfz21_11, hfz21_12, hfz21_13, hfz21_14, hfz21_15, hfz21_16, hfz21_17, hfz21_18, hfz21_19, hfz21_20, hfz21_21, hfz21_22, hfz21_23⟩ := c24 BK153
     go_wp2_with (first | ((with_reducible refine gq 35 rfl ?_); refine gl (some 14) Try.func35 #[.agg #[.bool a0_11, .slice A0_12 l0_12.length c0_12, .int .i64 a0_13, .slice A0_14 l0_14.length c0_14, .int .i64 a0_15, .string a0_16, .slice A0_17 l0_17.length c0_17, .int .i64 a0_18, .int .i64 a0_19, .slice A0_20 l0_20.length c0_20, .bool a0_21], .int .i64 t154] ?_; (with_reducible refine (laws_szEnd.calls k a0_11 _ _ l0_12 a0_13 _ _ l0_14 a0_15 a0_16 _ _ l0_17 a0_18 a0_19 _ _ l0_20 a0_21 t154 t155 _ ?side1 ?side2 ?side3 ?side4 ?side5 ?side6 ?side7 ?side8 A9.out).mono ?_); (case side1 => exact zc (Kd.C_below HR0_12.out HB.out)); (case side2 => exact HC0_12.out); (case side3 => exact zc (Kd.C_below HR0_14.out HB.out)); (case side4 => exact HC0_14.out); (case side5 => exact zc (Kd.C_below HR0_17.out HB.out)); (case side6 => exact HC0_17.out); (case side7 => exact zc (Kd.C_below HR0_20.out HB.out)); (case side8 => exact HC0_20.out); rintro e w22 ⟨rfl, hb⟩; refine ⟨_, rfl, ?_⟩; replace BK153 := kb BK153 hb; replace HB := Aside0.mk (below_step (zb HB) hb); (try clear hb); obtain ⟨hcz23_0, hcz23_1, hcz23_2, hcz23_3, hcz23_4, hcz23_5, hcz23_6, hcz23_7, hcz23_8, hcz23_9, hcz23_10, hcz23_11, hcz23_12, hcz23_13, hcz23_14, hcz23_15, hcz23_16, hcz23_17, hcz23_18, hcz23_19, hcz23_20, hcz23_21, hcz23_22, hcz23_23, hfz23_0, hfz23_1, hfz23_2, hfz23_3, hfz23_4, hfz23_5, hfz23_6, hfz23_7, hfz23_8, hfz23_9, hfz23_10, hfz23_11, hfz23_12, hfz23_13, hfz23_14, hfz23_15, hfz23_16, hfz23_17, hfz23_18, hfz23_19, hfz23_20, hfz23_21, hfz23_22, hfz23_23⟩ := c24 BK153))
     go_ret
     exact ⟨ze, zb HB⟩

/-! ### spec_l2Sign: function 150 -/
-- thin
def spec_l2Sign.l0 : Nat → Int → Int → Option (Int)
 | 0, _, _ => none
 | k + 1, x0, x3 => if x3 < 39 then (if 0 ≤ x3 then (if (bt (⟨#[101, 116, 97, 111, 105, 110, 115, 114, 104, 108, 48, 49, 50, 51, 52, 53, 54, 55, 56, 57, 100, 99, 117, 109, 102, 112, 103, 119, 121, 98, 118, 107, 120, 106, 113, 122, 58, 47, 45]⟩ : ByteArray) x3) = x0 then (some x3) else (spec_l2Sign.l0 k x0 (wrap64 (x3 + 1)))) else (none)) else (some (-1))
def spec_l2Sign.f (k : Nat) (a0 : Int) : Option (Int) := spec_l2Sign.l0 k a0 0
theorem spec_l2Sign.mono_l : ∀ k, (∀ y0 y1, LeO (spec_l2Sign.l0 k y0 y1) (spec_l2Sign.l0 (k + 1) y0 y1))
 | 0 => fun _ _ r h => by simp [spec_l2Sign.l0] at h
 | k + 1 => by
  have ih0 := spec_l2Sign.mono_l k
  ·intro y0 y1
   unfold spec_l2Sign.l0
   exact zm
theorem spec_l2Sign.mono : ∀ a0 k, LeO (spec_l2Sign.f k a0) (spec_l2Sign.f (k + 1) a0) := by
 intro a0 k
 have ih0 := spec_l2Sign.mono_l k
 unfold spec_l2Sign.f
 exact zm
set_option maxHeartbeats 8000000 in
set_option maxRecDepth 100000 in
theorem spec_l2Sign.calls (k : Nat) (a0 : Int) (r : Int) (w : World) (h : spec_l2Sign.f k a0 = some r) :
  Calls Try.prog 150 #[.int .u8 a0] w fun e w' => e = .returned (.int .i64 r) ∧ Drawn0 w w' := by
 have H : (spec_l2Sign.l0 k a0 0) = some r := h
 clear h
 have H' := Aside0.mk H
 clear H
 go_enter Try.func150, Try.ntmps150
 go_wp2
 go_loopg [3] k (fun kq v3 w' => ∃ (x3_1 : Int), v3 = .int .i64 x3_1 ∧ Aside0 (spec_l2Sign.l0 kq a0 x3_1 = some r) ∧ Aside0 (kq ≤ k) ∧ Drawn0 w w')
 case atStart => exact ⟨(0), zs, H', ⟨Nat.le_refl _⟩, by repeat (first | exact Drawn0.refl _ | apply Drawn0.step)⟩
 case round =>
  clear H'
  try clear c1
  obtain ⟨x3_1, rfl, HA, HK1, ⟨m1, rfl⟩⟩ := hrel
  cases gk with
  | zero => exact absurd HA.out (by simp [spec_l2Sign.l0])
  | succ k1 =>
   have H := HA.out
   clear HA
   simp only [spec_l2Sign.l0] at H
   replace H := sp H
   rcases H with ⟨c2, H⟩ | ⟨c2, H⟩
   ·skip
    have c2b0 := decide_eq_true c2
    clear c2
    by_cases c3 : 0 ≤ x3_1
    ·rw [if_pos c3] at H
     have c3b0 := decide_eq_true c3
     clear c3
     by_cases c5 : (bt (⟨#[101, 116, 97, 111, 105, 110, 115, 114, 104, 108, 48, 49, 50, 51, 52, 53, 54, 55, 56, 57, 100, 99, 117, 109, 102, 112, 103, 119, 121, 98, 118, 107, 120, 106, 113, 122, 58, 47, 45]⟩ : ByteArray) x3_1) = a0
     ·rw [if_pos c5] at H
      have c5b0 : ((bt (⟨#[101, 116, 97, 111, 105, 110, 115, 114, 104, 108, 48, 49, 50, 51, 52, 53, 54, 55, 56, 57, 100, 99, 117, 109, 102, 112, 103, 119, 121, 98, 118, 107, 120, 106, 113, 122, 58, 47, 45]⟩ : ByteArray) x3_1) == a0) = true := beq_iff_eq.mpr c5
      have c5b1 : ((bt (⟨#[101, 116, 97, 111, 105, 110, 115, 114, 104, 108, 48, 49, 50, 51, 52, 53, 54, 55, 56, 57, 100, 99, 117, 109, 102, 112, 103, 119, 121, 98, 118, 107, 120, 106, 113, 122, 58, 47, 45]⟩ : ByteArray) x3_1) != a0) = false := bne_eq_false_iff_eq.mpr c5
      clear c5
      obtain rfl := Option.some.inj H
      have p4 : 0 ≤ (x3_1 : Int) := of_decide_eq_true za
      have q4 : x3_1 < (39 : Int) := of_decide_eq_true za
      have hx4 := bt_at (⟨#[101, 116, 97, 111, 105, 110, 115, 114, 104, 108, 48, 49, 50, 51, 52, 53, 54, 55, 56, 57, 100, 99, 117, 109, 102, 112, 103, 119, 121, 98, 118, 107, 120, 106, 113, 122, 58, 47, 45]⟩ : ByteArray) x3_1
      replace p4 := eq_true p4
      replace q4 := eq_true q4
      go_wp2
      go_ret
      exact ⟨zs, by repeat (first | exact Drawn0.refl _ | apply Drawn0.step)⟩
     ·rw [if_neg c5] at H
      have c5b0 : ((bt (⟨#[101, 116, 97, 111, 105, 110, 115, 114, 104, 108, 48, 49, 50, 51, 52, 53, 54, 55, 56, 57, 100, 99, 117, 109, 102, 112, 103, 119, 121, 98, 118, 107, 120, 106, 113, 122, 58, 47, 45]⟩ : ByteArray) x3_1) == a0) = false := beq_eq_false_iff_ne.mpr c5
      have c5b1 : ((bt (⟨#[101, 116, 97, 111, 105, 110, 115, 114, 104, 108, 48, 49, 50, 51, 52, 53, 54, 55, 56, 57, 100, 99, 117, 109, 102, 112, 103, 119, 121, 98, 118, 107, 120, 106, 113, 122, 58, 47, 45]⟩ : ByteArray) x3_1) != a0) = true := bne_iff_ne.mpr c5
      have H' := Aside0.mk H
      clear H
      have p4 : 0 ≤ (x3_1 : Int) := of_decide_eq_true za
      have q4 : x3_1 < (39 : Int) := of_decide_eq_true za
      have hx4 := bt_at (⟨#[101, 116, 97, 111, 105, 110, 115, 114, 104, 108, 48, 49, 50, 51, 52, 53, 54, 55, 56, 57, 100, 99, 117, 109, 102, 112, 103, 119, 121, 98, 118, 107, 120, 106, 113, 122, 58, 47, 45]⟩ : ByteArray) x3_1
      replace p4 := eq_true p4
      replace q4 := eq_true q4
      go_wp2
      go_roundg k1
      case measure => have := HK1.out; omega
      case rel => exact ⟨(wrap64 (x3_1 + 1)), zs, H', ⟨by have := HK1.out; omega⟩, by repeat (first | exact Drawn0.refl _ | apply Drawn0.step)⟩
    ·rw [if_neg c3] at H
     exact absurd H (by simp)
   ·skip
    have c2b0 := decide_eq_false c2
    clear c2
    obtain rfl := Option.some.inj H
    go_wp2
    go_ret
    exact ⟨zs, by repeat (first | exact Drawn0.refl _ | apply Drawn0.step)⟩

/-! ### spec_WordOk: function 113 -/
-- thin
def spec_WordOk.l0 : Nat → ByteArray → Int → Option (Bool)
 | 0, _, _ => none
 | k + 1, x0, x3 => if x3 < (x0.size : Int) then (if 0 ≤ x3 then ((spec_l2Sign.f k (bt x0 x3)).bind fun t156 => (if t156 < 0 then (some false) else (spec_WordOk.l0 k x0 (wrap64 (x3 + 1))))) else (none)) else (some (decide ((x0.size : Int) ≤ 16)))
def spec_WordOk.f (k : Nat) (a0 : ByteArray) : Option (Bool) := spec_WordOk.l0 k a0 0
theorem spec_WordOk.mono_l : ∀ k, (∀ y0 y1, LeO (spec_WordOk.l0 k y0 y1) (spec_WordOk.l0 (k + 1) y0 y1))
 | 0 => fun _ _ r h => by simp [spec_WordOk.l0] at h
 | k + 1 => by
  have ih0 := spec_WordOk.mono_l k
  ·intro y0 y1
   unfold spec_WordOk.l0
   have m0 := @spec_l2Sign.mono
   exact zm
theorem spec_WordOk.mono : ∀ a0 k, LeO (spec_WordOk.f k a0) (spec_WordOk.f (k + 1) a0) := by
 intro a0 k
 have ih0 := spec_WordOk.mono_l k
 unfold spec_WordOk.f
 have m0 := @spec_l2Sign.mono
 exact zm
set_option maxHeartbeats 8000000 in
set_option maxRecDepth 100000 in
theorem spec_WordOk.calls (k : Nat) (a0 : ByteArray) (r : Bool) (w : World) (h : spec_WordOk.f k a0 = some r) :
  Calls Try.prog 113 #[.string a0] w fun e w' => e = .returned (.bool r) ∧ Drawn0 w w' := by
 have H : (spec_WordOk.l0 k a0 0) = some r := h
 clear h
 have H' := Aside0.mk H
 clear H
 go_enter Try.func113, Try.ntmps113
 go_wp2
 go_loopg [3] k (fun kq v3 w' => ∃ (x3_1 : Int), v3 = .int .i64 x3_1 ∧ Aside0 (spec_WordOk.l0 kq a0 x3_1 = some r) ∧ Aside0 (kq ≤ k) ∧ Drawn0 w w')
 case atStart => exact ⟨(0), zs, H', ⟨Nat.le_refl _⟩, by repeat (first | exact Drawn0.refl _ | apply Drawn0.step)⟩
 case round =>
  clear H'
  try clear c1
  obtain ⟨x3_1, rfl, HA, HK1, ⟨m1, rfl⟩⟩ := hrel
  cases gk with
  | zero => exact absurd HA.out (by simp [spec_WordOk.l0])
  | succ k1 =>
   have H := HA.out
   clear HA
   simp only [spec_WordOk.l0] at H
   replace H := sp H
   rcases H with ⟨c2, H⟩ | ⟨c2, H⟩
   ·skip
    have c2b0 := decide_eq_true c2
    clear c2
    by_cases c3 : 0 ≤ x3_1
    ·rw [if_pos c3] at H
     have c3b0 := decide_eq_true c3
     clear c3
     obtain ⟨t156, A5, H⟩ := ob H
     (try dsimp only at H)
     by_cases c6 : t156 < 0
     ·rw [if_pos c6] at H
      have c6b0 := decide_eq_true c6
      clear c6
      obtain rfl := Option.some.inj H
      have p4 : 0 ≤ (x3_1 : Int) := of_decide_eq_true za
      have q4 : x3_1 < (a0.size : Int) := of_decide_eq_true za
      have hx4 := bt_at a0 x3_1
      replace p4 := eq_true p4
      replace q4 := eq_true q4
      go_wp2_with (first | ((with_reducible refine gq 150 rfl ?_); refine gl (some 13) Try.func150 #[.int .u8 (bt a0 x3_1)] ?_; (with_reducible refine (spec_l2Sign.calls k1 (bt a0 x3_1) t156 _ A5.out).mono ?_); rintro e w' ⟨rfl, ⟨nd, rfl⟩⟩; refine ⟨_, rfl, ?_⟩))
      go_ret
      exact ⟨zs, by repeat (first | exact Drawn0.refl _ | apply Drawn0.step)⟩
     ·rw [if_neg c6] at H
      have c6b0 := decide_eq_false c6
      clear c6
      have H' := Aside0.mk H
      clear H
      have p4 : 0 ≤ (x3_1 : Int) := of_decide_eq_true za
      have q4 : x3_1 < (a0.size : Int) := of_decide_eq_true za
      have hx4 := bt_at a0 x3_1
      replace p4 := eq_true p4
      replace q4 := eq_true q4
      go_wp2_with (first | ((with_reducible refine gq 150 rfl ?_); refine gl (some 13) Try.func150 #[.int .u8 (bt a0 x3_1)] ?_; (with_reducible refine (spec_l2Sign.calls k1 (bt a0 x3_1) t156 _ A5.out).mono ?_); rintro e w' ⟨rfl, ⟨nd, rfl⟩⟩; refine ⟨_, rfl, ?_⟩))
      go_roundg k1
      case measure => have := HK1.out; omega
      case rel => exact ⟨(wrap64 (x3_1 + 1)), zs, H', ⟨by have := HK1.out; omega⟩, by repeat (first | exact Drawn0.refl _ | apply Drawn0.step)⟩
    ·rw [if_neg c3] at H
     exact absurd H (by simp)
   ·skip
    have c2b0 := decide_eq_false c2
    clear c2
    obtain rfl := Option.some.inj H
    go_wp2
    go_ret
    exact ⟨zs, by repeat (first | exact Drawn0.refl _ | apply Drawn0.step)⟩

/-! ### spec_FieldOk: function 55 -/
-- thin
def spec_FieldOk.f (k : Nat) (a0_0 : ByteArray) (a0_1 : ByteArray) (a0_2 : Bool) : Option (Bool) := (spec_WordOk.f k a0_0).bind fun t158 => (if t158 = true then (if a0_0.toList = ([] : List UInt8) then (some false) else ((spec_WordOk.f k a0_1).bind fun t159 => (some t159))) else (some false))
theorem spec_FieldOk.mono : ∀ a0 a1 a2 k, LeO (spec_FieldOk.f k a0 a1 a2) (spec_FieldOk.f (k + 1) a0 a1 a2) := by
 intro a0 a1 a2 k
 unfold spec_FieldOk.f
 have m0 := @spec_WordOk.mono
 exact zm
set_option maxHeartbeats 8000000 in
set_option maxRecDepth 100000 in
theorem spec_FieldOk.calls (k : Nat) (a0_0 : ByteArray) (a0_1 : ByteArray) (a0_2 : Bool) (r : Bool) (w : World) (h : spec_FieldOk.f k a0_0 a0_1 a0_2 = some r) :
  Calls Try.prog 55 #[.agg #[.string a0_0, .string a0_1, .bool a0_2]] w fun e w' => e = .returned (.bool r) ∧ Below w.heap.size w w' := by
 have hu88 := Try.underlying88
 have HB := Aside0.mk (Below.refl w.heap.size w)
 have H : ((spec_WordOk.f k a0_0).bind fun t158 => (if t158 = true then (if a0_0.toList = ([] : List UInt8) then (some false) else ((spec_WordOk.f k a0_1).bind fun t159 => (some t159))) else (some false))) = some r := h
 clear h
 obtain ⟨t158, A2, H⟩ := ob H
 (try dsimp only at H)
 by_cases c3 : t158 = true
 ·subst c3
  rw [if_pos rfl] at H
  replace H := sp H
  rcases H with ⟨c4, H⟩ | ⟨c4, H⟩
  ·skip
   have c4b0 : (a0_0.toList == ([] : List UInt8)) = true := beq_iff_eq.mpr c4
   have c4b1 : (a0_0.toList != ([] : List UInt8)) = false := bne_eq_false_iff_eq.mpr c4
   clear c4
   obtain rfl := Option.some.inj H
   go_enter Try.func55, Try.ntmps55
   go_wp2_with (first | ((with_reducible refine gd 1 rfl ?_); refine bx (N := 1) (cs := #[.string a0_0, .string a0_1, .bool a0_2]) (t := 88) ?_; intro gb157 hg w5 hbox hb; have BK157 := Aside0.mk (hbox); have GW157 := gw HB hg; have GE157 := GW157; replace HB := Aside0.mk (below_step (zb HB) hb); clear hb hbox hg; obtain ⟨hcz6_0, hcz6_1, hcz6_2, hfz6_0, hfz6_1, hfz6_2⟩ := c3 BK157) | ((with_reducible refine gq 113 rfl ?_); refine gl (some 5) Try.func113 #[.string a0_0] ?_; (with_reducible refine (spec_WordOk.calls k a0_0 true _ A2.out).mono ?_); rintro e w' ⟨rfl, ⟨nd, rfl⟩⟩; refine ⟨_, rfl, ?_⟩))
   go_ret
   exact ⟨ze, zb HB⟩
  ·skip
   have c4b0 : (a0_0.toList == ([] : List UInt8)) = false := beq_eq_false_iff_ne.mpr c4
   have c4b1 : (a0_0.toList != ([] : List UInt8)) = true := bne_iff_ne.mpr c4
   obtain ⟨t159, A7, H⟩ := ob H
   (try dsimp only at H)
   obtain rfl := Option.some.inj H
   go_enter Try.func55, Try.ntmps55
   go_wp2_with (first | ((with_reducible refine gd 1 rfl ?_); refine bx (N := 1) (cs := #[.string a0_0, .string a0_1, .bool a0_2]) (t := 88) ?_; intro gb157 hg w8 hbox hb; have BK157 := Aside0.mk (hbox); have GW157 := gw HB hg; have GE157 := GW157; replace HB := Aside0.mk (below_step (zb HB) hb); clear hb hbox hg; obtain ⟨hcz9_0, hcz9_1, hcz9_2, hfz9_0, hfz9_1, hfz9_2⟩ := c3 BK157) | ((with_reducible refine gq 113 rfl ?_); refine gl (some 5) Try.func113 #[.string a0_0] ?_; (with_reducible refine (spec_WordOk.calls k a0_0 true _ A2.out).mono ?_); rintro e w' ⟨rfl, ⟨nd, rfl⟩⟩; refine ⟨_, rfl, ?_⟩) | (go_at_call 113; (with_reducible refine (spec_WordOk.calls k a0_1 t159 _ A7.out).mono ?_); rintro e w' ⟨rfl, ⟨nd, rfl⟩⟩))
   go_ret
   exact ⟨ze, zb HB⟩
 ·replace c3 := Bool.eq_false_iff.mpr c3
  subst c3
  rw [if_neg (show ¬ (false = true) by decide)] at H
  obtain rfl := Option.some.inj H
  go_enter Try.func55, Try.ntmps55
  go_wp2_with (first | ((with_reducible refine gd 1 rfl ?_); refine bx (N := 1) (cs := #[.string a0_0, .string a0_1, .bool a0_2]) (t := 88) ?_; intro gb157 hg w10 hbox hb; have BK157 := Aside0.mk (hbox); have GW157 := gw HB hg; have GE157 := GW157; replace HB := Aside0.mk (below_step (zb HB) hb); clear hb hbox hg; obtain ⟨hcz11_0, hcz11_1, hcz11_2, hfz11_0, hfz11_1, hfz11_2⟩ := c3 BK157) | ((with_reducible refine gq 113 rfl ?_); refine gl (some 5) Try.func113 #[.string a0_0] ?_; (with_reducible refine (spec_WordOk.calls k a0_0 false _ A2.out).mono ?_); rintro e w' ⟨rfl, ⟨nd, rfl⟩⟩; refine ⟨_, rfl, ?_⟩))
  go_ret
  exact ⟨ze, zb HB⟩

/-! ### spec_l6In: function 56 -/
-- thin
def spec_l6In.f (a0 : Int) (a1 : Int) (a2 : Int) : Option (Bool) := if a0 ≥ a1 then (some (decide (a0 ≤ a2))) else (some false)
set_option maxHeartbeats 8000000 in
set_option maxRecDepth 100000 in
theorem spec_l6In.calls (a0 : Int) (a1 : Int) (a2 : Int) (r : Bool) (w : World) (h : spec_l6In.f a0 a1 a2 = some r) :
  Calls Try.prog 56 #[.int .i64 a0, .int .i64 a1, .int .i64 a2] w fun e w' => e = .returned (.bool r) ∧ Drawn0 w w' := by
 have H : (if a0 ≥ a1 then (some (decide (a0 ≤ a2))) else (some false)) = some r := h
 clear h
 replace H := sp H
 rcases H with ⟨c4, H⟩ | ⟨c4, H⟩
 ·skip
  have c4b0 := decide_eq_true c4
  clear c4
  obtain rfl := Option.some.inj H
  go_enter Try.func56, Try.ntmps56
  go_wp2
  go_ret
  exact ⟨zs, by repeat (first | exact Drawn0.refl _ | apply Drawn0.step)⟩
 ·skip
  have c4b0 := decide_eq_false c4
  clear c4
  obtain rfl := Option.some.inj H
  go_enter Try.func56, Try.ntmps56
  go_wp2
  go_ret
  exact ⟨zs, by repeat (first | exact Drawn0.refl _ | apply Drawn0.step)⟩

/-! ### spec_l3One: function 114 -/
-- thin
def spec_l3One.f (a0_0 : ByteArray) (a0_1 : ByteArray) (a0_2 : Bool) : Option (Int) := some (wrap64 ((wrap64 ((a0_0.size : Int) + (a0_1.size : Int))) + 4))
set_option maxHeartbeats 8000000 in
set_option maxRecDepth 100000 in
theorem spec_l3One.calls (a0_0 : ByteArray) (a0_1 : ByteArray) (a0_2 : Bool) (r : Int) (w : World) (h : spec_l3One.f a0_0 a0_1 a0_2 = some r) :
  Calls Try.prog 114 #[.agg #[.string a0_0, .string a0_1, .bool a0_2]] w fun e w' => e = .returned (.int .i64 r) ∧ Below w.heap.size w w' := by
 have hu88 := Try.underlying88
 have HB := Aside0.mk (Below.refl w.heap.size w)
 have H : (some (wrap64 ((wrap64 ((a0_0.size : Int) + (a0_1.size : Int))) + 4))) = some r := h
 clear h
 obtain rfl := Option.some.inj H
 go_enter Try.func114, Try.ntmps114
 go_wp2_with (first | ((with_reducible refine gd 1 rfl ?_); refine bx (N := 1) (cs := #[.string a0_0, .string a0_1, .bool a0_2]) (t := 88) ?_; intro gb160 hg w2 hbox hb; have BK160 := Aside0.mk (hbox); have GW160 := gw HB hg; have GE160 := GW160; replace HB := Aside0.mk (below_step (zb HB) hb); clear hb hbox hg; obtain ⟨hcz3_0, hcz3_1, hcz3_2, hfz3_0, hfz3_1, hfz3_2⟩ := c3 BK160))
 go_ret
 exact ⟨ze, zb HB⟩

/-! ### spec_l3Size: function 57 -/
-- thin
def spec_l3Size.l0 : Nat → List (S88) → Int → Int → Option (Int)
 | 0, _, _, _ => none
 | k + 1, x0, x3, x4 => if x4 < (x0.length : Int) then (if 0 ≤ x4 then ((spec_l3One.f ((rd_T88 x0 x4).f0) ((rd_T88 x0 x4).f1) ((rd_T88 x0 x4).f2)).bind fun t162 => (spec_l3Size.l0 k x0 (wrap64 (x3 + t162)) (wrap64 (x4 + 1)))) else (none)) else (some x3)
def spec_l3Size.f (k : Nat) (l0 : List (S88)) : Option (Int) := spec_l3Size.l0 k l0 0 0
theorem spec_l3Size.mono_l : ∀ k, (∀ y0 y1 y2, LeO (spec_l3Size.l0 k y0 y1 y2) (spec_l3Size.l0 (k + 1) y0 y1 y2))
 | 0 => fun _ _ _ r h => by simp [spec_l3Size.l0] at h
 | k + 1 => by
  have ih0 := spec_l3Size.mono_l k
  ·intro y0 y1 y2
   unfold spec_l3Size.l0
   exact zm
theorem spec_l3Size.mono : ∀ a0 k, LeO (spec_l3Size.f k a0) (spec_l3Size.f (k + 1) a0) := by
 intro a0 k
 have ih0 := spec_l3Size.mono_l k
 unfold spec_l3Size.f
 exact zm
set_option maxHeartbeats 8000000 in
set_option maxRecDepth 100000 in
theorem spec_l3Size.calls (k : Nat) (A0 : Option Addr) (c0 : Nat) (l0 : List (S88)) (r : Int) (w : World) (hr0 : Kd.C k88 w A0 l0.length l0) (hc0 : l0.length ≤ c0) (h : spec_l3Size.f k l0 = some r) :
  Calls Try.prog 57 #[.slice A0 l0.length c0] w fun e w' => e = .returned (.int .i64 r) ∧ Below w.heap.size w w' := by
 have hu88 := Try.underlying88
 have HR0 := Aside0.mk hr0
 have HC0 := Aside0.mk hc0
 clear hr0 hc0
 have HB := Aside0.mk (Below.refl w.heap.size w)
 have H : (spec_l3Size.l0 k l0 0 0) = some r := h
 clear h
 have H' := Aside0.mk H
 clear H
 go_enter Try.func57, Try.ntmps57
 go_wp2
 go_loopg [3, 4] k (fun kq v3 v4 w' => ∃ (x3_1 : Int) (x4_1 : Int), v3 = .int .i64 x3_1 ∧ v4 = .int .i64 x4_1 ∧ Aside0 (spec_l3Size.l0 kq l0 x3_1 x4_1 = some r) ∧ Aside0 (kq ≤ k) ∧ Aside0 (Below w.heap.size w w'))
 case atStart => exact ⟨(0), (0), zs, zs, H', ⟨Nat.le_refl _⟩, ⟨zb HB⟩⟩
 case round =>
  clear H'
  obtain ⟨x3_1, x4_1, rfl, rfl, HA, HK1, HB⟩ := hrel
  cases gk with
  | zero => exact absurd HA.out (by simp [spec_l3Size.l0])
  | succ k1 =>
   have H := HA.out
   clear HA
   simp only [spec_l3Size.l0] at H
   replace H := sp H
   rcases H with ⟨c2, H⟩ | ⟨c2, H⟩
   ·skip
    have c2b0 := decide_eq_true c2
    clear c2
    by_cases c3 : 0 ≤ x4_1
    ·rw [if_pos c3] at H
     have c3b0 := decide_eq_true c3
     clear c3
     obtain ⟨t162, A4, H⟩ := ob H
     (try dsimp only at H)
     have H' := Aside0.mk H
     clear H
     have p161 : 0 ≤ (x4_1 : Int) := of_decide_eq_true za
     have q161 : x4_1 < (l0.length : Int) := of_decide_eq_true za
     obtain ⟨ad161, e161, hx161_0, hx161_1, hx161_2⟩ := at_T88 HR0.out x4_1 p161 q161
     cases e161
     replace hx161_0 := cb0 hx161_0 HB
     replace hx161_1 := cb0 hx161_1 HB
     replace hx161_2 := cb0 hx161_2 HB
     replace p161 := eq_true p161
     replace q161 := eq_true q161
     go_wp2_with (first | ((with_reducible refine gq 114 rfl ?_); refine gl (some 16) Try.func114 #[.agg #[.string ((rd_T88 l0 x4_1).f0), .string ((rd_T88 l0 x4_1).f1), .bool ((rd_T88 l0 x4_1).f2)]] ?_; (with_reducible refine (spec_l3One.calls ((rd_T88 l0 x4_1).f0) ((rd_T88 l0 x4_1).f1) ((rd_T88 l0 x4_1).f2) t162 _ A4.out).mono ?_); rintro e w5 ⟨rfl, hb⟩; refine ⟨_, rfl, ?_⟩; replace HB := Aside0.mk (below_step (zb HB) hb); (try clear hb)))
     go_roundg k1
     case measure => have := HK1.out; omega
     case rel => exact ⟨(wrap64 (x3_1 + t162)), (wrap64 (x4_1 + 1)), zs, zs, H', ⟨by have := HK1.out; omega⟩, ⟨zb HB⟩⟩
    ·rw [if_neg c3] at H
     exact absurd H (by simp)
   ·skip
    have c2b0 := decide_eq_false c2
    clear c2
    obtain rfl := Option.some.inj H
    go_wp2
    go_ret
    exact ⟨ze, zb HB⟩

end Go.Proofs.Ytlpibelofcabhaa.PFnExactWorldOk
