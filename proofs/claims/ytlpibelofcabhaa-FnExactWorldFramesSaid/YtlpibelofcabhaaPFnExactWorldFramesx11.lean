-- WRITTEN BY a turned print (wip/tools of the prover's repo)
import Derived.Test.YtlpibelofcabhaaPFnExactWorldFramesx0
import Derived.Test.YtlpibelofcabhaaPFnExactWorldFramesx9
import Derived.Test.YtlpibelofcabhaaPFnExactWorldFramesx10
namespace Go.Proofs.Ytlpibelofcabhaa.PFnExactWorldFrames
open Go.RowKit Go.Proofs.YtlpibelofcabhaaW.PrintWords Go.Proofs.YtlpibelofcabhaaW.PrintLast Go.Proofs.YtlpibelofcabhaaW.PrintMore Go.Proofs.Ytlpibelofcabhaa.Lm
attribute [local go_sem] max2_int min2_int max_two min_two max_three min_three max_four min_four   -- for this text's walks alone
set_option linter.unusedVariables false
set_option linter.unusedSimpArgs false

/-! ### impl_FrameOk: function 87 -/
-- thin
def impl_FrameOk.f (a0_0 : Int) (a0_1 : Bool) (a0_2 : Int) (a0_3 : ByteArray) : Option (Bool) := if a0_0 = 8 then (if a0_2 = 0 then (if a0_1 = true then (some false) else (if (a0_3.size : Int) = 1 then (if 0 < (a0_3.size : Int) then ((impl_in.f (wrap64 (bt a0_3 0)) 1 31).bind fun t357 => (some t357)) else (none)) else (some false))) else ((impl_isStream.f a0_2).bind fun t358 => (if t358 = true then (if a0_1 = true then (some false) else (if (a0_3.size : Int) = 1 then (if 0 < (a0_3.size : Int) then ((impl_in.f (wrap64 (bt a0_3 0)) 1 31).bind fun t359 => (some t359)) else (none)) else (some false))) else (some false)))) else ((impl_isStream.f a0_2).bind fun t360 => (if t360 = true then (if a0_0 = 0 then (some (decide ((a0_3.size : Int) ≤ 200))) else (if a0_0 = 1 then (some (decide ((a0_3.size : Int) ≤ 200))) else (if a0_0 = 3 then (if a0_3.toList = ([] : List UInt8) then (some (!a0_1)) else (some false)) else (some false)))) else (some false)))
set_option maxHeartbeats 8000000 in
set_option maxRecDepth 100000 in
theorem impl_FrameOk.calls (a0_0 : Int) (a0_1 : Bool) (a0_2 : Int) (a0_3 : ByteArray) (r : Bool) (w : World) (h : impl_FrameOk.f a0_0 a0_1 a0_2 a0_3 = some r) :
  Calls Try.prog 87 #[.agg #[.int .i64 a0_0, .bool a0_1, .int .i64 a0_2, .string a0_3]] w fun e w' => e = .returned (.bool r) ∧ Below w.heap.size w w' := by
 have hu110 := Try.underlying110
 have HB := Aside0.mk (Below.refl w.heap.size w)
 have H : (if a0_0 = 8 then (if a0_2 = 0 then (if a0_1 = true then (some false) else (if (a0_3.size : Int) = 1 then (if 0 < (a0_3.size : Int) then ((impl_in.f (wrap64 (bt a0_3 0)) 1 31).bind fun t357 => (some t357)) else (none)) else (some false))) else ((impl_isStream.f a0_2).bind fun t358 => (if t358 = true then (if a0_1 = true then (some false) else (if (a0_3.size : Int) = 1 then (if 0 < (a0_3.size : Int) then ((impl_in.f (wrap64 (bt a0_3 0)) 1 31).bind fun t359 => (some t359)) else (none)) else (some false))) else (some false)))) else ((impl_isStream.f a0_2).bind fun t360 => (if t360 = true then (if a0_0 = 0 then (some (decide ((a0_3.size : Int) ≤ 200))) else (if a0_0 = 1 then (some (decide ((a0_3.size : Int) ≤ 200))) else (if a0_0 = 3 then (if a0_3.toList = ([] : List UInt8) then (some (!a0_1)) else (some false)) else (some false)))) else (some false)))) = some r := h
 clear h
 replace H := sp H
 rcases H with ⟨c2, H⟩ | ⟨c2, H⟩
 ·skip
  have c2b0 : (a0_0 == 8) = true := beq_iff_eq.mpr c2
  have c2b1 : (a0_0 != 8) = false := bne_eq_false_iff_eq.mpr c2
  clear c2
  by_cases c3 : a0_2 = 0
  ·rw [if_pos c3] at H
   have c3b0 : (a0_2 == 0) = true := beq_iff_eq.mpr c3
   have c3b1 : (a0_2 != 0) = false := bne_eq_false_iff_eq.mpr c3
   clear c3
   by_cases c4 : a0_1 = true
   ·subst c4
    rw [if_pos rfl] at H
    obtain rfl := Option.some.inj H
    go_enter Try.func87, Try.ntmps87
    go_wp2_with (first | ((with_reducible refine gd 1 rfl ?_); (try (refine gate_guard (by rfl) ?_; dsimp only)); refine bx (N := 1) (cs := #[.int .i64 a0_0, .bool true, .int .i64 a0_2, .string a0_3]) (t := 110) ?_; intro gb356 hg w5 hbox hb; have BK356 := Aside0.mk (hbox); have GW356 := gw HB hg; have GE356 := GW356; replace HB := Aside0.mk (below_step (zb HB) hb); clear hb hbox hg; obtain ⟨hcz6_0, hcz6_1, hcz6_2, hcz6_3, hfz6_0, hfz6_1, hfz6_2, hfz6_3⟩ := c4 BK356))
    go_ret
    exact ⟨ze, zb HB⟩
   ·replace c4 := Bool.eq_false_iff.mpr c4
    subst c4
    rw [if_neg (show ¬ (false = true) by decide)] at H
    by_cases c7 : (a0_3.size : Int) = 1
    ·rw [if_pos c7] at H
     have c7b0 : ((a0_3.size : Int) == 1) = true := beq_iff_eq.mpr c7
     have c7b1 : ((a0_3.size : Int) != 1) = false := bne_eq_false_iff_eq.mpr c7
     clear c7
     by_cases c8 : 0 < (a0_3.size : Int)
     ·rw [if_pos c8] at H
      have c8b0 := decide_eq_true c8
      have c8b1 := decide_eq_true (by omega)
      clear c8
      obtain ⟨t357, A10, H⟩ := ob H
      (try dsimp only at H)
      obtain rfl := Option.some.inj H
      go_enter Try.func87, Try.ntmps87
      go_wp2_with (first | ((with_reducible refine gd 1 rfl ?_); (try (refine gate_guard (by rfl) ?_; dsimp only)); refine bx (N := 1) (cs := #[.int .i64 a0_0, .bool false, .int .i64 a0_2, .string a0_3]) (t := 110) ?_; intro gb356 hg w11 hbox hb; have BK356 := Aside0.mk (hbox); have GW356 := gw HB hg; have GE356 := GW356; replace HB := Aside0.mk (below_step (zb HB) hb); clear hb hbox hg; obtain ⟨hcz12_0, hcz12_1, hcz12_2, hcz12_3, hfz12_0, hfz12_1, hfz12_2, hfz12_3⟩ := c4 BK356; have p9 : 0 ≤ (0 : Int) := (by omega); have q9 : 0 < a0_3.size := (by have : (0 : Int) < (a0_3.size : Int) := of_decide_eq_true za; omega); have hx9 : ∀ h : 0 < a0_3.size, ((a0_3[0]'h).toNat : Int) = bt a0_3 0 := bt_at a0_3 0; clear p9; have qi9 : (0 < (a0_3.size : Int)) = True := eq_true (of_decide_eq_true za); replace q9 := eq_true q9) | (go_at_call 61; (with_reducible refine (impl_in.calls (wrap64 (bt a0_3 0)) 1 31 t357 _ A10.out).mono ?_); rintro e w' ⟨rfl, ⟨nd, rfl⟩⟩))
      go_ret
      exact ⟨ze, zb HB⟩
     ·rw [if_neg c8] at H
      exact absurd H (by simp)
    ·rw [if_neg c7] at H
     have c7b0 : ((a0_3.size : Int) == 1) = false := beq_eq_false_iff_ne.mpr c7
     have c7b1 : ((a0_3.size : Int) != 1) = true := bne_iff_ne.mpr c7
     obtain rfl := Option.some.inj H
     go_enter Try.func87, Try.ntmps87
     go_wp2_with (first | ((with_reducible refine gd 1 rfl ?_); (try (refine gate_guard (by rfl) ?_; dsimp only)); refine bx (N := 1) (cs := #[.int .i64 a0_0, .bool false, .int .i64 a0_2, .string a0_3]) (t := 110) ?_; intro gb356 hg w13 hbox hb; have BK356 := Aside0.mk (hbox); have GW356 := gw HB hg; have GE356 := GW356; replace HB := Aside0.mk (below_step (zb HB) hb); clear hb hbox hg; obtain ⟨hcz14_0, hcz14_1, hcz14_2, hcz14_3, hfz14_0, hfz14_1, hfz14_2, hfz14_3⟩ := c4 BK356))
     go_ret
     exact ⟨ze, zb HB⟩
  ·rw [if_neg c3] at H
   have c3b0 : (a0_2 == 0) = false := beq_eq_false_iff_ne.mpr c3
   have c3b1 : (a0_2 != 0) = true := bne_iff_ne.mpr c3
   obtain ⟨t358, A15, H⟩ := ob H
   (try dsimp only at H)
   by_cases c16 : t358 = true
   ·subst c16
    rw [if_pos rfl] at H
    by_cases c17 : a0_1 = true
    ·subst c17
     rw [if_pos rfl] at H
     obtain rfl := Option.some.inj H
     go_enter Try.func87, Try.ntmps87
     go_wp2_with (first | ((with_reducible refine gd 1 rfl ?_); (try (refine gate_guard (by rfl) ?_; dsimp only)); refine bx (N := 1) (cs := #[.int .i64 a0_0, .bool true, .int .i64 a0_2, .string a0_3]) (t := 110) ?_; intro gb356 hg w18 hbox hb; have BK356 := Aside0.mk (hbox); have GW356 := gw HB hg; have GE356 := GW356; replace HB := Aside0.mk (below_step (zb HB) hb); clear hb hbox hg; obtain ⟨hcz19_0, hcz19_1, hcz19_2, hcz19_3, hfz19_0, hfz19_1, hfz19_2, hfz19_3⟩ := c4 BK356) | (go_at_call 83; (with_reducible refine (impl_isStream.calls a0_2 true _ A15.out).mono ?_); rintro e w' ⟨rfl, ⟨nd, rfl⟩⟩))
     go_ret
     exact ⟨ze, zb HB⟩
    ·replace c17 := Bool.eq_false_iff.mpr c17
     subst c17
     rw [if_neg (show ¬ (false = true) by decide)] at H
     by_cases c20 : (a0_3.size : Int) = 1
     ·rw [if_pos c20] at H
      have c20b0 : ((a0_3.size : Int) == 1) = true := beq_iff_eq.mpr c20
      have c20b1 : ((a0_3.size : Int) != 1) = false := bne_eq_false_iff_eq.mpr c20
      clear c20
      by_cases c21 : 0 < (a0_3.size : Int)
      ·rw [if_pos c21] at H
       have c21b0 := decide_eq_true c21
       have c21b1 := decide_eq_true (by omega)
       clear c21
       obtain ⟨t359, A23, H⟩ := ob H
       (try dsimp only at H)
       obtain rfl := Option.some.inj H
       go_enter Try.func87, Try.ntmps87
       go_wp2_with (first | ((with_reducible refine gd 1 rfl ?_); (try (refine gate_guard (by rfl) ?_; dsimp only)); refine bx (N := 1) (cs := #[.int .i64 a0_0, .bool false, .int .i64 a0_2, .string a0_3]) (t := 110) ?_; intro gb356 hg w24 hbox hb; have BK356 := Aside0.mk (hbox); have GW356 := gw HB hg; have GE356 := GW356; replace HB := Aside0.mk (below_step (zb HB) hb); clear hb hbox hg; obtain ⟨hcz25_0, hcz25_1, hcz25_2, hcz25_3, hfz25_0, hfz25_1, hfz25_2, hfz25_3⟩ := c4 BK356) | (go_at_call 83; (with_reducible refine (impl_isStream.calls a0_2 true _ A15.out).mono ?_); rintro e w' ⟨rfl, ⟨nd, rfl⟩⟩; have p22 : 0 ≤ (0 : Int) := (by omega); have q22 : 0 < a0_3.size := (by have : (0 : Int) < (a0_3.size : Int) := of_decide_eq_true za; omega); have hx22 : ∀ h : 0 < a0_3.size, ((a0_3[0]'h).toNat : Int) = bt a0_3 0 := bt_at a0_3 0; clear p22; have qi22 : (0 < (a0_3.size : Int)) = True := eq_true (of_decide_eq_true za); replace q22 := eq_true q22) | (go_at_call 61; (with_reducible refine (impl_in.calls (wrap64 (bt a0_3 0)) 1 31 t359 _ A23.out).mono ?_); rintro e w' ⟨rfl, ⟨nd, rfl⟩⟩))
       go_ret
       exact ⟨ze, zb HB⟩
      ·rw [if_neg c21] at H
       exact absurd H (by simp)
     ·rw [if_neg c20] at H
      have c20b0 : ((a0_3.size : Int) == 1) = false := beq_eq_false_iff_ne.mpr c20
      have c20b1 : ((a0_3.size : Int) != 1) = true := bne_iff_ne.mpr c20
      obtain rfl := Option.some.inj H
      go_enter Try.func87, Try.ntmps87
      go_wp2_with (first | ((with_reducible refine gd 1 rfl ?_); (try (refine gate_guard (by rfl) ?_; dsimp only)); refine bx (N := 1) (cs := #[.int .i64 a0_0, .bool false, .int .i64 a0_2, .string a0_3]) (t := 110) ?_; intro gb356 hg w26 hbox hb; have BK356 := Aside0.mk (hbox); have GW356 := gw HB hg; have GE356 := GW356; replace HB := Aside0.mk (below_step (zb HB) hb); clear hb hbox hg; obtain ⟨hcz27_0, hcz27_1, hcz27_2, hcz27_3, hfz27_0, hfz27_1, hfz27_2, hfz27_3⟩ := c4 BK356) | (go_at_call 83; (with_reducible refine (impl_isStream.calls a0_2 true _ A15.out).mono ?_); rintro e w' ⟨rfl, ⟨nd, rfl⟩⟩))
      go_ret
      exact ⟨ze, zb HB⟩
   ·replace c16 := Bool.eq_false_iff.mpr c16
    subst c16
    rw [if_neg (show ¬ (false = true) by decide)] at H
    obtain rfl := Option.some.inj H
    go_enter Try.func87, Try.ntmps87
    go_wp2_with (first | ((with_reducible refine gd 1 rfl ?_); (try (refine gate_guard (by rfl) ?_; dsimp only)); refine bx (N := 1) (cs := #[.int .i64 a0_0, .bool a0_1, .int .i64 a0_2, .string a0_3]) (t := 110) ?_; intro gb356 hg w28 hbox hb; have BK356 := Aside0.mk (hbox); have GW356 := gw HB hg; have GE356 := GW356; replace HB := Aside0.mk (below_step (zb HB) hb); clear hb hbox hg; obtain ⟨hcz29_0, hcz29_1, hcz29_2, hcz29_3, hfz29_0, hfz29_1, hfz29_2, hfz29_3⟩ := c4 BK356) | (go_at_call 83; (with_reducible refine (impl_isStream.calls a0_2 false _ A15.out).mono ?_); rintro e w' ⟨rfl, ⟨nd, rfl⟩⟩))
    go_ret
    exact ⟨ze, zb HB⟩
 ·skip
  have c2b0 : (a0_0 == 8) = false := beq_eq_false_iff_ne.mpr c2
  have c2b1 : (a0_0 != 8) = true := bne_iff_ne.mpr c2
  obtain ⟨t360, A30, H⟩ := ob H
  (try dsimp only at H)
  have HC31 := Aside0.mk H
  clear H
  go_enter Try.func87, Try.ntmps87
  go_upto_if 35 with (first | ((with_reducible refine gd 1 rfl ?_); (try (refine gate_guard (by rfl) ?_; dsimp only)); refine bx (N := 1) (cs := #[.int .i64 a0_0, .bool a0_1, .int .i64 a0_2, .string a0_3]) (t := 110) ?_; intro gb356 hg w32 hbox hb; have BK356 := Aside0.mk (hbox); have GW356 := gw HB hg; have GE356 := GW356; replace HB := Aside0.mk (below_step (zb HB) hb); clear hb hbox hg; obtain ⟨hcz33_0, hcz33_1, hcz33_2, hcz33_3, hfz33_0, hfz33_1, hfz33_2, hfz33_3⟩ := c4 BK356) | ((with_reducible refine gq 83 rfl ?_); refine gl (some 34) Try.func83 #[.int .i64 a0_2] ?_; (with_reducible refine (impl_isStream.calls a0_2 t360 _ A30.out).mono ?_); rintro e w' ⟨rfl, ⟨nd, rfl⟩⟩; refine ⟨_, rfl, ?_⟩))
  (try simp only [Act.put, s1, s2, s3])
  have H := HC31.out
  clear HC31
  by_cases c34 : t360 = true
  ·subst c34
   rw [if_pos rfl] at H
   replace H := sp H
   rcases H with ⟨c35, H⟩ | ⟨c35, H⟩
   ·skip
    have c35b0 : (a0_0 == 0) = true := beq_iff_eq.mpr c35
    have c35b1 : (a0_0 != 0) = false := bne_eq_false_iff_eq.mpr c35
    clear c35
    (first | rw [c35b0] | rw [c35b1] | rw [c35b2] | (simp only [i64_w, i32_w]; rw [c35b0]) | skip)
    obtain rfl := Option.some.inj H
    obtain ⟨hcz36_0, hcz36_1, hcz36_2, hcz36_3, hfz36_0, hfz36_1, hfz36_2, hfz36_3⟩ := c4 BK356
    go_wp2
    go_ret
    exact ⟨ze, zb HB⟩
   ·skip
    have c35b0 : (a0_0 == 0) = false := beq_eq_false_iff_ne.mpr c35
    have c35b1 : (a0_0 != 0) = true := bne_iff_ne.mpr c35
    (first | rw [c35b0] | rw [c35b1] | rw [c35b2] | (simp only [i64_w, i32_w]; rw [c35b0]) | skip)
    replace H := sp H
    rcases H with ⟨c37, H⟩ | ⟨c37, H⟩
    ·skip
     have c37b0 : (a0_0 == 1) = true := beq_iff_eq.mpr c37
     have c37b1 : (a0_0 != 1) = false := bne_eq_false_iff_eq.mpr c37
     clear c37
     obtain rfl := Option.some.inj H
     obtain ⟨hcz38_0, hcz38_1, hcz38_2, hcz38_3, hfz38_0, hfz38_1, hfz38_2, hfz38_3⟩ := c4 BK356
     go_wp2
     go_ret
     exact ⟨ze, zb HB⟩
    ·skip
     have c37b0 : (a0_0 == 1) = false := beq_eq_false_iff_ne.mpr c37
     have c37b1 : (a0_0 != 1) = true := bne_iff_ne.mpr c37
     replace H := sp H
     rcases H with ⟨c39, H⟩ | ⟨c39, H⟩
     ·skip
      have c39b0 : (a0_0 == 3) = true := beq_iff_eq.mpr c39
      have c39b1 : (a0_0 != 3) = false := bne_eq_false_iff_eq.mpr c39
      clear c39
      by_cases c40 : a0_3.toList = ([] : List UInt8)
      ·rw [if_pos c40] at H
       have c40b0 : (a0_3.toList == ([] : List UInt8)) = true := beq_iff_eq.mpr c40
       have c40b1 : (a0_3.toList != ([] : List UInt8)) = false := bne_eq_false_iff_eq.mpr c40
       clear c40
       obtain rfl := Option.some.inj H
       obtain ⟨hcz41_0, hcz41_1, hcz41_2, hcz41_3, hfz41_0, hfz41_1, hfz41_2, hfz41_3⟩ := c4 BK356
       go_wp2
       go_ret
       exact ⟨ze, zb HB⟩
      ·rw [if_neg c40] at H
       have c40b0 : (a0_3.toList == ([] : List UInt8)) = false := beq_eq_false_iff_ne.mpr c40
       have c40b1 : (a0_3.toList != ([] : List UInt8)) = true := bne_iff_ne.mpr c40
       obtain rfl := Option.some.inj H
       obtain ⟨hcz42_0, hcz42_1, hcz42_2, hcz42_3, hfz42_0, hfz42_1, hfz42_2, hfz42_3⟩ := c4 BK356
       go_wp2
       go_ret
       exact ⟨ze, zb HB⟩
     ·skip
      have c39b0 : (a0_0 == 3) = false := beq_eq_false_iff_ne.mpr c39
      have c39b1 : (a0_0 != 3) = true := bne_iff_ne.mpr c39
      obtain rfl := Option.some.inj H
      obtain ⟨hcz43_0, hcz43_1, hcz43_2, hcz43_3, hfz43_0, hfz43_1, hfz43_2, hfz43_3⟩ := c4 BK356
      go_wp2
      go_ret
      exact ⟨ze, zb HB⟩
  ·replace c34 := Bool.eq_false_iff.mpr c34
   subst c34
   rw [if_neg (show ¬ (false = true) by decide)] at H
   obtain rfl := Option.some.inj H
   go_wp2
   go_ret
   exact ⟨ze, zb HB⟩

/-! ### impl_EndOk_1: function 86 -/
-- thin
def impl_EndOk_1.f (a0_0 : Int) (a0_1 : Bool) (a0_2 : Int) (a0_3 : ByteArray) : Option (Bool) := (impl_FrameOk.f a0_0 a0_1 a0_2 a0_3).bind fun t362 => (some (!t362))
set_option maxHeartbeats 8000000 in
set_option maxRecDepth 100000 in
theorem impl_EndOk_1.calls (a0_0 : Int) (a0_1 : Bool) (a0_2 : Int) (a0_3 : ByteArray) (r : Bool) (w : World) (h : impl_EndOk_1.f a0_0 a0_1 a0_2 a0_3 = some r) :
  Calls Try.prog 86 #[.agg #[.int .i64 a0_0, .bool a0_1, .int .i64 a0_2, .string a0_3]] w fun e w' => e = .returned (.bool r) ∧ Below w.heap.size w w' := by
 have hu110 := Try.underlying110
 have HB := Aside0.mk (Below.refl w.heap.size w)
 have H : ((impl_FrameOk.f a0_0 a0_1 a0_2 a0_3).bind fun t362 => (some (!t362))) = some r := h
 clear h
 obtain ⟨t362, A2, H⟩ := ob H
 (try dsimp only at H)
 obtain rfl := Option.some.inj H
 go_enter Try.func86, Try.ntmps86
 go_wp2_with (first | ((with_reducible refine gd 1 rfl ?_); refine bx (N := 1) (cs := #[.int .i64 a0_0, .bool a0_1, .int .i64 a0_2, .string a0_3]) (t := 110) ?_; intro gb361 hg w3 hbox hb; have BK361 := Aside0.mk (hbox); have GW361 := gw HB hg; have GE361 := GW361; replace HB := Aside0.mk (below_step (zb HB) hb); clear hb hbox hg; obtain ⟨hcz4_0, hcz4_1, hcz4_2, hcz4_3, hfz4_0, hfz4_1, hfz4_2, hfz4_3⟩ := c4 BK361) | ((with_reducible refine gq 87 rfl ?_); refine gl (some 4) Try.func87 #[.agg #[.int .i64 a0_0, .bool a0_1, .int .i64 a0_2, .string a0_3]] ?_; (with_reducible refine (impl_FrameOk.calls a0_0 a0_1 a0_2 a0_3 t362 _ A2.out).mono ?_); rintro e w5 ⟨rfl, hb⟩; refine ⟨_, rfl, ?_⟩; replace BK361 := kb BK361 hb; replace HB := Aside0.mk (below_step (zb HB) hb); (try clear hb)))
 go_ret
 exact ⟨ze, zb HB⟩

/-! ### IndexFunc_Frame: function 129 -/
-- by hand
theorem load_list_Frame (P : Program) (W : World) (a : Addr) (cs : List Value) (k : Nat) (hk : cs.length = k) (h : ∀ j v, cs[j]? = some v → W.cell? (a.add j) = some v) :
    Sem.run P (loadCellsFrom a 0 k #[]) W = .ok cs.toArray W := by
  have := run_loadCells_list (P := P) (w := W) a cs h
  rw [hk] at this
  exact this
/-- The first place, from i on, at which p says yes; -1, if there is none. -/
def idxFrom_Frame (p : S110 → Option Bool) : List (S110) → Int → Option Int
  | [], _ => some (-1)
  | x :: l, i => (p x).bind fun b => if b then some i else idxFrom_Frame p l (i + 1)
/-- What a predicate's value does when it is called. -/
def PredIs_Frame (P : Program) (g : Nat) (lb : Array Value) (p : S110 → Option Bool) (w : World) : Prop :=
  ∀ (W : World) (x : S110) (b : Bool), Below w.heap.size w W → p x = some b → Calls P g (#[.agg #[.int .i64 x.f0, .bool x.f1, .int .i64 x.f2, .string x.f3]] ++ lb) W fun e w' => e = .returned (.bool b) ∧ Below w.heap.size w w'
set_option maxHeartbeats 4000000 in
set_option maxRecDepth 100000 in
theorem IndexFunc_calls_Frame (g : Nat) (lb : Array Value) (p : S110 → Option Bool) (eg : ∀ args w, (callFunc g args).run Try.prog w = .ok (.enter g args) w) (A0 : Option Addr) (c0 : Nat) (l0 : List (S110)) (r : Int) (w : World) (hr0 : Kd.C k110 w A0 l0.length l0) (hc0 : l0.length ≤ c0)
    (hp : PredIs_Frame Try.prog g lb p w) (h : idxFrom_Frame p l0 0 = some r) (hl : l0.length ≤ 1000000000) :
    Calls Try.prog 129 #[.slice A0 l0.length c0, .func (.func g) #[] lb] w fun e w' => e = .returned (.int .i64 r) ∧ Below w.heap.size w w' := by
  have HR0 := Aside0.mk hr0
  have HP := Aside0.mk hp
  have H := Aside0.mk h
  clear hr0 hp h
  go_enter Try.func129, Try.ntmps129
  go_wp2
  go_loopg [5, 8] (l0.length) (fun kq v5 v8 w' => ∃ i : Nat, v8 = .int .i64 i ∧ Aside0 (kq + i = l0.length) ∧ Aside0 (idxFrom_Frame p (l0.drop i) i = some r) ∧ Aside0 (Below w.heap.size w w'))
  case atStart => exact ⟨0, rfl, ⟨by omega⟩, ⟨by simpa using H.out⟩, ⟨Below.refl _ _⟩⟩
  case round =>
    obtain ⟨i, rfl, HK, HX, HB⟩ := hrel
    have hk := HK.out
    by_cases hj : i < l0.length
    · have h0 : (0 : Int) ≤ (i : Int) := by omega
      have h1 : (i : Int) < (l0.length : Int) := by omega
      obtain ⟨x, hx⟩ : ∃ x, l0[i]? = some x := ⟨_, List.getElem?_eq_getElem hj⟩
      have hdrop : l0.drop i = x :: l0.drop (i + 1) := by
        rw [List.drop_eq_getElem_cons hj]
        rw [List.getElem?_eq_getElem hj] at hx
        rw [Option.some.inj hx]
      obtain ⟨_, _, hrd⟩ := Kd.C_below HR0.out HB.out
      obtain ⟨ad, e1, hcell⟩ := hrd (by omega)
      obtain ⟨c, hc1, hc2, hc3⟩ := hcell i x hx
      have hc4 := k110_open hc2
      subst hc4
      subst e1
      have q0 : wr.cell? (ad.add (i * 4)) = some (.int .i64 x.f0) := by have h9 := hc3 0 _ rfl; exact h9
      have q1 : wr.cell? ⟨(ad.add (i * 4)).block, (ad.add (i * 4)).off + 1, none⟩ = some (.bool x.f1) := by have h9 := hc3 1 _ rfl; rw [← Go.Addr.add_add] at h9; exact h9
      have q2 : wr.cell? ⟨(ad.add (i * 4)).block, (ad.add (i * 4)).off + 2, none⟩ = some (.int .i64 x.f2) := by have h9 := hc3 2 _ rfl; rw [← Go.Addr.add_add] at h9; exact h9
      have q3 : wr.cell? ⟨(ad.add (i * 4)).block, (ad.add (i * 4)).off + 3, none⟩ = some (.string x.f3) := by have h9 := hc3 3 _ rfl; rw [← Go.Addr.add_add] at h9; exact h9
      have hX := HX.out
      rw [hdrop, idxFrom_Frame] at hX
      obtain ⟨b, hb1, hb2⟩ := Option.bind_eq_some_iff.1 hX
      have hcall := HP.out wr x b HB.out hb1
      have HX2 := Aside0.mk hb2
      cases gk with
      | zero => omega
      | succ k1 =>
      clear hk hX hb2 hrd hcell hc1 hc2 hc3 hdrop
      cases b with
      | true =>
        go_wp2_with (go_at_fn g; refine hcall.mono ?_; rintro e w' ⟨rfl, hb'⟩)
        go_ret
        have h9 : some (i : Int) = some r := by simpa using HX2.out
        exact ⟨by rw [← Option.some.inj h9]; rfl, hb'⟩
      | false =>
        go_wp2_with (go_at_fn g; refine hcall.mono ?_; rintro e w' ⟨rfl, hb'⟩)
        go_roundg k1
        case measure => have := HK.out; omega
        case rel =>
          refine ⟨i + 1, by go_num, ⟨by have := HK.out; omega⟩, ⟨?_⟩, ⟨hb'⟩⟩
          have h9 := HX2.out
          rw [if_neg (by decide)] at h9
          rw [show ((i + 1 : Nat) : Int) = (i : Int) + 1 by omega]
          exact h9
    · have e : i = l0.length := by omega
      have hltz : ¬ (i : Int) < (l0.length : Int) := by omega
      clear hk hj
      have HE := Aside0.mk e
      clear e
      go_wp2
      go_ret
      have e := HE.out
      subst e
      have hX := HX.out
      rw [List.drop_length, idxFrom_Frame] at hX
      exact ⟨by rw [← Option.some.inj hX]; rfl, HB.out⟩

/-! ### ContainsFunc_Frame: function 85 -/
-- by hand
set_option maxHeartbeats 4000000 in
set_option maxRecDepth 100000 in
theorem ContainsFunc_calls_Frame (g : Nat) (lb : Array Value) (p : S110 → Option Bool) (eg : ∀ args w, (callFunc g args).run Try.prog w = .ok (.enter g args) w) (A0 : Option Addr) (c0 : Nat) (l0 : List (S110)) (r : Int) (w : World) (hr0 : Kd.C k110 w A0 l0.length l0) (hc0 : l0.length ≤ c0)
    (hp : PredIs_Frame Try.prog g lb p w) (h : idxFrom_Frame p l0 0 = some r) (hl : l0.length ≤ 1000000000) :
    Calls Try.prog 85 #[.slice A0 l0.length c0, .func (.func g) #[] lb] w fun e w' => e = .returned (.bool (decide (0 ≤ r))) ∧ Below w.heap.size w w' := by
  go_enter Try.func85, Try.ntmps85
  go_wp2_with (go_at_call 129; refine (IndexFunc_calls_Frame g lb p eg A0 c0 l0 r _ hr0 hc0 hp h hl).mono ?_; rintro e w' ⟨rfl, hb'⟩)
  go_ret
  exact ⟨rfl, hb'⟩
/-- What function g says of a field. -/
def ContainsFunc_Frame.p (k : Nat) (g : Nat) (x : S110) : Option Bool := if g = 86 then impl_EndOk_1.f x.f0 x.f1 x.f2 x.f3 else none
def ContainsFunc_Frame.known (g : Nat) : Prop := g = 86 ∨ False
instance (g : Nat) : Decidable (ContainsFunc_Frame.known g) := by unfold ContainsFunc_Frame.known; infer_instance
def ContainsFunc_Frame.f (k : Nat) (l0 : List (S110)) (a1 : Nat) : Option Bool :=
  if l0.length ≤ 1000000000 ∧ ContainsFunc_Frame.known a1 then (idxFrom_Frame (ContainsFunc_Frame.p k a1) l0 0).bind fun r => some (decide (0 ≤ r)) else none
theorem idxFrom_mono_Frame {p q : S110 → Option Bool} (hpq : ∀ x, LeO (p x) (q x)) : ∀ (l : List (S110)) (i : Int), LeO (idxFrom_Frame p l i) (idxFrom_Frame q l i)
  | [], _ => fun r h => h
  | x :: l, i => by
    intro r h
    unfold idxFrom_Frame at h ⊢
    obtain ⟨b, hb, hr⟩ := Option.bind_eq_some_iff.1 h
    rw [hpq x b hb]
    simp only [Option.bind_some]
    cases b with
    | true => exact hr
    | false => exact idxFrom_mono_Frame hpq l (i + 1) r hr
theorem ContainsFunc_Frame.p_mono (k g : Nat) (x : S110) : LeO (ContainsFunc_Frame.p k g x) (ContainsFunc_Frame.p (k + 1) g x) := by
  unfold ContainsFunc_Frame.p
  refine LeO.ite (LeO.refl _) ?_
  exact LeO.refl _
theorem ContainsFunc_Frame.mono : ∀ a0 a1 k, LeO (ContainsFunc_Frame.f k a0 a1) (ContainsFunc_Frame.f (k + 1) a0 a1) := by
  intro a0 a1 k
  unfold ContainsFunc_Frame.f
  refine LeO.ite ?_ (LeO.refl _)
  exact LeO.bind (idxFrom_mono_Frame (fun x => ContainsFunc_Frame.p_mono k a1 x) a0 0) (fun _ => LeO.refl _)
theorem ContainsFunc_Frame.enters (a1 : Nat) (h : ContainsFunc_Frame.known a1) : ∀ args w, (callFunc a1 args).run Try.prog w = .ok (.enter a1 args) w := by
  unfold ContainsFunc_Frame.known at h
  rcases h with e | h
  · subst e; exact enters_of Try.func86 (by kernel_rfl) rfl
  cases h
theorem ContainsFunc_Frame.pred (k a1 : Nat) (w : World) : PredIs_Frame Try.prog a1 #[] (ContainsFunc_Frame.p k a1) w := by
  intro W x b hW h
  unfold ContainsFunc_Frame.p at h
  split at h
  · rename_i e; subst e; rw [Array.append_empty]; exact (impl_EndOk_1.calls x.f0 x.f1 x.f2 x.f3 b W h).mono fun e w2 h2 => ⟨h2.1, below_step hW h2.2⟩
  cases h
set_option maxHeartbeats 4000000 in
set_option maxRecDepth 100000 in
theorem ContainsFunc_Frame.calls (k : Nat) (A0 : Option Addr) (c0 : Nat) (l0 : List (S110)) (a1 : Nat) (r : Bool) (w : World) (hr0 : Kd.C k110 w A0 l0.length l0) (hc0 : l0.length ≤ c0) (h : ContainsFunc_Frame.f k l0 a1 = some r) :
    Calls Try.prog 85 #[.slice A0 l0.length c0, .func (.func a1) #[] #[]] w fun e w' => e = .returned (.bool r) ∧ Below w.heap.size w w' := by
  unfold ContainsFunc_Frame.f at h
  split at h
  case isFalse => cases h
  rename_i hl
  obtain ⟨i, hi, hr⟩ := Option.bind_eq_some_iff.1 h
  obtain rfl := Option.some.inj hr
  exact ContainsFunc_calls_Frame a1 #[] _ (ContainsFunc_Frame.enters a1 hl.2) A0 c0 _ i w hr0 hc0 (ContainsFunc_Frame.pred k a1 w) hi hl.1

end Go.Proofs.Ytlpibelofcabhaa.PFnExactWorldFrames
