-- WRITTEN BY a turned print (wip/tools of the prover's repo)
import Derived.Test.YtlpibelofcabhaaDoorPFnExactEndCallx0
import Derived.Test.YtlpibelofcabhaaDoorPFnExactEndCallx6
namespace Go.Proofs.YtlpibelofcabhaaDoor.PFnExactEndCall
open Go.RowKit Go.Proofs.YtlpibelofcabhaaDoorW.PrintWords Go.Proofs.YtlpibelofcabhaaDoorW.PrintLast Go.Proofs.YtlpibelofcabhaaDoorW.PrintMore Go.Proofs.YtlpibelofcabhaaDoor.Lm
attribute [local go_sem] max2_int min2_int max_two min_two max_three min_three max_four min_four   -- for this text's walks alone
set_option linter.unusedVariables false
set_option linter.unusedSimpArgs false

/-! ### impl_FrameOk: function 55 -/
-- thin
def impl_FrameOk.f (a0_0 : Int) (a0_1 : Bool) (a0_2 : Int) (a0_3 : ByteArray) : Option (Bool) := if a0_0 = 8 then (if a0_2 = 0 then (if a0_1 = true then (some false) else (if (a0_3.size : Int) = 1 then (if 0 < (a0_3.size : Int) then ((impl_in.f (wrap64 (bt a0_3 0)) 1 31).bind fun t366 => (some t366)) else (none)) else (some false))) else ((impl_isStream.f a0_2).bind fun t367 => (if t367 = true then (if a0_1 = true then (some false) else (if (a0_3.size : Int) = 1 then (if 0 < (a0_3.size : Int) then ((impl_in.f (wrap64 (bt a0_3 0)) 1 31).bind fun t368 => (some t368)) else (none)) else (some false))) else (some false)))) else ((impl_isStream.f a0_2).bind fun t369 => (if t369 = true then (if a0_0 = 0 then (some (decide ((a0_3.size : Int) ≤ 200))) else (if a0_0 = 1 then (some (decide ((a0_3.size : Int) ≤ 200))) else (if a0_0 = 3 then (if a0_3.toList = ([] : List UInt8) then (some (!a0_1)) else (some false)) else (some false)))) else (some false)))
set_option maxHeartbeats 8000000 in
set_option maxRecDepth 100000 in
theorem impl_FrameOk.calls (a0_0 : Int) (a0_1 : Bool) (a0_2 : Int) (a0_3 : ByteArray) (r : Bool) (w : World) (h : impl_FrameOk.f a0_0 a0_1 a0_2 a0_3 = some r) :
  Calls Tryd.prog 55 #[.agg #[.int .i64 a0_0, .bool a0_1, .int .i64 a0_2, .string a0_3]] w fun e w' => e = .returned (.bool r) ∧ Below w.heap.size w w' := by
 have hu79 := Tryd.underlying79
 have HB := Aside0.mk (Below.refl w.heap.size w)
 have H : (if a0_0 = 8 then (if a0_2 = 0 then (if a0_1 = true then (some false) else (if (a0_3.size : Int) = 1 then (if 0 < (a0_3.size : Int) then ((impl_in.f (wrap64 (bt a0_3 0)) 1 31).bind fun t366 => (some t366)) else (none)) else (some false))) else ((impl_isStream.f a0_2).bind fun t367 => (if t367 = true then (if a0_1 = true then (some false) else (if (a0_3.size : Int) = 1 then (if 0 < (a0_3.size : Int) then ((impl_in.f (wrap64 (bt a0_3 0)) 1 31).bind fun t368 => (some t368)) else (none)) else (some false))) else (some false)))) else ((impl_isStream.f a0_2).bind fun t369 => (if t369 = true then (if a0_0 = 0 then (some (decide ((a0_3.size : Int) ≤ 200))) else (if a0_0 = 1 then (some (decide ((a0_3.size : Int) ≤ 200))) else (if a0_0 = 3 then (if a0_3.toList = ([] : List UInt8) then (some (!a0_1)) else (some false)) else (some false)))) else (some false)))) = some r := h
 clear h
 replace H := sp H
 rcases H with ⟨c2, H⟩ | ⟨c2, H⟩
 ·skip
  have c2b0 : (a0_0 == 8) = true := beq_iff_eq.mpr c2
  have c2b1 : (a0_0 != 8) = false := bne_eq_false_iff_eq.mpr c2
  clear c2
  by_cases c3 : a0_2 = 0
  ·rw [if_pos c3] at H
   have c3b0 : (a0_2 == 0) = true := beq_iff_eq.mpr c3
   have c3b1 : (a0_2 != 0) = false := bne_eq_false_iff_eq.mpr c3
   clear c3
   by_cases c4 : a0_1 = true
   ·subst c4
    rw [if_pos rfl] at H
    obtain rfl := Option.some.inj H
    go_enter Tryd.func55, Tryd.ntmps55
    go_wp2_with (first | ((with_reducible refine gd 1 rfl ?_); (try (refine gate_guard (by rfl) ?_; dsimp only)); refine bx (N := 1) (cs := #[.int .i64 a0_0, .bool true, .int .i64 a0_2, .string a0_3]) (t := 79) ?_; intro gb365 hg w5 hbox hb; have BK365 := Aside0.mk (hbox); have GW365 := gw HB hg; have GE365 := GW365; replace HB := Aside0.mk (below_step (zb HB) hb); clear hb hbox hg; obtain ⟨hcz6_0, hcz6_1, hcz6_2, hcz6_3, hfz6_0, hfz6_1, hfz6_2, hfz6_3⟩ := c4 BK365))
    go_ret
    exact ⟨ze, zb HB⟩
   ·replace c4 := Bool.eq_false_iff.mpr c4
    subst c4
    rw [if_neg (show ¬ (false = true) by decide)] at H
    by_cases c7 : (a0_3.size : Int) = 1
    ·rw [if_pos c7] at H
     have c7b0 : ((a0_3.size : Int) == 1) = true := beq_iff_eq.mpr c7
     have c7b1 : ((a0_3.size : Int) != 1) = false := bne_eq_false_iff_eq.mpr c7
     clear c7
     by_cases c8 : 0 < (a0_3.size : Int)
     ·rw [if_pos c8] at H
      have c8b0 := decide_eq_true c8
      have c8b1 := decide_eq_true (by omega)
      clear c8
      obtain ⟨t366, A10, H⟩ := ob H
      (try dsimp only at H)
      obtain rfl := Option.some.inj H
      go_enter Tryd.func55, Tryd.ntmps55
      go_wp2_with (first | ((with_reducible refine gd 1 rfl ?_); (try (refine gate_guard (by rfl) ?_; dsimp only)); refine bx (N := 1) (cs := #[.int .i64 a0_0, .bool false, .int .i64 a0_2, .string a0_3]) (t := 79) ?_; intro gb365 hg w11 hbox hb; have BK365 := Aside0.mk (hbox); have GW365 := gw HB hg; have GE365 := GW365; replace HB := Aside0.mk (below_step (zb HB) hb); clear hb hbox hg; obtain ⟨hcz12_0, hcz12_1, hcz12_2, hcz12_3, hfz12_0, hfz12_1, hfz12_2, hfz12_3⟩ := c4 BK365; have p9 : 0 ≤ (0 : Int) := (by omega); have q9 : 0 < a0_3.size := (by have : (0 : Int) < (a0_3.size : Int) := of_decide_eq_true za; omega); have hx9 : ∀ h : 0 < a0_3.size, ((a0_3[0]'h).toNat : Int) = bt a0_3 0 := bt_at a0_3 0; clear p9; have qi9 : (0 < (a0_3.size : Int)) = True := eq_true (of_decide_eq_true za); replace q9 := eq_true q9) | (go_at_call 75; (with_reducible refine (impl_in.calls (wrap64 (bt a0_3 0)) 1 31 t366 _ A10.out).mono ?_); rintro e w' ⟨rfl, ⟨nd, rfl⟩⟩))
      go_ret
      exact ⟨ze, zb HB⟩
     ·rw [if_neg c8] at H
      exact absurd H (by simp)
    ·rw [if_neg c7] at H
     have c7b0 : ((a0_3.size : Int) == 1) = false := beq_eq_false_iff_ne.mpr c7
     have c7b1 : ((a0_3.size : Int) != 1) = true := bne_iff_ne.mpr c7
     obtain rfl := Option.some.inj H
     go_enter Tryd.func55, Tryd.ntmps55
     go_wp2_with (first | ((with_reducible refine gd 1 rfl ?_); (try (refine gate_guard (by rfl) ?_; dsimp only)); refine bx (N := 1) (cs := #[.int .i64 a0_0, .bool false, .int .i64 a0_2, .string a0_3]) (t := 79) ?_; intro gb365 hg w13 hbox hb; have BK365 := Aside0.mk (hbox); have GW365 := gw HB hg; have GE365 := GW365; replace HB := Aside0.mk (below_step (zb HB) hb); clear hb hbox hg; obtain ⟨hcz14_0, hcz14_1, hcz14_2, hcz14_3, hfz14_0, hfz14_1, hfz14_2, hfz14_3⟩ := c4 BK365))
     go_ret
     exact ⟨ze, zb HB⟩
  ·rw [if_neg c3] at H
   have c3b0 : (a0_2 == 0) = false := beq_eq_false_iff_ne.mpr c3
   have c3b1 : (a0_2 != 0) = true := bne_iff_ne.mpr c3
   obtain ⟨t367, A15, H⟩ := ob H
   (try dsimp only at H)
   by_cases c16 : t367 = true
   ·subst c16
    rw [if_pos rfl] at H
    by_cases c17 : a0_1 = true
    ·subst c17
     rw [if_pos rfl] at H
     obtain rfl := Option.some.inj H
     go_enter Tryd.func55, Tryd.ntmps55
     go_wp2_with (first | ((with_reducible refine gd 1 rfl ?_); (try (refine gate_guard (by rfl) ?_; dsimp only)); refine bx (N := 1) (cs := #[.int .i64 a0_0, .bool true, .int .i64 a0_2, .string a0_3]) (t := 79) ?_; intro gb365 hg w18 hbox hb; have BK365 := Aside0.mk (hbox); have GW365 := gw HB hg; have GE365 := GW365; replace HB := Aside0.mk (below_step (zb HB) hb); clear hb hbox hg; obtain ⟨hcz19_0, hcz19_1, hcz19_2, hcz19_3, hfz19_0, hfz19_1, hfz19_2, hfz19_3⟩ := c4 BK365) | (go_at_call 51; (with_reducible refine (impl_isStream.calls a0_2 true _ A15.out).mono ?_); rintro e w' ⟨rfl, ⟨nd, rfl⟩⟩))
     go_ret
     exact ⟨ze, zb HB⟩
    ·replace c17 := Bool.eq_false_iff.mpr c17
     subst c17
     rw [if_neg (show ¬ (false = true) by decide)] at H
     by_cases c20 : (a0_3.size : Int) = 1
     ·rw [if_pos c20] at H
      have c20b0 : ((a0_3.size : Int) == 1) = true := beq_iff_eq.mpr c20
      have c20b1 : ((a0_3.size : Int) != 1) = false := bne_eq_false_iff_eq.mpr c20
      clear c20
      by_cases c21 : 0 < (a0_3.size : Int)
      ·rw [if_pos c21] at H
       have c21b0 := decide_eq_true c21
       have c21b1 := decide_eq_true (by omega)
       clear c21
       obtain ⟨t368, A23, H⟩ := ob H
       (try dsimp only at H)
       obtain rfl := Option.some.inj H
       go_enter Tryd.func55, Tryd.ntmps55
       go_wp2_with (first | ((with_reducible refine gd 1 rfl ?_); (try (refine gate_guard (by rfl) ?_; dsimp only)); refine bx (N := 1) (cs := #[.int .i64 a0_0, .bool false, .int .i64 a0_2, .string a0_3]) (t := 79) ?_; intro gb365 hg w24 hbox hb; have BK365 := Aside0.mk (hbox); have GW365 := gw HB hg; have GE365 := GW365; replace HB := Aside0.mk (below_step (zb HB) hb); clear hb hbox hg; obtain ⟨hcz25_0, hcz25_1, hcz25_2, hcz25_3, hfz25_0, hfz25_1, hfz25_2, hfz25_3⟩ := c4 BK365) | (go_at_call 51; (with_reducible refine (impl_isStream.calls a0_2 true _ A15.out).mono ?_); rintro e w' ⟨rfl, ⟨nd, rfl⟩⟩; have p22 : 0 ≤ (0 : Int) := (by omega); have q22 : 0 < a0_3.size := (by have : (0 : Int) < (a0_3.size : Int) := of_decide_eq_true za; omega); have hx22 : ∀ h : 0 < a0_3.size, ((a0_3[0]'h).toNat : Int) = bt a0_3 0 := bt_at a0_3 0; clear p22; have qi22 : (0 < (a0_3.size : Int)) = True := eq_true (of_decide_eq_true za); replace q22 := eq_true q22) | (go_at_call 75; (with_reducible refine (impl_in.calls (wrap64 (bt a0_3 0)) 1 31 t368 _ A23.out).mono ?_); rintro e w' ⟨rfl, ⟨nd, rfl⟩⟩))
       go_ret
       exact ⟨ze, zb HB⟩
      ·rw [if_neg c21] at H
       exact absurd H (by simp)
     ·rw [if_neg c20] at H
      have c20b0 : ((a0_3.size : Int) == 1) = false := beq_eq_false_iff_ne.mpr c20
      have c20b1 : ((a0_3.size : Int) != 1) = true := bne_iff_ne.mpr c20
      obtain rfl := Option.some.inj H
      go_enter Tryd.func55, Tryd.ntmps55
      go_wp2_with (first | ((with_reducible refine gd 1 rfl ?_); (try (refine gate_guard (by rfl) ?_; dsimp only)); refine bx (N := 1) (cs := #[.int .i64 a0_0, .bool false, .int .i64 a0_2, .string a0_3]) (t := 79) ?_; intro gb365 hg w26 hbox hb; have BK365 := Aside0.mk (hbox); have GW365 := gw HB hg; have GE365 := GW365; replace HB := Aside0.mk (below_step (zb HB) hb); clear hb hbox hg; obtain ⟨hcz27_0, hcz27_1, hcz27_2, hcz27_3, hfz27_0, hfz27_1, hfz27_2, hfz27_3⟩ := c4 BK365) | (go_at_call 51; (with_reducible refine (impl_isStream.calls a0_2 true _ A15.out).mono ?_); rintro e w' ⟨rfl, ⟨nd, rfl⟩⟩))
      go_ret
      exact ⟨ze, zb HB⟩
   ·replace c16 := Bool.eq_false_iff.mpr c16
    subst c16
    rw [if_neg (show ¬ (false = true) by decide)] at H
    obtain rfl := Option.some.inj H
    go_enter Tryd.func55, Tryd.ntmps55
    go_wp2_with (first | ((with_reducible refine gd 1 rfl ?_); (try (refine gate_guard (by rfl) ?_; dsimp only)); refine bx (N := 1) (cs := #[.int .i64 a0_0, .bool a0_1, .int .i64 a0_2, .string a0_3]) (t := 79) ?_; intro gb365 hg w28 hbox hb; have BK365 := Aside0.mk (hbox); have GW365 := gw HB hg; have GE365 := GW365; replace HB := Aside0.mk (below_step (zb HB) hb); clear hb hbox hg; obtain ⟨hcz29_0, hcz29_1, hcz29_2, hcz29_3, hfz29_0, hfz29_1, hfz29_2, hfz29_3⟩ := c4 BK365) | (go_at_call 51; (with_reducible refine (impl_isStream.calls a0_2 false _ A15.out).mono ?_); rintro e w' ⟨rfl, ⟨nd, rfl⟩⟩))
    go_ret
    exact ⟨ze, zb HB⟩
 ·skip
  have c2b0 : (a0_0 == 8) = false := beq_eq_false_iff_ne.mpr c2
  have c2b1 : (a0_0 != 8) = true := bne_iff_ne.mpr c2
  obtain ⟨t369, A30, H⟩ := ob H
  (try dsimp only at H)
  have HC31 := Aside0.mk H
  clear H
  go_enter Tryd.func55, Tryd.ntmps55
  go_upto_if 35 with (first | ((with_reducible refine gd 1 rfl ?_); (try (refine gate_guard (by rfl) ?_; dsimp only)); refine bx (N := 1) (cs := #[.int .i64 a0_0, .bool a0_1, .int .i64 a0_2, .string a0_3]) (t := 79) ?_; intro gb365 hg w32 hbox hb; have BK365 := Aside0.mk (hbox); have GW365 := gw HB hg; have GE365 := GW365; replace HB := Aside0.mk (below_step (zb HB) hb); clear hb hbox hg; obtain ⟨hcz33_0, hcz33_1, hcz33_2, hcz33_3, hfz33_0, hfz33_1, hfz33_2, hfz33_3⟩ := c4 BK365) | ((with_reducible refine gq 51 rfl ?_); refine gl (some 34) Tryd.func51 #[.int .i64 a0_2] ?_; (with_reducible refine (impl_isStream.calls a0_2 t369 _ A30.out).mono ?_); rintro e w' ⟨rfl, ⟨nd, rfl⟩⟩; refine ⟨_, rfl, ?_⟩))
  (try simp only [Act.put, s1, s2, s3])
  have H := HC31.out
  clear HC31
  by_cases c34 : t369 = true
  ·subst c34
   rw [if_pos rfl] at H
   replace H := sp H
   rcases H with ⟨c35, H⟩ | ⟨c35, H⟩
   ·skip
    have c35b0 : (a0_0 == 0) = true := beq_iff_eq.mpr c35
    have c35b1 : (a0_0 != 0) = false := bne_eq_false_iff_eq.mpr c35
    clear c35
    (first | rw [c35b0] | rw [c35b1] | rw [c35b2] | (simp only [i64_w, i32_w]; rw [c35b0]) | skip)
    obtain rfl := Option.some.inj H
    obtain ⟨hcz36_0, hcz36_1, hcz36_2, hcz36_3, hfz36_0, hfz36_1, hfz36_2, hfz36_3⟩ := c4 BK365
    go_wp2
    go_ret
    exact ⟨ze, zb HB⟩
   ·skip
    have c35b0 : (a0_0 == 0) = false := beq_eq_false_iff_ne.mpr c35
    have c35b1 : (a0_0 != 0) = true := bne_iff_ne.mpr c35
    (first | rw [c35b0] | rw [c35b1] | rw [c35b2] | (simp only [i64_w, i32_w]; rw [c35b0]) | skip)
    replace H := sp H
    rcases H with ⟨c37, H⟩ | ⟨c37, H⟩
    ·skip
     have c37b0 : (a0_0 == 1) = true := beq_iff_eq.mpr c37
     have c37b1 : (a0_0 != 1) = false := bne_eq_false_iff_eq.mpr c37
     clear c37
     obtain rfl := Option.some.inj H
     obtain ⟨hcz38_0, hcz38_1, hcz38_2, hcz38_3, hfz38_0, hfz38_1, hfz38_2, hfz38_3⟩ := c4 BK365
     go_wp2
     go_ret
     exact ⟨ze, zb HB⟩
    ·skip
     have c37b0 : (a0_0 == 1) = false := beq_eq_false_iff_ne.mpr c37
     have c37b1 : (a0_0 != 1) = true := bne_iff_ne.mpr c37
     replace H := sp H
     rcases H with ⟨c39, H⟩ | ⟨c39, H⟩
     ·skip
      have c39b0 : (a0_0 == 3) = true := beq_iff_eq.mpr c39
      have c39b1 : (a0_0 != 3) = false := bne_eq_false_iff_eq.mpr c39
      clear c39
      by_cases c40 : a0_3.toList = ([] : List UInt8)
      ·rw [if_pos c40] at H
       have c40b0 : (a0_3.toList == ([] : List UInt8)) = true := beq_iff_eq.mpr c40
       have c40b1 : (a0_3.toList != ([] : List UInt8)) = false := bne_eq_false_iff_eq.mpr c40
       clear c40
       obtain rfl := Option.some.inj H
       obtain ⟨hcz41_0, hcz41_1, hcz41_2, hcz41_3, hfz41_0, hfz41_1, hfz41_2, hfz41_3⟩ := c4 BK365
       go_wp2
       go_ret
       exact ⟨ze, zb HB⟩
      ·rw [if_neg c40] at H
       have c40b0 : (a0_3.toList == ([] : List UInt8)) = false := beq_eq_false_iff_ne.mpr c40
       have c40b1 : (a0_3.toList != ([] : List UInt8)) = true := bne_iff_ne.mpr c40
       obtain rfl := Option.some.inj H
       obtain ⟨hcz42_0, hcz42_1, hcz42_2, hcz42_3, hfz42_0, hfz42_1, hfz42_2, hfz42_3⟩ := c4 BK365
       go_wp2
       go_ret
       exact ⟨ze, zb HB⟩
     ·skip
      have c39b0 : (a0_0 == 3) = false := beq_eq_false_iff_ne.mpr c39
      have c39b1 : (a0_0 != 3) = true := bne_iff_ne.mpr c39
      obtain rfl := Option.some.inj H
      obtain ⟨hcz43_0, hcz43_1, hcz43_2, hcz43_3, hfz43_0, hfz43_1, hfz43_2, hfz43_3⟩ := c4 BK365
      go_wp2
      go_ret
      exact ⟨ze, zb HB⟩
  ·replace c34 := Bool.eq_false_iff.mpr c34
   subst c34
   rw [if_neg (show ¬ (false = true) by decide)] at H
   obtain rfl := Option.some.inj H
   go_wp2
   go_ret
   exact ⟨ze, zb HB⟩

/-! ### impl_EndOk_1: function 54 -/
-- thin
def impl_EndOk_1.f (a0_0 : Int) (a0_1 : Bool) (a0_2 : Int) (a0_3 : ByteArray) : Option (Bool) := (impl_FrameOk.f a0_0 a0_1 a0_2 a0_3).bind fun t371 => (some (!t371))
set_option maxHeartbeats 8000000 in
set_option maxRecDepth 100000 in
theorem impl_EndOk_1.calls (a0_0 : Int) (a0_1 : Bool) (a0_2 : Int) (a0_3 : ByteArray) (r : Bool) (w : World) (h : impl_EndOk_1.f a0_0 a0_1 a0_2 a0_3 = some r) :
  Calls Tryd.prog 54 #[.agg #[.int .i64 a0_0, .bool a0_1, .int .i64 a0_2, .string a0_3]] w fun e w' => e = .returned (.bool r) ∧ Below w.heap.size w w' := by
 have hu79 := Tryd.underlying79
 have HB := Aside0.mk (Below.refl w.heap.size w)
 have H : ((impl_FrameOk.f a0_0 a0_1 a0_2 a0_3).bind fun t371 => (some (!t371))) = some r := h
 clear h
 obtain ⟨t371, A2, H⟩ := ob H
 (try dsimp only at H)
 obtain rfl := Option.some.inj H
 go_enter Tryd.func54, Tryd.ntmps54
 go_wp2_with (first | ((with_reducible refine gd 1 rfl ?_); refine bx (N := 1) (cs := #[.int .i64 a0_0, .bool a0_1, .int .i64 a0_2, .string a0_3]) (t := 79) ?_; intro gb370 hg w3 hbox hb; have BK370 := Aside0.mk (hbox); have GW370 := gw HB hg; have GE370 := GW370; replace HB := Aside0.mk (below_step (zb HB) hb); clear hb hbox hg; obtain ⟨hcz4_0, hcz4_1, hcz4_2, hcz4_3, hfz4_0, hfz4_1, hfz4_2, hfz4_3⟩ := c4 BK370) | ((with_reducible refine gq 55 rfl ?_); refine gl (some 4) Tryd.func55 #[.agg #[.int .i64 a0_0, .bool a0_1, .int .i64 a0_2, .string a0_3]] ?_; (with_reducible refine (impl_FrameOk.calls a0_0 a0_1 a0_2 a0_3 t371 _ A2.out).mono ?_); rintro e w5 ⟨rfl, hb⟩; refine ⟨_, rfl, ?_⟩; replace BK370 := kb BK370 hb; replace HB := Aside0.mk (below_step (zb HB) hb); (try clear hb)))
 go_ret
 exact ⟨ze, zb HB⟩

/-! ### IndexFunc_Frame: function 77 -/
-- by hand
theorem load_list_Frame (P : Program) (W : World) (a : Addr) (cs : List Value) (k : Nat) (hk : cs.length = k) (h : ∀ j v, cs[j]? = some v → W.cell? (a.add j) = some v) :
    Sem.run P (loadCellsFrom a 0 k #[]) W = .ok cs.toArray W := by
  have := run_loadCells_list (P := P) (w := W) a cs h
  rw [hk] at this
  exact this
/-- The first place, from i on, at which p says yes; -1, if there is none. -/
def idxFrom_Frame (p : S79 → Option Bool) : List (S79) → Int → Option Int
  | [], _ => some (-1)
  | x :: l, i => (p x).bind fun b => if b then some i else idxFrom_Frame p l (i + 1)
/-- What a predicate's value does when it is called. -/
def PredIs_Frame (P : Program) (g : Nat) (lb : Array Value) (p : S79 → Option Bool) (w : World) : Prop :=
  ∀ (W : World) (x : S79) (b : Bool), Below w.heap.size w W → p x = some b → Calls P g (#[.agg #[.int .i64 x.f0, .bool x.f1, .int .i64 x.f2, .string x.f3]] ++ lb) W fun e w' => e = .returned (.bool b) ∧ Below w.heap.size w w'
set_option maxHeartbeats 4000000 in
set_option maxRecDepth 100000 in
theorem IndexFunc_calls_Frame (g : Nat) (lb : Array Value) (p : S79 → Option Bool) (eg : ∀ args w, (callFunc g args).run Tryd.prog w = .ok (.enter g args) w) (A0 : Option Addr) (c0 : Nat) (l0 : List (S79)) (r : Int) (w : World) (hr0 : Kd.C k79 w A0 l0.length l0) (hc0 : l0.length ≤ c0)
    (hp : PredIs_Frame Tryd.prog g lb p w) (h : idxFrom_Frame p l0 0 = some r) (hl : l0.length ≤ 1000000000) :
    Calls Tryd.prog 77 #[.slice A0 l0.length c0, .func (.func g) #[] lb] w fun e w' => e = .returned (.int .i64 r) ∧ Below w.heap.size w w' := by
  have HR0 := Aside0.mk hr0
  have HP := Aside0.mk hp
  have H := Aside0.mk h
  clear hr0 hp h
  go_enter Tryd.func77, Tryd.ntmps77
  go_wp2
  go_loopg [5, 8] (l0.length) (fun kq v5 v8 w' => ∃ i : Nat, v8 = .int .i64 i ∧ Aside0 (kq + i = l0.length) ∧ Aside0 (idxFrom_Frame p (l0.drop i) i = some r) ∧ Aside0 (Below w.heap.size w w'))
  case atStart => exact ⟨0, rfl, ⟨by omega⟩, ⟨by simpa using H.out⟩, ⟨Below.refl _ _⟩⟩
  case round =>
    obtain ⟨i, rfl, HK, HX, HB⟩ := hrel
    have hk := HK.out
    by_cases hj : i < l0.length
    · have h0 : (0 : Int) ≤ (i : Int) := by omega
      have h1 : (i : Int) < (l0.length : Int) := by omega
      obtain ⟨x, hx⟩ : ∃ x, l0[i]? = some x := ⟨_, List.getElem?_eq_getElem hj⟩
      have hdrop : l0.drop i = x :: l0.drop (i + 1) := by
        rw [List.drop_eq_getElem_cons hj]
        rw [List.getElem?_eq_getElem hj] at hx
        rw [Option.some.inj hx]
      obtain ⟨_, _, hrd⟩ := Kd.C_below HR0.out HB.out
      obtain ⟨ad, e1, hcell⟩ := hrd (by omega)
      obtain ⟨c, hc1, hc2, hc3⟩ := hcell i x hx
      have hc4 := k79_open hc2
      subst hc4
      subst e1
      have q0 : wr.cell? (ad.add (i * 4)) = some (.int .i64 x.f0) := by have h9 := hc3 0 _ rfl; exact h9
      have q1 : wr.cell? ⟨(ad.add (i * 4)).block, (ad.add (i * 4)).off + 1, none⟩ = some (.bool x.f1) := by have h9 := hc3 1 _ rfl; rw [← Go.Addr.add_add] at h9; exact h9
      have q2 : wr.cell? ⟨(ad.add (i * 4)).block, (ad.add (i * 4)).off + 2, none⟩ = some (.int .i64 x.f2) := by have h9 := hc3 2 _ rfl; rw [← Go.Addr.add_add] at h9; exact h9
      have q3 : wr.cell? ⟨(ad.add (i * 4)).block, (ad.add (i * 4)).off + 3, none⟩ = some (.string x.f3) := by have h9 := hc3 3 _ rfl; rw [← Go.Addr.add_add] at h9; exact h9
      have hX := HX.out
      rw [hdrop, idxFrom_Frame] at hX
      obtain ⟨b, hb1, hb2⟩ := Option.bind_eq_some_iff.1 hX
      have hcall := HP.out wr x b HB.out hb1
      have HX2 := Aside0.mk hb2
      cases gk with
      | zero => omega
      | succ k1 =>
      clear hk hX hb2 hrd hcell hc1 hc2 hc3 hdrop
      cases b with
      | true =>
        go_wp2_with (go_at_fn g; refine hcall.mono ?_; rintro e w' ⟨rfl, hb'⟩)
        go_ret
        have h9 : some (i : Int) = some r := by simpa using HX2.out
        exact ⟨by rw [← Option.some.inj h9]; rfl, hb'⟩
      | false =>
        go_wp2_with (go_at_fn g; refine hcall.mono ?_; rintro e w' ⟨rfl, hb'⟩)
        go_roundg k1
        case measure => have := HK.out; omega
        case rel =>
          refine ⟨i + 1, by go_num, ⟨by have := HK.out; omega⟩, ⟨?_⟩, ⟨hb'⟩⟩
          have h9 := HX2.out
          rw [if_neg (by decide)] at h9
          rw [show ((i + 1 : Nat) : Int) = (i : Int) + 1 by omega]
          exact h9
    · have e : i = l0.length := by omega
      have hltz : ¬ (i : Int) < (l0.length : Int) := by omega
      clear hk hj
      have HE := Aside0.mk e
      clear e
      go_wp2
      go_ret
      have e := HE.out
      subst e
      have hX := HX.out
      rw [List.drop_length, idxFrom_Frame] at hX
      exact ⟨by rw [← Option.some.inj hX]; rfl, HB.out⟩

/-! ### ContainsFunc_Frame: function 53 -/
-- by hand
set_option maxHeartbeats 4000000 in
set_option maxRecDepth 100000 in
theorem ContainsFunc_calls_Frame (g : Nat) (lb : Array Value) (p : S79 → Option Bool) (eg : ∀ args w, (callFunc g args).run Tryd.prog w = .ok (.enter g args) w) (A0 : Option Addr) (c0 : Nat) (l0 : List (S79)) (r : Int) (w : World) (hr0 : Kd.C k79 w A0 l0.length l0) (hc0 : l0.length ≤ c0)
    (hp : PredIs_Frame Tryd.prog g lb p w) (h : idxFrom_Frame p l0 0 = some r) (hl : l0.length ≤ 1000000000) :
    Calls Tryd.prog 53 #[.slice A0 l0.length c0, .func (.func g) #[] lb] w fun e w' => e = .returned (.bool (decide (0 ≤ r))) ∧ Below w.heap.size w w' := by
  go_enter Tryd.func53, Tryd.ntmps53
  go_wp2_with (go_at_call 77; refine (IndexFunc_calls_Frame g lb p eg A0 c0 l0 r _ hr0 hc0 hp h hl).mono ?_; rintro e w' ⟨rfl, hb'⟩)
  go_ret
  exact ⟨rfl, hb'⟩
/-- What function g says of a field. -/
def ContainsFunc_Frame.p (k : Nat) (g : Nat) (x : S79) : Option Bool := if g = 54 then impl_EndOk_1.f x.f0 x.f1 x.f2 x.f3 else none
def ContainsFunc_Frame.known (g : Nat) : Prop := g = 54 ∨ False
instance (g : Nat) : Decidable (ContainsFunc_Frame.known g) := by unfold ContainsFunc_Frame.known; infer_instance
def ContainsFunc_Frame.f (k : Nat) (l0 : List (S79)) (a1 : Nat) : Option Bool :=
  if l0.length ≤ 1000000000 ∧ ContainsFunc_Frame.known a1 then (idxFrom_Frame (ContainsFunc_Frame.p k a1) l0 0).bind fun r => some (decide (0 ≤ r)) else none
theorem idxFrom_mono_Frame {p q : S79 → Option Bool} (hpq : ∀ x, LeO (p x) (q x)) : ∀ (l : List (S79)) (i : Int), LeO (idxFrom_Frame p l i) (idxFrom_Frame q l i)
  | [], _ => fun r h => h
  | x :: l, i => by
    intro r h
    unfold idxFrom_Frame at h ⊢
    obtain ⟨b, hb, hr⟩ := Option.bind_eq_some_iff.1 h
    rw [hpq x b hb]
    simp only [Option.bind_some]
    cases b with
    | true => exact hr
    | false => exact idxFrom_mono_Frame hpq l (i + 1) r hr
theorem ContainsFunc_Frame.p_mono (k g : Nat) (x : S79) : LeO (ContainsFunc_Frame.p k g x) (ContainsFunc_Frame.p (k + 1) g x) := by
  unfold ContainsFunc_Frame.p
  refine LeO.ite (LeO.refl _) ?_
  exact LeO.refl _
theorem ContainsFunc_Frame.mono : ∀ a0 a1 k, LeO (ContainsFunc_Frame.f k a0 a1) (ContainsFunc_Frame.f (k + 1) a0 a1) := by
  intro a0 a1 k
  unfold ContainsFunc_Frame.f
  refine LeO.ite ?_ (LeO.refl _)
  exact LeO.bind (idxFrom_mono_Frame (fun x => ContainsFunc_Frame.p_mono k a1 x) a0 0) (fun _ => LeO.refl _)
theorem ContainsFunc_Frame.enters (a1 : Nat) (h : ContainsFunc_Frame.known a1) : ∀ args w, (callFunc a1 args).run Tryd.prog w = .ok (.enter a1 args) w := by
  unfold ContainsFunc_Frame.known at h
  rcases h with e | h
  · subst e; exact enters_of Tryd.func54 (by kernel_rfl) rfl
  cases h
theorem ContainsFunc_Frame.pred (k a1 : Nat) (w : World) : PredIs_Frame Tryd.prog a1 #[] (ContainsFunc_Frame.p k a1) w := by
  intro W x b hW h
  unfold ContainsFunc_Frame.p at h
  split at h
  · rename_i e; subst e; rw [Array.append_empty]; exact (impl_EndOk_1.calls x.f0 x.f1 x.f2 x.f3 b W h).mono fun e w2 h2 => ⟨h2.1, below_step hW h2.2⟩
  cases h
set_option maxHeartbeats 4000000 in
set_option maxRecDepth 100000 in
theorem ContainsFunc_Frame.calls (k : Nat) (A0 : Option Addr) (c0 : Nat) (l0 : List (S79)) (a1 : Nat) (r : Bool) (w : World) (hr0 : Kd.C k79 w A0 l0.length l0) (hc0 : l0.length ≤ c0) (h : ContainsFunc_Frame.f k l0 a1 = some r) :
    Calls Tryd.prog 53 #[.slice A0 l0.length c0, .func (.func a1) #[] #[]] w fun e w' => e = .returned (.bool r) ∧ Below w.heap.size w w' := by
  unfold ContainsFunc_Frame.f at h
  split at h
  case isFalse => cases h
  rename_i hl
  obtain ⟨i, hi, hr⟩ := Option.bind_eq_some_iff.1 h
  obtain rfl := Option.some.inj hr
  exact ContainsFunc_calls_Frame a1 #[] _ (ContainsFunc_Frame.enters a1 hl.2) A0 c0 _ i w hr0 hc0 (ContainsFunc_Frame.pred k a1 w) hi hl.1

/-! ### impl_Table_size: function 81 -/
-- thin
def impl_Table_size.l0 : Nat → Int → List (S61) → Int → Int → Option (Int)
 | 0, _, _, _, _ => none
 | k + 1, x3, x7, x8, x9 => if x9 < x8 then (if 0 ≤ x9 then (if x9 < (x7.length : Int) then (impl_Table_size.l0 k (wrap64 (x3 + (wrap64 ((wrap64 ((((rd_T61 x7 x9).f0).size : Int) + (((rd_T61 x7 x9).f1).size : Int))) + 4)))) x7 x8 (wrap64 (x9 + 1))) else (none)) else (none)) else (some x3)
def impl_Table_size.f (k : Nat) (l0_0 : List (S61)) (a0_1 : Int) : Option (Int) := impl_Table_size.l0 k 0 l0_0 (l0_0.length : Int) 0
theorem impl_Table_size.mono_l : ∀ k, (∀ y0 y1 y2 y3, LeO (impl_Table_size.l0 k y0 y1 y2 y3) (impl_Table_size.l0 (k + 1) y0 y1 y2 y3))
 | 0 => fun _ _ _ _ r h => by simp [impl_Table_size.l0] at h
 | k + 1 => by
  have ih0 := impl_Table_size.mono_l k
  ·intro y0 y1 y2 y3
   unfold impl_Table_size.l0
   exact zm
theorem impl_Table_size.mono : ∀ a0 a1 k, LeO (impl_Table_size.f k a0 a1) (impl_Table_size.f (k + 1) a0 a1) := by
 intro a0 a1 k
 have ih0 := impl_Table_size.mono_l k
 unfold impl_Table_size.f
 exact zm
set_option maxHeartbeats 8000000 in
set_option maxRecDepth 100000 in
theorem impl_Table_size.calls (k : Nat) (A0_0 : Option Addr) (c0_0 : Nat) (l0_0 : List (S61)) (a0_1 : Int) (r : Int) (w : World) (hr0_0 : Kd.C k61 w A0_0 l0_0.length l0_0) (hc0_0 : l0_0.length ≤ c0_0) (h : impl_Table_size.f k l0_0 a0_1 = some r) :
  Calls Tryd.prog 81 #[.agg #[.slice A0_0 l0_0.length c0_0, .int .i64 a0_1]] w fun e w' => e = .returned (.int .i64 r) ∧ Below w.heap.size w w' := by
 have hu34 := Tryd.underlying34
 have hu61 := Tryd.underlying61
 have HR0_0 := Aside0.mk hr0_0
 have HC0_0 := Aside0.mk hc0_0
 clear hr0_0 hc0_0
 have HB := Aside0.mk (Below.refl w.heap.size w)
 have H : (impl_Table_size.l0 k 0 l0_0 (l0_0.length : Int) 0) = some r := h
 clear h
 have H' := Aside0.mk H
 clear H
 go_enter Tryd.func81, Tryd.ntmps81
 go_wp2_with (first | ((with_reducible refine gd 1 rfl ?_); refine bx (N := 1) (cs := #[.slice A0_0 l0_0.length c0_0, .int .i64 a0_1]) (t := 34) ?_; intro gb372 hg w2 hbox hb; have BK372 := Aside0.mk (hbox); have GW372 := gw HB hg; have GE372 := GW372; replace HB := Aside0.mk (below_step (zb HB) hb); clear hb hbox hg; obtain ⟨hcz3_0, hcz3_1, hfz3_0, hfz3_1⟩ := c2 BK372))
 go_loopg [3, 9] k (fun kq v3 v9 w' => ∃ (x3_1 : Int) (x9_1 : Int), v3 = .int .i64 x3_1 ∧ v9 = .int .i64 x9_1 ∧ Aside0 (impl_Table_size.l0 kq x3_1 l0_0 (l0_0.length : Int) x9_1 = some r) ∧ Aside0 (kq ≤ k) ∧ Aside0 (w'.heap[gb372]? = some (.cells #[(.slice A0_0 l0_0.length c0_0), .int .i64 a0_1] 34 (0, 0))) ∧ Aside0 (Below w.heap.size w w'))
 case atStart => exact ⟨(0), (0), zs, zs, H', ⟨Nat.le_refl _⟩, ⟨by exact zk BK372⟩, ⟨zb HB⟩⟩
 case round =>
  clear H'
  try clear p2
  try clear hcz3_0
  try clear hcz3_1
  try clear hfz3_0
  try clear hfz3_1
  obtain ⟨x3_1, x9_1, rfl, rfl, HA, HK1, BK372, HB⟩ := hrel
  cases gk with
  | zero => exact absurd HA.out (by simp [impl_Table_size.l0])
  | succ k1 =>
   have H := HA.out
   clear HA
   simp only [impl_Table_size.l0] at H
   replace H := sp H
   rcases H with ⟨c4, H⟩ | ⟨c4, H⟩
   ·skip
    have c4b0 := decide_eq_true c4
    clear c4
    by_cases c5 : 0 ≤ x9_1
    ·rw [if_pos c5] at H
     have c5b0 := decide_eq_true c5
     clear c5
     by_cases c6 : x9_1 < (l0_0.length : Int)
     ·rw [if_pos c6] at H
      have c6b0 := decide_eq_true c6
      clear c6
      have H' := Aside0.mk H
      clear H
      have p373 : 0 ≤ (x9_1 : Int) := of_decide_eq_true za
      have q373 : x9_1 < (l0_0.length : Int) := of_decide_eq_true za
      obtain ⟨ad373, e373, hx373_0, hx373_1, hx373_2⟩ := at_T61 HR0_0.out x9_1 p373 q373
      cases e373
      replace hx373_0 := cb0 hx373_0 HB
      replace hx373_1 := cb0 hx373_1 HB
      replace hx373_2 := cb0 hx373_2 HB
      replace p373 := eq_true p373
      replace q373 := eq_true q373
      go_wp2_with (first | ((with_reducible refine gd 5 rfl ?_); refine bx (N := 5) (cs := #[.string (⟨#[]⟩ : ByteArray), .string (⟨#[]⟩ : ByteArray), .bool false]) (t := 61) ?_; intro gb374 hg w7 hbox hb; have BK374 := Aside0.mk (hbox); have GW374 := gw HB hg; have GE374 := GW374; replace HB := Aside0.mk (below_step (zb HB) hb); obtain ⟨NB372_374, NB374_372⟩ := nb BK372 hg; replace BK372 := kb BK372 hb; clear hb hbox hg; have hnb8 := NB374_372.out; have hnc8 := NB372_374.out; obtain ⟨hcz9_0, hcz9_1, hcz9_2, hfz9_0, hfz9_1, hfz9_2⟩ := c3 BK374))
      go_roundg k1
      case measure => have := HK1.out; omega
      case rel => exact ⟨(wrap64 (x3_1 + (wrap64 ((wrap64 ((((rd_T61 l0_0 x9_1).f0).size : Int) + (((rd_T61 l0_0 x9_1).f1).size : Int))) + 4)))), (wrap64 (x9_1 + 1)), zs, zs, H', ⟨by have := HK1.out; omega⟩, ⟨zp BK372⟩, ⟨zb HB⟩⟩
     ·rw [if_neg c6] at H
      exact absurd H (by simp)
    ·rw [if_neg c5] at H
     exact absurd H (by simp)
   ·skip
    have c4b0 := decide_eq_false c4
    clear c4
    obtain rfl := Option.some.inj H
    go_wp2
    go_ret
    exact ⟨ze, zb HB⟩

/-! ### impl_TableOk: function 56 -/
-- thin
def impl_TableOk.f (k : Nat) (l0_0 : List (S61)) (a0_1 : Int) : Option (Bool) := (impl_in.f a0_1 0 64).bind fun t376 => (if t376 = true then ((ContainsFunc_Field.f k l0_0 79).bind fun t377 => (if t377 = true then (some false) else ((impl_Table_size.f k l0_0 a0_1).bind fun t378 => (some (decide (t378 ≤ a0_1)))))) else (some false))
theorem impl_TableOk.mono : ∀ a0 a1 k, LeO (impl_TableOk.f k a0 a1) (impl_TableOk.f (k + 1) a0 a1) := by
 intro a0 a1 k
 unfold impl_TableOk.f
 have m0 := @ContainsFunc_Field.mono
 have m1 := @impl_Table_size.mono
 exact zm
def impl_TableOk.T1 : Bool × List (List Nat × List Nat) := (true, [([], []), ([0], [0]), ([1], [1]), ([2, 2], [2]), ([3], [3]), ([4, 3], [3, 4]), ([5, 3, 3], [3, 5]), ([6, 3], [3, 6]), ([3, 7], [3, 7]), ([8, 6], [8]), ([9], [9]), ([10, 9, 9], [9, 10]), ([9], [9]), ([12, 9], [9, 12]), ([11, 13, 9], [9, 11, 13]), ([9, 14], [9, 14]), ([15, 11, 0, 1, 2, 3, 4, 5, 6, 7, 8, 9, 10, 11, 12, 13, 14, 15], [15])])
def impl_TableOk.B1 : List Nat := [0, 1, 3, 7, 15, 31, 63, 127, 255, 511, 1023, 2047, 1023, 5119, 16383, 32767, 65535]
theorem impl_TableOk.tab1 : rtab .any (opsOf Tryd.f56 1) = impl_TableOk.T1 := by kernel_rfl
theorem impl_TableOk.bits1 : waitsOk impl_TableOk.T1.2 impl_TableOk.B1 = true := by kernel_rfl
set_option maxHeartbeats 8000000 in
set_option maxRecDepth 100000 in
theorem impl_TableOk.calls (k : Nat) (A0_0 : Option Addr) (c0_0 : Nat) (l0_0 : List (S61)) (a0_1 : Int) (r : Bool) (w : World) (hr0_0 : Kd.C k61 w A0_0 l0_0.length l0_0) (hc0_0 : l0_0.length ≤ c0_0) (h : impl_TableOk.f k l0_0 a0_1 = some r) :
  Calls Tryd.prog 56 #[.agg #[.slice A0_0 l0_0.length c0_0, .int .i64 a0_1]] w fun e w' => e = .returned (.bool r) ∧ Below w.heap.size w w' := by
 have hu34 := Tryd.underlying34
 have HR0_0 := Aside0.mk hr0_0
 have HC0_0 := Aside0.mk hc0_0
 clear hr0_0 hc0_0
 have HB := Aside0.mk (Below.refl w.heap.size w)
 have H : ((impl_in.f a0_1 0 64).bind fun t376 => (if t376 = true then ((ContainsFunc_Field.f k l0_0 79).bind fun t377 => (if t377 = true then (some false) else ((impl_Table_size.f k l0_0 a0_1).bind fun t378 => (some (decide (t378 ≤ a0_1)))))) else (some false))) = some r := h
 clear h
 obtain ⟨t376, A2, H⟩ := ob H
 (try dsimp only at H)
 by_cases c3 : t376 = true
 ·subst c3
  rw [if_pos rfl] at H
  obtain ⟨t377, A4, H⟩ := ob H
  (try dsimp only at H)
  by_cases c5 : t377 = true
  ·subst c5
   rw [if_pos rfl] at H
   obtain rfl := Option.some.inj H
   go_enter Tryd.func56, Tryd.ntmps56
   try go_wp2_with (first | ((with_reducible refine gd 1 rfl ?_); refine bx (N := 1) (cs := #[.slice A0_0 l0_0.length c0_0, .int .i64 a0_1]) (t := 34) ?_; intro gb375 hg w6 hbox hb; have BK375 := Aside0.mk (hbox); have GW375 := gw HB hg; have GE375 := GW375; replace HB := Aside0.mk (below_step (zb HB) hb); clear hb hbox hg))
   replace BK375 := Aside0.mk (blk_drew BK375.out)
   replace HB := Aside0.mk (below_drew1 HB.out)
   refine st 17 (b2 BK375) (fun hHeld => ?_); refine with_tabW impl_TableOk.tab1 impl_TableOk.bits1 (fun HT_ HW_ => ?_)
   generalize w6.drew = w7 at BK375 HB hHeld ⊢
   refine pu 0 (some 3) (bm 17 1) rfl rfl ?_
   refine tk 1 (some 4) (bm 17 3) rfl rfl hHeld ?_
   refine one_ (i := 2) (N := some 5) (bm 17 7) rfl rfl (one_of HT_.out (by kernel_rfl)) (by decide) (fun K hK => ?_)
   refine gs Tryd.func75 #[.int .i64 a0_1, .int .i64 0, .int .i64 64] ?_
   with_reducible refine (impl_in.calls a0_1 0 64 true _ A2.out).mono ?_
   rintro e w' ⟨rfl, ⟨nd, rfl⟩⟩
   refine ⟨_, rfl, ?_⟩
   refine hK.out _ _ (b2 BK375) (fun hHeld => ?_)
   clear hK K
   refine nm ?_
   refine pu 3 (some 6) (bm 17 15) rfl rfl ?_
   refine pu 4 (some 7) (bm 17 31) rfl rfl ?_
   refine tk 5 (some 8) (bm 17 63) rfl rfl hHeld ?_
   refine one_ (i := 6) (N := some 9) (bm 17 127) rfl rfl (one_of HT_.out (by kernel_rfl)) (by decide) (fun K hK => ?_)
   refine gs Tryd.func78 #[.slice A0_0 l0_0.length c0_0, .func (.func 79) #[] #[]] ?_
   with_reducible refine (ContainsFunc_Field.calls k _ _ l0_0 79 true _ ?side1 ?side2 A4.out).mono ?_
   (case side1 => exact (Kd.C_below HR0_0.out (zb HB)))
   (case side2 => exact HC0_0.out)
   rintro e w8 ⟨rfl, hb⟩
   refine ⟨_, rfl, ?_⟩
   replace BK375 := kb BK375 hb
   replace HB := Aside0.mk (below_step (zb HB) hb)
   (try clear hb)
   refine hK.out _ _ (b2 BK375) (fun hHeld => ?_)
   clear hK K
   refine nm ?_
   refine pu 7 (some 10) (bm 17 255) rfl rfl ?_
   refine pu 8 (some 11) (bm 17 511) rfl rfl ?_
   refine pu 9 (some 12) (bm 17 1023) rfl rfl ?_
   refine pv 10 (some 13) (bm 17 2047) rfl rfl ?_
   refine pv 11 (some 14) (bm 17 4095) rfl rfl ?_
   refine pv 12 (some 15) (bm 17 8191) rfl rfl ?_
   refine pv 13 (some 16) (bm 17 16383) rfl rfl ?_
   refine pv 14 (some 17) (bm 17 32767) rfl rfl ?_
   refine pu 15 (some 18) (bm 17 65535) rfl rfl ?_
   refine pu 16 (some 2) (bm 17 131071) rfl rfl ?_
   refine done_ (done_of HT_.out (by kernel_rfl)) ?_
   try go_wp2
   go_ret
   exact ⟨ze, zb HB⟩
  ·replace c5 := Bool.eq_false_iff.mpr c5
   subst c5
   rw [if_neg (show ¬ (false = true) by decide)] at H
   obtain ⟨t378, A9, H⟩ := ob H
   (try dsimp only at H)
   obtain rfl := Option.some.inj H
   go_enter Tryd.func56, Tryd.ntmps56
   try go_wp2_with (first | ((with_reducible refine gd 1 rfl ?_); refine bx (N := 1) (cs := #[.slice A0_0 l0_0.length c0_0, .int .i64 a0_1]) (t := 34) ?_; intro gb375 hg w10 hbox hb; have BK375 := Aside0.mk (hbox); have GW375 := gw HB hg; have GE375 := GW375; replace HB := Aside0.mk (below_step (zb HB) hb); clear hb hbox hg))
   replace BK375 := Aside0.mk (blk_drew BK375.out)
   replace HB := Aside0.mk (below_drew1 HB.out)
   refine st 17 (b2 BK375) (fun hHeld => ?_); refine with_tabW impl_TableOk.tab1 impl_TableOk.bits1 (fun HT_ HW_ => ?_)
   generalize w10.drew = w11 at BK375 HB hHeld ⊢
   refine pu 0 (some 3) (bm 17 1) rfl rfl ?_
   refine tk 1 (some 4) (bm 17 3) rfl rfl hHeld ?_
   refine one_ (i := 2) (N := some 5) (bm 17 7) rfl rfl (one_of HT_.out (by kernel_rfl)) (by decide) (fun K hK => ?_)
   refine gs Tryd.func75 #[.int .i64 a0_1, .int .i64 0, .int .i64 64] ?_
   with_reducible refine (impl_in.calls a0_1 0 64 true _ A2.out).mono ?_
   rintro e w' ⟨rfl, ⟨nd, rfl⟩⟩
   refine ⟨_, rfl, ?_⟩
   refine hK.out _ _ (b2 BK375) (fun hHeld => ?_)
   clear hK K
   refine nm ?_
   refine pu 3 (some 6) (bm 17 15) rfl rfl ?_
   refine pu 4 (some 7) (bm 17 31) rfl rfl ?_
   refine tk 5 (some 8) (bm 17 63) rfl rfl hHeld ?_
   refine one_ (i := 6) (N := some 9) (bm 17 127) rfl rfl (one_of HT_.out (by kernel_rfl)) (by decide) (fun K hK => ?_)
   refine gs Tryd.func78 #[.slice A0_0 l0_0.length c0_0, .func (.func 79) #[] #[]] ?_
   with_reducible refine (ContainsFunc_Field.calls k _ _ l0_0 79 false _ ?side1 ?side2 A4.out).mono ?_
   (case side1 => exact (Kd.C_below HR0_0.out (zb HB)))
   (case side2 => exact HC0_0.out)
   rintro e w12 ⟨rfl, hb⟩
   refine ⟨_, rfl, ?_⟩
   replace BK375 := kb BK375 hb
   replace HB := Aside0.mk (below_step (zb HB) hb)
   (try clear hb)
   refine hK.out _ _ (b2 BK375) (fun hHeld => ?_)
   clear hK K
   refine nm ?_
   refine pu 7 (some 10) (bm 17 255) rfl rfl ?_
   refine pu 8 (some 11) (bm 17 511) rfl rfl ?_
   refine pu 9 (some 12) (bm 17 1023) rfl rfl ?_
   refine pu 12 (some 15) (bm 17 5119) rfl rfl ?_
   refine tk 10 (some 13) (bm 17 6143) rfl rfl hHeld ?_
   refine tk 13 (some 16) (bm 17 14335) rfl rfl hHeld ?_
   refine one_ (i := 11) (N := some 14) (bm 17 16383) rfl rfl (one_of HT_.out (by kernel_rfl)) (by decide) (fun K hK => ?_)
   refine gs Tryd.func81 #[.agg #[.slice A0_0 l0_0.length c0_0, .int .i64 a0_1]] ?_
   with_reducible refine (impl_Table_size.calls k _ _ l0_0 a0_1 t378 _ ?side1 ?side2 A9.out).mono ?_
   (case side1 => exact zc (Kd.C_below HR0_0.out HB.out))
   (case side2 => exact HC0_0.out)
   rintro e w13 ⟨rfl, hb⟩
   refine ⟨_, rfl, ?_⟩
   replace BK375 := kb BK375 hb
   replace HB := Aside0.mk (below_step (zb HB) hb)
   (try clear hb)
   refine hK.out _ _ (b2 BK375) (fun hHeld => ?_)
   clear hK K
   refine nm ?_
   refine pu 14 (some 17) (bm 17 32767) rfl rfl ?_
   refine pu 15 (some 18) (bm 17 65535) rfl rfl ?_
   refine pu 16 (some 2) (bm 17 131071) rfl rfl ?_
   refine done_ (done_of HT_.out (by kernel_rfl)) ?_
   try go_wp2
   go_ret
   exact ⟨ze, zb HB⟩
 ·replace c3 := Bool.eq_false_iff.mpr c3
  subst c3
  rw [if_neg (show ¬ (false = true) by decide)] at H
  obtain rfl := Option.some.inj H
  go_enter Tryd.func56, Tryd.ntmps56
  try go_wp2_with (first | ((with_reducible refine gd 1 rfl ?_); refine bx (N := 1) (cs := #[.slice A0_0 l0_0.length c0_0, .int .i64 a0_1]) (t := 34) ?_; intro gb375 hg w14 hbox hb; have BK375 := Aside0.mk (hbox); have GW375 := gw HB hg; have GE375 := GW375; replace HB := Aside0.mk (below_step (zb HB) hb); clear hb hbox hg))
  replace BK375 := Aside0.mk (blk_drew BK375.out)
  replace HB := Aside0.mk (below_drew1 HB.out)
  refine st 17 (b2 BK375) (fun hHeld => ?_); refine with_tabW impl_TableOk.tab1 impl_TableOk.bits1 (fun HT_ HW_ => ?_)
  generalize w14.drew = w15 at BK375 HB hHeld ⊢
  refine pu 0 (some 3) (bm 17 1) rfl rfl ?_
  refine tk 1 (some 4) (bm 17 3) rfl rfl hHeld ?_
  refine one_ (i := 2) (N := some 5) (bm 17 7) rfl rfl (one_of HT_.out (by kernel_rfl)) (by decide) (fun K hK => ?_)
  refine gs Tryd.func75 #[.int .i64 a0_1, .int .i64 0, .int .i64 64] ?_
  with_reducible refine (impl_in.calls a0_1 0 64 false _ A2.out).mono ?_
  rintro e w' ⟨rfl, ⟨nd, rfl⟩⟩
  refine ⟨_, rfl, ?_⟩
  refine hK.out _ _ (b2 BK375) (fun hHeld => ?_)
  clear hK K
  refine nm ?_
  refine pu 3 (some 6) (bm 17 15) rfl rfl ?_
  refine pv 4 (some 7) (bm 17 31) rfl rfl ?_
  refine pv 5 (some 8) (bm 17 63) rfl rfl ?_
  refine pv 6 (some 9) (bm 17 127) rfl rfl ?_
  refine pv 7 (some 10) (bm 17 255) rfl rfl ?_
  refine pu 8 (some 11) (bm 17 511) rfl rfl ?_
  refine pu 9 (some 12) (bm 17 1023) rfl rfl ?_
  refine pv 10 (some 13) (bm 17 2047) rfl rfl ?_
  refine pv 11 (some 14) (bm 17 4095) rfl rfl ?_
  refine pv 12 (some 15) (bm 17 8191) rfl rfl ?_
  refine pv 13 (some 16) (bm 17 16383) rfl rfl ?_
  refine pv 14 (some 17) (bm 17 32767) rfl rfl ?_
  refine pu 15 (some 18) (bm 17 65535) rfl rfl ?_
  refine pu 16 (some 2) (bm 17 131071) rfl rfl ?_
  refine done_ (done_of HT_.out (by kernel_rfl)) ?_
  try go_wp2
  go_ret
  exact ⟨ze, zb HB⟩

end Go.Proofs.YtlpibelofcabhaaDoor.PFnExactEndCall
