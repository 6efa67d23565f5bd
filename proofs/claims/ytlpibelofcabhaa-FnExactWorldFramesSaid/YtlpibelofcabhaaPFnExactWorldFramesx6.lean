-- WRITTEN BY a turned print (wip/tools of the prover's repo)
import Derived.Test.YtlpibelofcabhaaPFnExactWorldFramesx0
import Derived.Test.YtlpibelofcabhaaPFnExactWorldFramesx5
namespace Go.Proofs.Ytlpibelofcabhaa.PFnExactWorldFrames
open Go.RowKit Go.Proofs.YtlpibelofcabhaaW.PrintWords Go.Proofs.YtlpibelofcabhaaW.PrintLast Go.Proofs.YtlpibelofcabhaaW.PrintMore Go.Proofs.Ytlpibelofcabhaa.Lm
attribute [local go_sem] max2_int min2_int max_two min_two max_three min_three max_four min_four   -- for this text's walks alone
set_option linter.unusedVariables false
set_option linter.unusedSimpArgs false

/-! ### spec_FrameOk: function 93 -/
-- thin
def spec_FrameOk.j0 : Nat → Int → Bool → Int → Bool → Int → ByteArray → Option (Bool)
 | 0, _, _, _, _, _, _ => none
 | k + 1, x4, x5, x289000, x289001, x289002, x289003 => if x5 = true then ((spec_l12Stream.f x289002).bind fun t289 => (if t289 = true then (some (decide ((x289003.size : Int) ≤ 200))) else (some false))) else (if x4 = 3 then ((spec_l12Stream.f x289002).bind fun t290 => (if t290 = true then (if x289001 = true then (some false) else (some (x289003.toList == ([] : List UInt8)))) else (some false))) else (if x4 = 8 then (if x289002 = 0 then (if x289001 = true then (some false) else (if (x289003.size : Int) = 1 then (if 0 < (x289003.size : Int) then ((spec_l6In.f (wrap64 (bt x289003 0)) 1 31).bind fun t291 => (some t291)) else (none)) else (some false))) else ((spec_l12Stream.f x289002).bind fun t292 => (if t292 = true then (if x289001 = true then (some false) else (if (x289003.size : Int) = 1 then (if 0 < (x289003.size : Int) then ((spec_l6In.f (wrap64 (bt x289003 0)) 1 31).bind fun t293 => (some t293)) else (none)) else (some false))) else (some false)))) else (some false)))
def spec_FrameOk.f (k : Nat) (a0_0 : Int) (a0_1 : Bool) (a0_2 : Int) (a0_3 : ByteArray) : Option (Bool) := if a0_0 = 0 then (spec_FrameOk.j0 k a0_0 (a0_0 == 0) a0_0 a0_1 a0_2 a0_3) else (spec_FrameOk.j0 k a0_0 (a0_0 == 1) a0_0 a0_1 a0_2 a0_3)
theorem spec_FrameOk.mono_l : ∀ k, (∀ y0 y1 y2 y3 y4 y5, LeO (spec_FrameOk.j0 k y0 y1 y2 y3 y4 y5) (spec_FrameOk.j0 (k + 1) y0 y1 y2 y3 y4 y5))
 | 0 => fun _ _ _ _ _ _ r h => by simp [spec_FrameOk.j0] at h
 | k + 1 => by
  have ih0 := spec_FrameOk.mono_l k
  ·intro y0 y1 y2 y3 y4 y5
   unfold spec_FrameOk.j0
   exact zm
theorem spec_FrameOk.mono : ∀ a0 a1 a2 a3 k, LeO (spec_FrameOk.f k a0 a1 a2 a3) (spec_FrameOk.f (k + 1) a0 a1 a2 a3) := by
 intro a0 a1 a2 a3 k
 have ih0 := spec_FrameOk.mono_l k
 unfold spec_FrameOk.f
 exact zm
set_option maxHeartbeats 8000000 in
set_option maxRecDepth 100000 in
theorem spec_FrameOk.calls (k : Nat) (a0_0 : Int) (a0_1 : Bool) (a0_2 : Int) (a0_3 : ByteArray) (r : Bool) (w : World) (h : spec_FrameOk.f k a0_0 a0_1 a0_2 a0_3 = some r) :
  Calls Try.prog 93 #[.agg #[.int .i64 a0_0, .bool a0_1, .int .i64 a0_2, .string a0_3]] w fun e w' => e = .returned (.bool r) ∧ Below w.heap.size w w' := by
 have hu110 := Try.underlying110
 have HB := Aside0.mk (Below.refl w.heap.size w)
 have H : (if a0_0 = 0 then (spec_FrameOk.j0 k a0_0 (a0_0 == 0) a0_0 a0_1 a0_2 a0_3) else (spec_FrameOk.j0 k a0_0 (a0_0 == 1) a0_0 a0_1 a0_2 a0_3)) = some r := h
 clear h
 have HC2 := Aside0.mk H
 clear H
 go_enter Try.func93, Try.ntmps93
 go_upto_if 5 with (first | ((with_reducible refine gd 1 rfl ?_); (try (refine gate_guard (by rfl) ?_; dsimp only)); refine bx (N := 1) (cs := #[.int .i64 a0_0, .bool a0_1, .int .i64 a0_2, .string a0_3]) (t := 110) ?_; intro gb288 hg w3 hbox hb; have BK288 := Aside0.mk (hbox); have GW288 := gw HB hg; have GE288 := GW288; replace HB := Aside0.mk (below_step (zb HB) hb); clear hb hbox hg; obtain ⟨hcz4_0, hcz4_1, hcz4_2, hcz4_3, hfz4_0, hfz4_1, hfz4_2, hfz4_3⟩ := c4 BK288))
 (try simp only [Act.put, s1, s2, s3])
 go_cut [5] (fun v5 wc => ∃ (kq : Nat) (x5_1 : Bool), v5 = .bool x5_1 ∧ Aside0 (spec_FrameOk.j0 kq a0_0 x5_1 a0_0 a0_1 a0_2 a0_3 = some r) ∧ Aside0 (kq ≤ k) ∧ Aside0 (wc.heap[gb288]? = some (.cells #[.int .i64 a0_0, .bool a0_1, .int .i64 a0_2, .string a0_3] 110 (0, 0))) ∧ Aside0 (Below w.heap.size w wc))
 case first =>
  have H := HC2.out
  clear HC2
  replace H := sp H
  rcases H with ⟨c5, H⟩ | ⟨c5, H⟩
  ·skip
   have c5b0 : (a0_0 == 0) = true := beq_iff_eq.mpr c5
   have c5b1 : (a0_0 != 0) = false := bne_eq_false_iff_eq.mpr c5
   clear c5
   (first | rw [c5b0] | rw [c5b1] | rw [c5b2] | (simp only [i64_w, i32_w]; rw [c5b0]) | skip)
   have H' := Aside0.mk H
   clear H
   go_wp2
   go_meet
   case rel => exact ⟨_, ((a0_0 == 0)), zs, H', ⟨by first | omega | exact Nat.le_refl _⟩, ⟨by exact zk BK288⟩, ⟨zb HB⟩⟩
  ·skip
   have c5b0 : (a0_0 == 0) = false := beq_eq_false_iff_ne.mpr c5
   have c5b1 : (a0_0 != 0) = true := bne_iff_ne.mpr c5
   (first | rw [c5b0] | rw [c5b1] | rw [c5b2] | (simp only [i64_w, i32_w]; rw [c5b0]) | skip)
   have H' := Aside0.mk H
   clear H
   go_wp2
   go_meet
   case rel => exact ⟨_, ((a0_0 == 1)), zs, H', ⟨by first | omega | exact Nat.le_refl _⟩, ⟨by exact zk BK288⟩, ⟨zb HB⟩⟩
 case rest =>
  clear HC2
  try clear p2
  try clear c5
  try clear c5b0
  try clear c5b1
  try clear c5b2
  try clear hcz4_0
  try clear hcz4_1
  try clear hcz4_2
  try clear hcz4_3
  try clear hfz4_0
  try clear hfz4_1
  try clear hfz4_2
  try clear hfz4_3
  obtain ⟨kq, x5_1, rfl, HA, HJ1, BK288, HB⟩ := hcut
  cases kq with
  | zero => exact absurd HA.out (by simp [spec_FrameOk.j0])
  | succ kj1 =>
   have H := HA.out
   clear HA
   simp only [spec_FrameOk.j0] at H
   by_cases c6 : x5_1 = true
   ·subst c6
    rw [if_pos rfl] at H
    obtain ⟨t289, A7, H⟩ := ob H
    (try dsimp only at H)
    by_cases c8 : t289 = true
    ·subst c8
     rw [if_pos rfl] at H
     obtain rfl := Option.some.inj H
     obtain ⟨hcz9_0, hcz9_1, hcz9_2, hcz9_3, hfz9_0, hfz9_1, hfz9_2, hfz9_3⟩ := c4 BK288
     go_wp2_with (first | ((with_reducible refine gq 133 rfl ?_); refine gl (some 10) Try.func133 #[.int .i64 a0_2] ?_; (with_reducible refine (spec_l12Stream.calls a0_2 true _ A7.out).mono ?_); rintro e w' ⟨rfl, ⟨nd, rfl⟩⟩; refine ⟨_, rfl, ?_⟩))
     go_ret
     exact ⟨ze, zb HB⟩
    ·replace c8 := Bool.eq_false_iff.mpr c8
     subst c8
     rw [if_neg (show ¬ (false = true) by decide)] at H
     obtain rfl := Option.some.inj H
     obtain ⟨hcz10_0, hcz10_1, hcz10_2, hcz10_3, hfz10_0, hfz10_1, hfz10_2, hfz10_3⟩ := c4 BK288
     go_wp2_with (first | ((with_reducible refine gq 133 rfl ?_); refine gl (some 10) Try.func133 #[.int .i64 a0_2] ?_; (with_reducible refine (spec_l12Stream.calls a0_2 false _ A7.out).mono ?_); rintro e w' ⟨rfl, ⟨nd, rfl⟩⟩; refine ⟨_, rfl, ?_⟩))
     go_ret
     exact ⟨ze, zb HB⟩
   ·replace c6 := Bool.eq_false_iff.mpr c6
    subst c6
    rw [if_neg (show ¬ (false = true) by decide)] at H
    replace H := sp H
    rcases H with ⟨c11, H⟩ | ⟨c11, H⟩
    ·skip
     have c11b0 : (a0_0 == 3) = true := beq_iff_eq.mpr c11
     have c11b1 : (a0_0 != 3) = false := bne_eq_false_iff_eq.mpr c11
     clear c11
     obtain ⟨t290, A12, H⟩ := ob H
     (try dsimp only at H)
     by_cases c13 : t290 = true
     ·subst c13
      rw [if_pos rfl] at H
      by_cases c14 : a0_1 = true
      ·subst c14
       rw [if_pos rfl] at H
       obtain rfl := Option.some.inj H
       obtain ⟨hcz15_0, hcz15_1, hcz15_2, hcz15_3, hfz15_0, hfz15_1, hfz15_2, hfz15_3⟩ := c4 BK288
       go_wp2_with (first | ((with_reducible refine gq 133 rfl ?_); refine gl (some 21) Try.func133 #[.int .i64 a0_2] ?_; (with_reducible refine (spec_l12Stream.calls a0_2 true _ A12.out).mono ?_); rintro e w' ⟨rfl, ⟨nd, rfl⟩⟩; refine ⟨_, rfl, ?_⟩))
       go_ret
       exact ⟨ze, zb HB⟩
      ·replace c14 := Bool.eq_false_iff.mpr c14
       subst c14
       rw [if_neg (show ¬ (false = true) by decide)] at H
       obtain rfl := Option.some.inj H
       obtain ⟨hcz16_0, hcz16_1, hcz16_2, hcz16_3, hfz16_0, hfz16_1, hfz16_2, hfz16_3⟩ := c4 BK288
       go_wp2_with (first | ((with_reducible refine gq 133 rfl ?_); refine gl (some 21) Try.func133 #[.int .i64 a0_2] ?_; (with_reducible refine (spec_l12Stream.calls a0_2 true _ A12.out).mono ?_); rintro e w' ⟨rfl, ⟨nd, rfl⟩⟩; refine ⟨_, rfl, ?_⟩))
       go_ret
       exact ⟨ze, zb HB⟩
     ·replace c13 := Bool.eq_false_iff.mpr c13
      subst c13
      rw [if_neg (show ¬ (false = true) by decide)] at H
      obtain rfl := Option.some.inj H
      obtain ⟨hcz17_0, hcz17_1, hcz17_2, hcz17_3, hfz17_0, hfz17_1, hfz17_2, hfz17_3⟩ := c4 BK288
      go_wp2_with (first | ((with_reducible refine gq 133 rfl ?_); refine gl (some 21) Try.func133 #[.int .i64 a0_2] ?_; (with_reducible refine (spec_l12Stream.calls a0_2 false _ A12.out).mono ?_); rintro e w' ⟨rfl, ⟨nd, rfl⟩⟩; refine ⟨_, rfl, ?_⟩))
      go_ret
      exact ⟨ze, zb HB⟩
    ·skip
     have c11b0 : (a0_0 == 3) = false := beq_eq_false_iff_ne.mpr c11
     have c11b1 : (a0_0 != 3) = true := bne_iff_ne.mpr c11
     replace H := sp H
     rcases H with ⟨c18, H⟩ | ⟨c18, H⟩
     ·skip
      have c18b0 : (a0_0 == 8) = true := beq_iff_eq.mpr c18
      have c18b1 : (a0_0 != 8) = false := bne_eq_false_iff_eq.mpr c18
      clear c18
      by_cases c19 : a0_2 = 0
      ·rw [if_pos c19] at H
       have c19b0 : (a0_2 == 0) = true := beq_iff_eq.mpr c19
       have c19b1 : (a0_2 != 0) = false := bne_eq_false_iff_eq.mpr c19
       clear c19
       by_cases c20 : a0_1 = true
       ·subst c20
        rw [if_pos rfl] at H
        obtain rfl := Option.some.inj H
        obtain ⟨hcz21_0, hcz21_1, hcz21_2, hcz21_3, hfz21_0, hfz21_1, hfz21_2, hfz21_3⟩ := c4 BK288
        go_wp2
        go_ret
        exact ⟨ze, zb HB⟩
       ·replace c20 := Bool.eq_false_iff.mpr c20
        subst c20
        rw [if_neg (show ¬ (false = true) by decide)] at H
        by_cases c22 : (a0_3.size : Int) = 1
        ·rw [if_pos c22] at H
         have c22b0 : ((a0_3.size : Int) == 1) = true := beq_iff_eq.mpr c22
         have c22b1 : ((a0_3.size : Int) != 1) = false := bne_eq_false_iff_eq.mpr c22
         clear c22
         by_cases c23 : 0 < (a0_3.size : Int)
         ·rw [if_pos c23] at H
          have c23b0 := decide_eq_true c23
          have c23b1 := decide_eq_true (by omega)
          clear c23
          obtain ⟨t291, A25, H⟩ := ob H
          (try dsimp only at H)
          obtain rfl := Option.some.inj H
          obtain ⟨hcz26_0, hcz26_1, hcz26_2, hcz26_3, hfz26_0, hfz26_1, hfz26_2, hfz26_3⟩ := c4 BK288
          have p24 : 0 ≤ (0 : Int) := (by omega)
          have q24 : 0 < a0_3.size := (by have : (0 : Int) < (a0_3.size : Int) := of_decide_eq_true za; omega)
          have hx24 : ∀ h : 0 < a0_3.size, ((a0_3[0]'h).toNat : Int) = bt a0_3 0 := bt_at a0_3 0
          clear p24
          have qi24 : (0 < (a0_3.size : Int)) = True := eq_true (of_decide_eq_true za)
          replace q24 := eq_true q24
          go_wp2_with (first | (go_at_call 56; (with_reducible refine (spec_l6In.calls (wrap64 (bt a0_3 0)) 1 31 t291 _ A25.out).mono ?_); rintro e w' ⟨rfl, ⟨nd, rfl⟩⟩))
          go_ret
          exact ⟨ze, zb HB⟩
         ·rw [if_neg c23] at H
          exact absurd H (by simp)
        ·rw [if_neg c22] at H
         have c22b0 : ((a0_3.size : Int) == 1) = false := beq_eq_false_iff_ne.mpr c22
         have c22b1 : ((a0_3.size : Int) != 1) = true := bne_iff_ne.mpr c22
         obtain rfl := Option.some.inj H
         obtain ⟨hcz27_0, hcz27_1, hcz27_2, hcz27_3, hfz27_0, hfz27_1, hfz27_2, hfz27_3⟩ := c4 BK288
         go_wp2
         go_ret
         exact ⟨ze, zb HB⟩
      ·rw [if_neg c19] at H
       have c19b0 : (a0_2 == 0) = false := beq_eq_false_iff_ne.mpr c19
       have c19b1 : (a0_2 != 0) = true := bne_iff_ne.mpr c19
       obtain ⟨t292, A28, H⟩ := ob H
       (try dsimp only at H)
       by_cases c29 : t292 = true
       ·subst c29
        rw [if_pos rfl] at H
        by_cases c30 : a0_1 = true
        ·subst c30
         rw [if_pos rfl] at H
         obtain rfl := Option.some.inj H
         obtain ⟨hcz31_0, hcz31_1, hcz31_2, hcz31_3, hfz31_0, hfz31_1, hfz31_2, hfz31_3⟩ := c4 BK288
         go_wp2_with (first | (go_at_call 133; (with_reducible refine (spec_l12Stream.calls a0_2 true _ A28.out).mono ?_); rintro e w' ⟨rfl, ⟨nd, rfl⟩⟩))
         go_ret
         exact ⟨ze, zb HB⟩
        ·replace c30 := Bool.eq_false_iff.mpr c30
         subst c30
         rw [if_neg (show ¬ (false = true) by decide)] at H
         by_cases c32 : (a0_3.size : Int) = 1
         ·rw [if_pos c32] at H
          have c32b0 : ((a0_3.size : Int) == 1) = true := beq_iff_eq.mpr c32
          have c32b1 : ((a0_3.size : Int) != 1) = false := bne_eq_false_iff_eq.mpr c32
          clear c32
          by_cases c33 : 0 < (a0_3.size : Int)
          ·rw [if_pos c33] at H
           have c33b0 := decide_eq_true c33
           have c33b1 := decide_eq_true (by omega)
           clear c33
           obtain ⟨t293, A35, H⟩ := ob H
           (try dsimp only at H)
           obtain rfl := Option.some.inj H
           obtain ⟨hcz36_0, hcz36_1, hcz36_2, hcz36_3, hfz36_0, hfz36_1, hfz36_2, hfz36_3⟩ := c4 BK288
           go_wp2_with (first | (go_at_call 133; (with_reducible refine (spec_l12Stream.calls a0_2 true _ A28.out).mono ?_); rintro e w' ⟨rfl, ⟨nd, rfl⟩⟩; have p34 : 0 ≤ (0 : Int) := (by omega); have q34 : 0 < a0_3.size := (by have : (0 : Int) < (a0_3.size : Int) := of_decide_eq_true za; omega); have hx34 : ∀ h : 0 < a0_3.size, ((a0_3[0]'h).toNat : Int) = bt a0_3 0 := bt_at a0_3 0; clear p34; have qi34 : (0 < (a0_3.size : Int)) = True := eq_true (of_decide_eq_true za); replace q34 := eq_true q34) | (go_at_call 56; (with_reducible refine (spec_l6In.calls (wrap64 (bt a0_3 0)) 1 31 t293 _ A35.out).mono ?_); rintro e w' ⟨rfl, ⟨nd, rfl⟩⟩))
           go_ret
           exact ⟨ze, zb HB⟩
          ·rw [if_neg c33] at H
           exact absurd H (by simp)
         ·rw [if_neg c32] at H
          have c32b0 : ((a0_3.size : Int) == 1) = false := beq_eq_false_iff_ne.mpr c32
          have c32b1 : ((a0_3.size : Int) != 1) = true := bne_iff_ne.mpr c32
          obtain rfl := Option.some.inj H
          obtain ⟨hcz37_0, hcz37_1, hcz37_2, hcz37_3, hfz37_0, hfz37_1, hfz37_2, hfz37_3⟩ := c4 BK288
          go_wp2_with (first | (go_at_call 133; (with_reducible refine (spec_l12Stream.calls a0_2 true _ A28.out).mono ?_); rintro e w' ⟨rfl, ⟨nd, rfl⟩⟩))
          go_ret
          exact ⟨ze, zb HB⟩
       ·replace c29 := Bool.eq_false_iff.mpr c29
        subst c29
        rw [if_neg (show ¬ (false = true) by decide)] at H
        obtain rfl := Option.some.inj H
        obtain ⟨hcz38_0, hcz38_1, hcz38_2, hcz38_3, hfz38_0, hfz38_1, hfz38_2, hfz38_3⟩ := c4 BK288
        go_wp2_with (first | (go_at_call 133; (with_reducible refine (spec_l12Stream.calls a0_2 false _ A28.out).mono ?_); rintro e w' ⟨rfl, ⟨nd, rfl⟩⟩))
        go_ret
        exact ⟨ze, zb HB⟩
     ·skip
      have c18b0 : (a0_0 == 8) = false := beq_eq_false_iff_ne.mpr c18
      have c18b1 : (a0_0 != 8) = true := bne_iff_ne.mpr c18
      obtain rfl := Option.some.inj H
      go_wp2
      go_ret
      exact ⟨ze, zb HB⟩

end Go.Proofs.Ytlpibelofcabhaa.PFnExactWorldFrames
