-- WRITTEN BY a turned print (wip/tools of the prover's repo)
import Derived.Test.YtlpibelofcabhaaPFnExactWorldFramesx0
namespace Go.Proofs.Ytlpibelofcabhaa.PFnExactWorldFrames
open Go.RowKit Go.Proofs.YtlpibelofcabhaaW.PrintWords Go.Proofs.YtlpibelofcabhaaW.PrintLast Go.Proofs.YtlpibelofcabhaaW.PrintMore Go.Proofs.Ytlpibelofcabhaa.Lm
attribute [local go_sem] max2_int min2_int max_two min_two max_three min_three max_four min_four   -- for this text's walks alone
set_option linter.unusedVariables false
set_option linter.unusedSimpArgs false

/-! ### spec_l2Sign: function 150 -/
-- thin
def spec_l2Sign.l0 : Nat → Int → Int → Option (Int)
 | 0, _, _ => none
 | k + 1, x0, x3 => if x3 < 39 then (if 0 ≤ x3 then (if (bt (⟨#[101, 116, 97, 111, 105, 110, 115, 114, 104, 108, 48, 49, 50, 51, 52, 53, 54, 55, 56, 57, 100, 99, 117, 109, 102, 112, 103, 119, 121, 98, 118, 107, 120, 106, 113, 122, 58, 47, 45]⟩ : ByteArray) x3) = x0 then (some x3) else (spec_l2Sign.l0 k x0 (wrap64 (x3 + 1)))) else (none)) else (some (-1))
def spec_l2Sign.f (k : Nat) (a0 : Int) : Option (Int) := spec_l2Sign.l0 k a0 0
theorem spec_l2Sign.mono_l : ∀ k, (∀ y0 y1, LeO (spec_l2Sign.l0 k y0 y1) (spec_l2Sign.l0 (k + 1) y0 y1))
 | 0 => fun _ _ r h => by simp [spec_l2Sign.l0] at h
 | k + 1 => by
  have ih0 := spec_l2Sign.mono_l k
  ·intro y0 y1
   unfold spec_l2Sign.l0
   exact zm
theorem spec_l2Sign.mono : ∀ a0 k, LeO (spec_l2Sign.f k a0) (spec_l2Sign.f (k + 1) a0) := by
 intro a0 k
 have ih0 := spec_l2Sign.mono_l k
 unfold spec_l2Sign.f
 exact zm
set_option maxHeartbeats 8000000 in
set_option maxRecDepth 100000 in
theorem spec_l2Sign.calls (k : Nat) (a0 : Int) (r : Int) (w : World) (h : spec_l2Sign.f k a0 = some r) :
  Calls Try.prog 150 #[.int .u8 a0] w fun e w' => e = .returned (.int .i64 r) ∧ Drawn0 w w' := by
 have H : (spec_l2Sign.l0 k a0 0) = some r := h
 clear h
 have H' := Aside0.mk H
 clear H
 go_enter Try.func150, Try.ntmps150
 go_wp2
 go_loopg [3] k (fun kq v3 w' => ∃ (x3_1 : Int), v3 = .int .i64 x3_1 ∧ Aside0 (spec_l2Sign.l0 kq a0 x3_1 = some r) ∧ Aside0 (kq ≤ k) ∧ Drawn0 w w')
 case atStart => exact ⟨(0), zs, H', ⟨Nat.le_refl _⟩, by repeat (first | exact Drawn0.refl _ | apply Drawn0.step)⟩
 case round =>
  clear H'
  try clear c1
  obtain ⟨x3_1, rfl, HA, HK1, ⟨m1, rfl⟩⟩ := hrel
  cases gk with
  | zero => exact absurd HA.out (by simp [spec_l2Sign.l0])
  | succ k1 =>
   have H := HA.out
   clear HA
   simp only [spec_l2Sign.l0] at H
   replace H := sp H
   rcases H with ⟨c2, H⟩ | ⟨c2, H⟩
   ·skip
    have c2b0 := decide_eq_true c2
    clear c2
    by_cases c3 : 0 ≤ x3_1
    ·rw [if_pos c3] at H
     have c3b0 := decide_eq_true c3
     clear c3
     by_cases c5 : (bt (⟨#[101, 116, 97, 111, 105, 110, 115, 114, 104, 108, 48, 49, 50, 51, 52, 53, 54, 55, 56, 57, 100, 99, 117, 109, 102, 112, 103, 119, 121, 98, 118, 107, 120, 106, 113, 122, 58, 47, 45]⟩ : ByteArray) x3_1) = a0
     ·rw [if_pos c5] at H
      have c5b0 : ((bt (⟨#[101, 116, 97, 111, 105, 110, 115, 114, 104, 108, 48, 49, 50, 51, 52, 53, 54, 55, 56, 57, 100, 99, 117, 109, 102, 112, 103, 119, 121, 98, 118, 107, 120, 106, 113, 122, 58, 47, 45]⟩ : ByteArray) x3_1) == a0) = true := beq_iff_eq.mpr c5
      have c5b1 : ((bt (⟨#[101, 116, 97, 111, 105, 110, 115, 114, 104, 108, 48, 49, 50, 51, 52, 53, 54, 55, 56, 57, 100, 99, 117, 109, 102, 112, 103, 119, 121, 98, 118, 107, 120, 106, 113, 122, 58, 47, 45]⟩ : ByteArray) x3_1) != a0) = false := bne_eq_false_iff_eq.mpr c5
      clear c5
      obtain rfl := Option.some.inj H
      have p4 : 0 ≤ (x3_1 : Int) := of_decide_eq_true za
      have q4 : x3_1 < (39 : Int) := of_decide_eq_true za
      have hx4 := bt_at (⟨#[101, 116, 97, 111, 105, 110, 115, 114, 104, 108, 48, 49, 50, 51, 52, 53, 54, 55, 56, 57, 100, 99, 117, 109, 102, 112, 103, 119, 121, 98, 118, 107, 120, 106, 113, 122, 58, 47, 45]⟩ : ByteArray) x3_1
      replace p4 := eq_true p4
      replace q4 := eq_true q4
      go_wp2
      go_ret
      exact ⟨zs, by repeat (first | exact Drawn0.refl _ | apply Drawn0.step)⟩
     ·rw [if_neg c5] at H
      have c5b0 : ((bt (⟨#[101, 116, 97, 111, 105, 110, 115, 114, 104, 108, 48, 49, 50, 51, 52, 53, 54, 55, 56, 57, 100, 99, 117, 109, 102, 112, 103, 119, 121, 98, 118, 107, 120, 106, 113, 122, 58, 47, 45]⟩ : ByteArray) x3_1) == a0) = false := beq_eq_false_iff_ne.mpr c5
      have c5b1 : ((bt (⟨#[101, 116, 97, 111, 105, 110, 115, 114, 104, 108, 48, 49, 50, 51, 52, 53, 54, 55, 56, 57, 100, 99, 117, 109, 102, 112, 103, 119, 121, 98, 118, 107, 120, 106, 113, 122, 58, 47, 45]⟩ : ByteArray) x3_1) != a0) = true := bne_iff_ne.mpr c5
      have H' := Aside0.mk H
      clear H
      have p4 : 0 ≤ (x3_1 : Int) := of_decide_eq_true za
      have q4 : x3_1 < (39 : Int) := of_decide_eq_true za
      have hx4 := bt_at (⟨#[101, 116, 97, 111, 105, 110, 115, 114, 104, 108, 48, 49, 50, 51, 52, 53, 54, 55, 56, 57, 100, 99, 117, 109, 102, 112, 103, 119, 121, 98, 118, 107, 120, 106, 113, 122, 58, 47, 45]⟩ : ByteArray) x3_1
      replace p4 := eq_true p4
      replace q4 := eq_true q4
      go_wp2
      go_roundg k1
      case measure => have := HK1.out; omega
      case rel => exact ⟨(wrap64 (x3_1 + 1)), zs, H', ⟨by have := HK1.out; omega⟩, by repeat (first | exact Drawn0.refl _ | apply Drawn0.step)⟩
    ·rw [if_neg c3] at H
     exact absurd H (by simp)
   ·skip
    have c2b0 := decide_eq_false c2
    clear c2
    obtain rfl := Option.some.inj H
    go_wp2
    go_ret
    exact ⟨zs, by repeat (first | exact Drawn0.refl _ | apply Drawn0.step)⟩

/-! ### spec_WordOk: function 113 -/
-- thin
def spec_WordOk.l0 : Nat → ByteArray → Int → Option (Bool)
 | 0, _, _ => none
 | k + 1, x0, x3 => if x3 < (x0.size : Int) then (if 0 ≤ x3 then ((spec_l2Sign.f k (bt x0 x3)).bind fun t260 => (if t260 < 0 then (some false) else (spec_WordOk.l0 k x0 (wrap64 (x3 + 1))))) else (none)) else (some (decide ((x0.size : Int) ≤ 16)))
def spec_WordOk.f (k : Nat) (a0 : ByteArray) : Option (Bool) := spec_WordOk.l0 k a0 0
theorem spec_WordOk.mono_l : ∀ k, (∀ y0 y1, LeO (spec_WordOk.l0 k y0 y1) (spec_WordOk.l0 (k + 1) y0 y1))
 | 0 => fun _ _ r h => by simp [spec_WordOk.l0] at h
 | k + 1 => by
  have ih0 := spec_WordOk.mono_l k
  ·intro y0 y1
   unfold spec_WordOk.l0
   have m0 := @spec_l2Sign.mono
   exact zm
theorem spec_WordOk.mono : ∀ a0 k, LeO (spec_WordOk.f k a0) (spec_WordOk.f (k + 1) a0) := by
 intro a0 k
 have ih0 := spec_WordOk.mono_l k
 unfold spec_WordOk.f
 have m0 := @spec_l2Sign.mono
 exact zm
set_option maxHeartbeats 8000000 in
set_option maxRecDepth 100000 in
theorem spec_WordOk.calls (k : Nat) (a0 : ByteArray) (r : Bool) (w : World) (h : spec_WordOk.f k a0 = some r) :
  Calls Try.prog 113 #[.string a0] w fun e w' => e = .returned (.bool r) ∧ Drawn0 w w' := by
 have H : (spec_WordOk.l0 k a0 0) = some r := h
 clear h
 have H' := Aside0.mk H
 clear H
 go_enter Try.func113, Try.ntmps113
 go_wp2
 go_loopg [3] k (fun kq v3 w' => ∃ (x3_1 : Int), v3 = .int .i64 x3_1 ∧ Aside0 (spec_WordOk.l0 kq a0 x3_1 = some r) ∧ Aside0 (kq ≤ k) ∧ Drawn0 w w')
 case atStart => exact ⟨(0), zs, H', ⟨Nat.le_refl _⟩, by repeat (first | exact Drawn0.refl _ | apply Drawn0.step)⟩
 case round =>
  clear H'
  try clear c1
  obtain ⟨x3_1, rfl, HA, HK1, ⟨m1, rfl⟩⟩ := hrel
  cases gk with
  | zero => exact absurd HA.out (by simp [spec_WordOk.l0])
  | succ k1 =>
   have H := HA.out
   clear HA
   simp only [spec_WordOk.l0] at H
   replace H := sp H
   rcases H with ⟨c2, H⟩ | ⟨c2, H⟩
   ·skip
    have c2b0 := decide_eq_true c2
    clear c2
    by_cases c3 : 0 ≤ x3_1
    ·rw [if_pos c3] at H
     have c3b0 := decide_eq_true c3
     clear c3
     obtain ⟨t260, A5, H⟩ := ob H
     (try dsimp only at H)
     by_cases c6 : t260 < 0
     ·rw [if_pos c6] at H
      have c6b0 := decide_eq_true c6
      clear c6
      obtain rfl := Option.some.inj H
      have p4 : 0 ≤ (x3_1 : Int) := of_decide_eq_true za
      have q4 : x3_1 < (a0.size : Int) := of_decide_eq_true za
      have hx4 := bt_at a0 x3_1
      replace p4 := eq_true p4
      replace q4 := eq_true q4
      go_wp2_with (first | ((with_reducible refine gq 150 rfl ?_); refine gl (some 13) Try.func150 #[.int .u8 (bt a0 x3_1)] ?_; (with_reducible refine (spec_l2Sign.calls k1 (bt a0 x3_1) t260 _ A5.out).mono ?_); rintro e w' ⟨rfl, ⟨nd, rfl⟩⟩; refine ⟨_, rfl, ?_⟩))
      go_ret
      exact ⟨zs, by repeat (first | exact Drawn0.refl _ | apply Drawn0.step)⟩
     ·rw [if_neg c6] at H
      have c6b0 := decide_eq_false c6
      clear c6
      have H' := Aside0.mk H
      clear H
      have p4 : 0 ≤ (x3_1 : Int) := of_decide_eq_true za
      have q4 : x3_1 < (a0.size : Int) := of_decide_eq_true za
      have hx4 := bt_at a0 x3_1
      replace p4 := eq_true p4
      replace q4 := eq_true q4
      go_wp2_with (first | ((with_reducible refine gq 150 rfl ?_); refine gl (some 13) Try.func150 #[.int .u8 (bt a0 x3_1)] ?_; (with_reducible refine (spec_l2Sign.calls k1 (bt a0 x3_1) t260 _ A5.out).mono ?_); rintro e w' ⟨rfl, ⟨nd, rfl⟩⟩; refine ⟨_, rfl, ?_⟩))
      go_roundg k1
      case measure => have := HK1.out; omega
      case rel => exact ⟨(wrap64 (x3_1 + 1)), zs, H', ⟨by have := HK1.out; omega⟩, by repeat (first | exact Drawn0.refl _ | apply Drawn0.step)⟩
    ·rw [if_neg c3] at H
     exact absurd H (by simp)
   ·skip
    have c2b0 := decide_eq_false c2
    clear c2
    obtain rfl := Option.some.inj H
    go_wp2
    go_ret
    exact ⟨zs, by repeat (first | exact Drawn0.refl _ | apply Drawn0.step)⟩

/-! ### spec_FieldOk: function 55 -/
-- thin
def spec_FieldOk.f (k : Nat) (a0_0 : ByteArray) (a0_1 : ByteArray) (a0_2 : Bool) : Option (Bool) := (spec_WordOk.f k a0_0).bind fun t262 => (if t262 = true then (if a0_0.toList = ([] : List UInt8) then (some false) else ((spec_WordOk.f k a0_1).bind fun t263 => (some t263))) else (some false))
theorem spec_FieldOk.mono : ∀ a0 a1 a2 k, LeO (spec_FieldOk.f k a0 a1 a2) (spec_FieldOk.f (k + 1) a0 a1 a2) := by
 intro a0 a1 a2 k
 unfold spec_FieldOk.f
 have m0 := @spec_WordOk.mono
 exact zm
set_option maxHeartbeats 8000000 in
set_option maxRecDepth 100000 in
theorem spec_FieldOk.calls (k : Nat) (a0_0 : ByteArray) (a0_1 : ByteArray) (a0_2 : Bool) (r : Bool) (w : World) (h : spec_FieldOk.f k a0_0 a0_1 a0_2 = some r) :
  Calls Try.prog 55 #[.agg #[.string a0_0, .string a0_1, .bool a0_2]] w fun e w' => e = .returned (.bool r) ∧ Below w.heap.size w w' := by
 have hu88 := Try.underlying88
 have HB := Aside0.mk (Below.refl w.heap.size w)
 have H : ((spec_WordOk.f k a0_0).bind fun t262 => (if t262 = true then (if a0_0.toList = ([] : List UInt8) then (some false) else ((spec_WordOk.f k a0_1).bind fun t263 => (some t263))) else (some false))) = some r := h
 clear h
 obtain ⟨t262, A2, H⟩ := ob H
 (try dsimp only at H)
 by_cases c3 : t262 = true
 ·subst c3
  rw [if_pos rfl] at H
  replace H := sp H
  rcases H with ⟨c4, H⟩ | ⟨c4, H⟩
  ·skip
   have c4b0 : (a0_0.toList == ([] : List UInt8)) = true := beq_iff_eq.mpr c4
   have c4b1 : (a0_0.toList != ([] : List UInt8)) = false := bne_eq_false_iff_eq.mpr c4
   clear c4
   obtain rfl := Option.some.inj H
   go_enter Try.func55, Try.ntmps55
   go_wp2_with (first | ((with_reducible refine gd 1 rfl ?_); refine bx (N := 1) (cs := #[.string a0_0, .string a0_1, .bool a0_2]) (t := 88) ?_; intro gb261 hg w5 hbox hb; have BK261 := Aside0.mk (hbox); have GW261 := gw HB hg; have GE261 := GW261; replace HB := Aside0.mk (below_step (zb HB) hb); clear hb hbox hg; obtain ⟨hcz6_0, hcz6_1, hcz6_2, hfz6_0, hfz6_1, hfz6_2⟩ := c3 BK261) | ((with_reducible refine gq 113 rfl ?_); refine gl (some 5) Try.func113 #[.string a0_0] ?_; (with_reducible refine (spec_WordOk.calls k a0_0 true _ A2.out).mono ?_); rintro e w' ⟨rfl, ⟨nd, rfl⟩⟩; refine ⟨_, rfl, ?_⟩))
   go_ret
   exact ⟨ze, zb HB⟩
  ·skip
   have c4b0 : (a0_0.toList == ([] : List UInt8)) = false := beq_eq_false_iff_ne.mpr c4
   have c4b1 : (a0_0.toList != ([] : List UInt8)) = true := bne_iff_ne.mpr c4
   obtain ⟨t263, A7, H⟩ := ob H
   (try dsimp only at H)
   obtain rfl := Option.some.inj H
   go_enter Try.func55, Try.ntmps55
   go_wp2_with (first | ((with_reducible refine gd 1 rfl ?_); refine bx (N := 1) (cs := #[.string a0_0, .string a0_1, .bool a0_2]) (t := 88) ?_; intro gb261 hg w8 hbox hb; have BK261 := Aside0.mk (hbox); have GW261 := gw HB hg; have GE261 := GW261; replace HB := Aside0.mk (below_step (zb HB) hb); clear hb hbox hg; obtain ⟨hcz9_0, hcz9_1, hcz9_2, hfz9_0, hfz9_1, hfz9_2⟩ := c3 BK261) | ((with_reducible refine gq 113 rfl ?_); refine gl (some 5) Try.func113 #[.string a0_0] ?_; (with_reducible refine (spec_WordOk.calls k a0_0 true _ A2.out).mono ?_); rintro e w' ⟨rfl, ⟨nd, rfl⟩⟩; refine ⟨_, rfl, ?_⟩) | (go_at_call 113; (with_reducible refine (spec_WordOk.calls k a0_1 t263 _ A7.out).mono ?_); rintro e w' ⟨rfl, ⟨nd, rfl⟩⟩))
   go_ret
   exact ⟨ze, zb HB⟩
 ·replace c3 := Bool.eq_false_iff.mpr c3
  subst c3
  rw [if_neg (show ¬ (false = true) by decide)] at H
  obtain rfl := Option.some.inj H
  go_enter Try.func55, Try.ntmps55
  go_wp2_with (first | ((with_reducible refine gd 1 rfl ?_); refine bx (N := 1) (cs := #[.string a0_0, .string a0_1, .bool a0_2]) (t := 88) ?_; intro gb261 hg w10 hbox hb; have BK261 := Aside0.mk (hbox); have GW261 := gw HB hg; have GE261 := GW261; replace HB := Aside0.mk (below_step (zb HB) hb); clear hb hbox hg; obtain ⟨hcz11_0, hcz11_1, hcz11_2, hfz11_0, hfz11_1, hfz11_2⟩ := c3 BK261) | ((with_reducible refine gq 113 rfl ?_); refine gl (some 5) Try.func113 #[.string a0_0] ?_; (with_reducible refine (spec_WordOk.calls k a0_0 false _ A2.out).mono ?_); rintro e w' ⟨rfl, ⟨nd, rfl⟩⟩; refine ⟨_, rfl, ?_⟩))
  go_ret
  exact ⟨ze, zb HB⟩

/-! ### spec_l6In: function 56 -/
-- thin
def spec_l6In.f (a0 : Int) (a1 : Int) (a2 : Int) : Option (Bool) := if a0 ≥ a1 then (some (decide (a0 ≤ a2))) else (some false)
set_option maxHeartbeats 8000000 in
set_option maxRecDepth 100000 in
theorem spec_l6In.calls (a0 : Int) (a1 : Int) (a2 : Int) (r : Bool) (w : World) (h : spec_l6In.f a0 a1 a2 = some r) :
  Calls Try.prog 56 #[.int .i64 a0, .int .i64 a1, .int .i64 a2] w fun e w' => e = .returned (.bool r) ∧ Drawn0 w w' := by
 have H : (if a0 ≥ a1 then (some (decide (a0 ≤ a2))) else (some false)) = some r := h
 clear h
 replace H := sp H
 rcases H with ⟨c4, H⟩ | ⟨c4, H⟩
 ·skip
  have c4b0 := decide_eq_true c4
  clear c4
  obtain rfl := Option.some.inj H
  go_enter Try.func56, Try.ntmps56
  go_wp2
  go_ret
  exact ⟨zs, by repeat (first | exact Drawn0.refl _ | apply Drawn0.step)⟩
 ·skip
  have c4b0 := decide_eq_false c4
  clear c4
  obtain rfl := Option.some.inj H
  go_enter Try.func56, Try.ntmps56
  go_wp2
  go_ret
  exact ⟨zs, by repeat (first | exact Drawn0.refl _ | apply Drawn0.step)⟩

/-! ### spec_l3One: function 114 -/
-- thin
def spec_l3One.f (a0_0 : ByteArray) (a0_1 : ByteArray) (a0_2 : Bool) : Option (Int) := some (wrap64 ((wrap64 ((a0_0.size : Int) + (a0_1.size : Int))) + 4))
set_option maxHeartbeats 8000000 in
set_option maxRecDepth 100000 in
theorem spec_l3One.calls (a0_0 : ByteArray) (a0_1 : ByteArray) (a0_2 : Bool) (r : Int) (w : World) (h : spec_l3One.f a0_0 a0_1 a0_2 = some r) :
  Calls Try.prog 114 #[.agg #[.string a0_0, .string a0_1, .bool a0_2]] w fun e w' => e = .returned (.int .i64 r) ∧ Below w.heap.size w w' := by
 have hu88 := Try.underlying88
 have HB := Aside0.mk (Below.refl w.heap.size w)
 have H : (some (wrap64 ((wrap64 ((a0_0.size : Int) + (a0_1.size : Int))) + 4))) = some r := h
 clear h
 obtain rfl := Option.some.inj H
 go_enter Try.func114, Try.ntmps114
 go_wp2_with (first | ((with_reducible refine gd 1 rfl ?_); refine bx (N := 1) (cs := #[.string a0_0, .string a0_1, .bool a0_2]) (t := 88) ?_; intro gb264 hg w2 hbox hb; have BK264 := Aside0.mk (hbox); have GW264 := gw HB hg; have GE264 := GW264; replace HB := Aside0.mk (below_step (zb HB) hb); clear hb hbox hg; obtain ⟨hcz3_0, hcz3_1, hcz3_2, hfz3_0, hfz3_1, hfz3_2⟩ := c3 BK264))
 go_ret
 exact ⟨ze, zb HB⟩

/-! ### spec_l3Size: function 57 -/
-- thin
def spec_l3Size.l0 : Nat → List (S88) → Int → Int → Option (Int)
 | 0, _, _, _ => none
 | k + 1, x0, x3, x4 => if x4 < (x0.length : Int) then (if 0 ≤ x4 then ((spec_l3One.f ((rd_T88 x0 x4).f0) ((rd_T88 x0 x4).f1) ((rd_T88 x0 x4).f2)).bind fun t266 => (spec_l3Size.l0 k x0 (wrap64 (x3 + t266)) (wrap64 (x4 + 1)))) else (none)) else (some x3)
def spec_l3Size.f (k : Nat) (l0 : List (S88)) : Option (Int) := spec_l3Size.l0 k l0 0 0
theorem spec_l3Size.mono_l : ∀ k, (∀ y0 y1 y2, LeO (spec_l3Size.l0 k y0 y1 y2) (spec_l3Size.l0 (k + 1) y0 y1 y2))
 | 0 => fun _ _ _ r h => by simp [spec_l3Size.l0] at h
 | k + 1 => by
  have ih0 := spec_l3Size.mono_l k
  ·intro y0 y1 y2
   unfold spec_l3Size.l0
   exact zm
theorem spec_l3Size.mono : ∀ a0 k, LeO (spec_l3Size.f k a0) (spec_l3Size.f (k + 1) a0) := by
 intro a0 k
 have ih0 := spec_l3Size.mono_l k
 unfold spec_l3Size.f
 exact zm
set_option maxHeartbeats 8000000 in
set_option maxRecDepth 100000 in
theorem spec_l3Size.calls (k : Nat) (A0 : Option Addr) (c0 : Nat) (l0 : List (S88)) (r : Int) (w : World) (hr0 : Kd.C k88 w A0 l0.length l0) (hc0 : l0.length ≤ c0) (h : spec_l3Size.f k l0 = some r) :
  Calls Try.prog 57 #[.slice A0 l0.length c0] w fun e w' => e = .returned (.int .i64 r) ∧ Below w.heap.size w w' := by
 have hu88 := Try.underlying88
 have HR0 := Aside0.mk hr0
 have HC0 := Aside0.mk hc0
 clear hr0 hc0
 have HB := Aside0.mk (Below.refl w.heap.size w)
 have H : (spec_l3Size.l0 k l0 0 0) = some r := h
 clear h
 have H' := Aside0.mk H
 clear H
 go_enter Try.func57, Try.ntmps57
 go_wp2
 go_loopg [3, 4] k (fun kq v3 v4 w' => ∃ (x3_1 : Int) (x4_1 : Int), v3 = .int .i64 x3_1 ∧ v4 = .int .i64 x4_1 ∧ Aside0 (spec_l3Size.l0 kq l0 x3_1 x4_1 = some r) ∧ Aside0 (kq ≤ k) ∧ Aside0 (Below w.heap.size w w'))
 case atStart => exact ⟨(0), (0), zs, zs, H', ⟨Nat.le_refl _⟩, ⟨zb HB⟩⟩
 case round =>
  clear H'
  obtain ⟨x3_1, x4_1, rfl, rfl, HA, HK1, HB⟩ := hrel
  cases gk with
  | zero => exact absurd HA.out (by simp [spec_l3Size.l0])
  | succ k1 =>
   have H := HA.out
   clear HA
   simp only [spec_l3Size.l0] at H
   replace H := sp H
   rcases H with ⟨c2, H⟩ | ⟨c2, H⟩
   ·skip
    have c2b0 := decide_eq_true c2
    clear c2
    by_cases c3 : 0 ≤ x4_1
    ·rw [if_pos c3] at H
     have c3b0 := decide_eq_true c3
     clear c3
     obtain ⟨t266, A4, H⟩ := ob H
     (try dsimp only at H)
     have H' := Aside0.mk H
     clear H
     have p265 : 0 ≤ (x4_1 : Int) := of_decide_eq_true za
     have q265 : x4_1 < (l0.length : Int) := of_decide_eq_true za
     obtain ⟨ad265, e265, hx265_0, hx265_1, hx265_2⟩ := at_T88 HR0.out x4_1 p265 q265
     cases e265
     replace hx265_0 := cb0 hx265_0 HB
     replace hx265_1 := cb0 hx265_1 HB
     replace hx265_2 := cb0 hx265_2 HB
     replace p265 := eq_true p265
     replace q265 := eq_true q265
     go_wp2_with (first | ((with_reducible refine gq 114 rfl ?_); refine gl (some 16) Try.func114 #[.agg #[.string ((rd_T88 l0 x4_1).f0), .string ((rd_T88 l0 x4_1).f1), .bool ((rd_T88 l0 x4_1).f2)]] ?_; (with_reducible refine (spec_l3One.calls ((rd_T88 l0 x4_1).f0) ((rd_T88 l0 x4_1).f1) ((rd_T88 l0 x4_1).f2) t266 _ A4.out).mono ?_); rintro e w5 ⟨rfl, hb⟩; refine ⟨_, rfl, ?_⟩; replace HB := Aside0.mk (below_step (zb HB) hb); (try clear hb)))
     go_roundg k1
     case measure => have := HK1.out; omega
     case rel => exact ⟨(wrap64 (x3_1 + t266)), (wrap64 (x4_1 + 1)), zs, zs, H', ⟨by have := HK1.out; omega⟩, ⟨zb HB⟩⟩
    ·rw [if_neg c3] at H
     exact absurd H (by simp)
   ·skip
    have c2b0 := decide_eq_false c2
    clear c2
    obtain rfl := Option.some.inj H
    go_wp2
    go_ret
    exact ⟨ze, zb HB⟩

/-! ### spec_TableOk: function 15 -/
-- thin
def spec_TableOk.l0 : Nat → Int → List (S88) → Int → Option (Bool)
 | 0, _, _, _ => none
 | k + 1, x3, x268000, x268001 => if x3 < (x268000.length : Int) then (if 0 ≤ x3 then ((spec_FieldOk.f k ((rd_T88 x268000 x3).f0) ((rd_T88 x268000 x3).f1) ((rd_T88 x268000 x3).f2)).bind fun t269 => (if t269 = true then (if (rd_T88 x268000 x3).f2 = true then (some false) else (spec_TableOk.l0 k (wrap64 (x3 + 1)) x268000 x268001)) else (some false))) else (none)) else ((spec_l6In.f x268001 0 64).bind fun t271 => (if t271 = true then ((spec_l3Size.f k x268000).bind fun t272 => (some (decide (t272 ≤ x268001)))) else (some false)))
def spec_TableOk.f (k : Nat) (l0_0 : List (S88)) (a0_1 : Int) : Option (Bool) := spec_TableOk.l0 k 0 l0_0 a0_1
theorem spec_TableOk.mono_l : ∀ k, (∀ y0 y1 y2, LeO (spec_TableOk.l0 k y0 y1 y2) (spec_TableOk.l0 (k + 1) y0 y1 y2))
 | 0 => fun _ _ _ r h => by simp [spec_TableOk.l0] at h
 | k + 1 => by
  have ih0 := spec_TableOk.mono_l k
  ·intro y0 y1 y2
   unfold spec_TableOk.l0
   have m0 := @spec_FieldOk.mono
   have m1 := @spec_l3Size.mono
   exact zm
theorem spec_TableOk.mono : ∀ a0 a1 k, LeO (spec_TableOk.f k a0 a1) (spec_TableOk.f (k + 1) a0 a1) := by
 intro a0 a1 k
 have ih0 := spec_TableOk.mono_l k
 unfold spec_TableOk.f
 have m0 := @spec_FieldOk.mono
 have m1 := @spec_l3Size.mono
 exact zm
def spec_TableOk.T6 : Bool × List (List Nat × List Nat) := (true, [([], []), ([0], [0]), ([1], [1]), ([2, 2], [2]), ([3], [3]), ([4, 3], [3, 4]), ([5, 3, 3], [3, 5]), ([3], [3]), ([7, 3], [3, 7]), ([6, 8, 3], [3, 6, 8]), ([3, 9], [3, 9]), ([10, 6, 0, 1, 2, 3, 4, 5, 6, 7, 8, 9, 10], [10])])
def spec_TableOk.B6 : List Nat := [0, 1, 3, 7, 15, 31, 63, 15, 143, 511, 1023, 2047]
theorem spec_TableOk.tab6 : rtab .any (opsOf Try.f15 6) = spec_TableOk.T6 := by kernel_rfl
theorem spec_TableOk.bits6 : waitsOk spec_TableOk.T6.2 spec_TableOk.B6 = true := by kernel_rfl
set_option maxHeartbeats 8000000 in
set_option maxRecDepth 100000 in
theorem spec_TableOk.calls (k : Nat) (A0_0 : Option Addr) (c0_0 : Nat) (l0_0 : List (S88)) (a0_1 : Int) (r : Bool) (w : World) (hr0_0 : Kd.C k88 w A0_0 l0_0.length l0_0) (hc0_0 : l0_0.length ≤ c0_0) (h : spec_TableOk.f k l0_0 a0_1 = some r) :
  Calls Try.prog 15 #[.agg #[.slice A0_0 l0_0.length c0_0, .int .i64 a0_1]] w fun e w' => e = .returned (.bool r) ∧ Below w.heap.size w w' := by
 have hu25 := Try.underlying25
 have hu88 := Try.underlying88
 have HR0_0 := Aside0.mk hr0_0
 have HC0_0 := Aside0.mk hc0_0
 clear hr0_0 hc0_0
 have HB := Aside0.mk (Below.refl w.heap.size w)
 have H : (spec_TableOk.l0 k 0 l0_0 a0_1) = some r := h
 clear h
 have H' := Aside0.mk H
 clear H
 go_enter Try.func15, Try.ntmps15
 go_wp2_with (first | ((with_reducible refine gd 1 rfl ?_); refine bx (N := 1) (cs := #[.slice A0_0 l0_0.length c0_0, .int .i64 a0_1]) (t := 25) ?_; intro gb267 hg w2 hbox hb; have BK267 := Aside0.mk (hbox); have GW267 := gw HB hg; have GE267 := GW267; replace HB := Aside0.mk (below_step (zb HB) hb); clear hb hbox hg))
 go_loopg [3] k (fun kq v3 w' => ∃ (x3_1 : Int), v3 = .int .i64 x3_1 ∧ Aside0 (spec_TableOk.l0 kq x3_1 l0_0 a0_1 = some r) ∧ Aside0 (kq ≤ k) ∧ Aside0 (w'.heap[gb267]? = some (.cells #[(.slice A0_0 l0_0.length c0_0), .int .i64 a0_1] 25 (0, 0))) ∧ Aside0 (Below w.heap.size w w'))
 case atStart => exact ⟨(0), zs, H', ⟨Nat.le_refl _⟩, ⟨by exact zk BK267⟩, ⟨zb HB⟩⟩
 case round =>
  clear H'
  try clear c1
  try clear p2
  obtain ⟨x3_1, rfl, HA, HK1, BK267, HB⟩ := hrel
  cases gk with
  | zero => exact absurd HA.out (by simp [spec_TableOk.l0])
  | succ k1 =>
   have H := HA.out
   clear HA
   simp only [spec_TableOk.l0] at H
   replace H := sp H
   rcases H with ⟨c3, H⟩ | ⟨c3, H⟩
   ·skip
    have c3b0 := decide_eq_true c3
    clear c3
    by_cases c4 : 0 ≤ x3_1
    ·rw [if_pos c4] at H
     have c4b0 := decide_eq_true c4
     clear c4
     obtain ⟨t269, A5, H⟩ := ob H
     (try dsimp only at H)
     by_cases c6 : t269 = true
     ·subst c6
      rw [if_pos rfl] at H
      have HC7 := Aside0.mk H
      clear H
      obtain ⟨hcz8_0, hcz8_1, hfz8_0, hfz8_1⟩ := c2 BK267
      have p268 : 0 ≤ (x3_1 : Int) := of_decide_eq_true za
      have q268 : x3_1 < (l0_0.length : Int) := of_decide_eq_true za
      obtain ⟨ad268, e268, hx268_0, hx268_1, hx268_2⟩ := at_T88 HR0_0.out x3_1 p268 q268
      cases e268
      replace hx268_0 := cb0 hx268_0 HB
      replace hx268_1 := cb0 hx268_1 HB
      replace hx268_2 := cb0 hx268_2 HB
      replace p268 := eq_true p268
      replace q268 := eq_true q268
      go_upto_if 25 with (first | ((with_reducible refine gq 55 rfl ?_); refine gl (some 16) Try.func55 #[.agg #[.string ((rd_T88 l0_0 x3_1).f0), .string ((rd_T88 l0_0 x3_1).f1), .bool ((rd_T88 l0_0 x3_1).f2)]] ?_; (with_reducible refine (spec_FieldOk.calls k1 ((rd_T88 l0_0 x3_1).f0) ((rd_T88 l0_0 x3_1).f1) ((rd_T88 l0_0 x3_1).f2) true _ A5.out).mono ?_); rintro e w9 ⟨rfl, hb⟩; refine ⟨_, rfl, ?_⟩; replace BK267 := kb BK267 hb; replace HB := Aside0.mk (below_step (zb HB) hb); (try clear hb); obtain ⟨hcz10_0, hcz10_1, hfz10_0, hfz10_1⟩ := c2 BK267; have p270 : 0 ≤ (x3_1 : Int) := of_decide_eq_true za; have q270 : x3_1 < (l0_0.length : Int) := of_decide_eq_true za; obtain ⟨ad270, e270, hx270_0, hx270_1, hx270_2⟩ := at_T88 HR0_0.out x3_1 p270 q270; obtain rfl : ad268 = ad270 := (by injection e270); replace hx270_0 := cb0 hx270_0 HB; replace hx270_1 := cb0 hx270_1 HB; replace hx270_2 := cb0 hx270_2 HB; replace p270 := eq_true p270; replace q270 := eq_true q270))
      (try simp only [Act.put, s1, s2, s3])
      have H := HC7.out
      clear HC7
      obtain ⟨bq11, hbq11⟩ : ∃ b_ : Bool, b_ = ((rd_T88 l0_0 x3_1).f2) := ⟨_, rfl⟩
      replace H : (if bq11 = true then (some false) else (spec_TableOk.l0 k1 (wrap64 (x3_1 + 1)) l0_0 a0_1)) = some r := by rw [← hbq11] at H; exact H
      have Nbq11 := Aside0.mk hbq11
      clear hbq11
      (try rw [← Nbq11.out])
      (try rw [← Nbq11.out] at BK267)
      by_cases c12 : bq11 = true
      ·subst c12
       rw [if_pos rfl] at H
       obtain rfl := Option.some.inj H
       go_wp2
       go_ret
       exact ⟨ze, zb HB⟩
      ·replace c12 := Bool.eq_false_iff.mpr c12
       subst c12
       rw [if_neg (show ¬ (false = true) by decide)] at H
       have H' := Aside0.mk H
       clear H
       go_wp2
       go_roundg k1
       case measure => have := HK1.out; omega
       case rel => exact ⟨(wrap64 (x3_1 + 1)), zs, H', ⟨by have := HK1.out; omega⟩, ⟨by exact zk BK267⟩, ⟨zb HB⟩⟩
     ·replace c6 := Bool.eq_false_iff.mpr c6
      subst c6
      rw [if_neg (show ¬ (false = true) by decide)] at H
      obtain rfl := Option.some.inj H
      obtain ⟨hcz13_0, hcz13_1, hfz13_0, hfz13_1⟩ := c2 BK267
      have p268 : 0 ≤ (x3_1 : Int) := of_decide_eq_true za
      have q268 : x3_1 < (l0_0.length : Int) := of_decide_eq_true za
      obtain ⟨ad268, e268, hx268_0, hx268_1, hx268_2⟩ := at_T88 HR0_0.out x3_1 p268 q268
      cases e268
      replace hx268_0 := cb0 hx268_0 HB
      replace hx268_1 := cb0 hx268_1 HB
      replace hx268_2 := cb0 hx268_2 HB
      replace p268 := eq_true p268
      replace q268 := eq_true q268
      go_wp2_with (first | ((with_reducible refine gq 55 rfl ?_); refine gl (some 16) Try.func55 #[.agg #[.string ((rd_T88 l0_0 x3_1).f0), .string ((rd_T88 l0_0 x3_1).f1), .bool ((rd_T88 l0_0 x3_1).f2)]] ?_; (with_reducible refine (spec_FieldOk.calls k1 ((rd_T88 l0_0 x3_1).f0) ((rd_T88 l0_0 x3_1).f1) ((rd_T88 l0_0 x3_1).f2) false _ A5.out).mono ?_); rintro e w14 ⟨rfl, hb⟩; refine ⟨_, rfl, ?_⟩; replace BK267 := kb BK267 hb; replace HB := Aside0.mk (below_step (zb HB) hb); (try clear hb)))
      go_ret
      exact ⟨ze, zb HB⟩
    ·rw [if_neg c4] at H
     exact absurd H (by simp)
   ·skip
    have c3b0 := decide_eq_false c3
    clear c3
    obtain ⟨t271, A15, H⟩ := ob H
    (try dsimp only at H)
    by_cases c16 : t271 = true
    ·subst c16
     rw [if_pos rfl] at H
     obtain ⟨t272, A17, H⟩ := ob H
     (try dsimp only at H)
     obtain rfl := Option.some.inj H
     obtain ⟨hcz18_0, hcz18_1, hfz18_0, hfz18_1⟩ := c2 BK267
     try go_wp2
     replace BK267 := Aside0.mk (blk_drew BK267.out)
     replace HB := Aside0.mk (below_drew1 HB.out)
     refine st 12 (b2 BK267) (fun hHeld => ?_); refine with_tabW spec_TableOk.tab6 spec_TableOk.bits6 (fun HT_ HW_ => ?_)
     generalize wr.drew = w19 at BK267 HB hHeld ⊢
     refine pu 0 (some 26) (bm 12 1) rfl rfl ?_
     refine tk 1 (some 27) (bm 12 3) rfl rfl hHeld ?_
     refine one_ (i := 2) (N := some 28) (bm 12 7) rfl rfl (one_of HT_.out (by kernel_rfl)) (by decide) (fun K hK => ?_)
     refine gs Try.func56 #[.int .i64 a0_1, .int .i64 0, .int .i64 64] ?_
     with_reducible refine (spec_l6In.calls a0_1 0 64 true _ A15.out).mono ?_
     rintro e w' ⟨rfl, ⟨nd, rfl⟩⟩
     refine ⟨_, rfl, ?_⟩
     refine hK.out _ _ (b2 BK267) (fun hHeld => ?_)
     clear hK K
     refine nm ?_
     refine pu 3 (some 29) (bm 12 15) rfl rfl ?_
     refine pu 4 (some 30) (bm 12 31) rfl rfl ?_
     refine pu 7 (some 33) (bm 12 159) rfl rfl ?_
     refine tk 5 (some 31) (bm 12 191) rfl rfl hHeld ?_
     refine tk 8 (some 34) (bm 12 447) rfl rfl hHeld ?_
     refine one_ (i := 6) (N := some 32) (bm 12 511) rfl rfl (one_of HT_.out (by kernel_rfl)) (by decide) (fun K hK => ?_)
     refine gs Try.func57 #[.slice A0_0 l0_0.length c0_0] ?_
     with_reducible refine (spec_l3Size.calls k1 _ _ l0_0 t272 _ ?side1 ?side2 A17.out).mono ?_
     (case side1 => exact (Kd.C_below HR0_0.out (zb HB)))
     (case side2 => exact HC0_0.out)
     rintro e w20 ⟨rfl, hb⟩
     refine ⟨_, rfl, ?_⟩
     replace BK267 := kb BK267 hb
     replace HB := Aside0.mk (below_step (zb HB) hb)
     (try clear hb)
     refine hK.out _ _ (b2 BK267) (fun hHeld => ?_)
     clear hK K
     refine nm ?_
     refine pu 9 (some 35) (bm 12 1023) rfl rfl ?_
     refine pu 10 (some 36) (bm 12 2047) rfl rfl ?_
     refine pu 11 (some 2) (bm 12 4095) rfl rfl ?_
     refine done_ (done_of HT_.out (by kernel_rfl)) ?_
     try go_wp2
     go_ret
     exact ⟨ze, zb HB⟩
    ·replace c16 := Bool.eq_false_iff.mpr c16
     subst c16
     rw [if_neg (show ¬ (false = true) by decide)] at H
     obtain rfl := Option.some.inj H
     obtain ⟨hcz21_0, hcz21_1, hfz21_0, hfz21_1⟩ := c2 BK267
     try go_wp2
     replace BK267 := Aside0.mk (blk_drew BK267.out)
     replace HB := Aside0.mk (below_drew1 HB.out)
     refine st 12 (b2 BK267) (fun hHeld => ?_); refine with_tabW spec_TableOk.tab6 spec_TableOk.bits6 (fun HT_ HW_ => ?_)
     generalize wr.drew = w22 at BK267 HB hHeld ⊢
     refine pu 0 (some 26) (bm 12 1) rfl rfl ?_
     refine tk 1 (some 27) (bm 12 3) rfl rfl hHeld ?_
     refine one_ (i := 2) (N := some 28) (bm 12 7) rfl rfl (one_of HT_.out (by kernel_rfl)) (by decide) (fun K hK => ?_)
     refine gs Try.func56 #[.int .i64 a0_1, .int .i64 0, .int .i64 64] ?_
     with_reducible refine (spec_l6In.calls a0_1 0 64 false _ A15.out).mono ?_
     rintro e w' ⟨rfl, ⟨nd, rfl⟩⟩
     refine ⟨_, rfl, ?_⟩
     refine hK.out _ _ (b2 BK267) (fun hHeld => ?_)
     clear hK K
     refine nm ?_
     refine pu 3 (some 29) (bm 12 15) rfl rfl ?_
     refine pv 4 (some 30) (bm 12 31) rfl rfl ?_
     refine pv 5 (some 31) (bm 12 63) rfl rfl ?_
     refine pv 6 (some 32) (bm 12 127) rfl rfl ?_
     refine pv 7 (some 33) (bm 12 255) rfl rfl ?_
     refine pv 8 (some 34) (bm 12 511) rfl rfl ?_
     refine pv 9 (some 35) (bm 12 1023) rfl rfl ?_
     refine pu 10 (some 36) (bm 12 2047) rfl rfl ?_
     refine pu 11 (some 2) (bm 12 4095) rfl rfl ?_
     refine done_ (done_of HT_.out (by kernel_rfl)) ?_
     try go_wp2
     go_ret
     exact ⟨ze, zb HB⟩

/-! ### spec_HeadOk: function 16 -/
-- thin
def spec_HeadOk.l0 : Nat → List (S88) → Int → Option (Bool)
 | 0, _, _ => none
 | k + 1, x0, x3 => if x3 < (x0.length : Int) then (if 0 ≤ x3 then ((spec_FieldOk.f k ((rd_T88 x0 x3).f0) ((rd_T88 x0 x3).f1) ((rd_T88 x0 x3).f2)).bind fun t274 => (if t274 = true then (spec_HeadOk.l0 k x0 (wrap64 (x3 + 1))) else (some false))) else (none)) else (some (decide ((x0.length : Int) ≤ 6)))
def spec_HeadOk.f (k : Nat) (l0 : List (S88)) : Option (Bool) := spec_HeadOk.l0 k l0 0
theorem spec_HeadOk.mono_l : ∀ k, (∀ y0 y1, LeO (spec_HeadOk.l0 k y0 y1) (spec_HeadOk.l0 (k + 1) y0 y1))
 | 0 => fun _ _ r h => by simp [spec_HeadOk.l0] at h
 | k + 1 => by
  have ih0 := spec_HeadOk.mono_l k
  ·intro y0 y1
   unfold spec_HeadOk.l0
   have m0 := @spec_FieldOk.mono
   exact zm
theorem spec_HeadOk.mono : ∀ a0 k, LeO (spec_HeadOk.f k a0) (spec_HeadOk.f (k + 1) a0) := by
 intro a0 k
 have ih0 := spec_HeadOk.mono_l k
 unfold spec_HeadOk.f
 have m0 := @spec_FieldOk.mono
 exact zm
set_option maxHeartbeats 8000000 in
set_option maxRecDepth 100000 in
theorem spec_HeadOk.calls (k : Nat) (A0 : Option Addr) (c0 : Nat) (l0 : List (S88)) (r : Bool) (w : World) (hr0 : Kd.C k88 w A0 l0.length l0) (hc0 : l0.length ≤ c0) (h : spec_HeadOk.f k l0 = some r) :
  Calls Try.prog 16 #[.slice A0 l0.length c0] w fun e w' => e = .returned (.bool r) ∧ Below w.heap.size w w' := by
 have hu88 := Try.underlying88
 have HR0 := Aside0.mk hr0
 have HC0 := Aside0.mk hc0
 clear hr0 hc0
 have HB := Aside0.mk (Below.refl w.heap.size w)
 have H : (spec_HeadOk.l0 k l0 0) = some r := h
 clear h
 have H' := Aside0.mk H
 clear H
 go_enter Try.func16, Try.ntmps16
 go_wp2
 go_loopg [3] k (fun kq v3 w' => ∃ (x3_1 : Int), v3 = .int .i64 x3_1 ∧ Aside0 (spec_HeadOk.l0 kq l0 x3_1 = some r) ∧ Aside0 (kq ≤ k) ∧ Aside0 (Below w.heap.size w w'))
 case atStart => exact ⟨(0), zs, H', ⟨Nat.le_refl _⟩, ⟨zb HB⟩⟩
 case round =>
  clear H'
  try clear c1
  obtain ⟨x3_1, rfl, HA, HK1, HB⟩ := hrel
  cases gk with
  | zero => exact absurd HA.out (by simp [spec_HeadOk.l0])
  | succ k1 =>
   have H := HA.out
   clear HA
   simp only [spec_HeadOk.l0] at H
   replace H := sp H
   rcases H with ⟨c2, H⟩ | ⟨c2, H⟩
   ·skip
    have c2b0 := decide_eq_true c2
    clear c2
    by_cases c3 : 0 ≤ x3_1
    ·rw [if_pos c3] at H
     have c3b0 := decide_eq_true c3
     clear c3
     obtain ⟨t274, A4, H⟩ := ob H
     (try dsimp only at H)
     have HC5 := Aside0.mk H
     clear H
     have p273 : 0 ≤ (x3_1 : Int) := of_decide_eq_true za
     have q273 : x3_1 < (l0.length : Int) := of_decide_eq_true za
     obtain ⟨ad273, e273, hx273_0, hx273_1, hx273_2⟩ := at_T88 HR0.out x3_1 p273 q273
     cases e273
     replace hx273_0 := cb0 hx273_0 HB
     replace hx273_1 := cb0 hx273_1 HB
     replace hx273_2 := cb0 hx273_2 HB
     replace p273 := eq_true p273
     replace q273 := eq_true q273
     go_upto_if 15 with (first | ((with_reducible refine gq 55 rfl ?_); refine gl (some 14) Try.func55 #[.agg #[.string ((rd_T88 l0 x3_1).f0), .string ((rd_T88 l0 x3_1).f1), .bool ((rd_T88 l0 x3_1).f2)]] ?_; (with_reducible refine (spec_FieldOk.calls k1 ((rd_T88 l0 x3_1).f0) ((rd_T88 l0 x3_1).f1) ((rd_T88 l0 x3_1).f2) t274 _ A4.out).mono ?_); rintro e w6 ⟨rfl, hb⟩; refine ⟨_, rfl, ?_⟩; replace HB := Aside0.mk (below_step (zb HB) hb); (try clear hb)))
     (try simp only [Act.put, s1, s2, s3])
     have H := HC5.out
     clear HC5
     by_cases c7 : t274 = true
     ·subst c7
      rw [if_pos rfl] at H
      have H' := Aside0.mk H
      clear H
      go_wp2
      go_roundg k1
      case measure => have := HK1.out; omega
      case rel => exact ⟨(wrap64 (x3_1 + 1)), zs, H', ⟨by have := HK1.out; omega⟩, ⟨zb HB⟩⟩
     ·replace c7 := Bool.eq_false_iff.mpr c7
      subst c7
      rw [if_neg (show ¬ (false = true) by decide)] at H
      obtain rfl := Option.some.inj H
      go_wp2
      go_ret
      exact ⟨ze, zb HB⟩
    ·rw [if_neg c3] at H
     exact absurd H (by simp)
   ·skip
    have c2b0 := decide_eq_false c2
    clear c2
    obtain rfl := Option.some.inj H
    go_wp2
    go_ret
    exact ⟨ze, zb HB⟩

/-! ### spec_FlowOk: function 94 -/
-- thin
def spec_FlowOk.f (a0_0 : Int) (a0_1 : Int) : Option (Bool) := (spec_l6In.f a0_0 0 31).bind fun t276 => (if t276 = true then ((spec_l6In.f a0_1 0 31).bind fun t277 => (some t277)) else (some false))
set_option maxHeartbeats 8000000 in
set_option maxRecDepth 100000 in
theorem spec_FlowOk.calls (a0_0 : Int) (a0_1 : Int) (r : Bool) (w : World) (h : spec_FlowOk.f a0_0 a0_1 = some r) :
  Calls Try.prog 94 #[.agg #[.int .i64 a0_0, .int .i64 a0_1]] w fun e w' => e = .returned (.bool r) ∧ Below w.heap.size w w' := by
 have hu39 := Try.underlying39
 have HB := Aside0.mk (Below.refl w.heap.size w)
 have H : ((spec_l6In.f a0_0 0 31).bind fun t276 => (if t276 = true then ((spec_l6In.f a0_1 0 31).bind fun t277 => (some t277)) else (some false))) = some r := h
 clear h
 obtain ⟨t276, A2, H⟩ := ob H
 (try dsimp only at H)
 by_cases c3 : t276 = true
 ·subst c3
  rw [if_pos rfl] at H
  obtain ⟨t277, A4, H⟩ := ob H
  (try dsimp only at H)
  obtain rfl := Option.some.inj H
  go_enter Try.func94, Try.ntmps94
  go_wp2_with (first | ((with_reducible refine gd 1 rfl ?_); refine bx (N := 1) (cs := #[.int .i64 a0_0, .int .i64 a0_1]) (t := 39) ?_; intro gb275 hg w5 hbox hb; have BK275 := Aside0.mk (hbox); have GW275 := gw HB hg; have GE275 := GW275; replace HB := Aside0.mk (below_step (zb HB) hb); clear hb hbox hg; obtain ⟨hcz6_0, hcz6_1, hfz6_0, hfz6_1⟩ := c2 BK275) | ((with_reducible refine gq 56 rfl ?_); refine gl (some 5) Try.func56 #[.int .i64 a0_0, .int .i64 0, .int .i64 31] ?_; (with_reducible refine (spec_l6In.calls a0_0 0 31 true _ A2.out).mono ?_); rintro e w' ⟨rfl, ⟨nd, rfl⟩⟩; refine ⟨_, rfl, ?_⟩) | (go_at_call 56; (with_reducible refine (spec_l6In.calls a0_1 0 31 t277 _ A4.out).mono ?_); rintro e w' ⟨rfl, ⟨nd, rfl⟩⟩))
  go_ret
  exact ⟨ze, zb HB⟩
 ·replace c3 := Bool.eq_false_iff.mpr c3
  subst c3
  rw [if_neg (show ¬ (false = true) by decide)] at H
  obtain rfl := Option.some.inj H
  go_enter Try.func94, Try.ntmps94
  go_wp2_with (first | ((with_reducible refine gd 1 rfl ?_); refine bx (N := 1) (cs := #[.int .i64 a0_0, .int .i64 a0_1]) (t := 39) ?_; intro gb275 hg w7 hbox hb; have BK275 := Aside0.mk (hbox); have GW275 := gw HB hg; have GE275 := GW275; replace HB := Aside0.mk (below_step (zb HB) hb); clear hb hbox hg; obtain ⟨hcz8_0, hcz8_1, hfz8_0, hfz8_1⟩ := c2 BK275) | ((with_reducible refine gq 56 rfl ?_); refine gl (some 5) Try.func56 #[.int .i64 a0_0, .int .i64 0, .int .i64 31] ?_; (with_reducible refine (spec_l6In.calls a0_0 0 31 false _ A2.out).mono ?_); rintro e w' ⟨rfl, ⟨nd, rfl⟩⟩; refine ⟨_, rfl, ?_⟩))
  go_ret
  exact ⟨ze, zb HB⟩

/-! ### spec_l12Stream: function 133 -/
-- thin
def spec_l12Stream.f (a0 : Int) : Option (Bool) := (spec_l6In.f a0 1 7).bind fun t278 => (if t278 = true then (some ((Int.tmod a0 2) == 1)) else (some false))
set_option maxHeartbeats 8000000 in
set_option maxRecDepth 100000 in
theorem spec_l12Stream.calls (a0 : Int) (r : Bool) (w : World) (h : spec_l12Stream.f a0 = some r) :
  Calls Try.prog 133 #[.int .i64 a0] w fun e w' => e = .returned (.bool r) ∧ Drawn0 w w' := by
 have H : ((spec_l6In.f a0 1 7).bind fun t278 => (if t278 = true then (some ((Int.tmod a0 2) == 1)) else (some false))) = some r := h
 clear h
 obtain ⟨t278, A2, H⟩ := ob H
 (try dsimp only at H)
 by_cases c3 : t278 = true
 ·subst c3
  rw [if_pos rfl] at H
  obtain rfl := Option.some.inj H
  go_enter Try.func133, Try.ntmps133
  go_wp2_with (first | ((with_reducible refine gq 56 rfl ?_); refine gl (some 4) Try.func56 #[.int .i64 a0, .int .i64 1, .int .i64 7] ?_; (with_reducible refine (spec_l6In.calls a0 1 7 true _ A2.out).mono ?_); rintro e w' ⟨rfl, ⟨nd, rfl⟩⟩; refine ⟨_, rfl, ?_⟩))
  go_ret
  exact ⟨zs, by repeat (first | exact Drawn0.refl _ | apply Drawn0.step)⟩
 ·replace c3 := Bool.eq_false_iff.mpr c3
  subst c3
  rw [if_neg (show ¬ (false = true) by decide)] at H
  obtain rfl := Option.some.inj H
  go_enter Try.func133, Try.ntmps133
  go_wp2_with (first | ((with_reducible refine gq 56 rfl ?_); refine gl (some 4) Try.func56 #[.int .i64 a0, .int .i64 1, .int .i64 7] ?_; (with_reducible refine (spec_l6In.calls a0 1 7 false _ A2.out).mono ?_); rintro e w' ⟨rfl, ⟨nd, rfl⟩⟩; refine ⟨_, rfl, ?_⟩))
  go_ret
  exact ⟨zs, by repeat (first | exact Drawn0.refl _ | apply Drawn0.step)⟩

/-! ### spec_l21Stream: function 92 -/
-- thin
def spec_l21Stream.f (k : Nat) (a0_0 : Int) (a0_1 : Int) (l0_2 : List (S88)) (a0_3 : ByteArray) (a0_4 : Bool) (a0_5 : Bool) (a0_6 : Int) (l0_7 : List (S88)) (a0_8 : ByteArray) (a0_9 : Bool) (a0_10 : Int) (a0_11 : Int) : Option (Bool) := (spec_l12Stream.f a0_0).bind fun t280 => (if t280 = true then ((spec_l6In.f a0_1 1 3).bind fun t281 => (if t281 = true then ((spec_HeadOk.f k l0_2).bind fun t282 => (if t282 = true then ((spec_HeadOk.f k l0_7).bind fun t283 => (if t283 = true then ((spec_WordOk.f k a0_3).bind fun t284 => (if t284 = true then ((spec_WordOk.f k a0_8).bind fun t285 => (if t285 = true then ((spec_l6In.f a0_6 0 (a0_3.size : Int)).bind fun t286 => (if t286 = true then ((spec_FlowOk.f a0_10 a0_11).bind fun t287 => (some t287)) else (some false))) else (some false))) else (some false))) else (some false))) else (some false))) else (some false))) else (some false))
theorem spec_l21Stream.mono : ∀ a0 a1 a2 a3 a4 a5 a6 a7 a8 a9 a10 a11 k, LeO (spec_l21Stream.f k a0 a1 a2 a3 a4 a5 a6 a7 a8 a9 a10 a11) (spec_l21Stream.f (k + 1) a0 a1 a2 a3 a4 a5 a6 a7 a8 a9 a10 a11) := by
 intro a0 a1 a2 a3 a4 a5 a6 a7 a8 a9 a10 a11 k
 unfold spec_l21Stream.f
 have m0 := @spec_HeadOk.mono
 have m1 := @spec_WordOk.mono
 exact zm
set_option maxHeartbeats 8000000 in
set_option maxRecDepth 100000 in
theorem spec_l21Stream.calls (k : Nat) (a0_0 : Int) (a0_1 : Int) (A0_2 : Option Addr) (c0_2 : Nat) (l0_2 : List (S88)) (a0_3 : ByteArray) (a0_4 : Bool) (a0_5 : Bool) (a0_6 : Int) (A0_7 : Option Addr) (c0_7 : Nat) (l0_7 : List (S88)) (a0_8 : ByteArray) (a0_9 : Bool) (a0_10 : Int) (a0_11 : Int) (r : Bool) (w : World) (hr0_2 : Kd.C k88 w A0_2 l0_2.length l0_2) (hc0_2 : l0_2.length ≤ c0_2) (hr0_7 : Kd.C k88 w A0_7 l0_7.length l0_7) (hc0_7 : l0_7.length ≤ c0_7) (h : spec_l21Stream.f k a0_0 a0_1 l0_2 a0_3 a0_4 a0_5 a0_6 l0_7 a0_8 a0_9 a0_10 a0_11 = some r) :
  Calls Try.prog 92 #[.agg #[.int .i64 a0_0, .int .i64 a0_1, .slice A0_2 l0_2.length c0_2, .string a0_3, .bool a0_4, .bool a0_5, .int .i64 a0_6, .slice A0_7 l0_7.length c0_7, .string a0_8, .bool a0_9, .int .i64 a0_10, .int .i64 a0_11]] w fun e w' => e = .returned (.bool r) ∧ Below w.heap.size w w' := by
 have hu104 := Try.underlying104
 have hu39 := Try.underlying39
 have HR0_2 := Aside0.mk hr0_2
 have HC0_2 := Aside0.mk hc0_2
 clear hr0_2 hc0_2
 have HR0_7 := Aside0.mk hr0_7
 have HC0_7 := Aside0.mk hc0_7
 clear hr0_7 hc0_7
 have HB := Aside0.mk (Below.refl w.heap.size w)
 have H : ((spec_l12Stream.f a0_0).bind fun t280 => (if t280 = true then ((spec_l6In.f a0_1 1 3).bind fun t281 => (if t281 = true then ((spec_HeadOk.f k l0_2).bind fun t282 => (if t282 = true then ((spec_HeadOk.f k l0_7).bind fun t283 => (if t283 = true then ((spec_WordOk.f k a0_3).bind fun t284 => (if t284 = true then ((spec_WordOk.f k a0_8).bind fun t285 => (if t285 = true then ((spec_l6In.f a0_6 0 (a0_3.size : Int)).bind fun t286 => (if t286 = true then ((spec_FlowOk.f a0_10 a0_11).bind fun t287 => (some t287)) else (some false))) else (some false))) else (some false))) else (some false))) else (some false))) else (some false))) else (some false))) = some r := h
 clear h
 obtain ⟨t280, A2, H⟩ := ob H
 (try dsimp only at H)
 by_cases c3 : t280 = true
 ·subst c3
  rw [if_pos rfl] at H
  obtain ⟨t281, A4, H⟩ := ob H
  (try dsimp only at H)
  by_cases c5 : t281 = true
  ·subst c5
   rw [if_pos rfl] at H
   obtain ⟨t282, A6, H⟩ := ob H
   (try dsimp only at H)
   by_cases c7 : t282 = true
   ·subst c7
    rw [if_pos rfl] at H
    obtain ⟨t283, A8, H⟩ := ob H
    (try dsimp only at H)
    by_cases c9 : t283 = true
    ·subst c9
     rw [if_pos rfl] at H
     obtain ⟨t284, A10, H⟩ := ob H
     (try dsimp only at H)
     by_cases c11 : t284 = true
     ·subst c11
      rw [if_pos rfl] at H
      obtain ⟨t285, A12, H⟩ := ob H
      (try dsimp only at H)
      by_cases c13 : t285 = true
      ·subst c13
       rw [if_pos rfl] at H
       obtain ⟨t286, A14, H⟩ := ob H
       (try dsimp only at H)
       by_cases c15 : t286 = true
       ·subst c15
        rw [if_pos rfl] at H
        obtain ⟨t287, A16, H⟩ := ob H
        (try dsimp only at H)
        obtain rfl := Option.some.inj H
        go_enter Try.func92, Try.ntmps92
        go_wp2_with (first | ((with_reducible refine gd 1 rfl ?_); (try (refine gate_guard (by rfl) ?_; dsimp only)); refine bx (N := 1) (cs := #[.int .i64 a0_0, .int .i64 a0_1, .slice A0_2 l0_2.length c0_2, .string a0_3, .bool a0_4, .bool a0_5, .int .i64 a0_6, .slice A0_7 l0_7.length c0_7, .string a0_8, .bool a0_9, .int .i64 a0_10, .int .i64 a0_11]) (t := 104) ?_; intro gb279 hg w17 hbox hb; have BK279 := Aside0.mk (hbox); have GW279 := gw HB hg; have GE279 := GW279; replace HB := Aside0.mk (below_step (zb HB) hb); clear hb hbox hg; obtain ⟨hcz18_0, hcz18_1, hcz18_2, hcz18_3, hcz18_4, hcz18_5, hcz18_6, hcz18_7, hcz18_8, hcz18_9, hcz18_10, hcz18_11, hfz18_0, hfz18_1, hfz18_2, hfz18_3, hfz18_4, hfz18_5, hfz18_6, hfz18_7, hfz18_8, hfz18_9, hfz18_10, hfz18_11⟩ := c12 BK279) | ((with_reducible refine gq 133 rfl ?_); refine gl (some 5) Try.func133 #[.int .i64 a0_0] ?_; (with_reducible refine (spec_l12Stream.calls a0_0 true _ A2.out).mono ?_); rintro e w' ⟨rfl, ⟨nd, rfl⟩⟩; refine ⟨_, rfl, ?_⟩) | (go_at_call 56; (with_reducible refine (spec_l6In.calls a0_1 1 3 true _ A4.out).mono ?_); rintro e w' ⟨rfl, ⟨nd, rfl⟩⟩) | (go_at_call 16; (with_reducible refine (spec_HeadOk.calls k _ _ l0_2 true _ ?side1 ?side2 A6.out).mono ?_); (case side1 => exact (Kd.C_below HR0_2.out (zb HB))); (case side2 => exact HC0_2.out); rintro e w19 ⟨rfl, hb⟩; replace BK279 := kb BK279 hb; replace HB := Aside0.mk (below_step (zb HB) hb); (try clear hb); obtain ⟨hcz20_0, hcz20_1, hcz20_2, hcz20_3, hcz20_4, hcz20_5, hcz20_6, hcz20_7, hcz20_8, hcz20_9, hcz20_10, hcz20_11, hfz20_0, hfz20_1, hfz20_2, hfz20_3, hfz20_4, hfz20_5, hfz20_6, hfz20_7, hfz20_8, hfz20_9, hfz20_10, hfz20_11⟩ := c12 BK279) | (go_at_call 16; (with_reducible refine (spec_HeadOk.calls k _ _ l0_7 true _ ?side1 ?side2 A8.out).mono ?_); (case side1 => exact zc (Kd.C_below HR0_7.out HB.out)); (case side2 => exact HC0_7.out); rintro e w21 ⟨rfl, hb⟩; replace BK279 := kb BK279 hb; replace HB := Aside0.mk (below_step (zb HB) hb); (try clear hb); obtain ⟨hcz22_0, hcz22_1, hcz22_2, hcz22_3, hcz22_4, hcz22_5, hcz22_6, hcz22_7, hcz22_8, hcz22_9, hcz22_10, hcz22_11, hfz22_0, hfz22_1, hfz22_2, hfz22_3, hfz22_4, hfz22_5, hfz22_6, hfz22_7, hfz22_8, hfz22_9, hfz22_10, hfz22_11⟩ := c12 BK279) | (go_at_call 113; (with_reducible refine (spec_WordOk.calls k a0_3 true _ A10.out).mono ?_); rintro e w' ⟨rfl, ⟨nd, rfl⟩⟩) | (go_at_call 113; (with_reducible refine (spec_WordOk.calls k a0_8 true _ A12.out).mono ?_); rintro e w' ⟨rfl, ⟨nd, rfl⟩⟩) | (go_at_call 56; (with_reducible refine (spec_l6In.calls a0_6 0 (a0_3.size : Int) true _ A14.out).mono ?_); rintro e w' ⟨rfl, ⟨nd, rfl⟩⟩) | (go_at_call 94; (with_reducible refine (spec_FlowOk.calls a0_10 a0_11 t287 _ A16.out).mono ?_); rintro e w23 ⟨rfl, hb⟩; replace BK279 := kb BK279 hb; replace HB := Aside0.mk (below_step (zb HB) hb); (try clear hb)))
        go_ret
        exact ⟨ze, zb HB⟩
       ·replace c15 := Bool.eq_false_iff.mpr c15
        subst c15
        rw [if_neg (show ¬ (false = true) by decide)] at H
        obtain rfl := Option.some.inj H
        go_enter Try.func92, Try.ntmps92
        go_wp2_with (first | ((with_reducible refine gd 1 rfl ?_); (try (refine gate_guard (by rfl) ?_; dsimp only)); refine bx (N := 1) (cs := #[.int .i64 a0_0, .int .i64 a0_1, .slice A0_2 l0_2.length c0_2, .string a0_3, .bool a0_4, .bool a0_5, .int .i64 a0_6, .slice A0_7 l0_7.length c0_7, .string a0_8, .bool a0_9, .int .i64 a0_10, .int .i64 a0_11]) (t := 104) ?_; intro gb279 hg w24 hbox hb; have BK279 := Aside0.mk (hbox); have GW279 := gw HB hg; have GE279 := GW279; replace HB := Aside0.mk (below_step (zb HB) hb); clear hb hbox hg; obtain ⟨hcz25_0, hcz25_1, hcz25_2, hcz25_3, hcz25_4, hcz25_5, hcz25_6, hcz25_7, hcz25_8, hcz25_9, hcz25_10, hcz25_11, hfz25_0, hfz25_1, hfz25_2, hfz25_3, hfz25_4, hfz25_5, hfz25_6, hfz25_7, hfz25_8, hfz25_9, hfz25_10, hfz25_11⟩ := c12 BK279) | ((with_reducible refine gq 133 rfl ?_); refine gl (some 5) Try.func133 #[.int .i64 a0_0] ?_; (with_reducible refine (spec_l12Stream.calls a0_0 true _ A2.out).mono ?_); rintro e w' ⟨rfl, ⟨nd, rfl⟩⟩; refine ⟨_, rfl, ?_⟩) | (go_at_call 56; (with_reducible refine (spec_l6In.calls a0_1 1 3 true _ A4.out).mono ?_); rintro e w' ⟨rfl, ⟨nd, rfl⟩⟩) | (go_at_call 16; (with_reducible refine (spec_HeadOk.calls k _ _ l0_2 true _ ?side1 ?side2 A6.out).mono ?_); (case side1 => exact (Kd.C_below HR0_2.out (zb HB))); (case side2 => exact HC0_2.out); rintro e w26 ⟨rfl, hb⟩; replace BK279 := kb BK279 hb; replace HB := Aside0.mk (below_step (zb HB) hb); (try clear hb); obtain ⟨hcz27_0, hcz27_1, hcz27_2, hcz27_3, hcz27_4, hcz27_5, hcz27_6, hcz27_7, hcz27_8, hcz27_9, hcz27_10, hcz27_11, hfz27_0, hfz27_1, hfz27_2, hfz27_3, hfz27_4, hfz27_5, hfz27_6, hfz27_7, hfz27_8, hfz27_9, hfz27_10, hfz27_11⟩ := c12 BK279) | (go_at_call 16; (with_reducible refine (spec_HeadOk.calls k _ _ l0_7 true _ ?side1 ?side2 A8.out).mono ?_); (case side1 => exact zc (Kd.C_below HR0_7.out HB.out)); (case side2 => exact HC0_7.out); rintro e w28 ⟨rfl, hb⟩; replace BK279 := kb BK279 hb; replace HB := Aside0.mk (below_step (zb HB) hb); (try clear hb); obtain ⟨hcz29_0, hcz29_1, hcz29_2, hcz29_3, hcz29_4, hcz29_5, hcz29_6, hcz29_7, hcz29_8, hcz29_9, hcz29_10, hcz29_11, hfz29_0, hfz29_1, hfz29_2, hfz29_3, hfz29_4, hfz29_5, hfz29_6, hfz29_7, hfz29_8, hfz29_9, hfz29_10, hfz29_11⟩ := c12 BK279) | (go_at_call 113; (with_reducible refine (spec_WordOk.calls k a0_3 true _ A10.out).mono ?_); rintro e w' ⟨rfl, ⟨nd, rfl⟩⟩) | (go_at_call 113; (with_reducible refine (spec_WordOk.calls k a0_8 true _ A12.out).mono ?_); rintro e w' ⟨rfl, ⟨nd, rfl⟩⟩) | (go_at_call 56; (with_reducible refine (spec_l6In.calls a0_6 0 (a0_3.size : Int) false _ A14.out).mono ?_); rintro e w' ⟨rfl, ⟨nd, rfl⟩⟩))
        go_ret
        exact ⟨ze, zb HB⟩
      ·replace c13 := Bool.eq_false_iff.mpr c13
       subst c13
       rw [if_neg (show ¬ (false = true) by decide)] at H
       obtain rfl := Option.some.inj H
       go_enter Try.func92, Try.ntmps92
       go_wp2_with (first | ((with_reducible refine gd 1 rfl ?_); (try (refine gate_guard (by rfl) ?_; dsimp only)); refine bx (N := 1) (cs := #[.int .i64 a0_0, .int .i64 a0_1, .slice A0_2 l0_2.length c0_2, .string a0_3, .bool a0_4, .bool a0_5, .int .i64 a0_6, .slice A0_7 l0_7.length c0_7, .string a0_8, .bool a0_9, .int .i64 a0_10, .int .i64 a0_11]) (t := 104) ?_; intro gb279 hg w30 hbox hb; have BK279 := Aside0.mk (hbox); have GW279 := gw HB hg; have GE279 := GW279; replace HB := Aside0.mk (below_step (zb HB) hb); clear hb hbox hg; obtain ⟨hcz31_0, hcz31_1, hcz31_2, hcz31_3, hcz31_4, hcz31_5, hcz31_6, hcz31_7, hcz31_8, hcz31_9, hcz31_10, hcz31_11, hfz31_0, hfz31_1, hfz31_2, hfz31_3, hfz31_4, hfz31_5, hfz31_6, hfz31_7, hfz31_8, hfz31_9, hfz31_10, hfz31_11⟩ := c12 BK279) | ((with_reducible refine gq 133 rfl ?_); refine gl (some 5) Try.func133 #[.int .i64 a0_0] ?_; (with_reducible refine (spec_l12Stream.calls a0_0 true _ A2.out).mono ?_); rintro e w' ⟨rfl, ⟨nd, rfl⟩⟩; refine ⟨_, rfl, ?_⟩) | (go_at_call 56; (with_reducible refine (spec_l6In.calls a0_1 1 3 true _ A4.out).mono ?_); rintro e w' ⟨rfl, ⟨nd, rfl⟩⟩) | (go_at_call 16; (with_reducible refine (spec_HeadOk.calls k _ _ l0_2 true _ ?side1 ?side2 A6.out).mono ?_); (case side1 => exact (Kd.C_below HR0_2.out (zb HB))); (case side2 => exact HC0_2.out); rintro e w32 ⟨rfl, hb⟩; replace BK279 := kb BK279 hb; replace HB := Aside0.mk (below_step (zb HB) hb); (try clear hb); obtain ⟨hcz33_0, hcz33_1, hcz33_2, hcz33_3, hcz33_4, hcz33_5, hcz33_6, hcz33_7, hcz33_8, hcz33_9, hcz33_10, hcz33_11, hfz33_0, hfz33_1, hfz33_2, hfz33_3, hfz33_4, hfz33_5, hfz33_6, hfz33_7, hfz33_8, hfz33_9, hfz33_10, hfz33_11⟩ := c12 BK279) | (go_at_call 16; (with_reducible refine (spec_HeadOk.calls k _ _ l0_7 true _ ?side1 ?side2 A8.out).mono ?_); (case side1 => exact zc (Kd.C_below HR0_7.out HB.out)); (case side2 => exact HC0_7.out); rintro e w34 ⟨rfl, hb⟩; replace BK279 := kb BK279 hb; replace HB := Aside0.mk (below_step (zb HB) hb); (try clear hb); obtain ⟨hcz35_0, hcz35_1, hcz35_2, hcz35_3, hcz35_4, hcz35_5, hcz35_6, hcz35_7, hcz35_8, hcz35_9, hcz35_10, hcz35_11, hfz35_0, hfz35_1, hfz35_2, hfz35_3, hfz35_4, hfz35_5, hfz35_6, hfz35_7, hfz35_8, hfz35_9, hfz35_10, hfz35_11⟩ := c12 BK279) | (go_at_call 113; (with_reducible refine (spec_WordOk.calls k a0_3 true _ A10.out).mono ?_); rintro e w' ⟨rfl, ⟨nd, rfl⟩⟩) | (go_at_call 113; (with_reducible refine (spec_WordOk.calls k a0_8 false _ A12.out).mono ?_); rintro e w' ⟨rfl, ⟨nd, rfl⟩⟩))
       go_ret
       exact ⟨ze, zb HB⟩
     ·replace c11 := Bool.eq_false_iff.mpr c11
      subst c11
      rw [if_neg (show ¬ (false = true) by decide)] at H
      obtain rfl := Option.some.inj H
      go_enter Try.func92, Try.ntmps92
      go_wp2_with (first | ((with_reducible refine gd 1 rfl ?_); (try (refine gate_guard (by rfl) ?_; dsimp only)); refine bx (N := 1) (cs := #[.int .i64 a0_0, .int .i64 a0_1, .slice A0_2 l0_2.length c0_2, .string a0_3, .bool a0_4, .bool a0_5, .int .i64 a0_6, .slice A0_7 l0_7.length c0_7, .string a0_8, .bool a0_9, .int .i64 a0_10, .int .i64 a0_11]) (t := 104) ?_; intro gb279 hg w36 hbox hb; have BK279 := Aside0.mk (hbox); have GW279 := gw HB hg; have GE279 := GW279; replace HB := Aside0.mk (below_step (zb HB) hb); clear hb hbox hg; obtain ⟨hcz37_0, hcz37_1, hcz37_2, hcz37_3, hcz37_4, hcz37_5, hcz37_6, hcz37_7, hcz37_8, hcz37_9, hcz37_10, hcz37_11, hfz37_0, hfz37_1, hfz37_2, hfz37_3, hfz37_4, hfz37_5, hfz37_6, hfz37_7, hfz37_8, hfz37_9, hfz37_10, hfz37_11⟩ := c12 BK279) | ((with_reducible refine gq 133 rfl ?_); refine gl (some 5) Try.func133 #[.int .i64 a0_0] ?_; (with_reducible refine (spec_l12Stream.calls a0_0 true _ A2.out).mono ?_); rintro e w' ⟨rfl, ⟨nd, rfl⟩⟩; refine ⟨_, rfl, ?_⟩) | (go_at_call 56; (with_reducible refine (spec_l6In.calls a0_1 1 3 true _ A4.out).mono ?_); rintro e w' ⟨rfl, ⟨nd, rfl⟩⟩) | (go_at_call 16; (with_reducible refine (spec_HeadOk.calls k _ _ l0_2 true _ ?side1 ?side2 A6.out).mono ?_); (case side1 => exact (Kd.C_below HR0_2.out (zb HB))); (case side2 => exact HC0_2.out); rintro e w38 ⟨rfl, hb⟩; replace BK279 := kb BK279 hb; replace HB := Aside0.mk (below_step (zb HB) hb); (try clear hb); obtain ⟨hcz39_0, hcz39_1, hcz39_2, hcz39_3, hcz39_4, hcz39_5, hcz39_6, hcz39_7, hcz39_8, hcz39_9, hcz39_10, hcz39_11, hfz39_0, hfz39_1, hfz39_2, hfz39_3, hfz39_4, hfz39_5, hfz39_6, hfz39_7, hfz39_8, hfz39_9, hfz39_10, hfz39_11⟩ := c12 BK279) | (go_at_call 16; (with_reducible refine (spec_HeadOk.calls k _ _ l0_7 true _ ?side1 ?side2 A8.out).mono ?_); (case side1 => exact zc (Kd.C_below HR0_7.out HB.out)); (case side2 => exact HC0_7.out); rintro e w40 ⟨rfl, hb⟩; replace BK279 := kb BK279 hb; replace HB := Aside0.mk (below_step (zb HB) hb); (try clear hb); obtain ⟨hcz41_0, hcz41_1, hcz41_2, hcz41_3, hcz41_4, hcz41_5, hcz41_6, hcz41_7, hcz41_8, hcz41_9, hcz41_10, hcz41_11, hfz41_0, hfz41_1, hfz41_2, hfz41_3, hfz41_4, hfz41_5, hfz41_6, hfz41_7, hfz41_8, hfz41_9, hfz41_10, hfz41_11⟩ := c12 BK279) | (go_at_call 113; (with_reducible refine (spec_WordOk.calls k a0_3 false _ A10.out).mono ?_); rintro e w' ⟨rfl, ⟨nd, rfl⟩⟩))
      go_ret
      exact ⟨ze, zb HB⟩
    ·replace c9 := Bool.eq_false_iff.mpr c9
     subst c9
     rw [if_neg (show ¬ (false = true) by decide)] at H
     obtain rfl := Option.some.inj H
     go_enter Try.func92, Try.ntmps92
     go_wp2_with (first | ((with_reducible refine gd 1 rfl ?_); (try (refine gate_guard (by rfl) ?_; dsimp only)); refine bx (N := 1) (cs := #[.int .i64 a0_0, .int .i64 a0_1, .slice A0_2 l0_2.length c0_2, .string a0_3, .bool a0_4, .bool a0_5, .int .i64 a0_6, .slice A0_7 l0_7.length c0_7, .string a0_8, .bool a0_9, .int .i64 a0_10, .int .i64 a0_11]) (t := 104) ?_; intro gb279 hg w42 hbox hb; have BK279 := Aside0.mk (hbox); have GW279 := gw HB hg; have GE279 := GW279; replace HB := Aside0.mk (below_step (zb HB) hb); clear hb hbox hg; obtain ⟨hcz43_0, hcz43_1, hcz43_2, hcz43_3, hcz43_4, hcz43_5, hcz43_6, hcz43_7, hcz43_8, hcz43_9, hcz43_10, hcz43_11, hfz43_0, hfz43_1, hfz43_2, hfz43_3, hfz43_4, hfz43_5, hfz43_6, hfz43_7, hfz43_8, hfz43_9, hfz43_10, hfz43_11⟩ := c12 BK279) | ((with_reducible refine gq 133 rfl ?_); refine gl (some 5) Try.func133 #[.int .i64 a0_0] ?_; (with_reducible refine (spec_l12Stream.calls a0_0 true _ A2.out).mono ?_); rintro e w' ⟨rfl, ⟨nd, rfl⟩⟩; refine ⟨_, rfl, ?_⟩) | (go_at_call 56; (with_reducible refine (spec_l6In.calls a0_1 1 3 true _ A4.out).mono ?_); rintro e w' ⟨rfl, ⟨nd, rfl⟩⟩) | (go_at_call 16; (with_reducible refine (spec_HeadOk.calls k _ _ l0_2 true _ ?side1 ?side2 A6.out).mono ?_); (case side1 => exact (Kd.C_below HR0_2.out (zb HB))); (case side2 => exact HC0_2.out); rintro e w44 ⟨rfl, hb⟩; replace BK279 := kb BK279 hb; replace HB := Aside0.mk (below_step (zb HB) hb); (try clear hb); obtain ⟨hcz45_0, hcz45_1, hcz45_2, hcz45_3, hcz45_4, hcz45_5, hcz45_6, hcz45_7, hcz45_8, hcz45_9, hcz45_10, hcz45_11, hfz45_0, hfz45_1, hfz45_2, hfz45_3, hfz45_4, hfz45_5, hfz45_6, hfz45_7, hfz45_8, hfz45_9, hfz45_10, hfz45_11⟩ := c12 BK279) | (go_at_call 16; (with_reducible refine (spec_HeadOk.calls k _ _ l0_7 false _ ?side1 ?side2 A8.out).mono ?_); (case side1 => exact zc (Kd.C_below HR0_7.out HB.out)); (case side2 => exact HC0_7.out); rintro e w46 ⟨rfl, hb⟩; replace BK279 := kb BK279 hb; replace HB := Aside0.mk (below_step (zb HB) hb); (try clear hb)))
     go_ret
     exact ⟨ze, zb HB⟩
   ·replace c7 := Bool.eq_false_iff.mpr c7
    subst c7
    rw [if_neg (show ¬ (false = true) by decide)] at H
    obtain rfl := Option.some.inj H
    go_enter Try.func92, Try.ntmps92
    go_wp2_with (first | ((with_reducible refine gd 1 rfl ?_); (try (refine gate_guard (by rfl) ?_; dsimp only)); refine bx (N := 1) (cs := #[.int .i64 a0_0, .int .i64 a0_1, .slice A0_2 l0_2.length c0_2, .string a0_3, .bool a0_4, .bool a0_5, .int .i64 a0_6, .slice A0_7 l0_7.length c0_7, .string a0_8, .bool a0_9, .int .i64 a0_10, .int .i64 a0_11]) (t := 104) ?_; intro gb279 hg w47 hbox hb; have BK279 := Aside0.mk (hbox); have GW279 := gw HB hg; have GE279 := GW279; replace HB := Aside0.mk (below_step (zb HB) hb); clear hb hbox hg; obtain ⟨hcz48_0, hcz48_1, hcz48_2, hcz48_3, hcz48_4, hcz48_5, hcz48_6, hcz48_7, hcz48_8, hcz48_9, hcz48_10, hcz48_11, hfz48_0, hfz48_1, hfz48_2, hfz48_3, hfz48_4, hfz48_5, hfz48_6, hfz48_7, hfz48_8, hfz48_9, hfz48_10, hfz48_11⟩ := c12 BK279) | ((with_reducible refine gq 133 rfl ?_); refine gl (some 5) Try.func133 #[.int .i64 a0_0] ?_; (with_reducible refine (spec_l12Stream.calls a0_0 true _ A2.out).mono ?_); rintro e w' ⟨rfl, ⟨nd, rfl⟩⟩; refine ⟨_, rfl, ?_⟩) | (go_at_call 56; (with_reducible refine (spec_l6In.calls a0_1 1 3 true _ A4.out).mono ?_); rintro e w' ⟨rfl, ⟨nd, rfl⟩⟩) | (go_at_call 16; (with_reducible refine (spec_HeadOk.calls k _ _ l0_2 false _ ?side1 ?side2 A6.out).mono ?_); (case side1 => exact (Kd.C_below HR0_2.out (zb HB))); (case side2 => exact HC0_2.out); rintro e w49 ⟨rfl, hb⟩; replace BK279 := kb BK279 hb; replace HB := Aside0.mk (below_step (zb HB) hb); (try clear hb)))
    go_ret
    exact ⟨ze, zb HB⟩
  ·replace c5 := Bool.eq_false_iff.mpr c5
   subst c5
   rw [if_neg (show ¬ (false = true) by decide)] at H
   obtain rfl := Option.some.inj H
   go_enter Try.func92, Try.ntmps92
   go_wp2_with (first | ((with_reducible refine gd 1 rfl ?_); (try (refine gate_guard (by rfl) ?_; dsimp only)); refine bx (N := 1) (cs := #[.int .i64 a0_0, .int .i64 a0_1, .slice A0_2 l0_2.length c0_2, .string a0_3, .bool a0_4, .bool a0_5, .int .i64 a0_6, .slice A0_7 l0_7.length c0_7, .string a0_8, .bool a0_9, .int .i64 a0_10, .int .i64 a0_11]) (t := 104) ?_; intro gb279 hg w50 hbox hb; have BK279 := Aside0.mk (hbox); have GW279 := gw HB hg; have GE279 := GW279; replace HB := Aside0.mk (below_step (zb HB) hb); clear hb hbox hg; obtain ⟨hcz51_0, hcz51_1, hcz51_2, hcz51_3, hcz51_4, hcz51_5, hcz51_6, hcz51_7, hcz51_8, hcz51_9, hcz51_10, hcz51_11, hfz51_0, hfz51_1, hfz51_2, hfz51_3, hfz51_4, hfz51_5, hfz51_6, hfz51_7, hfz51_8, hfz51_9, hfz51_10, hfz51_11⟩ := c12 BK279) | ((with_reducible refine gq 133 rfl ?_); refine gl (some 5) Try.func133 #[.int .i64 a0_0] ?_; (with_reducible refine (spec_l12Stream.calls a0_0 true _ A2.out).mono ?_); rintro e w' ⟨rfl, ⟨nd, rfl⟩⟩; refine ⟨_, rfl, ?_⟩) | (go_at_call 56; (with_reducible refine (spec_l6In.calls a0_1 1 3 false _ A4.out).mono ?_); rintro e w' ⟨rfl, ⟨nd, rfl⟩⟩))
   go_ret
   exact ⟨ze, zb HB⟩
 ·replace c3 := Bool.eq_false_iff.mpr c3
  subst c3
  rw [if_neg (show ¬ (false = true) by decide)] at H
  obtain rfl := Option.some.inj H
  go_enter Try.func92, Try.ntmps92
  go_wp2_with (first | ((with_reducible refine gd 1 rfl ?_); (try (refine gate_guard (by rfl) ?_; dsimp only)); refine bx (N := 1) (cs := #[.int .i64 a0_0, .int .i64 a0_1, .slice A0_2 l0_2.length c0_2, .string a0_3, .bool a0_4, .bool a0_5, .int .i64 a0_6, .slice A0_7 l0_7.length c0_7, .string a0_8, .bool a0_9, .int .i64 a0_10, .int .i64 a0_11]) (t := 104) ?_; intro gb279 hg w52 hbox hb; have BK279 := Aside0.mk (hbox); have GW279 := gw HB hg; have GE279 := GW279; replace HB := Aside0.mk (below_step (zb HB) hb); clear hb hbox hg; obtain ⟨hcz53_0, hcz53_1, hcz53_2, hcz53_3, hcz53_4, hcz53_5, hcz53_6, hcz53_7, hcz53_8, hcz53_9, hcz53_10, hcz53_11, hfz53_0, hfz53_1, hfz53_2, hfz53_3, hfz53_4, hfz53_5, hfz53_6, hfz53_7, hfz53_8, hfz53_9, hfz53_10, hfz53_11⟩ := c12 BK279) | ((with_reducible refine gq 133 rfl ?_); refine gl (some 5) Try.func133 #[.int .i64 a0_0] ?_; (with_reducible refine (spec_l12Stream.calls a0_0 false _ A2.out).mono ?_); rintro e w' ⟨rfl, ⟨nd, rfl⟩⟩; refine ⟨_, rfl, ?_⟩))
  go_ret
  exact ⟨ze, zb HB⟩

end Go.Proofs.Ytlpibelofcabhaa.PFnExactWorldFrames
