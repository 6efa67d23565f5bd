-- WRITTEN BY a turned print (wip/tools of the prover's repo)
import Derived.Test.YtlpibelofcabhaaDoorPFnExactEndCallx0
import Derived.Test.YtlpibelofcabhaaDoorPFnExactEndCallx1
namespace Go.Proofs.YtlpibelofcabhaaDoor.PFnExactEndCall
open Go.RowKit Go.Proofs.YtlpibelofcabhaaDoorW.PrintWords Go.Proofs.YtlpibelofcabhaaDoorW.PrintLast Go.Proofs.YtlpibelofcabhaaDoorW.PrintMore Go.Proofs.YtlpibelofcabhaaDoor.Lm
attribute [local go_sem] max2_int min2_int max_two min_two max_three min_three max_four min_four   -- for this text's walks alone
set_option linter.unusedVariables false
set_option linter.unusedSimpArgs false

/-! ### spec_WordOk: function 45 -/
-- thin
def spec_WordOk.l0 : Nat → ByteArray → Int → Option (Bool)
 | 0, _, _ => none
 | k + 1, x0, x3 => if x3 < (x0.size : Int) then (if 0 ≤ x3 then ((spec_l2Sign.f k (bt x0 x3)).bind fun t122 => (if t122 < 0 then (some false) else (spec_WordOk.l0 k x0 (wrap64 (x3 + 1))))) else (none)) else (some (decide ((x0.size : Int) ≤ 16)))
def spec_WordOk.f (k : Nat) (a0 : ByteArray) : Option (Bool) := spec_WordOk.l0 k a0 0
theorem spec_WordOk.mono_l : ∀ k, (∀ y0 y1, LeO (spec_WordOk.l0 k y0 y1) (spec_WordOk.l0 (k + 1) y0 y1))
 | 0 => fun _ _ r h => by simp [spec_WordOk.l0] at h
 | k + 1 => by
  have ih0 := spec_WordOk.mono_l k
  ·intro y0 y1
   unfold spec_WordOk.l0
   have m0 := @spec_l2Sign.mono
   exact zm
theorem spec_WordOk.mono : ∀ a0 k, LeO (spec_WordOk.f k a0) (spec_WordOk.f (k + 1) a0) := by
 intro a0 k
 have ih0 := spec_WordOk.mono_l k
 unfold spec_WordOk.f
 have m0 := @spec_l2Sign.mono
 exact zm
set_option maxHeartbeats 8000000 in
set_option maxRecDepth 100000 in
theorem spec_WordOk.calls (k : Nat) (a0 : ByteArray) (r : Bool) (w : World) (h : spec_WordOk.f k a0 = some r) :
  Calls Tryd.prog 45 #[.string a0] w fun e w' => e = .returned (.bool r) ∧ Drawn0 w w' := by
 have H : (spec_WordOk.l0 k a0 0) = some r := h
 clear h
 have H' := Aside0.mk H
 clear H
 go_enter Tryd.func45, Tryd.ntmps45
 go_wp2
 go_loopg [3] k (fun kq v3 w' => ∃ (x3_1 : Int), v3 = .int .i64 x3_1 ∧ Aside0 (spec_WordOk.l0 kq a0 x3_1 = some r) ∧ Aside0 (kq ≤ k) ∧ Drawn0 w w')
 case atStart => exact ⟨(0), zs, H', ⟨Nat.le_refl _⟩, by repeat (first | exact Drawn0.refl _ | apply Drawn0.step)⟩
 case round =>
  clear H'
  obtain ⟨x3_1, rfl, HA, HK1, ⟨m1, rfl⟩⟩ := hrel
  cases gk with
  | zero => exact absurd HA.out (by simp [spec_WordOk.l0])
  | succ k1 =>
   have H := HA.out
   clear HA
   simp only [spec_WordOk.l0] at H
   replace H := sp H
   rcases H with ⟨c2, H⟩ | ⟨c2, H⟩
   ·skip
    have c2b0 := decide_eq_true c2
    clear c2
    by_cases c3 : 0 ≤ x3_1
    ·rw [if_pos c3] at H
     have c3b0 := decide_eq_true c3
     clear c3
     obtain ⟨t122, A5, H⟩ := ob H
     (try dsimp only at H)
     by_cases c6 : t122 < 0
     ·rw [if_pos c6] at H
      have c6b0 := decide_eq_true c6
      clear c6
      obtain rfl := Option.some.inj H
      have p4 : 0 ≤ (x3_1 : Int) := of_decide_eq_true za
      have q4 : x3_1 < (a0.size : Int) := of_decide_eq_true za
      have hx4 := bt_at a0 x3_1
      replace p4 := eq_true p4
      replace q4 := eq_true q4
      go_wp2_with (first | ((with_reducible refine gq 73 rfl ?_); refine gl (some 13) Tryd.func73 #[.int .u8 (bt a0 x3_1)] ?_; (with_reducible refine (spec_l2Sign.calls k1 (bt a0 x3_1) t122 _ A5.out).mono ?_); rintro e w' ⟨rfl, ⟨nd, rfl⟩⟩; refine ⟨_, rfl, ?_⟩))
      go_ret
      exact ⟨zs, by repeat (first | exact Drawn0.refl _ | apply Drawn0.step)⟩
     ·rw [if_neg c6] at H
      have c6b0 := decide_eq_false c6
      clear c6
      have H' := Aside0.mk H
      clear H
      have p4 : 0 ≤ (x3_1 : Int) := of_decide_eq_true za
      have q4 : x3_1 < (a0.size : Int) := of_decide_eq_true za
      have hx4 := bt_at a0 x3_1
      replace p4 := eq_true p4
      replace q4 := eq_true q4
      go_wp2_with (first | ((with_reducible refine gq 73 rfl ?_); refine gl (some 13) Tryd.func73 #[.int .u8 (bt a0 x3_1)] ?_; (with_reducible refine (spec_l2Sign.calls k1 (bt a0 x3_1) t122 _ A5.out).mono ?_); rintro e w' ⟨rfl, ⟨nd, rfl⟩⟩; refine ⟨_, rfl, ?_⟩))
      go_roundg k1
      case measure => have := HK1.out; omega
      case rel => exact ⟨(wrap64 (x3_1 + 1)), zs, H', ⟨by have := HK1.out; omega⟩, by repeat (first | exact Drawn0.refl _ | apply Drawn0.step)⟩
    ·rw [if_neg c3] at H
     exact absurd H (by simp)
   ·skip
    have c2b0 := decide_eq_false c2
    clear c2
    obtain rfl := Option.some.inj H
    go_wp2
    go_ret
    exact ⟨zs, by repeat (first | exact Drawn0.refl _ | apply Drawn0.step)⟩

/-! ### spec_FieldOk: function 71 -/
-- thin
def spec_FieldOk.f (k : Nat) (a0_0 : ByteArray) (a0_1 : ByteArray) (a0_2 : Bool) : Option (Bool) := (spec_WordOk.f k a0_0).bind fun t124 => (if t124 = true then (if a0_0.toList = ([] : List UInt8) then (some false) else ((spec_WordOk.f k a0_1).bind fun t125 => (some t125))) else (some false))
theorem spec_FieldOk.mono : ∀ a0 a1 a2 k, LeO (spec_FieldOk.f k a0 a1 a2) (spec_FieldOk.f (k + 1) a0 a1 a2) := by
 intro a0 a1 a2 k
 unfold spec_FieldOk.f
 have m0 := @spec_WordOk.mono
 exact zm
set_option maxHeartbeats 8000000 in
set_option maxRecDepth 100000 in
theorem spec_FieldOk.calls (k : Nat) (a0_0 : ByteArray) (a0_1 : ByteArray) (a0_2 : Bool) (r : Bool) (w : World) (h : spec_FieldOk.f k a0_0 a0_1 a0_2 = some r) :
  Calls Tryd.prog 71 #[.agg #[.string a0_0, .string a0_1, .bool a0_2]] w fun e w' => e = .returned (.bool r) ∧ Below w.heap.size w w' := by
 have hu61 := Tryd.underlying61
 have HB := Aside0.mk (Below.refl w.heap.size w)
 have H : ((spec_WordOk.f k a0_0).bind fun t124 => (if t124 = true then (if a0_0.toList = ([] : List UInt8) then (some false) else ((spec_WordOk.f k a0_1).bind fun t125 => (some t125))) else (some false))) = some r := h
 clear h
 obtain ⟨t124, A2, H⟩ := ob H
 (try dsimp only at H)
 by_cases c3 : t124 = true
 ·subst c3
  rw [if_pos rfl] at H
  replace H := sp H
  rcases H with ⟨c4, H⟩ | ⟨c4, H⟩
  ·skip
   have c4b0 : (a0_0.toList == ([] : List UInt8)) = true := beq_iff_eq.mpr c4
   have c4b1 : (a0_0.toList != ([] : List UInt8)) = false := bne_eq_false_iff_eq.mpr c4
   clear c4
   obtain rfl := Option.some.inj H
   go_enter Tryd.func71, Tryd.ntmps71
   go_wp2_with (first | ((with_reducible refine gd 1 rfl ?_); refine bx (N := 1) (cs := #[.string a0_0, .string a0_1, .bool a0_2]) (t := 61) ?_; intro gb123 hg w5 hbox hb; have BK123 := Aside0.mk (hbox); have GW123 := gw HB hg; have GE123 := GW123; replace HB := Aside0.mk (below_step (zb HB) hb); clear hb hbox hg; obtain ⟨hcz6_0, hcz6_1, hcz6_2, hfz6_0, hfz6_1, hfz6_2⟩ := c3 BK123) | ((with_reducible refine gq 45 rfl ?_); refine gl (some 5) Tryd.func45 #[.string a0_0] ?_; (with_reducible refine (spec_WordOk.calls k a0_0 true _ A2.out).mono ?_); rintro e w' ⟨rfl, ⟨nd, rfl⟩⟩; refine ⟨_, rfl, ?_⟩))
   go_ret
   exact ⟨ze, zb HB⟩
  ·skip
   have c4b0 : (a0_0.toList == ([] : List UInt8)) = false := beq_eq_false_iff_ne.mpr c4
   have c4b1 : (a0_0.toList != ([] : List UInt8)) = true := bne_iff_ne.mpr c4
   obtain ⟨t125, A7, H⟩ := ob H
   (try dsimp only at H)
   obtain rfl := Option.some.inj H
   go_enter Tryd.func71, Tryd.ntmps71
   go_wp2_with (first | ((with_reducible refine gd 1 rfl ?_); refine bx (N := 1) (cs := #[.string a0_0, .string a0_1, .bool a0_2]) (t := 61) ?_; intro gb123 hg w8 hbox hb; have BK123 := Aside0.mk (hbox); have GW123 := gw HB hg; have GE123 := GW123; replace HB := Aside0.mk (below_step (zb HB) hb); clear hb hbox hg; obtain ⟨hcz9_0, hcz9_1, hcz9_2, hfz9_0, hfz9_1, hfz9_2⟩ := c3 BK123) | ((with_reducible refine gq 45 rfl ?_); refine gl (some 5) Tryd.func45 #[.string a0_0] ?_; (with_reducible refine (spec_WordOk.calls k a0_0 true _ A2.out).mono ?_); rintro e w' ⟨rfl, ⟨nd, rfl⟩⟩; refine ⟨_, rfl, ?_⟩) | (go_at_call 45; (with_reducible refine (spec_WordOk.calls k a0_1 t125 _ A7.out).mono ?_); rintro e w' ⟨rfl, ⟨nd, rfl⟩⟩))
   go_ret
   exact ⟨ze, zb HB⟩
 ·replace c3 := Bool.eq_false_iff.mpr c3
  subst c3
  rw [if_neg (show ¬ (false = true) by decide)] at H
  obtain rfl := Option.some.inj H
  go_enter Tryd.func71, Tryd.ntmps71
  go_wp2_with (first | ((with_reducible refine gd 1 rfl ?_); refine bx (N := 1) (cs := #[.string a0_0, .string a0_1, .bool a0_2]) (t := 61) ?_; intro gb123 hg w10 hbox hb; have BK123 := Aside0.mk (hbox); have GW123 := gw HB hg; have GE123 := GW123; replace HB := Aside0.mk (below_step (zb HB) hb); clear hb hbox hg; obtain ⟨hcz11_0, hcz11_1, hcz11_2, hfz11_0, hfz11_1, hfz11_2⟩ := c3 BK123) | ((with_reducible refine gq 45 rfl ?_); refine gl (some 5) Tryd.func45 #[.string a0_0] ?_; (with_reducible refine (spec_WordOk.calls k a0_0 false _ A2.out).mono ?_); rintro e w' ⟨rfl, ⟨nd, rfl⟩⟩; refine ⟨_, rfl, ?_⟩))
  go_ret
  exact ⟨ze, zb HB⟩

/-! ### spec_HeadOk: function 44 -/
-- thin
def spec_HeadOk.l0 : Nat → List (S61) → Int → Option (Bool)
 | 0, _, _ => none
 | k + 1, x0, x3 => if x3 < (x0.length : Int) then (if 0 ≤ x3 then ((spec_FieldOk.f k ((rd_T61 x0 x3).f0) ((rd_T61 x0 x3).f1) ((rd_T61 x0 x3).f2)).bind fun t127 => (if t127 = true then (spec_HeadOk.l0 k x0 (wrap64 (x3 + 1))) else (some false))) else (none)) else (some (decide ((x0.length : Int) ≤ 6)))
def spec_HeadOk.f (k : Nat) (l0 : List (S61)) : Option (Bool) := spec_HeadOk.l0 k l0 0
theorem spec_HeadOk.mono_l : ∀ k, (∀ y0 y1, LeO (spec_HeadOk.l0 k y0 y1) (spec_HeadOk.l0 (k + 1) y0 y1))
 | 0 => fun _ _ r h => by simp [spec_HeadOk.l0] at h
 | k + 1 => by
  have ih0 := spec_HeadOk.mono_l k
  ·intro y0 y1
   unfold spec_HeadOk.l0
   have m0 := @spec_FieldOk.mono
   exact zm
theorem spec_HeadOk.mono : ∀ a0 k, LeO (spec_HeadOk.f k a0) (spec_HeadOk.f (k + 1) a0) := by
 intro a0 k
 have ih0 := spec_HeadOk.mono_l k
 unfold spec_HeadOk.f
 have m0 := @spec_FieldOk.mono
 exact zm
set_option maxHeartbeats 8000000 in
set_option maxRecDepth 100000 in
theorem spec_HeadOk.calls (k : Nat) (A0 : Option Addr) (c0 : Nat) (l0 : List (S61)) (r : Bool) (w : World) (hr0 : Kd.C k61 w A0 l0.length l0) (hc0 : l0.length ≤ c0) (h : spec_HeadOk.f k l0 = some r) :
  Calls Tryd.prog 44 #[.slice A0 l0.length c0] w fun e w' => e = .returned (.bool r) ∧ Below w.heap.size w w' := by
 have hu61 := Tryd.underlying61
 have HR0 := Aside0.mk hr0
 have HC0 := Aside0.mk hc0
 clear hr0 hc0
 have HB := Aside0.mk (Below.refl w.heap.size w)
 have H : (spec_HeadOk.l0 k l0 0) = some r := h
 clear h
 have H' := Aside0.mk H
 clear H
 go_enter Tryd.func44, Tryd.ntmps44
 go_wp2
 go_loopg [3] k (fun kq v3 w' => ∃ (x3_1 : Int), v3 = .int .i64 x3_1 ∧ Aside0 (spec_HeadOk.l0 kq l0 x3_1 = some r) ∧ Aside0 (kq ≤ k) ∧ Aside0 (Below w.heap.size w w'))
 case atStart => exact ⟨(0), zs, H', ⟨Nat.le_refl _⟩, ⟨zb HB⟩⟩
 case round =>
  clear H'
  obtain ⟨x3_1, rfl, HA, HK1, HB⟩ := hrel
  cases gk with
  | zero => exact absurd HA.out (by simp [spec_HeadOk.l0])
  | succ k1 =>
   have H := HA.out
   clear HA
   simp only [spec_HeadOk.l0] at H
   replace H := sp H
   rcases H with ⟨c2, H⟩ | ⟨c2, H⟩
   ·skip
    have c2b0 := decide_eq_true c2
    clear c2
    by_cases c3 : 0 ≤ x3_1
    ·rw [if_pos c3] at H
     have c3b0 := decide_eq_true c3
     clear c3
     obtain ⟨t127, A4, H⟩ := ob H
     (try dsimp only at H)
     have HC5 := Aside0.mk H
     clear H
     have p126 : 0 ≤ (x3_1 : Int) := of_decide_eq_true za
     have q126 : x3_1 < (l0.length : Int) := of_decide_eq_true za
     obtain ⟨ad126, e126, hx126_0, hx126_1, hx126_2⟩ := at_T61 HR0.out x3_1 p126 q126
     cases e126
     replace hx126_0 := cb0 hx126_0 HB
     replace hx126_1 := cb0 hx126_1 HB
     replace hx126_2 := cb0 hx126_2 HB
     replace p126 := eq_true p126
     replace q126 := eq_true q126
     go_upto_if 15 with (first | ((with_reducible refine gq 71 rfl ?_); refine gl (some 14) Tryd.func71 #[.agg #[.string ((rd_T61 l0 x3_1).f0), .string ((rd_T61 l0 x3_1).f1), .bool ((rd_T61 l0 x3_1).f2)]] ?_; (with_reducible refine (spec_FieldOk.calls k1 ((rd_T61 l0 x3_1).f0) ((rd_T61 l0 x3_1).f1) ((rd_T61 l0 x3_1).f2) t127 _ A4.out).mono ?_); rintro e w6 ⟨rfl, hb⟩; refine ⟨_, rfl, ?_⟩; replace HB := Aside0.mk (below_step (zb HB) hb); (try clear hb)))
     (try simp only [Act.put, s1, s2, s3])
     have H := HC5.out
     clear HC5
     by_cases c7 : t127 = true
     ·subst c7
      rw [if_pos rfl] at H
      have H' := Aside0.mk H
      clear H
      go_wp2
      go_roundg k1
      case measure => have := HK1.out; omega
      case rel => exact ⟨(wrap64 (x3_1 + 1)), zs, H', ⟨by have := HK1.out; omega⟩, ⟨zb HB⟩⟩
     ·replace c7 := Bool.eq_false_iff.mpr c7
      subst c7
      rw [if_neg (show ¬ (false = true) by decide)] at H
      obtain rfl := Option.some.inj H
      go_wp2
      go_ret
      exact ⟨ze, zb HB⟩
    ·rw [if_neg c3] at H
     exact absurd H (by simp)
   ·skip
    have c2b0 := decide_eq_false c2
    clear c2
    obtain rfl := Option.some.inj H
    go_wp2
    go_ret
    exact ⟨ze, zb HB⟩

/-! ### spec_l12Stream: function 69 -/
-- thin
def spec_l12Stream.f (a0 : Int) : Option (Bool) := (spec_l6In.f a0 1 7).bind fun t128 => (if t128 = true then (some ((Int.tmod a0 2) == 1)) else (some false))
set_option maxHeartbeats 8000000 in
set_option maxRecDepth 100000 in
theorem spec_l12Stream.calls (a0 : Int) (r : Bool) (w : World) (h : spec_l12Stream.f a0 = some r) :
  Calls Tryd.prog 69 #[.int .i64 a0] w fun e w' => e = .returned (.bool r) ∧ Drawn0 w w' := by
 have H : ((spec_l6In.f a0 1 7).bind fun t128 => (if t128 = true then (some ((Int.tmod a0 2) == 1)) else (some false))) = some r := h
 clear h
 obtain ⟨t128, A2, H⟩ := ob H
 (try dsimp only at H)
 by_cases c3 : t128 = true
 ·subst c3
  rw [if_pos rfl] at H
  obtain rfl := Option.some.inj H
  go_enter Tryd.func69, Tryd.ntmps69
  go_wp2_with (first | ((with_reducible refine gq 70 rfl ?_); refine gl (some 4) Tryd.func70 #[.int .i64 a0, .int .i64 1, .int .i64 7] ?_; (with_reducible refine (spec_l6In.calls a0 1 7 true _ A2.out).mono ?_); rintro e w' ⟨rfl, ⟨nd, rfl⟩⟩; refine ⟨_, rfl, ?_⟩))
  go_ret
  exact ⟨zs, by repeat (first | exact Drawn0.refl _ | apply Drawn0.step)⟩
 ·replace c3 := Bool.eq_false_iff.mpr c3
  subst c3
  rw [if_neg (show ¬ (false = true) by decide)] at H
  obtain rfl := Option.some.inj H
  go_enter Tryd.func69, Tryd.ntmps69
  go_wp2_with (first | ((with_reducible refine gq 70 rfl ?_); refine gl (some 4) Tryd.func70 #[.int .i64 a0, .int .i64 1, .int .i64 7] ?_; (with_reducible refine (spec_l6In.calls a0 1 7 false _ A2.out).mono ?_); rintro e w' ⟨rfl, ⟨nd, rfl⟩⟩; refine ⟨_, rfl, ?_⟩))
  go_ret
  exact ⟨zs, by repeat (first | exact Drawn0.refl _ | apply Drawn0.step)⟩

/-! ### spec_l21Stream: function 39 -/
-- thin
def spec_l21Stream.f (k : Nat) (a0_0 : Int) (a0_1 : Int) (l0_2 : List (S61)) (a0_3 : ByteArray) (a0_4 : Bool) (a0_5 : Bool) (a0_6 : Int) (l0_7 : List (S61)) (a0_8 : ByteArray) (a0_9 : Bool) (a0_10 : Int) (a0_11 : Int) : Option (Bool) := (spec_l12Stream.f a0_0).bind fun t130 => (if t130 = true then ((spec_l6In.f a0_1 1 3).bind fun t131 => (if t131 = true then ((spec_HeadOk.f k l0_2).bind fun t132 => (if t132 = true then ((spec_HeadOk.f k l0_7).bind fun t133 => (if t133 = true then ((spec_WordOk.f k a0_3).bind fun t134 => (if t134 = true then ((spec_WordOk.f k a0_8).bind fun t135 => (if t135 = true then ((spec_l6In.f a0_6 0 (a0_3.size : Int)).bind fun t136 => (if t136 = true then ((spec_FlowOk.f a0_10 a0_11).bind fun t137 => (some t137)) else (some false))) else (some false))) else (some false))) else (some false))) else (some false))) else (some false))) else (some false))
theorem spec_l21Stream.mono : ∀ a0 a1 a2 a3 a4 a5 a6 a7 a8 a9 a10 a11 k, LeO (spec_l21Stream.f k a0 a1 a2 a3 a4 a5 a6 a7 a8 a9 a10 a11) (spec_l21Stream.f (k + 1) a0 a1 a2 a3 a4 a5 a6 a7 a8 a9 a10 a11) := by
 intro a0 a1 a2 a3 a4 a5 a6 a7 a8 a9 a10 a11 k
 unfold spec_l21Stream.f
 have m0 := @spec_HeadOk.mono
 have m1 := @spec_WordOk.mono
 exact zm
set_option maxHeartbeats 8000000 in
set_option maxRecDepth 100000 in
theorem spec_l21Stream.calls (k : Nat) (a0_0 : Int) (a0_1 : Int) (A0_2 : Option Addr) (c0_2 : Nat) (l0_2 : List (S61)) (a0_3 : ByteArray) (a0_4 : Bool) (a0_5 : Bool) (a0_6 : Int) (A0_7 : Option Addr) (c0_7 : Nat) (l0_7 : List (S61)) (a0_8 : ByteArray) (a0_9 : Bool) (a0_10 : Int) (a0_11 : Int) (r : Bool) (w : World) (hr0_2 : Kd.C k61 w A0_2 l0_2.length l0_2) (hc0_2 : l0_2.length ≤ c0_2) (hr0_7 : Kd.C k61 w A0_7 l0_7.length l0_7) (hc0_7 : l0_7.length ≤ c0_7) (h : spec_l21Stream.f k a0_0 a0_1 l0_2 a0_3 a0_4 a0_5 a0_6 l0_7 a0_8 a0_9 a0_10 a0_11 = some r) :
  Calls Tryd.prog 39 #[.agg #[.int .i64 a0_0, .int .i64 a0_1, .slice A0_2 l0_2.length c0_2, .string a0_3, .bool a0_4, .bool a0_5, .int .i64 a0_6, .slice A0_7 l0_7.length c0_7, .string a0_8, .bool a0_9, .int .i64 a0_10, .int .i64 a0_11]] w fun e w' => e = .returned (.bool r) ∧ Below w.heap.size w w' := by
 have hu58 := Tryd.underlying58
 have hu36 := Tryd.underlying36
 have HR0_2 := Aside0.mk hr0_2
 have HC0_2 := Aside0.mk hc0_2
 clear hr0_2 hc0_2
 have HR0_7 := Aside0.mk hr0_7
 have HC0_7 := Aside0.mk hc0_7
 clear hr0_7 hc0_7
 have HB := Aside0.mk (Below.refl w.heap.size w)
 have H : ((spec_l12Stream.f a0_0).bind fun t130 => (if t130 = true then ((spec_l6In.f a0_1 1 3).bind fun t131 => (if t131 = true then ((spec_HeadOk.f k l0_2).bind fun t132 => (if t132 = true then ((spec_HeadOk.f k l0_7).bind fun t133 => (if t133 = true then ((spec_WordOk.f k a0_3).bind fun t134 => (if t134 = true then ((spec_WordOk.f k a0_8).bind fun t135 => (if t135 = true then ((spec_l6In.f a0_6 0 (a0_3.size : Int)).bind fun t136 => (if t136 = true then ((spec_FlowOk.f a0_10 a0_11).bind fun t137 => (some t137)) else (some false))) else (some false))) else (some false))) else (some false))) else (some false))) else (some false))) else (some false))) = some r := h
 clear h
 obtain ⟨t130, A2, H⟩ := ob H
 (try dsimp only at H)
 by_cases c3 : t130 = true
 ·subst c3
  rw [if_pos rfl] at H
  obtain ⟨t131, A4, H⟩ := ob H
  (try dsimp only at H)
  by_cases c5 : t131 = true
  ·subst c5
   rw [if_pos rfl] at H
   obtain ⟨t132, A6, H⟩ := ob H
   (try dsimp only at H)
   by_cases c7 : t132 = true
   ·subst c7
    rw [if_pos rfl] at H
    obtain ⟨t133, A8, H⟩ := ob H
    (try dsimp only at H)
    by_cases c9 : t133 = true
    ·subst c9
     rw [if_pos rfl] at H
     obtain ⟨t134, A10, H⟩ := ob H
     (try dsimp only at H)
     by_cases c11 : t134 = true
     ·subst c11
      rw [if_pos rfl] at H
      obtain ⟨t135, A12, H⟩ := ob H
      (try dsimp only at H)
      by_cases c13 : t135 = true
      ·subst c13
       rw [if_pos rfl] at H
       obtain ⟨t136, A14, H⟩ := ob H
       (try dsimp only at H)
       by_cases c15 : t136 = true
       ·subst c15
        rw [if_pos rfl] at H
        obtain ⟨t137, A16, H⟩ := ob H
        (try dsimp only at H)
        obtain rfl := Option.some.inj H
        go_enter Tryd.func39, Tryd.ntmps39
        go_wp2_with (first | ((with_reducible refine gd 1 rfl ?_); (try (refine gate_guard (by rfl) ?_; dsimp only)); refine bx (N := 1) (cs := #[.int .i64 a0_0, .int .i64 a0_1, .slice A0_2 l0_2.length c0_2, .string a0_3, .bool a0_4, .bool a0_5, .int .i64 a0_6, .slice A0_7 l0_7.length c0_7, .string a0_8, .bool a0_9, .int .i64 a0_10, .int .i64 a0_11]) (t := 58) ?_; intro gb129 hg w17 hbox hb; have BK129 := Aside0.mk (hbox); have GW129 := gw HB hg; have GE129 := GW129; replace HB := Aside0.mk (below_step (zb HB) hb); clear hb hbox hg; obtain ⟨hcz18_0, hcz18_1, hcz18_2, hcz18_3, hcz18_4, hcz18_5, hcz18_6, hcz18_7, hcz18_8, hcz18_9, hcz18_10, hcz18_11, hfz18_0, hfz18_1, hfz18_2, hfz18_3, hfz18_4, hfz18_5, hfz18_6, hfz18_7, hfz18_8, hfz18_9, hfz18_10, hfz18_11⟩ := c12 BK129) | ((with_reducible refine gq 69 rfl ?_); refine gl (some 5) Tryd.func69 #[.int .i64 a0_0] ?_; (with_reducible refine (spec_l12Stream.calls a0_0 true _ A2.out).mono ?_); rintro e w' ⟨rfl, ⟨nd, rfl⟩⟩; refine ⟨_, rfl, ?_⟩) | (go_at_call 70; (with_reducible refine (spec_l6In.calls a0_1 1 3 true _ A4.out).mono ?_); rintro e w' ⟨rfl, ⟨nd, rfl⟩⟩) | (go_at_call 44; (with_reducible refine (spec_HeadOk.calls k _ _ l0_2 true _ ?side1 ?side2 A6.out).mono ?_); (case side1 => exact (Kd.C_below HR0_2.out (zb HB))); (case side2 => exact HC0_2.out); rintro e w19 ⟨rfl, hb⟩; replace BK129 := kb BK129 hb; replace HB := Aside0.mk (below_step (zb HB) hb); (try clear hb); obtain ⟨hcz20_0, hcz20_1, hcz20_2, hcz20_3, hcz20_4, hcz20_5, hcz20_6, hcz20_7, hcz20_8, hcz20_9, hcz20_10, hcz20_11, hfz20_0, hfz20_1, hfz20_2, hfz20_3, hfz20_4, hfz20_5, hfz20_6, hfz20_7, hfz20_8, hfz20_9, hfz20_10, hfz20_11⟩ := c12 BK129) | (go_at_call 44; (with_reducible refine (spec_HeadOk.calls k _ _ l0_7 true _ ?side1 ?side2 A8.out).mono ?_); (case side1 => exact zc (Kd.C_below HR0_7.out HB.out)); (case side2 => exact HC0_7.out); rintro e w21 ⟨rfl, hb⟩; replace BK129 := kb BK129 hb; replace HB := Aside0.mk (below_step (zb HB) hb); (try clear hb); obtain ⟨hcz22_0, hcz22_1, hcz22_2, hcz22_3, hcz22_4, hcz22_5, hcz22_6, hcz22_7, hcz22_8, hcz22_9, hcz22_10, hcz22_11, hfz22_0, hfz22_1, hfz22_2, hfz22_3, hfz22_4, hfz22_5, hfz22_6, hfz22_7, hfz22_8, hfz22_9, hfz22_10, hfz22_11⟩ := c12 BK129) | (go_at_call 45; (with_reducible refine (spec_WordOk.calls k a0_3 true _ A10.out).mono ?_); rintro e w' ⟨rfl, ⟨nd, rfl⟩⟩) | (go_at_call 45; (with_reducible refine (spec_WordOk.calls k a0_8 true _ A12.out).mono ?_); rintro e w' ⟨rfl, ⟨nd, rfl⟩⟩) | (go_at_call 70; (with_reducible refine (spec_l6In.calls a0_6 0 (a0_3.size : Int) true _ A14.out).mono ?_); rintro e w' ⟨rfl, ⟨nd, rfl⟩⟩) | (go_at_call 42; (with_reducible refine (spec_FlowOk.calls a0_10 a0_11 t137 _ A16.out).mono ?_); rintro e w23 ⟨rfl, hb⟩; replace BK129 := kb BK129 hb; replace HB := Aside0.mk (below_step (zb HB) hb); (try clear hb)))
        go_ret
        exact ⟨ze, zb HB⟩
       ·replace c15 := Bool.eq_false_iff.mpr c15
        subst c15
        rw [if_neg (show ¬ (false = true) by decide)] at H
        obtain rfl := Option.some.inj H
        go_enter Tryd.func39, Tryd.ntmps39
        go_wp2_with (first | ((with_reducible refine gd 1 rfl ?_); (try (refine gate_guard (by rfl) ?_; dsimp only)); refine bx (N := 1) (cs := #[.int .i64 a0_0, .int .i64 a0_1, .slice A0_2 l0_2.length c0_2, .string a0_3, .bool a0_4, .bool a0_5, .int .i64 a0_6, .slice A0_7 l0_7.length c0_7, .string a0_8, .bool a0_9, .int .i64 a0_10, .int .i64 a0_11]) (t := 58) ?_; intro gb129 hg w24 hbox hb; have BK129 := Aside0.mk (hbox); have GW129 := gw HB hg; have GE129 := GW129; replace HB := Aside0.mk (below_step (zb HB) hb); clear hb hbox hg; obtain ⟨hcz25_0, hcz25_1, hcz25_2, hcz25_3, hcz25_4, hcz25_5, hcz25_6, hcz25_7, hcz25_8, hcz25_9, hcz25_10, hcz25_11, hfz25_0, hfz25_1, hfz25_2, hfz25_3, hfz25_4, hfz25_5, hfz25_6, hfz25_7, hfz25_8, hfz25_9, hfz25_10, hfz25_11⟩ := c12 BK129) | ((with_reducible refine gq 69 rfl ?_); refine gl (some 5) Tryd.func69 #[.int .i64 a0_0] ?_; (with_reducible refine (spec_l12Stream.calls a0_0 true _ A2.out).mono ?_); rintro e w' ⟨rfl, ⟨nd, rfl⟩⟩; refine ⟨_, rfl, ?_⟩) | (go_at_call 70; (with_reducible refine (spec_l6In.calls a0_1 1 3 true _ A4.out).mono ?_); rintro e w' ⟨rfl, ⟨nd, rfl⟩⟩) | (go_at_call 44; (with_reducible refine (spec_HeadOk.calls k _ _ l0_2 true _ ?side1 ?side2 A6.out).mono ?_); (case side1 => exact (Kd.C_below HR0_2.out (zb HB))); (case side2 => exact HC0_2.out); rintro e w26 ⟨rfl, hb⟩; replace BK129 := kb BK129 hb; replace HB := Aside0.mk (below_step (zb HB) hb); (try clear hb); obtain ⟨hcz27_0, hcz27_1, hcz27_2, hcz27_3, hcz27_4, hcz27_5, hcz27_6, hcz27_7, hcz27_8, hcz27_9, hcz27_10, hcz27_11, hfz27_0, hfz27_1, hfz27_2, hfz27_3, hfz27_4, hfz27_5, hfz27_6, hfz27_7, hfz27_8, hfz27_9, hfz27_10, hfz27_11⟩ := c12 BK129) | (go_at_call 44; (with_reducible refine (spec_HeadOk.calls k _ _ l0_7 true _ ?side1 ?side2 A8.out).mono ?_); (case side1 => exact zc (Kd.C_below HR0_7.out HB.out)); (case side2 => exact HC0_7.out); rintro e w28 ⟨rfl, hb⟩; replace BK129 := kb BK129 hb; replace HB := Aside0.mk (below_step (zb HB) hb); (try clear hb); obtain ⟨hcz29_0, hcz29_1, hcz29_2, hcz29_3, hcz29_4, hcz29_5, hcz29_6, hcz29_7, hcz29_8, hcz29_9, hcz29_10, hcz29_11, hfz29_0, hfz29_1, hfz29_2, hfz29_3, hfz29_4, hfz29_5, hfz29_6, hfz29_7, hfz29_8, hfz29_9, hfz29_10, hfz29_11⟩ := c12 BK129) | (go_at_call 45; (with_reducible refine (spec_WordOk.calls k a0_3 true _ A10.out).mono ?_); rintro e w' ⟨rfl, ⟨nd, rfl⟩⟩) | (go_at_call 45; (with_reducible refine (spec_WordOk.calls k a0_8 true _ A12.out).mono ?_); rintro e w' ⟨rfl, ⟨nd, rfl⟩⟩) | (go_at_call 70; (with_reducible refine (spec_l6In.calls a0_6 0 (a0_3.size : Int) false _ A14.out).mono ?_); rintro e w' ⟨rfl, ⟨nd, rfl⟩⟩))
        go_ret
        exact ⟨ze, zb HB⟩
      ·replace c13 := Bool.eq_false_iff.mpr c13
       subst c13
       rw [if_neg (show ¬ (false = true) by decide)] at H
       obtain rfl := Option.some.inj H
       go_enter Tryd.func39, Tryd.ntmps39
       go_wp2_with (first | ((with_reducible refine gd 1 rfl ?_); (try (refine gate_guard (by rfl) ?_; dsimp only)); refine bx (N := 1) (cs := #[.int .i64 a0_0, .int .i64 a0_1, .slice A0_2 l0_2.length c0_2, .string a0_3, .bool a0_4, .bool a0_5, .int .i64 a0_6, .slice A0_7 l0_7.length c0_7, .string a0_8, .bool a0_9, .int .i64 a0_10, .int .i64 a0_11]) (t := 58) ?_; intro gb129 hg w30 hbox hb; have BK129 := Aside0.mk (hbox); have GW129 := gw HB hg; have GE129 := GW129; replace HB := Aside0.mk (below_step (zb HB) hb); clear hb hbox hg; obtain ⟨hcz31_0, hcz31_1, hcz31_2, hcz31_3, hcz31_4, hcz31_5, hcz31_6, hcz31_7, hcz31_8, hcz31_9, hcz31_10, hcz31_11, hfz31_0, hfz31_1, hfz31_2, hfz31_3, hfz31_4, hfz31_5, hfz31_6, hfz31_7, hfz31_8, hfz31_9, hfz31_10, hfz31_11⟩ := c12 BK129) | ((with_reducible refine gq 69 rfl ?_); refine gl (some 5) Tryd.func69 #[.int .i64 a0_0] ?_; (with_reducible refine (spec_l12Stream.calls a0_0 true _ A2.out).mono ?_); rintro e w' ⟨rfl, ⟨nd, rfl⟩⟩; refine ⟨_, rfl, ?_⟩) | (go_at_call 70; (with_reducible refine (spec_l6In.calls a0_1 1 3 true _ A4.out).mono ?_); rintro e w' ⟨rfl, ⟨nd, rfl⟩⟩) | (go_at_call 44; (with_reducible refine (spec_HeadOk.calls k _ _ l0_2 true _ ?side1 ?side2 A6.out).mono ?_); (case side1 => exact (Kd.C_below HR0_2.out (zb HB))); (case side2 => exact HC0_2.out); rintro e w32 ⟨rfl, hb⟩; replace BK129 := kb BK129 hb; replace HB := Aside0.mk (below_step (zb HB) hb); (try clear hb); obtain ⟨hcz33_0, hcz33_1, hcz33_2, hcz33_3, hcz33_4, hcz33_5, hcz33_6, hcz33_7, hcz33_8, hcz33_9, hcz33_10, hcz33_11, hfz33_0, hfz33_1, hfz33_2, hfz33_3, hfz33_4, hfz33_5, hfz33_6, hfz33_7, hfz33_8, hfz33_9, hfz33_10, hfz33_11⟩ := c12 BK129) | (go_at_call 44; (with_reducible refine (spec_HeadOk.calls k _ _ l0_7 true _ ?side1 ?side2 A8.out).mono ?_); (case side1 => exact zc (Kd.C_below HR0_7.out HB.out)); (case side2 => exact HC0_7.out); rintro e w34 ⟨rfl, hb⟩; replace BK129 := kb BK129 hb; replace HB := Aside0.mk (below_step (zb HB) hb); (try clear hb); obtain ⟨hcz35_0, hcz35_1, hcz35_2, hcz35_3, hcz35_4, hcz35_5, hcz35_6, hcz35_7, hcz35_8, hcz35_9, hcz35_10, hcz35_11, hfz35_0, hfz35_1, hfz35_2, hfz35_3, hfz35_4, hfz35_5, hfz35_6, hfz35_7, hfz35_8, hfz35_9, hfz35_10, hfz35_11⟩ := c12 BK129) | (go_at_call 45; (with_reducible refine (spec_WordOk.calls k a0_3 true _ A10.out).mono ?_); rintro e w' ⟨rfl, ⟨nd, rfl⟩⟩) | (go_at_call 45; (with_reducible refine (spec_WordOk.calls k a0_8 false _ A12.out).mono ?_); rintro e w' ⟨rfl, ⟨nd, rfl⟩⟩))
       go_ret
       exact ⟨ze, zb HB⟩
     ·replace c11 := Bool.eq_false_iff.mpr c11
      subst c11
      rw [if_neg (show ¬ (false = true) by decide)] at H
      obtain rfl := Option.some.inj H
      go_enter Tryd.func39, Tryd.ntmps39
      go_wp2_with (first | ((with_reducible refine gd 1 rfl ?_); (try (refine gate_guard (by rfl) ?_; dsimp only)); refine bx (N := 1) (cs := #[.int .i64 a0_0, .int .i64 a0_1, .slice A0_2 l0_2.length c0_2, .string a0_3, .bool a0_4, .bool a0_5, .int .i64 a0_6, .slice A0_7 l0_7.length c0_7, .string a0_8, .bool a0_9, .int .i64 a0_10, .int .i64 a0_11]) (t := 58) ?_; intro gb129 hg w36 hbox hb; have BK129 := Aside0.mk (hbox); have GW129 := gw HB hg; have GE129 := GW129; replace HB := Aside0.mk (below_step (zb HB) hb); clear hb hbox hg; obtain ⟨hcz37_0, hcz37_1, hcz37_2, hcz37_3, hcz37_4, hcz37_5, hcz37_6, hcz37_7, hcz37_8, hcz37_9, hcz37_10, hcz37_11, hfz37_0, hfz37_1, hfz37_2, hfz37_3, hfz37_4, hfz37_5, hfz37_6, hfz37_7, hfz37_8, hfz37_9, hfz37_10, hfz37_11⟩ := c12 BK129) | ((with_reducible refine gq 69 rfl ?_); refine gl (some 5) Tryd.func69 #[.int .i64 a0_0] ?_; (with_reducible refine (spec_l12Stream.calls a0_0 true _ A2.out).mono ?_); rintro e w' ⟨rfl, ⟨nd, rfl⟩⟩; refine ⟨_, rfl, ?_⟩) | (go_at_call 70; (with_reducible refine (spec_l6In.calls a0_1 1 3 true _ A4.out).mono ?_); rintro e w' ⟨rfl, ⟨nd, rfl⟩⟩) | (go_at_call 44; (with_reducible refine (spec_HeadOk.calls k _ _ l0_2 true _ ?side1 ?side2 A6.out).mono ?_); (case side1 => exact (Kd.C_below HR0_2.out (zb HB))); (case side2 => exact HC0_2.out); rintro e w38 ⟨rfl, hb⟩; replace BK129 := kb BK129 hb; replace HB := Aside0.mk (below_step (zb HB) hb); (try clear hb); obtain ⟨hcz39_0, hcz39_1, hcz39_2, hcz39_3, hcz39_4, hcz39_5, hcz39_6, hcz39_7, hcz39_8, hcz39_9, hcz39_10, hcz39_11, hfz39_0, hfz39_1, hfz39_2, hfz39_3, hfz39_4, hfz39_5, hfz39_6, hfz39_7, hfz39_8, hfz39_9, hfz39_10, hfz39_11⟩ := c12 BK129) | (go_at_call 44; (with_reducible refine (spec_HeadOk.calls k _ _ l0_7 true _ ?side1 ?side2 A8.out).mono ?_); (case side1 => exact zc (Kd.C_below HR0_7.out HB.out)); (case side2 => exact HC0_7.out); rintro e w40 ⟨rfl, hb⟩; replace BK129 := kb BK129 hb; replace HB := Aside0.mk (below_step (zb HB) hb); (try clear hb); obtain ⟨hcz41_0, hcz41_1, hcz41_2, hcz41_3, hcz41_4, hcz41_5, hcz41_6, hcz41_7, hcz41_8, hcz41_9, hcz41_10, hcz41_11, hfz41_0, hfz41_1, hfz41_2, hfz41_3, hfz41_4, hfz41_5, hfz41_6, hfz41_7, hfz41_8, hfz41_9, hfz41_10, hfz41_11⟩ := c12 BK129) | (go_at_call 45; (with_reducible refine (spec_WordOk.calls k a0_3 false _ A10.out).mono ?_); rintro e w' ⟨rfl, ⟨nd, rfl⟩⟩))
      go_ret
      exact ⟨ze, zb HB⟩
    ·replace c9 := Bool.eq_false_iff.mpr c9
     subst c9
     rw [if_neg (show ¬ (false = true) by decide)] at H
     obtain rfl := Option.some.inj H
     go_enter Tryd.func39, Tryd.ntmps39
     go_wp2_with (first | ((with_reducible refine gd 1 rfl ?_); (try (refine gate_guard (by rfl) ?_; dsimp only)); refine bx (N := 1) (cs := #[.int .i64 a0_0, .int .i64 a0_1, .slice A0_2 l0_2.length c0_2, .string a0_3, .bool a0_4, .bool a0_5, .int .i64 a0_6, .slice A0_7 l0_7.length c0_7, .string a0_8, .bool a0_9, .int .i64 a0_10, .int .i64 a0_11]) (t := 58) ?_; intro gb129 hg w42 hbox hb; have BK129 := Aside0.mk (hbox); have GW129 := gw HB hg; have GE129 := GW129; replace HB := Aside0.mk (below_step (zb HB) hb); clear hb hbox hg; obtain ⟨hcz43_0, hcz43_1, hcz43_2, hcz43_3, hcz43_4, hcz43_5, hcz43_6, hcz43_7, hcz43_8, hcz43_9, hcz43_10, hcz43_11, hfz43_0, hfz43_1, hfz43_2, hfz43_3, hfz43_4, hfz43_5, hfz43_6, hfz43_7, hfz43_8, hfz43_9, hfz43_10, hfz43_11⟩ := c12 BK129) | ((with_reducible refine gq 69 rfl ?_); refine gl (some 5) Tryd.func69 #[.int .i64 a0_0] ?_; (with_reducible refine (spec_l12Stream.calls a0_0 true _ A2.out).mono ?_); rintro e w' ⟨rfl, ⟨nd, rfl⟩⟩; refine ⟨_, rfl, ?_⟩) | (go_at_call 70; (with_reducible refine (spec_l6In.calls a0_1 1 3 true _ A4.out).mono ?_); rintro e w' ⟨rfl, ⟨nd, rfl⟩⟩) | (go_at_call 44; (with_reducible refine (spec_HeadOk.calls k _ _ l0_2 true _ ?side1 ?side2 A6.out).mono ?_); (case side1 => exact (Kd.C_below HR0_2.out (zb HB))); (case side2 => exact HC0_2.out); rintro e w44 ⟨rfl, hb⟩; replace BK129 := kb BK129 hb; replace HB := Aside0.mk (below_step (zb HB) hb); (try clear hb); obtain ⟨hcz45_0, hcz45_1, hcz45_2, hcz45_3, hcz45_4, hcz45_5, hcz45_6, hcz45_7, hcz45_8, hcz45_9, hcz45_10, hcz45_11, hfz45_0, hfz45_1, hfz45_2, hfz45_3, hfz45_4, hfz45_5, hfz45_6, hfz45_7, hfz45_8, hfz45_9, hfz45_10, hfz45_11⟩ := c12 BK129) | (go_at_call 44; (with_reducible refine (spec_HeadOk.calls k _ _ l0_7 false _ ?side1 ?side2 A8.out).mono ?_); (case side1 => exact zc (Kd.C_below HR0_7.out HB.out)); (case side2 => exact HC0_7.out); rintro e w46 ⟨rfl, hb⟩; replace BK129 := kb BK129 hb; replace HB := Aside0.mk (below_step (zb HB) hb); (try clear hb)))
     go_ret
     exact ⟨ze, zb HB⟩
   ·replace c7 := Bool.eq_false_iff.mpr c7
    subst c7
    rw [if_neg (show ¬ (false = true) by decide)] at H
    obtain rfl := Option.some.inj H
    go_enter Tryd.func39, Tryd.ntmps39
    go_wp2_with (first | ((with_reducible refine gd 1 rfl ?_); (try (refine gate_guard (by rfl) ?_; dsimp only)); refine bx (N := 1) (cs := #[.int .i64 a0_0, .int .i64 a0_1, .slice A0_2 l0_2.length c0_2, .string a0_3, .bool a0_4, .bool a0_5, .int .i64 a0_6, .slice A0_7 l0_7.length c0_7, .string a0_8, .bool a0_9, .int .i64 a0_10, .int .i64 a0_11]) (t := 58) ?_; intro gb129 hg w47 hbox hb; have BK129 := Aside0.mk (hbox); have GW129 := gw HB hg; have GE129 := GW129; replace HB := Aside0.mk (below_step (zb HB) hb); clear hb hbox hg; obtain ⟨hcz48_0, hcz48_1, hcz48_2, hcz48_3, hcz48_4, hcz48_5, hcz48_6, hcz48_7, hcz48_8, hcz48_9, hcz48_10, hcz48_11, hfz48_0, hfz48_1, hfz48_2, hfz48_3, hfz48_4, hfz48_5, hfz48_6, hfz48_7, hfz48_8, hfz48_9, hfz48_10, hfz48_11⟩ := c12 BK129) | ((with_reducible refine gq 69 rfl ?_); refine gl (some 5) Tryd.func69 #[.int .i64 a0_0] ?_; (with_reducible refine (spec_l12Stream.calls a0_0 true _ A2.out).mono ?_); rintro e w' ⟨rfl, ⟨nd, rfl⟩⟩; refine ⟨_, rfl, ?_⟩) | (go_at_call 70; (with_reducible refine (spec_l6In.calls a0_1 1 3 true _ A4.out).mono ?_); rintro e w' ⟨rfl, ⟨nd, rfl⟩⟩) | (go_at_call 44; (with_reducible refine (spec_HeadOk.calls k _ _ l0_2 false _ ?side1 ?side2 A6.out).mono ?_); (case side1 => exact (Kd.C_below HR0_2.out (zb HB))); (case side2 => exact HC0_2.out); rintro e w49 ⟨rfl, hb⟩; replace BK129 := kb BK129 hb; replace HB := Aside0.mk (below_step (zb HB) hb); (try clear hb)))
    go_ret
    exact ⟨ze, zb HB⟩
  ·replace c5 := Bool.eq_false_iff.mpr c5
   subst c5
   rw [if_neg (show ¬ (false = true) by decide)] at H
   obtain rfl := Option.some.inj H
   go_enter Tryd.func39, Tryd.ntmps39
   go_wp2_with (first | ((with_reducible refine gd 1 rfl ?_); (try (refine gate_guard (by rfl) ?_; dsimp only)); refine bx (N := 1) (cs := #[.int .i64 a0_0, .int .i64 a0_1, .slice A0_2 l0_2.length c0_2, .string a0_3, .bool a0_4, .bool a0_5, .int .i64 a0_6, .slice A0_7 l0_7.length c0_7, .string a0_8, .bool a0_9, .int .i64 a0_10, .int .i64 a0_11]) (t := 58) ?_; intro gb129 hg w50 hbox hb; have BK129 := Aside0.mk (hbox); have GW129 := gw HB hg; have GE129 := GW129; replace HB := Aside0.mk (below_step (zb HB) hb); clear hb hbox hg; obtain ⟨hcz51_0, hcz51_1, hcz51_2, hcz51_3, hcz51_4, hcz51_5, hcz51_6, hcz51_7, hcz51_8, hcz51_9, hcz51_10, hcz51_11, hfz51_0, hfz51_1, hfz51_2, hfz51_3, hfz51_4, hfz51_5, hfz51_6, hfz51_7, hfz51_8, hfz51_9, hfz51_10, hfz51_11⟩ := c12 BK129) | ((with_reducible refine gq 69 rfl ?_); refine gl (some 5) Tryd.func69 #[.int .i64 a0_0] ?_; (with_reducible refine (spec_l12Stream.calls a0_0 true _ A2.out).mono ?_); rintro e w' ⟨rfl, ⟨nd, rfl⟩⟩; refine ⟨_, rfl, ?_⟩) | (go_at_call 70; (with_reducible refine (spec_l6In.calls a0_1 1 3 false _ A4.out).mono ?_); rintro e w' ⟨rfl, ⟨nd, rfl⟩⟩))
   go_ret
   exact ⟨ze, zb HB⟩
 ·replace c3 := Bool.eq_false_iff.mpr c3
  subst c3
  rw [if_neg (show ¬ (false = true) by decide)] at H
  obtain rfl := Option.some.inj H
  go_enter Tryd.func39, Tryd.ntmps39
  go_wp2_with (first | ((with_reducible refine gd 1 rfl ?_); (try (refine gate_guard (by rfl) ?_; dsimp only)); refine bx (N := 1) (cs := #[.int .i64 a0_0, .int .i64 a0_1, .slice A0_2 l0_2.length c0_2, .string a0_3, .bool a0_4, .bool a0_5, .int .i64 a0_6, .slice A0_7 l0_7.length c0_7, .string a0_8, .bool a0_9, .int .i64 a0_10, .int .i64 a0_11]) (t := 58) ?_; intro gb129 hg w52 hbox hb; have BK129 := Aside0.mk (hbox); have GW129 := gw HB hg; have GE129 := GW129; replace HB := Aside0.mk (below_step (zb HB) hb); clear hb hbox hg; obtain ⟨hcz53_0, hcz53_1, hcz53_2, hcz53_3, hcz53_4, hcz53_5, hcz53_6, hcz53_7, hcz53_8, hcz53_9, hcz53_10, hcz53_11, hfz53_0, hfz53_1, hfz53_2, hfz53_3, hfz53_4, hfz53_5, hfz53_6, hfz53_7, hfz53_8, hfz53_9, hfz53_10, hfz53_11⟩ := c12 BK129) | ((with_reducible refine gq 69 rfl ?_); refine gl (some 5) Tryd.func69 #[.int .i64 a0_0] ?_; (with_reducible refine (spec_l12Stream.calls a0_0 false _ A2.out).mono ?_); rintro e w' ⟨rfl, ⟨nd, rfl⟩⟩; refine ⟨_, rfl, ?_⟩))
  go_ret
  exact ⟨ze, zb HB⟩

/-! ### spec_FrameOk: function 40 -/
-- thin
def spec_FrameOk.j0 : Nat → Int → Bool → Int → Bool → Int → ByteArray → Option (Bool)
 | 0, _, _, _, _, _, _ => none
 | k + 1, x4, x5, x139000, x139001, x139002, x139003 => if x5 = true then ((spec_l12Stream.f x139002).bind fun t139 => (if t139 = true then (some (decide ((x139003.size : Int) ≤ 200))) else (some false))) else (if x4 = 3 then ((spec_l12Stream.f x139002).bind fun t140 => (if t140 = true then (if x139001 = true then (some false) else (some (x139003.toList == ([] : List UInt8)))) else (some false))) else (if x4 = 8 then (if x139002 = 0 then (if x139001 = true then (some false) else (if (x139003.size : Int) = 1 then (if 0 < (x139003.size : Int) then ((spec_l6In.f (wrap64 (bt x139003 0)) 1 31).bind fun t141 => (some t141)) else (none)) else (some false))) else ((spec_l12Stream.f x139002).bind fun t142 => (if t142 = true then (if x139001 = true then (some false) else (if (x139003.size : Int) = 1 then (if 0 < (x139003.size : Int) then ((spec_l6In.f (wrap64 (bt x139003 0)) 1 31).bind fun t143 => (some t143)) else (none)) else (some false))) else (some false)))) else (some false)))
def spec_FrameOk.f (k : Nat) (a0_0 : Int) (a0_1 : Bool) (a0_2 : Int) (a0_3 : ByteArray) : Option (Bool) := if a0_0 = 0 then (spec_FrameOk.j0 k a0_0 (a0_0 == 0) a0_0 a0_1 a0_2 a0_3) else (spec_FrameOk.j0 k a0_0 (a0_0 == 1) a0_0 a0_1 a0_2 a0_3)
theorem spec_FrameOk.mono_l : ∀ k, (∀ y0 y1 y2 y3 y4 y5, LeO (spec_FrameOk.j0 k y0 y1 y2 y3 y4 y5) (spec_FrameOk.j0 (k + 1) y0 y1 y2 y3 y4 y5))
 | 0 => fun _ _ _ _ _ _ r h => by simp [spec_FrameOk.j0] at h
 | k + 1 => by
  have ih0 := spec_FrameOk.mono_l k
  ·intro y0 y1 y2 y3 y4 y5
   unfold spec_FrameOk.j0
   exact zm
theorem spec_FrameOk.mono : ∀ a0 a1 a2 a3 k, LeO (spec_FrameOk.f k a0 a1 a2 a3) (spec_FrameOk.f (k + 1) a0 a1 a2 a3) := by
 intro a0 a1 a2 a3 k
 have ih0 := spec_FrameOk.mono_l k
 unfold spec_FrameOk.f
 exact zm
set_option maxHeartbeats 8000000 in
set_option maxRecDepth 100000 in
theorem spec_FrameOk.calls (k : Nat) (a0_0 : Int) (a0_1 : Bool) (a0_2 : Int) (a0_3 : ByteArray) (r : Bool) (w : World) (h : spec_FrameOk.f k a0_0 a0_1 a0_2 a0_3 = some r) :
  Calls Tryd.prog 40 #[.agg #[.int .i64 a0_0, .bool a0_1, .int .i64 a0_2, .string a0_3]] w fun e w' => e = .returned (.bool r) ∧ Below w.heap.size w w' := by
 have hu79 := Tryd.underlying79
 have HB := Aside0.mk (Below.refl w.heap.size w)
 have H : (if a0_0 = 0 then (spec_FrameOk.j0 k a0_0 (a0_0 == 0) a0_0 a0_1 a0_2 a0_3) else (spec_FrameOk.j0 k a0_0 (a0_0 == 1) a0_0 a0_1 a0_2 a0_3)) = some r := h
 clear h
 have HC2 := Aside0.mk H
 clear H
 go_enter Tryd.func40, Tryd.ntmps40
 go_upto_if 5 with (first | ((with_reducible refine gd 1 rfl ?_); (try (refine gate_guard (by rfl) ?_; dsimp only)); refine bx (N := 1) (cs := #[.int .i64 a0_0, .bool a0_1, .int .i64 a0_2, .string a0_3]) (t := 79) ?_; intro gb138 hg w3 hbox hb; have BK138 := Aside0.mk (hbox); have GW138 := gw HB hg; have GE138 := GW138; replace HB := Aside0.mk (below_step (zb HB) hb); clear hb hbox hg; obtain ⟨hcz4_0, hcz4_1, hcz4_2, hcz4_3, hfz4_0, hfz4_1, hfz4_2, hfz4_3⟩ := c4 BK138))
 (try simp only [Act.put, s1, s2, s3])
 go_cut [5] (fun v5 wc => ∃ (kq : Nat) (x5_1 : Bool), v5 = .bool x5_1 ∧ Aside0 (spec_FrameOk.j0 kq a0_0 x5_1 a0_0 a0_1 a0_2 a0_3 = some r) ∧ Aside0 (kq ≤ k) ∧ Aside0 (wc.heap[gb138]? = some (.cells #[.int .i64 a0_0, .bool a0_1, .int .i64 a0_2, .string a0_3] 79 (0, 0))) ∧ Aside0 (Below w.heap.size w wc))
 case first =>
  have H := HC2.out
  clear HC2
  replace H := sp H
  rcases H with ⟨c5, H⟩ | ⟨c5, H⟩
  ·skip
   have c5b0 : (a0_0 == 0) = true := beq_iff_eq.mpr c5
   have c5b1 : (a0_0 != 0) = false := bne_eq_false_iff_eq.mpr c5
   clear c5
   (first | rw [c5b0] | rw [c5b1] | rw [c5b2] | (simp only [i64_w, i32_w]; rw [c5b0]) | skip)
   have H' := Aside0.mk H
   clear H
   go_wp2
   go_meet
   case rel => exact ⟨_, ((a0_0 == 0)), zs, H', ⟨by first | omega | exact Nat.le_refl _⟩, ⟨by exact zk BK138⟩, ⟨zb HB⟩⟩
  ·skip
   have c5b0 : (a0_0 == 0) = false := beq_eq_false_iff_ne.mpr c5
   have c5b1 : (a0_0 != 0) = true := bne_iff_ne.mpr c5
   (first | rw [c5b0] | rw [c5b1] | rw [c5b2] | (simp only [i64_w, i32_w]; rw [c5b0]) | skip)
   have H' := Aside0.mk H
   clear H
   go_wp2
   go_meet
   case rel => exact ⟨_, ((a0_0 == 1)), zs, H', ⟨by first | omega | exact Nat.le_refl _⟩, ⟨by exact zk BK138⟩, ⟨zb HB⟩⟩
 case rest =>
  clear HC2
  try clear p2
  try clear c4
  try clear c5
  try clear c5b0
  try clear c5b1
  try clear c5b2
  try clear hcz4_0
  try clear hcz4_1
  try clear hcz4_2
  try clear hcz4_3
  try clear hfz4_0
  try clear hfz4_1
  try clear hfz4_2
  try clear hfz4_3
  obtain ⟨kq, x5_1, rfl, HA, HJ1, BK138, HB⟩ := hcut
  cases kq with
  | zero => exact absurd HA.out (by simp [spec_FrameOk.j0])
  | succ kj1 =>
   have H := HA.out
   clear HA
   simp only [spec_FrameOk.j0] at H
   by_cases c6 : x5_1 = true
   ·subst c6
    rw [if_pos rfl] at H
    obtain ⟨t139, A7, H⟩ := ob H
    (try dsimp only at H)
    by_cases c8 : t139 = true
    ·subst c8
     rw [if_pos rfl] at H
     obtain rfl := Option.some.inj H
     obtain ⟨hcz9_0, hcz9_1, hcz9_2, hcz9_3, hfz9_0, hfz9_1, hfz9_2, hfz9_3⟩ := c4 BK138
     go_wp2_with (first | ((with_reducible refine gq 69 rfl ?_); refine gl (some 10) Tryd.func69 #[.int .i64 a0_2] ?_; (with_reducible refine (spec_l12Stream.calls a0_2 true _ A7.out).mono ?_); rintro e w' ⟨rfl, ⟨nd, rfl⟩⟩; refine ⟨_, rfl, ?_⟩))
     go_ret
     exact ⟨ze, zb HB⟩
    ·replace c8 := Bool.eq_false_iff.mpr c8
     subst c8
     rw [if_neg (show ¬ (false = true) by decide)] at H
     obtain rfl := Option.some.inj H
     obtain ⟨hcz10_0, hcz10_1, hcz10_2, hcz10_3, hfz10_0, hfz10_1, hfz10_2, hfz10_3⟩ := c4 BK138
     go_wp2_with (first | ((with_reducible refine gq 69 rfl ?_); refine gl (some 10) Tryd.func69 #[.int .i64 a0_2] ?_; (with_reducible refine (spec_l12Stream.calls a0_2 false _ A7.out).mono ?_); rintro e w' ⟨rfl, ⟨nd, rfl⟩⟩; refine ⟨_, rfl, ?_⟩))
     go_ret
     exact ⟨ze, zb HB⟩
   ·replace c6 := Bool.eq_false_iff.mpr c6
    subst c6
    rw [if_neg (show ¬ (false = true) by decide)] at H
    replace H := sp H
    rcases H with ⟨c11, H⟩ | ⟨c11, H⟩
    ·skip
     have c11b0 : (a0_0 == 3) = true := beq_iff_eq.mpr c11
     have c11b1 : (a0_0 != 3) = false := bne_eq_false_iff_eq.mpr c11
     clear c11
     obtain ⟨t140, A12, H⟩ := ob H
     (try dsimp only at H)
     by_cases c13 : t140 = true
     ·subst c13
      rw [if_pos rfl] at H
      by_cases c14 : a0_1 = true
      ·subst c14
       rw [if_pos rfl] at H
       obtain rfl := Option.some.inj H
       obtain ⟨hcz15_0, hcz15_1, hcz15_2, hcz15_3, hfz15_0, hfz15_1, hfz15_2, hfz15_3⟩ := c4 BK138
       go_wp2_with (first | ((with_reducible refine gq 69 rfl ?_); refine gl (some 21) Tryd.func69 #[.int .i64 a0_2] ?_; (with_reducible refine (spec_l12Stream.calls a0_2 true _ A12.out).mono ?_); rintro e w' ⟨rfl, ⟨nd, rfl⟩⟩; refine ⟨_, rfl, ?_⟩))
       go_ret
       exact ⟨ze, zb HB⟩
      ·replace c14 := Bool.eq_false_iff.mpr c14
       subst c14
       rw [if_neg (show ¬ (false = true) by decide)] at H
       obtain rfl := Option.some.inj H
       obtain ⟨hcz16_0, hcz16_1, hcz16_2, hcz16_3, hfz16_0, hfz16_1, hfz16_2, hfz16_3⟩ := c4 BK138
       go_wp2_with (first | ((with_reducible refine gq 69 rfl ?_); refine gl (some 21) Tryd.func69 #[.int .i64 a0_2] ?_; (with_reducible refine (spec_l12Stream.calls a0_2 true _ A12.out).mono ?_); rintro e w' ⟨rfl, ⟨nd, rfl⟩⟩; refine ⟨_, rfl, ?_⟩))
       go_ret
       exact ⟨ze, zb HB⟩
     ·replace c13 := Bool.eq_false_iff.mpr c13
      subst c13
      rw [if_neg (show ¬ (false = true) by decide)] at H
      obtain rfl := Option.some.inj H
      obtain ⟨hcz17_0, hcz17_1, hcz17_2, hcz17_3, hfz17_0, hfz17_1, hfz17_2, hfz17_3⟩ := c4 BK138
      go_wp2_with (first | ((with_reducible refine gq 69 rfl ?_); refine gl (some 21) Tryd.func69 #[.int .i64 a0_2] ?_; (with_reducible refine (spec_l12Stream.calls a0_2 false _ A12.out).mono ?_); rintro e w' ⟨rfl, ⟨nd, rfl⟩⟩; refine ⟨_, rfl, ?_⟩))
      go_ret
      exact ⟨ze, zb HB⟩
    ·skip
     have c11b0 : (a0_0 == 3) = false := beq_eq_false_iff_ne.mpr c11
     have c11b1 : (a0_0 != 3) = true := bne_iff_ne.mpr c11
     replace H := sp H
     rcases H with ⟨c18, H⟩ | ⟨c18, H⟩
     ·skip
      have c18b0 : (a0_0 == 8) = true := beq_iff_eq.mpr c18
      have c18b1 : (a0_0 != 8) = false := bne_eq_false_iff_eq.mpr c18
      clear c18
      by_cases c19 : a0_2 = 0
      ·rw [if_pos c19] at H
       have c19b0 : (a0_2 == 0) = true := beq_iff_eq.mpr c19
       have c19b1 : (a0_2 != 0) = false := bne_eq_false_iff_eq.mpr c19
       clear c19
       by_cases c20 : a0_1 = true
       ·subst c20
        rw [if_pos rfl] at H
        obtain rfl := Option.some.inj H
        obtain ⟨hcz21_0, hcz21_1, hcz21_2, hcz21_3, hfz21_0, hfz21_1, hfz21_2, hfz21_3⟩ := c4 BK138
        go_wp2
        go_ret
        exact ⟨ze, zb HB⟩
       ·replace c20 := Bool.eq_false_iff.mpr c20
        subst c20
        rw [if_neg (show ¬ (false = true) by decide)] at H
        by_cases c22 : (a0_3.size : Int) = 1
        ·rw [if_pos c22] at H
         have c22b0 : ((a0_3.size : Int) == 1) = true := beq_iff_eq.mpr c22
         have c22b1 : ((a0_3.size : Int) != 1) = false := bne_eq_false_iff_eq.mpr c22
         clear c22
         by_cases c23 : 0 < (a0_3.size : Int)
         ·rw [if_pos c23] at H
          have c23b0 := decide_eq_true c23
          have c23b1 := decide_eq_true (by omega)
          clear c23
          obtain ⟨t141, A25, H⟩ := ob H
          (try dsimp only at H)
          obtain rfl := Option.some.inj H
          obtain ⟨hcz26_0, hcz26_1, hcz26_2, hcz26_3, hfz26_0, hfz26_1, hfz26_2, hfz26_3⟩ := c4 BK138
          have p24 : 0 ≤ (0 : Int) := (by omega)
          have q24 : 0 < a0_3.size := (by have : (0 : Int) < (a0_3.size : Int) := of_decide_eq_true za; omega)
          have hx24 : ∀ h : 0 < a0_3.size, ((a0_3[0]'h).toNat : Int) = bt a0_3 0 := bt_at a0_3 0
          clear p24
          have qi24 : (0 < (a0_3.size : Int)) = True := eq_true (of_decide_eq_true za)
          replace q24 := eq_true q24
          go_wp2_with (first | (go_at_call 70; (with_reducible refine (spec_l6In.calls (wrap64 (bt a0_3 0)) 1 31 t141 _ A25.out).mono ?_); rintro e w' ⟨rfl, ⟨nd, rfl⟩⟩))
          go_ret
          exact ⟨ze, zb HB⟩
         ·rw [if_neg c23] at H
          exact absurd H (by simp)
        ·rw [if_neg c22] at H
         have c22b0 : ((a0_3.size : Int) == 1) = false := beq_eq_false_iff_ne.mpr c22
         have c22b1 : ((a0_3.size : Int) != 1) = true := bne_iff_ne.mpr c22
         obtain rfl := Option.some.inj H
         obtain ⟨hcz27_0, hcz27_1, hcz27_2, hcz27_3, hfz27_0, hfz27_1, hfz27_2, hfz27_3⟩ := c4 BK138
         go_wp2
         go_ret
         exact ⟨ze, zb HB⟩
      ·rw [if_neg c19] at H
       have c19b0 : (a0_2 == 0) = false := beq_eq_false_iff_ne.mpr c19
       have c19b1 : (a0_2 != 0) = true := bne_iff_ne.mpr c19
       obtain ⟨t142, A28, H⟩ := ob H
       (try dsimp only at H)
       by_cases c29 : t142 = true
       ·subst c29
        rw [if_pos rfl] at H
        by_cases c30 : a0_1 = true
        ·subst c30
         rw [if_pos rfl] at H
         obtain rfl := Option.some.inj H
         obtain ⟨hcz31_0, hcz31_1, hcz31_2, hcz31_3, hfz31_0, hfz31_1, hfz31_2, hfz31_3⟩ := c4 BK138
         go_wp2_with (first | (go_at_call 69; (with_reducible refine (spec_l12Stream.calls a0_2 true _ A28.out).mono ?_); rintro e w' ⟨rfl, ⟨nd, rfl⟩⟩))
         go_ret
         exact ⟨ze, zb HB⟩
        ·replace c30 := Bool.eq_false_iff.mpr c30
         subst c30
         rw [if_neg (show ¬ (false = true) by decide)] at H
         by_cases c32 : (a0_3.size : Int) = 1
         ·rw [if_pos c32] at H
          have c32b0 : ((a0_3.size : Int) == 1) = true := beq_iff_eq.mpr c32
          have c32b1 : ((a0_3.size : Int) != 1) = false := bne_eq_false_iff_eq.mpr c32
          clear c32
          by_cases c33 : 0 < (a0_3.size : Int)
          ·rw [if_pos c33] at H
           have c33b0 := decide_eq_true c33
           have c33b1 := decide_eq_true (by omega)
           clear c33
           obtain ⟨t143, A35, H⟩ := ob H
           (try dsimp only at H)
           obtain rfl := Option.some.inj H
           obtain ⟨hcz36_0, hcz36_1, hcz36_2, hcz36_3, hfz36_0, hfz36_1, hfz36_2, hfz36_3⟩ := c4 BK138
           go_wp2_with (first | (go_at_call 69; (with_reducible refine (spec_l12Stream.calls a0_2 true _ A28.out).mono ?_); rintro e w' ⟨rfl, ⟨nd, rfl⟩⟩; have p34 : 0 ≤ (0 : Int) := (by omega); have q34 : 0 < a0_3.size := (by have : (0 : Int) < (a0_3.size : Int) := of_decide_eq_true za; omega); have hx34 : ∀ h : 0 < a0_3.size, ((a0_3[0]'h).toNat : Int) = bt a0_3 0 := bt_at a0_3 0; clear p34; have qi34 : (0 < (a0_3.size : Int)) = True := eq_true (of_decide_eq_true za); replace q34 := eq_true q34) | (go_at_call 70; (with_reducible refine (spec_l6In.calls (wrap64 (bt a0_3 0)) 1 31 t143 _ A35.out).mono ?_); rintro e w' ⟨rfl, ⟨nd, rfl⟩⟩))
           go_ret
           exact ⟨ze, zb HB⟩
          ·rw [if_neg c33] at H
           exact absurd H (by simp)
         ·rw [if_neg c32] at H
          have c32b0 : ((a0_3.size : Int) == 1) = false := beq_eq_false_iff_ne.mpr c32
          have c32b1 : ((a0_3.size : Int) != 1) = true := bne_iff_ne.mpr c32
          obtain rfl := Option.some.inj H
          obtain ⟨hcz37_0, hcz37_1, hcz37_2, hcz37_3, hfz37_0, hfz37_1, hfz37_2, hfz37_3⟩ := c4 BK138
          go_wp2_with (first | (go_at_call 69; (with_reducible refine (spec_l12Stream.calls a0_2 true _ A28.out).mono ?_); rintro e w' ⟨rfl, ⟨nd, rfl⟩⟩))
          go_ret
          exact ⟨ze, zb HB⟩
       ·replace c29 := Bool.eq_false_iff.mpr c29
        subst c29
        rw [if_neg (show ¬ (false = true) by decide)] at H
        obtain rfl := Option.some.inj H
        obtain ⟨hcz38_0, hcz38_1, hcz38_2, hcz38_3, hfz38_0, hfz38_1, hfz38_2, hfz38_3⟩ := c4 BK138
        go_wp2_with (first | (go_at_call 69; (with_reducible refine (spec_l12Stream.calls a0_2 false _ A28.out).mono ?_); rintro e w' ⟨rfl, ⟨nd, rfl⟩⟩))
        go_ret
        exact ⟨ze, zb HB⟩
     ·skip
      have c18b0 : (a0_0 == 8) = false := beq_eq_false_iff_ne.mpr c18
      have c18b1 : (a0_0 != 8) = true := bne_iff_ne.mpr c18
      obtain rfl := Option.some.inj H
      go_wp2
      go_ret
      exact ⟨ze, zb HB⟩

/-! ### spec_l3One: function 85 -/
-- thin
def spec_l3One.f (a0_0 : ByteArray) (a0_1 : ByteArray) (a0_2 : Bool) : Option (Int) := some (wrap64 ((wrap64 ((a0_0.size : Int) + (a0_1.size : Int))) + 4))
set_option maxHeartbeats 8000000 in
set_option maxRecDepth 100000 in
theorem spec_l3One.calls (a0_0 : ByteArray) (a0_1 : ByteArray) (a0_2 : Bool) (r : Int) (w : World) (h : spec_l3One.f a0_0 a0_1 a0_2 = some r) :
  Calls Tryd.prog 85 #[.agg #[.string a0_0, .string a0_1, .bool a0_2]] w fun e w' => e = .returned (.int .i64 r) ∧ Below w.heap.size w w' := by
 have hu61 := Tryd.underlying61
 have HB := Aside0.mk (Below.refl w.heap.size w)
 have H : (some (wrap64 ((wrap64 ((a0_0.size : Int) + (a0_1.size : Int))) + 4))) = some r := h
 clear h
 obtain rfl := Option.some.inj H
 go_enter Tryd.func85, Tryd.ntmps85
 go_wp2_with (first | ((with_reducible refine gd 1 rfl ?_); refine bx (N := 1) (cs := #[.string a0_0, .string a0_1, .bool a0_2]) (t := 61) ?_; intro gb144 hg w2 hbox hb; have BK144 := Aside0.mk (hbox); have GW144 := gw HB hg; have GE144 := GW144; replace HB := Aside0.mk (below_step (zb HB) hb); clear hb hbox hg; obtain ⟨hcz3_0, hcz3_1, hcz3_2, hfz3_0, hfz3_1, hfz3_2⟩ := c3 BK144))
 go_ret
 exact ⟨ze, zb HB⟩

/-! ### spec_l3Size: function 72 -/
-- thin
def spec_l3Size.l0 : Nat → List (S61) → Int → Int → Option (Int)
 | 0, _, _, _ => none
 | k + 1, x0, x3, x4 => if x4 < (x0.length : Int) then (if 0 ≤ x4 then ((spec_l3One.f ((rd_T61 x0 x4).f0) ((rd_T61 x0 x4).f1) ((rd_T61 x0 x4).f2)).bind fun t146 => (spec_l3Size.l0 k x0 (wrap64 (x3 + t146)) (wrap64 (x4 + 1)))) else (none)) else (some x3)
def spec_l3Size.f (k : Nat) (l0 : List (S61)) : Option (Int) := spec_l3Size.l0 k l0 0 0
theorem spec_l3Size.mono_l : ∀ k, (∀ y0 y1 y2, LeO (spec_l3Size.l0 k y0 y1 y2) (spec_l3Size.l0 (k + 1) y0 y1 y2))
 | 0 => fun _ _ _ r h => by simp [spec_l3Size.l0] at h
 | k + 1 => by
  have ih0 := spec_l3Size.mono_l k
  ·intro y0 y1 y2
   unfold spec_l3Size.l0
   exact zm
theorem spec_l3Size.mono : ∀ a0 k, LeO (spec_l3Size.f k a0) (spec_l3Size.f (k + 1) a0) := by
 intro a0 k
 have ih0 := spec_l3Size.mono_l k
 unfold spec_l3Size.f
 exact zm
set_option maxHeartbeats 8000000 in
set_option maxRecDepth 100000 in
theorem spec_l3Size.calls (k : Nat) (A0 : Option Addr) (c0 : Nat) (l0 : List (S61)) (r : Int) (w : World) (hr0 : Kd.C k61 w A0 l0.length l0) (hc0 : l0.length ≤ c0) (h : spec_l3Size.f k l0 = some r) :
  Calls Tryd.prog 72 #[.slice A0 l0.length c0] w fun e w' => e = .returned (.int .i64 r) ∧ Below w.heap.size w w' := by
 have hu61 := Tryd.underlying61
 have HR0 := Aside0.mk hr0
 have HC0 := Aside0.mk hc0
 clear hr0 hc0
 have HB := Aside0.mk (Below.refl w.heap.size w)
 have H : (spec_l3Size.l0 k l0 0 0) = some r := h
 clear h
 have H' := Aside0.mk H
 clear H
 go_enter Tryd.func72, Tryd.ntmps72
 go_wp2
 go_loopg [3, 4] k (fun kq v3 v4 w' => ∃ (x3_1 : Int) (x4_1 : Int), v3 = .int .i64 x3_1 ∧ v4 = .int .i64 x4_1 ∧ Aside0 (spec_l3Size.l0 kq l0 x3_1 x4_1 = some r) ∧ Aside0 (kq ≤ k) ∧ Aside0 (Below w.heap.size w w'))
 case atStart => exact ⟨(0), (0), zs, zs, H', ⟨Nat.le_refl _⟩, ⟨zb HB⟩⟩
 case round =>
  clear H'
  obtain ⟨x3_1, x4_1, rfl, rfl, HA, HK1, HB⟩ := hrel
  cases gk with
  | zero => exact absurd HA.out (by simp [spec_l3Size.l0])
  | succ k1 =>
   have H := HA.out
   clear HA
   simp only [spec_l3Size.l0] at H
   replace H := sp H
   rcases H with ⟨c2, H⟩ | ⟨c2, H⟩
   ·skip
    have c2b0 := decide_eq_true c2
    clear c2
    by_cases c3 : 0 ≤ x4_1
    ·rw [if_pos c3] at H
     have c3b0 := decide_eq_true c3
     clear c3
     obtain ⟨t146, A4, H⟩ := ob H
     (try dsimp only at H)
     have H' := Aside0.mk H
     clear H
     have p145 : 0 ≤ (x4_1 : Int) := of_decide_eq_true za
     have q145 : x4_1 < (l0.length : Int) := of_decide_eq_true za
     obtain ⟨ad145, e145, hx145_0, hx145_1, hx145_2⟩ := at_T61 HR0.out x4_1 p145 q145
     cases e145
     replace hx145_0 := cb0 hx145_0 HB
     replace hx145_1 := cb0 hx145_1 HB
     replace hx145_2 := cb0 hx145_2 HB
     replace p145 := eq_true p145
     replace q145 := eq_true q145
     go_wp2_with (first | ((with_reducible refine gq 85 rfl ?_); refine gl (some 16) Tryd.func85 #[.agg #[.string ((rd_T61 l0 x4_1).f0), .string ((rd_T61 l0 x4_1).f1), .bool ((rd_T61 l0 x4_1).f2)]] ?_; (with_reducible refine (spec_l3One.calls ((rd_T61 l0 x4_1).f0) ((rd_T61 l0 x4_1).f1) ((rd_T61 l0 x4_1).f2) t146 _ A4.out).mono ?_); rintro e w5 ⟨rfl, hb⟩; refine ⟨_, rfl, ?_⟩; replace HB := Aside0.mk (below_step (zb HB) hb); (try clear hb)))
     go_roundg k1
     case measure => have := HK1.out; omega
     case rel => exact ⟨(wrap64 (x3_1 + t146)), (wrap64 (x4_1 + 1)), zs, zs, H', ⟨by have := HK1.out; omega⟩, ⟨zb HB⟩⟩
    ·rw [if_neg c3] at H
     exact absurd H (by simp)
   ·skip
    have c2b0 := decide_eq_false c2
    clear c2
    obtain rfl := Option.some.inj H
    go_wp2
    go_ret
    exact ⟨ze, zb HB⟩

end Go.Proofs.YtlpibelofcabhaaDoor.PFnExactEndCall
