-- WRITTEN BY a turned print (wip/tools of the prover's repo)
import Derived.Test.YtajjleldnobhmaaPFnWordReadx0
import Derived.Test.YtajjleldnobhmaaPFnWordReadx1
namespace Go.Proofs.Ytajjleldnobhmaa.PFnWordRead
open Go.RowKit Go.Proofs.YtajjleldnobhmaaW.PrintWords Go.Proofs.YtajjleldnobhmaaW.PrintLast Go.Proofs.YtajjleldnobhmaaW.PrintMore Go.Proofs.Ytajjleldnobhmaa.Lm
attribute [local go_sem] max2_int min2_int max_two min_two max_three min_three max_four min_four   -- for this text's walks alone
set_option linter.unusedVariables false
set_option linter.unusedSimpArgs false

/-! ### spec_l2Num: function 42 -/
def spec_l2Num.l0 : Nat → List Int → Int → Int → Option (Int)
  | 0, _, _, _ => none
  | k + 1, x0, x3, x4 => if x4 < (x0.length : Int) then (if 0 ≤ x4 then (spec_l2Num.l0 k x0 (wrap64 ((wrap64 (2 * x3)) + (rd x0 x4))) (wrap64 (x4 + 1))) else (none)) else (some x3)
def spec_l2Num.f (k : Nat) (l0 : List Int) : Option (Int) := spec_l2Num.l0 k l0 0 0
theorem spec_l2Num.mono_l : ∀ k, (∀ y0 y1 y2, LeO (spec_l2Num.l0 k y0 y1 y2) (spec_l2Num.l0 (k + 1) y0 y1 y2))
  | 0 => fun _ _ _ r h => by simp [spec_l2Num.l0] at h
  | k + 1 => by
    have ih0 := spec_l2Num.mono_l k
    · intro y0 y1 y2
      unfold spec_l2Num.l0
      repeat' first
      | (with_reducible exact ih0 _ _ _)
      | (with_reducible exact LeO.refl _)
      | (with_reducible exact LeO.none _)
      | (with_reducible refine LeO.ite ?_ ?_)
      | (with_reducible refine LeO.bind ?_ (fun _ => ?_))
      | exact ih0 _ _ _
      | exact LeO.none _
      | refine LeO.ite ?_ ?_
      | refine LeO.bind ?_ (fun _ => ?_)
theorem spec_l2Num.mono : ∀ a0 k, LeO (spec_l2Num.f k a0) (spec_l2Num.f (k + 1) a0) := by
  intro a0 k
  have ih0 := spec_l2Num.mono_l k
  unfold spec_l2Num.f
  repeat' first
      | (with_reducible exact ih0 _ _ _)
      | (with_reducible exact LeO.refl _)
      | (with_reducible exact LeO.none _)
      | (with_reducible refine LeO.ite ?_ ?_)
      | (with_reducible refine LeO.bind ?_ (fun _ => ?_))
      | exact ih0 _ _ _
      | exact LeO.none _
      | refine LeO.ite ?_ ?_
      | refine LeO.bind ?_ (fun _ => ?_)
set_option maxHeartbeats 8000000 in
set_option maxRecDepth 100000 in
theorem spec_l2Num.calls (k : Nat) (A0 : Option Addr) (c0 : Nat) (l0 : List Int) (r : Int) (w : World) (hr0 : Kd.C (Kd.int .i64) w A0 l0.length l0) (hc0 : l0.length ≤ c0) (h : spec_l2Num.f k l0 = some r) :
    Calls Try.prog 42 #[.slice A0 l0.length c0] w fun e w' => e = .returned (.int .i64 r) ∧ Drawn0 w w' := by
  have HR0 := Aside0.mk hr0
  have HC0 := Aside0.mk hc0
  clear hr0 hc0
  have H : (spec_l2Num.l0 k l0 0 0) = some r := h
  clear h
  have H' := Aside0.mk H
  clear H
  go_enter Try.func42, Try.ntmps42
  go_wp2
  go_loopg [3, 4] k (fun kq v3 v4 w' => ∃ (x3_1 : Int) (x4_1 : Int), v3 = .int .i64 x3_1 ∧ v4 = .int .i64 x4_1 ∧ Aside0 (spec_l2Num.l0 kq l0 x3_1 x4_1 = some r) ∧ Aside0 (kq ≤ k) ∧ Drawn0 w w')
  case atStart => exact ⟨(0), (0), (by first | rfl | (simp; done) | (simp [*]; done)), (by first | rfl | (simp; done) | (simp [*]; done)), H', ⟨Nat.le_refl _⟩, by repeat (first | exact Drawn0.refl _ | apply Drawn0.step)⟩
  case round =>
    clear H'
    obtain ⟨x3_1, x4_1, rfl, rfl, HA, HK1, ⟨m1, rfl⟩⟩ := hrel
    cases gk with
    | zero => exact absurd HA.out (by simp [spec_l2Num.l0])
    | succ k1 =>
      have H := HA.out
      clear HA
      simp only [spec_l2Num.l0] at H
      by_cases c2 : x4_1 < (l0.length : Int)
      · rw [if_pos c2] at H
        have c2b0 : decide (x4_1 < (l0.length : Int)) = true := decide_eq_true c2
        clear c2
        by_cases c3 : 0 ≤ x4_1
        · rw [if_pos c3] at H
          have c3b0 : decide (0 ≤ x4_1) = true := decide_eq_true c3
          clear c3
          have H' := Aside0.mk H
          clear H
          have p110 : 0 ≤ (x4_1 : Int) := of_decide_eq_true (by first | (with_reducible assumption) | assumption)
          have q110 : x4_1 < (l0.length : Int) := of_decide_eq_true (by first | (with_reducible assumption) | assumption)
          obtain ⟨ad110, e110, hx110_0⟩ := Kd.at_int HR0.out x4_1 p110 q110
          cases e110
          replace p110 := eq_true p110
          replace q110 := eq_true q110
          go_wp2
          go_roundg k1
          case measure => have := HK1.out; omega
          case rel => exact ⟨(wrap64 ((wrap64 (2 * x3_1)) + (rd l0 x4_1))), (wrap64 (x4_1 + 1)), (by first | rfl | (simp; done) | (simp [*]; done)), (by first | rfl | (simp; done) | (simp [*]; done)), H', ⟨by have := HK1.out; omega⟩, by repeat (first | exact Drawn0.refl _ | apply Drawn0.step)⟩
        · rw [if_neg c3] at H
          exact absurd H (by simp)
      · rw [if_neg c2] at H
        have c2b0 : decide (x4_1 < (l0.length : Int)) = false := decide_eq_false c2
        clear c2
        obtain rfl := Option.some.inj H
        go_wp2
        go_ret
        exact ⟨by first | rfl | (simp; done) | (simp [*]; done), by repeat (first | exact Drawn0.refl _ | apply Drawn0.step)⟩

/-! ### spec_l2Unpack: function 40 -/
mutual
def spec_l2Unpack.l0 : Nat → ByteArray → List Int → Int → Option (ByteArray × Bool)
  | 0, _, _, _ => none
  | k + 1, x0, x4, x5 => if x5 < (x0.size : Int) then (if 0 ≤ x5 then ((spec_l2Bits.f k (wrap64 (bt x0 x5)) 8).bind fun t114 => (if x4.length + t114.length < 17592186044416 then (spec_l2Unpack.l0 k x0 (x4 ++ t114) (wrap64 (x5 + 1))) else (none))) else (none)) else (spec_l2Unpack.l1 k x4 (⟨#[]⟩ : ByteArray))
def spec_l2Unpack.j2 : Nat → List Int → ByteArray → Option (ByteArray × Bool)
  | 0, _, _ => none
  | k + 1, x4, x6 => spec_l2Unpack.l2 k x4 x6 true 0
def spec_l2Unpack.l2 : Nat → List Int → ByteArray → Bool → Int → Option (ByteArray × Bool)
  | 0, _, _, _, _ => none
  | k + 1, x4, x6, x9, x10 => if x10 < (x4.length : Int) then (if x9 = true then (if 0 ≤ x10 then (spec_l2Unpack.l2 k x4 x6 ((rd x4 x10) == 1) (wrap64 (x10 + 1))) else (none)) else (spec_l2Unpack.l2 k x4 x6 false (wrap64 (x10 + 1)))) else (if x9 = true then (if (x4.length : Int) < 8 then (some (x6, decide ((x6.size : Int) ≤ 16))) else (some (x6, false))) else (some (x6, false)))
def spec_l2Unpack.l1 : Nat → List Int → ByteArray → Option (ByteArray × Bool)
  | 0, _, _ => none
  | k + 1, x4, x6 => if (x4.length : Int) ≥ 5 then (if 5 ≤ (x4.length : Int) then ((spec_l2Num.f k (x4.take 5)).bind fun t124 => (if t124 ≥ 24 then (if (x4.length : Int) < 7 then (spec_l2Unpack.j2 k x4 x6) else (if 7 ≤ (x4.length : Int) then ((spec_l2Num.f k (x4.take 7)).bind fun t129 => (if (wrap64 ((wrap64 (t129 - 96)) + 24)) ≥ 39 then (spec_l2Unpack.j2 k x4 x6) else (if 0 ≤ (wrap64 ((wrap64 (t129 - 96)) + 24)) then (if (wrap64 ((wrap64 (t129 - 96)) + 24)) < 39 then ((spec_l1Byte.f (wrap64 (bt (⟨#[101, 116, 97, 111, 105, 110, 115, 114, 104, 108, 48, 49, 50, 51, 52, 53, 54, 55, 56, 57, 100, 99, 117, 109, 102, 112, 103, 119, 121, 98, 118, 107, 120, 106, 113, 122, 58, 47, 45]⟩ : ByteArray) (wrap64 ((wrap64 (t129 - 96)) + 24))))).bind fun t130 => (if x6.size + t130.size ≤ 9223372036854775807 then (spec_l2Unpack.l1 k (x4.drop (7 : Int).toNat) (x6 ++ t130)) else (none))) else (none)) else (none)))) else (none))) else (if t124 ≥ 39 then (spec_l2Unpack.j2 k x4 x6) else (if 0 ≤ t124 then (if t124 < 39 then ((spec_l1Byte.f (wrap64 (bt (⟨#[101, 116, 97, 111, 105, 110, 115, 114, 104, 108, 48, 49, 50, 51, 52, 53, 54, 55, 56, 57, 100, 99, 117, 109, 102, 112, 103, 119, 121, 98, 118, 107, 120, 106, 113, 122, 58, 47, 45]⟩ : ByteArray) t124))).bind fun t134 => (if x6.size + t134.size ≤ 9223372036854775807 then (spec_l2Unpack.l1 k (x4.drop (5 : Int).toNat) (x6 ++ t134)) else (none))) else (none)) else (none))))) else (none)) else (spec_l2Unpack.j2 k x4 x6)
end
def spec_l2Unpack.f (k : Nat) (a0 : ByteArray) : Option (ByteArray × Bool) := spec_l2Unpack.l0 k a0 (([] : List Int)) 0
theorem spec_l2Unpack.mono_l : ∀ k, (∀ y0 y1 y2, LeO (spec_l2Unpack.l0 k y0 y1 y2) (spec_l2Unpack.l0 (k + 1) y0 y1 y2)) ∧ (∀ y0 y1, LeO (spec_l2Unpack.j2 k y0 y1) (spec_l2Unpack.j2 (k + 1) y0 y1)) ∧ (∀ y0 y1 y2 y3, LeO (spec_l2Unpack.l2 k y0 y1 y2 y3) (spec_l2Unpack.l2 (k + 1) y0 y1 y2 y3)) ∧ (∀ y0 y1, LeO (spec_l2Unpack.l1 k y0 y1) (spec_l2Unpack.l1 (k + 1) y0 y1))
  | 0 => ⟨fun _ _ _ r h => by simp [spec_l2Unpack.l0] at h, fun _ _ r h => by simp [spec_l2Unpack.j2] at h, fun _ _ _ _ r h => by simp [spec_l2Unpack.l2] at h, fun _ _ r h => by simp [spec_l2Unpack.l1] at h⟩
  | k + 1 => by
    obtain ⟨ih0, ih1, ih2, ih3⟩ := spec_l2Unpack.mono_l k
    refine ⟨?_, ?_, ?_, ?_⟩
    · intro y0 y1 y2
      unfold spec_l2Unpack.l0
      repeat' first
      | (with_reducible exact ih0 _ _ _)
      | (with_reducible exact ih1 _ _)
      | (with_reducible exact ih2 _ _ _ _)
      | (with_reducible exact ih3 _ _)
      | (with_reducible exact spec_l2Bits.mono _ _ _)
      | (with_reducible exact spec_l2Num.mono _ _)
      | (with_reducible exact LeO.refl _)
      | (with_reducible exact LeO.none _)
      | (with_reducible refine LeO.ite ?_ ?_)
      | (with_reducible refine LeO.bind ?_ (fun _ => ?_))
      | exact ih0 _ _ _
      | exact ih1 _ _
      | exact ih2 _ _ _ _
      | exact ih3 _ _
      | exact spec_l2Bits.mono _ _ _
      | exact spec_l2Num.mono _ _
      | exact LeO.none _
      | refine LeO.ite ?_ ?_
      | refine LeO.bind ?_ (fun _ => ?_)
    · intro y0 y1
      unfold spec_l2Unpack.j2
      repeat' first
      | (with_reducible exact ih0 _ _ _)
      | (with_reducible exact ih1 _ _)
      | (with_reducible exact ih2 _ _ _ _)
      | (with_reducible exact ih3 _ _)
      | (with_reducible exact spec_l2Bits.mono _ _ _)
      | (with_reducible exact spec_l2Num.mono _ _)
      | (with_reducible exact LeO.refl _)
      | (with_reducible exact LeO.none _)
      | (with_reducible refine LeO.ite ?_ ?_)
      | (with_reducible refine LeO.bind ?_ (fun _ => ?_))
      | exact ih0 _ _ _
      | exact ih1 _ _
      | exact ih2 _ _ _ _
      | exact ih3 _ _
      | exact spec_l2Bits.mono _ _ _
      | exact spec_l2Num.mono _ _
      | exact LeO.none _
      | refine LeO.ite ?_ ?_
      | refine LeO.bind ?_ (fun _ => ?_)
    · intro y0 y1 y2 y3
      unfold spec_l2Unpack.l2
      repeat' first
      | (with_reducible exact ih0 _ _ _)
      | (with_reducible exact ih1 _ _)
      | (with_reducible exact ih2 _ _ _ _)
      | (with_reducible exact ih3 _ _)
      | (with_reducible exact spec_l2Bits.mono _ _ _)
      | (with_reducible exact spec_l2Num.mono _ _)
      | (with_reducible exact LeO.refl _)
      | (with_reducible exact LeO.none _)
      | (with_reducible refine LeO.ite ?_ ?_)
      | (with_reducible refine LeO.bind ?_ (fun _ => ?_))
      | exact ih0 _ _ _
      | exact ih1 _ _
      | exact ih2 _ _ _ _
      | exact ih3 _ _
      | exact spec_l2Bits.mono _ _ _
      | exact spec_l2Num.mono _ _
      | exact LeO.none _
      | refine LeO.ite ?_ ?_
      | refine LeO.bind ?_ (fun _ => ?_)
    · intro y0 y1
      unfold spec_l2Unpack.l1
      repeat' first
      | (with_reducible exact ih0 _ _ _)
      | (with_reducible exact ih1 _ _)
      | (with_reducible exact ih2 _ _ _ _)
      | (with_reducible exact ih3 _ _)
      | (with_reducible exact spec_l2Bits.mono _ _ _)
      | (with_reducible exact spec_l2Num.mono _ _)
      | (with_reducible exact LeO.refl _)
      | (with_reducible exact LeO.none _)
      | (with_reducible refine LeO.ite ?_ ?_)
      | (with_reducible refine LeO.bind ?_ (fun _ => ?_))
      | exact ih0 _ _ _
      | exact ih1 _ _
      | exact ih2 _ _ _ _
      | exact ih3 _ _
      | exact spec_l2Bits.mono _ _ _
      | exact spec_l2Num.mono _ _
      | exact LeO.none _
      | refine LeO.ite ?_ ?_
      | refine LeO.bind ?_ (fun _ => ?_)
theorem spec_l2Unpack.mono : ∀ a0 k, LeO (spec_l2Unpack.f k a0) (spec_l2Unpack.f (k + 1) a0) := by
  intro a0 k
  obtain ⟨ih0, ih1, ih2, ih3⟩ := spec_l2Unpack.mono_l k
  unfold spec_l2Unpack.f
  repeat' first
      | (with_reducible exact ih0 _ _ _)
      | (with_reducible exact ih1 _ _)
      | (with_reducible exact ih2 _ _ _ _)
      | (with_reducible exact ih3 _ _)
      | (with_reducible exact spec_l2Bits.mono _ _ _)
      | (with_reducible exact spec_l2Num.mono _ _)
      | (with_reducible exact LeO.refl _)
      | (with_reducible exact LeO.none _)
      | (with_reducible refine LeO.ite ?_ ?_)
      | (with_reducible refine LeO.bind ?_ (fun _ => ?_))
      | exact ih0 _ _ _
      | exact ih1 _ _
      | exact ih2 _ _ _ _
      | exact ih3 _ _
      | exact spec_l2Bits.mono _ _ _
      | exact spec_l2Num.mono _ _
      | exact LeO.none _
      | refine LeO.ite ?_ ?_
      | refine LeO.bind ?_ (fun _ => ?_)
set_option maxHeartbeats 8000000 in
set_option maxRecDepth 100000 in
theorem spec_l2Unpack.calls (k : Nat) (a0 : ByteArray) (r1 : ByteArray) (r2 : Bool) (w : World) (h : spec_l2Unpack.f k a0 = some (r1, r2)) :
    Calls Try.prog 40 #[.string a0] w fun e w' => e = .returned (.tuple #[.string r1, .bool r2]) ∧ Below w.heap.size w w' := by
  have HB := Aside0.mk (Below.refl w.heap.size w)
  have H : (spec_l2Unpack.l0 k a0 (([] : List Int)) 0) = some (r1, r2) := h
  clear h
  obtain ⟨y111, hy111⟩ : ∃ y_ : List Int, y_ = (([] : List Int)) := ⟨_, rfl⟩
  replace H : (spec_l2Unpack.l0 k a0 y111 0) = some (r1, r2) := by first | (rw [hy111]; with_reducible exact H) | (have H2_ := (Option.bind_some _ _).symm.trans H; rw [hy111]; with_reducible exact H2_) | (have H2_ := (Option.bind_some _ _).symm.trans H; with_reducible exact H2_) | with_reducible exact H | (rw [hy111]; exact H) | exact H
  have Ny111 := Aside0.mk hy111
  clear hy111
  have H' := Aside0.mk H
  clear H
  go_enter Try.func40, Try.ntmps40
  go_wp2_with (first | ((with_reducible refine gate_dst (N := 11) rfl ?_); (try (refine gate_guard (by rfl) ?_; dsimp only)); refine Kd.R_lit (Kd.int .i64) _ 3 ?hg (N := 11) ?hd (xs := ([] : List Int)) (inner := []) (ok := fun _ => True) (okp := fun _ => True) ?hr ?hp (fun _ hk => hk) trivial (Below.refl _ _) (Nat.le_refl _) (by simp) ?_; (case hd => rfl); (case hg => rfl); (case hr => first | (go_simp; done) | (go_simp; rfl)); (case hp => exact (Reps.none _ _)); intro v112 w2 ho3 hb hg_ hnew_; clear hg_ hnew_; (first | rw [← Ny111.out] at ho3 | (simp only [Int.reduceToNat] at ho3; rw [← Ny111.out] at ho3)); have n0_ := Aside0.mk (Kd.R_lower ho3 (below_size (by repeat (first | (with_reducible first | exact HB.out | apply below_alloc | apply pw_below_drewN | apply below_drew1) | exact HB.out)))); have n1_ := Aside0.mk (below_step (by repeat (first | (with_reducible first | exact HB.out | apply below_alloc | apply pw_below_drewN | apply below_drew1) | exact HB.out)) hb); clear HB; have HO113 := n0_; have HB := n1_; clear n0_ n1_; clear hb ho3))
  go_loopg [4, 5] k (fun kq v4 v5 w' => ∃ (x4_1 : List Int) (x5_1 : Int), v5 = .int .i64 x5_1 ∧ Aside0 (spec_l2Unpack.l0 kq a0 x4_1 x5_1 = some (r1, r2)) ∧ Aside0 (kq ≤ k) ∧ Aside0 (Kd.R (Kd.int .i64) 3 w' w.heap.size (fun _ => True) v4 x4_1) ∧ Aside0 (Below w.heap.size w w'))
  case atStart => exact ⟨(y111), (0), (by first | rfl | (simp; done) | (simp [*]; done)), H', ⟨Nat.le_refl _⟩, ⟨by (with_reducible repeat (first | apply Kd.R_alloc | apply Kd.R_drewN | apply Kd.R_drew)); exact HO113.out⟩, ⟨by repeat (first | (with_reducible first | exact HB.out | apply below_alloc | apply pw_below_drewN | apply below_drew1) | exact HB.out)⟩⟩
  case round =>
    clear H'
    try clear p2
    obtain ⟨x4_1, x5_1, rfl, HA, HK1, HO_4, HB⟩ := hrel
    cases gk with
    | zero => exact absurd HA.out (by simp [spec_l2Unpack.l0])
    | succ k1 =>
      have H := HA.out
      clear HA
      simp only [spec_l2Unpack.l0] at H
      by_cases c4 : x5_1 < (a0.size : Int)
      · rw [if_pos c4] at H
        have c4b0 : decide (x5_1 < (a0.size : Int)) = true := decide_eq_true c4
        clear c4
        by_cases c5 : 0 ≤ x5_1
        · rw [if_pos c5] at H
          have c5b0 : decide (0 ≤ x5_1) = true := decide_eq_true c5
          clear c5
          replace H := Option.bind_eq_some_iff.mp H
          obtain ⟨t114, A70, H⟩ := H
          replace H : (if x4_1.length + t114.length < 17592186044416 then (spec_l2Unpack.l0 k1 a0 (x4_1 ++ t114) (wrap64 (x5_1 + 1))) else (none)) = some (r1, r2) := H
          have A7 := Aside0.mk A70
          clear A70
          by_cases c8 : x4_1.length + t114.length < 17592186044416
          · rw [if_pos c8] at H
            have LMc8 := Aside0.mk c8
            clear c8
            obtain ⟨y117, hy117⟩ : ∃ y_ : List Int, y_ = (x4_1 ++ t114) := ⟨_, rfl⟩
            replace H : (spec_l2Unpack.l0 k1 a0 y117 (wrap64 (x5_1 + 1))) = some (r1, r2) := by first | (rw [hy117]; with_reducible exact H) | (have H2_ := (Option.bind_some _ _).symm.trans H; rw [hy117]; with_reducible exact H2_) | (have H2_ := (Option.bind_some _ _).symm.trans H; with_reducible exact H2_) | with_reducible exact H | (rw [hy117]; exact H) | exact H
            have Ny117 := Aside0.mk hy117
            clear hy117
            have H' := Aside0.mk H
            clear H
            have p6 : 0 ≤ (x5_1 : Int) := of_decide_eq_true (by first | (with_reducible assumption) | assumption)
            have q6 : x5_1 < (a0.size : Int) := of_decide_eq_true (by first | (with_reducible assumption) | assumption)
            have hx6 := bt_at a0 x5_1
            replace p6 := eq_true p6
            replace q6 := eq_true q6
            go_wp2_with (first | ((with_reducible refine gate_callee (f := 41) rfl ?_); refine goesL_ (some 23) rfl rfl Try.func41 (by kernel_rfl) rfl #[.int .i64 (wrap64 (bt a0 x5_1)), .int .i64 8] rfl (by (try simp only [List.map_toArray, List.map_cons, List.map_nil]); first | done | rfl | (simp only [List.length_drop, List.length_take]; rfl)) ?_; (with_reducible refine (spec_l2Bits.calls k1 (wrap64 (bt a0 x5_1)) 8 t114 _ A7.out).mono ?_); rintro e w9 ⟨v115, rfl, ho0, hb⟩; refine ⟨_, rfl, ?_⟩; have n0_ := Aside0.mk (Kd.R_elder' (by (with_reducible repeat (first | apply Kd.R_alloc | apply Kd.R_drewN | apply Kd.R_drew)); exact HO_4.out) (Kd.R_base ho0) hb); have n1_ := Aside0.mk (Kd.R_lower (Kd.R_new' ho0 (Kd.R_lt (by (with_reducible repeat (first | apply Kd.R_alloc | apply Kd.R_drewN | apply Kd.R_drew)); exact HO_4.out))) (below_size (by repeat (first | (with_reducible first | exact HB.out | apply below_alloc | apply pw_below_drewN | apply below_drew1) | exact HB.out)))); have n2_ := Aside0.mk (below_step (by repeat (first | (with_reducible first | exact HB.out | apply below_alloc | apply pw_below_drewN | apply below_drew1) | exact HB.out)) hb); clear HO_4; clear HB; have HO_4 := n0_; have HO116 := n1_; have HB := n2_; clear n0_ n1_ n2_; (try clear hb); (try clear hb2); (try clear hk); (try clear hi); (try clear ho0); obtain ⟨Ao11, co11, eo11⟩ := Kd.R_slice HO116.out; subst eo11) | ((with_reducible refine gate_builtin (b := .append) (xs := #[.tmp 18, .tmp 23]) rfl ?_); (try (refine gate_guard (by rfl) ?_; dsimp only)); at_builtin; refine Kd.R_append_rows (Kd.int .i64) (w0 := w) w.heap.size rfl (.tmp 18) (.tmp 23) 51 3 (.int .i64 0) 8 rfl Try.underlying51 info3 rfl (by decide) (by omega) u4 x4_1 t114 _ _ _ (fun k_ => some k_ ≠ (.slice Ao11 t114.length co11 : Value).ownBlock) (fun _ => False) rfl rfl ?aO ?aR (fun _ _ h => h) (fun _ h => h.elim) ?aF ?aB ?aS ?aL ?_; (case aR => repeat (first | exact (Kd.R_reads' HO116.out).2.2 | (with_reducible refine Kd.C_alloc ?_ _) | (with_reducible refine Kd.C_drewN ?_ _) | (with_reducible refine Kd.C_drew ?_))); (case aB => exact (by repeat (first | (with_reducible first | exact HB.out | apply below_alloc | apply pw_below_drewN | apply below_drew1) | exact HB.out))); (case aF => exact (fun k_ hk => Kd.fresh' (Kd.R_lt (by (with_reducible repeat (first | apply Kd.R_alloc | apply Kd.R_drewN | apply Kd.R_drew)); exact HO116.out)) k_ hk)); (case aO => exact (by (with_reducible repeat (first | apply Kd.R_alloc | apply Kd.R_drewN | apply Kd.R_drew)); exact Kd.R_mono HO_4.out (fun _ hk => hk.2))); (case aS => exact (below_size (by repeat (first | (with_reducible first | exact HB.out | apply below_alloc | apply pw_below_drewN | apply below_drew1) | exact HB.out)))); (case aL => have := LMc8.out; omega); intro v118 w10 ho hb hg hat; rw [← Ny117.out] at ho; have n0_ := Aside0.mk (Kd.R_after (ok := (fun _ => True)) (by (with_reducible repeat (first | apply Kd.R_alloc | apply Kd.R_drewN | apply Kd.R_drew)); exact HO116.out) hg hat); have n1_ := Aside0.mk (hb); have n2_ := Aside0.mk (ho); clear HO116; clear HB; clear HO_4; have HO116 := n0_; have HB := n1_; have HO119 := n2_; clear n0_ n1_ n2_; clear ho hb hg hat))
            go_roundg k1
            case measure => have := HK1.out; omega
            case rel => exact ⟨(y117), (wrap64 (x5_1 + 1)), (by first | rfl | (simp; done) | (simp [*]; done)), H', ⟨by have := HK1.out; omega⟩, ⟨by (with_reducible repeat (first | apply Kd.R_alloc | apply Kd.R_drewN | apply Kd.R_drew)); exact Kd.R_mono HO119.out (fun _ hk => trivial)⟩, ⟨by repeat (first | (with_reducible first | exact HB.out | apply below_alloc | apply pw_below_drewN | apply below_drew1) | exact HB.out)⟩⟩
          · rw [if_neg c8] at H
            exact absurd H (by simp)
        · rw [if_neg c5] at H
          exact absurd H (by simp)
      · rw [if_neg c4] at H
        have c4b0 : decide (x5_1 < (a0.size : Int)) = false := decide_eq_false c4
        clear c4
        have HC12 := Aside0.mk H
        clear H
        go_upto_block 2 with (fail)
        go_cut [4, 6] (fun v4 v6 wc => ∃ (kq : Nat) (x4_11 : List Int) (x6_11 : ByteArray), v6 = .string x6_11 ∧ Aside0 (spec_l2Unpack.j2 kq x4_11 x6_11 = some (r1, r2)) ∧ Aside0 (kq ≤ k1) ∧ Aside0 (Kd.Q (Kd.int .i64) 3 wc w.heap.size (fun _ => True) v4 x4_11) ∧ Aside0 (Below w.heap.size w wc))
        case first =>
          have H := HC12.out
          clear HC12
          have H' := Aside0.mk H
          clear H
          go_wp2
          go_loopg [4, 6] k1 (fun kq v4 v6 w' => ∃ (x4_2 : List Int) (x6_2 : ByteArray), v6 = .string x6_2 ∧ Aside0 (spec_l2Unpack.l1 kq x4_2 x6_2 = some (r1, r2)) ∧ Aside0 (kq ≤ k1) ∧ Aside0 (Kd.Q (Kd.int .i64) 3 w' w.heap.size (fun _ => True) v4 x4_2) ∧ Aside0 (Below w.heap.size w w'))
          case atStart => exact ⟨(x4_1), ((⟨#[]⟩ : ByteArray)), (by first | rfl | (simp; done) | (simp [*]; done)), H', ⟨Nat.le_refl _⟩, ⟨Kd.Q_of_R (by (with_reducible repeat (first | apply Kd.R_alloc | apply Kd.R_drewN | apply Kd.R_drew)); exact HO_4.out)⟩, ⟨by repeat (first | (with_reducible first | exact HB.out | apply below_alloc | apply pw_below_drewN | apply below_drew1) | exact HB.out)⟩⟩
          case round =>
            clear H'
            try clear p2
            try clear c4
            try clear c4b0
            try clear c5
            try clear c5b0
            try clear p6
            try clear q6
            try clear hx6
            try clear c8
            try clear p2
            try clear p6
            try clear q6
            obtain ⟨x4_2, x6_2, rfl, HA, HK2, HO_4, HB⟩ := hrel
            cases gk with
            | zero => exact absurd HA.out (by simp [spec_l2Unpack.l1])
            | succ k2 =>
              have H := HA.out
              clear HA
              simp only [spec_l2Unpack.l1] at H
              by_cases c13 : (x4_2.length : Int) ≥ 5
              · rw [if_pos c13] at H
                have c13b0 : decide (5 ≤ (x4_2.length : Int)) = true := decide_eq_true c13
                have c13b1 : decide (5 ≤ x4_2.length) = true := decide_eq_true (by omega)
                clear c13
                (first | rw [c13b0] | (simp only [i64_w, i32_w]; rw [c13b0]) | skip)
                by_cases c14 : 5 ≤ (x4_2.length : Int)
                · rw [if_pos c14] at H
                  have c14b0 := eq_true c14
                  have c14b1 : decide (5 ≤ (x4_2.length : Int)) = true := decide_eq_true c14
                  clear c14
                  obtain ⟨y120, hy120⟩ : ∃ y_ : List Int, y_ = (x4_2.take 5) := ⟨_, rfl⟩
                  replace H : ((spec_l2Num.f k2 y120).bind fun t124 => (if t124 ≥ 24 then (if (x4_2.length : Int) < 7 then (spec_l2Unpack.j2 k2 x4_2 x6_2) else (if 7 ≤ (x4_2.length : Int) then ((spec_l2Num.f k2 (x4_2.take 7)).bind fun t129 => (if (wrap64 ((wrap64 (t129 - 96)) + 24)) ≥ 39 then (spec_l2Unpack.j2 k2 x4_2 x6_2) else (if 0 ≤ (wrap64 ((wrap64 (t129 - 96)) + 24)) then (if (wrap64 ((wrap64 (t129 - 96)) + 24)) < 39 then ((spec_l1Byte.f (wrap64 (bt (⟨#[101, 116, 97, 111, 105, 110, 115, 114, 104, 108, 48, 49, 50, 51, 52, 53, 54, 55, 56, 57, 100, 99, 117, 109, 102, 112, 103, 119, 121, 98, 118, 107, 120, 106, 113, 122, 58, 47, 45]⟩ : ByteArray) (wrap64 ((wrap64 (t129 - 96)) + 24))))).bind fun t130 => (if x6_2.size + t130.size ≤ 9223372036854775807 then (spec_l2Unpack.l1 k2 (x4_2.drop (7 : Int).toNat) (x6_2 ++ t130)) else (none))) else (none)) else (none)))) else (none))) else (if t124 ≥ 39 then (spec_l2Unpack.j2 k2 x4_2 x6_2) else (if 0 ≤ t124 then (if t124 < 39 then ((spec_l1Byte.f (wrap64 (bt (⟨#[101, 116, 97, 111, 105, 110, 115, 114, 104, 108, 48, 49, 50, 51, 52, 53, 54, 55, 56, 57, 100, 99, 117, 109, 102, 112, 103, 119, 121, 98, 118, 107, 120, 106, 113, 122, 58, 47, 45]⟩ : ByteArray) t124))).bind fun t134 => (if x6_2.size + t134.size ≤ 9223372036854775807 then (spec_l2Unpack.l1 k2 (x4_2.drop (5 : Int).toNat) (x6_2 ++ t134)) else (none))) else (none)) else (none))))) = some (r1, r2) := by first | (rw [hy120]; with_reducible exact H) | (have H2_ := (Option.bind_some _ _).symm.trans H; rw [hy120]; with_reducible exact H2_) | (have H2_ := (Option.bind_some _ _).symm.trans H; with_reducible exact H2_) | with_reducible exact H | (rw [hy120]; exact H) | exact H
                  have Ny120 := Aside0.mk hy120
                  clear hy120
                  replace H := Option.bind_eq_some_iff.mp H
                  obtain ⟨t124, A150, H⟩ := H
                  replace H : (if t124 ≥ 24 then (if (x4_2.length : Int) < 7 then (spec_l2Unpack.j2 k2 x4_2 x6_2) else (if 7 ≤ (x4_2.length : Int) then ((spec_l2Num.f k2 (x4_2.take 7)).bind fun t129 => (if (wrap64 ((wrap64 (t129 - 96)) + 24)) ≥ 39 then (spec_l2Unpack.j2 k2 x4_2 x6_2) else (if 0 ≤ (wrap64 ((wrap64 (t129 - 96)) + 24)) then (if (wrap64 ((wrap64 (t129 - 96)) + 24)) < 39 then ((spec_l1Byte.f (wrap64 (bt (⟨#[101, 116, 97, 111, 105, 110, 115, 114, 104, 108, 48, 49, 50, 51, 52, 53, 54, 55, 56, 57, 100, 99, 117, 109, 102, 112, 103, 119, 121, 98, 118, 107, 120, 106, 113, 122, 58, 47, 45]⟩ : ByteArray) (wrap64 ((wrap64 (t129 - 96)) + 24))))).bind fun t130 => (if x6_2.size + t130.size ≤ 9223372036854775807 then (spec_l2Unpack.l1 k2 (x4_2.drop (7 : Int).toNat) (x6_2 ++ t130)) else (none))) else (none)) else (none)))) else (none))) else (if t124 ≥ 39 then (spec_l2Unpack.j2 k2 x4_2 x6_2) else (if 0 ≤ t124 then (if t124 < 39 then ((spec_l1Byte.f (wrap64 (bt (⟨#[101, 116, 97, 111, 105, 110, 115, 114, 104, 108, 48, 49, 50, 51, 52, 53, 54, 55, 56, 57, 100, 99, 117, 109, 102, 112, 103, 119, 121, 98, 118, 107, 120, 106, 113, 122, 58, 47, 45]⟩ : ByteArray) t124))).bind fun t134 => (if x6_2.size + t134.size ≤ 9223372036854775807 then (spec_l2Unpack.l1 k2 (x4_2.drop (5 : Int).toNat) (x6_2 ++ t134)) else (none))) else (none)) else (none)))) = some (r1, r2) := H
                  have A15 := Aside0.mk A150
                  clear A150
                  by_cases c16 : t124 ≥ 24
                  · rw [if_pos c16] at H
                    have c16b0 : decide (24 ≤ t124) = true := decide_eq_true c16
                    clear c16
                    by_cases c17 : (x4_2.length : Int) < 7
                    · rw [if_pos c17] at H
                      have c17b0 : decide ((x4_2.length : Int) < 7) = true := decide_eq_true c17
                      have c17b1 : decide (x4_2.length < 7) = true := decide_eq_true (by omega)
                      clear c17
                      have H' := Aside0.mk H
                      clear H
                      obtain ⟨Ao18, co18, eo18, _⟩ := Kd.Q_slice HO_4.out
                      subst eo18
                      have q19 : (5 : Int) ≤ ((x4_2.length : Int) : Int) := of_decide_eq_true (by first | (with_reducible assumption) | assumption)
                      obtain ⟨i019, hi019, _, hsz19, _⟩ := info_parts info3
                      have hroom19 : x4_2.length ≤ co18 := (Kd.Q_reads' HO_4.out).2.1
                      have hC19 : Kd.C (Kd.int .i64) _ Ao18 x4_2.length x4_2 := (Kd.Q_reads' HO_4.out).2.2
                      have hcut19 := cut_to (P := Try.prog) 51 3 .i64 Try.underlying51 hi019 Ao18 x4_2.length co18 5 (by omega) q19 hroom19
                      have hr19 := Kd.C_take (m := 5) hC19 (by omega)
                      have hy19 : y120.length = (5 : Int).toNat := (by rw [Ny120.out, List.length_take]; omega)
                      rw [← Ny120.out] at hr19
                      rw [← hy19] at hcut19
                      have HR123 := Aside0.mk hr19
                      have HC123 := Aside0.mk (show y120.length ≤ co18 from by omega)
                      clear hr19 hC19 hroom19 hi019 hsz19
                      have KY19 := Aside0.mk hy19
                      clear hy19
                      have KL19 := Aside0.mk (show 5 ≤ x4_2.length from by omega)
                      replace q19 := eq_true q19
                      go_wp2_with (first | ((with_reducible refine gate_callee (f := 42) rfl ?_); refine goesL_ (some 30) rfl rfl Try.func42 (by kernel_rfl) rfl #[.slice Ao18 y120.length co18] rfl (by (try simp only [List.map_toArray, List.map_cons, List.map_nil]); first | done | rfl | (simp only [List.length_drop, List.length_take]; rfl)) ?_; (with_reducible refine (spec_l2Num.calls k2 _ _ y120 t124 _ ?side1 ?side2 A15.out).mono ?_); (case side1 => repeat (first | exact (by repeat (first | (with_reducible exact HR123.out) | (with_reducible refine Kd.C_alloc ?_ _) | (with_reducible refine Kd.C_drewN ?_ _) | (with_reducible refine Kd.C_drew ?_) | exact HR123.out)) | (with_reducible refine Kd.C_alloc ?_ _) | (with_reducible refine Kd.C_drewN ?_ _) | (with_reducible refine Kd.C_drew ?_))); (case side2 => exact HC123.out); rintro e w' ⟨rfl, ⟨nd, rfl⟩⟩; refine ⟨_, rfl, ?_⟩))
                      go_meet
                      case rel => exact ⟨_, (x4_2), (x6_2), (by first | rfl | (simp; done) | (simp [*]; done)), H', ⟨by have := HK1.out; have := HK2.out; first | omega | exact Nat.le_refl _⟩, ⟨by (with_reducible repeat (first | apply Kd.Q_alloc | apply Kd.Q_drewN | apply Kd.Q_drew)); exact HO_4.out⟩, ⟨by repeat (first | (with_reducible first | exact HB.out | apply below_alloc | apply pw_below_drewN | apply below_drew1) | exact HB.out)⟩⟩
                    · rw [if_neg c17] at H
                      have c17b0 : decide ((x4_2.length : Int) < 7) = false := decide_eq_false c17
                      have c17b1 : decide (x4_2.length < 7) = false := decide_eq_false (by omega)
                      clear c17
                      by_cases c20 : 7 ≤ (x4_2.length : Int)
                      · rw [if_pos c20] at H
                        have c20b0 := eq_true c20
                        have c20b1 : decide (7 ≤ (x4_2.length : Int)) = true := decide_eq_true c20
                        clear c20
                        obtain ⟨y125, hy125⟩ : ∃ y_ : List Int, y_ = (x4_2.take 7) := ⟨_, rfl⟩
                        replace H : ((spec_l2Num.f k2 y125).bind fun t129 => (if (wrap64 ((wrap64 (t129 - 96)) + 24)) ≥ 39 then (spec_l2Unpack.j2 k2 x4_2 x6_2) else (if 0 ≤ (wrap64 ((wrap64 (t129 - 96)) + 24)) then (if (wrap64 ((wrap64 (t129 - 96)) + 24)) < 39 then ((spec_l1Byte.f (wrap64 (bt (⟨#[101, 116, 97, 111, 105, 110, 115, 114, 104, 108, 48, 49, 50, 51, 52, 53, 54, 55, 56, 57, 100, 99, 117, 109, 102, 112, 103, 119, 121, 98, 118, 107, 120, 106, 113, 122, 58, 47, 45]⟩ : ByteArray) (wrap64 ((wrap64 (t129 - 96)) + 24))))).bind fun t130 => (if x6_2.size + t130.size ≤ 9223372036854775807 then (spec_l2Unpack.l1 k2 (x4_2.drop (7 : Int).toNat) (x6_2 ++ t130)) else (none))) else (none)) else (none)))) = some (r1, r2) := by first | (rw [hy125]; with_reducible exact H) | (have H2_ := (Option.bind_some _ _).symm.trans H; rw [hy125]; with_reducible exact H2_) | (have H2_ := (Option.bind_some _ _).symm.trans H; with_reducible exact H2_) | with_reducible exact H | (rw [hy125]; exact H) | exact H
                        have Ny125 := Aside0.mk hy125
                        clear hy125
                        replace H := Option.bind_eq_some_iff.mp H
                        obtain ⟨t129, A210, H⟩ := H
                        replace H : (if (wrap64 ((wrap64 (t129 - 96)) + 24)) ≥ 39 then (spec_l2Unpack.j2 k2 x4_2 x6_2) else (if 0 ≤ (wrap64 ((wrap64 (t129 - 96)) + 24)) then (if (wrap64 ((wrap64 (t129 - 96)) + 24)) < 39 then ((spec_l1Byte.f (wrap64 (bt (⟨#[101, 116, 97, 111, 105, 110, 115, 114, 104, 108, 48, 49, 50, 51, 52, 53, 54, 55, 56, 57, 100, 99, 117, 109, 102, 112, 103, 119, 121, 98, 118, 107, 120, 106, 113, 122, 58, 47, 45]⟩ : ByteArray) (wrap64 ((wrap64 (t129 - 96)) + 24))))).bind fun t130 => (if x6_2.size + t130.size ≤ 9223372036854775807 then (spec_l2Unpack.l1 k2 (x4_2.drop (7 : Int).toNat) (x6_2 ++ t130)) else (none))) else (none)) else (none))) = some (r1, r2) := H
                        have A21 := Aside0.mk A210
                        clear A210
                        by_cases c22 : (wrap64 ((wrap64 (t129 - 96)) + 24)) ≥ 39
                        · rw [if_pos c22] at H
                          have c22b0 : decide (39 ≤ (wrap64 ((wrap64 (t129 - 96)) + 24))) = true := decide_eq_true c22
                          clear c22
                          have H' := Aside0.mk H
                          clear H
                          obtain ⟨Ao23, co23, eo23, _⟩ := Kd.Q_slice HO_4.out
                          subst eo23
                          have q24 : (5 : Int) ≤ ((x4_2.length : Int) : Int) := of_decide_eq_true (by first | (with_reducible assumption) | assumption)
                          obtain ⟨i024, hi024, _, hsz24, _⟩ := info_parts info3
                          have hroom24 : x4_2.length ≤ co23 := (Kd.Q_reads' HO_4.out).2.1
                          have hC24 : Kd.C (Kd.int .i64) _ Ao23 x4_2.length x4_2 := (Kd.Q_reads' HO_4.out).2.2
                          have hcut24 := cut_to (P := Try.prog) 51 3 .i64 Try.underlying51 hi024 Ao23 x4_2.length co23 5 (by omega) q24 hroom24
                          have hr24 := Kd.C_take (m := 5) hC24 (by omega)
                          have hy24 : y120.length = (5 : Int).toNat := (by rw [Ny120.out, List.length_take]; omega)
                          rw [← Ny120.out] at hr24
                          rw [← hy24] at hcut24
                          have HR123 := Aside0.mk hr24
                          have HC123 := Aside0.mk (show y120.length ≤ co23 from by omega)
                          clear hr24 hC24 hroom24 hi024 hsz24
                          have KY24 := Aside0.mk hy24
                          clear hy24
                          have KL24 := Aside0.mk (show 5 ≤ x4_2.length from by omega)
                          replace q24 := eq_true q24
                          go_wp2_with (first | ((with_reducible refine gate_callee (f := 42) rfl ?_); refine goesL_ (some 30) rfl rfl Try.func42 (by kernel_rfl) rfl #[.slice Ao23 y120.length co23] rfl (by (try simp only [List.map_toArray, List.map_cons, List.map_nil]); first | done | rfl | (simp only [List.length_drop, List.length_take]; rfl)) ?_; (with_reducible refine (spec_l2Num.calls k2 _ _ y120 t124 _ ?side1 ?side2 A15.out).mono ?_); (case side1 => repeat (first | exact (by repeat (first | (with_reducible exact HR123.out) | (with_reducible refine Kd.C_alloc ?_ _) | (with_reducible refine Kd.C_drewN ?_ _) | (with_reducible refine Kd.C_drew ?_) | exact HR123.out)) | (with_reducible refine Kd.C_alloc ?_ _) | (with_reducible refine Kd.C_drewN ?_ _) | (with_reducible refine Kd.C_drew ?_))); (case side2 => exact HC123.out); rintro e w' ⟨rfl, ⟨nd, rfl⟩⟩; refine ⟨_, rfl, ?_⟩; have q25 : (7 : Int) ≤ ((x4_2.length : Int) : Int) := of_decide_eq_true (by first | (with_reducible assumption) | assumption); obtain ⟨i025, hi025, _, hsz25, _⟩ := info_parts info3; have hroom25 : x4_2.length ≤ co23 := (Kd.Q_reads' HO_4.out).2.1; have hC25 : Kd.C (Kd.int .i64) _ Ao23 x4_2.length x4_2 := (Kd.Q_reads' HO_4.out).2.2; have hcut25 := cut_to (P := Try.prog) 51 3 .i64 Try.underlying51 hi025 Ao23 x4_2.length co23 7 (by omega) q25 hroom25; have hr25 := Kd.C_take (m := 7) hC25 (by omega); have hy25 : y125.length = (7 : Int).toNat := (by rw [Ny125.out, List.length_take]; omega); rw [← Ny125.out] at hr25; rw [← hy25] at hcut25; have HR128 := Aside0.mk hr25; have HC128 := Aside0.mk (show y125.length ≤ co23 from by omega); clear hr25 hC25 hroom25 hi025 hsz25; have KY25 := Aside0.mk hy25; clear hy25; have KL25 := Aside0.mk (show 7 ≤ x4_2.length from by omega); replace q25 := eq_true q25) | ((with_reducible refine gate_callee (f := 42) rfl ?_); refine goesL_ (some 38) rfl rfl Try.func42 (by kernel_rfl) rfl #[.slice Ao23 y125.length co23] rfl (by (try simp only [List.map_toArray, List.map_cons, List.map_nil]); first | done | rfl | (simp only [List.length_drop, List.length_take]; rfl)) ?_; (with_reducible refine (spec_l2Num.calls k2 _ _ y125 t129 _ ?side1 ?side2 A21.out).mono ?_); (case side1 => repeat (first | exact (by repeat (first | (with_reducible exact HR128.out) | (with_reducible refine Kd.C_alloc ?_ _) | (with_reducible refine Kd.C_drewN ?_ _) | (with_reducible refine Kd.C_drew ?_) | exact HR128.out)) | (with_reducible refine Kd.C_alloc ?_ _) | (with_reducible refine Kd.C_drewN ?_ _) | (with_reducible refine Kd.C_drew ?_))); (case side2 => exact HC128.out); rintro e w' ⟨rfl, ⟨nd, rfl⟩⟩; refine ⟨_, rfl, ?_⟩))
                          go_meet
                          case rel => exact ⟨_, (x4_2), (x6_2), (by first | rfl | (simp; done) | (simp [*]; done)), H', ⟨by have := HK1.out; have := HK2.out; first | omega | exact Nat.le_refl _⟩, ⟨by (with_reducible repeat (first | apply Kd.Q_alloc | apply Kd.Q_drewN | apply Kd.Q_drew)); exact HO_4.out⟩, ⟨by repeat (first | (with_reducible first | exact HB.out | apply below_alloc | apply pw_below_drewN | apply below_drew1) | exact HB.out)⟩⟩
                        · rw [if_neg c22] at H
                          have c22b0 : decide (39 ≤ (wrap64 ((wrap64 (t129 - 96)) + 24))) = false := decide_eq_false c22
                          clear c22
                          obtain ⟨ji26, hji26⟩ : ∃ j_ : Int, (wrap64 ((wrap64 (t129 - 96)) + 24)) = j_ := ⟨_, rfl⟩
                          replace H : (if 0 ≤ (ji26) then (if (ji26) < 39 then ((spec_l1Byte.f (wrap64 (bt (⟨#[101, 116, 97, 111, 105, 110, 115, 114, 104, 108, 48, 49, 50, 51, 52, 53, 54, 55, 56, 57, 100, 99, 117, 109, 102, 112, 103, 119, 121, 98, 118, 107, 120, 106, 113, 122, 58, 47, 45]⟩ : ByteArray) (ji26)))).bind fun t130 => (if x6_2.size + t130.size ≤ 9223372036854775807 then (spec_l2Unpack.l1 k2 (x4_2.drop (7 : Int).toNat) (x6_2 ++ t130)) else (none))) else (none)) else (none)) = some (r1, r2) := by first | (rw [hji26] at H; exact H) | (simp only [hji26] at H ⊢; exact H)
                          (try rw [hji26] at c22b0)
                          (try rw [hji26] at A15)
                          (try rw [hji26] at A21)
                          have hji26w : (IntKind.i64.wrap ((wrap64 (t129 - 96)) + 24)) = ji26 := (i64_w _).trans hji26
                          by_cases c27 : 0 ≤ (ji26)
                          · rw [if_pos c27] at H
                            have c27b0 : decide (0 ≤ (ji26)) = true := decide_eq_true c27
                            clear c27
                            by_cases c28 : (ji26) < 39
                            · rw [if_pos c28] at H
                              have c28b0 : decide ((ji26) < 39) = true := decide_eq_true c28
                              clear c28
                              replace H := Option.bind_eq_some_iff.mp H
                              obtain ⟨t130, A300, H⟩ := H
                              replace H : (if x6_2.size + t130.size ≤ 9223372036854775807 then (spec_l2Unpack.l1 k2 (x4_2.drop (7 : Int).toNat) (x6_2 ++ t130)) else (none)) = some (r1, r2) := H
                              have A30 := Aside0.mk A300
                              clear A300
                              by_cases c31 : x6_2.size + t130.size ≤ 9223372036854775807
                              · rw [if_pos c31] at H
                                have c31b0 := eq_true c31
                                have c31b1 : decide (x6_2.size + t130.size ≤ 9223372036854775807) = true := decide_eq_true c31
                                try have c31b2 : (9223372036854775807 < x6_2.size + t130.size) = False := eq_false (Nat.not_lt.2 c31)
                                have c32b0 := eq_true (of_decide_eq_true (by first | (with_reducible assumption) | assumption) : 7 ≤ (x4_2.length : Int))
                                obtain ⟨y131, hy131⟩ : ∃ y_ : List Int, y_ = (x4_2.drop (7 : Int).toNat) := ⟨_, rfl⟩
                                replace H : (spec_l2Unpack.l1 k2 y131 (x6_2 ++ t130)) = some (r1, r2) := by first | (rw [hy131]; with_reducible exact H) | (have H2_ := (Option.bind_some _ _).symm.trans H; rw [hy131]; with_reducible exact H2_) | (have H2_ := (Option.bind_some _ _).symm.trans H; with_reducible exact H2_) | with_reducible exact H | (rw [hy131]; exact H) | exact H
                                have Ny131 := Aside0.mk hy131
                                clear hy131
                                have H' := Aside0.mk H
                                clear H
                                obtain ⟨Ao33, co33, eo33, _⟩ := Kd.Q_slice HO_4.out
                                subst eo33
                                have q34 : (5 : Int) ≤ ((x4_2.length : Int) : Int) := of_decide_eq_true (by first | (with_reducible assumption) | assumption)
                                obtain ⟨i034, hi034, _, hsz34, _⟩ := info_parts info3
                                have hroom34 : x4_2.length ≤ co33 := (Kd.Q_reads' HO_4.out).2.1
                                have hC34 : Kd.C (Kd.int .i64) _ Ao33 x4_2.length x4_2 := (Kd.Q_reads' HO_4.out).2.2
                                have hcut34 := cut_to (P := Try.prog) 51 3 .i64 Try.underlying51 hi034 Ao33 x4_2.length co33 5 (by omega) q34 hroom34
                                have hr34 := Kd.C_take (m := 5) hC34 (by omega)
                                have hy34 : y120.length = (5 : Int).toNat := (by rw [Ny120.out, List.length_take]; omega)
                                rw [← Ny120.out] at hr34
                                rw [← hy34] at hcut34
                                have HR123 := Aside0.mk hr34
                                have HC123 := Aside0.mk (show y120.length ≤ co33 from by omega)
                                clear hr34 hC34 hroom34 hi034 hsz34
                                have KY34 := Aside0.mk hy34
                                clear hy34
                                have KL34 := Aside0.mk (show 5 ≤ x4_2.length from by omega)
                                replace q34 := eq_true q34
                                go_wp2_with (first | ((with_reducible refine gate_callee (f := 42) rfl ?_); refine goesL_ (some 30) rfl rfl Try.func42 (by kernel_rfl) rfl #[.slice Ao33 y120.length co33] rfl (by (try simp only [List.map_toArray, List.map_cons, List.map_nil]); first | done | rfl | (simp only [List.length_drop, List.length_take]; rfl)) ?_; (with_reducible refine (spec_l2Num.calls k2 _ _ y120 t124 _ ?side1 ?side2 A15.out).mono ?_); (case side1 => repeat (first | exact (by repeat (first | (with_reducible exact HR123.out) | (with_reducible refine Kd.C_alloc ?_ _) | (with_reducible refine Kd.C_drewN ?_ _) | (with_reducible refine Kd.C_drew ?_) | exact HR123.out)) | (with_reducible refine Kd.C_alloc ?_ _) | (with_reducible refine Kd.C_drewN ?_ _) | (with_reducible refine Kd.C_drew ?_))); (case side2 => exact HC123.out); rintro e w' ⟨rfl, ⟨nd, rfl⟩⟩; refine ⟨_, rfl, ?_⟩; have q35 : (7 : Int) ≤ ((x4_2.length : Int) : Int) := of_decide_eq_true (by first | (with_reducible assumption) | assumption); obtain ⟨i035, hi035, _, hsz35, _⟩ := info_parts info3; have hroom35 : x4_2.length ≤ co33 := (Kd.Q_reads' HO_4.out).2.1; have hC35 : Kd.C (Kd.int .i64) _ Ao33 x4_2.length x4_2 := (Kd.Q_reads' HO_4.out).2.2; have hcut35 := cut_to (P := Try.prog) 51 3 .i64 Try.underlying51 hi035 Ao33 x4_2.length co33 7 (by omega) q35 hroom35; have hr35 := Kd.C_take (m := 7) hC35 (by omega); have hy35 : y125.length = (7 : Int).toNat := (by rw [Ny125.out, List.length_take]; omega); rw [← Ny125.out] at hr35; rw [← hy35] at hcut35; have HR128 := Aside0.mk hr35; have HC128 := Aside0.mk (show y125.length ≤ co33 from by omega); clear hr35 hC35 hroom35 hi035 hsz35; have KY35 := Aside0.mk hy35; clear hy35; have KL35 := Aside0.mk (show 7 ≤ x4_2.length from by omega); replace q35 := eq_true q35) | ((with_reducible refine gate_callee (f := 42) rfl ?_); refine goesL_ (some 38) rfl rfl Try.func42 (by kernel_rfl) rfl #[.slice Ao33 y125.length co33] rfl (by (try simp only [List.map_toArray, List.map_cons, List.map_nil]); first | done | rfl | (simp only [List.length_drop, List.length_take]; rfl)) ?_; (with_reducible refine (spec_l2Num.calls k2 _ _ y125 t129 _ ?side1 ?side2 A21.out).mono ?_); (case side1 => repeat (first | exact (by repeat (first | (with_reducible exact HR128.out) | (with_reducible refine Kd.C_alloc ?_ _) | (with_reducible refine Kd.C_drewN ?_ _) | (with_reducible refine Kd.C_drew ?_) | exact HR128.out)) | (with_reducible refine Kd.C_alloc ?_ _) | (with_reducible refine Kd.C_drewN ?_ _) | (with_reducible refine Kd.C_drew ?_))); (case side2 => exact HC128.out); rintro e w' ⟨rfl, ⟨nd, rfl⟩⟩; refine ⟨_, rfl, ?_⟩; have p29 : 0 ≤ ((ji26) : Int) := of_decide_eq_true (by first | (with_reducible assumption) | assumption); have q29 : (ji26) < (39 : Int) := of_decide_eq_true (by first | (with_reducible assumption) | assumption); have hx29 := bt_at (⟨#[101, 116, 97, 111, 105, 110, 115, 114, 104, 108, 48, 49, 50, 51, 52, 53, 54, 55, 56, 57, 100, 99, 117, 109, 102, 112, 103, 119, 121, 98, 118, 107, 120, 106, 113, 122, 58, 47, 45]⟩ : ByteArray) (ji26); replace p29 := eq_true p29; replace q29 := eq_true q29) | ((with_reducible refine gate_callee (f := 30) rfl ?_); refine goesL_ (some 47) rfl rfl Try.func30 (by kernel_rfl) rfl #[.int .i64 (wrap64 (bt (⟨#[101, 116, 97, 111, 105, 110, 115, 114, 104, 108, 48, 49, 50, 51, 52, 53, 54, 55, 56, 57, 100, 99, 117, 109, 102, 112, 103, 119, 121, 98, 118, 107, 120, 106, 113, 122, 58, 47, 45]⟩ : ByteArray) (ji26)))] rfl (by (try simp only [List.map_toArray, List.map_cons, List.map_nil]); first | done | (simp only [hji26]; rfl) | rfl | (simp only [List.length_drop, List.length_take]; rfl)) ?_; (with_reducible refine (spec_l1Byte.calls (wrap64 (bt (⟨#[101, 116, 97, 111, 105, 110, 115, 114, 104, 108, 48, 49, 50, 51, 52, 53, 54, 55, 56, 57, 100, 99, 117, 109, 102, 112, 103, 119, 121, 98, 118, 107, 120, 106, 113, 122, 58, 47, 45]⟩ : ByteArray) (ji26))) t130 _ A30.out).mono ?_); rintro e w36 ⟨rfl, hb⟩; refine ⟨_, rfl, ?_⟩; have n0_ := Aside0.mk (Kd.Q_below (by (with_reducible repeat (first | apply Kd.Q_alloc | apply Kd.Q_drewN | apply Kd.Q_drew)); exact HO_4.out) hb); have n1_ := Aside0.mk (Kd.C_below (by repeat (first | (with_reducible exact HR123.out) | (with_reducible refine Kd.C_alloc ?_ _) | (with_reducible refine Kd.C_drewN ?_ _) | (with_reducible refine Kd.C_drew ?_) | exact HR123.out)) hb); have n2_ := Aside0.mk (Kd.C_below (by repeat (first | (with_reducible exact HR128.out) | (with_reducible refine Kd.C_alloc ?_ _) | (with_reducible refine Kd.C_drewN ?_ _) | (with_reducible refine Kd.C_drew ?_) | exact HR128.out)) hb); have n3_ := Aside0.mk (below_step (by repeat (first | (with_reducible first | exact HB.out | apply below_alloc | apply pw_below_drewN | apply below_drew1) | exact HB.out)) hb); clear HO_4; clear HR123; clear HR128; clear HB; have HO_4 := n0_; have HR123 := n1_; have HR128 := n2_; have HB := n3_; clear n0_ n1_ n2_ n3_; (try clear hb); (try clear hb2); (try clear hk); (try clear hi); have q37 : (7 : Int) ≤ ((x4_2.length : Int) : Int) := of_decide_eq_true (by first | (with_reducible assumption) | assumption); obtain ⟨i037, hi037, _, hsz37, _⟩ := info_parts info3; have hcut37 := cut_from (P := Try.prog) 51 3 .i64 Try.underlying51 hi037 1 hsz37 Ao33 x4_2.length co33 7 (by omega) q37; have hr37 := Kd.Q_drop (k := (7 : Int).toNat) HO_4.out (by omega); obtain ⟨A37, hA37⟩ : ∃ A1, A1 = (if co33 = (7 : Int).toNat then Ao33 else (Ao33 : Option Addr).map (·.add ((7 : Int).toNat * 1))) := ⟨_, rfl⟩; obtain ⟨c37, hc37⟩ : ∃ c1, c1 = co33 - (7 : Int).toNat := ⟨_, rfl⟩; have hy37 : y131.length = x4_2.length - (7 : Int).toNat := (by rw [Ny131.out, List.length_drop]); rw [← Ny131.out] at hr37; rw [← hy37, ← hA37, ← hc37] at hcut37; replace hr37 : Kd.Q (Kd.int .i64) 3 w36 w.heap.size (fun _ => True) (.slice A37 y131.length c37) y131 := (by rw [hA37, hc37, hy37]; exact hr37); have HE37 : Aside0 ((Value.slice A37 y131.length c37).ownBlock = (.slice Ao33 x4_2.length co33 : Value).ownBlock) := ⟨by rw [hA37]; split <;> (cases (Ao33 : Option Addr) <;> rfl)⟩; clear hy37 hi037 hsz37 HO_4 hA37 hc37; have HO133 := Aside0.mk hr37; clear hr37; replace q37 := eq_true q37))
                                go_roundg k2
                                case measure => have := HK1.out; have := HK2.out; omega
                                case rel => exact ⟨(y131), (x6_2 ++ t130), (by first | rfl | (simp; done) | (simp [*]; done)), H', ⟨by have := HK1.out; have := HK2.out; omega⟩, ⟨by (with_reducible repeat (first | apply Kd.Q_alloc | apply Kd.Q_drewN | apply Kd.Q_drew)); exact HO133.out⟩, ⟨by repeat (first | (with_reducible first | exact HB.out | apply below_alloc | apply pw_below_drewN | apply below_drew1) | exact HB.out)⟩⟩
                              · rw [if_neg c31] at H
                                exact absurd H (by simp)
                            · rw [if_neg c28] at H
                              exact absurd H (by simp)
                          · rw [if_neg c27] at H
                            exact absurd H (by simp)
                      · rw [if_neg c20] at H
                        exact absurd H (by simp)
                  · rw [if_neg c16] at H
                    have c16b0 : decide (24 ≤ t124) = false := decide_eq_false c16
                    clear c16
                    by_cases c38 : t124 ≥ 39
                    · rw [if_pos c38] at H
                      have c38b0 : decide (39 ≤ t124) = true := decide_eq_true c38
                      clear c38
                      have H' := Aside0.mk H
                      clear H
                      obtain ⟨Ao39, co39, eo39, _⟩ := Kd.Q_slice HO_4.out
                      subst eo39
                      have q40 : (5 : Int) ≤ ((x4_2.length : Int) : Int) := of_decide_eq_true (by first | (with_reducible assumption) | assumption)
                      obtain ⟨i040, hi040, _, hsz40, _⟩ := info_parts info3
                      have hroom40 : x4_2.length ≤ co39 := (Kd.Q_reads' HO_4.out).2.1
                      have hC40 : Kd.C (Kd.int .i64) _ Ao39 x4_2.length x4_2 := (Kd.Q_reads' HO_4.out).2.2
                      have hcut40 := cut_to (P := Try.prog) 51 3 .i64 Try.underlying51 hi040 Ao39 x4_2.length co39 5 (by omega) q40 hroom40
                      have hr40 := Kd.C_take (m := 5) hC40 (by omega)
                      have hy40 : y120.length = (5 : Int).toNat := (by rw [Ny120.out, List.length_take]; omega)
                      rw [← Ny120.out] at hr40
                      rw [← hy40] at hcut40
                      have HR123 := Aside0.mk hr40
                      have HC123 := Aside0.mk (show y120.length ≤ co39 from by omega)
                      clear hr40 hC40 hroom40 hi040 hsz40
                      have KY40 := Aside0.mk hy40
                      clear hy40
                      have KL40 := Aside0.mk (show 5 ≤ x4_2.length from by omega)
                      replace q40 := eq_true q40
                      go_wp2_with (first | ((with_reducible refine gate_callee (f := 42) rfl ?_); refine goesL_ (some 30) rfl rfl Try.func42 (by kernel_rfl) rfl #[.slice Ao39 y120.length co39] rfl (by (try simp only [List.map_toArray, List.map_cons, List.map_nil]); first | done | rfl | (simp only [List.length_drop, List.length_take]; rfl)) ?_; (with_reducible refine (spec_l2Num.calls k2 _ _ y120 t124 _ ?side1 ?side2 A15.out).mono ?_); (case side1 => repeat (first | exact (by repeat (first | (with_reducible exact HR123.out) | (with_reducible refine Kd.C_alloc ?_ _) | (with_reducible refine Kd.C_drewN ?_ _) | (with_reducible refine Kd.C_drew ?_) | exact HR123.out)) | (with_reducible refine Kd.C_alloc ?_ _) | (with_reducible refine Kd.C_drewN ?_ _) | (with_reducible refine Kd.C_drew ?_))); (case side2 => exact HC123.out); rintro e w' ⟨rfl, ⟨nd, rfl⟩⟩; refine ⟨_, rfl, ?_⟩))
                      go_meet
                      case rel => exact ⟨_, (x4_2), (x6_2), (by first | rfl | (simp; done) | (simp [*]; done)), H', ⟨by have := HK1.out; have := HK2.out; first | omega | exact Nat.le_refl _⟩, ⟨by (with_reducible repeat (first | apply Kd.Q_alloc | apply Kd.Q_drewN | apply Kd.Q_drew)); exact HO_4.out⟩, ⟨by repeat (first | (with_reducible first | exact HB.out | apply below_alloc | apply pw_below_drewN | apply below_drew1) | exact HB.out)⟩⟩
                    · rw [if_neg c38] at H
                      have c38b0 : decide (39 ≤ t124) = false := decide_eq_false c38
                      clear c38
                      by_cases c41 : 0 ≤ t124
                      · rw [if_pos c41] at H
                        have c41b0 : decide (0 ≤ t124) = true := decide_eq_true c41
                        clear c41
                        by_cases c42 : t124 < 39
                        · rw [if_pos c42] at H
                          have c42b0 : decide (t124 < 39) = true := decide_eq_true c42
                          clear c42
                          replace H := Option.bind_eq_some_iff.mp H
                          obtain ⟨t134, A440, H⟩ := H
                          replace H : (if x6_2.size + t134.size ≤ 9223372036854775807 then (spec_l2Unpack.l1 k2 (x4_2.drop (5 : Int).toNat) (x6_2 ++ t134)) else (none)) = some (r1, r2) := H
                          have A44 := Aside0.mk A440
                          clear A440
                          by_cases c45 : x6_2.size + t134.size ≤ 9223372036854775807
                          · rw [if_pos c45] at H
                            have c45b0 := eq_true c45
                            have c45b1 : decide (x6_2.size + t134.size ≤ 9223372036854775807) = true := decide_eq_true c45
                            try have c45b2 : (9223372036854775807 < x6_2.size + t134.size) = False := eq_false (Nat.not_lt.2 c45)
                            have c46b0 := eq_true (of_decide_eq_true (by first | (with_reducible assumption) | assumption) : 5 ≤ (x4_2.length : Int))
                            obtain ⟨y135, hy135⟩ : ∃ y_ : List Int, y_ = (x4_2.drop (5 : Int).toNat) := ⟨_, rfl⟩
                            replace H : (spec_l2Unpack.l1 k2 y135 (x6_2 ++ t134)) = some (r1, r2) := by first | (rw [hy135]; with_reducible exact H) | (have H2_ := (Option.bind_some _ _).symm.trans H; rw [hy135]; with_reducible exact H2_) | (have H2_ := (Option.bind_some _ _).symm.trans H; with_reducible exact H2_) | with_reducible exact H | (rw [hy135]; exact H) | exact H
                            have Ny135 := Aside0.mk hy135
                            clear hy135
                            have H' := Aside0.mk H
                            clear H
                            obtain ⟨Ao47, co47, eo47, _⟩ := Kd.Q_slice HO_4.out
                            subst eo47
                            have q48 : (5 : Int) ≤ ((x4_2.length : Int) : Int) := of_decide_eq_true (by first | (with_reducible assumption) | assumption)
                            obtain ⟨i048, hi048, _, hsz48, _⟩ := info_parts info3
                            have hroom48 : x4_2.length ≤ co47 := (Kd.Q_reads' HO_4.out).2.1
                            have hC48 : Kd.C (Kd.int .i64) _ Ao47 x4_2.length x4_2 := (Kd.Q_reads' HO_4.out).2.2
                            have hcut48 := cut_to (P := Try.prog) 51 3 .i64 Try.underlying51 hi048 Ao47 x4_2.length co47 5 (by omega) q48 hroom48
                            have hr48 := Kd.C_take (m := 5) hC48 (by omega)
                            have hy48 : y120.length = (5 : Int).toNat := (by rw [Ny120.out, List.length_take]; omega)
                            rw [← Ny120.out] at hr48
                            rw [← hy48] at hcut48
                            have HR123 := Aside0.mk hr48
                            have HC123 := Aside0.mk (show y120.length ≤ co47 from by omega)
                            clear hr48 hC48 hroom48 hi048 hsz48
                            have KY48 := Aside0.mk hy48
                            clear hy48
                            have KL48 := Aside0.mk (show 5 ≤ x4_2.length from by omega)
                            replace q48 := eq_true q48
                            go_wp2_with (first | ((with_reducible refine gate_callee (f := 42) rfl ?_); refine goesL_ (some 30) rfl rfl Try.func42 (by kernel_rfl) rfl #[.slice Ao47 y120.length co47] rfl (by (try simp only [List.map_toArray, List.map_cons, List.map_nil]); first | done | rfl | (simp only [List.length_drop, List.length_take]; rfl)) ?_; (with_reducible refine (spec_l2Num.calls k2 _ _ y120 t124 _ ?side1 ?side2 A15.out).mono ?_); (case side1 => repeat (first | exact (by repeat (first | (with_reducible exact HR123.out) | (with_reducible refine Kd.C_alloc ?_ _) | (with_reducible refine Kd.C_drewN ?_ _) | (with_reducible refine Kd.C_drew ?_) | exact HR123.out)) | (with_reducible refine Kd.C_alloc ?_ _) | (with_reducible refine Kd.C_drewN ?_ _) | (with_reducible refine Kd.C_drew ?_))); (case side2 => exact HC123.out); rintro e w' ⟨rfl, ⟨nd, rfl⟩⟩; refine ⟨_, rfl, ?_⟩; have p43 : 0 ≤ (t124 : Int) := of_decide_eq_true (by first | (with_reducible assumption) | assumption); have q43 : t124 < (39 : Int) := of_decide_eq_true (by first | (with_reducible assumption) | assumption); have hx43 := bt_at (⟨#[101, 116, 97, 111, 105, 110, 115, 114, 104, 108, 48, 49, 50, 51, 52, 53, 54, 55, 56, 57, 100, 99, 117, 109, 102, 112, 103, 119, 121, 98, 118, 107, 120, 106, 113, 122, 58, 47, 45]⟩ : ByteArray) t124; replace p43 := eq_true p43; replace q43 := eq_true q43) | ((with_reducible refine gate_callee (f := 30) rfl ?_); refine goesL_ (some 47) rfl rfl Try.func30 (by kernel_rfl) rfl #[.int .i64 (wrap64 (bt (⟨#[101, 116, 97, 111, 105, 110, 115, 114, 104, 108, 48, 49, 50, 51, 52, 53, 54, 55, 56, 57, 100, 99, 117, 109, 102, 112, 103, 119, 121, 98, 118, 107, 120, 106, 113, 122, 58, 47, 45]⟩ : ByteArray) t124))] rfl (by (try simp only [List.map_toArray, List.map_cons, List.map_nil]); first | done | rfl | (simp only [List.length_drop, List.length_take]; rfl)) ?_; (with_reducible refine (spec_l1Byte.calls (wrap64 (bt (⟨#[101, 116, 97, 111, 105, 110, 115, 114, 104, 108, 48, 49, 50, 51, 52, 53, 54, 55, 56, 57, 100, 99, 117, 109, 102, 112, 103, 119, 121, 98, 118, 107, 120, 106, 113, 122, 58, 47, 45]⟩ : ByteArray) t124)) t134 _ A44.out).mono ?_); rintro e w49 ⟨rfl, hb⟩; refine ⟨_, rfl, ?_⟩; have n0_ := Aside0.mk (Kd.Q_below (by (with_reducible repeat (first | apply Kd.Q_alloc | apply Kd.Q_drewN | apply Kd.Q_drew)); exact HO_4.out) hb); have n1_ := Aside0.mk (Kd.C_below (by repeat (first | (with_reducible exact HR123.out) | (with_reducible refine Kd.C_alloc ?_ _) | (with_reducible refine Kd.C_drewN ?_ _) | (with_reducible refine Kd.C_drew ?_) | exact HR123.out)) hb); have n2_ := Aside0.mk (below_step (by repeat (first | (with_reducible first | exact HB.out | apply below_alloc | apply pw_below_drewN | apply below_drew1) | exact HB.out)) hb); clear HO_4; clear HR123; clear HB; have HO_4 := n0_; have HR123 := n1_; have HB := n2_; clear n0_ n1_ n2_; (try clear hb); (try clear hb2); (try clear hk); (try clear hi); have q50 : (5 : Int) ≤ ((x4_2.length : Int) : Int) := of_decide_eq_true (by first | (with_reducible assumption) | assumption); obtain ⟨i050, hi050, _, hsz50, _⟩ := info_parts info3; have hcut50 := cut_from (P := Try.prog) 51 3 .i64 Try.underlying51 hi050 1 hsz50 Ao47 x4_2.length co47 5 (by omega) q50; have hr50 := Kd.Q_drop (k := (5 : Int).toNat) HO_4.out (by omega); obtain ⟨A50, hA50⟩ : ∃ A1, A1 = (if co47 = (5 : Int).toNat then Ao47 else (Ao47 : Option Addr).map (·.add ((5 : Int).toNat * 1))) := ⟨_, rfl⟩; obtain ⟨c50, hc50⟩ : ∃ c1, c1 = co47 - (5 : Int).toNat := ⟨_, rfl⟩; have hy50 : y135.length = x4_2.length - (5 : Int).toNat := (by rw [Ny135.out, List.length_drop]); rw [← Ny135.out] at hr50; rw [← hy50, ← hA50, ← hc50] at hcut50; replace hr50 : Kd.Q (Kd.int .i64) 3 w49 w.heap.size (fun _ => True) (.slice A50 y135.length c50) y135 := (by rw [hA50, hc50, hy50]; exact hr50); have HE50 : Aside0 ((Value.slice A50 y135.length c50).ownBlock = (.slice Ao47 x4_2.length co47 : Value).ownBlock) := ⟨by rw [hA50]; split <;> (cases (Ao47 : Option Addr) <;> rfl)⟩; clear hy50 hi050 hsz50 HO_4 hA50 hc50; have HO137 := Aside0.mk hr50; clear hr50; replace q50 := eq_true q50))
                            go_roundg k2
                            case measure => have := HK1.out; have := HK2.out; omega
                            case rel => exact ⟨(y135), (x6_2 ++ t134), (by first | rfl | (simp; done) | (simp [*]; done)), H', ⟨by have := HK1.out; have := HK2.out; omega⟩, ⟨by (with_reducible repeat (first | apply Kd.Q_alloc | apply Kd.Q_drewN | apply Kd.Q_drew)); exact HO137.out⟩, ⟨by repeat (first | (with_reducible first | exact HB.out | apply below_alloc | apply pw_below_drewN | apply below_drew1) | exact HB.out)⟩⟩
                          · rw [if_neg c45] at H
                            exact absurd H (by simp)
                        · rw [if_neg c42] at H
                          exact absurd H (by simp)
                      · rw [if_neg c41] at H
                        exact absurd H (by simp)
                · rw [if_neg c14] at H
                  exact absurd H (by simp)
              · rw [if_neg c13] at H
                have c13b0 : decide (5 ≤ (x4_2.length : Int)) = false := decide_eq_false c13
                have c13b1 : decide (5 ≤ x4_2.length) = false := decide_eq_false (by omega)
                clear c13
                (first | rw [c13b0] | (simp only [i64_w, i32_w]; rw [c13b0]) | skip)
                have H' := Aside0.mk H
                clear H
                obtain ⟨Ao51, co51, eo51, _⟩ := Kd.Q_slice HO_4.out
                subst eo51
                go_wp2
                go_meet
                case rel => exact ⟨_, (x4_2), (x6_2), (by first | rfl | (simp; done) | (simp [*]; done)), H', ⟨by have := HK1.out; have := HK2.out; first | omega | exact Nat.le_refl _⟩, ⟨by (with_reducible repeat (first | apply Kd.Q_alloc | apply Kd.Q_drewN | apply Kd.Q_drew)); exact HO_4.out⟩, ⟨by repeat (first | (with_reducible first | exact HB.out | apply below_alloc | apply pw_below_drewN | apply below_drew1) | exact HB.out)⟩⟩
        case rest =>
          clear HC12
          try clear c1
          try clear q1
          try clear c2
          try clear p2
          try clear q2
          try clear hx2
          try clear c3
          try clear q3
          try clear c4
          try clear c4b0
          try clear p4
          try clear q4
          try clear hx4
          try clear c5
          try clear c5b0
          try clear q5
          try clear p6
          try clear q6
          try clear hx6
          try clear c8
          try clear c13
          try clear c13b0
          try clear c13b1
          try clear c14
          try clear c14b0
          try clear c14b1
          try clear c16
          try clear c16b0
          try clear c17
          try clear c17b0
          try clear c17b1
          try clear q19
          try clear c20
          try clear c20b0
          try clear c20b1
          try clear c22
          try clear c22b0
          try clear q24
          try clear q25
          try clear c27
          try clear c27b0
          try clear c28
          try clear c28b0
          try clear p29
          try clear q29
          try clear hx29
          try clear c30
          try clear c31
          try clear c31b0
          try clear c31b1
          try clear c31b2
          try clear c32
          try clear c32b0
          try clear q34
          try clear q35
          try clear c37
          try clear q37
          try clear c38
          try clear c38b0
          try clear c40
          try clear q40
          try clear c41
          try clear c41b0
          try clear c42
          try clear c42b0
          try clear p43
          try clear q43
          try clear hx43
          try clear c45
          try clear c45b0
          try clear c45b1
          try clear c45b2
          try clear c46
          try clear c46b0
          try clear q48
          try clear c50
          try clear q50
          try clear p2
          try clear p29
          try clear p43
          try clear p6
          try clear q19
          try clear q24
          try clear q25
          try clear q29
          try clear q34
          try clear q35
          try clear q37
          try clear q40
          try clear q43
          try clear q48
          try clear q50
          try clear q6
          obtain ⟨kq, x4_11, x6_11, rfl, HA, HJ11, HO_4, HB⟩ := hcut
          cases kq with
          | zero => exact absurd HA.out (by simp [spec_l2Unpack.j2])
          | succ kj11 =>
            have H := HA.out
            clear HA
            simp only [spec_l2Unpack.j2] at H
            have H' := Aside0.mk H
            clear H
            go_wp2
            go_loopg [9, 10] kj11 (fun kq v9 v10 w' => ∃ (x9_3 : Bool) (x10_3 : Int), v9 = .bool x9_3 ∧ v10 = .int .i64 x10_3 ∧ Aside0 (spec_l2Unpack.l2 kq x4_11 x6_11 x9_3 x10_3 = some (r1, r2)) ∧ Aside0 (kq ≤ kj11) ∧ Aside0 (Kd.Q (Kd.int .i64) 3 w' w.heap.size (fun _ => True) u4 x4_11) ∧ Aside0 (Below w.heap.size w w'))
            case atStart => exact ⟨(true), (0), (by first | rfl | (simp; done) | (simp [*]; done)), (by first | rfl | (simp; done) | (simp [*]; done)), H', ⟨Nat.le_refl _⟩, ⟨by (with_reducible repeat (first | apply Kd.Q_alloc | apply Kd.Q_drewN | apply Kd.Q_drew)); exact HO_4.out⟩, ⟨by repeat (first | (with_reducible first | exact HB.out | apply below_alloc | apply pw_below_drewN | apply below_drew1) | exact HB.out)⟩⟩
            case round =>
              clear H'
              try clear c1
              try clear q1
              try clear c2
              try clear p2
              try clear q2
              try clear hx2
              try clear c3
              try clear q3
              try clear c4
              try clear c4b0
              try clear p4
              try clear q4
              try clear hx4
              try clear c5
              try clear c5b0
              try clear q5
              try clear p6
              try clear q6
              try clear hx6
              try clear c8
              try clear c13
              try clear c13b0
              try clear c13b1
              try clear c14
              try clear c14b0
              try clear c14b1
              try clear c16
              try clear c16b0
              try clear c17
              try clear c17b0
              try clear c17b1
              try clear q19
              try clear c20
              try clear c20b0
              try clear c20b1
              try clear c22
              try clear c22b0
              try clear q24
              try clear q25
              try clear c27
              try clear c27b0
              try clear c28
              try clear c28b0
              try clear p29
              try clear q29
              try clear hx29
              try clear c30
              try clear c31
              try clear c31b0
              try clear c31b1
              try clear c31b2
              try clear c32
              try clear c32b0
              try clear q34
              try clear q35
              try clear c37
              try clear q37
              try clear c38
              try clear c38b0
              try clear c40
              try clear q40
              try clear c41
              try clear c41b0
              try clear c42
              try clear c42b0
              try clear p43
              try clear q43
              try clear hx43
              try clear c45
              try clear c45b0
              try clear c45b1
              try clear c45b2
              try clear c46
              try clear c46b0
              try clear q48
              try clear c50
              try clear q50
              try clear p2
              try clear p29
              try clear p4
              try clear p43
              try clear p6
              try clear q1
              try clear q19
              try clear q2
              try clear q24
              try clear q25
              try clear q29
              try clear q3
              try clear q34
              try clear q35
              try clear q37
              try clear q4
              try clear q40
              try clear q43
              try clear q48
              try clear q5
              try clear q50
              try clear q6
              obtain ⟨x9_3, x10_3, rfl, rfl, HA, HK3, HO_4, HB⟩ := hrel
              cases gk with
              | zero => exact absurd HA.out (by simp [spec_l2Unpack.l2])
              | succ k3 =>
                have H := HA.out
                clear HA
                simp only [spec_l2Unpack.l2] at H
                by_cases c52 : x10_3 < (x4_11.length : Int)
                · rw [if_pos c52] at H
                  have c52b0 : decide (x10_3 < (x4_11.length : Int)) = true := decide_eq_true c52
                  clear c52
                  by_cases c53 : x9_3 = true
                  · subst c53
                    have H1 : (if 0 ≤ x10_3 then (spec_l2Unpack.l2 k3 x4_11 x6_11 ((rd x4_11 x10_3) == 1) (wrap64 (x10_3 + 1))) else (none)) = some (r1, r2) := by rw [if_pos rfl] at H; exact H
                    clear H
                    have H := H1
                    clear H1
                    by_cases c54 : 0 ≤ x10_3
                    · rw [if_pos c54] at H
                      have c54b0 : decide (0 ≤ x10_3) = true := decide_eq_true c54
                      clear c54
                      have H' := Aside0.mk H
                      clear H
                      obtain ⟨Ao55, co55, eo55, _⟩ := Kd.Q_slice HO_4.out
                      subst eo55
                      have p138 : 0 ≤ (x10_3 : Int) := of_decide_eq_true (by first | (with_reducible assumption) | assumption)
                      have q138 : x10_3 < (x4_11.length : Int) := of_decide_eq_true (by first | (with_reducible assumption) | assumption)
                      obtain ⟨ad138, e138, hx138_0⟩ := Kd.at_int (Kd.Q_reads' HO_4.out).2.2 x10_3 p138 q138
                      cases e138
                      replace p138 := eq_true p138
                      replace q138 := eq_true q138
                      go_wp2
                      go_roundg k3
                      case measure => have := HK1.out; have := HJ11.out; have := HK3.out; omega
                      case rel => exact ⟨(((rd x4_11 x10_3) == 1)), (wrap64 (x10_3 + 1)), (by first | rfl | (simp; done) | (simp [*]; done)), (by first | rfl | (simp; done) | (simp [*]; done)), H', ⟨by have := HK1.out; have := HJ11.out; have := HK3.out; omega⟩, ⟨by (with_reducible repeat (first | apply Kd.Q_alloc | apply Kd.Q_drewN | apply Kd.Q_drew)); exact HO_4.out⟩, ⟨by repeat (first | (with_reducible first | exact HB.out | apply below_alloc | apply pw_below_drewN | apply below_drew1) | exact HB.out)⟩⟩
                    · rw [if_neg c54] at H
                      exact absurd H (by simp)
                  · replace c53 := Bool.eq_false_iff.mpr c53
                    subst c53
                    have H1 : (spec_l2Unpack.l2 k3 x4_11 x6_11 false (wrap64 (x10_3 + 1))) = some (r1, r2) := by rw [if_neg (show ¬ (false = true) by decide)] at H; exact H
                    clear H
                    have H := H1
                    clear H1
                    have H' := Aside0.mk H
                    clear H
                    obtain ⟨Ao56, co56, eo56, _⟩ := Kd.Q_slice HO_4.out
                    subst eo56
                    go_wp2
                    go_roundg k3
                    case measure => have := HK1.out; have := HJ11.out; have := HK3.out; omega
                    case rel => exact ⟨(false), (wrap64 (x10_3 + 1)), (by first | rfl | (simp; done) | (simp [*]; done)), (by first | rfl | (simp; done) | (simp [*]; done)), H', ⟨by have := HK1.out; have := HJ11.out; have := HK3.out; omega⟩, ⟨by (with_reducible repeat (first | apply Kd.Q_alloc | apply Kd.Q_drewN | apply Kd.Q_drew)); exact HO_4.out⟩, ⟨by repeat (first | (with_reducible first | exact HB.out | apply below_alloc | apply pw_below_drewN | apply below_drew1) | exact HB.out)⟩⟩
                · rw [if_neg c52] at H
                  have c52b0 : decide (x10_3 < (x4_11.length : Int)) = false := decide_eq_false c52
                  clear c52
                  by_cases c57 : x9_3 = true
                  · subst c57
                    have H1 : (if (x4_11.length : Int) < 8 then (some (x6_11, decide ((x6_11.size : Int) ≤ 16))) else (some (x6_11, false))) = some (r1, r2) := by rw [if_pos rfl] at H; exact H
                    clear H
                    have H := H1
                    clear H1
                    by_cases c58 : (x4_11.length : Int) < 8
                    · rw [if_pos c58] at H
                      have c58b0 : decide ((x4_11.length : Int) < 8) = true := decide_eq_true c58
                      have c58b1 : decide (x4_11.length < 8) = true := decide_eq_true (by omega)
                      clear c58
                      simp only [Option.some.injEq, Prod.mk.injEq] at H
                      obtain ⟨rfl, rfl⟩ := H
                      obtain ⟨Ao59, co59, eo59, _⟩ := Kd.Q_slice HO_4.out
                      subst eo59
                      go_wp2
                      go_ret2
                      exact ⟨by first | rfl | (simp [errW_none, errW_some] <;> rfl) | (simp [*, errW_none, errW_some] <;> rfl), by repeat (first | (with_reducible first | exact HB.out | apply below_alloc | apply pw_below_drewN | apply below_drew1) | exact HB.out)⟩
                    · rw [if_neg c58] at H
                      have c58b0 : decide ((x4_11.length : Int) < 8) = false := decide_eq_false c58
                      have c58b1 : decide (x4_11.length < 8) = false := decide_eq_false (by omega)
                      clear c58
                      simp only [Option.some.injEq, Prod.mk.injEq] at H
                      obtain ⟨rfl, rfl⟩ := H
                      obtain ⟨Ao60, co60, eo60, _⟩ := Kd.Q_slice HO_4.out
                      subst eo60
                      go_wp2
                      go_ret2
                      exact ⟨by first | rfl | (simp [errW_none, errW_some] <;> rfl) | (simp [*, errW_none, errW_some] <;> rfl), by repeat (first | (with_reducible first | exact HB.out | apply below_alloc | apply pw_below_drewN | apply below_drew1) | exact HB.out)⟩
                  · replace c57 := Bool.eq_false_iff.mpr c57
                    subst c57
                    have H1 : (some (x6_11, false)) = some (r1, r2) := by rw [if_neg (show ¬ (false = true) by decide)] at H; exact H
                    clear H
                    have H := H1
                    clear H1
                    simp only [Option.some.injEq, Prod.mk.injEq] at H
                    obtain ⟨rfl, rfl⟩ := H
                    obtain ⟨Ao61, co61, eo61, _⟩ := Kd.Q_slice HO_4.out
                    subst eo61
                    go_wp2
                    go_ret2
                    exact ⟨by first | rfl | (simp [errW_none, errW_some] <;> rfl) | (simp [*, errW_none, errW_some] <;> rfl), by repeat (first | (with_reducible first | exact HB.out | apply below_alloc | apply pw_below_drewN | apply below_drew1) | exact HB.out)⟩

end Go.Proofs.Ytajjleldnobhmaa.PFnWordRead
