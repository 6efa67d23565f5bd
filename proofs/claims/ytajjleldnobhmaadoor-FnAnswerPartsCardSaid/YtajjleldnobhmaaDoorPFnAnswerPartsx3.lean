-- WRITTEN BY a turned print (wip/tools of the prover's repo)
import Derived.Test.YtajjleldnobhmaaDoorPFnAnswerPartsx0
import Derived.Test.YtajjleldnobhmaaDoorPFnAnswerPartsx1
import Derived.Test.YtajjleldnobhmaaDoorPFnAnswerPartsx2
namespace Go.Proofs.YtajjleldnobhmaaDoor.PFnAnswerParts
open Go.RowKit Go.Proofs.YtajjleldnobhmaaDoorW.PrintWords Go.Proofs.YtajjleldnobhmaaDoorW.PrintLast Go.Proofs.YtajjleldnobhmaaDoorW.PrintMore Go.Proofs.YtajjleldnobhmaaDoor.Lm
attribute [local go_sem] max2_int min2_int max_two min_two max_three min_three max_four min_four   -- for this text's walks alone
set_option linter.unusedVariables false
set_option linter.unusedSimpArgs false

/-! ### laws_FnAnswerParts: function 4 -/
mutual
def laws_FnAnswerParts.j0 : Nat → List Int → List Int → Bool → Option (Bool)
  | 0, _, _, _ => none
  | k + 1, x0, x1, x23 => if x23 = true then (some true) else ((spec_DrawEndAnswer.f k x0).bind fun bt148 => ((spec_EndAnswer.f k bt148.1 bt148.2).bind fun bt150 => ((impl_EndAnswer.f bt148.1 bt148.2).bind fun bt152 => (if bt152.1.toList = bt150.1.toList then (if bt152.2.toList = bt150.2.toList then (if bt148.1.toList = ([47, 117, 112] : List UInt8) then (laws_FnAnswerParts.j1 k x1 bt148.1 bt148.2 bt150.1 bt150.2 bt152.1 bt152.2 false) else (laws_FnAnswerParts.j1 k x1 bt148.1 bt148.2 bt150.1 bt150.2 bt152.1 bt152.2 (bt148.1.toList != ([47, 101, 99, 104, 111] : List UInt8)))) else (laws_FnAnswerParts.j1 k x1 bt148.1 bt148.2 bt150.1 bt150.2 bt152.1 bt152.2 true)) else (laws_FnAnswerParts.j1 k x1 bt148.1 bt148.2 bt150.1 bt150.2 bt152.1 bt152.2 true)))))
def laws_FnAnswerParts.j1 : Nat → List Int → ByteArray → ByteArray → ByteArray → ByteArray → ByteArray → ByteArray → Bool → Option (Bool)
  | 0, _, _, _, _, _, _, _, _ => none
  | k + 1, x1, x5, x6, x7, x8, x9, x10, x56 => if x56 = true then (if x9.toList = x7.toList then (some (x10.toList == x8.toList)) else (some false)) else (if (wrap64 ((x6.size : Int) + 1)) = 0 then (none) else (if 0 ≤ ((x1.length : Int) % (wrap64 ((x6.size : Int) + 1))) then (if ((x1.length : Int) % (wrap64 ((x6.size : Int) + 1))) ≤ (x6.size : Int) then ((impl_EndAnswer.f x5 (x6.extract 0 (((x1.length : Int) % (wrap64 ((x6.size : Int) + 1))) : Int).toNat)).bind fun bt154 => ((impl_EndAnswer.f x5 (x6.extract (((x1.length : Int) % (wrap64 ((x6.size : Int) + 1))) : Int).toNat x6.size)).bind fun bt156 => (if bt154.2.size + bt156.2.size ≤ 9223372036854775807 then (some ((bt154.2 ++ bt156.2).toList == x10.toList)) else (none)))) else (none)) else (none)))
end
def laws_FnAnswerParts.f (k : Nat) (l0 : List Int) (l1 : List Int) : Option (Bool) := if (l0.length : Int) > 1048576 then (laws_FnAnswerParts.j0 k l0 l1 true) else (laws_FnAnswerParts.j0 k l0 l1 (decide ((l1.length : Int) > 1048576)))
theorem laws_FnAnswerParts.mono_l : ∀ k, (∀ y0 y1 y2, LeO (laws_FnAnswerParts.j0 k y0 y1 y2) (laws_FnAnswerParts.j0 (k + 1) y0 y1 y2)) ∧ (∀ y0 y1 y2 y3 y4 y5 y6 y7, LeO (laws_FnAnswerParts.j1 k y0 y1 y2 y3 y4 y5 y6 y7) (laws_FnAnswerParts.j1 (k + 1) y0 y1 y2 y3 y4 y5 y6 y7))
  | 0 => ⟨fun _ _ _ r h => by simp [laws_FnAnswerParts.j0] at h, fun _ _ _ _ _ _ _ _ r h => by simp [laws_FnAnswerParts.j1] at h⟩
  | k + 1 => by
    obtain ⟨ih0, ih1⟩ := laws_FnAnswerParts.mono_l k
    refine ⟨?_, ?_⟩
    · intro y0 y1 y2
      unfold laws_FnAnswerParts.j0
      repeat' first
      | (with_reducible exact ih0 _ _ _)
      | (with_reducible exact ih1 _ _ _ _ _ _ _ _)
      | (with_reducible exact spec_DrawEndAnswer.mono _ _)
      | (with_reducible exact spec_EndAnswer.mono _ _ _)
      | (with_reducible exact LeO.refl _)
      | (with_reducible exact LeO.none _)
      | (with_reducible refine LeO.ite ?_ ?_)
      | (with_reducible refine LeO.bind ?_ (fun _ => ?_))
      | exact ih0 _ _ _
      | exact ih1 _ _ _ _ _ _ _ _
      | exact spec_DrawEndAnswer.mono _ _
      | exact spec_EndAnswer.mono _ _ _
      | exact LeO.none _
      | refine LeO.ite ?_ ?_
      | refine LeO.bind ?_ (fun _ => ?_)
    · intro y0 y1 y2 y3 y4 y5 y6 y7
      unfold laws_FnAnswerParts.j1
      repeat' first
      | (with_reducible exact ih0 _ _ _)
      | (with_reducible exact ih1 _ _ _ _ _ _ _ _)
      | (with_reducible exact spec_DrawEndAnswer.mono _ _)
      | (with_reducible exact spec_EndAnswer.mono _ _ _)
      | (with_reducible exact LeO.refl _)
      | (with_reducible exact LeO.none _)
      | (with_reducible refine LeO.ite ?_ ?_)
      | (with_reducible refine LeO.bind ?_ (fun _ => ?_))
      | exact ih0 _ _ _
      | exact ih1 _ _ _ _ _ _ _ _
      | exact spec_DrawEndAnswer.mono _ _
      | exact spec_EndAnswer.mono _ _ _
      | exact LeO.none _
      | refine LeO.ite ?_ ?_
      | refine LeO.bind ?_ (fun _ => ?_)
theorem laws_FnAnswerParts.mono : ∀ a0 a1 k, LeO (laws_FnAnswerParts.f k a0 a1) (laws_FnAnswerParts.f (k + 1) a0 a1) := by
  intro a0 a1 k
  obtain ⟨ih0, ih1⟩ := laws_FnAnswerParts.mono_l k
  unfold laws_FnAnswerParts.f
  repeat' first
      | (with_reducible exact ih0 _ _ _)
      | (with_reducible exact ih1 _ _ _ _ _ _ _ _)
      | (with_reducible exact spec_DrawEndAnswer.mono _ _)
      | (with_reducible exact spec_EndAnswer.mono _ _ _)
      | (with_reducible exact LeO.refl _)
      | (with_reducible exact LeO.none _)
      | (with_reducible refine LeO.ite ?_ ?_)
      | (with_reducible refine LeO.bind ?_ (fun _ => ?_))
      | exact ih0 _ _ _
      | exact ih1 _ _ _ _ _ _ _ _
      | exact spec_DrawEndAnswer.mono _ _
      | exact spec_EndAnswer.mono _ _ _
      | exact LeO.none _
      | refine LeO.ite ?_ ?_
      | refine LeO.bind ?_ (fun _ => ?_)
set_option maxHeartbeats 8000000 in
set_option maxRecDepth 100000 in
theorem laws_FnAnswerParts.calls (k : Nat) (A0 : Option Addr) (c0 : Nat) (l0 : List Int) (A1 : Option Addr) (c1 : Nat) (l1 : List Int) (r : Bool) (w : World) (hr0 : Kd.C (Kd.int .u8) w A0 l0.length l0) (hc0 : l0.length ≤ c0) (hr1 : Kd.C (Kd.int .u8) w A1 l1.length l1) (hc1 : l1.length ≤ c1) (h : laws_FnAnswerParts.f k l0 l1 = some r) :
    Calls Tryd.prog 4 #[.slice A0 l0.length c0, .slice A1 l1.length c1] w fun e w' => e = .returned (.bool r) ∧ Below w.heap.size w w' := by
  have HR0 := Aside0.mk hr0
  have HC0 := Aside0.mk hc0
  clear hr0 hc0
  have HR1 := Aside0.mk hr1
  have HC1 := Aside0.mk hc1
  clear hr1 hc1
  have HB := Aside0.mk (Below.refl w.heap.size w)
  have H : (if (l0.length : Int) > 1048576 then (laws_FnAnswerParts.j0 k l0 l1 true) else (laws_FnAnswerParts.j0 k l0 l1 (decide ((l1.length : Int) > 1048576)))) = some r := h
  clear h
  have HC3 := Aside0.mk H
  clear H
  go_enter Tryd.func4, Tryd.ntmps4
  go_upto_region 1 with (fail)
  go_cut [23] (fun v23 wc => ∃ (kq : Nat) (x23_2 : Bool), v23 = .bool x23_2 ∧ Aside0 (laws_FnAnswerParts.j0 kq l0 l1 x23_2 = some r) ∧ Aside0 (kq ≤ k) ∧ Aside0 (Below w.heap.size w wc))
  case first =>
    have H := HC3.out
    clear HC3
    by_cases c4 : (l0.length : Int) > 1048576
    · rw [if_pos c4] at H
      have c4b0 : decide (1048576 < (l0.length : Int)) = true := decide_eq_true c4
      have c4b1 : decide (1048576 < l0.length) = true := decide_eq_true (by omega)
      clear c4
      (first | rw [c4b0] | (simp only [i64_w, i32_w]; rw [c4b0]) | skip)
      have H' := Aside0.mk H
      clear H
      go_wp2
      go_meet
      case rel => exact ⟨_, (true), (by first | rfl | (simp; done) | (simp [*]; done)), H', ⟨by first | omega | exact Nat.le_refl _⟩, ⟨by repeat (first | (with_reducible first | exact HB.out | apply below_alloc | apply pw_below_drewN | apply below_drew1) | exact HB.out)⟩⟩
    · rw [if_neg c4] at H
      have c4b0 : decide (1048576 < (l0.length : Int)) = false := decide_eq_false c4
      have c4b1 : decide (1048576 < l0.length) = false := decide_eq_false (by omega)
      clear c4
      (first | rw [c4b0] | (simp only [i64_w, i32_w]; rw [c4b0]) | skip)
      have H' := Aside0.mk H
      clear H
      go_wp2
      go_meet
      case rel => exact ⟨_, (decide ((l1.length : Int) > 1048576)), (by first | rfl | (simp; done) | (simp [*]; done)), H', ⟨by first | omega | exact Nat.le_refl _⟩, ⟨by repeat (first | (with_reducible first | exact HB.out | apply below_alloc | apply pw_below_drewN | apply below_drew1) | exact HB.out)⟩⟩
  case rest =>
    clear HC3
    try clear c1
    try clear p2
    try clear c4
    try clear c4b0
    try clear c4b1
    obtain ⟨kq, x23_2, rfl, HA, HJ2, HB⟩ := hcut
    cases kq with
    | zero => exact absurd HA.out (by simp [laws_FnAnswerParts.j0])
    | succ kj2 =>
      have H := HA.out
      clear HA
      simp only [laws_FnAnswerParts.j0] at H
      by_cases c5 : x23_2 = true
      · subst c5
        have H1 : (some true) = some r := by rw [if_pos rfl] at H; exact H
        clear H
        have H := H1
        clear H1
        obtain rfl := Option.some.inj H
        go_wp2
        go_ret
        exact ⟨by first | rfl | (simp [errW_none, errW_some] <;> rfl) | (simp [*, errW_none, errW_some] <;> rfl), by repeat (first | (with_reducible first | exact HB.out | apply below_alloc | apply pw_below_drewN | apply below_drew1) | exact HB.out)⟩
      · replace c5 := Bool.eq_false_iff.mpr c5
        subst c5
        have H1 : ((spec_DrawEndAnswer.f kj2 l0).bind fun bt148 => ((spec_EndAnswer.f kj2 bt148.1 bt148.2).bind fun bt150 => ((impl_EndAnswer.f bt148.1 bt148.2).bind fun bt152 => (if bt152.1.toList = bt150.1.toList then (if bt152.2.toList = bt150.2.toList then (if bt148.1.toList = ([47, 117, 112] : List UInt8) then (laws_FnAnswerParts.j1 kj2 l1 bt148.1 bt148.2 bt150.1 bt150.2 bt152.1 bt152.2 false) else (laws_FnAnswerParts.j1 kj2 l1 bt148.1 bt148.2 bt150.1 bt150.2 bt152.1 bt152.2 (bt148.1.toList != ([47, 101, 99, 104, 111] : List UInt8)))) else (laws_FnAnswerParts.j1 kj2 l1 bt148.1 bt148.2 bt150.1 bt150.2 bt152.1 bt152.2 true)) else (laws_FnAnswerParts.j1 kj2 l1 bt148.1 bt148.2 bt150.1 bt150.2 bt152.1 bt152.2 true))))) = some r := by rw [if_neg (show ¬ (false = true) by decide)] at H; exact H
        clear H
        have H := H1
        clear H1
        replace H := Option.bind_eq_some_iff.mp H
        obtain ⟨⟨t148, t149⟩, A60, H⟩ := H
        replace H : ((spec_EndAnswer.f kj2 t148 t149).bind fun bt150 => ((impl_EndAnswer.f t148 t149).bind fun bt152 => (if bt152.1.toList = bt150.1.toList then (if bt152.2.toList = bt150.2.toList then (if t148.toList = ([47, 117, 112] : List UInt8) then (laws_FnAnswerParts.j1 kj2 l1 t148 t149 bt150.1 bt150.2 bt152.1 bt152.2 false) else (laws_FnAnswerParts.j1 kj2 l1 t148 t149 bt150.1 bt150.2 bt152.1 bt152.2 (t148.toList != ([47, 101, 99, 104, 111] : List UInt8)))) else (laws_FnAnswerParts.j1 kj2 l1 t148 t149 bt150.1 bt150.2 bt152.1 bt152.2 true)) else (laws_FnAnswerParts.j1 kj2 l1 t148 t149 bt150.1 bt150.2 bt152.1 bt152.2 true)))) = some r := H
        have A6 := Aside0.mk A60
        clear A60
        replace H := Option.bind_eq_some_iff.mp H
        obtain ⟨⟨t150, t151⟩, A70, H⟩ := H
        replace H : ((impl_EndAnswer.f t148 t149).bind fun bt152 => (if bt152.1.toList = t150.toList then (if bt152.2.toList = t151.toList then (if t148.toList = ([47, 117, 112] : List UInt8) then (laws_FnAnswerParts.j1 kj2 l1 t148 t149 t150 t151 bt152.1 bt152.2 false) else (laws_FnAnswerParts.j1 kj2 l1 t148 t149 t150 t151 bt152.1 bt152.2 (t148.toList != ([47, 101, 99, 104, 111] : List UInt8)))) else (laws_FnAnswerParts.j1 kj2 l1 t148 t149 t150 t151 bt152.1 bt152.2 true)) else (laws_FnAnswerParts.j1 kj2 l1 t148 t149 t150 t151 bt152.1 bt152.2 true))) = some r := H
        have A7 := Aside0.mk A70
        clear A70
        replace H := Option.bind_eq_some_iff.mp H
        obtain ⟨⟨t152, t153⟩, A80, H⟩ := H
        replace H : (if t152.toList = t150.toList then (if t153.toList = t151.toList then (if t148.toList = ([47, 117, 112] : List UInt8) then (laws_FnAnswerParts.j1 kj2 l1 t148 t149 t150 t151 t152 t153 false) else (laws_FnAnswerParts.j1 kj2 l1 t148 t149 t150 t151 t152 t153 (t148.toList != ([47, 101, 99, 104, 111] : List UInt8)))) else (laws_FnAnswerParts.j1 kj2 l1 t148 t149 t150 t151 t152 t153 true)) else (laws_FnAnswerParts.j1 kj2 l1 t148 t149 t150 t151 t152 t153 true)) = some r := H
        have A8 := Aside0.mk A80
        clear A80
        have HC9 := Aside0.mk H
        clear H
        go_upto_region 6 with (first | ((with_reducible refine gate_callee (f := 6) rfl ?_); refine goesL_ (some 26) rfl rfl Tryd.func6 (by kernel_rfl) rfl #[.slice A0 l0.length c0] rfl (by (try simp only [List.map_toArray, List.map_cons, List.map_nil]); first | done | rfl | (simp only [List.length_drop, List.length_take]; rfl)) ?_; (with_reducible refine (spec_DrawEndAnswer.calls kj2 _ _ l0 t148 t149 _ ?side1 ?side2 A6.out).mono ?_); (case side1 => repeat (first | exact (Kd.C_below HR0.out HB.out) | (with_reducible refine Kd.C_alloc ?_ _) | (with_reducible refine Kd.C_drewN ?_ _) | (with_reducible refine Kd.C_drew ?_))); (case side2 => exact HC0.out); rintro e w10 ⟨rfl, hb⟩; refine ⟨_, rfl, ?_⟩; have n0_ := Aside0.mk (below_step (by repeat (first | (with_reducible first | exact HB.out | apply below_alloc | apply pw_below_drewN | apply below_drew1) | exact HB.out)) hb); clear HB; have HB := n0_; clear n0_; (try clear hb); (try clear hb2); (try clear hk); (try clear hi)) | ((with_reducible refine gate_callee (f := 7) rfl ?_); refine goesL_ (some 32) rfl rfl Tryd.func7 (by kernel_rfl) rfl #[.string t148, .string t149] rfl (by (try simp only [List.map_toArray, List.map_cons, List.map_nil]); first | done | rfl | (simp only [List.length_drop, List.length_take]; rfl)) ?_; (with_reducible refine (spec_EndAnswer.calls kj2 t148 t149 t150 t151 _ A7.out).mono ?_); rintro e w11 ⟨rfl, hb⟩; refine ⟨_, rfl, ?_⟩; have n0_ := Aside0.mk (below_step (by repeat (first | (with_reducible first | exact HB.out | apply below_alloc | apply pw_below_drewN | apply below_drew1) | exact HB.out)) hb); clear HB; have HB := n0_; clear n0_; (try clear hb); (try clear hb2); (try clear hk); (try clear hi)) | ((with_reducible refine gate_callee (f := 8) rfl ?_); refine goesL_ (some 38) rfl rfl Tryd.func8 (by kernel_rfl) rfl #[.string t148, .string t149] rfl (by (try simp only [List.map_toArray, List.map_cons, List.map_nil]); first | done | rfl | (simp only [List.length_drop, List.length_take]; rfl)) ?_; (with_reducible refine (impl_EndAnswer.calls t148 t149 t152 t153 _ A8.out).mono ?_); rintro e w12 ⟨rfl, hb⟩; refine ⟨_, rfl, ?_⟩; have n0_ := Aside0.mk (below_step (by repeat (first | (with_reducible first | exact HB.out | apply below_alloc | apply pw_below_drewN | apply below_drew1) | exact HB.out)) hb); clear HB; have HB := n0_; clear n0_; (try clear hb); (try clear hb2); (try clear hk); (try clear hi)))
        (try simp only [Act.put, List.setIfInBounds_toArray, List.set_cons_zero, List.set_cons_succ])
        go_cut [56] (fun v56 wc => ∃ (kq : Nat) (x56_8 : Bool), v56 = .bool x56_8 ∧ Aside0 (laws_FnAnswerParts.j1 kq l1 t148 t149 t150 t151 t152 t153 x56_8 = some r) ∧ Aside0 (kq ≤ kj2) ∧ Aside0 (Below w.heap.size w wc))
        case first =>
          have H := HC9.out
          clear HC9
          by_cases c13 : t152.toList = t150.toList
          · rw [if_pos c13] at H
            have c13b0 : (t152.toList == t150.toList) = true := beq_iff_eq.mpr c13
            have c13b1 : (t152.toList != t150.toList) = false := bne_eq_false_iff_eq.mpr c13
            clear c13
            (first | rw [c13b0] | (simp only [i64_w, i32_w]; rw [c13b0]) | skip)
            by_cases c14 : t153.toList = t151.toList
            · rw [if_pos c14] at H
              have c14b0 : (t153.toList == t151.toList) = true := beq_iff_eq.mpr c14
              have c14b1 : (t153.toList != t151.toList) = false := bne_eq_false_iff_eq.mpr c14
              clear c14
              by_cases c15 : t148.toList = ([47, 117, 112] : List UInt8)
              · rw [if_pos c15] at H
                have c15b0 : (t148.toList == ([47, 117, 112] : List UInt8)) = true := beq_iff_eq.mpr c15
                have c15b1 : (t148.toList != ([47, 117, 112] : List UInt8)) = false := bne_eq_false_iff_eq.mpr c15
                clear c15
                have H' := Aside0.mk H
                clear H
                go_wp2
                go_meet
                case rel => exact ⟨_, (false), (by first | rfl | (simp; done) | (simp [*]; done)), H', ⟨by have := HJ2.out; first | omega | exact Nat.le_refl _⟩, ⟨by repeat (first | (with_reducible first | exact HB.out | apply below_alloc | apply pw_below_drewN | apply below_drew1) | exact HB.out)⟩⟩
              · rw [if_neg c15] at H
                have c15b0 : (t148.toList == ([47, 117, 112] : List UInt8)) = false := beq_eq_false_iff_ne.mpr c15
                have c15b1 : (t148.toList != ([47, 117, 112] : List UInt8)) = true := bne_iff_ne.mpr c15
                have H' := Aside0.mk H
                clear H
                go_wp2
                go_meet
                case rel => exact ⟨_, ((t148.toList != ([47, 101, 99, 104, 111] : List UInt8))), (by first | rfl | (simp; done) | (simp [*]; done)), H', ⟨by have := HJ2.out; first | omega | exact Nat.le_refl _⟩, ⟨by repeat (first | (with_reducible first | exact HB.out | apply below_alloc | apply pw_below_drewN | apply below_drew1) | exact HB.out)⟩⟩
            · rw [if_neg c14] at H
              have c14b0 : (t153.toList == t151.toList) = false := beq_eq_false_iff_ne.mpr c14
              have c14b1 : (t153.toList != t151.toList) = true := bne_iff_ne.mpr c14
              have H' := Aside0.mk H
              clear H
              go_wp2
              go_meet
              case rel => exact ⟨_, (true), (by first | rfl | (simp; done) | (simp [*]; done)), H', ⟨by have := HJ2.out; first | omega | exact Nat.le_refl _⟩, ⟨by repeat (first | (with_reducible first | exact HB.out | apply below_alloc | apply pw_below_drewN | apply below_drew1) | exact HB.out)⟩⟩
          · rw [if_neg c13] at H
            have c13b0 : (t152.toList == t150.toList) = false := beq_eq_false_iff_ne.mpr c13
            have c13b1 : (t152.toList != t150.toList) = true := bne_iff_ne.mpr c13
            (first | rw [c13b0] | (simp only [i64_w, i32_w]; rw [c13b0]) | skip)
            have H' := Aside0.mk H
            clear H
            go_wp2
            go_meet
            case rel => exact ⟨_, (true), (by first | rfl | (simp; done) | (simp [*]; done)), H', ⟨by have := HJ2.out; first | omega | exact Nat.le_refl _⟩, ⟨by repeat (first | (with_reducible first | exact HB.out | apply below_alloc | apply pw_below_drewN | apply below_drew1) | exact HB.out)⟩⟩
        case rest =>
          clear HC9
          try clear c1
          try clear p2
          try clear c4
          try clear c4b0
          try clear c4b1
          try clear c5
          try clear c6
          try clear c7
          try clear c8
          try clear c13
          try clear c13b0
          try clear c13b1
          try clear c14
          try clear c14b0
          try clear c14b1
          try clear c15
          try clear c15b0
          try clear c15b1
          try clear p2
          obtain ⟨kq, x56_8, rfl, HA, HJ8, HB⟩ := hcut
          cases kq with
          | zero => exact absurd HA.out (by simp [laws_FnAnswerParts.j1])
          | succ kj8 =>
            have H := HA.out
            clear HA
            simp only [laws_FnAnswerParts.j1] at H
            by_cases c16 : x56_8 = true
            · subst c16
              have H1 : (if t152.toList = t150.toList then (some (t153.toList == t151.toList)) else (some false)) = some r := by rw [if_pos rfl] at H; exact H
              clear H
              have H := H1
              clear H1
              by_cases c17 : t152.toList = t150.toList
              · rw [if_pos c17] at H
                have c17b0 : (t152.toList == t150.toList) = true := beq_iff_eq.mpr c17
                have c17b1 : (t152.toList != t150.toList) = false := bne_eq_false_iff_eq.mpr c17
                clear c17
                obtain rfl := Option.some.inj H
                go_wp2
                go_ret
                exact ⟨by first | rfl | (simp [errW_none, errW_some] <;> rfl) | (simp [*, errW_none, errW_some] <;> rfl), by repeat (first | (with_reducible first | exact HB.out | apply below_alloc | apply pw_below_drewN | apply below_drew1) | exact HB.out)⟩
              · rw [if_neg c17] at H
                have c17b0 : (t152.toList == t150.toList) = false := beq_eq_false_iff_ne.mpr c17
                have c17b1 : (t152.toList != t150.toList) = true := bne_iff_ne.mpr c17
                obtain rfl := Option.some.inj H
                go_wp2
                go_ret
                exact ⟨by first | rfl | (simp [errW_none, errW_some] <;> rfl) | (simp [*, errW_none, errW_some] <;> rfl), by repeat (first | (with_reducible first | exact HB.out | apply below_alloc | apply pw_below_drewN | apply below_drew1) | exact HB.out)⟩
            · replace c16 := Bool.eq_false_iff.mpr c16
              subst c16
              have H1 : (if (wrap64 ((t149.size : Int) + 1)) = 0 then (none) else (if 0 ≤ ((l1.length : Int) % (wrap64 ((t149.size : Int) + 1))) then (if ((l1.length : Int) % (wrap64 ((t149.size : Int) + 1))) ≤ (t149.size : Int) then ((impl_EndAnswer.f t148 (t149.extract 0 (((l1.length : Int) % (wrap64 ((t149.size : Int) + 1))) : Int).toNat)).bind fun bt154 => ((impl_EndAnswer.f t148 (t149.extract (((l1.length : Int) % (wrap64 ((t149.size : Int) + 1))) : Int).toNat t149.size)).bind fun bt156 => (if bt154.2.size + bt156.2.size ≤ 9223372036854775807 then (some ((bt154.2 ++ bt156.2).toList == t153.toList)) else (none)))) else (none)) else (none))) = some r := by rw [if_neg (show ¬ (false = true) by decide)] at H; exact H
              clear H
              have H := H1
              clear H1
              by_cases c18 : (wrap64 ((t149.size : Int) + 1)) = 0
              · rw [if_pos c18] at H
                exact absurd H (by simp)
              · rw [if_neg c18] at H
                have c18b0 : ((wrap64 ((t149.size : Int) + 1)) == 0) = false := beq_eq_false_iff_ne.mpr c18
                have c18b1 : ((wrap64 ((t149.size : Int) + 1)) != 0) = true := bne_iff_ne.mpr c18
                obtain ⟨ji19, hji19⟩ : ∃ j_ : Int, ((l1.length : Int) % (wrap64 ((t149.size : Int) + 1))) = j_ := ⟨_, rfl⟩
                replace H : (if 0 ≤ (ji19) then (if (ji19) ≤ (t149.size : Int) then ((impl_EndAnswer.f t148 (t149.extract 0 ((ji19) : Int).toNat)).bind fun bt154 => ((impl_EndAnswer.f t148 (t149.extract ((ji19) : Int).toNat t149.size)).bind fun bt156 => (if bt154.2.size + bt156.2.size ≤ 9223372036854775807 then (some ((bt154.2 ++ bt156.2).toList == t153.toList)) else (none)))) else (none)) else (none)) = some r := by first | (rw [hji19] at H; exact H) | (simp only [hji19] at H ⊢; exact H)
                by_cases c20 : 0 ≤ (ji19)
                · rw [if_pos c20] at H
                  have c20b0 := eq_true c20
                  have c20b1 : decide (0 ≤ (ji19)) = true := decide_eq_true c20
                  clear c20
                  by_cases c21 : (ji19) ≤ (t149.size : Int)
                  · rw [if_pos c21] at H
                    have c21b0 := eq_true c21
                    have c21b1 : decide ((ji19) ≤ (t149.size : Int)) = true := decide_eq_true c21
                    clear c21
                    replace H := Option.bind_eq_some_iff.mp H
                    obtain ⟨⟨t154, t155⟩, A220, H⟩ := H
                    replace H : ((impl_EndAnswer.f t148 (t149.extract ((ji19) : Int).toNat t149.size)).bind fun bt156 => (if t155.size + bt156.2.size ≤ 9223372036854775807 then (some ((t155 ++ bt156.2).toList == t153.toList)) else (none))) = some r := H
                    have A22 := Aside0.mk A220
                    clear A220
                    have c23b0 := eq_true (of_decide_eq_true (by first | (with_reducible assumption) | assumption) : 0 ≤ (ji19))
                    have c24b0 := eq_true (of_decide_eq_true (by first | (with_reducible assumption) | assumption) : (ji19) ≤ (t149.size : Int))
                    replace H := Option.bind_eq_some_iff.mp H
                    obtain ⟨⟨t156, t157⟩, A250, H⟩ := H
                    replace H : (if t155.size + t157.size ≤ 9223372036854775807 then (some ((t155 ++ t157).toList == t153.toList)) else (none)) = some r := H
                    have A25 := Aside0.mk A250
                    clear A250
                    by_cases c26 : t155.size + t157.size ≤ 9223372036854775807
                    · rw [if_pos c26] at H
                      have c26b0 := eq_true c26
                      have c26b1 : decide (t155.size + t157.size ≤ 9223372036854775807) = true := decide_eq_true c26
                      try have c26b2 : (9223372036854775807 < t155.size + t157.size) = False := eq_false (Nat.not_lt.2 c26)
                      obtain rfl := Option.some.inj H
                      go_wp2_with (first | ((with_reducible refine gate_callee (f := 8) rfl ?_); refine goesL_ (some 76) rfl rfl Tryd.func8 (by kernel_rfl) rfl #[.string t148, .string (t149.extract 0 ((ji19) : Int).toNat)] rfl (by (try simp only [List.map_toArray, List.map_cons, List.map_nil]); first | done | (simp only [hji19]; rfl) | rfl | (simp only [List.length_drop, List.length_take]; rfl)) ?_; (with_reducible refine (impl_EndAnswer.calls t148 (t149.extract 0 ((ji19) : Int).toNat) t154 t155 _ A22.out).mono ?_); rintro e w27 ⟨rfl, hb⟩; refine ⟨_, rfl, ?_⟩; have n0_ := Aside0.mk (below_step (by repeat (first | (with_reducible first | exact HB.out | apply below_alloc | apply pw_below_drewN | apply below_drew1) | exact HB.out)) hb); clear HB; have HB := n0_; clear n0_; (try clear hb); (try clear hb2); (try clear hk); (try clear hi)) | ((with_reducible refine gate_callee (f := 8) rfl ?_); refine goesL_ (some 84) rfl rfl Tryd.func8 (by kernel_rfl) rfl #[.string t148, .string (t149.extract ((ji19) : Int).toNat t149.size)] rfl (by (try simp only [List.map_toArray, List.map_cons, List.map_nil]); first | done | (simp only [hji19]; rfl) | rfl | (simp only [List.length_drop, List.length_take]; rfl)) ?_; (with_reducible refine (impl_EndAnswer.calls t148 (t149.extract ((ji19) : Int).toNat t149.size) t156 t157 _ A25.out).mono ?_); rintro e w28 ⟨rfl, hb⟩; refine ⟨_, rfl, ?_⟩; have n0_ := Aside0.mk (below_step (by repeat (first | (with_reducible first | exact HB.out | apply below_alloc | apply pw_below_drewN | apply below_drew1) | exact HB.out)) hb); clear HB; have HB := n0_; clear n0_; (try clear hb); (try clear hb2); (try clear hk); (try clear hi)))
                      go_ret
                      exact ⟨by first | rfl | (simp [errW_none, errW_some] <;> rfl) | (simp only [← hji19]; first | rfl | (simp [errW_none, errW_some] <;> rfl)) | (simp [*, errW_none, errW_some] <;> rfl), by repeat (first | (with_reducible first | exact HB.out | apply below_alloc | apply pw_below_drewN | apply below_drew1) | exact HB.out)⟩
                    · rw [if_neg c26] at H
                      exact absurd H (by simp)
                  · rw [if_neg c21] at H
                    exact absurd H (by simp)
                · rw [if_neg c20] at H
                  exact absurd H (by simp)

/-- THE ONE PURE STATEMENT of laws_FnAnswerParts: yours. -/
def laws_FnAnswerParts.Pure : Prop := ∀ (l0 : List Int) (l1 : List Int), l0.length ≤ maxLen → l0.length * 1 ≤ 140737488351232 → (∀ x ∈ l0, (Lit.int .u8 x).wf = true) → l1.length ≤ maxLen → l1.length * 1 ≤ 140737488351232 → (∀ x ∈ l1, (Lit.int .u8 x).wf = true) → ∃ k, laws_FnAnswerParts.f k l0 l1 = some true
theorem laws_FnAnswerParts.walk (P : laws_FnAnswerParts.Pure) (a0 : Option Addr) (len0 cap0 : Nat) (z0 : List Int) (a1 : Option Addr) (len1 cap1 : Nat) (z1 : List Int) (w : World) (w0 : (a0 = none ∧ len0 = 0 ∧ cap0 = 0 ∧ z0 = []) ∨ ∃ x, a0 = some x ∧ len0 ≤ cap0 ∧ cap0 ≤ maxLen ∧ z0.length = cap0 ∧ (∀ i, i < z0.length → w.cell? (x.add i) = some (.int .u8 (z0.getD i 0))) ∧ ∀ n ∈ z0, (Lit.int .u8 n).wf = true) (y0 : len0 * 1 ≤ 140737488351232) (w1 : (a1 = none ∧ len1 = 0 ∧ cap1 = 0 ∧ z1 = []) ∨ ∃ x, a1 = some x ∧ len1 ≤ cap1 ∧ cap1 ≤ maxLen ∧ z1.length = cap1 ∧ (∀ i, i < z1.length → w.cell? (x.add i) = some (.int .u8 (z1.getD i 0))) ∧ ∀ n ∈ z1, (Lit.int .u8 n).wf = true) (y1 : len1 * 1 ≤ 140737488351232) :
    Calls Tryd.prog 4 #[.slice a0 len0 cap0, .slice a1 len1 cap1] w fun e w' => e = .returned (.bool true) ∧ Below w.heap.size w w' := by
  obtain ⟨l0, rfl, hr0, hm0, hw0, hc0⟩ := ReadsInt.ofRowC w0
  obtain ⟨l1, rfl, hr1, hm1, hw1, hc1⟩ := ReadsInt.ofRowC w1
  obtain ⟨k, h⟩ := P l0 l1 hm0 y0 hw0 hm1 y1 hw1
  refine (laws_FnAnswerParts.calls k _ _ l0 _ _ l1 true w (Kd.C_of_reads (d := (0 : Int)) (h1 := fun _ => rfl) hr0) hc0 (Kd.C_of_reads (d := (0 : Int)) (h1 := fun _ => rfl) hr1) hc1 h).mono ?_
  rintro e w' ⟨rfl, hd⟩
  exact ⟨rfl, hd⟩

end Go.Proofs.YtajjleldnobhmaaDoor.PFnAnswerParts
