-- WRITTEN BY a turned print (wip/tools of the prover's repo)
import Derived.Test.YtajjleldnobhmaaDoorPFnAnswerx0
import Derived.Test.YtajjleldnobhmaaDoorPFnAnswerx1
import Derived.Test.YtajjleldnobhmaaDoorPFnAnswerx2
namespace Go.Proofs.YtajjleldnobhmaaDoor.PFnAnswer
open Go.RowKit Go.Proofs.YtajjleldnobhmaaDoorW.PrintWords Go.Proofs.YtajjleldnobhmaaDoorW.PrintLast Go.Proofs.YtajjleldnobhmaaDoorW.PrintMore Go.Proofs.YtajjleldnobhmaaDoor.Lm
attribute [local go_sem] max2_int min2_int max_two min_two max_three min_three max_four min_four   -- for this text's walks alone
set_option linter.unusedVariables false
set_option linter.unusedSimpArgs false

/-! ### laws_FnAnswer: function 3 -/
def laws_FnAnswer.j0 : Nat → ByteArray → ByteArray → ByteArray → ByteArray → Bool → Option (Bool)
  | 0, _, _, _, _, _ => none
  | k + 1, x3, x4, x7, x8, x36 => if x36 = true then (some false) else (if x3.toList = ([47, 101, 99, 104, 111] : List UInt8) then (if x7.toList = ([48] : List UInt8) then (some (x8.toList == x4.toList)) else (some false)) else (if x3.toList = ([47, 117, 112] : List UInt8) then (if x7.toList = ([48] : List UInt8) then (some ((x8.size : Int) == (x4.size : Int))) else (some false)) else (if x3.toList = ([47, 108, 101, 110] : List UInt8) then (if x7.toList = ([48] : List UInt8) then (some (((x8.size : Int) == 1) == (decide ((x4.size : Int) < 10)))) else (some false)) else (if x7.toList = ([49, 50] : List UInt8) then (some (x8.toList == ([] : List UInt8))) else (some false)))))
def laws_FnAnswer.f (k : Nat) (l0 : List Int) : Option (Bool) := if (l0.length : Int) > 1048576 then (some true) else ((spec_DrawEndAnswer.f k l0).bind fun bt148 => ((spec_EndAnswer.f k bt148.1 bt148.2).bind fun bt150 => ((impl_EndAnswer.f bt148.1 bt148.2).bind fun bt152 => (if bt152.1.toList = bt150.1.toList then (laws_FnAnswer.j0 k bt148.1 bt148.2 bt152.1 bt152.2 (bt152.2.toList != bt150.2.toList)) else (laws_FnAnswer.j0 k bt148.1 bt148.2 bt152.1 bt152.2 true)))))
theorem laws_FnAnswer.mono_l : ∀ k, (∀ y0 y1 y2 y3 y4, LeO (laws_FnAnswer.j0 k y0 y1 y2 y3 y4) (laws_FnAnswer.j0 (k + 1) y0 y1 y2 y3 y4))
  | 0 => fun _ _ _ _ _ r h => by simp [laws_FnAnswer.j0] at h
  | k + 1 => by
    have ih0 := laws_FnAnswer.mono_l k
    · intro y0 y1 y2 y3 y4
      unfold laws_FnAnswer.j0
      repeat' first
      | (with_reducible exact ih0 _ _ _ _ _)
      | (with_reducible exact spec_DrawEndAnswer.mono _ _)
      | (with_reducible exact spec_EndAnswer.mono _ _ _)
      | (with_reducible exact LeO.refl _)
      | (with_reducible exact LeO.none _)
      | (with_reducible refine LeO.ite ?_ ?_)
      | (with_reducible refine LeO.bind ?_ (fun _ => ?_))
      | exact ih0 _ _ _ _ _
      | exact spec_DrawEndAnswer.mono _ _
      | exact spec_EndAnswer.mono _ _ _
      | exact LeO.none _
      | refine LeO.ite ?_ ?_
      | refine LeO.bind ?_ (fun _ => ?_)
theorem laws_FnAnswer.mono : ∀ a0 k, LeO (laws_FnAnswer.f k a0) (laws_FnAnswer.f (k + 1) a0) := by
  intro a0 k
  have ih0 := laws_FnAnswer.mono_l k
  unfold laws_FnAnswer.f
  repeat' first
      | (with_reducible exact ih0 _ _ _ _ _)
      | (with_reducible exact spec_DrawEndAnswer.mono _ _)
      | (with_reducible exact spec_EndAnswer.mono _ _ _)
      | (with_reducible exact LeO.refl _)
      | (with_reducible exact LeO.none _)
      | (with_reducible refine LeO.ite ?_ ?_)
      | (with_reducible refine LeO.bind ?_ (fun _ => ?_))
      | exact ih0 _ _ _ _ _
      | exact spec_DrawEndAnswer.mono _ _
      | exact spec_EndAnswer.mono _ _ _
      | exact LeO.none _
      | refine LeO.ite ?_ ?_
      | refine LeO.bind ?_ (fun _ => ?_)
set_option maxHeartbeats 8000000 in
set_option maxRecDepth 100000 in
theorem laws_FnAnswer.calls (k : Nat) (A0 : Option Addr) (c0 : Nat) (l0 : List Int) (r : Bool) (w : World) (hr0 : Kd.C (Kd.int .u8) w A0 l0.length l0) (hc0 : l0.length ≤ c0) (h : laws_FnAnswer.f k l0 = some r) :
    Calls Tryd.prog 3 #[.slice A0 l0.length c0] w fun e w' => e = .returned (.bool r) ∧ Below w.heap.size w w' := by
  have HR0 := Aside0.mk hr0
  have HC0 := Aside0.mk hc0
  clear hr0 hc0
  have HB := Aside0.mk (Below.refl w.heap.size w)
  have H : (if (l0.length : Int) > 1048576 then (some true) else ((spec_DrawEndAnswer.f k l0).bind fun bt148 => ((spec_EndAnswer.f k bt148.1 bt148.2).bind fun bt150 => ((impl_EndAnswer.f bt148.1 bt148.2).bind fun bt152 => (if bt152.1.toList = bt150.1.toList then (laws_FnAnswer.j0 k bt148.1 bt148.2 bt152.1 bt152.2 (bt152.2.toList != bt150.2.toList)) else (laws_FnAnswer.j0 k bt148.1 bt148.2 bt152.1 bt152.2 true)))))) = some r := h
  clear h
  by_cases c2 : (l0.length : Int) > 1048576
  · rw [if_pos c2] at H
    have c2b0 : decide (1048576 < (l0.length : Int)) = true := decide_eq_true c2
    have c2b1 : decide (1048576 < l0.length) = true := decide_eq_true (by omega)
    clear c2
    obtain rfl := Option.some.inj H
    go_enter Tryd.func3, Tryd.ntmps3
    go_wp2
    go_ret
    exact ⟨by first | rfl | (simp [errW_none, errW_some] <;> rfl) | (simp [*, errW_none, errW_some] <;> rfl), by repeat (first | (with_reducible first | exact HB.out | apply below_alloc | apply pw_below_drewN | apply below_drew1) | exact HB.out)⟩
  · rw [if_neg c2] at H
    have c2b0 : decide (1048576 < (l0.length : Int)) = false := decide_eq_false c2
    have c2b1 : decide (1048576 < l0.length) = false := decide_eq_false (by omega)
    clear c2
    replace H := Option.bind_eq_some_iff.mp H
    obtain ⟨⟨t148, t149⟩, A30, H⟩ := H
    replace H : ((spec_EndAnswer.f k t148 t149).bind fun bt150 => ((impl_EndAnswer.f t148 t149).bind fun bt152 => (if bt152.1.toList = bt150.1.toList then (laws_FnAnswer.j0 k t148 t149 bt152.1 bt152.2 (bt152.2.toList != bt150.2.toList)) else (laws_FnAnswer.j0 k t148 t149 bt152.1 bt152.2 true)))) = some r := H
    have A3 := Aside0.mk A30
    clear A30
    replace H := Option.bind_eq_some_iff.mp H
    obtain ⟨⟨t150, t151⟩, A40, H⟩ := H
    replace H : ((impl_EndAnswer.f t148 t149).bind fun bt152 => (if bt152.1.toList = t150.toList then (laws_FnAnswer.j0 k t148 t149 bt152.1 bt152.2 (bt152.2.toList != t151.toList)) else (laws_FnAnswer.j0 k t148 t149 bt152.1 bt152.2 true))) = some r := H
    have A4 := Aside0.mk A40
    clear A40
    replace H := Option.bind_eq_some_iff.mp H
    obtain ⟨⟨t152, t153⟩, A50, H⟩ := H
    replace H : (if t152.toList = t150.toList then (laws_FnAnswer.j0 k t148 t149 t152 t153 (t153.toList != t151.toList)) else (laws_FnAnswer.j0 k t148 t149 t152 t153 true)) = some r := H
    have A5 := Aside0.mk A50
    clear A50
    have HC6 := Aside0.mk H
    clear H
    go_enter Tryd.func3, Tryd.ntmps3
    go_upto_region 6 with (first | ((with_reducible refine gate_callee (f := 6) rfl ?_); refine goesL_ (some 14) rfl rfl Tryd.func6 (by kernel_rfl) rfl #[.slice A0 l0.length c0] rfl (by (try simp only [List.map_toArray, List.map_cons, List.map_nil]); first | done | rfl | (simp only [List.length_drop, List.length_take]; rfl)) ?_; (with_reducible refine (spec_DrawEndAnswer.calls k _ _ l0 t148 t149 _ ?side1 ?side2 A3.out).mono ?_); (case side1 => repeat (first | exact HR0.out | (with_reducible refine Kd.C_alloc ?_ _) | (with_reducible refine Kd.C_drewN ?_ _) | (with_reducible refine Kd.C_drew ?_))); (case side2 => exact HC0.out); rintro e w7 ⟨rfl, hb⟩; refine ⟨_, rfl, ?_⟩; have n0_ := Aside0.mk (below_step (by repeat (first | (with_reducible first | exact HB.out | apply below_alloc | apply pw_below_drewN | apply below_drew1) | exact HB.out)) hb); clear HB; have HB := n0_; clear n0_; (try clear hb); (try clear hb2); (try clear hk); (try clear hi)) | ((with_reducible refine gate_callee (f := 7) rfl ?_); refine goesL_ (some 20) rfl rfl Tryd.func7 (by kernel_rfl) rfl #[.string t148, .string t149] rfl (by (try simp only [List.map_toArray, List.map_cons, List.map_nil]); first | done | rfl | (simp only [List.length_drop, List.length_take]; rfl)) ?_; (with_reducible refine (spec_EndAnswer.calls k t148 t149 t150 t151 _ A4.out).mono ?_); rintro e w8 ⟨rfl, hb⟩; refine ⟨_, rfl, ?_⟩; have n0_ := Aside0.mk (below_step (by repeat (first | (with_reducible first | exact HB.out | apply below_alloc | apply pw_below_drewN | apply below_drew1) | exact HB.out)) hb); clear HB; have HB := n0_; clear n0_; (try clear hb); (try clear hb2); (try clear hk); (try clear hi)) | ((with_reducible refine gate_callee (f := 8) rfl ?_); refine goesL_ (some 26) rfl rfl Tryd.func8 (by kernel_rfl) rfl #[.string t148, .string t149] rfl (by (try simp only [List.map_toArray, List.map_cons, List.map_nil]); first | done | rfl | (simp only [List.length_drop, List.length_take]; rfl)) ?_; (with_reducible refine (impl_EndAnswer.calls t148 t149 t152 t153 _ A5.out).mono ?_); rintro e w9 ⟨rfl, hb⟩; refine ⟨_, rfl, ?_⟩; have n0_ := Aside0.mk (below_step (by repeat (first | (with_reducible first | exact HB.out | apply below_alloc | apply pw_below_drewN | apply below_drew1) | exact HB.out)) hb); clear HB; have HB := n0_; clear n0_; (try clear hb); (try clear hb2); (try clear hk); (try clear hi)))
    (try simp only [Act.put, List.setIfInBounds_toArray, List.set_cons_zero, List.set_cons_succ])
    go_cut [36] (fun v36 wc => ∃ (kq : Nat) (x36_5 : Bool), v36 = .bool x36_5 ∧ Aside0 (laws_FnAnswer.j0 kq t148 t149 t152 t153 x36_5 = some r) ∧ Aside0 (kq ≤ k) ∧ Aside0 (Below w.heap.size w wc))
    case first =>
      have H := HC6.out
      clear HC6
      by_cases c10 : t152.toList = t150.toList
      · rw [if_pos c10] at H
        have c10b0 : (t152.toList == t150.toList) = true := beq_iff_eq.mpr c10
        have c10b1 : (t152.toList != t150.toList) = false := bne_eq_false_iff_eq.mpr c10
        clear c10
        (first | rw [c10b0] | (simp only [i64_w, i32_w]; rw [c10b0]) | skip)
        have H' := Aside0.mk H
        clear H
        go_wp2
        go_meet
        case rel => exact ⟨_, ((t153.toList != t151.toList)), (by first | rfl | (simp; done) | (simp [*]; done)), H', ⟨by first | omega | exact Nat.le_refl _⟩, ⟨by repeat (first | (with_reducible first | exact HB.out | apply below_alloc | apply pw_below_drewN | apply below_drew1) | exact HB.out)⟩⟩
      · rw [if_neg c10] at H
        have c10b0 : (t152.toList == t150.toList) = false := beq_eq_false_iff_ne.mpr c10
        have c10b1 : (t152.toList != t150.toList) = true := bne_iff_ne.mpr c10
        (first | rw [c10b0] | (simp only [i64_w, i32_w]; rw [c10b0]) | skip)
        have H' := Aside0.mk H
        clear H
        go_wp2
        go_meet
        case rel => exact ⟨_, (true), (by first | rfl | (simp; done) | (simp [*]; done)), H', ⟨by first | omega | exact Nat.le_refl _⟩, ⟨by repeat (first | (with_reducible first | exact HB.out | apply below_alloc | apply pw_below_drewN | apply below_drew1) | exact HB.out)⟩⟩
    case rest =>
      clear HC6
      try clear c1
      try clear c2
      try clear c2b0
      try clear c2b1
      try clear p2
      try clear c3
      try clear c6
      try clear c7
      try clear c8
      try clear c10
      try clear c10b0
      try clear c10b1
      obtain ⟨kq, x36_5, rfl, HA, HJ5, HB⟩ := hcut
      cases kq with
      | zero => exact absurd HA.out (by simp [laws_FnAnswer.j0])
      | succ kj5 =>
        have H := HA.out
        clear HA
        simp only [laws_FnAnswer.j0] at H
        by_cases c11 : x36_5 = true
        · subst c11
          have H1 : (some false) = some r := by rw [if_pos rfl] at H; exact H
          clear H
          have H := H1
          clear H1
          obtain rfl := Option.some.inj H
          go_wp2
          go_ret
          exact ⟨by first | rfl | (simp [errW_none, errW_some] <;> rfl) | (simp [*, errW_none, errW_some] <;> rfl), by repeat (first | (with_reducible first | exact HB.out | apply below_alloc | apply pw_below_drewN | apply below_drew1) | exact HB.out)⟩
        · replace c11 := Bool.eq_false_iff.mpr c11
          subst c11
          have H1 : (if t148.toList = ([47, 101, 99, 104, 111] : List UInt8) then (if t152.toList = ([48] : List UInt8) then (some (t153.toList == t149.toList)) else (some false)) else (if t148.toList = ([47, 117, 112] : List UInt8) then (if t152.toList = ([48] : List UInt8) then (some ((t153.size : Int) == (t149.size : Int))) else (some false)) else (if t148.toList = ([47, 108, 101, 110] : List UInt8) then (if t152.toList = ([48] : List UInt8) then (some (((t153.size : Int) == 1) == (decide ((t149.size : Int) < 10)))) else (some false)) else (if t152.toList = ([49, 50] : List UInt8) then (some (t153.toList == ([] : List UInt8))) else (some false))))) = some r := by rw [if_neg (show ¬ (false = true) by decide)] at H; exact H
          clear H
          have H := H1
          clear H1
          by_cases c12 : t148.toList = ([47, 101, 99, 104, 111] : List UInt8)
          · rw [if_pos c12] at H
            have c12b0 : (t148.toList == ([47, 101, 99, 104, 111] : List UInt8)) = true := beq_iff_eq.mpr c12
            have c12b1 : (t148.toList != ([47, 101, 99, 104, 111] : List UInt8)) = false := bne_eq_false_iff_eq.mpr c12
            clear c12
            by_cases c13 : t152.toList = ([48] : List UInt8)
            · rw [if_pos c13] at H
              have c13b0 : (t152.toList == ([48] : List UInt8)) = true := beq_iff_eq.mpr c13
              have c13b1 : (t152.toList != ([48] : List UInt8)) = false := bne_eq_false_iff_eq.mpr c13
              clear c13
              obtain rfl := Option.some.inj H
              go_wp2
              go_ret
              exact ⟨by first | rfl | (simp [errW_none, errW_some] <;> rfl) | (simp [*, errW_none, errW_some] <;> rfl), by repeat (first | (with_reducible first | exact HB.out | apply below_alloc | apply pw_below_drewN | apply below_drew1) | exact HB.out)⟩
            · rw [if_neg c13] at H
              have c13b0 : (t152.toList == ([48] : List UInt8)) = false := beq_eq_false_iff_ne.mpr c13
              have c13b1 : (t152.toList != ([48] : List UInt8)) = true := bne_iff_ne.mpr c13
              obtain rfl := Option.some.inj H
              go_wp2
              go_ret
              exact ⟨by first | rfl | (simp [errW_none, errW_some] <;> rfl) | (simp [*, errW_none, errW_some] <;> rfl), by repeat (first | (with_reducible first | exact HB.out | apply below_alloc | apply pw_below_drewN | apply below_drew1) | exact HB.out)⟩
          · rw [if_neg c12] at H
            have c12b0 : (t148.toList == ([47, 101, 99, 104, 111] : List UInt8)) = false := beq_eq_false_iff_ne.mpr c12
            have c12b1 : (t148.toList != ([47, 101, 99, 104, 111] : List UInt8)) = true := bne_iff_ne.mpr c12
            by_cases c14 : t148.toList = ([47, 117, 112] : List UInt8)
            · rw [if_pos c14] at H
              have c14b0 : (t148.toList == ([47, 117, 112] : List UInt8)) = true := beq_iff_eq.mpr c14
              have c14b1 : (t148.toList != ([47, 117, 112] : List UInt8)) = false := bne_eq_false_iff_eq.mpr c14
              clear c14
              by_cases c15 : t152.toList = ([48] : List UInt8)
              · rw [if_pos c15] at H
                have c15b0 : (t152.toList == ([48] : List UInt8)) = true := beq_iff_eq.mpr c15
                have c15b1 : (t152.toList != ([48] : List UInt8)) = false := bne_eq_false_iff_eq.mpr c15
                clear c15
                obtain rfl := Option.some.inj H
                go_wp2
                go_ret
                exact ⟨by first | rfl | (simp [errW_none, errW_some] <;> rfl) | (simp [*, errW_none, errW_some] <;> rfl), by repeat (first | (with_reducible first | exact HB.out | apply below_alloc | apply pw_below_drewN | apply below_drew1) | exact HB.out)⟩
              · rw [if_neg c15] at H
                have c15b0 : (t152.toList == ([48] : List UInt8)) = false := beq_eq_false_iff_ne.mpr c15
                have c15b1 : (t152.toList != ([48] : List UInt8)) = true := bne_iff_ne.mpr c15
                obtain rfl := Option.some.inj H
                go_wp2
                go_ret
                exact ⟨by first | rfl | (simp [errW_none, errW_some] <;> rfl) | (simp [*, errW_none, errW_some] <;> rfl), by repeat (first | (with_reducible first | exact HB.out | apply below_alloc | apply pw_below_drewN | apply below_drew1) | exact HB.out)⟩
            · rw [if_neg c14] at H
              have c14b0 : (t148.toList == ([47, 117, 112] : List UInt8)) = false := beq_eq_false_iff_ne.mpr c14
              have c14b1 : (t148.toList != ([47, 117, 112] : List UInt8)) = true := bne_iff_ne.mpr c14
              by_cases c16 : t148.toList = ([47, 108, 101, 110] : List UInt8)
              · rw [if_pos c16] at H
                have c16b0 : (t148.toList == ([47, 108, 101, 110] : List UInt8)) = true := beq_iff_eq.mpr c16
                have c16b1 : (t148.toList != ([47, 108, 101, 110] : List UInt8)) = false := bne_eq_false_iff_eq.mpr c16
                clear c16
                by_cases c17 : t152.toList = ([48] : List UInt8)
                · rw [if_pos c17] at H
                  have c17b0 : (t152.toList == ([48] : List UInt8)) = true := beq_iff_eq.mpr c17
                  have c17b1 : (t152.toList != ([48] : List UInt8)) = false := bne_eq_false_iff_eq.mpr c17
                  clear c17
                  obtain rfl := Option.some.inj H
                  go_wp2
                  go_ret
                  exact ⟨by first | rfl | (simp [errW_none, errW_some] <;> rfl) | (simp [*, errW_none, errW_some] <;> rfl), by repeat (first | (with_reducible first | exact HB.out | apply below_alloc | apply pw_below_drewN | apply below_drew1) | exact HB.out)⟩
                · rw [if_neg c17] at H
                  have c17b0 : (t152.toList == ([48] : List UInt8)) = false := beq_eq_false_iff_ne.mpr c17
                  have c17b1 : (t152.toList != ([48] : List UInt8)) = true := bne_iff_ne.mpr c17
                  obtain rfl := Option.some.inj H
                  go_wp2
                  go_ret
                  exact ⟨by first | rfl | (simp [errW_none, errW_some] <;> rfl) | (simp [*, errW_none, errW_some] <;> rfl), by repeat (first | (with_reducible first | exact HB.out | apply below_alloc | apply pw_below_drewN | apply below_drew1) | exact HB.out)⟩
              · rw [if_neg c16] at H
                have c16b0 : (t148.toList == ([47, 108, 101, 110] : List UInt8)) = false := beq_eq_false_iff_ne.mpr c16
                have c16b1 : (t148.toList != ([47, 108, 101, 110] : List UInt8)) = true := bne_iff_ne.mpr c16
                by_cases c18 : t152.toList = ([49, 50] : List UInt8)
                · rw [if_pos c18] at H
                  have c18b0 : (t152.toList == ([49, 50] : List UInt8)) = true := beq_iff_eq.mpr c18
                  have c18b1 : (t152.toList != ([49, 50] : List UInt8)) = false := bne_eq_false_iff_eq.mpr c18
                  clear c18
                  obtain rfl := Option.some.inj H
                  go_wp2
                  go_ret
                  exact ⟨by first | rfl | (simp [errW_none, errW_some] <;> rfl) | (simp [*, errW_none, errW_some] <;> rfl), by repeat (first | (with_reducible first | exact HB.out | apply below_alloc | apply pw_below_drewN | apply below_drew1) | exact HB.out)⟩
                · rw [if_neg c18] at H
                  have c18b0 : (t152.toList == ([49, 50] : List UInt8)) = false := beq_eq_false_iff_ne.mpr c18
                  have c18b1 : (t152.toList != ([49, 50] : List UInt8)) = true := bne_iff_ne.mpr c18
                  obtain rfl := Option.some.inj H
                  go_wp2
                  go_ret
                  exact ⟨by first | rfl | (simp [errW_none, errW_some] <;> rfl) | (simp [*, errW_none, errW_some] <;> rfl), by repeat (first | (with_reducible first | exact HB.out | apply below_alloc | apply pw_below_drewN | apply below_drew1) | exact HB.out)⟩

/-- THE ONE PURE STATEMENT of laws_FnAnswer: yours. -/
def laws_FnAnswer.Pure : Prop := ∀ (l0 : List Int), l0.length ≤ maxLen → l0.length * 1 ≤ 140737488351232 → (∀ x ∈ l0, (Lit.int .u8 x).wf = true) → ∃ k, laws_FnAnswer.f k l0 = some true
theorem laws_FnAnswer.walk (P : laws_FnAnswer.Pure) (a0 : Option Addr) (len0 cap0 : Nat) (z0 : List Int) (w : World) (w0 : (a0 = none ∧ len0 = 0 ∧ cap0 = 0 ∧ z0 = []) ∨ ∃ x, a0 = some x ∧ len0 ≤ cap0 ∧ cap0 ≤ maxLen ∧ z0.length = cap0 ∧ (∀ i, i < z0.length → w.cell? (x.add i) = some (.int .u8 (z0.getD i 0))) ∧ ∀ n ∈ z0, (Lit.int .u8 n).wf = true) (y0 : len0 * 1 ≤ 140737488351232) :
    Calls Tryd.prog 3 #[.slice a0 len0 cap0] w fun e w' => e = .returned (.bool true) ∧ Below w.heap.size w w' := by
  obtain ⟨l0, rfl, hr0, hm0, hw0, hc0⟩ := ReadsInt.ofRowC w0
  obtain ⟨k, h⟩ := P l0 hm0 y0 hw0
  refine (laws_FnAnswer.calls k _ _ l0 true w (Kd.C_of_reads (d := (0 : Int)) (h1 := fun _ => rfl) hr0) hc0 h).mono ?_
  rintro e w' ⟨rfl, hd⟩
  exact ⟨rfl, hd⟩

end Go.Proofs.YtajjleldnobhmaaDoor.PFnAnswer
