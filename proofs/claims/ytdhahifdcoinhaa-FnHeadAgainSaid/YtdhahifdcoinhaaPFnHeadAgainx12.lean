-- WRITTEN BY a turned print (wip/tools of the prover's repo)
import Derived.Test.YtdhahifdcoinhaaPFnHeadAgainx0
import Derived.Test.YtdhahifdcoinhaaPFnHeadAgainx2
import Derived.Test.YtdhahifdcoinhaaPFnHeadAgainx4
import Derived.Test.YtdhahifdcoinhaaPFnHeadAgainx6
import Derived.Test.YtdhahifdcoinhaaPFnHeadAgainx9
import Derived.Test.YtdhahifdcoinhaaPFnHeadAgainx11
namespace Go.Proofs.Ytdhahifdcoinhaa.PFnHeadAgain
open Go.RowKit Go.Proofs.YtdhahifdcoinhaaW.PrintWords Go.Proofs.YtdhahifdcoinhaaW.PrintLast Go.Proofs.YtdhahifdcoinhaaW.PrintMore Go.Proofs.Ytdhahifdcoinhaa.Lm
attribute [local go_sem] max2_int min2_int max_two min_two max_three min_three max_four min_four   -- for this text's walks alone
set_option linter.unusedVariables false
set_option linter.unusedSimpArgs false

/-! ### laws_FnHeadAgain: function 13 -/
-- thin
mutual
def laws_FnHeadAgain.j0 : Nat → List (S36) → ByteArray → ByteArray → Bool → List (S36) → Int → List (S36) → Int → Option (Bool)
 | 0, _, _, _, _, _, _, _, _ => none
 | k + 1, x4, x6, x8, x52, x510000, x510001, x516000, x516001 => if x52 = true then (if x8.toList = x6.toList then ((laws_lkTable.f k x516000 x516001 x510000 x510001).bind fun t519 => (some t519)) else (some false)) else (laws_FnHeadAgain.l0 k x4 0 x516000 x516001)
def laws_FnHeadAgain.l0 : Nat → List (S36) → Int → List (S36) → Int → Option (Bool)
 | 0, _, _, _, _ => none
 | k + 1, x4, x9, x516000, x516001 => if x9 < (x4.length : Int) then (if 0 ≤ x9 then ((impl_TableFind.f k x516000 x516001 ((rd_T36 x4 x9).f0) ((rd_T36 x4 x9).f1) ((rd_T36 x4 x9).f2)).bind fun bt521 => (if bt521.2 = true then (if (rd_T36 x4 x9).f2 = true then (some true) else (laws_FnHeadAgain.l0 k x4 (wrap64 (x9 + 1)) x516000 x516001)) else (some true))) else (none)) else ((impl_HeadWrite.f k x516000 x516001 x4).bind fun bt524 => (if (bt524.2.2.size : Int) = (x4.length : Int) then ((laws_lkTable.f k bt524.1 bt524.2.1 x516000 x516001).bind fun t530 => (some t530)) else (some false)))
end
def laws_FnHeadAgain.f (k : Nat) (l0 : List Int) : Option (Bool) := if (l0.length : Int) > 1048576 then (some true) else ((spec_DrawHeadWrite.f k l0).bind fun bt496 => ((spec_HeadWrite.f k bt496.1 bt496.2.1 bt496.2.2).bind fun bt504 => ((impl_HeadWrite.f k bt496.1 bt496.2.1 bt496.2.2).bind fun bt510 => (if bt510.2.2.toList = bt504.2.2.toList then ((laws_lkTable.f k bt510.1 bt510.2.1 bt504.1 bt504.2.1).bind fun t516 => (if t516 = true then ((spec_TableOk.f k bt496.1 bt496.2.1).bind fun t517 => (if t517 = true then ((spec_HeadOk.f k bt496.2.2).bind fun t518 => (laws_FnHeadAgain.j0 k bt496.2.2 bt504.2.2 bt510.2.2 (!t518) bt504.1 bt504.2.1 bt510.1 bt510.2.1)) else (laws_FnHeadAgain.j0 k bt496.2.2 bt504.2.2 bt510.2.2 true bt504.1 bt504.2.1 bt510.1 bt510.2.1))) else (laws_FnHeadAgain.j0 k bt496.2.2 bt504.2.2 bt510.2.2 true bt504.1 bt504.2.1 bt510.1 bt510.2.1))) else (laws_FnHeadAgain.j0 k bt496.2.2 bt504.2.2 bt510.2.2 true bt504.1 bt504.2.1 bt510.1 bt510.2.1)))))
theorem laws_FnHeadAgain.mono_l : ∀ k, (∀ y0 y1 y2 y3 y4 y5 y6 y7, LeO (laws_FnHeadAgain.j0 k y0 y1 y2 y3 y4 y5 y6 y7) (laws_FnHeadAgain.j0 (k + 1) y0 y1 y2 y3 y4 y5 y6 y7)) ∧ (∀ y0 y1 y2 y3, LeO (laws_FnHeadAgain.l0 k y0 y1 y2 y3) (laws_FnHeadAgain.l0 (k + 1) y0 y1 y2 y3))
 | 0 => ⟨fun _ _ _ _ _ _ _ _ r h => by simp [laws_FnHeadAgain.j0] at h, fun _ _ _ _ r h => by simp [laws_FnHeadAgain.l0] at h⟩
 | k + 1 => by
  obtain ⟨ih0, ih1⟩ := laws_FnHeadAgain.mono_l k
  refine ⟨?_, ?_⟩
  ·intro y0 y1 y2 y3 y4 y5 y6 y7
   unfold laws_FnHeadAgain.j0
   repeat' first
   | (with_reducible exact ih0 _ _ _ _ _ _ _ _)
   | (with_reducible exact ih1 _ _ _ _)
   | (with_reducible exact impl_HeadWrite.mono _ _ _ _)
   | (with_reducible exact impl_TableFind.mono _ _ _ _ _ _)
   | (with_reducible exact laws_lkTable.mono _ _ _ _ _)
   | (with_reducible exact spec_DrawHeadWrite.mono _ _)
   | (with_reducible exact spec_HeadOk.mono _ _)
   | (with_reducible exact spec_HeadWrite.mono _ _ _ _)
   | (with_reducible exact spec_TableOk.mono _ _ _)
   | (with_reducible exact LeO.refl _)
   | (with_reducible exact LeO.none _)
   | (with_reducible refine LeO.ite ?_ ?_)
   | (with_reducible refine LeO.bind ?_ (fun _ => ?_))
   | exact ih0 _ _ _ _ _ _ _ _
   | exact ih1 _ _ _ _
   | exact impl_HeadWrite.mono _ _ _ _
   | exact impl_TableFind.mono _ _ _ _ _ _
   | exact laws_lkTable.mono _ _ _ _ _
   | exact spec_DrawHeadWrite.mono _ _
   | exact spec_HeadOk.mono _ _
   | exact spec_HeadWrite.mono _ _ _ _
   | exact spec_TableOk.mono _ _ _
   | exact LeO.none _
   | refine LeO.ite ?_ ?_
   | refine LeO.bind ?_ (fun _ => ?_)
  ·intro y0 y1 y2 y3
   unfold laws_FnHeadAgain.l0
   repeat' first
   | (with_reducible exact ih0 _ _ _ _ _ _ _ _)
   | (with_reducible exact ih1 _ _ _ _)
   | (with_reducible exact impl_HeadWrite.mono _ _ _ _)
   | (with_reducible exact impl_TableFind.mono _ _ _ _ _ _)
   | (with_reducible exact laws_lkTable.mono _ _ _ _ _)
   | (with_reducible exact spec_DrawHeadWrite.mono _ _)
   | (with_reducible exact spec_HeadOk.mono _ _)
   | (with_reducible exact spec_HeadWrite.mono _ _ _ _)
   | (with_reducible exact spec_TableOk.mono _ _ _)
   | (with_reducible exact LeO.refl _)
   | (with_reducible exact LeO.none _)
   | (with_reducible refine LeO.ite ?_ ?_)
   | (with_reducible refine LeO.bind ?_ (fun _ => ?_))
   | exact ih0 _ _ _ _ _ _ _ _
   | exact ih1 _ _ _ _
   | exact impl_HeadWrite.mono _ _ _ _
   | exact impl_TableFind.mono _ _ _ _ _ _
   | exact laws_lkTable.mono _ _ _ _ _
   | exact spec_DrawHeadWrite.mono _ _
   | exact spec_HeadOk.mono _ _
   | exact spec_HeadWrite.mono _ _ _ _
   | exact spec_TableOk.mono _ _ _
   | exact LeO.none _
   | refine LeO.ite ?_ ?_
   | refine LeO.bind ?_ (fun _ => ?_)
theorem laws_FnHeadAgain.mono : ∀ a0 k, LeO (laws_FnHeadAgain.f k a0) (laws_FnHeadAgain.f (k + 1) a0) := by
 intro a0 k
 obtain ⟨ih0, ih1⟩ := laws_FnHeadAgain.mono_l k
 unfold laws_FnHeadAgain.f
 repeat' first
   | (with_reducible exact ih0 _ _ _ _ _ _ _ _)
   | (with_reducible exact ih1 _ _ _ _)
   | (with_reducible exact impl_HeadWrite.mono _ _ _ _)
   | (with_reducible exact impl_TableFind.mono _ _ _ _ _ _)
   | (with_reducible exact laws_lkTable.mono _ _ _ _ _)
   | (with_reducible exact spec_DrawHeadWrite.mono _ _)
   | (with_reducible exact spec_HeadOk.mono _ _)
   | (with_reducible exact spec_HeadWrite.mono _ _ _ _)
   | (with_reducible exact spec_TableOk.mono _ _ _)
   | (with_reducible exact LeO.refl _)
   | (with_reducible exact LeO.none _)
   | (with_reducible refine LeO.ite ?_ ?_)
   | (with_reducible refine LeO.bind ?_ (fun _ => ?_))
   | exact ih0 _ _ _ _ _ _ _ _
   | exact ih1 _ _ _ _
   | exact impl_HeadWrite.mono _ _ _ _
   | exact impl_TableFind.mono _ _ _ _ _ _
   | exact laws_lkTable.mono _ _ _ _ _
   | exact spec_DrawHeadWrite.mono _ _
   | exact spec_HeadOk.mono _ _
   | exact spec_HeadWrite.mono _ _ _ _
   | exact spec_TableOk.mono _ _ _
   | exact LeO.none _
   | refine LeO.ite ?_ ?_
   | refine LeO.bind ?_ (fun _ => ?_)
def laws_FnHeadAgain.T11 : Bool × List (List Nat × List Nat) := (true, [([], []), ([], []), ([], []), ([1, 2], [1, 2]), ([3], [3]), ([0, 4], [0, 4]), ([5], [5]), ([6], [6]), ([6], [6]), ([7, 5, 0, 1, 2, 3, 4, 5, 6, 7], [7]), ([8, 9, 0, 1, 2, 3, 4, 5, 6, 7, 8, 9], [8])])
def laws_FnHeadAgain.B11 : List Nat := [0, 0, 0, 6, 14, 31, 63, 127, 127, 255, 1023]
theorem laws_FnHeadAgain.tab11 : rtab .any (opsOf Try.f13 11) = laws_FnHeadAgain.T11 := by kernel_rfl
theorem laws_FnHeadAgain.bits11 : waitsOk laws_FnHeadAgain.T11.2 laws_FnHeadAgain.B11 = true := by kernel_rfl
set_option maxHeartbeats 8000000 in
set_option maxRecDepth 100000 in
theorem laws_FnHeadAgain.calls (k : Nat) (A0 : Option Addr) (c0 : Nat) (l0 : List Int) (r : Bool) (w : World) (hr0 : Kd.C (Kd.int .u8) w A0 l0.length l0) (hc0 : l0.length ≤ c0) (h : laws_FnHeadAgain.f k l0 = some r) :
  Calls Try.prog 13 #[.slice A0 l0.length c0] w fun e w' => e = .returned (.bool r) ∧ Below w.heap.size w w' := by
 have hu25 := Try.underlying25
 have hu36 := Try.underlying36
 have HR0 := Aside0.mk hr0
 have HC0 := Aside0.mk hc0
 clear hr0 hc0
 have HB := Aside0.mk (Below.refl w.heap.size w)
 have H : (if (l0.length : Int) > 1048576 then (some true) else ((spec_DrawHeadWrite.f k l0).bind fun bt496 => ((spec_HeadWrite.f k bt496.1 bt496.2.1 bt496.2.2).bind fun bt504 => ((impl_HeadWrite.f k bt496.1 bt496.2.1 bt496.2.2).bind fun bt510 => (if bt510.2.2.toList = bt504.2.2.toList then ((laws_lkTable.f k bt510.1 bt510.2.1 bt504.1 bt504.2.1).bind fun t516 => (if t516 = true then ((spec_TableOk.f k bt496.1 bt496.2.1).bind fun t517 => (if t517 = true then ((spec_HeadOk.f k bt496.2.2).bind fun t518 => (laws_FnHeadAgain.j0 k bt496.2.2 bt504.2.2 bt510.2.2 (!t518) bt504.1 bt504.2.1 bt510.1 bt510.2.1)) else (laws_FnHeadAgain.j0 k bt496.2.2 bt504.2.2 bt510.2.2 true bt504.1 bt504.2.1 bt510.1 bt510.2.1))) else (laws_FnHeadAgain.j0 k bt496.2.2 bt504.2.2 bt510.2.2 true bt504.1 bt504.2.1 bt510.1 bt510.2.1))) else (laws_FnHeadAgain.j0 k bt496.2.2 bt504.2.2 bt510.2.2 true bt504.1 bt504.2.1 bt510.1 bt510.2.1)))))) = some r := h
 clear h
 by_cases c2 : (l0.length : Int) > 1048576
 ·rw [if_pos c2] at H
  have c2b0 : decide (1048576 < (l0.length : Int)) = true := decide_eq_true c2
  have c2b1 : decide (1048576 < l0.length) = true := decide_eq_true (by omega)
  clear c2
  obtain rfl := Option.some.inj H
  go_enter Try.func13, Try.ntmps13
  go_wp2
  go_ret
  exact ⟨ze, zb HB⟩
 ·rw [if_neg c2] at H
  have c2b0 : decide (1048576 < (l0.length : Int)) = false := decide_eq_false c2
  have c2b1 : decide (1048576 < l0.length) = false := decide_eq_false (by omega)
  clear c2
  replace H := Option.bind_eq_some_iff.mp H
  obtain ⟨⟨t496, t499, t500⟩, A30, H⟩ := H
  replace H : ((spec_HeadWrite.f k t496 t499 t500).bind fun bt504 => ((impl_HeadWrite.f k t496 t499 t500).bind fun bt510 => (if bt510.2.2.toList = bt504.2.2.toList then ((laws_lkTable.f k bt510.1 bt510.2.1 bt504.1 bt504.2.1).bind fun t516 => (if t516 = true then ((spec_TableOk.f k t496 t499).bind fun t517 => (if t517 = true then ((spec_HeadOk.f k t500).bind fun t518 => (laws_FnHeadAgain.j0 k t500 bt504.2.2 bt510.2.2 (!t518) bt504.1 bt504.2.1 bt510.1 bt510.2.1)) else (laws_FnHeadAgain.j0 k t500 bt504.2.2 bt510.2.2 true bt504.1 bt504.2.1 bt510.1 bt510.2.1))) else (laws_FnHeadAgain.j0 k t500 bt504.2.2 bt510.2.2 true bt504.1 bt504.2.1 bt510.1 bt510.2.1))) else (laws_FnHeadAgain.j0 k t500 bt504.2.2 bt510.2.2 true bt504.1 bt504.2.1 bt510.1 bt510.2.1)))) = some r := H
  have A3 := Aside0.mk A30
  clear A30
  replace H := Option.bind_eq_some_iff.mp H
  obtain ⟨⟨t504, t507, t508⟩, A40, H⟩ := H
  replace H : ((impl_HeadWrite.f k t496 t499 t500).bind fun bt510 => (if bt510.2.2.toList = t508.toList then ((laws_lkTable.f k bt510.1 bt510.2.1 t504 t507).bind fun t516 => (if t516 = true then ((spec_TableOk.f k t496 t499).bind fun t517 => (if t517 = true then ((spec_HeadOk.f k t500).bind fun t518 => (laws_FnHeadAgain.j0 k t500 t508 bt510.2.2 (!t518) t504 t507 bt510.1 bt510.2.1)) else (laws_FnHeadAgain.j0 k t500 t508 bt510.2.2 true t504 t507 bt510.1 bt510.2.1))) else (laws_FnHeadAgain.j0 k t500 t508 bt510.2.2 true t504 t507 bt510.1 bt510.2.1))) else (laws_FnHeadAgain.j0 k t500 t508 bt510.2.2 true t504 t507 bt510.1 bt510.2.1))) = some r := H
  have A4 := Aside0.mk A40
  clear A40
  replace H := Option.bind_eq_some_iff.mp H
  obtain ⟨⟨t510, t513, t514⟩, A50, H⟩ := H
  replace H : (if t514.toList = t508.toList then ((laws_lkTable.f k t510 t513 t504 t507).bind fun t516 => (if t516 = true then ((spec_TableOk.f k t496 t499).bind fun t517 => (if t517 = true then ((spec_HeadOk.f k t500).bind fun t518 => (laws_FnHeadAgain.j0 k t500 t508 t514 (!t518) t504 t507 t510 t513)) else (laws_FnHeadAgain.j0 k t500 t508 t514 true t504 t507 t510 t513))) else (laws_FnHeadAgain.j0 k t500 t508 t514 true t504 t507 t510 t513))) else (laws_FnHeadAgain.j0 k t500 t508 t514 true t504 t507 t510 t513)) = some r := H
  have A5 := Aside0.mk A50
  clear A50
  have HC6 := Aside0.mk H
  clear H
  go_enter Try.func13, Try.ntmps13
  go_upto_region 6 with (first | ((with_reducible refine gq 37 rfl ?_); refine gl (some 19) Try.func37 #[.slice A0 l0.length c0] ?_; (with_reducible refine (spec_DrawHeadWrite.calls k _ _ l0 t496 t499 t500 _ ?side1 ?side2 A3.out).mono ?_); (case side1 => exact zc HR0.out); (case side2 => exact HC0.out); rintro e w7 ⟨v497, v501, rfl, ho0, ho1, hb⟩; refine ⟨_, rfl, ?_⟩; have HO498 := Aside0.mk (Kd.R_lower ho0 (below_size (zb HB))); have HO502 := Aside0.mk (Kd.R_lower ho1 (below_size (zb HB))); replace HB := Aside0.mk (below_step (zb HB) hb); (try clear hb); (try clear ho0); (try clear ho1)) | ((with_reducible refine gd 3 rfl ?_); refine bx (N := 3) (cs := #[.slice none 0 0, .int .i64 0]) (t := 25) ?_; intro gb503 hg w8 hbox hb; replace HO498 := Aside0.mk (Kd.R_below (zr HO498) hb); replace HO502 := Aside0.mk (Kd.R_below (zr HO502) hb); have BK503 := Aside0.mk (hbox); have GW503 := Aside0.mk ((by rw [hg]; exact (below_size (zb HB)) : w.heap.size ≤ gb503)); have GE503 := Aside0.mk ((by rw [hg]; exact (below_size (zb HB)) : w.heap.size ≤ gb503)); replace HB := Aside0.mk (below_step (zb HB) hb); clear hb hbox hg; obtain ⟨Ao9, co9, eo9⟩ := Kd.R_slice HO498.out; subst eo9; have hcz10_0 : w8.cell? ⟨gb503, 0, none⟩ = some (.slice none 0 0) := (blk_cell BK503.out 0).trans rfl; have hcz10_1 : w8.cell? ⟨gb503, 1, none⟩ = some (.int .i64 0) := (blk_cell BK503.out 1).trans rfl; have hfz10_0 := blk_frozen BK503.out 0; have hfz10_1 := blk_frozen BK503.out 1; obtain ⟨Ao11, co11, eo11⟩ := Kd.R_slice HO502.out; subst eo11) | ((with_reducible refine gq 38 rfl ?_); refine gl (some 25) Try.func38 #[.agg #[.slice Ao9 t496.length co9, .int .i64 t499], .slice Ao11 t500.length co11] ?_; (with_reducible refine (spec_HeadWrite.calls k _ _ t496 t499 _ _ t500 t504 t507 t508 _ ?side1 ?side2 ?side3 ?side4 A4.out).mono ?_); (case side1 => refine (Kd.R_reads' (e := 36) (base := w.heap.size) (ok := fun k_ => some k_ ≠ (.slice Ao11 t500.length co11 : Value).ownBlock) (n := t496.length) (c := co9) ?_).2.2; exact (by (with_reducible repeat (first | apply Kd.R_alloc | apply Kd.R_drewN | apply Kd.R_drew)); exact (Kd.R_mono (Kd.R_far (p := ⟨gb503, 1, none⟩) (Kd.R_far (p := ⟨gb503, 0, none⟩) (Kd.R_types HO498.out BK503.out (by decide)) (fun _ hk => hk.2) (.slice Ao9 t496.length co9)) (fun _ hk => hk.2) (.int .i64 t499)) (fun _ h_ => h_.1)))); (case side2 => exact (Kd.R_reads' HO498.out).2.1); (case side3 => refine (Kd.R_reads' (e := 36) (base := w.heap.size) (ok := fun k_ => some k_ ≠ (.slice Ao9 t496.length co9 : Value).ownBlock) (n := t500.length) (c := co11) ?_).2.2; exact (by (with_reducible repeat (first | apply Kd.R_alloc | apply Kd.R_drewN | apply Kd.R_drew)); exact (Kd.R_mono (Kd.R_far (p := ⟨gb503, 1, none⟩) (Kd.R_far (p := ⟨gb503, 0, none⟩) (Kd.R_types HO502.out BK503.out (by decide)) (fun _ hk => hk.2) (.slice Ao9 t496.length co9)) (fun _ hk => hk.2) (.int .i64 t499)) (fun _ h_ => h_.1)))); (case side4 => exact (Kd.R_reads' HO502.out).2.1); rintro e w12 ⟨v505, rfl, ho0, hb⟩; refine ⟨_, rfl, ?_⟩; have HO506 := Aside0.mk (Kd.R_lower (Kd.R_new' (Kd.R_new' ho0 (Kd.R_lt (by (with_reducible repeat (first | apply Kd.R_alloc | apply Kd.R_drewN | apply Kd.R_drew)); exact (Kd.R_mono (Kd.R_far (p := ⟨gb503, 1, none⟩) (Kd.R_far (p := ⟨gb503, 0, none⟩) (Kd.R_types HO498.out BK503.out (by decide)) (fun _ hk => hk.2) (.slice Ao9 t496.length co9)) (fun _ hk => hk.2) (.int .i64 t499)) (fun _ h_ => h_.1))))) (Kd.R_lt (by (with_reducible repeat (first | apply Kd.R_alloc | apply Kd.R_drewN | apply Kd.R_drew)); exact (Kd.R_mono (Kd.R_far (p := ⟨gb503, 1, none⟩) (Kd.R_far (p := ⟨gb503, 0, none⟩) (Kd.R_types HO502.out BK503.out (by decide)) (fun _ hk => hk.2) (.slice Ao9 t496.length co9)) (fun _ hk => hk.2) (.int .i64 t499)) (fun _ h_ => h_.1))))) (below_size (zb HB))); replace HO498 := Aside0.mk (Kd.R_elder' (by (with_reducible repeat (first | apply Kd.R_alloc | apply Kd.R_drewN | apply Kd.R_drew)); exact (Kd.R_mono (Kd.R_far (p := ⟨gb503, 1, none⟩) (Kd.R_far (p := ⟨gb503, 0, none⟩) (Kd.R_types HO498.out BK503.out (by decide)) (fun _ hk => hk.2) (.slice Ao9 t496.length co9)) (fun _ hk => hk.2) (.int .i64 t499)) (fun _ h_ => h_.1))) (Kd.R_base ho0) hb); replace HO502 := Aside0.mk (Kd.R_elder' (by (with_reducible repeat (first | apply Kd.R_alloc | apply Kd.R_drewN | apply Kd.R_drew)); exact (Kd.R_mono (Kd.R_far (p := ⟨gb503, 1, none⟩) (Kd.R_far (p := ⟨gb503, 0, none⟩) (Kd.R_types HO502.out BK503.out (by decide)) (fun _ hk => hk.2) (.slice Ao9 t496.length co9)) (fun _ hk => hk.2) (.int .i64 t499)) (fun _ h_ => h_.1))) (Kd.R_base ho0) hb); replace BK503 := Aside0.mk (blk_below (g := gb503) (o := .cells #[.slice Ao9 t496.length co9, .int .i64 t499] 25 (0, 0)) (by (with_reducible repeat (first | refine blk_drewN ?_ _ | refine blk_drew ?_ | refine blk_alloc ?_ _)); refine blk_put (cs := #[.slice Ao9 t496.length co9, .int .i64 0]) ?_ 1 _ rfl; (with_reducible repeat (first | refine blk_drewN ?_ _ | refine blk_drew ?_ | refine blk_alloc ?_ _)); refine blk_put (cs := #[.slice none 0 0, .int .i64 0]) ?_ 0 _ rfl; exact zk BK503) hb); replace HB := Aside0.mk (below_step (zb HB) hb); (try clear hb); (try clear hk); (try clear ho0)) | ((with_reducible refine gd 5 rfl ?_); refine bx (N := 5) (cs := #[.slice none 0 0, .int .i64 0]) (t := 25) ?_; intro gb509 hg w13 hbox hb; replace HO498 := Aside0.mk (Kd.R_below (zr HO498) hb); replace HO502 := Aside0.mk (Kd.R_below (zr HO502) hb); replace HO506 := Aside0.mk (Kd.R_below (zr HO506) hb); have BK509 := Aside0.mk (hbox); have GW509 := Aside0.mk ((by rw [hg]; exact (below_size (zb HB)) : w.heap.size ≤ gb509)); have GE509 := Aside0.mk ((by rw [hg]; exact (below_size (zb HB)) : w.heap.size ≤ gb509)); replace HB := Aside0.mk (below_step (zb HB) hb); have NB503_509 := Aside0.mk ((by rw [hg]; exact Nat.ne_of_lt (blk_lt (g := gb503) (o := .cells #[.slice Ao9 t496.length co9, .int .i64 t499] 25 (0, 0)) (zk BK503)) : gb503 ≠ gb509)); have NB509_503 := Aside0.mk ((by rw [hg]; exact Nat.ne_of_gt (blk_lt (g := gb503) (o := .cells #[.slice Ao9 t496.length co9, .int .i64 t499] 25 (0, 0)) (zk BK503)) : gb509 ≠ gb503)); replace BK503 := Aside0.mk (blk_below (g := gb503) (o := .cells #[.slice Ao9 t496.length co9, .int .i64 t499] 25 (0, 0)) (zk BK503) hb); clear hb hbox hg; obtain ⟨Ao14, co14, eo14⟩ := Kd.R_slice HO506.out; subst eo14; have hnb15 := NB509_503.out; have hnc15 := NB503_509.out; have hcz16_0 : w13.cell? ⟨gb509, 0, none⟩ = some (.slice none 0 0) := (blk_cell BK509.out 0).trans rfl; have hcz16_1 : w13.cell? ⟨gb509, 1, none⟩ = some (.int .i64 0) := (blk_cell BK509.out 1).trans rfl; have hfz16_0 := blk_frozen BK509.out 0; have hfz16_1 := blk_frozen BK509.out 1; have hcz17_0 : w13.cell? ⟨gb503, 0, none⟩ = some (.slice Ao9 t496.length co9) := (blk_cell BK503.out 0).trans rfl; have hcz17_1 : w13.cell? ⟨gb503, 1, none⟩ = some (.int .i64 t499) := (blk_cell BK503.out 1).trans rfl; have hfz17_0 := blk_frozen BK503.out 0; have hfz17_1 := blk_frozen BK503.out 1) | ((with_reducible refine gq 39 rfl ?_); refine gl (some 31) Try.func39 #[.agg #[.slice Ao9 t496.length co9, .int .i64 t499], .slice Ao11 t500.length co11] ?_; (with_reducible refine (impl_HeadWrite.calls k _ _ t496 t499 _ _ t500 t510 t513 t514 _ ?side1 ?side2 ?side3 ?side4 A5.out).mono ?_); (case side1 => refine (Kd.R_reads' (e := 36) (base := w.heap.size) (ok := fun k_ => (some k_ ≠ (.slice Ao11 t500.length co11 : Value).ownBlock ∧ some k_ ≠ (.slice Ao14 t504.length co14 : Value).ownBlock)) (n := t496.length) (c := co9) ?_).2.2; exact (by (with_reducible repeat (first | apply Kd.R_alloc | apply Kd.R_drewN | apply Kd.R_drew)); exact (Kd.R_mono (Kd.R_far (p := ⟨gb509, 1, none⟩) (Kd.R_far (p := ⟨gb509, 0, none⟩) (Kd.R_types HO498.out BK509.out (by decide)) (fun _ hk => hk.2) (.slice Ao14 t504.length co14)) (fun _ hk => hk.2) (.int .i64 t507)) (fun _ h_ => h_.1)))); (case side2 => exact (Kd.R_reads' HO498.out).2.1); (case side3 => refine (Kd.R_reads' (e := 36) (base := w.heap.size) (ok := fun k_ => (some k_ ≠ (.slice Ao9 t496.length co9 : Value).ownBlock ∧ some k_ ≠ (.slice Ao14 t504.length co14 : Value).ownBlock)) (n := t500.length) (c := co11) ?_).2.2; exact (by (with_reducible repeat (first | apply Kd.R_alloc | apply Kd.R_drewN | apply Kd.R_drew)); exact (Kd.R_mono (Kd.R_far (p := ⟨gb509, 1, none⟩) (Kd.R_far (p := ⟨gb509, 0, none⟩) (Kd.R_types HO502.out BK509.out (by decide)) (fun _ hk => hk.2) (.slice Ao14 t504.length co14)) (fun _ hk => hk.2) (.int .i64 t507)) (fun _ h_ => h_.1)))); (case side4 => exact (Kd.R_reads' HO502.out).2.1); rintro e w18 ⟨v511, rfl, ho0, hb⟩; refine ⟨_, rfl, ?_⟩; have HO512 := Aside0.mk (Kd.R_lower (Kd.R_new' (Kd.R_new' (Kd.R_new' ho0 (Kd.R_lt (by (with_reducible repeat (first | apply Kd.R_alloc | apply Kd.R_drewN | apply Kd.R_drew)); exact (Kd.R_mono (Kd.R_far (p := ⟨gb509, 1, none⟩) (Kd.R_far (p := ⟨gb509, 0, none⟩) (Kd.R_types HO498.out BK509.out (by decide)) (fun _ hk => hk.2) (.slice Ao14 t504.length co14)) (fun _ hk => hk.2) (.int .i64 t507)) (fun _ h_ => h_.1))))) (Kd.R_lt (by (with_reducible repeat (first | apply Kd.R_alloc | apply Kd.R_drewN | apply Kd.R_drew)); exact (Kd.R_mono (Kd.R_far (p := ⟨gb509, 1, none⟩) (Kd.R_far (p := ⟨gb509, 0, none⟩) (Kd.R_types HO502.out BK509.out (by decide)) (fun _ hk => hk.2) (.slice Ao14 t504.length co14)) (fun _ hk => hk.2) (.int .i64 t507)) (fun _ h_ => h_.1))))) (Kd.R_lt (by (with_reducible repeat (first | apply Kd.R_alloc | apply Kd.R_drewN | apply Kd.R_drew)); exact (Kd.R_mono (Kd.R_far (p := ⟨gb509, 1, none⟩) (Kd.R_far (p := ⟨gb509, 0, none⟩) (Kd.R_types HO506.out BK509.out (by decide)) (fun _ hk => hk.2) (.slice Ao14 t504.length co14)) (fun _ hk => hk.2) (.int .i64 t507)) (fun _ h_ => h_.1))))) (below_size (zb HB))); replace HO498 := Aside0.mk (Kd.R_elder' (by (with_reducible repeat (first | apply Kd.R_alloc | apply Kd.R_drewN | apply Kd.R_drew)); exact (Kd.R_mono (Kd.R_far (p := ⟨gb509, 1, none⟩) (Kd.R_far (p := ⟨gb509, 0, none⟩) (Kd.R_types HO498.out BK509.out (by decide)) (fun _ hk => hk.2) (.slice Ao14 t504.length co14)) (fun _ hk => hk.2) (.int .i64 t507)) (fun _ h_ => h_.1))) (Kd.R_base ho0) hb); replace HO502 := Aside0.mk (Kd.R_elder' (by (with_reducible repeat (first | apply Kd.R_alloc | apply Kd.R_drewN | apply Kd.R_drew)); exact (Kd.R_mono (Kd.R_far (p := ⟨gb509, 1, none⟩) (Kd.R_far (p := ⟨gb509, 0, none⟩) (Kd.R_types HO502.out BK509.out (by decide)) (fun _ hk => hk.2) (.slice Ao14 t504.length co14)) (fun _ hk => hk.2) (.int .i64 t507)) (fun _ h_ => h_.1))) (Kd.R_base ho0) hb); replace HO506 := Aside0.mk (Kd.R_elder' (by (with_reducible repeat (first | apply Kd.R_alloc | apply Kd.R_drewN | apply Kd.R_drew)); exact (Kd.R_mono (Kd.R_far (p := ⟨gb509, 1, none⟩) (Kd.R_far (p := ⟨gb509, 0, none⟩) (Kd.R_types HO506.out BK509.out (by decide)) (fun _ hk => hk.2) (.slice Ao14 t504.length co14)) (fun _ hk => hk.2) (.int .i64 t507)) (fun _ h_ => h_.1))) (Kd.R_base ho0) hb); replace BK503 := Aside0.mk (blk_below (g := gb503) (o := .cells #[.slice Ao9 t496.length co9, .int .i64 t499] 25 (0, 0)) (by (with_reducible repeat (first | refine blk_drewN ?_ _ | refine blk_drew ?_ | refine blk_alloc ?_ _)); refine blk_far ?_ NB503_509.out _; (with_reducible repeat (first | refine blk_drewN ?_ _ | refine blk_drew ?_ | refine blk_alloc ?_ _)); refine blk_far ?_ NB503_509.out _; exact zk BK503) hb); replace BK509 := Aside0.mk (blk_below (g := gb509) (o := .cells #[.slice Ao14 t504.length co14, .int .i64 t507] 25 (0, 0)) (by (with_reducible repeat (first | refine blk_drewN ?_ _ | refine blk_drew ?_ | refine blk_alloc ?_ _)); refine blk_put (cs := #[.slice Ao14 t504.length co14, .int .i64 0]) ?_ 1 _ rfl; (with_reducible repeat (first | refine blk_drewN ?_ _ | refine blk_drew ?_ | refine blk_alloc ?_ _)); refine blk_put (cs := #[.slice none 0 0, .int .i64 0]) ?_ 0 _ rfl; exact zk BK509) hb); replace HB := Aside0.mk (below_step (zb HB) hb); (try clear hb); (try clear hk); (try clear ho0)) | ((with_reducible refine gd 7 rfl ?_); refine bx (N := 7) (cs := #[.slice none 0 0, .int .i64 0]) (t := 25) ?_; intro gb515 hg w19 hbox hb; replace HO498 := Aside0.mk (Kd.R_below (zr HO498) hb); replace HO502 := Aside0.mk (Kd.R_below (zr HO502) hb); replace HO506 := Aside0.mk (Kd.R_below (zr HO506) hb); replace HO512 := Aside0.mk (Kd.R_below (zr HO512) hb); have BK515 := Aside0.mk (hbox); have GW515 := Aside0.mk ((by rw [hg]; exact (below_size (zb HB)) : w.heap.size ≤ gb515)); have GE515 := Aside0.mk ((by rw [hg]; exact (below_size (zb HB)) : w.heap.size ≤ gb515)); replace HB := Aside0.mk (below_step (zb HB) hb); have NB503_515 := Aside0.mk ((by rw [hg]; exact Nat.ne_of_lt (blk_lt (g := gb503) (o := .cells #[.slice Ao9 t496.length co9, .int .i64 t499] 25 (0, 0)) (zk BK503)) : gb503 ≠ gb515)); have NB515_503 := Aside0.mk ((by rw [hg]; exact Nat.ne_of_gt (blk_lt (g := gb503) (o := .cells #[.slice Ao9 t496.length co9, .int .i64 t499] 25 (0, 0)) (zk BK503)) : gb515 ≠ gb503)); replace BK503 := Aside0.mk (blk_below (g := gb503) (o := .cells #[.slice Ao9 t496.length co9, .int .i64 t499] 25 (0, 0)) (zk BK503) hb); have NB509_515 := Aside0.mk ((by rw [hg]; exact Nat.ne_of_lt (blk_lt (g := gb509) (o := .cells #[.slice Ao14 t504.length co14, .int .i64 t507] 25 (0, 0)) (zk BK509)) : gb509 ≠ gb515)); have NB515_509 := Aside0.mk ((by rw [hg]; exact Nat.ne_of_gt (blk_lt (g := gb509) (o := .cells #[.slice Ao14 t504.length co14, .int .i64 t507] 25 (0, 0)) (zk BK509)) : gb515 ≠ gb509)); replace BK509 := Aside0.mk (blk_below (g := gb509) (o := .cells #[.slice Ao14 t504.length co14, .int .i64 t507] 25 (0, 0)) (zk BK509) hb); clear hb hbox hg; obtain ⟨Ao20, co20, eo20⟩ := Kd.R_slice HO512.out; subst eo20; have hnb21 := NB515_503.out; have hnc21 := NB503_515.out; have hnb22 := NB515_509.out; have hnc22 := NB509_515.out; have hcz23_0 : w19.cell? ⟨gb515, 0, none⟩ = some (.slice none 0 0) := (blk_cell BK515.out 0).trans rfl; have hcz23_1 : w19.cell? ⟨gb515, 1, none⟩ = some (.int .i64 0) := (blk_cell BK515.out 1).trans rfl; have hfz23_0 := blk_frozen BK515.out 0; have hfz23_1 := blk_frozen BK515.out 1))
  (try simp only [Act.put, s1, s2, s3])
  go_cut [52] (fun v52 wc => ∃ (kq : Nat) (x52_5 : Bool), v52 = .bool x52_5 ∧ Aside0 (laws_FnHeadAgain.j0 kq t500 t508 t514 x52_5 t504 t507 t510 t513 = some r) ∧ Aside0 (kq ≤ k) ∧ Aside0 (Kd.R k36 36 wc w.heap.size (fun k_ => some k_ ≠ ((.slice Ao9 t496.length co9) : Value).ownBlock ∧ some k_ ≠ ((.slice Ao14 t504.length co14) : Value).ownBlock ∧ some k_ ≠ ((.slice Ao20 t510.length co20) : Value).ownBlock) (.slice Ao11 t500.length co11) t500) ∧ Aside0 (Kd.R k36 36 wc w.heap.size (fun k_ => some k_ ≠ ((.slice Ao11 t500.length co11) : Value).ownBlock ∧ some k_ ≠ ((.slice Ao14 t504.length co14) : Value).ownBlock ∧ some k_ ≠ ((.slice Ao20 t510.length co20) : Value).ownBlock) (.slice Ao9 t496.length co9) t496) ∧ Aside0 (Kd.R k36 36 wc w.heap.size (fun k_ => some k_ ≠ ((.slice Ao11 t500.length co11) : Value).ownBlock ∧ some k_ ≠ ((.slice Ao9 t496.length co9) : Value).ownBlock ∧ some k_ ≠ ((.slice Ao20 t510.length co20) : Value).ownBlock) (.slice Ao14 t504.length co14) t504) ∧ Aside0 (Kd.R k36 36 wc w.heap.size (fun k_ => some k_ ≠ ((.slice Ao11 t500.length co11) : Value).ownBlock ∧ some k_ ≠ ((.slice Ao9 t496.length co9) : Value).ownBlock ∧ some k_ ≠ ((.slice Ao14 t504.length co14) : Value).ownBlock) (.slice Ao20 t510.length co20) t510) ∧ Aside0 (wc.heap[gb503]? = some (.cells #[(.slice Ao9 t496.length co9), .int .i64 t499] 25 (0, 0))) ∧ Aside0 (wc.heap[gb509]? = some (.cells #[(.slice Ao14 t504.length co14), .int .i64 t507] 25 (0, 0))) ∧ Aside0 (wc.heap[gb515]? = some (.cells #[(.slice Ao20 t510.length co20), .int .i64 t513] 25 (0, 0))) ∧ Aside0 (Below w.heap.size w wc))
  case first =>
   have H := HC6.out
   clear HC6
   by_cases c24 : t514.toList = t508.toList
   ·rw [if_pos c24] at H
    have c24b0 : (t514.toList == t508.toList) = true := beq_iff_eq.mpr c24
    have c24b1 : (t514.toList != t508.toList) = false := bne_eq_false_iff_eq.mpr c24
    clear c24
    (first | rw [c24b0] | rw [c24b1] | (simp only [i64_w, i32_w]; rw [c24b0]) | skip)
    replace H := Option.bind_eq_some_iff.mp H
    obtain ⟨t516, A250, H⟩ := H
    replace H : (if t516 = true then ((spec_TableOk.f k t496 t499).bind fun t517 => (if t517 = true then ((spec_HeadOk.f k t500).bind fun t518 => (laws_FnHeadAgain.j0 k t500 t508 t514 (!t518) t504 t507 t510 t513)) else (laws_FnHeadAgain.j0 k t500 t508 t514 true t504 t507 t510 t513))) else (laws_FnHeadAgain.j0 k t500 t508 t514 true t504 t507 t510 t513)) = some r := H
    have A25 := Aside0.mk A250
    clear A250
    by_cases c26 : t516 = true
    ·subst c26
     have H1 : ((spec_TableOk.f k t496 t499).bind fun t517 => (if t517 = true then ((spec_HeadOk.f k t500).bind fun t518 => (laws_FnHeadAgain.j0 k t500 t508 t514 (!t518) t504 t507 t510 t513)) else (laws_FnHeadAgain.j0 k t500 t508 t514 true t504 t507 t510 t513))) = some r := by rw [if_pos rfl] at H; exact H
     clear H
     have H := H1
     clear H1
     replace H := Option.bind_eq_some_iff.mp H
     obtain ⟨t517, A270, H⟩ := H
     replace H : (if t517 = true then ((spec_HeadOk.f k t500).bind fun t518 => (laws_FnHeadAgain.j0 k t500 t508 t514 (!t518) t504 t507 t510 t513)) else (laws_FnHeadAgain.j0 k t500 t508 t514 true t504 t507 t510 t513)) = some r := H
     have A27 := Aside0.mk A270
     clear A270
     by_cases c28 : t517 = true
     ·subst c28
      have H1 : ((spec_HeadOk.f k t500).bind fun t518 => (laws_FnHeadAgain.j0 k t500 t508 t514 (!t518) t504 t507 t510 t513)) = some r := by rw [if_pos rfl] at H; exact H
      clear H
      have H := H1
      clear H1
      replace H := Option.bind_eq_some_iff.mp H
      obtain ⟨t518, A290, H⟩ := H
      replace H : (laws_FnHeadAgain.j0 k t500 t508 t514 (!t518) t504 t507 t510 t513) = some r := H
      have A29 := Aside0.mk A290
      clear A290
      have H' := Aside0.mk H
      clear H
      have hnb30 := NB515_503.out
      have hnc30 := NB503_515.out
      have hnb31 := NB515_509.out
      have hnc31 := NB509_515.out
      have hcz32_0 : w19.cell? ⟨gb515, 0, none⟩ = some (.slice none 0 0) := (blk_cell BK515.out 0).trans rfl
      have hcz32_1 : w19.cell? ⟨gb515, 1, none⟩ = some (.int .i64 0) := (blk_cell BK515.out 1).trans rfl
      have hfz32_0 := blk_frozen BK515.out 0
      have hfz32_1 := blk_frozen BK515.out 1
      have hnb33 := NB509_503.out
      have hnc33 := NB503_509.out
      have hcz34_0 : w19.cell? ⟨gb509, 0, none⟩ = some (.slice Ao14 t504.length co14) := (blk_cell BK509.out 0).trans rfl
      have hcz34_1 : w19.cell? ⟨gb509, 1, none⟩ = some (.int .i64 t507) := (blk_cell BK509.out 1).trans rfl
      have hfz34_0 := blk_frozen BK509.out 0
      have hfz34_1 := blk_frozen BK509.out 1
      go_wp2_with (first | (go_at_call 17; (with_reducible refine (laws_lkTable.calls k _ _ t510 t513 _ _ t504 t507 true _ ?side1 ?side2 ?side3 ?side4 A25.out).mono ?_); (case side1 => refine (Kd.R_reads' (e := 36) (base := w.heap.size) (ok := fun k_ => (((True ∧ some k_ ≠ (.slice Ao9 t496.length co9 : Value).ownBlock) ∧ some k_ ≠ (.slice Ao11 t500.length co11 : Value).ownBlock) ∧ some k_ ≠ (.slice Ao14 t504.length co14 : Value).ownBlock)) (n := t510.length) (c := co20) ?_).2.2; exact (by (with_reducible repeat (first | apply Kd.R_alloc | apply Kd.R_drewN | apply Kd.R_drew)); exact (Kd.R_mono (Kd.R_far (p := ⟨gb515, 1, none⟩) (Kd.R_far (p := ⟨gb515, 0, none⟩) (Kd.R_types HO512.out BK515.out (by decide)) (fun _ hk => hk.2) (.slice Ao20 t510.length co20)) (fun _ hk => hk.2) (.int .i64 t513)) (fun _ h_ => h_.1)))); (case side2 => exact (Kd.R_reads' HO512.out).2.1); (case side3 => refine (Kd.R_reads' (e := 36) (base := w.heap.size) (ok := fun k_ => (((True ∧ some k_ ≠ (.slice Ao9 t496.length co9 : Value).ownBlock) ∧ some k_ ≠ (.slice Ao11 t500.length co11 : Value).ownBlock) ∧ some k_ ≠ (.slice Ao20 t510.length co20 : Value).ownBlock)) (n := t504.length) (c := co14) ?_).2.2; exact (by (with_reducible repeat (first | apply Kd.R_alloc | apply Kd.R_drewN | apply Kd.R_drew)); exact (Kd.R_mono (Kd.R_far (p := ⟨gb515, 1, none⟩) (Kd.R_far (p := ⟨gb515, 0, none⟩) (Kd.R_types HO506.out BK515.out (by decide)) (fun _ hk => hk.2) (.slice Ao20 t510.length co20)) (fun _ hk => hk.2) (.int .i64 t513)) (fun _ h_ => h_.1)))); (case side4 => exact (Kd.R_reads' HO506.out).2.1); rintro e w35 ⟨rfl, hb⟩; replace HO498 := Aside0.mk (Kd.R_below (by (with_reducible repeat (first | apply Kd.R_alloc | apply Kd.R_drewN | apply Kd.R_drew)); exact (Kd.R_mono (Kd.R_far (p := ⟨gb515, 1, none⟩) (Kd.R_far (p := ⟨gb515, 0, none⟩) (Kd.R_types HO498.out BK515.out (by decide)) (fun _ hk => hk.2) (.slice Ao20 t510.length co20)) (fun _ hk => hk.2) (.int .i64 t513)) (fun _ h_ => h_.1))) hb); replace HO502 := Aside0.mk (Kd.R_below (by (with_reducible repeat (first | apply Kd.R_alloc | apply Kd.R_drewN | apply Kd.R_drew)); exact (Kd.R_mono (Kd.R_far (p := ⟨gb515, 1, none⟩) (Kd.R_far (p := ⟨gb515, 0, none⟩) (Kd.R_types HO502.out BK515.out (by decide)) (fun _ hk => hk.2) (.slice Ao20 t510.length co20)) (fun _ hk => hk.2) (.int .i64 t513)) (fun _ h_ => h_.1))) hb); replace HO506 := Aside0.mk (Kd.R_below (by (with_reducible repeat (first | apply Kd.R_alloc | apply Kd.R_drewN | apply Kd.R_drew)); exact (Kd.R_mono (Kd.R_far (p := ⟨gb515, 1, none⟩) (Kd.R_far (p := ⟨gb515, 0, none⟩) (Kd.R_types HO506.out BK515.out (by decide)) (fun _ hk => hk.2) (.slice Ao20 t510.length co20)) (fun _ hk => hk.2) (.int .i64 t513)) (fun _ h_ => h_.1))) hb); replace HO512 := Aside0.mk (Kd.R_below (by (with_reducible repeat (first | apply Kd.R_alloc | apply Kd.R_drewN | apply Kd.R_drew)); exact (Kd.R_mono (Kd.R_far (p := ⟨gb515, 1, none⟩) (Kd.R_far (p := ⟨gb515, 0, none⟩) (Kd.R_types HO512.out BK515.out (by decide)) (fun _ hk => hk.2) (.slice Ao20 t510.length co20)) (fun _ hk => hk.2) (.int .i64 t513)) (fun _ h_ => h_.1))) hb); replace BK503 := Aside0.mk (blk_below (g := gb503) (o := .cells #[.slice Ao9 t496.length co9, .int .i64 t499] 25 (0, 0)) (by (with_reducible repeat (first | refine blk_drewN ?_ _ | refine blk_drew ?_ | refine blk_alloc ?_ _)); refine blk_far ?_ NB503_515.out _; (with_reducible repeat (first | refine blk_drewN ?_ _ | refine blk_drew ?_ | refine blk_alloc ?_ _)); refine blk_far ?_ NB503_515.out _; exact zk BK503) hb); replace BK509 := Aside0.mk (blk_below (g := gb509) (o := .cells #[.slice Ao14 t504.length co14, .int .i64 t507] 25 (0, 0)) (by (with_reducible repeat (first | refine blk_drewN ?_ _ | refine blk_drew ?_ | refine blk_alloc ?_ _)); refine blk_far ?_ NB509_515.out _; (with_reducible repeat (first | refine blk_drewN ?_ _ | refine blk_drew ?_ | refine blk_alloc ?_ _)); refine blk_far ?_ NB509_515.out _; exact zk BK509) hb); replace BK515 := Aside0.mk (blk_below (g := gb515) (o := .cells #[.slice Ao20 t510.length co20, .int .i64 t513] 25 (0, 0)) (by (with_reducible repeat (first | refine blk_drewN ?_ _ | refine blk_drew ?_ | refine blk_alloc ?_ _)); refine blk_put (cs := #[.slice Ao20 t510.length co20, .int .i64 0]) ?_ 1 _ rfl; (with_reducible repeat (first | refine blk_drewN ?_ _ | refine blk_drew ?_ | refine blk_alloc ?_ _)); refine blk_put (cs := #[.slice none 0 0, .int .i64 0]) ?_ 0 _ rfl; exact zk BK515) hb); replace HB := Aside0.mk (below_step (zb HB) hb); (try clear hb); (try clear hk); have hcz36_0 : w35.cell? ⟨gb503, 0, none⟩ = some (.slice Ao9 t496.length co9) := (blk_cell BK503.out 0).trans rfl; have hcz36_1 : w35.cell? ⟨gb503, 1, none⟩ = some (.int .i64 t499) := (blk_cell BK503.out 1).trans rfl; have hfz36_0 := blk_frozen BK503.out 0; have hfz36_1 := blk_frozen BK503.out 1) | (go_at_call 19; (with_reducible refine (spec_TableOk.calls k _ _ t496 t499 true _ ?side1 ?side2 A27.out).mono ?_); (case side1 => exact zc (Kd.R_reads' HO498.out).2.2); (case side2 => exact (Kd.R_reads' HO498.out).2.1); rintro e w37 ⟨rfl, hb⟩; replace HO498 := Aside0.mk (Kd.R_below (zr HO498) hb); replace HO502 := Aside0.mk (Kd.R_below (zr HO502) hb); replace HO506 := Aside0.mk (Kd.R_below (zr HO506) hb); replace HO512 := Aside0.mk (Kd.R_below (zr HO512) hb); replace BK503 := Aside0.mk (blk_below (g := gb503) (o := .cells #[.slice Ao9 t496.length co9, .int .i64 t499] 25 (0, 0)) (zk BK503) hb); replace BK509 := Aside0.mk (blk_below (g := gb509) (o := .cells #[.slice Ao14 t504.length co14, .int .i64 t507] 25 (0, 0)) (zk BK509) hb); replace BK515 := Aside0.mk (blk_below (g := gb515) (o := .cells #[.slice Ao20 t510.length co20, .int .i64 t513] 25 (0, 0)) (zk BK515) hb); replace HB := Aside0.mk (below_step (zb HB) hb); (try clear hb)) | (go_at_call 40; (with_reducible refine (spec_HeadOk.calls k _ _ t500 t518 _ ?side1 ?side2 A29.out).mono ?_); (case side1 => exact zc (Kd.R_reads' HO502.out).2.2); (case side2 => exact (Kd.R_reads' HO502.out).2.1); rintro e w38 ⟨rfl, hb⟩; replace HO498 := Aside0.mk (Kd.R_below (zr HO498) hb); replace HO502 := Aside0.mk (Kd.R_below (zr HO502) hb); replace HO506 := Aside0.mk (Kd.R_below (zr HO506) hb); replace HO512 := Aside0.mk (Kd.R_below (zr HO512) hb); replace BK503 := Aside0.mk (blk_below (g := gb503) (o := .cells #[.slice Ao9 t496.length co9, .int .i64 t499] 25 (0, 0)) (zk BK503) hb); replace BK509 := Aside0.mk (blk_below (g := gb509) (o := .cells #[.slice Ao14 t504.length co14, .int .i64 t507] 25 (0, 0)) (zk BK509) hb); replace BK515 := Aside0.mk (blk_below (g := gb515) (o := .cells #[.slice Ao20 t510.length co20, .int .i64 t513] 25 (0, 0)) (zk BK515) hb); replace HB := Aside0.mk (below_step (zb HB) hb); (try clear hb)))
      go_meet
      case rel => exact ⟨_, (!t518), zs, H', ⟨by first | omega | exact Nat.le_refl _⟩, ⟨by (with_reducible repeat (first | apply Kd.R_alloc | apply Kd.R_drewN | apply Kd.R_drew)); exact Kd.R_mono HO502.out (fun _ hk => ⟨hk.1.1, ⟨hk.1.2, hk.2⟩⟩)⟩, ⟨by (with_reducible repeat (first | apply Kd.R_alloc | apply Kd.R_drewN | apply Kd.R_drew)); exact Kd.R_mono HO498.out (fun _ hk => ⟨hk.1.1, ⟨hk.1.2, hk.2⟩⟩)⟩, ⟨by (with_reducible repeat (first | apply Kd.R_alloc | apply Kd.R_drewN | apply Kd.R_drew)); exact Kd.R_mono HO506.out (fun _ hk => ⟨hk.1.2, ⟨hk.1.1.2, hk.2⟩⟩)⟩, ⟨by (with_reducible repeat (first | apply Kd.R_alloc | apply Kd.R_drewN | apply Kd.R_drew)); exact Kd.R_mono HO512.out (fun _ hk => ⟨hk.1.2, ⟨hk.1.1.2, hk.2⟩⟩)⟩, ⟨by exact zk BK503⟩, ⟨by exact zk BK509⟩, ⟨by exact zk BK515⟩, ⟨zb HB⟩⟩
     ·replace c28 := Bool.eq_false_iff.mpr c28
      subst c28
      have H1 : (laws_FnHeadAgain.j0 k t500 t508 t514 true t504 t507 t510 t513) = some r := by rw [if_neg (show ¬ (false = true) by decide)] at H; exact H
      clear H
      have H := H1
      clear H1
      have H' := Aside0.mk H
      clear H
      have hnb39 := NB515_503.out
      have hnc39 := NB503_515.out
      have hnb40 := NB515_509.out
      have hnc40 := NB509_515.out
      have hcz41_0 : w19.cell? ⟨gb515, 0, none⟩ = some (.slice none 0 0) := (blk_cell BK515.out 0).trans rfl
      have hcz41_1 : w19.cell? ⟨gb515, 1, none⟩ = some (.int .i64 0) := (blk_cell BK515.out 1).trans rfl
      have hfz41_0 := blk_frozen BK515.out 0
      have hfz41_1 := blk_frozen BK515.out 1
      have hnb42 := NB509_503.out
      have hnc42 := NB503_509.out
      have hcz43_0 : w19.cell? ⟨gb509, 0, none⟩ = some (.slice Ao14 t504.length co14) := (blk_cell BK509.out 0).trans rfl
      have hcz43_1 : w19.cell? ⟨gb509, 1, none⟩ = some (.int .i64 t507) := (blk_cell BK509.out 1).trans rfl
      have hfz43_0 := blk_frozen BK509.out 0
      have hfz43_1 := blk_frozen BK509.out 1
      go_wp2_with (first | (go_at_call 17; (with_reducible refine (laws_lkTable.calls k _ _ t510 t513 _ _ t504 t507 true _ ?side1 ?side2 ?side3 ?side4 A25.out).mono ?_); (case side1 => refine (Kd.R_reads' (e := 36) (base := w.heap.size) (ok := fun k_ => (((True ∧ some k_ ≠ (.slice Ao9 t496.length co9 : Value).ownBlock) ∧ some k_ ≠ (.slice Ao11 t500.length co11 : Value).ownBlock) ∧ some k_ ≠ (.slice Ao14 t504.length co14 : Value).ownBlock)) (n := t510.length) (c := co20) ?_).2.2; exact (by (with_reducible repeat (first | apply Kd.R_alloc | apply Kd.R_drewN | apply Kd.R_drew)); exact (Kd.R_mono (Kd.R_far (p := ⟨gb515, 1, none⟩) (Kd.R_far (p := ⟨gb515, 0, none⟩) (Kd.R_types HO512.out BK515.out (by decide)) (fun _ hk => hk.2) (.slice Ao20 t510.length co20)) (fun _ hk => hk.2) (.int .i64 t513)) (fun _ h_ => h_.1)))); (case side2 => exact (Kd.R_reads' HO512.out).2.1); (case side3 => refine (Kd.R_reads' (e := 36) (base := w.heap.size) (ok := fun k_ => (((True ∧ some k_ ≠ (.slice Ao9 t496.length co9 : Value).ownBlock) ∧ some k_ ≠ (.slice Ao11 t500.length co11 : Value).ownBlock) ∧ some k_ ≠ (.slice Ao20 t510.length co20 : Value).ownBlock)) (n := t504.length) (c := co14) ?_).2.2; exact (by (with_reducible repeat (first | apply Kd.R_alloc | apply Kd.R_drewN | apply Kd.R_drew)); exact (Kd.R_mono (Kd.R_far (p := ⟨gb515, 1, none⟩) (Kd.R_far (p := ⟨gb515, 0, none⟩) (Kd.R_types HO506.out BK515.out (by decide)) (fun _ hk => hk.2) (.slice Ao20 t510.length co20)) (fun _ hk => hk.2) (.int .i64 t513)) (fun _ h_ => h_.1)))); (case side4 => exact (Kd.R_reads' HO506.out).2.1); rintro e w44 ⟨rfl, hb⟩; replace HO498 := Aside0.mk (Kd.R_below (by (with_reducible repeat (first | apply Kd.R_alloc | apply Kd.R_drewN | apply Kd.R_drew)); exact (Kd.R_mono (Kd.R_far (p := ⟨gb515, 1, none⟩) (Kd.R_far (p := ⟨gb515, 0, none⟩) (Kd.R_types HO498.out BK515.out (by decide)) (fun _ hk => hk.2) (.slice Ao20 t510.length co20)) (fun _ hk => hk.2) (.int .i64 t513)) (fun _ h_ => h_.1))) hb); replace HO502 := Aside0.mk (Kd.R_below (by (with_reducible repeat (first | apply Kd.R_alloc | apply Kd.R_drewN | apply Kd.R_drew)); exact (Kd.R_mono (Kd.R_far (p := ⟨gb515, 1, none⟩) (Kd.R_far (p := ⟨gb515, 0, none⟩) (Kd.R_types HO502.out BK515.out (by decide)) (fun _ hk => hk.2) (.slice Ao20 t510.length co20)) (fun _ hk => hk.2) (.int .i64 t513)) (fun _ h_ => h_.1))) hb); replace HO506 := Aside0.mk (Kd.R_below (by (with_reducible repeat (first | apply Kd.R_alloc | apply Kd.R_drewN | apply Kd.R_drew)); exact (Kd.R_mono (Kd.R_far (p := ⟨gb515, 1, none⟩) (Kd.R_far (p := ⟨gb515, 0, none⟩) (Kd.R_types HO506.out BK515.out (by decide)) (fun _ hk => hk.2) (.slice Ao20 t510.length co20)) (fun _ hk => hk.2) (.int .i64 t513)) (fun _ h_ => h_.1))) hb); replace HO512 := Aside0.mk (Kd.R_below (by (with_reducible repeat (first | apply Kd.R_alloc | apply Kd.R_drewN | apply Kd.R_drew)); exact (Kd.R_mono (Kd.R_far (p := ⟨gb515, 1, none⟩) (Kd.R_far (p := ⟨gb515, 0, none⟩) (Kd.R_types HO512.out BK515.out (by decide)) (fun _ hk => hk.2) (.slice Ao20 t510.length co20)) (fun _ hk => hk.2) (.int .i64 t513)) (fun _ h_ => h_.1))) hb); replace BK503 := Aside0.mk (blk_below (g := gb503) (o := .cells #[.slice Ao9 t496.length co9, .int .i64 t499] 25 (0, 0)) (by (with_reducible repeat (first | refine blk_drewN ?_ _ | refine blk_drew ?_ | refine blk_alloc ?_ _)); refine blk_far ?_ NB503_515.out _; (with_reducible repeat (first | refine blk_drewN ?_ _ | refine blk_drew ?_ | refine blk_alloc ?_ _)); refine blk_far ?_ NB503_515.out _; exact zk BK503) hb); replace BK509 := Aside0.mk (blk_below (g := gb509) (o := .cells #[.slice Ao14 t504.length co14, .int .i64 t507] 25 (0, 0)) (by (with_reducible repeat (first | refine blk_drewN ?_ _ | refine blk_drew ?_ | refine blk_alloc ?_ _)); refine blk_far ?_ NB509_515.out _; (with_reducible repeat (first | refine blk_drewN ?_ _ | refine blk_drew ?_ | refine blk_alloc ?_ _)); refine blk_far ?_ NB509_515.out _; exact zk BK509) hb); replace BK515 := Aside0.mk (blk_below (g := gb515) (o := .cells #[.slice Ao20 t510.length co20, .int .i64 t513] 25 (0, 0)) (by (with_reducible repeat (first | refine blk_drewN ?_ _ | refine blk_drew ?_ | refine blk_alloc ?_ _)); refine blk_put (cs := #[.slice Ao20 t510.length co20, .int .i64 0]) ?_ 1 _ rfl; (with_reducible repeat (first | refine blk_drewN ?_ _ | refine blk_drew ?_ | refine blk_alloc ?_ _)); refine blk_put (cs := #[.slice none 0 0, .int .i64 0]) ?_ 0 _ rfl; exact zk BK515) hb); replace HB := Aside0.mk (below_step (zb HB) hb); (try clear hb); (try clear hk); have hcz45_0 : w44.cell? ⟨gb503, 0, none⟩ = some (.slice Ao9 t496.length co9) := (blk_cell BK503.out 0).trans rfl; have hcz45_1 : w44.cell? ⟨gb503, 1, none⟩ = some (.int .i64 t499) := (blk_cell BK503.out 1).trans rfl; have hfz45_0 := blk_frozen BK503.out 0; have hfz45_1 := blk_frozen BK503.out 1) | (go_at_call 19; (with_reducible refine (spec_TableOk.calls k _ _ t496 t499 false _ ?side1 ?side2 A27.out).mono ?_); (case side1 => exact zc (Kd.R_reads' HO498.out).2.2); (case side2 => exact (Kd.R_reads' HO498.out).2.1); rintro e w46 ⟨rfl, hb⟩; replace HO498 := Aside0.mk (Kd.R_below (zr HO498) hb); replace HO502 := Aside0.mk (Kd.R_below (zr HO502) hb); replace HO506 := Aside0.mk (Kd.R_below (zr HO506) hb); replace HO512 := Aside0.mk (Kd.R_below (zr HO512) hb); replace BK503 := Aside0.mk (blk_below (g := gb503) (o := .cells #[.slice Ao9 t496.length co9, .int .i64 t499] 25 (0, 0)) (zk BK503) hb); replace BK509 := Aside0.mk (blk_below (g := gb509) (o := .cells #[.slice Ao14 t504.length co14, .int .i64 t507] 25 (0, 0)) (zk BK509) hb); replace BK515 := Aside0.mk (blk_below (g := gb515) (o := .cells #[.slice Ao20 t510.length co20, .int .i64 t513] 25 (0, 0)) (zk BK515) hb); replace HB := Aside0.mk (below_step (zb HB) hb); (try clear hb)))
      go_meet
      case rel => exact ⟨_, (true), zs, H', ⟨by first | omega | exact Nat.le_refl _⟩, ⟨by (with_reducible repeat (first | apply Kd.R_alloc | apply Kd.R_drewN | apply Kd.R_drew)); exact Kd.R_mono HO502.out (fun _ hk => ⟨hk.1.1, ⟨hk.1.2, hk.2⟩⟩)⟩, ⟨by (with_reducible repeat (first | apply Kd.R_alloc | apply Kd.R_drewN | apply Kd.R_drew)); exact Kd.R_mono HO498.out (fun _ hk => ⟨hk.1.1, ⟨hk.1.2, hk.2⟩⟩)⟩, ⟨by (with_reducible repeat (first | apply Kd.R_alloc | apply Kd.R_drewN | apply Kd.R_drew)); exact Kd.R_mono HO506.out (fun _ hk => ⟨hk.1.2, ⟨hk.1.1.2, hk.2⟩⟩)⟩, ⟨by (with_reducible repeat (first | apply Kd.R_alloc | apply Kd.R_drewN | apply Kd.R_drew)); exact Kd.R_mono HO512.out (fun _ hk => ⟨hk.1.2, ⟨hk.1.1.2, hk.2⟩⟩)⟩, ⟨by exact zk BK503⟩, ⟨by exact zk BK509⟩, ⟨by exact zk BK515⟩, ⟨zb HB⟩⟩
    ·replace c26 := Bool.eq_false_iff.mpr c26
     subst c26
     have H1 : (laws_FnHeadAgain.j0 k t500 t508 t514 true t504 t507 t510 t513) = some r := by rw [if_neg (show ¬ (false = true) by decide)] at H; exact H
     clear H
     have H := H1
     clear H1
     have H' := Aside0.mk H
     clear H
     have hnb47 := NB515_503.out
     have hnc47 := NB503_515.out
     have hnb48 := NB515_509.out
     have hnc48 := NB509_515.out
     have hcz49_0 : w19.cell? ⟨gb515, 0, none⟩ = some (.slice none 0 0) := (blk_cell BK515.out 0).trans rfl
     have hcz49_1 : w19.cell? ⟨gb515, 1, none⟩ = some (.int .i64 0) := (blk_cell BK515.out 1).trans rfl
     have hfz49_0 := blk_frozen BK515.out 0
     have hfz49_1 := blk_frozen BK515.out 1
     have hnb50 := NB509_503.out
     have hnc50 := NB503_509.out
     have hcz51_0 : w19.cell? ⟨gb509, 0, none⟩ = some (.slice Ao14 t504.length co14) := (blk_cell BK509.out 0).trans rfl
     have hcz51_1 : w19.cell? ⟨gb509, 1, none⟩ = some (.int .i64 t507) := (blk_cell BK509.out 1).trans rfl
     have hfz51_0 := blk_frozen BK509.out 0
     have hfz51_1 := blk_frozen BK509.out 1
     go_wp2_with (first | (go_at_call 17; (with_reducible refine (laws_lkTable.calls k _ _ t510 t513 _ _ t504 t507 false _ ?side1 ?side2 ?side3 ?side4 A25.out).mono ?_); (case side1 => refine (Kd.R_reads' (e := 36) (base := w.heap.size) (ok := fun k_ => (((True ∧ some k_ ≠ (.slice Ao9 t496.length co9 : Value).ownBlock) ∧ some k_ ≠ (.slice Ao11 t500.length co11 : Value).ownBlock) ∧ some k_ ≠ (.slice Ao14 t504.length co14 : Value).ownBlock)) (n := t510.length) (c := co20) ?_).2.2; exact (by (with_reducible repeat (first | apply Kd.R_alloc | apply Kd.R_drewN | apply Kd.R_drew)); exact (Kd.R_mono (Kd.R_far (p := ⟨gb515, 1, none⟩) (Kd.R_far (p := ⟨gb515, 0, none⟩) (Kd.R_types HO512.out BK515.out (by decide)) (fun _ hk => hk.2) (.slice Ao20 t510.length co20)) (fun _ hk => hk.2) (.int .i64 t513)) (fun _ h_ => h_.1)))); (case side2 => exact (Kd.R_reads' HO512.out).2.1); (case side3 => refine (Kd.R_reads' (e := 36) (base := w.heap.size) (ok := fun k_ => (((True ∧ some k_ ≠ (.slice Ao9 t496.length co9 : Value).ownBlock) ∧ some k_ ≠ (.slice Ao11 t500.length co11 : Value).ownBlock) ∧ some k_ ≠ (.slice Ao20 t510.length co20 : Value).ownBlock)) (n := t504.length) (c := co14) ?_).2.2; exact (by (with_reducible repeat (first | apply Kd.R_alloc | apply Kd.R_drewN | apply Kd.R_drew)); exact (Kd.R_mono (Kd.R_far (p := ⟨gb515, 1, none⟩) (Kd.R_far (p := ⟨gb515, 0, none⟩) (Kd.R_types HO506.out BK515.out (by decide)) (fun _ hk => hk.2) (.slice Ao20 t510.length co20)) (fun _ hk => hk.2) (.int .i64 t513)) (fun _ h_ => h_.1)))); (case side4 => exact (Kd.R_reads' HO506.out).2.1); rintro e w52 ⟨rfl, hb⟩; replace HO498 := Aside0.mk (Kd.R_below (by (with_reducible repeat (first | apply Kd.R_alloc | apply Kd.R_drewN | apply Kd.R_drew)); exact (Kd.R_mono (Kd.R_far (p := ⟨gb515, 1, none⟩) (Kd.R_far (p := ⟨gb515, 0, none⟩) (Kd.R_types HO498.out BK515.out (by decide)) (fun _ hk => hk.2) (.slice Ao20 t510.length co20)) (fun _ hk => hk.2) (.int .i64 t513)) (fun _ h_ => h_.1))) hb); replace HO502 := Aside0.mk (Kd.R_below (by (with_reducible repeat (first | apply Kd.R_alloc | apply Kd.R_drewN | apply Kd.R_drew)); exact (Kd.R_mono (Kd.R_far (p := ⟨gb515, 1, none⟩) (Kd.R_far (p := ⟨gb515, 0, none⟩) (Kd.R_types HO502.out BK515.out (by decide)) (fun _ hk => hk.2) (.slice Ao20 t510.length co20)) (fun _ hk => hk.2) (.int .i64 t513)) (fun _ h_ => h_.1))) hb); replace HO506 := Aside0.mk (Kd.R_below (by (with_reducible repeat (first | apply Kd.R_alloc | apply Kd.R_drewN | apply Kd.R_drew)); exact (Kd.R_mono (Kd.R_far (p := ⟨gb515, 1, none⟩) (Kd.R_far (p := ⟨gb515, 0, none⟩) (Kd.R_types HO506.out BK515.out (by decide)) (fun _ hk => hk.2) (.slice Ao20 t510.length co20)) (fun _ hk => hk.2) (.int .i64 t513)) (fun _ h_ => h_.1))) hb); replace HO512 := Aside0.mk (Kd.R_below (by (with_reducible repeat (first | apply Kd.R_alloc | apply Kd.R_drewN | apply Kd.R_drew)); exact (Kd.R_mono (Kd.R_far (p := ⟨gb515, 1, none⟩) (Kd.R_far (p := ⟨gb515, 0, none⟩) (Kd.R_types HO512.out BK515.out (by decide)) (fun _ hk => hk.2) (.slice Ao20 t510.length co20)) (fun _ hk => hk.2) (.int .i64 t513)) (fun _ h_ => h_.1))) hb); replace BK503 := Aside0.mk (blk_below (g := gb503) (o := .cells #[.slice Ao9 t496.length co9, .int .i64 t499] 25 (0, 0)) (by (with_reducible repeat (first | refine blk_drewN ?_ _ | refine blk_drew ?_ | refine blk_alloc ?_ _)); refine blk_far ?_ NB503_515.out _; (with_reducible repeat (first | refine blk_drewN ?_ _ | refine blk_drew ?_ | refine blk_alloc ?_ _)); refine blk_far ?_ NB503_515.out _; exact zk BK503) hb); replace BK509 := Aside0.mk (blk_below (g := gb509) (o := .cells #[.slice Ao14 t504.length co14, .int .i64 t507] 25 (0, 0)) (by (with_reducible repeat (first | refine blk_drewN ?_ _ | refine blk_drew ?_ | refine blk_alloc ?_ _)); refine blk_far ?_ NB509_515.out _; (with_reducible repeat (first | refine blk_drewN ?_ _ | refine blk_drew ?_ | refine blk_alloc ?_ _)); refine blk_far ?_ NB509_515.out _; exact zk BK509) hb); replace BK515 := Aside0.mk (blk_below (g := gb515) (o := .cells #[.slice Ao20 t510.length co20, .int .i64 t513] 25 (0, 0)) (by (with_reducible repeat (first | refine blk_drewN ?_ _ | refine blk_drew ?_ | refine blk_alloc ?_ _)); refine blk_put (cs := #[.slice Ao20 t510.length co20, .int .i64 0]) ?_ 1 _ rfl; (with_reducible repeat (first | refine blk_drewN ?_ _ | refine blk_drew ?_ | refine blk_alloc ?_ _)); refine blk_put (cs := #[.slice none 0 0, .int .i64 0]) ?_ 0 _ rfl; exact zk BK515) hb); replace HB := Aside0.mk (below_step (zb HB) hb); (try clear hb); (try clear hk)))
     go_meet
     case rel => exact ⟨_, (true), zs, H', ⟨by first | omega | exact Nat.le_refl _⟩, ⟨by (with_reducible repeat (first | apply Kd.R_alloc | apply Kd.R_drewN | apply Kd.R_drew)); exact Kd.R_mono HO502.out (fun _ hk => ⟨hk.1.1, ⟨hk.1.2, hk.2⟩⟩)⟩, ⟨by (with_reducible repeat (first | apply Kd.R_alloc | apply Kd.R_drewN | apply Kd.R_drew)); exact Kd.R_mono HO498.out (fun _ hk => ⟨hk.1.1, ⟨hk.1.2, hk.2⟩⟩)⟩, ⟨by (with_reducible repeat (first | apply Kd.R_alloc | apply Kd.R_drewN | apply Kd.R_drew)); exact Kd.R_mono HO506.out (fun _ hk => ⟨hk.1.2, ⟨hk.1.1.2, hk.2⟩⟩)⟩, ⟨by (with_reducible repeat (first | apply Kd.R_alloc | apply Kd.R_drewN | apply Kd.R_drew)); exact Kd.R_mono HO512.out (fun _ hk => ⟨hk.1.2, ⟨hk.1.1.2, hk.2⟩⟩)⟩, ⟨by exact zk BK503⟩, ⟨by exact zk BK509⟩, ⟨by exact zk BK515⟩, ⟨zb HB⟩⟩
   ·rw [if_neg c24] at H
    have c24b0 : (t514.toList == t508.toList) = false := beq_eq_false_iff_ne.mpr c24
    have c24b1 : (t514.toList != t508.toList) = true := bne_iff_ne.mpr c24
    (first | rw [c24b0] | rw [c24b1] | (simp only [i64_w, i32_w]; rw [c24b0]) | skip)
    have H' := Aside0.mk H
    clear H
    go_wp2
    go_meet
    case rel => exact ⟨_, (true), zs, H', ⟨by first | omega | exact Nat.le_refl _⟩, ⟨by (with_reducible repeat (first | apply Kd.R_alloc | apply Kd.R_drewN | apply Kd.R_drew)); exact Kd.R_mono (Kd.R_far (p := ⟨gb515, 1, none⟩) (Kd.R_far (p := ⟨gb515, 0, none⟩) (Kd.R_types HO502.out BK515.out (by decide)) (fun _ hk => hk.2) (.slice Ao20 t510.length co20)) (fun _ hk => hk.2) (.int .i64 t513)) (fun _ hk => ⟨hk.1.1.1, ⟨hk.1.1.2, hk.1.2⟩⟩)⟩, ⟨by (with_reducible repeat (first | apply Kd.R_alloc | apply Kd.R_drewN | apply Kd.R_drew)); exact Kd.R_mono (Kd.R_far (p := ⟨gb515, 1, none⟩) (Kd.R_far (p := ⟨gb515, 0, none⟩) (Kd.R_types HO498.out BK515.out (by decide)) (fun _ hk => hk.2) (.slice Ao20 t510.length co20)) (fun _ hk => hk.2) (.int .i64 t513)) (fun _ hk => ⟨hk.1.1.1, ⟨hk.1.1.2, hk.1.2⟩⟩)⟩, ⟨by (with_reducible repeat (first | apply Kd.R_alloc | apply Kd.R_drewN | apply Kd.R_drew)); exact Kd.R_mono (Kd.R_far (p := ⟨gb515, 1, none⟩) (Kd.R_far (p := ⟨gb515, 0, none⟩) (Kd.R_types HO506.out BK515.out (by decide)) (fun _ hk => hk.2) (.slice Ao20 t510.length co20)) (fun _ hk => hk.2) (.int .i64 t513)) (fun _ hk => ⟨hk.1.1.2, ⟨hk.1.1.1.2, hk.1.2⟩⟩)⟩, ⟨by (with_reducible repeat (first | apply Kd.R_alloc | apply Kd.R_drewN | apply Kd.R_drew)); exact Kd.R_mono (Kd.R_far (p := ⟨gb515, 1, none⟩) (Kd.R_far (p := ⟨gb515, 0, none⟩) (Kd.R_types HO512.out BK515.out (by decide)) (fun _ hk => hk.2) (.slice Ao20 t510.length co20)) (fun _ hk => hk.2) (.int .i64 t513)) (fun _ hk => ⟨hk.1.1.2, ⟨hk.1.1.1.2, hk.1.2⟩⟩)⟩, ⟨by (with_reducible repeat (first | refine blk_drewN ?_ _ | refine blk_drew ?_ | refine blk_alloc ?_ _)); refine blk_far ?_ NB503_515.out _; (with_reducible repeat (first | refine blk_drewN ?_ _ | refine blk_drew ?_ | refine blk_alloc ?_ _)); refine blk_far ?_ NB503_515.out _; exact zk BK503⟩, ⟨by (with_reducible repeat (first | refine blk_drewN ?_ _ | refine blk_drew ?_ | refine blk_alloc ?_ _)); refine blk_far ?_ NB509_515.out _; (with_reducible repeat (first | refine blk_drewN ?_ _ | refine blk_drew ?_ | refine blk_alloc ?_ _)); refine blk_far ?_ NB509_515.out _; exact zk BK509⟩, ⟨by (with_reducible repeat (first | refine blk_drewN ?_ _ | refine blk_drew ?_ | refine blk_alloc ?_ _)); refine blk_put (cs := #[.slice Ao20 t510.length co20, .int .i64 0]) ?_ 1 _ rfl; (with_reducible repeat (first | refine blk_drewN ?_ _ | refine blk_drew ?_ | refine blk_alloc ?_ _)); refine blk_put (cs := #[.slice none 0 0, .int .i64 0]) ?_ 0 _ rfl; exact zk BK515⟩, ⟨zb HB⟩⟩
  case rest =>
   clear HC6
   try clear c1
   try clear c2
   try clear c2b0
   try clear c2b1
   try clear p2
   try clear c3
   try clear c4
   try clear c5
   try clear c13
   try clear c15
   try clear c21
   try clear c22
   try clear c24
   try clear c24b0
   try clear c24b1
   try clear c26
   try clear c28
   try clear c30
   try clear c31
   try clear c33
   try clear c37
   try clear c38
   try clear c39
   try clear c40
   try clear c42
   try clear c47
   try clear c48
   try clear c50
   try clear hcz10_0
   try clear hcz10_1
   try clear hcz16_0
   try clear hcz16_1
   try clear hcz17_0
   try clear hcz17_1
   try clear hcz23_0
   try clear hcz23_1
   try clear hcz32_0
   try clear hcz32_1
   try clear hcz34_0
   try clear hcz34_1
   try clear hcz36_0
   try clear hcz36_1
   try clear hcz41_0
   try clear hcz41_1
   try clear hcz43_0
   try clear hcz43_1
   try clear hcz45_0
   try clear hcz45_1
   try clear hcz49_0
   try clear hcz49_1
   try clear hcz51_0
   try clear hcz51_1
   try clear hfz10_0
   try clear hfz10_1
   try clear hfz16_0
   try clear hfz16_1
   try clear hfz17_0
   try clear hfz17_1
   try clear hfz23_0
   try clear hfz23_1
   try clear hfz32_0
   try clear hfz32_1
   try clear hfz34_0
   try clear hfz34_1
   try clear hfz36_0
   try clear hfz36_1
   try clear hfz41_0
   try clear hfz41_1
   try clear hfz43_0
   try clear hfz43_1
   try clear hfz45_0
   try clear hfz45_1
   try clear hfz49_0
   try clear hfz49_1
   try clear hfz51_0
   try clear hfz51_1
   obtain ⟨kq, x52_5, rfl, HA, HJ5, HO_4, HO_504000, HO_510000, HO_516000, BK503, BK509, BK515, HB⟩ := hcut
   cases kq with
   | zero => exact absurd HA.out (by simp [laws_FnHeadAgain.j0])
   | succ kj5 =>
    have H := HA.out
    clear HA
    simp only [laws_FnHeadAgain.j0] at H
    by_cases c53 : x52_5 = true
    ·subst c53
     have H1 : (if t514.toList = t508.toList then ((laws_lkTable.f kj5 t510 t513 t504 t507).bind fun t519 => (some t519)) else (some false)) = some r := by rw [if_pos rfl] at H; exact H
     clear H
     have H := H1
     clear H1
     by_cases c54 : t514.toList = t508.toList
     ·rw [if_pos c54] at H
      have c54b0 : (t514.toList == t508.toList) = true := beq_iff_eq.mpr c54
      have c54b1 : (t514.toList != t508.toList) = false := bne_eq_false_iff_eq.mpr c54
      clear c54
      replace H := Option.bind_eq_some_iff.mp H
      obtain ⟨t519, A550, H⟩ := H
      replace H : (some t519) = some r := H
      have A55 := Aside0.mk A550
      clear A550
      obtain rfl := Option.some.inj H
      have hnb56 := NB515_503.out
      have hnc56 := NB503_515.out
      have hnb57 := NB515_509.out
      have hnc57 := NB509_515.out
      have hcz58_0 : wc.cell? ⟨gb515, 0, none⟩ = some (.slice Ao20 t510.length co20) := (blk_cell BK515.out 0).trans rfl
      have hcz58_1 : wc.cell? ⟨gb515, 1, none⟩ = some (.int .i64 t513) := (blk_cell BK515.out 1).trans rfl
      have hfz58_0 := blk_frozen BK515.out 0
      have hfz58_1 := blk_frozen BK515.out 1
      have hnb59 := NB509_503.out
      have hnc59 := NB503_509.out
      have hcz60_0 : wc.cell? ⟨gb509, 0, none⟩ = some (.slice Ao14 t504.length co14) := (blk_cell BK509.out 0).trans rfl
      have hcz60_1 : wc.cell? ⟨gb509, 1, none⟩ = some (.int .i64 t507) := (blk_cell BK509.out 1).trans rfl
      have hfz60_0 := blk_frozen BK509.out 0
      have hfz60_1 := blk_frozen BK509.out 1
      go_wp2_with (first | (go_at_call 17; (with_reducible refine (laws_lkTable.calls kj5 _ _ t510 t513 _ _ t504 t507 t519 _ ?side1 ?side2 ?side3 ?side4 A55.out).mono ?_); (case side1 => exact zc (Kd.R_reads' HO_516000.out).2.2); (case side2 => exact (Kd.R_reads' HO_516000.out).2.1); (case side3 => exact zc (Kd.R_reads' HO_510000.out).2.2); (case side4 => exact (Kd.R_reads' HO_510000.out).2.1); rintro e w61 ⟨rfl, hb⟩; replace HO_4 := Aside0.mk (Kd.R_below (zr HO_4) hb); replace HO_504000 := Aside0.mk (Kd.R_below (zr HO_504000) hb); replace HO_510000 := Aside0.mk (Kd.R_below (zr HO_510000) hb); replace HO_516000 := Aside0.mk (Kd.R_below (zr HO_516000) hb); replace BK503 := Aside0.mk (blk_below (g := gb503) (o := .cells #[.slice Ao9 t496.length co9, .int .i64 t499] 25 (0, 0)) (zk BK503) hb); replace BK509 := Aside0.mk (blk_below (g := gb509) (o := .cells #[.slice Ao14 t504.length co14, .int .i64 t507] 25 (0, 0)) (zk BK509) hb); replace BK515 := Aside0.mk (blk_below (g := gb515) (o := .cells #[.slice Ao20 t510.length co20, .int .i64 t513] 25 (0, 0)) (zk BK515) hb); replace HB := Aside0.mk (below_step (zb HB) hb); (try clear hb)))
      go_ret
      exact ⟨ze, zb HB⟩
     ·rw [if_neg c54] at H
      have c54b0 : (t514.toList == t508.toList) = false := beq_eq_false_iff_ne.mpr c54
      have c54b1 : (t514.toList != t508.toList) = true := bne_iff_ne.mpr c54
      obtain rfl := Option.some.inj H
      go_wp2
      go_ret
      exact ⟨ze, zb HB⟩
    ·replace c53 := Bool.eq_false_iff.mpr c53
     subst c53
     have H1 : (laws_FnHeadAgain.l0 kj5 t500 0 t510 t513) = some r := by rw [if_neg (show ¬ (false = true) by decide)] at H; exact H
     clear H
     have H := H1
     clear H1
     have H' := Aside0.mk H
     clear H
     go_wp2
     go_loopg [9] kj5 (fun kq v9 w' => ∃ (x9_2 : Int), v9 = .int .i64 x9_2 ∧ Aside0 (laws_FnHeadAgain.l0 kq t500 x9_2 t510 t513 = some r) ∧ Aside0 (kq ≤ kj5) ∧ Aside0 (Kd.R k36 36 w' w.heap.size (fun k_ => some k_ ≠ ((.slice Ao9 t496.length co9) : Value).ownBlock ∧ some k_ ≠ ((.slice Ao14 t504.length co14) : Value).ownBlock ∧ some k_ ≠ ((.slice Ao20 t510.length co20) : Value).ownBlock) (.slice Ao11 t500.length co11) t500) ∧ Aside0 (Kd.R k36 36 w' w.heap.size (fun k_ => some k_ ≠ ((.slice Ao11 t500.length co11) : Value).ownBlock ∧ some k_ ≠ ((.slice Ao14 t504.length co14) : Value).ownBlock ∧ some k_ ≠ ((.slice Ao20 t510.length co20) : Value).ownBlock) (.slice Ao9 t496.length co9) t496) ∧ Aside0 (Kd.R k36 36 w' w.heap.size (fun k_ => some k_ ≠ ((.slice Ao11 t500.length co11) : Value).ownBlock ∧ some k_ ≠ ((.slice Ao9 t496.length co9) : Value).ownBlock ∧ some k_ ≠ ((.slice Ao20 t510.length co20) : Value).ownBlock) (.slice Ao14 t504.length co14) t504) ∧ Aside0 (Kd.R k36 36 w' w.heap.size (fun k_ => some k_ ≠ ((.slice Ao11 t500.length co11) : Value).ownBlock ∧ some k_ ≠ ((.slice Ao9 t496.length co9) : Value).ownBlock ∧ some k_ ≠ ((.slice Ao14 t504.length co14) : Value).ownBlock) (.slice Ao20 t510.length co20) t510) ∧ Aside0 (w'.heap[gb503]? = some (.cells #[(.slice Ao9 t496.length co9), .int .i64 t499] 25 (0, 0))) ∧ Aside0 (w'.heap[gb509]? = some (.cells #[(.slice Ao14 t504.length co14), .int .i64 t507] 25 (0, 0))) ∧ Aside0 (w'.heap[gb515]? = some (.cells #[(.slice Ao20 t510.length co20), .int .i64 t513] 25 (0, 0))) ∧ Aside0 (Below w.heap.size w w'))
     case atStart => exact ⟨(0), zs, H', ⟨Nat.le_refl _⟩, ⟨by exact zr HO_4⟩, ⟨by exact zr HO_504000⟩, ⟨by exact zr HO_510000⟩, ⟨by exact zr HO_516000⟩, ⟨by exact zk BK503⟩, ⟨by exact zk BK509⟩, ⟨by exact zk BK515⟩, ⟨zb HB⟩⟩
     case round =>
      clear H'
      try clear c1
      try clear c2
      try clear c2b0
      try clear c2b1
      try clear p2
      try clear c3
      try clear c4
      try clear c5
      try clear c13
      try clear c15
      try clear c21
      try clear c22
      try clear c24
      try clear c24b0
      try clear c24b1
      try clear c26
      try clear c28
      try clear c30
      try clear c31
      try clear c33
      try clear c37
      try clear c38
      try clear c39
      try clear c40
      try clear c42
      try clear c47
      try clear c48
      try clear c50
      try clear c53
      try clear c54
      try clear c54b0
      try clear c54b1
      try clear c56
      try clear c57
      try clear c59
      try clear hcz10_0
      try clear hcz10_1
      try clear hcz16_0
      try clear hcz16_1
      try clear hcz17_0
      try clear hcz17_1
      try clear hcz23_0
      try clear hcz23_1
      try clear hcz32_0
      try clear hcz32_1
      try clear hcz34_0
      try clear hcz34_1
      try clear hcz36_0
      try clear hcz36_1
      try clear hcz41_0
      try clear hcz41_1
      try clear hcz43_0
      try clear hcz43_1
      try clear hcz45_0
      try clear hcz45_1
      try clear hcz49_0
      try clear hcz49_1
      try clear hcz51_0
      try clear hcz51_1
      try clear hcz58_0
      try clear hcz58_1
      try clear hcz60_0
      try clear hcz60_1
      try clear hfz10_0
      try clear hfz10_1
      try clear hfz16_0
      try clear hfz16_1
      try clear hfz17_0
      try clear hfz17_1
      try clear hfz23_0
      try clear hfz23_1
      try clear hfz32_0
      try clear hfz32_1
      try clear hfz34_0
      try clear hfz34_1
      try clear hfz36_0
      try clear hfz36_1
      try clear hfz41_0
      try clear hfz41_1
      try clear hfz43_0
      try clear hfz43_1
      try clear hfz45_0
      try clear hfz45_1
      try clear hfz49_0
      try clear hfz49_1
      try clear hfz51_0
      try clear hfz51_1
      try clear hfz58_0
      try clear hfz58_1
      try clear hfz60_0
      try clear hfz60_1
      try clear p2
      obtain ⟨x9_2, rfl, HA, HK2, HO_4, HO_504000, HO_510000, HO_516000, BK503, BK509, BK515, HB⟩ := hrel
      cases gk with
      | zero => exact absurd HA.out (by simp [laws_FnHeadAgain.l0])
      | succ k2 =>
       have H := HA.out
       clear HA
       simp only [laws_FnHeadAgain.l0] at H
       by_cases c62 : x9_2 < (t500.length : Int)
       ·rw [if_pos c62] at H
        have c62b0 : decide (x9_2 < (t500.length : Int)) = true := decide_eq_true c62
        clear c62
        by_cases c63 : 0 ≤ x9_2
        ·rw [if_pos c63] at H
         have c63b0 : decide (0 ≤ x9_2) = true := decide_eq_true c63
         clear c63
         replace H := Option.bind_eq_some_iff.mp H
         obtain ⟨⟨t521, t522⟩, A640, H⟩ := H
         replace H : (if t522 = true then (if (rd_T36 t500 x9_2).f2 = true then (some true) else (laws_FnHeadAgain.l0 k2 t500 (wrap64 (x9_2 + 1)) t510 t513)) else (some true)) = some r := H
         have A64 := Aside0.mk A640
         clear A640
         by_cases c65 : t522 = true
         ·subst c65
          have H1 : (if (rd_T36 t500 x9_2).f2 = true then (some true) else (laws_FnHeadAgain.l0 k2 t500 (wrap64 (x9_2 + 1)) t510 t513)) = some r := by rw [if_pos rfl] at H; exact H
          clear H
          have H := H1
          clear H1
          have HC66 := Aside0.mk H
          clear H
          try go_wp2
          replace HO_4 := Aside0.mk (Kd.R_drew HO_4.out)
          replace HO_504000 := Aside0.mk (Kd.R_drew HO_504000.out)
          replace HO_510000 := Aside0.mk (Kd.R_drew HO_510000.out)
          replace HO_516000 := Aside0.mk (Kd.R_drew HO_516000.out)
          replace BK503 := Aside0.mk (blk_drew BK503.out)
          replace BK509 := Aside0.mk (blk_drew BK509.out)
          replace BK515 := Aside0.mk (blk_drew BK515.out)
          replace HB := Aside0.mk (below_drew1 HB.out)
          have p520 : 0 ≤ (x9_2 : Int) := of_decide_eq_true za
          have q520 : x9_2 < (t500.length : Int) := of_decide_eq_true za
          obtain ⟨ad520, e520, hx520_0, hx520_1, hx520_2⟩ := at_T36 (Kd.R_reads' HO_4.out).2.2 x9_2 p520 q520
          cases e520
          replace p520 := eq_true p520
          replace q520 := eq_true q520
          refine start_ (n := 11) (S := fun w' => w'.cell? ⟨gb515, 0, none⟩ = some (.slice Ao20 t510.length co20) ∧ w'.cell? ⟨gb515, 1, none⟩ = some (.int .i64 t513) ∧ w'.cell? (ad520.add ((x9_2).toNat * 3)) = some (.string ((rd_T36 t500 x9_2).f0)) ∧ w'.cell? ⟨(ad520.add ((x9_2).toNat * 3)).block, (ad520.add ((x9_2).toNat * 3)).off + 1, none⟩ = some (.string ((rd_T36 t500 x9_2).f1)) ∧ w'.cell? ⟨(ad520.add ((x9_2).toNat * 3)).block, (ad520.add ((x9_2).toNat * 3)).off + 2, none⟩ = some (.bool ((rd_T36 t500 x9_2).f2))) (ds := []) #[false, false, false, false, false, false, false, false, false, false, false] (by kernel_rfl) rfl rfl ⟨(blk_cell BK515.out 0).trans rfl, (blk_cell BK515.out 1).trans rfl, hx520_0, hx520_1, hx520_2⟩ (fun hHeld => ?_); refine with_tabW laws_FnHeadAgain.tab11 laws_FnHeadAgain.bits11 (fun HT_ HW_ => ?_)
          generalize wr.drew = w67 at HO_4 HO_504000 HO_510000 HO_516000 BK503 BK509 BK515 HB hx520_0 hx520_1 hx520_2 hHeld ⊢
          refine pu 1 (some 69) (bm 11 2) rfl rfl ?_
          refine pu 2 (some 70) (bm 11 6) rfl rfl ?_
          refine pu 3 (some 71) (bm 11 14) rfl rfl ?_
          refine tk5 0 (some 68) (bm 11 15) rfl rfl hHeld ?_
          refine tk5 4 (some 72) (bm 11 31) rfl rfl hHeld ?_
          refine one_ (i := 5) (N := some 73) (bm 11 63) rfl rfl (one_of HT_.out (by kernel_rfl)) (by decide) (fun K hK => ?_)
          refine gs Try.func33 #[.agg #[.slice Ao20 t510.length co20, .int .i64 t513], .agg #[.string ((rd_T36 t500 x9_2).f0), .string ((rd_T36 t500 x9_2).f1), .bool ((rd_T36 t500 x9_2).f2)]] ?_
          with_reducible refine (impl_TableFind.calls k2 _ _ t510 t513 ((rd_T36 t500 x9_2).f0) ((rd_T36 t500 x9_2).f1) ((rd_T36 t500 x9_2).f2) t521 true _ ?side1 ?side2 A64.out).mono ?_
          (case side1 => exact zc (Kd.R_reads' HO_516000.out).2.2)
          (case side2 => exact (Kd.R_reads' HO_516000.out).2.1)
          rintro e w68 ⟨rfl, hb⟩
          have HS2_ := (hb.cell (World.block_lt_of_cell? _ _ (hHeld.2.2.1))).trans (hHeld.2.2.1)
          have HS3_ := (hb.cell (World.block_lt_of_cell? _ _ (hHeld.2.2.2.1))).trans (hHeld.2.2.2.1)
          have HS4_ := (hb.cell (World.block_lt_of_cell? _ _ (hHeld.2.2.2.2))).trans (hHeld.2.2.2.2)
          refine ⟨_, rfl, ?_⟩
          replace HO_4 := Aside0.mk (Kd.R_below (zr HO_4) hb)
          replace HO_504000 := Aside0.mk (Kd.R_below (zr HO_504000) hb)
          replace HO_510000 := Aside0.mk (Kd.R_below (zr HO_510000) hb)
          replace HO_516000 := Aside0.mk (Kd.R_below (zr HO_516000) hb)
          replace BK503 := Aside0.mk (blk_below (g := gb503) (o := .cells #[.slice Ao9 t496.length co9, .int .i64 t499] 25 (0, 0)) (zk BK503) hb)
          replace BK509 := Aside0.mk (blk_below (g := gb509) (o := .cells #[.slice Ao14 t504.length co14, .int .i64 t507] 25 (0, 0)) (zk BK509) hb)
          replace BK515 := Aside0.mk (blk_below (g := gb515) (o := .cells #[.slice Ao20 t510.length co20, .int .i64 t513] 25 (0, 0)) (zk BK515) hb)
          replace HB := Aside0.mk (below_step (zb HB) hb)
          (try clear hb)
          refine hK.out _ _ ⟨(blk_cell BK515.out 0).trans rfl, (blk_cell BK515.out 1).trans rfl, HS2_, HS3_, HS4_⟩ (fun hHeld => ?_)
          clear hK K
          refine nm ?_
          refine pu 6 (some 67) (bm 11 127) rfl rfl ?_
          refine pu 7 (some 74) (bm 11 255) rfl rfl ?_
          refine pu 8 (some 75) (bm 11 511) rfl rfl ?_
          refine pu 9 (some 10) (bm 11 1023) rfl rfl ?_
          refine pu 10 (some 11) (bm 11 2047) rfl rfl ?_
          refine done_ (done_of HT_.out (by kernel_rfl)) ?_
          have p523 : 0 ≤ (x9_2 : Int) := of_decide_eq_true za
          have q523 : x9_2 < (t500.length : Int) := of_decide_eq_true za
          obtain ⟨ad523, e523, hx523_0, hx523_1, hx523_2⟩ := at_T36 (Kd.R_reads' HO_4.out).2.2 x9_2 p523 q523
          obtain rfl : ad520 = ad523 := (by injection e523)
          replace p523 := eq_true p523
          replace q523 := eq_true q523
          go_upto_if 84 with (fail)
          have H := HC66.out
          clear HC66
          obtain ⟨bq69, hbq69⟩ : ∃ b_ : Bool, b_ = ((rd_T36 t500 x9_2).f2) := ⟨_, rfl⟩
          replace H : (if bq69 = true then (some true) else (laws_FnHeadAgain.l0 k2 t500 (wrap64 (x9_2 + 1)) t510 t513)) = some r := by rw [← hbq69] at H; exact H
          have Nbq69 := Aside0.mk hbq69
          clear hbq69
          (try rw [← Nbq69.out])
          (try rw [← Nbq69.out] at BK503)
          (try rw [← Nbq69.out] at BK509)
          (try rw [← Nbq69.out] at BK515)
          by_cases c70 : bq69 = true
          ·subst c70
           have H1 : (some true) = some r := by rw [if_pos rfl] at H; exact H
           clear H
           have H := H1
           clear H1
           obtain rfl := Option.some.inj H
           go_wp2
           go_ret
           exact ⟨ze, zb HB⟩
          ·replace c70 := Bool.eq_false_iff.mpr c70
           subst c70
           have H1 : (laws_FnHeadAgain.l0 k2 t500 (wrap64 (x9_2 + 1)) t510 t513) = some r := by rw [if_neg (show ¬ (false = true) by decide)] at H; exact H
           clear H
           have H := H1
           clear H1
           have H' := Aside0.mk H
           clear H
           go_wp2
           go_roundg k2
           case measure => have := HJ5.out; have := HK2.out; omega
           case rel => exact ⟨(wrap64 (x9_2 + 1)), zs, H', ⟨by have := HJ5.out; have := HK2.out; omega⟩, ⟨by exact zr HO_4⟩, ⟨by exact zr HO_504000⟩, ⟨by exact zr HO_510000⟩, ⟨by exact zr HO_516000⟩, ⟨by exact zk BK503⟩, ⟨by exact zk BK509⟩, ⟨by exact zk BK515⟩, ⟨zb HB⟩⟩
         ·replace c65 := Bool.eq_false_iff.mpr c65
          subst c65
          have H1 : (some true) = some r := by rw [if_neg (show ¬ (false = true) by decide)] at H; exact H
          clear H
          have H := H1
          clear H1
          obtain rfl := Option.some.inj H
          try go_wp2
          replace HO_4 := Aside0.mk (Kd.R_drew HO_4.out)
          replace HO_504000 := Aside0.mk (Kd.R_drew HO_504000.out)
          replace HO_510000 := Aside0.mk (Kd.R_drew HO_510000.out)
          replace HO_516000 := Aside0.mk (Kd.R_drew HO_516000.out)
          replace BK503 := Aside0.mk (blk_drew BK503.out)
          replace BK509 := Aside0.mk (blk_drew BK509.out)
          replace BK515 := Aside0.mk (blk_drew BK515.out)
          replace HB := Aside0.mk (below_drew1 HB.out)
          have p520 : 0 ≤ (x9_2 : Int) := of_decide_eq_true za
          have q520 : x9_2 < (t500.length : Int) := of_decide_eq_true za
          obtain ⟨ad520, e520, hx520_0, hx520_1, hx520_2⟩ := at_T36 (Kd.R_reads' HO_4.out).2.2 x9_2 p520 q520
          cases e520
          replace p520 := eq_true p520
          replace q520 := eq_true q520
          refine start_ (n := 11) (S := fun w' => w'.cell? ⟨gb515, 0, none⟩ = some (.slice Ao20 t510.length co20) ∧ w'.cell? ⟨gb515, 1, none⟩ = some (.int .i64 t513) ∧ w'.cell? (ad520.add ((x9_2).toNat * 3)) = some (.string ((rd_T36 t500 x9_2).f0)) ∧ w'.cell? ⟨(ad520.add ((x9_2).toNat * 3)).block, (ad520.add ((x9_2).toNat * 3)).off + 1, none⟩ = some (.string ((rd_T36 t500 x9_2).f1)) ∧ w'.cell? ⟨(ad520.add ((x9_2).toNat * 3)).block, (ad520.add ((x9_2).toNat * 3)).off + 2, none⟩ = some (.bool ((rd_T36 t500 x9_2).f2))) (ds := []) #[false, false, false, false, false, false, false, false, false, false, false] (by kernel_rfl) rfl rfl ⟨(blk_cell BK515.out 0).trans rfl, (blk_cell BK515.out 1).trans rfl, hx520_0, hx520_1, hx520_2⟩ (fun hHeld => ?_); refine with_tabW laws_FnHeadAgain.tab11 laws_FnHeadAgain.bits11 (fun HT_ HW_ => ?_)
          generalize wr.drew = w71 at HO_4 HO_504000 HO_510000 HO_516000 BK503 BK509 BK515 HB hx520_0 hx520_1 hx520_2 hHeld ⊢
          refine pu 1 (some 69) (bm 11 2) rfl rfl ?_
          refine pu 2 (some 70) (bm 11 6) rfl rfl ?_
          refine pu 3 (some 71) (bm 11 14) rfl rfl ?_
          refine tk5 0 (some 68) (bm 11 15) rfl rfl hHeld ?_
          refine tk5 4 (some 72) (bm 11 31) rfl rfl hHeld ?_
          refine one_ (i := 5) (N := some 73) (bm 11 63) rfl rfl (one_of HT_.out (by kernel_rfl)) (by decide) (fun K hK => ?_)
          refine gs Try.func33 #[.agg #[.slice Ao20 t510.length co20, .int .i64 t513], .agg #[.string ((rd_T36 t500 x9_2).f0), .string ((rd_T36 t500 x9_2).f1), .bool ((rd_T36 t500 x9_2).f2)]] ?_
          with_reducible refine (impl_TableFind.calls k2 _ _ t510 t513 ((rd_T36 t500 x9_2).f0) ((rd_T36 t500 x9_2).f1) ((rd_T36 t500 x9_2).f2) t521 false _ ?side1 ?side2 A64.out).mono ?_
          (case side1 => exact zc (Kd.R_reads' HO_516000.out).2.2)
          (case side2 => exact (Kd.R_reads' HO_516000.out).2.1)
          rintro e w72 ⟨rfl, hb⟩
          have HS2_ := (hb.cell (World.block_lt_of_cell? _ _ (hHeld.2.2.1))).trans (hHeld.2.2.1)
          have HS3_ := (hb.cell (World.block_lt_of_cell? _ _ (hHeld.2.2.2.1))).trans (hHeld.2.2.2.1)
          have HS4_ := (hb.cell (World.block_lt_of_cell? _ _ (hHeld.2.2.2.2))).trans (hHeld.2.2.2.2)
          refine ⟨_, rfl, ?_⟩
          replace HO_4 := Aside0.mk (Kd.R_below (zr HO_4) hb)
          replace HO_504000 := Aside0.mk (Kd.R_below (zr HO_504000) hb)
          replace HO_510000 := Aside0.mk (Kd.R_below (zr HO_510000) hb)
          replace HO_516000 := Aside0.mk (Kd.R_below (zr HO_516000) hb)
          replace BK503 := Aside0.mk (blk_below (g := gb503) (o := .cells #[.slice Ao9 t496.length co9, .int .i64 t499] 25 (0, 0)) (zk BK503) hb)
          replace BK509 := Aside0.mk (blk_below (g := gb509) (o := .cells #[.slice Ao14 t504.length co14, .int .i64 t507] 25 (0, 0)) (zk BK509) hb)
          replace BK515 := Aside0.mk (blk_below (g := gb515) (o := .cells #[.slice Ao20 t510.length co20, .int .i64 t513] 25 (0, 0)) (zk BK515) hb)
          replace HB := Aside0.mk (below_step (zb HB) hb)
          (try clear hb)
          refine hK.out _ _ ⟨(blk_cell BK515.out 0).trans rfl, (blk_cell BK515.out 1).trans rfl, HS2_, HS3_, HS4_⟩ (fun hHeld => ?_)
          clear hK K
          refine nm ?_
          refine pu 6 (some 67) (bm 11 127) rfl rfl ?_
          refine pu 7 (some 74) (bm 11 255) rfl rfl ?_
          refine pu 8 (some 75) (bm 11 511) rfl rfl ?_
          refine pu 9 (some 10) (bm 11 1023) rfl rfl ?_
          refine pu 10 (some 11) (bm 11 2047) rfl rfl ?_
          refine done_ (done_of HT_.out (by kernel_rfl)) ?_
          try go_wp2
          go_ret
          exact ⟨ze, zb HB⟩
        ·rw [if_neg c63] at H
         exact absurd H (by simp)
       ·rw [if_neg c62] at H
        have c62b0 : decide (x9_2 < (t500.length : Int)) = false := decide_eq_false c62
        clear c62
        replace H := Option.bind_eq_some_iff.mp H
        obtain ⟨⟨t524, t527, t528⟩, A730, H⟩ := H
        replace H : (if (t528.size : Int) = (t500.length : Int) then ((laws_lkTable.f k2 t524 t527 t510 t513).bind fun t530 => (some t530)) else (some false)) = some r := H
        have A73 := Aside0.mk A730
        clear A730
        by_cases c74 : (t528.size : Int) = (t500.length : Int)
        ·rw [if_pos c74] at H
         have c74b0 : ((t528.size : Int) == (t500.length : Int)) = true := beq_iff_eq.mpr c74
         have c74b1 : ((t528.size : Int) != (t500.length : Int)) = false := bne_eq_false_iff_eq.mpr c74
         have c74b2 : (t528.size == t500.length) = true := by first | simpa using c74 | (simp at c74 ⊢; omega)
         clear c74
         replace H := Option.bind_eq_some_iff.mp H
         obtain ⟨t530, A750, H⟩ := H
         replace H : (some t530) = some r := H
         have A75 := Aside0.mk A750
         clear A750
         obtain rfl := Option.some.inj H
         have hnb76 := NB515_503.out
         have hnc76 := NB503_515.out
         have hnb77 := NB515_509.out
         have hnc77 := NB509_515.out
         have hcz78_0 : wr.cell? ⟨gb515, 0, none⟩ = some (.slice Ao20 t510.length co20) := (blk_cell BK515.out 0).trans rfl
         have hcz78_1 : wr.cell? ⟨gb515, 1, none⟩ = some (.int .i64 t513) := (blk_cell BK515.out 1).trans rfl
         have hfz78_0 := blk_frozen BK515.out 0
         have hfz78_1 := blk_frozen BK515.out 1
         go_wp2_with (first | ((with_reducible refine gq 39 rfl ?_); refine gl (some 88) Try.func39 #[.agg #[.slice Ao20 t510.length co20, .int .i64 t513], .slice Ao11 t500.length co11] ?_; (with_reducible refine (impl_HeadWrite.calls k2 _ _ t510 t513 _ _ t500 t524 t527 t528 _ ?side1 ?side2 ?side3 ?side4 A73.out).mono ?_); (case side1 => exact zc (Kd.R_reads' HO_516000.out).2.2); (case side2 => exact (Kd.R_reads' HO_516000.out).2.1); (case side3 => exact zc (Kd.R_reads' HO_4.out).2.2); (case side4 => exact (Kd.R_reads' HO_4.out).2.1); rintro e w79 ⟨v525, rfl, ho0, hb⟩; refine ⟨_, rfl, ?_⟩; have HO526 := Aside0.mk (Kd.R_lower (Kd.R_new' (Kd.R_new' (Kd.R_new' (Kd.R_new' ho0 (Kd.R_lt (zr HO_4))) (Kd.R_lt (zr HO_504000))) (Kd.R_lt (zr HO_510000))) (Kd.R_lt (zr HO_516000))) (below_size (zb HB))); replace HO_4 := Aside0.mk (Kd.R_elder' (zr HO_4) (Kd.R_base ho0) hb); replace HO_504000 := Aside0.mk (Kd.R_elder' (zr HO_504000) (Kd.R_base ho0) hb); replace HO_510000 := Aside0.mk (Kd.R_elder' (zr HO_510000) (Kd.R_base ho0) hb); replace HO_516000 := Aside0.mk (Kd.R_elder' (zr HO_516000) (Kd.R_base ho0) hb); replace BK503 := Aside0.mk (blk_below (g := gb503) (o := .cells #[.slice Ao9 t496.length co9, .int .i64 t499] 25 (0, 0)) (zk BK503) hb); replace BK509 := Aside0.mk (blk_below (g := gb509) (o := .cells #[.slice Ao14 t504.length co14, .int .i64 t507] 25 (0, 0)) (zk BK509) hb); replace BK515 := Aside0.mk (blk_below (g := gb515) (o := .cells #[.slice Ao20 t510.length co20, .int .i64 t513] 25 (0, 0)) (zk BK515) hb); replace HB := Aside0.mk (below_step (zb HB) hb); (try clear hb); (try clear ho0)) | ((with_reducible refine gd 12 rfl ?_); refine bx (N := 12) (cs := #[.slice none 0 0, .int .i64 0]) (t := 25) ?_; intro gb529 hg w80 hbox hb; replace HO_4 := Aside0.mk (Kd.R_below (zr HO_4) hb); replace HO_504000 := Aside0.mk (Kd.R_below (zr HO_504000) hb); replace HO_510000 := Aside0.mk (Kd.R_below (zr HO_510000) hb); replace HO_516000 := Aside0.mk (Kd.R_below (zr HO_516000) hb); replace HO526 := Aside0.mk (Kd.R_below (zr HO526) hb); have BK529 := Aside0.mk (hbox); have GW529 := Aside0.mk ((by rw [hg]; exact (below_size (zb HB)) : w.heap.size ≤ gb529)); have GE529 := Aside0.mk ((by rw [hg]; exact (below_size (zb HB)) : w.heap.size ≤ gb529)); replace HB := Aside0.mk (below_step (zb HB) hb); have NB503_529 := Aside0.mk ((by rw [hg]; exact Nat.ne_of_lt (blk_lt (g := gb503) (o := .cells #[.slice Ao9 t496.length co9, .int .i64 t499] 25 (0, 0)) (zk BK503)) : gb503 ≠ gb529)); have NB529_503 := Aside0.mk ((by rw [hg]; exact Nat.ne_of_gt (blk_lt (g := gb503) (o := .cells #[.slice Ao9 t496.length co9, .int .i64 t499] 25 (0, 0)) (zk BK503)) : gb529 ≠ gb503)); replace BK503 := Aside0.mk (blk_below (g := gb503) (o := .cells #[.slice Ao9 t496.length co9, .int .i64 t499] 25 (0, 0)) (zk BK503) hb); have NB509_529 := Aside0.mk ((by rw [hg]; exact Nat.ne_of_lt (blk_lt (g := gb509) (o := .cells #[.slice Ao14 t504.length co14, .int .i64 t507] 25 (0, 0)) (zk BK509)) : gb509 ≠ gb529)); have NB529_509 := Aside0.mk ((by rw [hg]; exact Nat.ne_of_gt (blk_lt (g := gb509) (o := .cells #[.slice Ao14 t504.length co14, .int .i64 t507] 25 (0, 0)) (zk BK509)) : gb529 ≠ gb509)); replace BK509 := Aside0.mk (blk_below (g := gb509) (o := .cells #[.slice Ao14 t504.length co14, .int .i64 t507] 25 (0, 0)) (zk BK509) hb); have NB515_529 := Aside0.mk ((by rw [hg]; exact Nat.ne_of_lt (blk_lt (g := gb515) (o := .cells #[.slice Ao20 t510.length co20, .int .i64 t513] 25 (0, 0)) (zk BK515)) : gb515 ≠ gb529)); have NB529_515 := Aside0.mk ((by rw [hg]; exact Nat.ne_of_gt (blk_lt (g := gb515) (o := .cells #[.slice Ao20 t510.length co20, .int .i64 t513] 25 (0, 0)) (zk BK515)) : gb529 ≠ gb515)); replace BK515 := Aside0.mk (blk_below (g := gb515) (o := .cells #[.slice Ao20 t510.length co20, .int .i64 t513] 25 (0, 0)) (zk BK515) hb); clear hb hbox hg; obtain ⟨Ao81, co81, eo81⟩ := Kd.R_slice HO526.out; subst eo81; have hnb82 := NB529_503.out; have hnc82 := NB503_529.out; have hnb83 := NB529_509.out; have hnc83 := NB509_529.out; have hnb84 := NB529_515.out; have hnc84 := NB515_529.out; have hcz85_0 : w80.cell? ⟨gb529, 0, none⟩ = some (.slice none 0 0) := (blk_cell BK529.out 0).trans rfl; have hcz85_1 : w80.cell? ⟨gb529, 1, none⟩ = some (.int .i64 0) := (blk_cell BK529.out 1).trans rfl; have hfz85_0 := blk_frozen BK529.out 0; have hfz85_1 := blk_frozen BK529.out 1; have hcz86_0 : w80.cell? ⟨gb515, 0, none⟩ = some (.slice Ao20 t510.length co20) := (blk_cell BK515.out 0).trans rfl; have hcz86_1 : w80.cell? ⟨gb515, 1, none⟩ = some (.int .i64 t513) := (blk_cell BK515.out 1).trans rfl; have hfz86_0 := blk_frozen BK515.out 0; have hfz86_1 := blk_frozen BK515.out 1) | (go_at_call 17; (with_reducible refine (laws_lkTable.calls k2 _ _ t524 t527 _ _ t510 t513 t530 _ ?side1 ?side2 ?side3 ?side4 A75.out).mono ?_); (case side1 => refine (Kd.R_reads' (e := 36) (base := w.heap.size) (ok := fun k_ => ((((True ∧ some k_ ≠ (.slice Ao11 t500.length co11 : Value).ownBlock) ∧ some k_ ≠ (.slice Ao9 t496.length co9 : Value).ownBlock) ∧ some k_ ≠ (.slice Ao14 t504.length co14 : Value).ownBlock) ∧ some k_ ≠ (.slice Ao20 t510.length co20 : Value).ownBlock)) (n := t524.length) (c := co81) ?_).2.2; exact (by (with_reducible repeat (first | apply Kd.R_alloc | apply Kd.R_drewN | apply Kd.R_drew)); exact (Kd.R_mono (Kd.R_far (p := ⟨gb529, 1, none⟩) (Kd.R_far (p := ⟨gb529, 0, none⟩) (Kd.R_types HO526.out BK529.out (by decide)) (fun _ hk => hk.2) (.slice Ao81 t524.length co81)) (fun _ hk => hk.2) (.int .i64 t527)) (fun _ h_ => h_.1)))); (case side2 => exact (Kd.R_reads' HO526.out).2.1); (case side3 => refine (Kd.R_reads' (e := 36) (base := w.heap.size) (ok := fun k_ => ((some k_ ≠ (.slice Ao11 t500.length co11 : Value).ownBlock ∧ (some k_ ≠ (.slice Ao9 t496.length co9 : Value).ownBlock ∧ some k_ ≠ (.slice Ao14 t504.length co14 : Value).ownBlock)) ∧ some k_ ≠ (.slice Ao81 t524.length co81 : Value).ownBlock)) (n := t510.length) (c := co20) ?_).2.2; exact (by (with_reducible repeat (first | apply Kd.R_alloc | apply Kd.R_drewN | apply Kd.R_drew)); exact (Kd.R_mono (Kd.R_far (p := ⟨gb529, 1, none⟩) (Kd.R_far (p := ⟨gb529, 0, none⟩) (Kd.R_types HO_516000.out BK529.out (by decide)) (fun _ hk => hk.2) (.slice Ao81 t524.length co81)) (fun _ hk => hk.2) (.int .i64 t527)) (fun _ h_ => h_.1)))); (case side4 => exact (Kd.R_reads' HO_516000.out).2.1); rintro e w87 ⟨rfl, hb⟩; replace HO_4 := Aside0.mk (Kd.R_below (by (with_reducible repeat (first | apply Kd.R_alloc | apply Kd.R_drewN | apply Kd.R_drew)); exact (Kd.R_mono (Kd.R_far (p := ⟨gb529, 1, none⟩) (Kd.R_far (p := ⟨gb529, 0, none⟩) (Kd.R_types HO_4.out BK529.out (by decide)) (fun _ hk => hk.2) (.slice Ao81 t524.length co81)) (fun _ hk => hk.2) (.int .i64 t527)) (fun _ h_ => h_.1))) hb); replace HO_504000 := Aside0.mk (Kd.R_below (by (with_reducible repeat (first | apply Kd.R_alloc | apply Kd.R_drewN | apply Kd.R_drew)); exact (Kd.R_mono (Kd.R_far (p := ⟨gb529, 1, none⟩) (Kd.R_far (p := ⟨gb529, 0, none⟩) (Kd.R_types HO_504000.out BK529.out (by decide)) (fun _ hk => hk.2) (.slice Ao81 t524.length co81)) (fun _ hk => hk.2) (.int .i64 t527)) (fun _ h_ => h_.1))) hb); replace HO_510000 := Aside0.mk (Kd.R_below (by (with_reducible repeat (first | apply Kd.R_alloc | apply Kd.R_drewN | apply Kd.R_drew)); exact (Kd.R_mono (Kd.R_far (p := ⟨gb529, 1, none⟩) (Kd.R_far (p := ⟨gb529, 0, none⟩) (Kd.R_types HO_510000.out BK529.out (by decide)) (fun _ hk => hk.2) (.slice Ao81 t524.length co81)) (fun _ hk => hk.2) (.int .i64 t527)) (fun _ h_ => h_.1))) hb); replace HO_516000 := Aside0.mk (Kd.R_below (by (with_reducible repeat (first | apply Kd.R_alloc | apply Kd.R_drewN | apply Kd.R_drew)); exact (Kd.R_mono (Kd.R_far (p := ⟨gb529, 1, none⟩) (Kd.R_far (p := ⟨gb529, 0, none⟩) (Kd.R_types HO_516000.out BK529.out (by decide)) (fun _ hk => hk.2) (.slice Ao81 t524.length co81)) (fun _ hk => hk.2) (.int .i64 t527)) (fun _ h_ => h_.1))) hb); replace HO526 := Aside0.mk (Kd.R_below (by (with_reducible repeat (first | apply Kd.R_alloc | apply Kd.R_drewN | apply Kd.R_drew)); exact (Kd.R_mono (Kd.R_far (p := ⟨gb529, 1, none⟩) (Kd.R_far (p := ⟨gb529, 0, none⟩) (Kd.R_types HO526.out BK529.out (by decide)) (fun _ hk => hk.2) (.slice Ao81 t524.length co81)) (fun _ hk => hk.2) (.int .i64 t527)) (fun _ h_ => h_.1))) hb); replace BK503 := Aside0.mk (blk_below (g := gb503) (o := .cells #[.slice Ao9 t496.length co9, .int .i64 t499] 25 (0, 0)) (by (with_reducible repeat (first | refine blk_drewN ?_ _ | refine blk_drew ?_ | refine blk_alloc ?_ _)); refine blk_far ?_ NB503_529.out _; (with_reducible repeat (first | refine blk_drewN ?_ _ | refine blk_drew ?_ | refine blk_alloc ?_ _)); refine blk_far ?_ NB503_529.out _; exact zk BK503) hb); replace BK509 := Aside0.mk (blk_below (g := gb509) (o := .cells #[.slice Ao14 t504.length co14, .int .i64 t507] 25 (0, 0)) (by (with_reducible repeat (first | refine blk_drewN ?_ _ | refine blk_drew ?_ | refine blk_alloc ?_ _)); refine blk_far ?_ NB509_529.out _; (with_reducible repeat (first | refine blk_drewN ?_ _ | refine blk_drew ?_ | refine blk_alloc ?_ _)); refine blk_far ?_ NB509_529.out _; exact zk BK509) hb); replace BK515 := Aside0.mk (blk_below (g := gb515) (o := .cells #[.slice Ao20 t510.length co20, .int .i64 t513] 25 (0, 0)) (by (with_reducible repeat (first | refine blk_drewN ?_ _ | refine blk_drew ?_ | refine blk_alloc ?_ _)); refine blk_far ?_ NB515_529.out _; (with_reducible repeat (first | refine blk_drewN ?_ _ | refine blk_drew ?_ | refine blk_alloc ?_ _)); refine blk_far ?_ NB515_529.out _; exact zk BK515) hb); replace BK529 := Aside0.mk (blk_below (g := gb529) (o := .cells #[.slice Ao81 t524.length co81, .int .i64 t527] 25 (0, 0)) (by (with_reducible repeat (first | refine blk_drewN ?_ _ | refine blk_drew ?_ | refine blk_alloc ?_ _)); refine blk_put (cs := #[.slice Ao81 t524.length co81, .int .i64 0]) ?_ 1 _ rfl; (with_reducible repeat (first | refine blk_drewN ?_ _ | refine blk_drew ?_ | refine blk_alloc ?_ _)); refine blk_put (cs := #[.slice none 0 0, .int .i64 0]) ?_ 0 _ rfl; exact zk BK529) hb); replace HB := Aside0.mk (below_step (zb HB) hb); (try clear hb); (try clear hk)))
         go_ret
         exact ⟨ze, zb HB⟩
        ·rw [if_neg c74] at H
         have c74b0 : ((t528.size : Int) == (t500.length : Int)) = false := beq_eq_false_iff_ne.mpr c74
         have c74b1 : ((t528.size : Int) != (t500.length : Int)) = true := bne_iff_ne.mpr c74
         have c74b2 : (t528.size == t500.length) = false := by first | simpa using c74 | (simp at c74 ⊢; omega)
         obtain rfl := Option.some.inj H
         have hnb88 := NB515_503.out
         have hnc88 := NB503_515.out
         have hnb89 := NB515_509.out
         have hnc89 := NB509_515.out
         have hcz90_0 : wr.cell? ⟨gb515, 0, none⟩ = some (.slice Ao20 t510.length co20) := (blk_cell BK515.out 0).trans rfl
         have hcz90_1 : wr.cell? ⟨gb515, 1, none⟩ = some (.int .i64 t513) := (blk_cell BK515.out 1).trans rfl
         have hfz90_0 := blk_frozen BK515.out 0
         have hfz90_1 := blk_frozen BK515.out 1
         go_wp2_with (first | ((with_reducible refine gq 39 rfl ?_); refine gl (some 88) Try.func39 #[.agg #[.slice Ao20 t510.length co20, .int .i64 t513], .slice Ao11 t500.length co11] ?_; (with_reducible refine (impl_HeadWrite.calls k2 _ _ t510 t513 _ _ t500 t524 t527 t528 _ ?side1 ?side2 ?side3 ?side4 A73.out).mono ?_); (case side1 => exact zc (Kd.R_reads' HO_516000.out).2.2); (case side2 => exact (Kd.R_reads' HO_516000.out).2.1); (case side3 => exact zc (Kd.R_reads' HO_4.out).2.2); (case side4 => exact (Kd.R_reads' HO_4.out).2.1); rintro e w91 ⟨v525, rfl, ho0, hb⟩; refine ⟨_, rfl, ?_⟩; have HO526 := Aside0.mk (Kd.R_lower (Kd.R_new' (Kd.R_new' (Kd.R_new' (Kd.R_new' ho0 (Kd.R_lt (zr HO_4))) (Kd.R_lt (zr HO_504000))) (Kd.R_lt (zr HO_510000))) (Kd.R_lt (zr HO_516000))) (below_size (zb HB))); replace HO_4 := Aside0.mk (Kd.R_elder' (zr HO_4) (Kd.R_base ho0) hb); replace HO_504000 := Aside0.mk (Kd.R_elder' (zr HO_504000) (Kd.R_base ho0) hb); replace HO_510000 := Aside0.mk (Kd.R_elder' (zr HO_510000) (Kd.R_base ho0) hb); replace HO_516000 := Aside0.mk (Kd.R_elder' (zr HO_516000) (Kd.R_base ho0) hb); replace BK503 := Aside0.mk (blk_below (g := gb503) (o := .cells #[.slice Ao9 t496.length co9, .int .i64 t499] 25 (0, 0)) (zk BK503) hb); replace BK509 := Aside0.mk (blk_below (g := gb509) (o := .cells #[.slice Ao14 t504.length co14, .int .i64 t507] 25 (0, 0)) (zk BK509) hb); replace BK515 := Aside0.mk (blk_below (g := gb515) (o := .cells #[.slice Ao20 t510.length co20, .int .i64 t513] 25 (0, 0)) (zk BK515) hb); replace HB := Aside0.mk (below_step (zb HB) hb); (try clear hb); (try clear ho0)) | ((with_reducible refine gd 12 rfl ?_); refine bx (N := 12) (cs := #[.slice none 0 0, .int .i64 0]) (t := 25) ?_; intro gb529 hg w92 hbox hb; replace HO_4 := Aside0.mk (Kd.R_below (zr HO_4) hb); replace HO_504000 := Aside0.mk (Kd.R_below (zr HO_504000) hb); replace HO_510000 := Aside0.mk (Kd.R_below (zr HO_510000) hb); replace HO_516000 := Aside0.mk (Kd.R_below (zr HO_516000) hb); replace HO526 := Aside0.mk (Kd.R_below (zr HO526) hb); have BK529 := Aside0.mk (hbox); have GW529 := Aside0.mk ((by rw [hg]; exact (below_size (zb HB)) : w.heap.size ≤ gb529)); have GE529 := Aside0.mk ((by rw [hg]; exact (below_size (zb HB)) : w.heap.size ≤ gb529)); replace HB := Aside0.mk (below_step (zb HB) hb); have NB503_529 := Aside0.mk ((by rw [hg]; exact Nat.ne_of_lt (blk_lt (g := gb503) (o := .cells #[.slice Ao9 t496.length co9, .int .i64 t499] 25 (0, 0)) (zk BK503)) : gb503 ≠ gb529)); have NB529_503 := Aside0.mk ((by rw [hg]; exact Nat.ne_of_gt (blk_lt (g := gb503) (o := .cells #[.slice Ao9 t496.length co9, .int .i64 t499] 25 (0, 0)) (zk BK503)) : gb529 ≠ gb503)); replace BK503 := Aside0.mk (blk_below (g := gb503) (o := .cells #[.slice Ao9 t496.length co9, .int .i64 t499] 25 (0, 0)) (zk BK503) hb); have NB509_529 := Aside0.mk ((by rw [hg]; exact Nat.ne_of_lt (blk_lt (g := gb509) (o := .cells #[.slice Ao14 t504.length co14, .int .i64 t507] 25 (0, 0)) (zk BK509)) : gb509 ≠ gb529)); have NB529_509 := Aside0.mk ((by rw [hg]; exact Nat.ne_of_gt (blk_lt (g := gb509) (o := .cells #[.slice Ao14 t504.length co14, .int .i64 t507] 25 (0, 0)) (zk BK509)) : gb529 ≠ gb509)); replace BK509 := Aside0.mk (blk_below (g := gb509) (o := .cells #[.slice Ao14 t504.length co14, .int .i64 t507] 25 (0, 0)) (zk BK509) hb); have NB515_529 := Aside0.mk ((by rw [hg]; exact Nat.ne_of_lt (blk_lt (g := gb515) (o := .cells #[.slice Ao20 t510.length co20, .int .i64 t513] 25 (0, 0)) (zk BK515)) : gb515 ≠ gb529)); have NB529_515 := Aside0.mk ((by rw [hg]; exact Nat.ne_of_gt (blk_lt (g := gb515) (o := .cells #[.slice Ao20 t510.length co20, .int .i64 t513] 25 (0, 0)) (zk BK515)) : gb529 ≠ gb515)); replace BK515 := Aside0.mk (blk_below (g := gb515) (o := .cells #[.slice Ao20 t510.length co20, .int .i64 t513] 25 (0, 0)) (zk BK515) hb); clear hb hbox hg; obtain ⟨Ao93, co93, eo93⟩ := Kd.R_slice HO526.out; subst eo93; have hnb94 := NB529_503.out; have hnc94 := NB503_529.out; have hnb95 := NB529_509.out; have hnc95 := NB509_529.out; have hnb96 := NB529_515.out; have hnc96 := NB515_529.out; have hcz97_0 : w92.cell? ⟨gb529, 0, none⟩ = some (.slice none 0 0) := (blk_cell BK529.out 0).trans rfl; have hcz97_1 : w92.cell? ⟨gb529, 1, none⟩ = some (.int .i64 0) := (blk_cell BK529.out 1).trans rfl; have hfz97_0 := blk_frozen BK529.out 0; have hfz97_1 := blk_frozen BK529.out 1))
         go_ret
         exact ⟨ze, zb HB⟩

/-- THE ONE PURE STATEMENT of laws_FnHeadAgain: yours. -/
def laws_FnHeadAgain.Pure : Prop := ∀ (l0 : List Int), l0.length ≤ maxLen → l0.length * 1 ≤ 140737488351232 → (∀ x ∈ l0, (Lit.int .u8 x).wf = true) → ∃ k, laws_FnHeadAgain.f k l0 = some true
theorem laws_FnHeadAgain.walk (P : laws_FnHeadAgain.Pure) (a0 : Option Addr) (len0 cap0 : Nat) (z0 : List Int) (w : World) (w0 : (a0 = none ∧ len0 = 0 ∧ cap0 = 0 ∧ z0 = []) ∨ ∃ x, a0 = some x ∧ len0 ≤ cap0 ∧ cap0 ≤ maxLen ∧ z0.length = cap0 ∧ (∀ i, i < z0.length → w.cell? (x.add i) = some (.int .u8 (z0.getD i 0))) ∧ ∀ n ∈ z0, (Lit.int .u8 n).wf = true) (y0 : len0 * 1 ≤ 140737488351232) :
  Calls Try.prog 13 #[.slice a0 len0 cap0] w fun e w' => e = .returned (.bool true) ∧ Below w.heap.size w w' := by
 obtain ⟨l0, rfl, hr0, hm0, hw0, hc0⟩ := ReadsInt.ofRowC w0
 obtain ⟨k, h⟩ := P l0 hm0 y0 hw0
 refine (laws_FnHeadAgain.calls k _ _ l0 true w (Kd.C_of_reads (d := (0 : Int)) (h1 := fun _ => rfl) hr0) hc0 h).mono ?_
 rintro e w' ⟨rfl, hd⟩
 exact ⟨rfl, hd⟩

end Go.Proofs.Ytdhahifdcoinhaa.PFnHeadAgain
