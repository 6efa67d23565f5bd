-- WRITTEN BY a turned print (wip/tools of the prover's repo)
import Derived.Test.YtdhahifdcoinhaaPFnLimitTwicex0
import Derived.Test.YtdhahifdcoinhaaPFnLimitTwicex4
import Derived.Test.YtdhahifdcoinhaaPFnLimitTwicex7
import Derived.Test.YtdhahifdcoinhaaPFnLimitTwicex8
namespace Go.Proofs.Ytdhahifdcoinhaa.PFnLimitTwice
open Go.RowKit Go.Proofs.YtdhahifdcoinhaaW.PrintWords Go.Proofs.YtdhahifdcoinhaaW.PrintLast Go.Proofs.YtdhahifdcoinhaaW.PrintMore Go.Proofs.Ytdhahifdcoinhaa.Lm
attribute [local go_sem] max2_int min2_int max_two min_two max_three min_three max_four min_four   -- for this text's walks alone
set_option linter.unusedVariables false
set_option linter.unusedSimpArgs false

/-! ### laws_FnLimitTwice: function 3 -/
mutual
def laws_FnLimitTwice.j0 : Nat → List Int → List Int → Bool → Option (Bool)
 | 0, _, _, _ => none
 | k + 1, x0, x1, x16 => if x16 = true then (some true) else ((spec_DrawTableLimit.f k x0).bind fun bt309 => ((impl_TableLimit.f k bt309.1 bt309.2.1 bt309.2.2).bind fun bt315 => ((spec_TableLimit.f k bt309.1 bt309.2.1 bt309.2.2).bind fun bt320 => ((laws_lkTable.f k bt315.1 bt315.2 bt320.1 bt320.2).bind fun t324 => (if t324 = true then ((spec_TableOk.f k bt309.1 bt309.2.1).bind fun t325 => (if t325 = true then (if bt309.2.2 < 0 then (laws_FnLimitTwice.j1 k x1 bt309.2.2 true bt309.1 bt309.2.1 bt315.1 bt315.2) else (laws_FnLimitTwice.j1 k x1 bt309.2.2 (decide (bt309.2.2 > 64)) bt309.1 bt309.2.1 bt315.1 bt315.2)) else (laws_FnLimitTwice.j1 k x1 bt309.2.2 true bt309.1 bt309.2.1 bt315.1 bt315.2))) else (laws_FnLimitTwice.j1 k x1 bt309.2.2 true bt309.1 bt309.2.1 bt315.1 bt315.2))))))
def laws_FnLimitTwice.j1 : Nat → List Int → Int → Bool → List (S36) → Int → List (S36) → Int → Option (Bool)
 | 0, _, _, _, _, _, _, _ => none
 | k + 1, x1, x6, x43, x315000, x315001, x320000, x320001 => if x43 = true then ((spec_TableLimit.f k x315000 x315001 x6).bind fun bt326 => ((laws_lkTable.f k x320000 x320001 bt326.1 bt326.2).bind fun t330 => (some t330))) else (if (wrap64 (x6 + 1)) = 0 then (none) else ((impl_TableLimit.f k x320000 x320001 ((x1.length : Int) % (wrap64 (x6 + 1)))).bind fun bt331 => ((impl_TableLimit.f k x315000 x315001 ((x1.length : Int) % (wrap64 (x6 + 1)))).bind fun bt335 => ((laws_lkTable.f k bt331.1 bt331.2 bt335.1 bt335.2).bind fun t339 => (some t339)))))
end
def laws_FnLimitTwice.f (k : Nat) (l0 : List Int) (l1 : List Int) : Option (Bool) := if (l0.length : Int) > 1048576 then (laws_FnLimitTwice.j0 k l0 l1 true) else (laws_FnLimitTwice.j0 k l0 l1 (decide ((l1.length : Int) > 1048576)))
theorem laws_FnLimitTwice.mono_l : ∀ k, (∀ y0 y1 y2, LeO (laws_FnLimitTwice.j0 k y0 y1 y2) (laws_FnLimitTwice.j0 (k + 1) y0 y1 y2)) ∧ (∀ y0 y1 y2 y3 y4 y5 y6, LeO (laws_FnLimitTwice.j1 k y0 y1 y2 y3 y4 y5 y6) (laws_FnLimitTwice.j1 (k + 1) y0 y1 y2 y3 y4 y5 y6))
 | 0 => ⟨fun _ _ _ r h => by simp [laws_FnLimitTwice.j0] at h, fun _ _ _ _ _ _ _ r h => by simp [laws_FnLimitTwice.j1] at h⟩
 | k + 1 => by
  obtain ⟨ih0, ih1⟩ := laws_FnLimitTwice.mono_l k
  refine ⟨?_, ?_⟩
  ·intro y0 y1 y2
   unfold laws_FnLimitTwice.j0
   repeat' first
   | (with_reducible exact ih0 _ _ _)
   | (with_reducible exact ih1 _ _ _ _ _ _ _)
   | (with_reducible exact impl_TableLimit.mono _ _ _ _)
   | (with_reducible exact laws_lkTable.mono _ _ _ _ _)
   | (with_reducible exact spec_DrawTableLimit.mono _ _)
   | (with_reducible exact spec_TableLimit.mono _ _ _ _)
   | (with_reducible exact spec_TableOk.mono _ _ _)
   | (with_reducible exact LeO.refl _)
   | (with_reducible exact LeO.none _)
   | (with_reducible refine LeO.ite ?_ ?_)
   | (with_reducible refine LeO.bind ?_ (fun _ => ?_))
   | exact ih0 _ _ _
   | exact ih1 _ _ _ _ _ _ _
   | exact impl_TableLimit.mono _ _ _ _
   | exact laws_lkTable.mono _ _ _ _ _
   | exact spec_DrawTableLimit.mono _ _
   | exact spec_TableLimit.mono _ _ _ _
   | exact spec_TableOk.mono _ _ _
   | exact LeO.none _
   | refine LeO.ite ?_ ?_
   | refine LeO.bind ?_ (fun _ => ?_)
  ·intro y0 y1 y2 y3 y4 y5 y6
   unfold laws_FnLimitTwice.j1
   repeat' first
   | (with_reducible exact ih0 _ _ _)
   | (with_reducible exact ih1 _ _ _ _ _ _ _)
   | (with_reducible exact impl_TableLimit.mono _ _ _ _)
   | (with_reducible exact laws_lkTable.mono _ _ _ _ _)
   | (with_reducible exact spec_DrawTableLimit.mono _ _)
   | (with_reducible exact spec_TableLimit.mono _ _ _ _)
   | (with_reducible exact spec_TableOk.mono _ _ _)
   | (with_reducible exact LeO.refl _)
   | (with_reducible exact LeO.none _)
   | (with_reducible refine LeO.ite ?_ ?_)
   | (with_reducible refine LeO.bind ?_ (fun _ => ?_))
   | exact ih0 _ _ _
   | exact ih1 _ _ _ _ _ _ _
   | exact impl_TableLimit.mono _ _ _ _
   | exact laws_lkTable.mono _ _ _ _ _
   | exact spec_DrawTableLimit.mono _ _
   | exact spec_TableLimit.mono _ _ _ _
   | exact spec_TableOk.mono _ _ _
   | exact LeO.none _
   | refine LeO.ite ?_ ?_
   | refine LeO.bind ?_ (fun _ => ?_)
theorem laws_FnLimitTwice.mono : ∀ a0 a1 k, LeO (laws_FnLimitTwice.f k a0 a1) (laws_FnLimitTwice.f (k + 1) a0 a1) := by
 intro a0 a1 k
 obtain ⟨ih0, ih1⟩ := laws_FnLimitTwice.mono_l k
 unfold laws_FnLimitTwice.f
 repeat' first
   | (with_reducible exact ih0 _ _ _)
   | (with_reducible exact ih1 _ _ _ _ _ _ _)
   | (with_reducible exact impl_TableLimit.mono _ _ _ _)
   | (with_reducible exact laws_lkTable.mono _ _ _ _ _)
   | (with_reducible exact spec_DrawTableLimit.mono _ _)
   | (with_reducible exact spec_TableLimit.mono _ _ _ _)
   | (with_reducible exact spec_TableOk.mono _ _ _)
   | (with_reducible exact LeO.refl _)
   | (with_reducible exact LeO.none _)
   | (with_reducible refine LeO.ite ?_ ?_)
   | (with_reducible refine LeO.bind ?_ (fun _ => ?_))
   | exact ih0 _ _ _
   | exact ih1 _ _ _ _ _ _ _
   | exact impl_TableLimit.mono _ _ _ _
   | exact laws_lkTable.mono _ _ _ _ _
   | exact spec_DrawTableLimit.mono _ _
   | exact spec_TableLimit.mono _ _ _ _
   | exact spec_TableOk.mono _ _ _
   | exact LeO.none _
   | refine LeO.ite ?_ ?_
   | refine LeO.bind ?_ (fun _ => ?_)
def laws_FnLimitTwice.T5 : Bool × List (List Nat × List Nat) := (true, [([], []), ([], []), ([], []), ([1, 2], [1, 2]), ([0, 3, 3], [0, 3]), ([4], [4]), ([5, 4], [5]), ([6], [6]), ([7, 6, 6], [6, 7]), ([8, 6], [6, 8]), ([6, 9], [6, 9]), ([10, 8], [10]), ([11], [11]), ([12, 11], [11, 12]), ([11, 13], [11, 13]), ([14, 11], [14]), ([15], [15]), ([16, 15], [15, 16]), ([15, 17], [15, 17])])
def laws_FnLimitTwice.B5 : List Nat := [0, 0, 0, 6, 15, 31, 63, 127, 255, 511, 1023, 2047, 4095, 8191, 16383, 32767, 65535, 131071, 262143]
theorem laws_FnLimitTwice.tab5 : rtab .any (opsOf Try.f3 5) = laws_FnLimitTwice.T5 := by kernel_rfl
theorem laws_FnLimitTwice.bits5 : waitsOk laws_FnLimitTwice.T5.2 laws_FnLimitTwice.B5 = true := by kernel_rfl
def laws_FnLimitTwice.T8 : Bool × List (List Nat × List Nat) := (true, [([], []), ([], []), ([0, 1], [0, 1]), ([], []), ([], []), ([3, 4, 2], [3, 4]), ([2, 5, 5], [2, 5]), ([6, 6, 0, 1, 2, 3, 4, 5, 6], [6])])
def laws_FnLimitTwice.B8 : List Nat := [0, 0, 3, 0, 0, 31, 63, 127]
theorem laws_FnLimitTwice.tab8 : rtab .any (opsOf Try.f3 8) = laws_FnLimitTwice.T8 := by kernel_rfl
theorem laws_FnLimitTwice.bits8 : waitsOk laws_FnLimitTwice.T8.2 laws_FnLimitTwice.B8 = true := by kernel_rfl
set_option maxHeartbeats 8000000 in
set_option maxRecDepth 100000 in
theorem laws_FnLimitTwice.calls (k : Nat) (A0 : Option Addr) (c0 : Nat) (l0 : List Int) (A1 : Option Addr) (c1 : Nat) (l1 : List Int) (r : Bool) (w : World) (hr0 : Kd.C (Kd.int .u8) w A0 l0.length l0) (hc0 : l0.length ≤ c0) (hr1 : Kd.C (Kd.int .u8) w A1 l1.length l1) (hc1 : l1.length ≤ c1) (h : laws_FnLimitTwice.f k l0 l1 = some r) :
  Calls Try.prog 3 #[.slice A0 l0.length c0, .slice A1 l1.length c1] w fun e w' => e = .returned (.bool r) ∧ Below w.heap.size w w' := by
 have hu25 := Try.underlying25
 have HR0 := Aside0.mk hr0
 have HC0 := Aside0.mk hc0
 clear hr0 hc0
 have HR1 := Aside0.mk hr1
 have HC1 := Aside0.mk hc1
 clear hr1 hc1
 have HB := Aside0.mk (Below.refl w.heap.size w)
 have H : (if (l0.length : Int) > 1048576 then (laws_FnLimitTwice.j0 k l0 l1 true) else (laws_FnLimitTwice.j0 k l0 l1 (decide ((l1.length : Int) > 1048576)))) = some r := h
 clear h
 have HC3 := Aside0.mk H
 clear H
 go_enter Try.func3, Try.ntmps3
 go_upto_region 1 with (fail)
 go_cut [16] (fun v16 wc => ∃ (kq : Nat) (x16_2 : Bool), v16 = .bool x16_2 ∧ Aside0 (laws_FnLimitTwice.j0 kq l0 l1 x16_2 = some r) ∧ Aside0 (kq ≤ k) ∧ Aside0 (Below w.heap.size w wc))
 case first =>
  have H := HC3.out
  clear HC3
  by_cases c4 : (l0.length : Int) > 1048576
  ·rw [if_pos c4] at H
   have c4b0 : decide (1048576 < (l0.length : Int)) = true := decide_eq_true c4
   have c4b1 : decide (1048576 < l0.length) = true := decide_eq_true (by omega)
   clear c4
   (first | rw [c4b0] | (simp only [i64_w, i32_w]; rw [c4b0]) | skip)
   have H' := Aside0.mk H
   clear H
   go_wp2
   go_meet
   case rel => exact ⟨_, (true), zs, H', ⟨by first | omega | exact Nat.le_refl _⟩, ⟨zb HB⟩⟩
  ·rw [if_neg c4] at H
   have c4b0 : decide (1048576 < (l0.length : Int)) = false := decide_eq_false c4
   have c4b1 : decide (1048576 < l0.length) = false := decide_eq_false (by omega)
   clear c4
   (first | rw [c4b0] | (simp only [i64_w, i32_w]; rw [c4b0]) | skip)
   have H' := Aside0.mk H
   clear H
   go_wp2
   go_meet
   case rel => exact ⟨_, (decide ((l1.length : Int) > 1048576)), zs, H', ⟨by first | omega | exact Nat.le_refl _⟩, ⟨zb HB⟩⟩
 case rest =>
  clear HC3
  try clear c1
  try clear p2
  try clear c3
  try clear c4
  try clear c4b0
  try clear c4b1
  obtain ⟨kq, x16_2, rfl, HA, HJ2, HB⟩ := hcut
  cases kq with
  | zero => exact absurd HA.out (by simp [laws_FnLimitTwice.j0])
  | succ kj2 =>
   have H := HA.out
   clear HA
   simp only [laws_FnLimitTwice.j0] at H
   by_cases c5 : x16_2 = true
   ·subst c5
    have H1 : (some true) = some r := by rw [if_pos rfl] at H; exact H
    clear H
    have H := H1
    clear H1
    obtain rfl := Option.some.inj H
    go_wp2
    go_ret
    exact ⟨ze, zb HB⟩
   ·replace c5 := Bool.eq_false_iff.mpr c5
    subst c5
    have H1 : ((spec_DrawTableLimit.f kj2 l0).bind fun bt309 => ((impl_TableLimit.f kj2 bt309.1 bt309.2.1 bt309.2.2).bind fun bt315 => ((spec_TableLimit.f kj2 bt309.1 bt309.2.1 bt309.2.2).bind fun bt320 => ((laws_lkTable.f kj2 bt315.1 bt315.2 bt320.1 bt320.2).bind fun t324 => (if t324 = true then ((spec_TableOk.f kj2 bt309.1 bt309.2.1).bind fun t325 => (if t325 = true then (if bt309.2.2 < 0 then (laws_FnLimitTwice.j1 kj2 l1 bt309.2.2 true bt309.1 bt309.2.1 bt315.1 bt315.2) else (laws_FnLimitTwice.j1 kj2 l1 bt309.2.2 (decide (bt309.2.2 > 64)) bt309.1 bt309.2.1 bt315.1 bt315.2)) else (laws_FnLimitTwice.j1 kj2 l1 bt309.2.2 true bt309.1 bt309.2.1 bt315.1 bt315.2))) else (laws_FnLimitTwice.j1 kj2 l1 bt309.2.2 true bt309.1 bt309.2.1 bt315.1 bt315.2)))))) = some r := by rw [if_neg (show ¬ (false = true) by decide)] at H; exact H
    clear H
    have H := H1
    clear H1
    replace H := Option.bind_eq_some_iff.mp H
    obtain ⟨⟨t309, t312, t313⟩, A60, H⟩ := H
    replace H : ((impl_TableLimit.f kj2 t309 t312 t313).bind fun bt315 => ((spec_TableLimit.f kj2 t309 t312 t313).bind fun bt320 => ((laws_lkTable.f kj2 bt315.1 bt315.2 bt320.1 bt320.2).bind fun t324 => (if t324 = true then ((spec_TableOk.f kj2 t309 t312).bind fun t325 => (if t325 = true then (if t313 < 0 then (laws_FnLimitTwice.j1 kj2 l1 t313 true t309 t312 bt315.1 bt315.2) else (laws_FnLimitTwice.j1 kj2 l1 t313 (decide (t313 > 64)) t309 t312 bt315.1 bt315.2)) else (laws_FnLimitTwice.j1 kj2 l1 t313 true t309 t312 bt315.1 bt315.2))) else (laws_FnLimitTwice.j1 kj2 l1 t313 true t309 t312 bt315.1 bt315.2))))) = some r := H
    have A6 := Aside0.mk A60
    clear A60
    replace H := Option.bind_eq_some_iff.mp H
    obtain ⟨⟨t315, t318⟩, A70, H⟩ := H
    replace H : ((spec_TableLimit.f kj2 t309 t312 t313).bind fun bt320 => ((laws_lkTable.f kj2 t315 t318 bt320.1 bt320.2).bind fun t324 => (if t324 = true then ((spec_TableOk.f kj2 t309 t312).bind fun t325 => (if t325 = true then (if t313 < 0 then (laws_FnLimitTwice.j1 kj2 l1 t313 true t309 t312 t315 t318) else (laws_FnLimitTwice.j1 kj2 l1 t313 (decide (t313 > 64)) t309 t312 t315 t318)) else (laws_FnLimitTwice.j1 kj2 l1 t313 true t309 t312 t315 t318))) else (laws_FnLimitTwice.j1 kj2 l1 t313 true t309 t312 t315 t318)))) = some r := H
    have A7 := Aside0.mk A70
    clear A70
    have HC8 := Aside0.mk H
    clear H
    go_upto_region 5 with (first | ((with_reducible refine gate_callee (f := 15) rfl ?_); refine goesL_ (some 19) rfl rfl Try.func15 (by kernel_rfl) rfl #[.slice A0 l0.length c0] rfl zl ?_; (with_reducible refine (spec_DrawTableLimit.calls kj2 _ _ l0 t309 t312 t313 _ ?side1 ?side2 A6.out).mono ?_); (case side1 => repeat (first | exact (Kd.C_below HR0.out HB.out) | (with_reducible refine Kd.C_alloc ?_ _) | (with_reducible refine Kd.C_drewN ?_ _) | (with_reducible refine Kd.C_drew ?_))); (case side2 => exact HC0.out); rintro e w9 ⟨v310, rfl, ho0, hb⟩; refine ⟨_, rfl, ?_⟩; have n0_ := Aside0.mk (Kd.R_lower ho0 (below_size (zb HB))); have n1_ := Aside0.mk (below_step (zb HB) hb); clear HB; have HO311 := n0_; have HB := n1_; clear n0_ n1_; (try clear hb); (try clear hb2); (try clear hk); (try clear hi); (try clear ho0)) | ((with_reducible refine gate_dst (N := 5) rfl ?_); (try (refine gate_guard (by rfl) ?_; dsimp only)); refine box_event ?hg (N := 5) ?hd (cs := #[.slice none 0 0, .int .i64 0]) (t := 25) ?hr ?_; (case hd => rfl); (case hg => rfl); (case hr => first | (go_simp; done) | (go_simp; rfl)); intro gb314 hg w10 hbox hb; have n0_ := Aside0.mk (Kd.R_below (zr HO311) hb); have n1_ := Aside0.mk (below_step (zb HB) hb); have n2_ := Aside0.mk (hbox); have n3_ := Aside0.mk ((by rw [hg]; exact (below_size (zb HB)) : w.heap.size ≤ gb314)); have n4_ := Aside0.mk ((by rw [hg]; exact (below_size (zb HB)) : w.heap.size ≤ gb314)); clear HO311; clear HB; have HO311 := n0_; have HB := n1_; have BK314 := n2_; have GW314 := n3_; have GE314 := n4_; clear n0_ n1_ n2_ n3_ n4_; clear hb hbox hg; obtain ⟨Ao11, co11, eo11⟩ := Kd.R_slice HO311.out; subst eo11; have hcz12_0 : w10.cell? ⟨gb314, 0, none⟩ = some (.slice none 0 0) := (blk_cell BK314.out 0).trans rfl; have hcz12_1 : w10.cell? ⟨gb314, 1, none⟩ = some (.int .i64 0) := (blk_cell BK314.out 1).trans rfl; have hfz12_0 := blk_frozen BK314.out 0; have hfz12_1 := blk_frozen BK314.out 1) | ((with_reducible refine gate_callee (f := 16) rfl ?_); refine goesL_ (some 24) rfl rfl Try.func16 (by kernel_rfl) rfl #[.agg #[.slice Ao11 t309.length co11, .int .i64 t312], .int .i64 t313] rfl zl ?_; (with_reducible refine (impl_TableLimit.calls kj2 _ _ t309 t312 t313 t315 t318 _ ?side1 ?side2 A7.out).mono ?_); (case side1 => refine (Kd.R_reads' (e := 36) (base := w.heap.size) (ok := fun k_ => True) (n := t309.length) (c := co11) ?_).2.2; exact (by (with_reducible repeat (first | apply Kd.R_alloc | apply Kd.R_drewN | apply Kd.R_drew)); exact (Kd.R_mono (Kd.R_far (p := ⟨gb314, 1, none⟩) (Kd.R_far (p := ⟨gb314, 0, none⟩) (Kd.R_types HO311.out BK314.out (by decide)) (fun _ hk => hk.2) (.slice Ao11 t309.length co11)) (fun _ hk => hk.2) (.int .i64 t312)) (fun _ h_ => h_.1)))); (case side2 => exact (Kd.R_reads' HO311.out).2.1); rintro e w13 ⟨v316, rfl, ho0, hb⟩; refine ⟨_, rfl, ?_⟩; have n0_ := Aside0.mk (Kd.R_elder' (by (with_reducible repeat (first | apply Kd.R_alloc | apply Kd.R_drewN | apply Kd.R_drew)); exact (Kd.R_mono (Kd.R_far (p := ⟨gb314, 1, none⟩) (Kd.R_far (p := ⟨gb314, 0, none⟩) (Kd.R_types HO311.out BK314.out (by decide)) (fun _ hk => hk.2) (.slice Ao11 t309.length co11)) (fun _ hk => hk.2) (.int .i64 t312)) (fun _ h_ => h_.1))) (Kd.R_base ho0) hb); have n1_ := Aside0.mk (Kd.R_lower (Kd.R_new' ho0 (Kd.R_lt (by (with_reducible repeat (first | apply Kd.R_alloc | apply Kd.R_drewN | apply Kd.R_drew)); exact (Kd.R_mono (Kd.R_far (p := ⟨gb314, 1, none⟩) (Kd.R_far (p := ⟨gb314, 0, none⟩) (Kd.R_types HO311.out BK314.out (by decide)) (fun _ hk => hk.2) (.slice Ao11 t309.length co11)) (fun _ hk => hk.2) (.int .i64 t312)) (fun _ h_ => h_.1))))) (below_size (zb HB))); have n2_ := Aside0.mk (blk_below (g := gb314) (o := .cells #[.slice Ao11 t309.length co11, .int .i64 t312] 25 (0, 0)) (by (with_reducible repeat (first | refine blk_drewN ?_ _ | refine blk_drew ?_ | refine blk_alloc ?_ _)); refine blk_put (cs := #[.slice Ao11 t309.length co11, .int .i64 0]) ?_ 1 _ rfl; (with_reducible repeat (first | refine blk_drewN ?_ _ | refine blk_drew ?_ | refine blk_alloc ?_ _)); refine blk_put (cs := #[.slice none 0 0, .int .i64 0]) ?_ 0 _ rfl; exact zk BK314) hb); have n3_ := Aside0.mk (below_step (zb HB) hb); clear HO311; clear BK314; clear HB; have HO311 := n0_; have HO317 := n1_; have BK314 := n2_; have HB := n3_; clear n0_ n1_ n2_ n3_; (try clear hb); (try clear hb2); (try clear hk); (try clear hi); (try clear ho0)) | ((with_reducible refine gate_dst (N := 7) rfl ?_); (try (refine gate_guard (by rfl) ?_; dsimp only)); refine box_event ?hg (N := 7) ?hd (cs := #[.slice none 0 0, .int .i64 0]) (t := 25) ?hr ?_; (case hd => rfl); (case hg => rfl); (case hr => first | (go_simp; done) | (go_simp; rfl)); intro gb319 hg w14 hbox hb; have n0_ := Aside0.mk (Kd.R_below (zr HO311) hb); have n1_ := Aside0.mk (Kd.R_below (zr HO317) hb); have n2_ := Aside0.mk (blk_below (g := gb314) (o := .cells #[.slice Ao11 t309.length co11, .int .i64 t312] 25 (0, 0)) (zk BK314) hb); have n3_ := Aside0.mk (below_step (zb HB) hb); have n4_ := Aside0.mk (hbox); have n5_ := Aside0.mk ((by rw [hg]; exact (below_size (zb HB)) : w.heap.size ≤ gb319)); have n6_ := Aside0.mk ((by rw [hg]; exact (below_size (zb HB)) : w.heap.size ≤ gb319)); have n7_ := Aside0.mk ((by rw [hg]; exact Nat.ne_of_lt (blk_lt (g := gb314) (o := .cells #[.slice Ao11 t309.length co11, .int .i64 t312] 25 (0, 0)) (zk BK314)) : gb314 ≠ gb319)); have n8_ := Aside0.mk ((by rw [hg]; exact Nat.ne_of_gt (blk_lt (g := gb314) (o := .cells #[.slice Ao11 t309.length co11, .int .i64 t312] 25 (0, 0)) (zk BK314)) : gb319 ≠ gb314)); clear HO311; clear HO317; clear BK314; clear HB; have HO311 := n0_; have HO317 := n1_; have BK314 := n2_; have HB := n3_; have BK319 := n4_; have GW319 := n5_; have GE319 := n6_; have NB314_319 := n7_; have NB319_314 := n8_; clear n0_ n1_ n2_ n3_ n4_ n5_ n6_ n7_ n8_; clear hb hbox hg; obtain ⟨Ao15, co15, eo15⟩ := Kd.R_slice HO317.out; subst eo15; have hnb16 := NB319_314.out; have hnc16 := NB314_319.out; have hcz17_0 : w14.cell? ⟨gb319, 0, none⟩ = some (.slice none 0 0) := (blk_cell BK319.out 0).trans rfl; have hcz17_1 : w14.cell? ⟨gb319, 1, none⟩ = some (.int .i64 0) := (blk_cell BK319.out 1).trans rfl; have hfz17_0 := blk_frozen BK319.out 0; have hfz17_1 := blk_frozen BK319.out 1))
    (try simp only [Act.put, s1, s2, s3])
    go_cut [43] (fun v43 wc => ∃ (kq : Nat) (x43_7 : Bool), v43 = .bool x43_7 ∧ Aside0 (laws_FnLimitTwice.j1 kq l1 t313 x43_7 t309 t312 t315 t318 = some r) ∧ Aside0 (kq ≤ kj2) ∧ Aside0 (Kd.R k36 36 wc w.heap.size (fun k_ => some k_ ≠ ((.slice Ao15 t315.length co15) : Value).ownBlock) (.slice Ao11 t309.length co11) t309) ∧ Aside0 (Kd.R k36 36 wc w.heap.size (fun k_ => some k_ ≠ ((.slice Ao11 t309.length co11) : Value).ownBlock) (.slice Ao15 t315.length co15) t315) ∧ Aside0 (wc.heap[gb314]? = some (.cells #[(.slice Ao11 t309.length co11), .int .i64 t312] 25 (0, 0))) ∧ Aside0 (wc.heap[gb319]? = some (.cells #[(.slice Ao15 t315.length co15), .int .i64 t318] 25 (0, 0))) ∧ Aside0 (Below w.heap.size w wc))
    case first =>
     have H := HC8.out
     clear HC8
     replace H := Option.bind_eq_some_iff.mp H
     obtain ⟨⟨t320, t323⟩, A180, H⟩ := H
     replace H : ((laws_lkTable.f kj2 t315 t318 t320 t323).bind fun t324 => (if t324 = true then ((spec_TableOk.f kj2 t309 t312).bind fun t325 => (if t325 = true then (if t313 < 0 then (laws_FnLimitTwice.j1 kj2 l1 t313 true t309 t312 t315 t318) else (laws_FnLimitTwice.j1 kj2 l1 t313 (decide (t313 > 64)) t309 t312 t315 t318)) else (laws_FnLimitTwice.j1 kj2 l1 t313 true t309 t312 t315 t318))) else (laws_FnLimitTwice.j1 kj2 l1 t313 true t309 t312 t315 t318))) = some r := H
     have A18 := Aside0.mk A180
     clear A180
     replace H := Option.bind_eq_some_iff.mp H
     obtain ⟨t324, A190, H⟩ := H
     replace H : (if t324 = true then ((spec_TableOk.f kj2 t309 t312).bind fun t325 => (if t325 = true then (if t313 < 0 then (laws_FnLimitTwice.j1 kj2 l1 t313 true t309 t312 t315 t318) else (laws_FnLimitTwice.j1 kj2 l1 t313 (decide (t313 > 64)) t309 t312 t315 t318)) else (laws_FnLimitTwice.j1 kj2 l1 t313 true t309 t312 t315 t318))) else (laws_FnLimitTwice.j1 kj2 l1 t313 true t309 t312 t315 t318)) = some r := H
     have A19 := Aside0.mk A190
     clear A190
     by_cases c20 : t324 = true
     ·subst c20
      have H1 : ((spec_TableOk.f kj2 t309 t312).bind fun t325 => (if t325 = true then (if t313 < 0 then (laws_FnLimitTwice.j1 kj2 l1 t313 true t309 t312 t315 t318) else (laws_FnLimitTwice.j1 kj2 l1 t313 (decide (t313 > 64)) t309 t312 t315 t318)) else (laws_FnLimitTwice.j1 kj2 l1 t313 true t309 t312 t315 t318))) = some r := by rw [if_pos rfl] at H; exact H
      clear H
      have H := H1
      clear H1
      replace H := Option.bind_eq_some_iff.mp H
      obtain ⟨t325, A210, H⟩ := H
      replace H : (if t325 = true then (if t313 < 0 then (laws_FnLimitTwice.j1 kj2 l1 t313 true t309 t312 t315 t318) else (laws_FnLimitTwice.j1 kj2 l1 t313 (decide (t313 > 64)) t309 t312 t315 t318)) else (laws_FnLimitTwice.j1 kj2 l1 t313 true t309 t312 t315 t318)) = some r := H
      have A21 := Aside0.mk A210
      clear A210
      by_cases c22 : t325 = true
      ·subst c22
       have H1 : (if t313 < 0 then (laws_FnLimitTwice.j1 kj2 l1 t313 true t309 t312 t315 t318) else (laws_FnLimitTwice.j1 kj2 l1 t313 (decide (t313 > 64)) t309 t312 t315 t318)) = some r := by rw [if_pos rfl] at H; exact H
       clear H
       have H := H1
       clear H1
       by_cases c23 : t313 < 0
       ·rw [if_pos c23] at H
        have c23b0 : decide (t313 < 0) = true := decide_eq_true c23
        clear c23
        (first | rw [c23b0] | (simp only [i64_w, i32_w]; rw [c23b0]) | skip)
        have H' := Aside0.mk H
        clear H
        try go_wp2
        have n0_ : Aside0 (Kd.R k36 36 ((w14.setCell ⟨gb319, 0, none⟩ (.slice Ao15 t315.length co15)).setCell ⟨gb319, 1, none⟩ (.int .i64 t318)) w.heap.size (fun k_ => some k_ ≠ (.slice Ao15 t315.length co15 : Value).ownBlock) (.slice Ao11 t309.length co11) t309) := ⟨by (with_reducible repeat (first | apply Kd.R_alloc | apply Kd.R_drewN | apply Kd.R_drew)); exact Kd.R_mono (Kd.R_far (p := ⟨gb319, 1, none⟩) (Kd.R_far (p := ⟨gb319, 0, none⟩) (Kd.R_types HO311.out BK319.out (by decide)) (fun _ hk => hk.2) (.slice Ao15 t315.length co15)) (fun _ hk => hk.2) (.int .i64 t318)) (fun _ hk => hk.1.2)⟩
        have n1_ : Aside0 (Kd.R k36 36 ((w14.setCell ⟨gb319, 0, none⟩ (.slice Ao15 t315.length co15)).setCell ⟨gb319, 1, none⟩ (.int .i64 t318)) w.heap.size (fun k_ => some k_ ≠ (.slice Ao11 t309.length co11 : Value).ownBlock) (.slice Ao15 t315.length co15) t315) := ⟨by (with_reducible repeat (first | apply Kd.R_alloc | apply Kd.R_drewN | apply Kd.R_drew)); exact Kd.R_mono (Kd.R_far (p := ⟨gb319, 1, none⟩) (Kd.R_far (p := ⟨gb319, 0, none⟩) (Kd.R_types HO317.out BK319.out (by decide)) (fun _ hk => hk.2) (.slice Ao15 t315.length co15)) (fun _ hk => hk.2) (.int .i64 t318)) (fun _ hk => hk.1.2)⟩
        have n2_ : Aside0 (((w14.setCell ⟨gb319, 0, none⟩ (.slice Ao15 t315.length co15)).setCell ⟨gb319, 1, none⟩ (.int .i64 t318)).heap[gb314]? = some (.cells #[.slice Ao11 t309.length co11, .int .i64 t312] 25 (0, 0))) := ⟨by (with_reducible repeat (first | refine blk_drewN ?_ _ | refine blk_drew ?_ | refine blk_alloc ?_ _)); refine blk_far ?_ NB314_319.out _; (with_reducible repeat (first | refine blk_drewN ?_ _ | refine blk_drew ?_ | refine blk_alloc ?_ _)); refine blk_far ?_ NB314_319.out _; exact zk BK314⟩
        have n3_ : Aside0 (((w14.setCell ⟨gb319, 0, none⟩ (.slice Ao15 t315.length co15)).setCell ⟨gb319, 1, none⟩ (.int .i64 t318)).heap[gb319]? = some (.cells #[.slice Ao15 t315.length co15, .int .i64 t318] 25 (0, 0))) := ⟨by (with_reducible repeat (first | refine blk_drewN ?_ _ | refine blk_drew ?_ | refine blk_alloc ?_ _)); refine blk_put (cs := #[.slice Ao15 t315.length co15, .int .i64 0]) ?_ 1 _ rfl; (with_reducible repeat (first | refine blk_drewN ?_ _ | refine blk_drew ?_ | refine blk_alloc ?_ _)); refine blk_put (cs := #[.slice none 0 0, .int .i64 0]) ?_ 0 _ rfl; exact zk BK319⟩
        have n4_ : Aside0 (Below w.heap.size w ((w14.setCell ⟨gb319, 0, none⟩ (.slice Ao15 t315.length co15)).setCell ⟨gb319, 1, none⟩ (.int .i64 t318))) := ⟨zb HB⟩
        (try clear HO311)
        (try clear HO317)
        (try clear BK314)
        (try clear BK319)
        (try clear HB)
        generalize ((w14.setCell ⟨gb319, 0, none⟩ (.slice Ao15 t315.length co15)).setCell ⟨gb319, 1, none⟩ (.int .i64 t318)) = w24 at n0_ n1_ n2_ n3_ n4_ ⊢
        have HO311 := n0_
        have HO317 := n1_
        have BK314 := n2_
        have BK319 := n3_
        have HB := n4_
        clear n0_ n1_ n2_ n3_ n4_
        have n0_ := Aside0.mk (Kd.R_drew HO311.out)
        have n1_ := Aside0.mk (Kd.R_drew HO317.out)
        have n2_ := Aside0.mk (blk_drew BK314.out)
        have n3_ := Aside0.mk (blk_drew BK319.out)
        have n4_ := Aside0.mk (below_drew1 HB.out)
        clear HO311
        clear HO317
        clear BK314
        clear BK319
        clear HB
        have HO311 := n0_
        have HO317 := n1_
        have BK314 := n2_
        have BK319 := n3_
        have HB := n4_
        clear n0_ n1_ n2_ n3_ n4_
        refine start_ (n := 19) (S := fun w' => w'.cell? ⟨gb319, 0, none⟩ = some (.slice Ao15 t315.length co15) ∧ w'.cell? ⟨gb319, 1, none⟩ = some (.int .i64 t318) ∧ w'.cell? ⟨gb314, 0, none⟩ = some (.slice Ao11 t309.length co11) ∧ w'.cell? ⟨gb314, 1, none⟩ = some (.int .i64 t312)) (ds := []) #[false, false, false, false, false, false, false, false, false, false, false, false, false, false, false, false, false, false, false] (by kernel_rfl) rfl rfl ⟨(blk_cell BK319.out 0).trans rfl, (blk_cell BK319.out 1).trans rfl, (blk_cell BK314.out 0).trans rfl, (blk_cell BK314.out 1).trans rfl⟩ (fun hHeld => ?_); refine with_tabW laws_FnLimitTwice.tab5 laws_FnLimitTwice.bits5 (fun HT_ HW_ => ?_)
        generalize w24.drew = w25 at HO311 HO317 BK314 BK319 HB hHeld ⊢
        refine pure_ (i := 2) (N := some 27) (v := ?_) (a' := ?_) #[false, false, true, false, false, false, false, false, false, false, false, false, false, false, false, false, false, false, false] rfl rfl (any_of HT_.out (by kernel_rfl)) (fun _ _ _ h => h) (Or.inl ⟨by rfl, ?_⟩) ?_ ?_
        rotate_left
        ·intro w'
         go_simp
         with_reducible rfl
        rotate_left
        ·simp only [Act.put, s1, s2, s3, i64_w, i32_w]
         rfl
        refine take_ (i := 0) (N := some 25) (v := ?_) (a' := ?_) #[true, false, true, false, false, false, false, false, false, false, false, false, false, false, false, false, false, false, false] rfl rfl (take_ofW HT_.out HW_.out (by kernel_rfl)) (fun _ _ _ h => h) (Or.inl ⟨by rfl, ?_⟩) hHeld ?_ ?_
        rotate_left
        ·rintro w' ⟨s0, s1, s2, s3⟩
         go_simp
         with_reducible rfl
        rotate_left
        ·simp only [Act.put, s1, s2, s3, i64_w, i32_w]
         rfl
        refine take_ (i := 1) (N := some 26) (v := ?_) (a' := ?_) #[true, true, true, false, false, false, false, false, false, false, false, false, false, false, false, false, false, false, false] rfl rfl (take_ofW HT_.out HW_.out (by kernel_rfl)) (fun _ _ _ h => h) (Or.inl ⟨by rfl, ?_⟩) hHeld ?_ ?_
        rotate_left
        ·rintro w' ⟨s0, s1, s2, s3⟩
         go_simp
         with_reducible rfl
        rotate_left
        ·simp only [Act.put, s1, s2, s3, i64_w, i32_w]
         rfl
        refine one_ (i := 3) (N := some 28) #[true, true, true, true, false, false, false, false, false, false, false, false, false, false, false, false, false, false, false] rfl rfl (one_of HT_.out (by kernel_rfl)) (by decide) (fun K hK => ?_)
        refine goes_ Try.func18 (by kernel_rfl) rfl #[.agg #[.slice Ao11 t309.length co11, .int .i64 t312], .int .i64 t313] (by rfl) rfl rfl zl ?_
        with_reducible refine (spec_TableLimit.calls kj2 _ _ t309 t312 t313 t320 t323 _ ?side1 ?side2 A18.out).mono ?_
        (case side1 => repeat (first | exact (Kd.R_reads' HO311.out).2.2 | (with_reducible refine Kd.C_alloc ?_ _) | (with_reducible refine Kd.C_drewN ?_ _) | (with_reducible refine Kd.C_drew ?_)))
        (case side2 => exact (Kd.R_reads' HO311.out).2.1)
        rintro e w26 ⟨v321, rfl, ho0, hb⟩
        refine ⟨_, rfl, ?_⟩
        have n0_ := Aside0.mk (Kd.R_elder' (zr HO311) (Kd.R_base ho0) hb)
        have n1_ := Aside0.mk (Kd.R_elder' (zr HO317) (Kd.R_base ho0) hb)
        have n2_ := Aside0.mk (Kd.R_lower (Kd.R_new' (Kd.R_new' ho0 (Kd.R_lt (zr HO311))) (Kd.R_lt (zr HO317))) (below_size (zb HB)))
        have n3_ := Aside0.mk (blk_below (g := gb314) (o := .cells #[.slice Ao11 t309.length co11, .int .i64 t312] 25 (0, 0)) (zk BK314) hb)
        have n4_ := Aside0.mk (blk_below (g := gb319) (o := .cells #[.slice Ao15 t315.length co15, .int .i64 t318] 25 (0, 0)) (zk BK319) hb)
        have n5_ := Aside0.mk (below_step (zb HB) hb)
        clear HO311
        clear HO317
        clear BK314
        clear BK319
        clear HB
        have HO311 := n0_
        have HO317 := n1_
        have HO322 := n2_
        have BK314 := n3_
        have BK319 := n4_
        have HB := n5_
        clear n0_ n1_ n2_ n3_ n4_ n5_
        (try clear hb)
        (try clear hb2)
        (try clear hk)
        (try clear hi)
        (try clear ho0)
        obtain ⟨Ao27, co27, eo27⟩ := Kd.R_slice HO322.out
        (first | subst eo27 | (injection eo27 with f1_ f2_ f3_; have f4_ := f1_.symm; have f5_ := f3_.symm; clear f1_ f2_ f3_; subst f4_; subst f5_))
        refine hK.out _ _ ⟨(blk_cell BK319.out 0).trans rfl, (blk_cell BK319.out 1).trans rfl, (blk_cell BK314.out 0).trans rfl, (blk_cell BK314.out 1).trans rfl⟩ (fun hHeld => ?_)
        clear hK K
        refine norm_ (a' := ?_) ?_ ?_
        rotate_left
        ·show Act.put _ (some 28) _ = _
         simp only [Act.put, s1, s2, s3, i64_w, i32_w]
         rfl
        refine one_ (i := 4) (N := some 29) #[true, true, true, true, true, false, false, false, false, false, false, false, false, false, false, false, false, false, false] rfl rfl (one_of HT_.out (by kernel_rfl)) (by decide) (fun K hK => ?_)
        refine goes_ Try.func17 (by kernel_rfl) rfl #[.agg #[.slice Ao15 t315.length co15, .int .i64 t318], .agg #[.slice Ao27 t320.length co27, .int .i64 t323]] (by rfl) rfl rfl zl ?_
        with_reducible refine (laws_lkTable.calls kj2 _ _ t315 t318 _ _ t320 t323 true _ ?side1 ?side2 ?side3 ?side4 A19.out).mono ?_
        (case side1 => repeat (first | exact (Kd.R_reads' HO317.out).2.2 | (with_reducible refine Kd.C_alloc ?_ _) | (with_reducible refine Kd.C_drewN ?_ _) | (with_reducible refine Kd.C_drew ?_)))
        (case side2 => exact (Kd.R_reads' HO317.out).2.1)
        (case side3 => repeat (first | exact (Kd.R_reads' HO322.out).2.2 | (with_reducible refine Kd.C_alloc ?_ _) | (with_reducible refine Kd.C_drewN ?_ _) | (with_reducible refine Kd.C_drew ?_)))
        (case side4 => exact (Kd.R_reads' HO322.out).2.1)
        rintro e w28 ⟨rfl, hb⟩
        refine ⟨_, rfl, ?_⟩
        have n0_ := Aside0.mk (Kd.R_below (zr HO311) hb)
        have n1_ := Aside0.mk (Kd.R_below (zr HO317) hb)
        have n2_ := Aside0.mk (Kd.R_below (zr HO322) hb)
        have n3_ := Aside0.mk (blk_below (g := gb314) (o := .cells #[.slice Ao11 t309.length co11, .int .i64 t312] 25 (0, 0)) (zk BK314) hb)
        have n4_ := Aside0.mk (blk_below (g := gb319) (o := .cells #[.slice Ao15 t315.length co15, .int .i64 t318] 25 (0, 0)) (zk BK319) hb)
        have n5_ := Aside0.mk (below_step (zb HB) hb)
        clear HO311
        clear HO317
        clear HO322
        clear BK314
        clear BK319
        clear HB
        have HO311 := n0_
        have HO317 := n1_
        have HO322 := n2_
        have BK314 := n3_
        have BK319 := n4_
        have HB := n5_
        clear n0_ n1_ n2_ n3_ n4_ n5_
        (try clear hb)
        (try clear hb2)
        (try clear hk)
        (try clear hi)
        refine hK.out _ _ ⟨(blk_cell BK319.out 0).trans rfl, (blk_cell BK319.out 1).trans rfl, (blk_cell BK314.out 0).trans rfl, (blk_cell BK314.out 1).trans rfl⟩ (fun hHeld => ?_)
        clear hK K
        refine norm_ (a' := ?_) ?_ ?_
        rotate_left
        ·show Act.put _ (some 29) _ = _
         simp only [Act.put, s1, s2, s3, i64_w, i32_w]
         rfl
        refine pure_ (i := 5) (N := some 30) (v := ?_) (a' := ?_) #[true, true, true, true, true, true, false, false, false, false, false, false, false, false, false, false, false, false, false] rfl rfl (any_of HT_.out (by kernel_rfl)) (fun _ _ _ h => h) (Or.inl ⟨by rfl, ?_⟩) ?_ ?_
        rotate_left
        ·intro w'
         go_simp
         with_reducible rfl
        rotate_left
        ·simp only [Act.put, s1, s2, s3, i64_w, i32_w]
         rfl
        refine pure_ (i := 6) (N := some 31) (v := ?_) (a' := ?_) #[true, true, true, true, true, true, true, false, false, false, false, false, false, false, false, false, false, false, false] rfl rfl (any_of HT_.out (by kernel_rfl)) (fun _ _ _ h => h) (Or.inl ⟨by rfl, ?_⟩) ?_ ?_
        rotate_left
        ·intro w'
         go_simp
         with_reducible rfl
        rotate_left
        ·simp only [Act.put, s1, s2, s3, i64_w, i32_w]
         rfl
        refine take_ (i := 7) (N := some 32) (v := ?_) (a' := ?_) #[true, true, true, true, true, true, true, true, false, false, false, false, false, false, false, false, false, false, false] rfl rfl (take_ofW HT_.out HW_.out (by kernel_rfl)) (fun _ _ _ h => h) (Or.inl ⟨by rfl, ?_⟩) hHeld ?_ ?_
        rotate_left
        ·rintro w' ⟨s0, s1, s2, s3⟩
         go_simp
         with_reducible rfl
        rotate_left
        ·simp only [Act.put, s1, s2, s3, i64_w, i32_w]
         rfl
        refine one_ (i := 8) (N := some 33) #[true, true, true, true, true, true, true, true, true, false, false, false, false, false, false, false, false, false, false] rfl rfl (one_of HT_.out (by kernel_rfl)) (by decide) (fun K hK => ?_)
        refine goes_ Try.func19 (by kernel_rfl) rfl #[.agg #[.slice Ao11 t309.length co11, .int .i64 t312]] (by rfl) rfl rfl zl ?_
        with_reducible refine (spec_TableOk.calls kj2 _ _ t309 t312 true _ ?side1 ?side2 A21.out).mono ?_
        (case side1 => repeat (first | exact (Kd.R_reads' HO311.out).2.2 | (with_reducible refine Kd.C_alloc ?_ _) | (with_reducible refine Kd.C_drewN ?_ _) | (with_reducible refine Kd.C_drew ?_)))
        (case side2 => exact (Kd.R_reads' HO311.out).2.1)
        rintro e w29 ⟨rfl, hb⟩
        refine ⟨_, rfl, ?_⟩
        have n0_ := Aside0.mk (Kd.R_below (zr HO311) hb)
        have n1_ := Aside0.mk (Kd.R_below (zr HO317) hb)
        have n2_ := Aside0.mk (Kd.R_below (zr HO322) hb)
        have n3_ := Aside0.mk (blk_below (g := gb314) (o := .cells #[.slice Ao11 t309.length co11, .int .i64 t312] 25 (0, 0)) (zk BK314) hb)
        have n4_ := Aside0.mk (blk_below (g := gb319) (o := .cells #[.slice Ao15 t315.length co15, .int .i64 t318] 25 (0, 0)) (zk BK319) hb)
        have n5_ := Aside0.mk (below_step (zb HB) hb)
        clear HO311
        clear HO317
        clear HO322
        clear BK314
        clear BK319
        clear HB
        have HO311 := n0_
        have HO317 := n1_
        have HO322 := n2_
        have BK314 := n3_
        have BK319 := n4_
        have HB := n5_
        clear n0_ n1_ n2_ n3_ n4_ n5_
        (try clear hb)
        (try clear hb2)
        (try clear hk)
        (try clear hi)
        refine hK.out _ _ ⟨(blk_cell BK319.out 0).trans rfl, (blk_cell BK319.out 1).trans rfl, (blk_cell BK314.out 0).trans rfl, (blk_cell BK314.out 1).trans rfl⟩ (fun hHeld => ?_)
        clear hK K
        refine norm_ (a' := ?_) ?_ ?_
        rotate_left
        ·show Act.put _ (some 33) _ = _
         simp only [Act.put, s1, s2, s3, i64_w, i32_w]
         rfl
        refine pure_ (i := 9) (N := some 34) (v := ?_) (a' := ?_) #[true, true, true, true, true, true, true, true, true, true, false, false, false, false, false, false, false, false, false] rfl rfl (any_of HT_.out (by kernel_rfl)) (fun _ _ _ h => h) (Or.inl ⟨by rfl, ?_⟩) ?_ ?_
        rotate_left
        ·intro w'
         go_simp
         with_reducible rfl
        rotate_left
        ·simp only [Act.put, s1, s2, s3, i64_w, i32_w]
         rfl
        refine pure_ (i := 10) (N := some 35) (v := ?_) (a' := ?_) #[true, true, true, true, true, true, true, true, true, true, true, false, false, false, false, false, false, false, false] rfl rfl (any_of HT_.out (by kernel_rfl)) (fun _ _ _ h => h) (Or.inl ⟨by rfl, ?_⟩) ?_ ?_
        rotate_left
        ·intro w'
         go_simp
         with_reducible rfl
        rotate_left
        ·simp only [Act.put, s1, s2, s3, i64_w, i32_w]
         rfl
        refine pure_ (i := 11) (N := some 36) (v := ?_) (a' := ?_) #[true, true, true, true, true, true, true, true, true, true, true, true, false, false, false, false, false, false, false] rfl rfl (any_of HT_.out (by kernel_rfl)) (fun _ _ _ h => h) (Or.inl ⟨by rfl, ?_⟩) ?_ ?_
        rotate_left
        ·intro w'
         go_simp
         with_reducible rfl
        rotate_left
        ·simp only [Act.put, s1, s2, s3, i64_w, i32_w]
         rfl
        refine pure_ (i := 12) (N := some 37) (v := ?_) (a' := ?_) #[true, true, true, true, true, true, true, true, true, true, true, true, true, false, false, false, false, false, false] rfl rfl (any_of HT_.out (by kernel_rfl)) (fun _ _ _ h => h) (Or.inl ⟨by rfl, ?_⟩) ?_ ?_
        rotate_left
        ·intro w'
         go_simp
         with_reducible rfl
        rotate_left
        ·simp only [Act.put, s1, s2, s3, i64_w, i32_w]
         rfl
        refine pure_ (i := 13) (N := some 38) (v := ?_) (a' := ?_) #[true, true, true, true, true, true, true, true, true, true, true, true, true, true, false, false, false, false, false] rfl rfl (any_of HT_.out (by kernel_rfl)) (fun _ _ _ h => h) (Or.inl ⟨by rfl, ?_⟩) ?_ ?_
        rotate_left
        ·intro w'
         go_simp
         with_reducible rfl
        rotate_left
        ·simp only [Act.put, s1, s2, s3, i64_w, i32_w]
         rfl
        refine pure_ (i := 14) (N := some 39) (v := ?_) (a' := ?_) #[true, true, true, true, true, true, true, true, true, true, true, true, true, true, true, false, false, false, false] rfl rfl (any_of HT_.out (by kernel_rfl)) (fun _ _ _ h => h) (Or.inl ⟨by rfl, ?_⟩) ?_ ?_
        rotate_left
        ·intro w'
         go_simp
         with_reducible rfl
        rotate_left
        ·simp only [Act.put, s1, s2, s3, i64_w, i32_w]
         rfl
        refine pure_ (i := 15) (N := some 40) (v := ?_) (a' := ?_) #[true, true, true, true, true, true, true, true, true, true, true, true, true, true, true, true, false, false, false] rfl rfl (any_of HT_.out (by kernel_rfl)) (fun _ _ _ h => h) (Or.inl ⟨by rfl, ?_⟩) ?_ ?_
        rotate_left
        ·intro w'
         go_simp
         with_reducible rfl
        rotate_left
        ·simp only [Act.put, s1, s2, s3, i64_w, i32_w]
         rfl
        refine pure_ (i := 16) (N := some 41) (v := undef) (a' := ?_) #[true, true, true, true, true, true, true, true, true, true, true, true, true, true, true, true, true, false, false] rfl rfl (any_of HT_.out (by kernel_rfl)) (fun _ _ _ h => h) (Or.inr ⟨by rfl, rfl⟩) ?_ ?_
        rotate_left
        ·simp only [Act.put, s1, s2, s3, i64_w, i32_w]
         rfl
        refine pure_ (i := 17) (N := some 42) (v := undef) (a' := ?_) #[true, true, true, true, true, true, true, true, true, true, true, true, true, true, true, true, true, true, false] rfl rfl (any_of HT_.out (by kernel_rfl)) (fun _ _ _ h => h) (Or.inr ⟨by rfl, rfl⟩) ?_ ?_
        rotate_left
        ·simp only [Act.put, s1, s2, s3, i64_w, i32_w]
         rfl
        refine pure_ (i := 18) (N := some 43) (v := ?_) (a' := ?_) #[true, true, true, true, true, true, true, true, true, true, true, true, true, true, true, true, true, true, true] rfl rfl (any_of HT_.out (by kernel_rfl)) (fun _ _ _ h => h) (Or.inl ⟨by rfl, ?_⟩) ?_ ?_
        rotate_left
        ·intro w'
         go_simp
         with_reducible rfl
        rotate_left
        ·simp only [Act.put, s1, s2, s3, i64_w, i32_w]
         rfl
        refine done_ (done_of HT_.out (by kernel_rfl)) ?_
        try go_wp2
        go_meet
        case rel => exact ⟨_, (true), zs, H', ⟨by have := HJ2.out; first | omega | exact Nat.le_refl _⟩, ⟨by (with_reducible repeat (first | apply Kd.R_alloc | apply Kd.R_drewN | apply Kd.R_drew)); exact Kd.R_mono HO311.out (fun _ hk => hk.1)⟩, ⟨by (with_reducible repeat (first | apply Kd.R_alloc | apply Kd.R_drewN | apply Kd.R_drew)); exact Kd.R_mono HO317.out (fun _ hk => hk.1)⟩, ⟨by exact zk BK314⟩, ⟨by exact zk BK319⟩, ⟨zb HB⟩⟩
       ·rw [if_neg c23] at H
        have c23b0 : decide (t313 < 0) = false := decide_eq_false c23
        clear c23
        (first | rw [c23b0] | (simp only [i64_w, i32_w]; rw [c23b0]) | skip)
        have H' := Aside0.mk H
        clear H
        try go_wp2
        have n0_ : Aside0 (Kd.R k36 36 ((w14.setCell ⟨gb319, 0, none⟩ (.slice Ao15 t315.length co15)).setCell ⟨gb319, 1, none⟩ (.int .i64 t318)) w.heap.size (fun k_ => some k_ ≠ (.slice Ao15 t315.length co15 : Value).ownBlock) (.slice Ao11 t309.length co11) t309) := ⟨by (with_reducible repeat (first | apply Kd.R_alloc | apply Kd.R_drewN | apply Kd.R_drew)); exact Kd.R_mono (Kd.R_far (p := ⟨gb319, 1, none⟩) (Kd.R_far (p := ⟨gb319, 0, none⟩) (Kd.R_types HO311.out BK319.out (by decide)) (fun _ hk => hk.2) (.slice Ao15 t315.length co15)) (fun _ hk => hk.2) (.int .i64 t318)) (fun _ hk => hk.1.2)⟩
        have n1_ : Aside0 (Kd.R k36 36 ((w14.setCell ⟨gb319, 0, none⟩ (.slice Ao15 t315.length co15)).setCell ⟨gb319, 1, none⟩ (.int .i64 t318)) w.heap.size (fun k_ => some k_ ≠ (.slice Ao11 t309.length co11 : Value).ownBlock) (.slice Ao15 t315.length co15) t315) := ⟨by (with_reducible repeat (first | apply Kd.R_alloc | apply Kd.R_drewN | apply Kd.R_drew)); exact Kd.R_mono (Kd.R_far (p := ⟨gb319, 1, none⟩) (Kd.R_far (p := ⟨gb319, 0, none⟩) (Kd.R_types HO317.out BK319.out (by decide)) (fun _ hk => hk.2) (.slice Ao15 t315.length co15)) (fun _ hk => hk.2) (.int .i64 t318)) (fun _ hk => hk.1.2)⟩
        have n2_ : Aside0 (((w14.setCell ⟨gb319, 0, none⟩ (.slice Ao15 t315.length co15)).setCell ⟨gb319, 1, none⟩ (.int .i64 t318)).heap[gb314]? = some (.cells #[.slice Ao11 t309.length co11, .int .i64 t312] 25 (0, 0))) := ⟨by (with_reducible repeat (first | refine blk_drewN ?_ _ | refine blk_drew ?_ | refine blk_alloc ?_ _)); refine blk_far ?_ NB314_319.out _; (with_reducible repeat (first | refine blk_drewN ?_ _ | refine blk_drew ?_ | refine blk_alloc ?_ _)); refine blk_far ?_ NB314_319.out _; exact zk BK314⟩
        have n3_ : Aside0 (((w14.setCell ⟨gb319, 0, none⟩ (.slice Ao15 t315.length co15)).setCell ⟨gb319, 1, none⟩ (.int .i64 t318)).heap[gb319]? = some (.cells #[.slice Ao15 t315.length co15, .int .i64 t318] 25 (0, 0))) := ⟨by (with_reducible repeat (first | refine blk_drewN ?_ _ | refine blk_drew ?_ | refine blk_alloc ?_ _)); refine blk_put (cs := #[.slice Ao15 t315.length co15, .int .i64 0]) ?_ 1 _ rfl; (with_reducible repeat (first | refine blk_drewN ?_ _ | refine blk_drew ?_ | refine blk_alloc ?_ _)); refine blk_put (cs := #[.slice none 0 0, .int .i64 0]) ?_ 0 _ rfl; exact zk BK319⟩
        have n4_ : Aside0 (Below w.heap.size w ((w14.setCell ⟨gb319, 0, none⟩ (.slice Ao15 t315.length co15)).setCell ⟨gb319, 1, none⟩ (.int .i64 t318))) := ⟨zb HB⟩
        (try clear HO311)
        (try clear HO317)
        (try clear BK314)
        (try clear BK319)
        (try clear HB)
        generalize ((w14.setCell ⟨gb319, 0, none⟩ (.slice Ao15 t315.length co15)).setCell ⟨gb319, 1, none⟩ (.int .i64 t318)) = w30 at n0_ n1_ n2_ n3_ n4_ ⊢
        have HO311 := n0_
        have HO317 := n1_
        have BK314 := n2_
        have BK319 := n3_
        have HB := n4_
        clear n0_ n1_ n2_ n3_ n4_
        have n0_ := Aside0.mk (Kd.R_drew HO311.out)
        have n1_ := Aside0.mk (Kd.R_drew HO317.out)
        have n2_ := Aside0.mk (blk_drew BK314.out)
        have n3_ := Aside0.mk (blk_drew BK319.out)
        have n4_ := Aside0.mk (below_drew1 HB.out)
        clear HO311
        clear HO317
        clear BK314
        clear BK319
        clear HB
        have HO311 := n0_
        have HO317 := n1_
        have BK314 := n2_
        have BK319 := n3_
        have HB := n4_
        clear n0_ n1_ n2_ n3_ n4_
        refine start_ (n := 19) (S := fun w' => w'.cell? ⟨gb319, 0, none⟩ = some (.slice Ao15 t315.length co15) ∧ w'.cell? ⟨gb319, 1, none⟩ = some (.int .i64 t318) ∧ w'.cell? ⟨gb314, 0, none⟩ = some (.slice Ao11 t309.length co11) ∧ w'.cell? ⟨gb314, 1, none⟩ = some (.int .i64 t312)) (ds := []) #[false, false, false, false, false, false, false, false, false, false, false, false, false, false, false, false, false, false, false] (by kernel_rfl) rfl rfl ⟨(blk_cell BK319.out 0).trans rfl, (blk_cell BK319.out 1).trans rfl, (blk_cell BK314.out 0).trans rfl, (blk_cell BK314.out 1).trans rfl⟩ (fun hHeld => ?_); refine with_tabW laws_FnLimitTwice.tab5 laws_FnLimitTwice.bits5 (fun HT_ HW_ => ?_)
        generalize w30.drew = w31 at HO311 HO317 BK314 BK319 HB hHeld ⊢
        refine pure_ (i := 2) (N := some 27) (v := ?_) (a' := ?_) #[false, false, true, false, false, false, false, false, false, false, false, false, false, false, false, false, false, false, false] rfl rfl (any_of HT_.out (by kernel_rfl)) (fun _ _ _ h => h) (Or.inl ⟨by rfl, ?_⟩) ?_ ?_
        rotate_left
        ·intro w'
         go_simp
         with_reducible rfl
        rotate_left
        ·simp only [Act.put, s1, s2, s3, i64_w, i32_w]
         rfl
        refine take_ (i := 0) (N := some 25) (v := ?_) (a' := ?_) #[true, false, true, false, false, false, false, false, false, false, false, false, false, false, false, false, false, false, false] rfl rfl (take_ofW HT_.out HW_.out (by kernel_rfl)) (fun _ _ _ h => h) (Or.inl ⟨by rfl, ?_⟩) hHeld ?_ ?_
        rotate_left
        ·rintro w' ⟨s0, s1, s2, s3⟩
         go_simp
         with_reducible rfl
        rotate_left
        ·simp only [Act.put, s1, s2, s3, i64_w, i32_w]
         rfl
        refine take_ (i := 1) (N := some 26) (v := ?_) (a' := ?_) #[true, true, true, false, false, false, false, false, false, false, false, false, false, false, false, false, false, false, false] rfl rfl (take_ofW HT_.out HW_.out (by kernel_rfl)) (fun _ _ _ h => h) (Or.inl ⟨by rfl, ?_⟩) hHeld ?_ ?_
        rotate_left
        ·rintro w' ⟨s0, s1, s2, s3⟩
         go_simp
         with_reducible rfl
        rotate_left
        ·simp only [Act.put, s1, s2, s3, i64_w, i32_w]
         rfl
        refine one_ (i := 3) (N := some 28) #[true, true, true, true, false, false, false, false, false, false, false, false, false, false, false, false, false, false, false] rfl rfl (one_of HT_.out (by kernel_rfl)) (by decide) (fun K hK => ?_)
        refine goes_ Try.func18 (by kernel_rfl) rfl #[.agg #[.slice Ao11 t309.length co11, .int .i64 t312], .int .i64 t313] (by rfl) rfl rfl zl ?_
        with_reducible refine (spec_TableLimit.calls kj2 _ _ t309 t312 t313 t320 t323 _ ?side1 ?side2 A18.out).mono ?_
        (case side1 => repeat (first | exact (Kd.R_reads' HO311.out).2.2 | (with_reducible refine Kd.C_alloc ?_ _) | (with_reducible refine Kd.C_drewN ?_ _) | (with_reducible refine Kd.C_drew ?_)))
        (case side2 => exact (Kd.R_reads' HO311.out).2.1)
        rintro e w32 ⟨v321, rfl, ho0, hb⟩
        refine ⟨_, rfl, ?_⟩
        have n0_ := Aside0.mk (Kd.R_elder' (zr HO311) (Kd.R_base ho0) hb)
        have n1_ := Aside0.mk (Kd.R_elder' (zr HO317) (Kd.R_base ho0) hb)
        have n2_ := Aside0.mk (Kd.R_lower (Kd.R_new' (Kd.R_new' ho0 (Kd.R_lt (zr HO311))) (Kd.R_lt (zr HO317))) (below_size (zb HB)))
        have n3_ := Aside0.mk (blk_below (g := gb314) (o := .cells #[.slice Ao11 t309.length co11, .int .i64 t312] 25 (0, 0)) (zk BK314) hb)
        have n4_ := Aside0.mk (blk_below (g := gb319) (o := .cells #[.slice Ao15 t315.length co15, .int .i64 t318] 25 (0, 0)) (zk BK319) hb)
        have n5_ := Aside0.mk (below_step (zb HB) hb)
        clear HO311
        clear HO317
        clear BK314
        clear BK319
        clear HB
        have HO311 := n0_
        have HO317 := n1_
        have HO322 := n2_
        have BK314 := n3_
        have BK319 := n4_
        have HB := n5_
        clear n0_ n1_ n2_ n3_ n4_ n5_
        (try clear hb)
        (try clear hb2)
        (try clear hk)
        (try clear hi)
        (try clear ho0)
        obtain ⟨Ao33, co33, eo33⟩ := Kd.R_slice HO322.out
        (first | subst eo33 | (injection eo33 with f1_ f2_ f3_; have f4_ := f1_.symm; have f5_ := f3_.symm; clear f1_ f2_ f3_; subst f4_; subst f5_))
        refine hK.out _ _ ⟨(blk_cell BK319.out 0).trans rfl, (blk_cell BK319.out 1).trans rfl, (blk_cell BK314.out 0).trans rfl, (blk_cell BK314.out 1).trans rfl⟩ (fun hHeld => ?_)
        clear hK K
        refine norm_ (a' := ?_) ?_ ?_
        rotate_left
        ·show Act.put _ (some 28) _ = _
         simp only [Act.put, s1, s2, s3, i64_w, i32_w]
         rfl
        refine one_ (i := 4) (N := some 29) #[true, true, true, true, true, false, false, false, false, false, false, false, false, false, false, false, false, false, false] rfl rfl (one_of HT_.out (by kernel_rfl)) (by decide) (fun K hK => ?_)
        refine goes_ Try.func17 (by kernel_rfl) rfl #[.agg #[.slice Ao15 t315.length co15, .int .i64 t318], .agg #[.slice Ao33 t320.length co33, .int .i64 t323]] (by rfl) rfl rfl zl ?_
        with_reducible refine (laws_lkTable.calls kj2 _ _ t315 t318 _ _ t320 t323 true _ ?side1 ?side2 ?side3 ?side4 A19.out).mono ?_
        (case side1 => repeat (first | exact (Kd.R_reads' HO317.out).2.2 | (with_reducible refine Kd.C_alloc ?_ _) | (with_reducible refine Kd.C_drewN ?_ _) | (with_reducible refine Kd.C_drew ?_)))
        (case side2 => exact (Kd.R_reads' HO317.out).2.1)
        (case side3 => repeat (first | exact (Kd.R_reads' HO322.out).2.2 | (with_reducible refine Kd.C_alloc ?_ _) | (with_reducible refine Kd.C_drewN ?_ _) | (with_reducible refine Kd.C_drew ?_)))
        (case side4 => exact (Kd.R_reads' HO322.out).2.1)
        rintro e w34 ⟨rfl, hb⟩
        refine ⟨_, rfl, ?_⟩
        have n0_ := Aside0.mk (Kd.R_below (zr HO311) hb)
        have n1_ := Aside0.mk (Kd.R_below (zr HO317) hb)
        have n2_ := Aside0.mk (Kd.R_below (zr HO322) hb)
        have n3_ := Aside0.mk (blk_below (g := gb314) (o := .cells #[.slice Ao11 t309.length co11, .int .i64 t312] 25 (0, 0)) (zk BK314) hb)
        have n4_ := Aside0.mk (blk_below (g := gb319) (o := .cells #[.slice Ao15 t315.length co15, .int .i64 t318] 25 (0, 0)) (zk BK319) hb)
        have n5_ := Aside0.mk (below_step (zb HB) hb)
        clear HO311
        clear HO317
        clear HO322
        clear BK314
        clear BK319
        clear HB
        have HO311 := n0_
        have HO317 := n1_
        have HO322 := n2_
        have BK314 := n3_
        have BK319 := n4_
        have HB := n5_
        clear n0_ n1_ n2_ n3_ n4_ n5_
        (try clear hb)
        (try clear hb2)
        (try clear hk)
        (try clear hi)
        refine hK.out _ _ ⟨(blk_cell BK319.out 0).trans rfl, (blk_cell BK319.out 1).trans rfl, (blk_cell BK314.out 0).trans rfl, (blk_cell BK314.out 1).trans rfl⟩ (fun hHeld => ?_)
        clear hK K
        refine norm_ (a' := ?_) ?_ ?_
        rotate_left
        ·show Act.put _ (some 29) _ = _
         simp only [Act.put, s1, s2, s3, i64_w, i32_w]
         rfl
        refine pure_ (i := 5) (N := some 30) (v := ?_) (a' := ?_) #[true, true, true, true, true, true, false, false, false, false, false, false, false, false, false, false, false, false, false] rfl rfl (any_of HT_.out (by kernel_rfl)) (fun _ _ _ h => h) (Or.inl ⟨by rfl, ?_⟩) ?_ ?_
        rotate_left
        ·intro w'
         go_simp
         with_reducible rfl
        rotate_left
        ·simp only [Act.put, s1, s2, s3, i64_w, i32_w]
         rfl
        refine pure_ (i := 6) (N := some 31) (v := ?_) (a' := ?_) #[true, true, true, true, true, true, true, false, false, false, false, false, false, false, false, false, false, false, false] rfl rfl (any_of HT_.out (by kernel_rfl)) (fun _ _ _ h => h) (Or.inl ⟨by rfl, ?_⟩) ?_ ?_
        rotate_left
        ·intro w'
         go_simp
         with_reducible rfl
        rotate_left
        ·simp only [Act.put, s1, s2, s3, i64_w, i32_w]
         rfl
        refine take_ (i := 7) (N := some 32) (v := ?_) (a' := ?_) #[true, true, true, true, true, true, true, true, false, false, false, false, false, false, false, false, false, false, false] rfl rfl (take_ofW HT_.out HW_.out (by kernel_rfl)) (fun _ _ _ h => h) (Or.inl ⟨by rfl, ?_⟩) hHeld ?_ ?_
        rotate_left
        ·rintro w' ⟨s0, s1, s2, s3⟩
         go_simp
         with_reducible rfl
        rotate_left
        ·simp only [Act.put, s1, s2, s3, i64_w, i32_w]
         rfl
        refine one_ (i := 8) (N := some 33) #[true, true, true, true, true, true, true, true, true, false, false, false, false, false, false, false, false, false, false] rfl rfl (one_of HT_.out (by kernel_rfl)) (by decide) (fun K hK => ?_)
        refine goes_ Try.func19 (by kernel_rfl) rfl #[.agg #[.slice Ao11 t309.length co11, .int .i64 t312]] (by rfl) rfl rfl zl ?_
        with_reducible refine (spec_TableOk.calls kj2 _ _ t309 t312 true _ ?side1 ?side2 A21.out).mono ?_
        (case side1 => repeat (first | exact (Kd.R_reads' HO311.out).2.2 | (with_reducible refine Kd.C_alloc ?_ _) | (with_reducible refine Kd.C_drewN ?_ _) | (with_reducible refine Kd.C_drew ?_)))
        (case side2 => exact (Kd.R_reads' HO311.out).2.1)
        rintro e w35 ⟨rfl, hb⟩
        refine ⟨_, rfl, ?_⟩
        have n0_ := Aside0.mk (Kd.R_below (zr HO311) hb)
        have n1_ := Aside0.mk (Kd.R_below (zr HO317) hb)
        have n2_ := Aside0.mk (Kd.R_below (zr HO322) hb)
        have n3_ := Aside0.mk (blk_below (g := gb314) (o := .cells #[.slice Ao11 t309.length co11, .int .i64 t312] 25 (0, 0)) (zk BK314) hb)
        have n4_ := Aside0.mk (blk_below (g := gb319) (o := .cells #[.slice Ao15 t315.length co15, .int .i64 t318] 25 (0, 0)) (zk BK319) hb)
        have n5_ := Aside0.mk (below_step (zb HB) hb)
        clear HO311
        clear HO317
        clear HO322
        clear BK314
        clear BK319
        clear HB
        have HO311 := n0_
        have HO317 := n1_
        have HO322 := n2_
        have BK314 := n3_
        have BK319 := n4_
        have HB := n5_
        clear n0_ n1_ n2_ n3_ n4_ n5_
        (try clear hb)
        (try clear hb2)
        (try clear hk)
        (try clear hi)
        refine hK.out _ _ ⟨(blk_cell BK319.out 0).trans rfl, (blk_cell BK319.out 1).trans rfl, (blk_cell BK314.out 0).trans rfl, (blk_cell BK314.out 1).trans rfl⟩ (fun hHeld => ?_)
        clear hK K
        refine norm_ (a' := ?_) ?_ ?_
        rotate_left
        ·show Act.put _ (some 33) _ = _
         simp only [Act.put, s1, s2, s3, i64_w, i32_w]
         rfl
        refine pure_ (i := 9) (N := some 34) (v := ?_) (a' := ?_) #[true, true, true, true, true, true, true, true, true, true, false, false, false, false, false, false, false, false, false] rfl rfl (any_of HT_.out (by kernel_rfl)) (fun _ _ _ h => h) (Or.inl ⟨by rfl, ?_⟩) ?_ ?_
        rotate_left
        ·intro w'
         go_simp
         with_reducible rfl
        rotate_left
        ·simp only [Act.put, s1, s2, s3, i64_w, i32_w]
         rfl
        refine pure_ (i := 10) (N := some 35) (v := ?_) (a' := ?_) #[true, true, true, true, true, true, true, true, true, true, true, false, false, false, false, false, false, false, false] rfl rfl (any_of HT_.out (by kernel_rfl)) (fun _ _ _ h => h) (Or.inl ⟨by rfl, ?_⟩) ?_ ?_
        rotate_left
        ·intro w'
         go_simp
         with_reducible rfl
        rotate_left
        ·simp only [Act.put, s1, s2, s3, i64_w, i32_w]
         rfl
        refine pure_ (i := 11) (N := some 36) (v := ?_) (a' := ?_) #[true, true, true, true, true, true, true, true, true, true, true, true, false, false, false, false, false, false, false] rfl rfl (any_of HT_.out (by kernel_rfl)) (fun _ _ _ h => h) (Or.inl ⟨by rfl, ?_⟩) ?_ ?_
        rotate_left
        ·intro w'
         go_simp
         with_reducible rfl
        rotate_left
        ·simp only [Act.put, s1, s2, s3, i64_w, i32_w]
         rfl
        refine pure_ (i := 12) (N := some 37) (v := ?_) (a' := ?_) #[true, true, true, true, true, true, true, true, true, true, true, true, true, false, false, false, false, false, false] rfl rfl (any_of HT_.out (by kernel_rfl)) (fun _ _ _ h => h) (Or.inl ⟨by rfl, ?_⟩) ?_ ?_
        rotate_left
        ·intro w'
         go_simp
         with_reducible rfl
        rotate_left
        ·simp only [Act.put, s1, s2, s3, i64_w, i32_w]
         rfl
        refine pure_ (i := 13) (N := some 38) (v := ?_) (a' := ?_) #[true, true, true, true, true, true, true, true, true, true, true, true, true, true, false, false, false, false, false] rfl rfl (any_of HT_.out (by kernel_rfl)) (fun _ _ _ h => h) (Or.inl ⟨by rfl, ?_⟩) ?_ ?_
        rotate_left
        ·intro w'
         go_simp
         with_reducible rfl
        rotate_left
        ·simp only [Act.put, s1, s2, s3, i64_w, i32_w]
         rfl
        refine pure_ (i := 14) (N := some 39) (v := ?_) (a' := ?_) #[true, true, true, true, true, true, true, true, true, true, true, true, true, true, true, false, false, false, false] rfl rfl (any_of HT_.out (by kernel_rfl)) (fun _ _ _ h => h) (Or.inl ⟨by rfl, ?_⟩) ?_ ?_
        rotate_left
        ·intro w'
         go_simp
         with_reducible rfl
        rotate_left
        ·simp only [Act.put, s1, s2, s3, i64_w, i32_w]
         rfl
        refine pure_ (i := 15) (N := some 40) (v := ?_) (a' := ?_) #[true, true, true, true, true, true, true, true, true, true, true, true, true, true, true, true, false, false, false] rfl rfl (any_of HT_.out (by kernel_rfl)) (fun _ _ _ h => h) (Or.inl ⟨by rfl, ?_⟩) ?_ ?_
        rotate_left
        ·intro w'
         go_simp
         with_reducible rfl
        rotate_left
        ·simp only [Act.put, s1, s2, s3, i64_w, i32_w]
         rfl
        refine pure_ (i := 16) (N := some 41) (v := ?_) (a' := ?_) #[true, true, true, true, true, true, true, true, true, true, true, true, true, true, true, true, true, false, false] rfl rfl (any_of HT_.out (by kernel_rfl)) (fun _ _ _ h => h) (Or.inl ⟨by rfl, ?_⟩) ?_ ?_
        rotate_left
        ·intro w'
         go_simp
         with_reducible rfl
        rotate_left
        ·simp only [Act.put, s1, s2, s3, i64_w, i32_w]
         rfl
        refine pure_ (i := 17) (N := some 42) (v := ?_) (a' := ?_) #[true, true, true, true, true, true, true, true, true, true, true, true, true, true, true, true, true, true, false] rfl rfl (any_of HT_.out (by kernel_rfl)) (fun _ _ _ h => h) (Or.inl ⟨by rfl, ?_⟩) ?_ ?_
        rotate_left
        ·intro w'
         go_simp
         with_reducible rfl
        rotate_left
        ·simp only [Act.put, s1, s2, s3, i64_w, i32_w]
         rfl
        refine pure_ (i := 18) (N := some 43) (v := ?_) (a' := ?_) #[true, true, true, true, true, true, true, true, true, true, true, true, true, true, true, true, true, true, true] rfl rfl (any_of HT_.out (by kernel_rfl)) (fun _ _ _ h => h) (Or.inl ⟨by rfl, ?_⟩) ?_ ?_
        rotate_left
        ·intro w'
         go_simp
         with_reducible rfl
        rotate_left
        ·simp only [Act.put, s1, s2, s3, i64_w, i32_w]
         rfl
        refine done_ (done_of HT_.out (by kernel_rfl)) ?_
        try go_wp2
        go_meet
        case rel => exact ⟨_, (decide (t313 > 64)), zs, H', ⟨by have := HJ2.out; first | omega | exact Nat.le_refl _⟩, ⟨by (with_reducible repeat (first | apply Kd.R_alloc | apply Kd.R_drewN | apply Kd.R_drew)); exact Kd.R_mono HO311.out (fun _ hk => hk.1)⟩, ⟨by (with_reducible repeat (first | apply Kd.R_alloc | apply Kd.R_drewN | apply Kd.R_drew)); exact Kd.R_mono HO317.out (fun _ hk => hk.1)⟩, ⟨by exact zk BK314⟩, ⟨by exact zk BK319⟩, ⟨zb HB⟩⟩
      ·replace c22 := Bool.eq_false_iff.mpr c22
       subst c22
       have H1 : (laws_FnLimitTwice.j1 kj2 l1 t313 true t309 t312 t315 t318) = some r := by rw [if_neg (show ¬ (false = true) by decide)] at H; exact H
       clear H
       have H := H1
       clear H1
       have H' := Aside0.mk H
       clear H
       try go_wp2
       have n0_ : Aside0 (Kd.R k36 36 ((w14.setCell ⟨gb319, 0, none⟩ (.slice Ao15 t315.length co15)).setCell ⟨gb319, 1, none⟩ (.int .i64 t318)) w.heap.size (fun k_ => some k_ ≠ (.slice Ao15 t315.length co15 : Value).ownBlock) (.slice Ao11 t309.length co11) t309) := ⟨by (with_reducible repeat (first | apply Kd.R_alloc | apply Kd.R_drewN | apply Kd.R_drew)); exact Kd.R_mono (Kd.R_far (p := ⟨gb319, 1, none⟩) (Kd.R_far (p := ⟨gb319, 0, none⟩) (Kd.R_types HO311.out BK319.out (by decide)) (fun _ hk => hk.2) (.slice Ao15 t315.length co15)) (fun _ hk => hk.2) (.int .i64 t318)) (fun _ hk => hk.1.2)⟩
       have n1_ : Aside0 (Kd.R k36 36 ((w14.setCell ⟨gb319, 0, none⟩ (.slice Ao15 t315.length co15)).setCell ⟨gb319, 1, none⟩ (.int .i64 t318)) w.heap.size (fun k_ => some k_ ≠ (.slice Ao11 t309.length co11 : Value).ownBlock) (.slice Ao15 t315.length co15) t315) := ⟨by (with_reducible repeat (first | apply Kd.R_alloc | apply Kd.R_drewN | apply Kd.R_drew)); exact Kd.R_mono (Kd.R_far (p := ⟨gb319, 1, none⟩) (Kd.R_far (p := ⟨gb319, 0, none⟩) (Kd.R_types HO317.out BK319.out (by decide)) (fun _ hk => hk.2) (.slice Ao15 t315.length co15)) (fun _ hk => hk.2) (.int .i64 t318)) (fun _ hk => hk.1.2)⟩
       have n2_ : Aside0 (((w14.setCell ⟨gb319, 0, none⟩ (.slice Ao15 t315.length co15)).setCell ⟨gb319, 1, none⟩ (.int .i64 t318)).heap[gb314]? = some (.cells #[.slice Ao11 t309.length co11, .int .i64 t312] 25 (0, 0))) := ⟨by (with_reducible repeat (first | refine blk_drewN ?_ _ | refine blk_drew ?_ | refine blk_alloc ?_ _)); refine blk_far ?_ NB314_319.out _; (with_reducible repeat (first | refine blk_drewN ?_ _ | refine blk_drew ?_ | refine blk_alloc ?_ _)); refine blk_far ?_ NB314_319.out _; exact zk BK314⟩
       have n3_ : Aside0 (((w14.setCell ⟨gb319, 0, none⟩ (.slice Ao15 t315.length co15)).setCell ⟨gb319, 1, none⟩ (.int .i64 t318)).heap[gb319]? = some (.cells #[.slice Ao15 t315.length co15, .int .i64 t318] 25 (0, 0))) := ⟨by (with_reducible repeat (first | refine blk_drewN ?_ _ | refine blk_drew ?_ | refine blk_alloc ?_ _)); refine blk_put (cs := #[.slice Ao15 t315.length co15, .int .i64 0]) ?_ 1 _ rfl; (with_reducible repeat (first | refine blk_drewN ?_ _ | refine blk_drew ?_ | refine blk_alloc ?_ _)); refine blk_put (cs := #[.slice none 0 0, .int .i64 0]) ?_ 0 _ rfl; exact zk BK319⟩
       have n4_ : Aside0 (Below w.heap.size w ((w14.setCell ⟨gb319, 0, none⟩ (.slice Ao15 t315.length co15)).setCell ⟨gb319, 1, none⟩ (.int .i64 t318))) := ⟨zb HB⟩
       (try clear HO311)
       (try clear HO317)
       (try clear BK314)
       (try clear BK319)
       (try clear HB)
       generalize ((w14.setCell ⟨gb319, 0, none⟩ (.slice Ao15 t315.length co15)).setCell ⟨gb319, 1, none⟩ (.int .i64 t318)) = w36 at n0_ n1_ n2_ n3_ n4_ ⊢
       have HO311 := n0_
       have HO317 := n1_
       have BK314 := n2_
       have BK319 := n3_
       have HB := n4_
       clear n0_ n1_ n2_ n3_ n4_
       have n0_ := Aside0.mk (Kd.R_drew HO311.out)
       have n1_ := Aside0.mk (Kd.R_drew HO317.out)
       have n2_ := Aside0.mk (blk_drew BK314.out)
       have n3_ := Aside0.mk (blk_drew BK319.out)
       have n4_ := Aside0.mk (below_drew1 HB.out)
       clear HO311
       clear HO317
       clear BK314
       clear BK319
       clear HB
       have HO311 := n0_
       have HO317 := n1_
       have BK314 := n2_
       have BK319 := n3_
       have HB := n4_
       clear n0_ n1_ n2_ n3_ n4_
       refine start_ (n := 19) (S := fun w' => w'.cell? ⟨gb319, 0, none⟩ = some (.slice Ao15 t315.length co15) ∧ w'.cell? ⟨gb319, 1, none⟩ = some (.int .i64 t318) ∧ w'.cell? ⟨gb314, 0, none⟩ = some (.slice Ao11 t309.length co11) ∧ w'.cell? ⟨gb314, 1, none⟩ = some (.int .i64 t312)) (ds := []) #[false, false, false, false, false, false, false, false, false, false, false, false, false, false, false, false, false, false, false] (by kernel_rfl) rfl rfl ⟨(blk_cell BK319.out 0).trans rfl, (blk_cell BK319.out 1).trans rfl, (blk_cell BK314.out 0).trans rfl, (blk_cell BK314.out 1).trans rfl⟩ (fun hHeld => ?_); refine with_tabW laws_FnLimitTwice.tab5 laws_FnLimitTwice.bits5 (fun HT_ HW_ => ?_)
       generalize w36.drew = w37 at HO311 HO317 BK314 BK319 HB hHeld ⊢
       refine pure_ (i := 2) (N := some 27) (v := ?_) (a' := ?_) #[false, false, true, false, false, false, false, false, false, false, false, false, false, false, false, false, false, false, false] rfl rfl (any_of HT_.out (by kernel_rfl)) (fun _ _ _ h => h) (Or.inl ⟨by rfl, ?_⟩) ?_ ?_
       rotate_left
       ·intro w'
        go_simp
        with_reducible rfl
       rotate_left
       ·simp only [Act.put, s1, s2, s3, i64_w, i32_w]
        rfl
       refine take_ (i := 0) (N := some 25) (v := ?_) (a' := ?_) #[true, false, true, false, false, false, false, false, false, false, false, false, false, false, false, false, false, false, false] rfl rfl (take_ofW HT_.out HW_.out (by kernel_rfl)) (fun _ _ _ h => h) (Or.inl ⟨by rfl, ?_⟩) hHeld ?_ ?_
       rotate_left
       ·rintro w' ⟨s0, s1, s2, s3⟩
        go_simp
        with_reducible rfl
       rotate_left
       ·simp only [Act.put, s1, s2, s3, i64_w, i32_w]
        rfl
       refine take_ (i := 1) (N := some 26) (v := ?_) (a' := ?_) #[true, true, true, false, false, false, false, false, false, false, false, false, false, false, false, false, false, false, false] rfl rfl (take_ofW HT_.out HW_.out (by kernel_rfl)) (fun _ _ _ h => h) (Or.inl ⟨by rfl, ?_⟩) hHeld ?_ ?_
       rotate_left
       ·rintro w' ⟨s0, s1, s2, s3⟩
        go_simp
        with_reducible rfl
       rotate_left
       ·simp only [Act.put, s1, s2, s3, i64_w, i32_w]
        rfl
       refine one_ (i := 3) (N := some 28) #[true, true, true, true, false, false, false, false, false, false, false, false, false, false, false, false, false, false, false] rfl rfl (one_of HT_.out (by kernel_rfl)) (by decide) (fun K hK => ?_)
       refine goes_ Try.func18 (by kernel_rfl) rfl #[.agg #[.slice Ao11 t309.length co11, .int .i64 t312], .int .i64 t313] (by rfl) rfl rfl zl ?_
       with_reducible refine (spec_TableLimit.calls kj2 _ _ t309 t312 t313 t320 t323 _ ?side1 ?side2 A18.out).mono ?_
       (case side1 => repeat (first | exact (Kd.R_reads' HO311.out).2.2 | (with_reducible refine Kd.C_alloc ?_ _) | (with_reducible refine Kd.C_drewN ?_ _) | (with_reducible refine Kd.C_drew ?_)))
       (case side2 => exact (Kd.R_reads' HO311.out).2.1)
       rintro e w38 ⟨v321, rfl, ho0, hb⟩
       refine ⟨_, rfl, ?_⟩
       have n0_ := Aside0.mk (Kd.R_elder' (zr HO311) (Kd.R_base ho0) hb)
       have n1_ := Aside0.mk (Kd.R_elder' (zr HO317) (Kd.R_base ho0) hb)
       have n2_ := Aside0.mk (Kd.R_lower (Kd.R_new' (Kd.R_new' ho0 (Kd.R_lt (zr HO311))) (Kd.R_lt (zr HO317))) (below_size (zb HB)))
       have n3_ := Aside0.mk (blk_below (g := gb314) (o := .cells #[.slice Ao11 t309.length co11, .int .i64 t312] 25 (0, 0)) (zk BK314) hb)
       have n4_ := Aside0.mk (blk_below (g := gb319) (o := .cells #[.slice Ao15 t315.length co15, .int .i64 t318] 25 (0, 0)) (zk BK319) hb)
       have n5_ := Aside0.mk (below_step (zb HB) hb)
       clear HO311
       clear HO317
       clear BK314
       clear BK319
       clear HB
       have HO311 := n0_
       have HO317 := n1_
       have HO322 := n2_
       have BK314 := n3_
       have BK319 := n4_
       have HB := n5_
       clear n0_ n1_ n2_ n3_ n4_ n5_
       (try clear hb)
       (try clear hb2)
       (try clear hk)
       (try clear hi)
       (try clear ho0)
       obtain ⟨Ao39, co39, eo39⟩ := Kd.R_slice HO322.out
       (first | subst eo39 | (injection eo39 with f1_ f2_ f3_; have f4_ := f1_.symm; have f5_ := f3_.symm; clear f1_ f2_ f3_; subst f4_; subst f5_))
       refine hK.out _ _ ⟨(blk_cell BK319.out 0).trans rfl, (blk_cell BK319.out 1).trans rfl, (blk_cell BK314.out 0).trans rfl, (blk_cell BK314.out 1).trans rfl⟩ (fun hHeld => ?_)
       clear hK K
       refine norm_ (a' := ?_) ?_ ?_
       rotate_left
       ·show Act.put _ (some 28) _ = _
        simp only [Act.put, s1, s2, s3, i64_w, i32_w]
        rfl
       refine one_ (i := 4) (N := some 29) #[true, true, true, true, true, false, false, false, false, false, false, false, false, false, false, false, false, false, false] rfl rfl (one_of HT_.out (by kernel_rfl)) (by decide) (fun K hK => ?_)
       refine goes_ Try.func17 (by kernel_rfl) rfl #[.agg #[.slice Ao15 t315.length co15, .int .i64 t318], .agg #[.slice Ao39 t320.length co39, .int .i64 t323]] (by rfl) rfl rfl zl ?_
       with_reducible refine (laws_lkTable.calls kj2 _ _ t315 t318 _ _ t320 t323 true _ ?side1 ?side2 ?side3 ?side4 A19.out).mono ?_
       (case side1 => repeat (first | exact (Kd.R_reads' HO317.out).2.2 | (with_reducible refine Kd.C_alloc ?_ _) | (with_reducible refine Kd.C_drewN ?_ _) | (with_reducible refine Kd.C_drew ?_)))
       (case side2 => exact (Kd.R_reads' HO317.out).2.1)
       (case side3 => repeat (first | exact (Kd.R_reads' HO322.out).2.2 | (with_reducible refine Kd.C_alloc ?_ _) | (with_reducible refine Kd.C_drewN ?_ _) | (with_reducible refine Kd.C_drew ?_)))
       (case side4 => exact (Kd.R_reads' HO322.out).2.1)
       rintro e w40 ⟨rfl, hb⟩
       refine ⟨_, rfl, ?_⟩
       have n0_ := Aside0.mk (Kd.R_below (zr HO311) hb)
       have n1_ := Aside0.mk (Kd.R_below (zr HO317) hb)
       have n2_ := Aside0.mk (Kd.R_below (zr HO322) hb)
       have n3_ := Aside0.mk (blk_below (g := gb314) (o := .cells #[.slice Ao11 t309.length co11, .int .i64 t312] 25 (0, 0)) (zk BK314) hb)
       have n4_ := Aside0.mk (blk_below (g := gb319) (o := .cells #[.slice Ao15 t315.length co15, .int .i64 t318] 25 (0, 0)) (zk BK319) hb)
       have n5_ := Aside0.mk (below_step (zb HB) hb)
       clear HO311
       clear HO317
       clear HO322
       clear BK314
       clear BK319
       clear HB
       have HO311 := n0_
       have HO317 := n1_
       have HO322 := n2_
       have BK314 := n3_
       have BK319 := n4_
       have HB := n5_
       clear n0_ n1_ n2_ n3_ n4_ n5_
       (try clear hb)
       (try clear hb2)
       (try clear hk)
       (try clear hi)
       refine hK.out _ _ ⟨(blk_cell BK319.out 0).trans rfl, (blk_cell BK319.out 1).trans rfl, (blk_cell BK314.out 0).trans rfl, (blk_cell BK314.out 1).trans rfl⟩ (fun hHeld => ?_)
       clear hK K
       refine norm_ (a' := ?_) ?_ ?_
       rotate_left
       ·show Act.put _ (some 29) _ = _
        simp only [Act.put, s1, s2, s3, i64_w, i32_w]
        rfl
       refine pure_ (i := 5) (N := some 30) (v := ?_) (a' := ?_) #[true, true, true, true, true, true, false, false, false, false, false, false, false, false, false, false, false, false, false] rfl rfl (any_of HT_.out (by kernel_rfl)) (fun _ _ _ h => h) (Or.inl ⟨by rfl, ?_⟩) ?_ ?_
       rotate_left
       ·intro w'
        go_simp
        with_reducible rfl
       rotate_left
       ·simp only [Act.put, s1, s2, s3, i64_w, i32_w]
        rfl
       refine pure_ (i := 6) (N := some 31) (v := ?_) (a' := ?_) #[true, true, true, true, true, true, true, false, false, false, false, false, false, false, false, false, false, false, false] rfl rfl (any_of HT_.out (by kernel_rfl)) (fun _ _ _ h => h) (Or.inl ⟨by rfl, ?_⟩) ?_ ?_
       rotate_left
       ·intro w'
        go_simp
        with_reducible rfl
       rotate_left
       ·simp only [Act.put, s1, s2, s3, i64_w, i32_w]
        rfl
       refine take_ (i := 7) (N := some 32) (v := ?_) (a' := ?_) #[true, true, true, true, true, true, true, true, false, false, false, false, false, false, false, false, false, false, false] rfl rfl (take_ofW HT_.out HW_.out (by kernel_rfl)) (fun _ _ _ h => h) (Or.inl ⟨by rfl, ?_⟩) hHeld ?_ ?_
       rotate_left
       ·rintro w' ⟨s0, s1, s2, s3⟩
        go_simp
        with_reducible rfl
       rotate_left
       ·simp only [Act.put, s1, s2, s3, i64_w, i32_w]
        rfl
       refine one_ (i := 8) (N := some 33) #[true, true, true, true, true, true, true, true, true, false, false, false, false, false, false, false, false, false, false] rfl rfl (one_of HT_.out (by kernel_rfl)) (by decide) (fun K hK => ?_)
       refine goes_ Try.func19 (by kernel_rfl) rfl #[.agg #[.slice Ao11 t309.length co11, .int .i64 t312]] (by rfl) rfl rfl zl ?_
       with_reducible refine (spec_TableOk.calls kj2 _ _ t309 t312 false _ ?side1 ?side2 A21.out).mono ?_
       (case side1 => repeat (first | exact (Kd.R_reads' HO311.out).2.2 | (with_reducible refine Kd.C_alloc ?_ _) | (with_reducible refine Kd.C_drewN ?_ _) | (with_reducible refine Kd.C_drew ?_)))
       (case side2 => exact (Kd.R_reads' HO311.out).2.1)
       rintro e w41 ⟨rfl, hb⟩
       refine ⟨_, rfl, ?_⟩
       have n0_ := Aside0.mk (Kd.R_below (zr HO311) hb)
       have n1_ := Aside0.mk (Kd.R_below (zr HO317) hb)
       have n2_ := Aside0.mk (Kd.R_below (zr HO322) hb)
       have n3_ := Aside0.mk (blk_below (g := gb314) (o := .cells #[.slice Ao11 t309.length co11, .int .i64 t312] 25 (0, 0)) (zk BK314) hb)
       have n4_ := Aside0.mk (blk_below (g := gb319) (o := .cells #[.slice Ao15 t315.length co15, .int .i64 t318] 25 (0, 0)) (zk BK319) hb)
       have n5_ := Aside0.mk (below_step (zb HB) hb)
       clear HO311
       clear HO317
       clear HO322
       clear BK314
       clear BK319
       clear HB
       have HO311 := n0_
       have HO317 := n1_
       have HO322 := n2_
       have BK314 := n3_
       have BK319 := n4_
       have HB := n5_
       clear n0_ n1_ n2_ n3_ n4_ n5_
       (try clear hb)
       (try clear hb2)
       (try clear hk)
       (try clear hi)
       refine hK.out _ _ ⟨(blk_cell BK319.out 0).trans rfl, (blk_cell BK319.out 1).trans rfl, (blk_cell BK314.out 0).trans rfl, (blk_cell BK314.out 1).trans rfl⟩ (fun hHeld => ?_)
       clear hK K
       refine norm_ (a' := ?_) ?_ ?_
       rotate_left
       ·show Act.put _ (some 33) _ = _
        simp only [Act.put, s1, s2, s3, i64_w, i32_w]
        rfl
       refine pure_ (i := 9) (N := some 34) (v := ?_) (a' := ?_) #[true, true, true, true, true, true, true, true, true, true, false, false, false, false, false, false, false, false, false] rfl rfl (any_of HT_.out (by kernel_rfl)) (fun _ _ _ h => h) (Or.inl ⟨by rfl, ?_⟩) ?_ ?_
       rotate_left
       ·intro w'
        go_simp
        with_reducible rfl
       rotate_left
       ·simp only [Act.put, s1, s2, s3, i64_w, i32_w]
        rfl
       refine pure_ (i := 10) (N := some 35) (v := ?_) (a' := ?_) #[true, true, true, true, true, true, true, true, true, true, true, false, false, false, false, false, false, false, false] rfl rfl (any_of HT_.out (by kernel_rfl)) (fun _ _ _ h => h) (Or.inl ⟨by rfl, ?_⟩) ?_ ?_
       rotate_left
       ·intro w'
        go_simp
        with_reducible rfl
       rotate_left
       ·simp only [Act.put, s1, s2, s3, i64_w, i32_w]
        rfl
       refine pure_ (i := 11) (N := some 36) (v := ?_) (a' := ?_) #[true, true, true, true, true, true, true, true, true, true, true, true, false, false, false, false, false, false, false] rfl rfl (any_of HT_.out (by kernel_rfl)) (fun _ _ _ h => h) (Or.inl ⟨by rfl, ?_⟩) ?_ ?_
       rotate_left
       ·intro w'
        go_simp
        with_reducible rfl
       rotate_left
       ·simp only [Act.put, s1, s2, s3, i64_w, i32_w]
        rfl
       refine pure_ (i := 12) (N := some 37) (v := undef) (a' := ?_) #[true, true, true, true, true, true, true, true, true, true, true, true, true, false, false, false, false, false, false] rfl rfl (any_of HT_.out (by kernel_rfl)) (fun _ _ _ h => h) (Or.inr ⟨by rfl, rfl⟩) ?_ ?_
       rotate_left
       ·simp only [Act.put, s1, s2, s3, i64_w, i32_w]
        rfl
       refine pure_ (i := 13) (N := some 38) (v := undef) (a' := ?_) #[true, true, true, true, true, true, true, true, true, true, true, true, true, true, false, false, false, false, false] rfl rfl (any_of HT_.out (by kernel_rfl)) (fun _ _ _ h => h) (Or.inr ⟨by rfl, rfl⟩) ?_ ?_
       rotate_left
       ·simp only [Act.put, s1, s2, s3, i64_w, i32_w]
        rfl
       refine pure_ (i := 14) (N := some 39) (v := ?_) (a' := ?_) #[true, true, true, true, true, true, true, true, true, true, true, true, true, true, true, false, false, false, false] rfl rfl (any_of HT_.out (by kernel_rfl)) (fun _ _ _ h => h) (Or.inl ⟨by rfl, ?_⟩) ?_ ?_
       rotate_left
       ·intro w'
        go_simp
        with_reducible rfl
       rotate_left
       ·simp only [Act.put, s1, s2, s3, i64_w, i32_w]
        rfl
       refine pure_ (i := 15) (N := some 40) (v := ?_) (a' := ?_) #[true, true, true, true, true, true, true, true, true, true, true, true, true, true, true, true, false, false, false] rfl rfl (any_of HT_.out (by kernel_rfl)) (fun _ _ _ h => h) (Or.inl ⟨by rfl, ?_⟩) ?_ ?_
       rotate_left
       ·intro w'
        go_simp
        with_reducible rfl
       rotate_left
       ·simp only [Act.put, s1, s2, s3, i64_w, i32_w]
        rfl
       refine pure_ (i := 16) (N := some 41) (v := undef) (a' := ?_) #[true, true, true, true, true, true, true, true, true, true, true, true, true, true, true, true, true, false, false] rfl rfl (any_of HT_.out (by kernel_rfl)) (fun _ _ _ h => h) (Or.inr ⟨by rfl, rfl⟩) ?_ ?_
       rotate_left
       ·simp only [Act.put, s1, s2, s3, i64_w, i32_w]
        rfl
       refine pure_ (i := 17) (N := some 42) (v := undef) (a' := ?_) #[true, true, true, true, true, true, true, true, true, true, true, true, true, true, true, true, true, true, false] rfl rfl (any_of HT_.out (by kernel_rfl)) (fun _ _ _ h => h) (Or.inr ⟨by rfl, rfl⟩) ?_ ?_
       rotate_left
       ·simp only [Act.put, s1, s2, s3, i64_w, i32_w]
        rfl
       refine pure_ (i := 18) (N := some 43) (v := ?_) (a' := ?_) #[true, true, true, true, true, true, true, true, true, true, true, true, true, true, true, true, true, true, true] rfl rfl (any_of HT_.out (by kernel_rfl)) (fun _ _ _ h => h) (Or.inl ⟨by rfl, ?_⟩) ?_ ?_
       rotate_left
       ·intro w'
        go_simp
        with_reducible rfl
       rotate_left
       ·simp only [Act.put, s1, s2, s3, i64_w, i32_w]
        rfl
       refine done_ (done_of HT_.out (by kernel_rfl)) ?_
       try go_wp2
       go_meet
       case rel => exact ⟨_, (true), zs, H', ⟨by have := HJ2.out; first | omega | exact Nat.le_refl _⟩, ⟨by (with_reducible repeat (first | apply Kd.R_alloc | apply Kd.R_drewN | apply Kd.R_drew)); exact Kd.R_mono HO311.out (fun _ hk => hk.1)⟩, ⟨by (with_reducible repeat (first | apply Kd.R_alloc | apply Kd.R_drewN | apply Kd.R_drew)); exact Kd.R_mono HO317.out (fun _ hk => hk.1)⟩, ⟨by exact zk BK314⟩, ⟨by exact zk BK319⟩, ⟨zb HB⟩⟩
     ·replace c20 := Bool.eq_false_iff.mpr c20
      subst c20
      have H1 : (laws_FnLimitTwice.j1 kj2 l1 t313 true t309 t312 t315 t318) = some r := by rw [if_neg (show ¬ (false = true) by decide)] at H; exact H
      clear H
      have H := H1
      clear H1
      have H' := Aside0.mk H
      clear H
      try go_wp2
      have n0_ : Aside0 (Kd.R k36 36 ((w14.setCell ⟨gb319, 0, none⟩ (.slice Ao15 t315.length co15)).setCell ⟨gb319, 1, none⟩ (.int .i64 t318)) w.heap.size (fun k_ => some k_ ≠ (.slice Ao15 t315.length co15 : Value).ownBlock) (.slice Ao11 t309.length co11) t309) := ⟨by (with_reducible repeat (first | apply Kd.R_alloc | apply Kd.R_drewN | apply Kd.R_drew)); exact Kd.R_mono (Kd.R_far (p := ⟨gb319, 1, none⟩) (Kd.R_far (p := ⟨gb319, 0, none⟩) (Kd.R_types HO311.out BK319.out (by decide)) (fun _ hk => hk.2) (.slice Ao15 t315.length co15)) (fun _ hk => hk.2) (.int .i64 t318)) (fun _ hk => hk.1.2)⟩
      have n1_ : Aside0 (Kd.R k36 36 ((w14.setCell ⟨gb319, 0, none⟩ (.slice Ao15 t315.length co15)).setCell ⟨gb319, 1, none⟩ (.int .i64 t318)) w.heap.size (fun k_ => some k_ ≠ (.slice Ao11 t309.length co11 : Value).ownBlock) (.slice Ao15 t315.length co15) t315) := ⟨by (with_reducible repeat (first | apply Kd.R_alloc | apply Kd.R_drewN | apply Kd.R_drew)); exact Kd.R_mono (Kd.R_far (p := ⟨gb319, 1, none⟩) (Kd.R_far (p := ⟨gb319, 0, none⟩) (Kd.R_types HO317.out BK319.out (by decide)) (fun _ hk => hk.2) (.slice Ao15 t315.length co15)) (fun _ hk => hk.2) (.int .i64 t318)) (fun _ hk => hk.1.2)⟩
      have n2_ : Aside0 (((w14.setCell ⟨gb319, 0, none⟩ (.slice Ao15 t315.length co15)).setCell ⟨gb319, 1, none⟩ (.int .i64 t318)).heap[gb314]? = some (.cells #[.slice Ao11 t309.length co11, .int .i64 t312] 25 (0, 0))) := ⟨by (with_reducible repeat (first | refine blk_drewN ?_ _ | refine blk_drew ?_ | refine blk_alloc ?_ _)); refine blk_far ?_ NB314_319.out _; (with_reducible repeat (first | refine blk_drewN ?_ _ | refine blk_drew ?_ | refine blk_alloc ?_ _)); refine blk_far ?_ NB314_319.out _; exact zk BK314⟩
      have n3_ : Aside0 (((w14.setCell ⟨gb319, 0, none⟩ (.slice Ao15 t315.length co15)).setCell ⟨gb319, 1, none⟩ (.int .i64 t318)).heap[gb319]? = some (.cells #[.slice Ao15 t315.length co15, .int .i64 t318] 25 (0, 0))) := ⟨by (with_reducible repeat (first | refine blk_drewN ?_ _ | refine blk_drew ?_ | refine blk_alloc ?_ _)); refine blk_put (cs := #[.slice Ao15 t315.length co15, .int .i64 0]) ?_ 1 _ rfl; (with_reducible repeat (first | refine blk_drewN ?_ _ | refine blk_drew ?_ | refine blk_alloc ?_ _)); refine blk_put (cs := #[.slice none 0 0, .int .i64 0]) ?_ 0 _ rfl; exact zk BK319⟩
      have n4_ : Aside0 (Below w.heap.size w ((w14.setCell ⟨gb319, 0, none⟩ (.slice Ao15 t315.length co15)).setCell ⟨gb319, 1, none⟩ (.int .i64 t318))) := ⟨zb HB⟩
      (try clear HO311)
      (try clear HO317)
      (try clear BK314)
      (try clear BK319)
      (try clear HB)
      generalize ((w14.setCell ⟨gb319, 0, none⟩ (.slice Ao15 t315.length co15)).setCell ⟨gb319, 1, none⟩ (.int .i64 t318)) = w42 at n0_ n1_ n2_ n3_ n4_ ⊢
      have HO311 := n0_
      have HO317 := n1_
      have BK314 := n2_
      have BK319 := n3_
      have HB := n4_
      clear n0_ n1_ n2_ n3_ n4_
      have n0_ := Aside0.mk (Kd.R_drew HO311.out)
      have n1_ := Aside0.mk (Kd.R_drew HO317.out)
      have n2_ := Aside0.mk (blk_drew BK314.out)
      have n3_ := Aside0.mk (blk_drew BK319.out)
      have n4_ := Aside0.mk (below_drew1 HB.out)
      clear HO311
      clear HO317
      clear BK314
      clear BK319
      clear HB
      have HO311 := n0_
      have HO317 := n1_
      have BK314 := n2_
      have BK319 := n3_
      have HB := n4_
      clear n0_ n1_ n2_ n3_ n4_
      refine start_ (n := 19) (S := fun w' => w'.cell? ⟨gb319, 0, none⟩ = some (.slice Ao15 t315.length co15) ∧ w'.cell? ⟨gb319, 1, none⟩ = some (.int .i64 t318) ∧ w'.cell? ⟨gb314, 0, none⟩ = some (.slice Ao11 t309.length co11) ∧ w'.cell? ⟨gb314, 1, none⟩ = some (.int .i64 t312)) (ds := []) #[false, false, false, false, false, false, false, false, false, false, false, false, false, false, false, false, false, false, false] (by kernel_rfl) rfl rfl ⟨(blk_cell BK319.out 0).trans rfl, (blk_cell BK319.out 1).trans rfl, (blk_cell BK314.out 0).trans rfl, (blk_cell BK314.out 1).trans rfl⟩ (fun hHeld => ?_); refine with_tabW laws_FnLimitTwice.tab5 laws_FnLimitTwice.bits5 (fun HT_ HW_ => ?_)
      generalize w42.drew = w43 at HO311 HO317 BK314 BK319 HB hHeld ⊢
      refine pure_ (i := 2) (N := some 27) (v := ?_) (a' := ?_) #[false, false, true, false, false, false, false, false, false, false, false, false, false, false, false, false, false, false, false] rfl rfl (any_of HT_.out (by kernel_rfl)) (fun _ _ _ h => h) (Or.inl ⟨by rfl, ?_⟩) ?_ ?_
      rotate_left
      ·intro w'
       go_simp
       with_reducible rfl
      rotate_left
      ·simp only [Act.put, s1, s2, s3, i64_w, i32_w]
       rfl
      refine take_ (i := 0) (N := some 25) (v := ?_) (a' := ?_) #[true, false, true, false, false, false, false, false, false, false, false, false, false, false, false, false, false, false, false] rfl rfl (take_ofW HT_.out HW_.out (by kernel_rfl)) (fun _ _ _ h => h) (Or.inl ⟨by rfl, ?_⟩) hHeld ?_ ?_
      rotate_left
      ·rintro w' ⟨s0, s1, s2, s3⟩
       go_simp
       with_reducible rfl
      rotate_left
      ·simp only [Act.put, s1, s2, s3, i64_w, i32_w]
       rfl
      refine take_ (i := 1) (N := some 26) (v := ?_) (a' := ?_) #[true, true, true, false, false, false, false, false, false, false, false, false, false, false, false, false, false, false, false] rfl rfl (take_ofW HT_.out HW_.out (by kernel_rfl)) (fun _ _ _ h => h) (Or.inl ⟨by rfl, ?_⟩) hHeld ?_ ?_
      rotate_left
      ·rintro w' ⟨s0, s1, s2, s3⟩
       go_simp
       with_reducible rfl
      rotate_left
      ·simp only [Act.put, s1, s2, s3, i64_w, i32_w]
       rfl
      refine one_ (i := 3) (N := some 28) #[true, true, true, true, false, false, false, false, false, false, false, false, false, false, false, false, false, false, false] rfl rfl (one_of HT_.out (by kernel_rfl)) (by decide) (fun K hK => ?_)
      refine goes_ Try.func18 (by kernel_rfl) rfl #[.agg #[.slice Ao11 t309.length co11, .int .i64 t312], .int .i64 t313] (by rfl) rfl rfl zl ?_
      with_reducible refine (spec_TableLimit.calls kj2 _ _ t309 t312 t313 t320 t323 _ ?side1 ?side2 A18.out).mono ?_
      (case side1 => repeat (first | exact (Kd.R_reads' HO311.out).2.2 | (with_reducible refine Kd.C_alloc ?_ _) | (with_reducible refine Kd.C_drewN ?_ _) | (with_reducible refine Kd.C_drew ?_)))
      (case side2 => exact (Kd.R_reads' HO311.out).2.1)
      rintro e w44 ⟨v321, rfl, ho0, hb⟩
      refine ⟨_, rfl, ?_⟩
      have n0_ := Aside0.mk (Kd.R_elder' (zr HO311) (Kd.R_base ho0) hb)
      have n1_ := Aside0.mk (Kd.R_elder' (zr HO317) (Kd.R_base ho0) hb)
      have n2_ := Aside0.mk (Kd.R_lower (Kd.R_new' (Kd.R_new' ho0 (Kd.R_lt (zr HO311))) (Kd.R_lt (zr HO317))) (below_size (zb HB)))
      have n3_ := Aside0.mk (blk_below (g := gb314) (o := .cells #[.slice Ao11 t309.length co11, .int .i64 t312] 25 (0, 0)) (zk BK314) hb)
      have n4_ := Aside0.mk (blk_below (g := gb319) (o := .cells #[.slice Ao15 t315.length co15, .int .i64 t318] 25 (0, 0)) (zk BK319) hb)
      have n5_ := Aside0.mk (below_step (zb HB) hb)
      clear HO311
      clear HO317
      clear BK314
      clear BK319
      clear HB
      have HO311 := n0_
      have HO317 := n1_
      have HO322 := n2_
      have BK314 := n3_
      have BK319 := n4_
      have HB := n5_
      clear n0_ n1_ n2_ n3_ n4_ n5_
      (try clear hb)
      (try clear hb2)
      (try clear hk)
      (try clear hi)
      (try clear ho0)
      obtain ⟨Ao45, co45, eo45⟩ := Kd.R_slice HO322.out
      (first | subst eo45 | (injection eo45 with f1_ f2_ f3_; have f4_ := f1_.symm; have f5_ := f3_.symm; clear f1_ f2_ f3_; subst f4_; subst f5_))
      refine hK.out _ _ ⟨(blk_cell BK319.out 0).trans rfl, (blk_cell BK319.out 1).trans rfl, (blk_cell BK314.out 0).trans rfl, (blk_cell BK314.out 1).trans rfl⟩ (fun hHeld => ?_)
      clear hK K
      refine norm_ (a' := ?_) ?_ ?_
      rotate_left
      ·show Act.put _ (some 28) _ = _
       simp only [Act.put, s1, s2, s3, i64_w, i32_w]
       rfl
      refine one_ (i := 4) (N := some 29) #[true, true, true, true, true, false, false, false, false, false, false, false, false, false, false, false, false, false, false] rfl rfl (one_of HT_.out (by kernel_rfl)) (by decide) (fun K hK => ?_)
      refine goes_ Try.func17 (by kernel_rfl) rfl #[.agg #[.slice Ao15 t315.length co15, .int .i64 t318], .agg #[.slice Ao45 t320.length co45, .int .i64 t323]] (by rfl) rfl rfl zl ?_
      with_reducible refine (laws_lkTable.calls kj2 _ _ t315 t318 _ _ t320 t323 false _ ?side1 ?side2 ?side3 ?side4 A19.out).mono ?_
      (case side1 => repeat (first | exact (Kd.R_reads' HO317.out).2.2 | (with_reducible refine Kd.C_alloc ?_ _) | (with_reducible refine Kd.C_drewN ?_ _) | (with_reducible refine Kd.C_drew ?_)))
      (case side2 => exact (Kd.R_reads' HO317.out).2.1)
      (case side3 => repeat (first | exact (Kd.R_reads' HO322.out).2.2 | (with_reducible refine Kd.C_alloc ?_ _) | (with_reducible refine Kd.C_drewN ?_ _) | (with_reducible refine Kd.C_drew ?_)))
      (case side4 => exact (Kd.R_reads' HO322.out).2.1)
      rintro e w46 ⟨rfl, hb⟩
      refine ⟨_, rfl, ?_⟩
      have n0_ := Aside0.mk (Kd.R_below (zr HO311) hb)
      have n1_ := Aside0.mk (Kd.R_below (zr HO317) hb)
      have n2_ := Aside0.mk (Kd.R_below (zr HO322) hb)
      have n3_ := Aside0.mk (blk_below (g := gb314) (o := .cells #[.slice Ao11 t309.length co11, .int .i64 t312] 25 (0, 0)) (zk BK314) hb)
      have n4_ := Aside0.mk (blk_below (g := gb319) (o := .cells #[.slice Ao15 t315.length co15, .int .i64 t318] 25 (0, 0)) (zk BK319) hb)
      have n5_ := Aside0.mk (below_step (zb HB) hb)
      clear HO311
      clear HO317
      clear HO322
      clear BK314
      clear BK319
      clear HB
      have HO311 := n0_
      have HO317 := n1_
      have HO322 := n2_
      have BK314 := n3_
      have BK319 := n4_
      have HB := n5_
      clear n0_ n1_ n2_ n3_ n4_ n5_
      (try clear hb)
      (try clear hb2)
      (try clear hk)
      (try clear hi)
      refine hK.out _ _ ⟨(blk_cell BK319.out 0).trans rfl, (blk_cell BK319.out 1).trans rfl, (blk_cell BK314.out 0).trans rfl, (blk_cell BK314.out 1).trans rfl⟩ (fun hHeld => ?_)
      clear hK K
      refine norm_ (a' := ?_) ?_ ?_
      rotate_left
      ·show Act.put _ (some 29) _ = _
       simp only [Act.put, s1, s2, s3, i64_w, i32_w]
       rfl
      refine pure_ (i := 5) (N := some 30) (v := ?_) (a' := ?_) #[true, true, true, true, true, true, false, false, false, false, false, false, false, false, false, false, false, false, false] rfl rfl (any_of HT_.out (by kernel_rfl)) (fun _ _ _ h => h) (Or.inl ⟨by rfl, ?_⟩) ?_ ?_
      rotate_left
      ·intro w'
       go_simp
       with_reducible rfl
      rotate_left
      ·simp only [Act.put, s1, s2, s3, i64_w, i32_w]
       rfl
      refine pure_ (i := 6) (N := some 31) (v := ?_) (a' := ?_) #[true, true, true, true, true, true, true, false, false, false, false, false, false, false, false, false, false, false, false] rfl rfl (any_of HT_.out (by kernel_rfl)) (fun _ _ _ h => h) (Or.inl ⟨by rfl, ?_⟩) ?_ ?_
      rotate_left
      ·intro w'
       go_simp
       with_reducible rfl
      rotate_left
      ·simp only [Act.put, s1, s2, s3, i64_w, i32_w]
       rfl
      refine pure_ (i := 7) (N := some 32) (v := undef) (a' := ?_) #[true, true, true, true, true, true, true, true, false, false, false, false, false, false, false, false, false, false, false] rfl rfl (any_of HT_.out (by kernel_rfl)) (fun _ _ _ h => h) (Or.inr ⟨by rfl, rfl⟩) ?_ ?_
      rotate_left
      ·simp only [Act.put, s1, s2, s3, i64_w, i32_w]
       rfl
      refine pure_ (i := 8) (N := some 33) (v := undef) (a' := ?_) #[true, true, true, true, true, true, true, true, true, false, false, false, false, false, false, false, false, false, false] rfl rfl (any_of HT_.out (by kernel_rfl)) (fun _ _ _ h => h) (Or.inr ⟨by rfl, rfl⟩) ?_ ?_
      rotate_left
      ·simp only [Act.put, s1, s2, s3, i64_w, i32_w]
       rfl
      refine pure_ (i := 9) (N := some 34) (v := undef) (a' := ?_) #[true, true, true, true, true, true, true, true, true, true, false, false, false, false, false, false, false, false, false] rfl rfl (any_of HT_.out (by kernel_rfl)) (fun _ _ _ h => h) (Or.inr ⟨by rfl, rfl⟩) ?_ ?_
      rotate_left
      ·simp only [Act.put, s1, s2, s3, i64_w, i32_w]
       rfl
      refine pure_ (i := 10) (N := some 35) (v := ?_) (a' := ?_) #[true, true, true, true, true, true, true, true, true, true, true, false, false, false, false, false, false, false, false] rfl rfl (any_of HT_.out (by kernel_rfl)) (fun _ _ _ h => h) (Or.inl ⟨by rfl, ?_⟩) ?_ ?_
      rotate_left
      ·intro w'
       go_simp
       with_reducible rfl
      rotate_left
      ·simp only [Act.put, s1, s2, s3, i64_w, i32_w]
       rfl
      refine pure_ (i := 11) (N := some 36) (v := ?_) (a' := ?_) #[true, true, true, true, true, true, true, true, true, true, true, true, false, false, false, false, false, false, false] rfl rfl (any_of HT_.out (by kernel_rfl)) (fun _ _ _ h => h) (Or.inl ⟨by rfl, ?_⟩) ?_ ?_
      rotate_left
      ·intro w'
       go_simp
       with_reducible rfl
      rotate_left
      ·simp only [Act.put, s1, s2, s3, i64_w, i32_w]
       rfl
      refine pure_ (i := 12) (N := some 37) (v := undef) (a' := ?_) #[true, true, true, true, true, true, true, true, true, true, true, true, true, false, false, false, false, false, false] rfl rfl (any_of HT_.out (by kernel_rfl)) (fun _ _ _ h => h) (Or.inr ⟨by rfl, rfl⟩) ?_ ?_
      rotate_left
      ·simp only [Act.put, s1, s2, s3, i64_w, i32_w]
       rfl
      refine pure_ (i := 13) (N := some 38) (v := undef) (a' := ?_) #[true, true, true, true, true, true, true, true, true, true, true, true, true, true, false, false, false, false, false] rfl rfl (any_of HT_.out (by kernel_rfl)) (fun _ _ _ h => h) (Or.inr ⟨by rfl, rfl⟩) ?_ ?_
      rotate_left
      ·simp only [Act.put, s1, s2, s3, i64_w, i32_w]
       rfl
      refine pure_ (i := 14) (N := some 39) (v := ?_) (a' := ?_) #[true, true, true, true, true, true, true, true, true, true, true, true, true, true, true, false, false, false, false] rfl rfl (any_of HT_.out (by kernel_rfl)) (fun _ _ _ h => h) (Or.inl ⟨by rfl, ?_⟩) ?_ ?_
      rotate_left
      ·intro w'
       go_simp
       with_reducible rfl
      rotate_left
      ·simp only [Act.put, s1, s2, s3, i64_w, i32_w]
       rfl
      refine pure_ (i := 15) (N := some 40) (v := ?_) (a' := ?_) #[true, true, true, true, true, true, true, true, true, true, true, true, true, true, true, true, false, false, false] rfl rfl (any_of HT_.out (by kernel_rfl)) (fun _ _ _ h => h) (Or.inl ⟨by rfl, ?_⟩) ?_ ?_
      rotate_left
      ·intro w'
       go_simp
       with_reducible rfl
      rotate_left
      ·simp only [Act.put, s1, s2, s3, i64_w, i32_w]
       rfl
      refine pure_ (i := 16) (N := some 41) (v := undef) (a' := ?_) #[true, true, true, true, true, true, true, true, true, true, true, true, true, true, true, true, true, false, false] rfl rfl (any_of HT_.out (by kernel_rfl)) (fun _ _ _ h => h) (Or.inr ⟨by rfl, rfl⟩) ?_ ?_
      rotate_left
      ·simp only [Act.put, s1, s2, s3, i64_w, i32_w]
       rfl
      refine pure_ (i := 17) (N := some 42) (v := undef) (a' := ?_) #[true, true, true, true, true, true, true, true, true, true, true, true, true, true, true, true, true, true, false] rfl rfl (any_of HT_.out (by kernel_rfl)) (fun _ _ _ h => h) (Or.inr ⟨by rfl, rfl⟩) ?_ ?_
      rotate_left
      ·simp only [Act.put, s1, s2, s3, i64_w, i32_w]
       rfl
      refine pure_ (i := 18) (N := some 43) (v := ?_) (a' := ?_) #[true, true, true, true, true, true, true, true, true, true, true, true, true, true, true, true, true, true, true] rfl rfl (any_of HT_.out (by kernel_rfl)) (fun _ _ _ h => h) (Or.inl ⟨by rfl, ?_⟩) ?_ ?_
      rotate_left
      ·intro w'
       go_simp
       with_reducible rfl
      rotate_left
      ·simp only [Act.put, s1, s2, s3, i64_w, i32_w]
       rfl
      refine done_ (done_of HT_.out (by kernel_rfl)) ?_
      try go_wp2
      go_meet
      case rel => exact ⟨_, (true), zs, H', ⟨by have := HJ2.out; first | omega | exact Nat.le_refl _⟩, ⟨by (with_reducible repeat (first | apply Kd.R_alloc | apply Kd.R_drewN | apply Kd.R_drew)); exact Kd.R_mono HO311.out (fun _ hk => hk.1)⟩, ⟨by (with_reducible repeat (first | apply Kd.R_alloc | apply Kd.R_drewN | apply Kd.R_drew)); exact Kd.R_mono HO317.out (fun _ hk => hk.1)⟩, ⟨by exact zk BK314⟩, ⟨by exact zk BK319⟩, ⟨zb HB⟩⟩
    case rest =>
     clear HC8
     try clear c1
     try clear c2
     try clear p2
     try clear c17
     try clear c18
     try clear c19
     try clear c20
     try clear c22
     obtain ⟨kq, x43_7, rfl, HA, HJ7, HO_315000, HO_320000, BK314, BK319, HB⟩ := hcut
     cases kq with
     | zero => exact absurd HA.out (by simp [laws_FnLimitTwice.j1])
     | succ kj7 =>
      have H := HA.out
      clear HA
      simp only [laws_FnLimitTwice.j1] at H
      by_cases c47 : x43_7 = true
      ·subst c47
       have H1 : ((spec_TableLimit.f kj7 t309 t312 t313).bind fun bt326 => ((laws_lkTable.f kj7 t315 t318 bt326.1 bt326.2).bind fun t330 => (some t330))) = some r := by rw [if_pos rfl] at H; exact H
       clear H
       have H := H1
       clear H1
       replace H := Option.bind_eq_some_iff.mp H
       obtain ⟨⟨t326, t329⟩, A480, H⟩ := H
       replace H : ((laws_lkTable.f kj7 t315 t318 t326 t329).bind fun t330 => (some t330)) = some r := H
       have A48 := Aside0.mk A480
       clear A480
       replace H := Option.bind_eq_some_iff.mp H
       obtain ⟨t330, A490, H⟩ := H
       replace H : (some t330) = some r := H
       have A49 := Aside0.mk A490
       clear A490
       obtain rfl := Option.some.inj H
       try go_wp2
       have n0_ := Aside0.mk (Kd.R_drew HO_315000.out)
       have n1_ := Aside0.mk (Kd.R_drew HO_320000.out)
       have n2_ := Aside0.mk (blk_drew BK314.out)
       have n3_ := Aside0.mk (blk_drew BK319.out)
       have n4_ := Aside0.mk (below_drew1 HB.out)
       clear HO_315000
       clear HO_320000
       clear BK314
       clear BK319
       clear HB
       have HO_315000 := n0_
       have HO_320000 := n1_
       have BK314 := n2_
       have BK319 := n3_
       have HB := n4_
       clear n0_ n1_ n2_ n3_ n4_
       refine start_ (n := 6) (S := fun w' => w'.cell? ⟨gb319, 0, none⟩ = some (.slice Ao15 t315.length co15) ∧ w'.cell? ⟨gb319, 1, none⟩ = some (.int .i64 t318) ∧ w'.cell? ⟨gb314, 0, none⟩ = some (.slice Ao11 t309.length co11) ∧ w'.cell? ⟨gb314, 1, none⟩ = some (.int .i64 t312)) (ds := []) #[false, false, false, false, false, false] (by kernel_rfl) rfl rfl ⟨(blk_cell BK319.out 0).trans rfl, (blk_cell BK319.out 1).trans rfl, (blk_cell BK314.out 0).trans rfl, (blk_cell BK314.out 1).trans rfl⟩ (fun hHeld => ?_)
       generalize wc.drew = w50 at HO_315000 HO_320000 BK314 BK319 HB hHeld ⊢
       refine pure_ (i := 2) (N := some 46) (v := ?_) (a' := ?_) #[false, false, true, false, false, false] rfl rfl (by kernel_rfl) (fun _ _ _ h => h) (Or.inl ⟨by rfl, ?_⟩) ?_ ?_
       rotate_left
       ·intro w'
        go_simp
        with_reducible rfl
       rotate_left
       ·simp only [Act.put, s1, s2, s3, i64_w, i32_w]
        rfl
       refine take_ (i := 0) (N := some 44) (v := ?_) (a' := ?_) #[true, false, true, false, false, false] rfl rfl (by kernel_rfl) (fun _ _ _ h => h) (Or.inl ⟨by rfl, ?_⟩) hHeld ?_ ?_
       rotate_left
       ·rintro w' ⟨s0, s1, s2, s3⟩
        go_simp
        with_reducible rfl
       rotate_left
       ·simp only [Act.put, s1, s2, s3, i64_w, i32_w]
        rfl
       refine take_ (i := 1) (N := some 45) (v := ?_) (a' := ?_) #[true, true, true, false, false, false] rfl rfl (by kernel_rfl) (fun _ _ _ h => h) (Or.inl ⟨by rfl, ?_⟩) hHeld ?_ ?_
       rotate_left
       ·rintro w' ⟨s0, s1, s2, s3⟩
        go_simp
        with_reducible rfl
       rotate_left
       ·simp only [Act.put, s1, s2, s3, i64_w, i32_w]
        rfl
       refine one_ (i := 3) (N := some 47) #[true, true, true, true, false, false] rfl rfl (by kernel_rfl) (by decide) (fun K hK => ?_)
       refine goes_ Try.func18 (by kernel_rfl) rfl #[.agg #[.slice Ao11 t309.length co11, .int .i64 t312], .int .i64 t313] (by rfl) rfl rfl zl ?_
       with_reducible refine (spec_TableLimit.calls kj7 _ _ t309 t312 t313 t326 t329 _ ?side1 ?side2 A48.out).mono ?_
       (case side1 => repeat (first | exact (Kd.R_reads' HO_315000.out).2.2 | (with_reducible refine Kd.C_alloc ?_ _) | (with_reducible refine Kd.C_drewN ?_ _) | (with_reducible refine Kd.C_drew ?_)))
       (case side2 => exact (Kd.R_reads' HO_315000.out).2.1)
       rintro e w51 ⟨v327, rfl, ho0, hb⟩
       refine ⟨_, rfl, ?_⟩
       have n0_ := Aside0.mk (Kd.R_elder' (zr HO_315000) (Kd.R_base ho0) hb)
       have n1_ := Aside0.mk (Kd.R_elder' (zr HO_320000) (Kd.R_base ho0) hb)
       have n2_ := Aside0.mk (Kd.R_lower (Kd.R_new' (Kd.R_new' ho0 (Kd.R_lt (zr HO_315000))) (Kd.R_lt (zr HO_320000))) (below_size (zb HB)))
       have n3_ := Aside0.mk (blk_below (g := gb314) (o := .cells #[.slice Ao11 t309.length co11, .int .i64 t312] 25 (0, 0)) (zk BK314) hb)
       have n4_ := Aside0.mk (blk_below (g := gb319) (o := .cells #[.slice Ao15 t315.length co15, .int .i64 t318] 25 (0, 0)) (zk BK319) hb)
       have n5_ := Aside0.mk (below_step (zb HB) hb)
       clear HO_315000
       clear HO_320000
       clear BK314
       clear BK319
       clear HB
       have HO_315000 := n0_
       have HO_320000 := n1_
       have HO328 := n2_
       have BK314 := n3_
       have BK319 := n4_
       have HB := n5_
       clear n0_ n1_ n2_ n3_ n4_ n5_
       (try clear hb)
       (try clear hb2)
       (try clear hk)
       (try clear hi)
       (try clear ho0)
       obtain ⟨Ao52, co52, eo52⟩ := Kd.R_slice HO328.out
       (first | subst eo52 | (injection eo52 with f1_ f2_ f3_; have f4_ := f1_.symm; have f5_ := f3_.symm; clear f1_ f2_ f3_; subst f4_; subst f5_))
       refine hK.out _ _ ⟨(blk_cell BK319.out 0).trans rfl, (blk_cell BK319.out 1).trans rfl, (blk_cell BK314.out 0).trans rfl, (blk_cell BK314.out 1).trans rfl⟩ (fun hHeld => ?_)
       clear hK K
       refine norm_ (a' := ?_) ?_ ?_
       rotate_left
       ·show Act.put _ (some 47) _ = _
        simp only [Act.put, s1, s2, s3, i64_w, i32_w]
        rfl
       refine one_ (i := 4) (N := some 48) #[true, true, true, true, true, false] rfl rfl (by kernel_rfl) (by decide) (fun K hK => ?_)
       refine goes_ Try.func17 (by kernel_rfl) rfl #[.agg #[.slice Ao15 t315.length co15, .int .i64 t318], .agg #[.slice Ao52 t326.length co52, .int .i64 t329]] (by rfl) rfl rfl zl ?_
       with_reducible refine (laws_lkTable.calls kj7 _ _ t315 t318 _ _ t326 t329 t330 _ ?side1 ?side2 ?side3 ?side4 A49.out).mono ?_
       (case side1 => repeat (first | exact (Kd.R_reads' HO_320000.out).2.2 | (with_reducible refine Kd.C_alloc ?_ _) | (with_reducible refine Kd.C_drewN ?_ _) | (with_reducible refine Kd.C_drew ?_)))
       (case side2 => exact (Kd.R_reads' HO_320000.out).2.1)
       (case side3 => repeat (first | exact (Kd.R_reads' HO328.out).2.2 | (with_reducible refine Kd.C_alloc ?_ _) | (with_reducible refine Kd.C_drewN ?_ _) | (with_reducible refine Kd.C_drew ?_)))
       (case side4 => exact (Kd.R_reads' HO328.out).2.1)
       rintro e w53 ⟨rfl, hb⟩
       refine ⟨_, rfl, ?_⟩
       have n0_ := Aside0.mk (Kd.R_below (zr HO_315000) hb)
       have n1_ := Aside0.mk (Kd.R_below (zr HO_320000) hb)
       have n2_ := Aside0.mk (Kd.R_below (zr HO328) hb)
       have n3_ := Aside0.mk (blk_below (g := gb314) (o := .cells #[.slice Ao11 t309.length co11, .int .i64 t312] 25 (0, 0)) (zk BK314) hb)
       have n4_ := Aside0.mk (blk_below (g := gb319) (o := .cells #[.slice Ao15 t315.length co15, .int .i64 t318] 25 (0, 0)) (zk BK319) hb)
       have n5_ := Aside0.mk (below_step (zb HB) hb)
       clear HO_315000
       clear HO_320000
       clear HO328
       clear BK314
       clear BK319
       clear HB
       have HO_315000 := n0_
       have HO_320000 := n1_
       have HO328 := n2_
       have BK314 := n3_
       have BK319 := n4_
       have HB := n5_
       clear n0_ n1_ n2_ n3_ n4_ n5_
       (try clear hb)
       (try clear hb2)
       (try clear hk)
       (try clear hi)
       refine hK.out _ _ ⟨(blk_cell BK319.out 0).trans rfl, (blk_cell BK319.out 1).trans rfl, (blk_cell BK314.out 0).trans rfl, (blk_cell BK314.out 1).trans rfl⟩ (fun hHeld => ?_)
       clear hK K
       refine norm_ (a' := ?_) ?_ ?_
       rotate_left
       ·show Act.put _ (some 48) _ = _
        simp only [Act.put, s1, s2, s3, i64_w, i32_w]
        rfl
       refine pure_ (i := 5) (N := some 4) (v := ?_) (a' := ?_) #[true, true, true, true, true, true] rfl rfl (by kernel_rfl) (fun _ _ _ h => h) (Or.inl ⟨by rfl, ?_⟩) ?_ ?_
       rotate_left
       ·intro w'
        go_simp
        with_reducible rfl
       rotate_left
       ·simp only [Act.put, s1, s2, s3, i64_w, i32_w]
        rfl
       refine done_ (by kernel_rfl) ?_
       try go_wp2
       go_ret
       exact ⟨ze, zb HB⟩
      ·replace c47 := Bool.eq_false_iff.mpr c47
       subst c47
       have H1 : (if (wrap64 (t313 + 1)) = 0 then (none) else ((impl_TableLimit.f kj7 t315 t318 ((l1.length : Int) % (wrap64 (t313 + 1)))).bind fun bt331 => ((impl_TableLimit.f kj7 t309 t312 ((l1.length : Int) % (wrap64 (t313 + 1)))).bind fun bt335 => ((laws_lkTable.f kj7 bt331.1 bt331.2 bt335.1 bt335.2).bind fun t339 => (some t339))))) = some r := by rw [if_neg (show ¬ (false = true) by decide)] at H; exact H
       clear H
       have H := H1
       clear H1
       by_cases c54 : (wrap64 (t313 + 1)) = 0
       ·rw [if_pos c54] at H
        exact absurd H (by simp)
       ·rw [if_neg c54] at H
        have c54b0 : ((wrap64 (t313 + 1)) == 0) = false := beq_eq_false_iff_ne.mpr c54
        have c54b1 : ((wrap64 (t313 + 1)) != 0) = true := bne_iff_ne.mpr c54
        replace H := Option.bind_eq_some_iff.mp H
        obtain ⟨⟨t331, t334⟩, A550, H⟩ := H
        replace H : ((impl_TableLimit.f kj7 t309 t312 ((l1.length : Int) % (wrap64 (t313 + 1)))).bind fun bt335 => ((laws_lkTable.f kj7 t331 t334 bt335.1 bt335.2).bind fun t339 => (some t339))) = some r := H
        have A55 := Aside0.mk A550
        clear A550
        replace H := Option.bind_eq_some_iff.mp H
        obtain ⟨⟨t335, t338⟩, A560, H⟩ := H
        replace H : ((laws_lkTable.f kj7 t331 t334 t335 t338).bind fun t339 => (some t339)) = some r := H
        have A56 := Aside0.mk A560
        clear A560
        replace H := Option.bind_eq_some_iff.mp H
        obtain ⟨t339, A570, H⟩ := H
        replace H : (some t339) = some r := H
        have A57 := Aside0.mk A570
        clear A570
        obtain rfl := Option.some.inj H
        try go_wp2
        have n0_ := Aside0.mk (Kd.R_drew HO_315000.out)
        have n1_ := Aside0.mk (Kd.R_drew HO_320000.out)
        have n2_ := Aside0.mk (blk_drew BK314.out)
        have n3_ := Aside0.mk (blk_drew BK319.out)
        have n4_ := Aside0.mk (below_drew1 HB.out)
        clear HO_315000
        clear HO_320000
        clear BK314
        clear BK319
        clear HB
        have HO_315000 := n0_
        have HO_320000 := n1_
        have BK314 := n2_
        have BK319 := n3_
        have HB := n4_
        clear n0_ n1_ n2_ n3_ n4_
        refine start_ (n := 8) (S := fun w' => w'.cell? ⟨gb319, 0, none⟩ = some (.slice Ao15 t315.length co15) ∧ w'.cell? ⟨gb319, 1, none⟩ = some (.int .i64 t318) ∧ w'.cell? ⟨gb314, 0, none⟩ = some (.slice Ao11 t309.length co11) ∧ w'.cell? ⟨gb314, 1, none⟩ = some (.int .i64 t312)) (ds := []) #[false, false, false, false, false, false, false, false] (by kernel_rfl) rfl rfl ⟨(blk_cell BK319.out 0).trans rfl, (blk_cell BK319.out 1).trans rfl, (blk_cell BK314.out 0).trans rfl, (blk_cell BK314.out 1).trans rfl⟩ (fun hHeld => ?_); refine with_tabW laws_FnLimitTwice.tab8 laws_FnLimitTwice.bits8 (fun HT_ HW_ => ?_)
        generalize wc.drew = w58 at HO_315000 HO_320000 BK314 BK319 HB hHeld ⊢
        refine pure_ (i := 1) (N := some 55) (v := ?_) (a' := ?_) #[false, true, false, false, false, false, false, false] rfl rfl (any_of HT_.out (by kernel_rfl)) (fun _ _ _ h => h) (Or.inl ⟨by rfl, ?_⟩) ?_ ?_
        rotate_left
        ·intro w'
         go_simp
         with_reducible rfl
        rotate_left
        ·simp only [Act.put, s1, s2, s3, i64_w, i32_w]
         rfl
        refine pure_ (i := 4) (N := some 58) (v := ?_) (a' := ?_) #[false, true, false, false, true, false, false, false] rfl rfl (any_of HT_.out (by kernel_rfl)) (fun _ _ _ h => h) (Or.inl ⟨by rfl, ?_⟩) ?_ ?_
        rotate_left
        ·intro w'
         go_simp
         with_reducible rfl
        rotate_left
        ·simp only [Act.put, s1, s2, s3, i64_w, i32_w]
         rfl
        refine take_ (i := 0) (N := some 54) (v := ?_) (a' := ?_) #[true, true, false, false, true, false, false, false] rfl rfl (take_ofW HT_.out HW_.out (by kernel_rfl)) (fun _ _ _ h => h) (Or.inl ⟨by rfl, ?_⟩) hHeld ?_ ?_
        rotate_left
        ·rintro w' ⟨s0, s1, s2, s3⟩
         go_simp
         with_reducible rfl
        rotate_left
        ·simp only [Act.put, s1, s2, s3, i64_w, i32_w]
         rfl
        refine take_ (i := 3) (N := some 57) (v := ?_) (a' := ?_) #[true, true, false, true, true, false, false, false] rfl rfl (take_ofW HT_.out HW_.out (by kernel_rfl)) (fun _ _ _ h => h) (Or.inl ⟨by rfl, ?_⟩) hHeld ?_ ?_
        rotate_left
        ·rintro w' ⟨s0, s1, s2, s3⟩
         go_simp
         with_reducible rfl
        rotate_left
        ·simp only [Act.put, s1, s2, s3, i64_w, i32_w]
         rfl
        refine one_ (i := 2) (N := some 56) #[true, true, true, true, true, false, false, false] rfl rfl (one_of HT_.out (by kernel_rfl)) (by decide) (fun K hK => ?_)
        refine goes_ Try.func16 (by kernel_rfl) rfl #[.agg #[.slice Ao15 t315.length co15, .int .i64 t318], .int .i64 ((l1.length : Int) % (wrap64 (t313 + 1)))] (by rfl) rfl rfl zl ?_
        with_reducible refine (impl_TableLimit.calls kj7 _ _ t315 t318 ((l1.length : Int) % (wrap64 (t313 + 1))) t331 t334 _ ?side1 ?side2 A55.out).mono ?_
        (case side1 => repeat (first | exact (Kd.R_reads' HO_320000.out).2.2 | (with_reducible refine Kd.C_alloc ?_ _) | (with_reducible refine Kd.C_drewN ?_ _) | (with_reducible refine Kd.C_drew ?_)))
        (case side2 => exact (Kd.R_reads' HO_320000.out).2.1)
        rintro e w59 ⟨v332, rfl, ho0, hb⟩
        refine ⟨_, rfl, ?_⟩
        have n0_ := Aside0.mk (Kd.R_elder' (zr HO_315000) (Kd.R_base ho0) hb)
        have n1_ := Aside0.mk (Kd.R_elder' (zr HO_320000) (Kd.R_base ho0) hb)
        have n2_ := Aside0.mk (Kd.R_lower (Kd.R_new' (Kd.R_new' ho0 (Kd.R_lt (zr HO_315000))) (Kd.R_lt (zr HO_320000))) (below_size (zb HB)))
        have n3_ := Aside0.mk (blk_below (g := gb314) (o := .cells #[.slice Ao11 t309.length co11, .int .i64 t312] 25 (0, 0)) (zk BK314) hb)
        have n4_ := Aside0.mk (blk_below (g := gb319) (o := .cells #[.slice Ao15 t315.length co15, .int .i64 t318] 25 (0, 0)) (zk BK319) hb)
        have n5_ := Aside0.mk (below_step (zb HB) hb)
        clear HO_315000
        clear HO_320000
        clear BK314
        clear BK319
        clear HB
        have HO_315000 := n0_
        have HO_320000 := n1_
        have HO333 := n2_
        have BK314 := n3_
        have BK319 := n4_
        have HB := n5_
        clear n0_ n1_ n2_ n3_ n4_ n5_
        (try clear hb)
        (try clear hb2)
        (try clear hk)
        (try clear hi)
        (try clear ho0)
        refine hK.out _ _ ⟨(blk_cell BK319.out 0).trans rfl, (blk_cell BK319.out 1).trans rfl, (blk_cell BK314.out 0).trans rfl, (blk_cell BK314.out 1).trans rfl⟩ (fun hHeld => ?_)
        clear hK K
        refine norm_ (a' := ?_) ?_ ?_
        rotate_left
        ·show Act.put _ (some 56) _ = _
         simp only [Act.put, s1, s2, s3, i64_w, i32_w]
         rfl
        refine one_ (i := 5) (N := some 59) #[true, true, true, true, true, true, false, false] rfl rfl (one_of HT_.out (by kernel_rfl)) (by decide) (fun K hK => ?_)
        refine goes_ Try.func16 (by kernel_rfl) rfl #[.agg #[.slice Ao11 t309.length co11, .int .i64 t312], .int .i64 ((l1.length : Int) % (wrap64 (t313 + 1)))] (by rfl) rfl rfl zl ?_
        with_reducible refine (impl_TableLimit.calls kj7 _ _ t309 t312 ((l1.length : Int) % (wrap64 (t313 + 1))) t335 t338 _ ?side1 ?side2 A56.out).mono ?_
        (case side1 => repeat (first | exact (Kd.R_reads' HO_315000.out).2.2 | (with_reducible refine Kd.C_alloc ?_ _) | (with_reducible refine Kd.C_drewN ?_ _) | (with_reducible refine Kd.C_drew ?_)))
        (case side2 => exact (Kd.R_reads' HO_315000.out).2.1)
        rintro e w60 ⟨v336, rfl, ho0, hb⟩
        refine ⟨_, rfl, ?_⟩
        have n0_ := Aside0.mk (Kd.R_elder' (zr HO_315000) (Kd.R_base ho0) hb)
        have n1_ := Aside0.mk (Kd.R_elder' (zr HO_320000) (Kd.R_base ho0) hb)
        have n2_ := Aside0.mk (Kd.R_elder' (zr HO333) (Kd.R_base ho0) hb)
        have n3_ := Aside0.mk (Kd.R_lower (Kd.R_new' (Kd.R_new' (Kd.R_new' ho0 (Kd.R_lt (zr HO_315000))) (Kd.R_lt (zr HO_320000))) (Kd.R_lt (zr HO333))) (below_size (zb HB)))
        have n4_ := Aside0.mk (blk_below (g := gb314) (o := .cells #[.slice Ao11 t309.length co11, .int .i64 t312] 25 (0, 0)) (zk BK314) hb)
        have n5_ := Aside0.mk (blk_below (g := gb319) (o := .cells #[.slice Ao15 t315.length co15, .int .i64 t318] 25 (0, 0)) (zk BK319) hb)
        have n6_ := Aside0.mk (below_step (zb HB) hb)
        clear HO_315000
        clear HO_320000
        clear HO333
        clear BK314
        clear BK319
        clear HB
        have HO_315000 := n0_
        have HO_320000 := n1_
        have HO333 := n2_
        have HO337 := n3_
        have BK314 := n4_
        have BK319 := n5_
        have HB := n6_
        clear n0_ n1_ n2_ n3_ n4_ n5_ n6_
        (try clear hb)
        (try clear hb2)
        (try clear hk)
        (try clear hi)
        (try clear ho0)
        obtain ⟨Ao61, co61, eo61⟩ := Kd.R_slice HO333.out
        (first | subst eo61 | (injection eo61 with f1_ f2_ f3_; have f4_ := f1_.symm; have f5_ := f3_.symm; clear f1_ f2_ f3_; subst f4_; subst f5_))
        obtain ⟨Ao62, co62, eo62⟩ := Kd.R_slice HO337.out
        (first | subst eo62 | (injection eo62 with f1_ f2_ f3_; have f4_ := f1_.symm; have f5_ := f3_.symm; clear f1_ f2_ f3_; subst f4_; subst f5_))
        refine hK.out _ _ ⟨(blk_cell BK319.out 0).trans rfl, (blk_cell BK319.out 1).trans rfl, (blk_cell BK314.out 0).trans rfl, (blk_cell BK314.out 1).trans rfl⟩ (fun hHeld => ?_)
        clear hK K
        refine norm_ (a' := ?_) ?_ ?_
        rotate_left
        ·show Act.put _ (some 59) _ = _
         simp only [Act.put, s1, s2, s3, i64_w, i32_w]
         rfl
        refine one_ (i := 6) (N := some 60) #[true, true, true, true, true, true, true, false] rfl rfl (one_of HT_.out (by kernel_rfl)) (by decide) (fun K hK => ?_)
        refine goes_ Try.func17 (by kernel_rfl) rfl #[.agg #[.slice Ao61 t331.length co61, .int .i64 t334], .agg #[.slice Ao62 t335.length co62, .int .i64 t338]] (by rfl) rfl rfl zl ?_
        with_reducible refine (laws_lkTable.calls kj7 _ _ t331 t334 _ _ t335 t338 t339 _ ?side1 ?side2 ?side3 ?side4 A57.out).mono ?_
        (case side1 => repeat (first | exact (Kd.R_reads' HO333.out).2.2 | (with_reducible refine Kd.C_alloc ?_ _) | (with_reducible refine Kd.C_drewN ?_ _) | (with_reducible refine Kd.C_drew ?_)))
        (case side2 => exact (Kd.R_reads' HO333.out).2.1)
        (case side3 => repeat (first | exact (Kd.R_reads' HO337.out).2.2 | (with_reducible refine Kd.C_alloc ?_ _) | (with_reducible refine Kd.C_drewN ?_ _) | (with_reducible refine Kd.C_drew ?_)))
        (case side4 => exact (Kd.R_reads' HO337.out).2.1)
        rintro e w63 ⟨rfl, hb⟩
        refine ⟨_, rfl, ?_⟩
        have n0_ := Aside0.mk (Kd.R_below (zr HO_315000) hb)
        have n1_ := Aside0.mk (Kd.R_below (zr HO_320000) hb)
        have n2_ := Aside0.mk (Kd.R_below (zr HO333) hb)
        have n3_ := Aside0.mk (Kd.R_below (zr HO337) hb)
        have n4_ := Aside0.mk (blk_below (g := gb314) (o := .cells #[.slice Ao11 t309.length co11, .int .i64 t312] 25 (0, 0)) (zk BK314) hb)
        have n5_ := Aside0.mk (blk_below (g := gb319) (o := .cells #[.slice Ao15 t315.length co15, .int .i64 t318] 25 (0, 0)) (zk BK319) hb)
        have n6_ := Aside0.mk (below_step (zb HB) hb)
        clear HO_315000
        clear HO_320000
        clear HO333
        clear HO337
        clear BK314
        clear BK319
        clear HB
        have HO_315000 := n0_
        have HO_320000 := n1_
        have HO333 := n2_
        have HO337 := n3_
        have BK314 := n4_
        have BK319 := n5_
        have HB := n6_
        clear n0_ n1_ n2_ n3_ n4_ n5_ n6_
        (try clear hb)
        (try clear hb2)
        (try clear hk)
        (try clear hi)
        refine hK.out _ _ ⟨(blk_cell BK319.out 0).trans rfl, (blk_cell BK319.out 1).trans rfl, (blk_cell BK314.out 0).trans rfl, (blk_cell BK314.out 1).trans rfl⟩ (fun hHeld => ?_)
        clear hK K
        refine norm_ (a' := ?_) ?_ ?_
        rotate_left
        ·show Act.put _ (some 60) _ = _
         simp only [Act.put, s1, s2, s3, i64_w, i32_w]
         rfl
        refine pure_ (i := 7) (N := some 4) (v := ?_) (a' := ?_) #[true, true, true, true, true, true, true, true] rfl rfl (any_of HT_.out (by kernel_rfl)) (fun _ _ _ h => h) (Or.inl ⟨by rfl, ?_⟩) ?_ ?_
        rotate_left
        ·intro w'
         go_simp
         with_reducible rfl
        rotate_left
        ·simp only [Act.put, s1, s2, s3, i64_w, i32_w]
         rfl
        refine done_ (done_of HT_.out (by kernel_rfl)) ?_
        try go_wp2
        go_ret
        exact ⟨ze, zb HB⟩

/-- THE ONE PURE STATEMENT of laws_FnLimitTwice: yours. -/
def laws_FnLimitTwice.Pure : Prop := ∀ (l0 : List Int) (l1 : List Int), l0.length ≤ maxLen → l0.length * 1 ≤ 140737488351232 → (∀ x ∈ l0, (Lit.int .u8 x).wf = true) → l1.length ≤ maxLen → l1.length * 1 ≤ 140737488351232 → (∀ x ∈ l1, (Lit.int .u8 x).wf = true) → ∃ k, laws_FnLimitTwice.f k l0 l1 = some true
theorem laws_FnLimitTwice.walk (P : laws_FnLimitTwice.Pure) (a0 : Option Addr) (len0 cap0 : Nat) (z0 : List Int) (a1 : Option Addr) (len1 cap1 : Nat) (z1 : List Int) (w : World) (w0 : (a0 = none ∧ len0 = 0 ∧ cap0 = 0 ∧ z0 = []) ∨ ∃ x, a0 = some x ∧ len0 ≤ cap0 ∧ cap0 ≤ maxLen ∧ z0.length = cap0 ∧ (∀ i, i < z0.length → w.cell? (x.add i) = some (.int .u8 (z0.getD i 0))) ∧ ∀ n ∈ z0, (Lit.int .u8 n).wf = true) (y0 : len0 * 1 ≤ 140737488351232) (w1 : (a1 = none ∧ len1 = 0 ∧ cap1 = 0 ∧ z1 = []) ∨ ∃ x, a1 = some x ∧ len1 ≤ cap1 ∧ cap1 ≤ maxLen ∧ z1.length = cap1 ∧ (∀ i, i < z1.length → w.cell? (x.add i) = some (.int .u8 (z1.getD i 0))) ∧ ∀ n ∈ z1, (Lit.int .u8 n).wf = true) (y1 : len1 * 1 ≤ 140737488351232) :
  Calls Try.prog 3 #[.slice a0 len0 cap0, .slice a1 len1 cap1] w fun e w' => e = .returned (.bool true) ∧ Below w.heap.size w w' := by
 obtain ⟨l0, rfl, hr0, hm0, hw0, hc0⟩ := ReadsInt.ofRowC w0
 obtain ⟨l1, rfl, hr1, hm1, hw1, hc1⟩ := ReadsInt.ofRowC w1
 obtain ⟨k, h⟩ := P l0 l1 hm0 y0 hw0 hm1 y1 hw1
 refine (laws_FnLimitTwice.calls k _ _ l0 _ _ l1 true w (Kd.C_of_reads (d := (0 : Int)) (h1 := fun _ => rfl) hr0) hc0 (Kd.C_of_reads (d := (0 : Int)) (h1 := fun _ => rfl) hr1) hc1 h).mono ?_
 rintro e w' ⟨rfl, hd⟩
 exact ⟨rfl, hd⟩

end Go.Proofs.Ytdhahifdcoinhaa.PFnLimitTwice
