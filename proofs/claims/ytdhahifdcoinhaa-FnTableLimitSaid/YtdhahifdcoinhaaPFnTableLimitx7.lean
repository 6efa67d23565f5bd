-- WRITTEN BY a turned print (wip/tools of the prover's repo)
import Derived.Test.YtdhahifdcoinhaaPFnTableLimitx0
import Derived.Test.YtdhahifdcoinhaaPFnTableLimitx4
import Derived.Test.YtdhahifdcoinhaaPFnTableLimitx5
import Derived.Test.YtdhahifdcoinhaaPFnTableLimitx6
namespace Go.Proofs.Ytdhahifdcoinhaa.PFnTableLimit
open Go.RowKit Go.Proofs.YtdhahifdcoinhaaW.PrintWords Go.Proofs.YtdhahifdcoinhaaW.PrintLast Go.Proofs.YtdhahifdcoinhaaW.PrintMore Go.Proofs.Ytdhahifdcoinhaa.Lm
attribute [local go_sem] max2_int min2_int max_two min_two max_three min_three max_four min_four   -- for this text's walks alone
set_option linter.unusedVariables false
set_option linter.unusedSimpArgs false

/-! ### laws_FnTableLimit: function 4 -/
-- thin
mutual
def laws_FnTableLimit.j0 : Nat → Int → Bool → List (S36) → Int → List (S36) → Int → Option (Bool)
 | 0, _, _, _, _, _, _ => none
 | k + 1, x4, x36, x319000, x319001, x324000, x324001 => if x36 = true then ((spec_TableLimit.f k x319000 x319001 x4).bind fun bt330 => ((laws_lkTable.f k x324000 x324001 bt330.1 bt330.2).bind fun t334 => (some t334))) else (if (x324000.length : Int) > (x319000.length : Int) then (laws_FnTableLimit.j1 k x4 (x324000.length : Int) true x319000 x319001 x324000 x324001) else (if 0 ≤ (x324000.length : Int) then (if (x324000.length : Int) ≤ (x319000.length : Int) then ((laws_lkFields.f k x324000 (x319000.take ((x324000.length : Int) : Int).toNat)).bind fun t339 => (if t339 = true then (if x324001 = x4 then ((impl_TableOk.f k x324000 x324001).bind fun t340 => (if t340 = true then ((impl_TableLimit.f k x324000 x324001 x4).bind fun bt341 => ((laws_lkTable.f k bt341.1 bt341.2 x324000 x324001).bind fun t345 => (laws_FnTableLimit.j1 k x4 (x324000.length : Int) (!t345) x319000 x319001 x324000 x324001))) else (laws_FnTableLimit.j1 k x4 (x324000.length : Int) true x319000 x319001 x324000 x324001))) else (laws_FnTableLimit.j1 k x4 (x324000.length : Int) true x319000 x319001 x324000 x324001)) else (laws_FnTableLimit.j1 k x4 (x324000.length : Int) true x319000 x319001 x324000 x324001))) else (none)) else (none)))
def laws_FnTableLimit.j1 : Nat → Int → Int → Bool → List (S36) → Int → List (S36) → Int → Option (Bool)
 | 0, _, _, _, _, _, _, _ => none
 | k + 1, x4, x6, x78, x319000, x319001, x324000, x324001 => if x78 = true then (some false) else (if x6 = (x319000.length : Int) then ((impl_TableLimit.f k x319000 x319001 64).bind fun bt346 => ((laws_lkFields.f k bt346.1 x319000).bind fun t350 => (some t350))) else ((impl_TableSize.f k x324000 x324001).bind fun t351 => (if 0 ≤ x6 then (if x6 < (x319000.length : Int) then ((laws_lkOne.f ((rd_T36 x319000 x6).f0) ((rd_T36 x319000 x6).f1) ((rd_T36 x319000 x6).f2)).bind fun t353 => (if (wrap64 (t351 + t353)) > x4 then ((impl_TableLimit.f k x319000 x319001 64).bind fun bt354 => ((laws_lkFields.f k bt354.1 x319000).bind fun t358 => (some t358))) else (some false))) else (none)) else (none))))
end
def laws_FnTableLimit.f (k : Nat) (l0 : List Int) : Option (Bool) := if (l0.length : Int) > 1048576 then (some true) else ((spec_DrawTableLimit.f k l0).bind fun bt313 => ((impl_TableLimit.f k bt313.1 bt313.2.1 bt313.2.2).bind fun bt319 => ((spec_TableLimit.f k bt313.1 bt313.2.1 bt313.2.2).bind fun bt324 => ((laws_lkTable.f k bt319.1 bt319.2 bt324.1 bt324.2).bind fun t328 => (if t328 = true then ((spec_TableOk.f k bt313.1 bt313.2.1).bind fun t329 => (if t329 = true then (if bt313.2.2 < 0 then (laws_FnTableLimit.j0 k bt313.2.2 true bt313.1 bt313.2.1 bt319.1 bt319.2) else (laws_FnTableLimit.j0 k bt313.2.2 (decide (bt313.2.2 > 64)) bt313.1 bt313.2.1 bt319.1 bt319.2)) else (laws_FnTableLimit.j0 k bt313.2.2 true bt313.1 bt313.2.1 bt319.1 bt319.2))) else (laws_FnTableLimit.j0 k bt313.2.2 true bt313.1 bt313.2.1 bt319.1 bt319.2))))))
theorem laws_FnTableLimit.mono_l : ∀ k, (∀ y0 y1 y2 y3 y4 y5, LeO (laws_FnTableLimit.j0 k y0 y1 y2 y3 y4 y5) (laws_FnTableLimit.j0 (k + 1) y0 y1 y2 y3 y4 y5)) ∧ (∀ y0 y1 y2 y3 y4 y5 y6, LeO (laws_FnTableLimit.j1 k y0 y1 y2 y3 y4 y5 y6) (laws_FnTableLimit.j1 (k + 1) y0 y1 y2 y3 y4 y5 y6))
 | 0 => ⟨fun _ _ _ _ _ _ r h => by simp [laws_FnTableLimit.j0] at h, fun _ _ _ _ _ _ _ r h => by simp [laws_FnTableLimit.j1] at h⟩
 | k + 1 => by
  obtain ⟨ih0, ih1⟩ := laws_FnTableLimit.mono_l k
  refine ⟨?_, ?_⟩
  ·intro y0 y1 y2 y3 y4 y5
   unfold laws_FnTableLimit.j0
   repeat' first
   | (with_reducible exact ih0 _ _ _ _ _ _)
   | (with_reducible exact ih1 _ _ _ _ _ _ _)
   | (with_reducible exact impl_TableLimit.mono _ _ _ _)
   | (with_reducible exact impl_TableOk.mono _ _ _)
   | (with_reducible exact impl_TableSize.mono _ _ _)
   | (with_reducible exact laws_lkFields.mono _ _ _)
   | (with_reducible exact laws_lkTable.mono _ _ _ _ _)
   | (with_reducible exact spec_DrawTableLimit.mono _ _)
   | (with_reducible exact spec_TableLimit.mono _ _ _ _)
   | (with_reducible exact spec_TableOk.mono _ _ _)
   | (with_reducible exact LeO.refl _)
   | (with_reducible exact LeO.none _)
   | (with_reducible refine LeO.ite ?_ ?_)
   | (with_reducible refine LeO.bind ?_ (fun _ => ?_))
   | exact ih0 _ _ _ _ _ _
   | exact ih1 _ _ _ _ _ _ _
   | exact impl_TableLimit.mono _ _ _ _
   | exact impl_TableOk.mono _ _ _
   | exact impl_TableSize.mono _ _ _
   | exact laws_lkFields.mono _ _ _
   | exact laws_lkTable.mono _ _ _ _ _
   | exact spec_DrawTableLimit.mono _ _
   | exact spec_TableLimit.mono _ _ _ _
   | exact spec_TableOk.mono _ _ _
   | exact LeO.none _
   | refine LeO.ite ?_ ?_
   | refine LeO.bind ?_ (fun _ => ?_)
  ·intro y0 y1 y2 y3 y4 y5 y6
   unfold laws_FnTableLimit.j1
   repeat' first
   | (with_reducible exact ih0 _ _ _ _ _ _)
   | (with_reducible exact ih1 _ _ _ _ _ _ _)
   | (with_reducible exact impl_TableLimit.mono _ _ _ _)
   | (with_reducible exact impl_TableOk.mono _ _ _)
   | (with_reducible exact impl_TableSize.mono _ _ _)
   | (with_reducible exact laws_lkFields.mono _ _ _)
   | (with_reducible exact laws_lkTable.mono _ _ _ _ _)
   | (with_reducible exact spec_DrawTableLimit.mono _ _)
   | (with_reducible exact spec_TableLimit.mono _ _ _ _)
   | (with_reducible exact spec_TableOk.mono _ _ _)
   | (with_reducible exact LeO.refl _)
   | (with_reducible exact LeO.none _)
   | (with_reducible refine LeO.ite ?_ ?_)
   | (with_reducible refine LeO.bind ?_ (fun _ => ?_))
   | exact ih0 _ _ _ _ _ _
   | exact ih1 _ _ _ _ _ _ _
   | exact impl_TableLimit.mono _ _ _ _
   | exact impl_TableOk.mono _ _ _
   | exact impl_TableSize.mono _ _ _
   | exact laws_lkFields.mono _ _ _
   | exact laws_lkTable.mono _ _ _ _ _
   | exact spec_DrawTableLimit.mono _ _
   | exact spec_TableLimit.mono _ _ _ _
   | exact spec_TableOk.mono _ _ _
   | exact LeO.none _
   | refine LeO.ite ?_ ?_
   | refine LeO.bind ?_ (fun _ => ?_)
theorem laws_FnTableLimit.mono : ∀ a0 k, LeO (laws_FnTableLimit.f k a0) (laws_FnTableLimit.f (k + 1) a0) := by
 intro a0 k
 obtain ⟨ih0, ih1⟩ := laws_FnTableLimit.mono_l k
 unfold laws_FnTableLimit.f
 repeat' first
   | (with_reducible exact ih0 _ _ _ _ _ _)
   | (with_reducible exact ih1 _ _ _ _ _ _ _)
   | (with_reducible exact impl_TableLimit.mono _ _ _ _)
   | (with_reducible exact impl_TableOk.mono _ _ _)
   | (with_reducible exact impl_TableSize.mono _ _ _)
   | (with_reducible exact laws_lkFields.mono _ _ _)
   | (with_reducible exact laws_lkTable.mono _ _ _ _ _)
   | (with_reducible exact spec_DrawTableLimit.mono _ _)
   | (with_reducible exact spec_TableLimit.mono _ _ _ _)
   | (with_reducible exact spec_TableOk.mono _ _ _)
   | (with_reducible exact LeO.refl _)
   | (with_reducible exact LeO.none _)
   | (with_reducible refine LeO.ite ?_ ?_)
   | (with_reducible refine LeO.bind ?_ (fun _ => ?_))
   | exact ih0 _ _ _ _ _ _
   | exact ih1 _ _ _ _ _ _ _
   | exact impl_TableLimit.mono _ _ _ _
   | exact impl_TableOk.mono _ _ _
   | exact impl_TableSize.mono _ _ _
   | exact laws_lkFields.mono _ _ _
   | exact laws_lkTable.mono _ _ _ _ _
   | exact spec_DrawTableLimit.mono _ _
   | exact spec_TableLimit.mono _ _ _ _
   | exact spec_TableOk.mono _ _ _
   | exact LeO.none _
   | refine LeO.ite ?_ ?_
   | refine LeO.bind ?_ (fun _ => ?_)
def laws_FnTableLimit.T5 : Bool × List (List Nat × List Nat) := (true, [([], []), ([], []), ([], []), ([1, 2], [1, 2]), ([0, 3, 3], [0, 3]), ([4], [4]), ([5, 4], [5]), ([6], [6]), ([7, 6, 6], [6, 7]), ([8, 6], [6, 8]), ([6, 9], [6, 9]), ([10, 8], [10]), ([11], [11]), ([12, 11], [11, 12]), ([11, 13], [11, 13]), ([14, 11], [14]), ([15], [15]), ([16, 15], [15, 16]), ([15, 17], [15, 17])])
def laws_FnTableLimit.B5 : List Nat := [0, 0, 0, 6, 15, 31, 63, 127, 255, 511, 1023, 2047, 4095, 8191, 16383, 32767, 65535, 131071, 262143]
theorem laws_FnTableLimit.tab5 : rtab .any (opsOf Try.f4 5) = laws_FnTableLimit.T5 := by kernel_rfl
theorem laws_FnTableLimit.bits5 : waitsOk laws_FnTableLimit.T5.2 laws_FnTableLimit.B5 = true := by kernel_rfl
def laws_FnTableLimit.T8 : Bool × List (List Nat × List Nat) := (true, [([], []), ([], []), ([1], [1]), ([2], [2]), ([0, 3], [0, 3]), ([4], [4]), ([5], [5]), ([6, 5], [5, 6]), ([5], [5]), ([8, 5], [5, 8]), ([5], [5]), ([9, 10, 5], [5, 9, 10]), ([7, 11, 5, 5], [5, 7, 11]), ([12, 5], [5, 12]), ([5, 13], [5, 13]), ([14, 12], [14]), ([15], [15]), ([16, 15], [15, 16]), ([15], [15]), ([17, 18, 15], [15, 17, 18]), ([15, 19], [15, 19]), ([20, 15], [20]), ([21], [21]), ([22, 21, 21], [21, 22]), ([23, 21], [21, 23]), ([21, 24], [21, 24]), ([25, 23], [25]), ([26], [26]), ([26], [26]), ([27, 28, 26, 26], [26, 27, 28]), ([26], [26]), ([29, 30, 29, 26], [26, 29, 30]), ([31, 26], [26, 31]), ([26, 32], [26, 32])])
def laws_FnTableLimit.B8 : List Nat := [0, 0, 2, 6, 15, 31, 63, 127, 63, 319, 63, 1855, 4095, 8191, 16383, 32767, 65535, 131071, 65535, 524287, 1048575, 2097151, 4194303, 8388607, 16777215, 33554431, 67108863, 134217727, 134217727, 536870911, 134217727, 2147483647, 4294967295, 8589934591]
theorem laws_FnTableLimit.tab8 : rtab .any (opsOf Try.f4 8) = laws_FnTableLimit.T8 := by kernel_rfl
theorem laws_FnTableLimit.bits8 : waitsOk laws_FnTableLimit.T8.2 laws_FnTableLimit.B8 = true := by kernel_rfl
def laws_FnTableLimit.T10 : Bool × List (List Nat × List Nat) := (true, [([], []), ([], []), ([1], [1]), ([2], [2]), ([0, 3], [0, 3]), ([4], [4]), ([5], [5]), ([6, 5, 5], [5, 6]), ([5], [5]), ([8, 5], [5, 8]), ([5], [5]), ([9, 10, 5], [5, 9, 10]), ([11, 5], [5, 11]), ([12, 7, 5], [5, 12]), ([7, 13, 5], [5, 7, 13]), ([5], [5]), ([14, 15, 5], [5, 14, 15]), ([5, 16], [5, 16]), ([17, 13], [17]), ([18], [18]), ([19, 18, 18], [18, 19]), ([20, 18], [18, 20]), ([18], [18]), ([22, 18], [18, 22]), ([21, 23, 20, 18], [18, 21, 23]), ([18, 24], [18, 24]), ([25, 24, 0, 1, 2, 3, 4, 5, 6, 7, 8, 9, 10, 11, 12, 13, 14, 15, 16, 17, 18, 19, 20, 21, 22, 23, 24, 25], [25])])
def laws_FnTableLimit.B10 : List Nat := [0, 0, 2, 6, 15, 31, 63, 127, 63, 319, 63, 1855, 3903, 8191, 16383, 63, 65535, 131071, 262143, 524287, 1048575, 2097151, 524287, 4718591, 16777215, 33554431, 67108863]
theorem laws_FnTableLimit.tab10 : rtab .any (opsOf Try.f4 10) = laws_FnTableLimit.T10 := by kernel_rfl
theorem laws_FnTableLimit.bits10 : waitsOk laws_FnTableLimit.T10.2 laws_FnTableLimit.B10 = true := by kernel_rfl
set_option maxHeartbeats 8000000 in
set_option maxRecDepth 100000 in
theorem laws_FnTableLimit.calls (k : Nat) (A0 : Option Addr) (c0 : Nat) (l0 : List Int) (r : Bool) (w : World) (hr0 : Kd.C (Kd.int .u8) w A0 l0.length l0) (hc0 : l0.length ≤ c0) (h : laws_FnTableLimit.f k l0 = some r) :
  Calls Try.prog 4 #[.slice A0 l0.length c0] w fun e w' => e = .returned (.bool r) ∧ Below w.heap.size w w' := by
 have hu25 := Try.underlying25
 have hu36 := Try.underlying36
 have HR0 := Aside0.mk hr0
 have HC0 := Aside0.mk hc0
 clear hr0 hc0
 have HB := Aside0.mk (Below.refl w.heap.size w)
 have H : (if (l0.length : Int) > 1048576 then (some true) else ((spec_DrawTableLimit.f k l0).bind fun bt313 => ((impl_TableLimit.f k bt313.1 bt313.2.1 bt313.2.2).bind fun bt319 => ((spec_TableLimit.f k bt313.1 bt313.2.1 bt313.2.2).bind fun bt324 => ((laws_lkTable.f k bt319.1 bt319.2 bt324.1 bt324.2).bind fun t328 => (if t328 = true then ((spec_TableOk.f k bt313.1 bt313.2.1).bind fun t329 => (if t329 = true then (if bt313.2.2 < 0 then (laws_FnTableLimit.j0 k bt313.2.2 true bt313.1 bt313.2.1 bt319.1 bt319.2) else (laws_FnTableLimit.j0 k bt313.2.2 (decide (bt313.2.2 > 64)) bt313.1 bt313.2.1 bt319.1 bt319.2)) else (laws_FnTableLimit.j0 k bt313.2.2 true bt313.1 bt313.2.1 bt319.1 bt319.2))) else (laws_FnTableLimit.j0 k bt313.2.2 true bt313.1 bt313.2.1 bt319.1 bt319.2))))))) = some r := h
 clear h
 by_cases c2 : (l0.length : Int) > 1048576
 ·rw [if_pos c2] at H
  have c2b0 : decide (1048576 < (l0.length : Int)) = true := decide_eq_true c2
  have c2b1 : decide (1048576 < l0.length) = true := decide_eq_true (by omega)
  clear c2
  obtain rfl := Option.some.inj H
  go_enter Try.func4, Try.ntmps4
  go_wp2
  go_ret
  exact ⟨ze, zb HB⟩
 ·rw [if_neg c2] at H
  have c2b0 : decide (1048576 < (l0.length : Int)) = false := decide_eq_false c2
  have c2b1 : decide (1048576 < l0.length) = false := decide_eq_false (by omega)
  clear c2
  replace H := Option.bind_eq_some_iff.mp H
  obtain ⟨⟨t313, t316, t317⟩, A30, H⟩ := H
  replace H : ((impl_TableLimit.f k t313 t316 t317).bind fun bt319 => ((spec_TableLimit.f k t313 t316 t317).bind fun bt324 => ((laws_lkTable.f k bt319.1 bt319.2 bt324.1 bt324.2).bind fun t328 => (if t328 = true then ((spec_TableOk.f k t313 t316).bind fun t329 => (if t329 = true then (if t317 < 0 then (laws_FnTableLimit.j0 k t317 true t313 t316 bt319.1 bt319.2) else (laws_FnTableLimit.j0 k t317 (decide (t317 > 64)) t313 t316 bt319.1 bt319.2)) else (laws_FnTableLimit.j0 k t317 true t313 t316 bt319.1 bt319.2))) else (laws_FnTableLimit.j0 k t317 true t313 t316 bt319.1 bt319.2))))) = some r := H
  have A3 := Aside0.mk A30
  clear A30
  replace H := Option.bind_eq_some_iff.mp H
  obtain ⟨⟨t319, t322⟩, A40, H⟩ := H
  replace H : ((spec_TableLimit.f k t313 t316 t317).bind fun bt324 => ((laws_lkTable.f k t319 t322 bt324.1 bt324.2).bind fun t328 => (if t328 = true then ((spec_TableOk.f k t313 t316).bind fun t329 => (if t329 = true then (if t317 < 0 then (laws_FnTableLimit.j0 k t317 true t313 t316 t319 t322) else (laws_FnTableLimit.j0 k t317 (decide (t317 > 64)) t313 t316 t319 t322)) else (laws_FnTableLimit.j0 k t317 true t313 t316 t319 t322))) else (laws_FnTableLimit.j0 k t317 true t313 t316 t319 t322)))) = some r := H
  have A4 := Aside0.mk A40
  clear A40
  have HC5 := Aside0.mk H
  clear H
  go_enter Try.func4, Try.ntmps4
  go_upto_region 5 with (first | ((with_reducible refine gq 15 rfl ?_); refine gl (some 12) Try.func15 #[.slice A0 l0.length c0] ?_; (with_reducible refine (spec_DrawTableLimit.calls k _ _ l0 t313 t316 t317 _ ?side1 ?side2 A3.out).mono ?_); (case side1 => exact zc HR0.out); (case side2 => exact HC0.out); rintro e w6 ⟨v314, rfl, ho0, hb⟩; refine ⟨_, rfl, ?_⟩; have HO315 := Aside0.mk (Kd.R_lower ho0 (below_size (zb HB))); replace HB := Aside0.mk (below_step (zb HB) hb); (try clear hb); (try clear ho0)) | ((with_reducible refine gd 3 rfl ?_); refine bx (N := 3) (cs := #[.slice none 0 0, .int .i64 0]) (t := 25) ?_; intro gb318 hg w7 hbox hb; replace HO315 := Aside0.mk (Kd.R_below (zr HO315) hb); have BK318 := Aside0.mk (hbox); have GW318 := Aside0.mk ((by rw [hg]; exact (below_size (zb HB)) : w.heap.size ≤ gb318)); have GE318 := Aside0.mk ((by rw [hg]; exact (below_size (zb HB)) : w.heap.size ≤ gb318)); replace HB := Aside0.mk (below_step (zb HB) hb); clear hb hbox hg; obtain ⟨Ao8, co8, eo8⟩ := Kd.R_slice HO315.out; subst eo8; have hcz9_0 : w7.cell? ⟨gb318, 0, none⟩ = some (.slice none 0 0) := (blk_cell BK318.out 0).trans rfl; have hcz9_1 : w7.cell? ⟨gb318, 1, none⟩ = some (.int .i64 0) := (blk_cell BK318.out 1).trans rfl; have hfz9_0 := blk_frozen BK318.out 0; have hfz9_1 := blk_frozen BK318.out 1) | ((with_reducible refine gq 16 rfl ?_); refine gl (some 17) Try.func16 #[.agg #[.slice Ao8 t313.length co8, .int .i64 t316], .int .i64 t317] ?_; (with_reducible refine (impl_TableLimit.calls k _ _ t313 t316 t317 t319 t322 _ ?side1 ?side2 A4.out).mono ?_); (case side1 => refine (Kd.R_reads' (e := 36) (base := w.heap.size) (ok := fun k_ => True) (n := t313.length) (c := co8) ?_).2.2; exact (by (with_reducible repeat (first | apply Kd.R_alloc | apply Kd.R_drewN | apply Kd.R_drew)); exact (Kd.R_mono (Kd.R_far (p := ⟨gb318, 1, none⟩) (Kd.R_far (p := ⟨gb318, 0, none⟩) (Kd.R_types HO315.out BK318.out (by decide)) (fun _ hk => hk.2) (.slice Ao8 t313.length co8)) (fun _ hk => hk.2) (.int .i64 t316)) (fun _ h_ => h_.1)))); (case side2 => exact (Kd.R_reads' HO315.out).2.1); rintro e w10 ⟨v320, rfl, ho0, hb⟩; refine ⟨_, rfl, ?_⟩; have HO321 := Aside0.mk (Kd.R_lower (Kd.R_new' ho0 (Kd.R_lt (by (with_reducible repeat (first | apply Kd.R_alloc | apply Kd.R_drewN | apply Kd.R_drew)); exact (Kd.R_mono (Kd.R_far (p := ⟨gb318, 1, none⟩) (Kd.R_far (p := ⟨gb318, 0, none⟩) (Kd.R_types HO315.out BK318.out (by decide)) (fun _ hk => hk.2) (.slice Ao8 t313.length co8)) (fun _ hk => hk.2) (.int .i64 t316)) (fun _ h_ => h_.1))))) (below_size (zb HB))); replace HO315 := Aside0.mk (Kd.R_elder' (by (with_reducible repeat (first | apply Kd.R_alloc | apply Kd.R_drewN | apply Kd.R_drew)); exact (Kd.R_mono (Kd.R_far (p := ⟨gb318, 1, none⟩) (Kd.R_far (p := ⟨gb318, 0, none⟩) (Kd.R_types HO315.out BK318.out (by decide)) (fun _ hk => hk.2) (.slice Ao8 t313.length co8)) (fun _ hk => hk.2) (.int .i64 t316)) (fun _ h_ => h_.1))) (Kd.R_base ho0) hb); replace BK318 := Aside0.mk (blk_below (g := gb318) (o := .cells #[.slice Ao8 t313.length co8, .int .i64 t316] 25 (0, 0)) (by (with_reducible repeat (first | refine blk_drewN ?_ _ | refine blk_drew ?_ | refine blk_alloc ?_ _)); refine blk_put (cs := #[.slice Ao8 t313.length co8, .int .i64 0]) ?_ 1 _ rfl; (with_reducible repeat (first | refine blk_drewN ?_ _ | refine blk_drew ?_ | refine blk_alloc ?_ _)); refine blk_put (cs := #[.slice none 0 0, .int .i64 0]) ?_ 0 _ rfl; exact zk BK318) hb); replace HB := Aside0.mk (below_step (zb HB) hb); (try clear hb); (try clear hk); (try clear ho0)) | ((with_reducible refine gd 5 rfl ?_); refine bx (N := 5) (cs := #[.slice none 0 0, .int .i64 0]) (t := 25) ?_; intro gb323 hg w11 hbox hb; replace HO315 := Aside0.mk (Kd.R_below (zr HO315) hb); replace HO321 := Aside0.mk (Kd.R_below (zr HO321) hb); have BK323 := Aside0.mk (hbox); have GW323 := Aside0.mk ((by rw [hg]; exact (below_size (zb HB)) : w.heap.size ≤ gb323)); have GE323 := Aside0.mk ((by rw [hg]; exact (below_size (zb HB)) : w.heap.size ≤ gb323)); replace HB := Aside0.mk (below_step (zb HB) hb); have NB318_323 := Aside0.mk ((by rw [hg]; exact Nat.ne_of_lt (blk_lt (g := gb318) (o := .cells #[.slice Ao8 t313.length co8, .int .i64 t316] 25 (0, 0)) (zk BK318)) : gb318 ≠ gb323)); have NB323_318 := Aside0.mk ((by rw [hg]; exact Nat.ne_of_gt (blk_lt (g := gb318) (o := .cells #[.slice Ao8 t313.length co8, .int .i64 t316] 25 (0, 0)) (zk BK318)) : gb323 ≠ gb318)); replace BK318 := Aside0.mk (blk_below (g := gb318) (o := .cells #[.slice Ao8 t313.length co8, .int .i64 t316] 25 (0, 0)) (zk BK318) hb); clear hb hbox hg; obtain ⟨Ao12, co12, eo12⟩ := Kd.R_slice HO321.out; subst eo12; have hnb13 := NB323_318.out; have hnc13 := NB318_323.out; have hcz14_0 : w11.cell? ⟨gb323, 0, none⟩ = some (.slice none 0 0) := (blk_cell BK323.out 0).trans rfl; have hcz14_1 : w11.cell? ⟨gb323, 1, none⟩ = some (.int .i64 0) := (blk_cell BK323.out 1).trans rfl; have hfz14_0 := blk_frozen BK323.out 0; have hfz14_1 := blk_frozen BK323.out 1))
  (try simp only [Act.put, s1, s2, s3])
  go_cut [36] (fun v36 wc => ∃ (kq : Nat) (x36_4 : Bool), v36 = .bool x36_4 ∧ Aside0 (laws_FnTableLimit.j0 kq t317 x36_4 t313 t316 t319 t322 = some r) ∧ Aside0 (kq ≤ k) ∧ Aside0 (Kd.R k36 36 wc w.heap.size (fun k_ => some k_ ≠ ((.slice Ao12 t319.length co12) : Value).ownBlock) (.slice Ao8 t313.length co8) t313) ∧ Aside0 (Kd.R k36 36 wc w.heap.size (fun k_ => some k_ ≠ ((.slice Ao8 t313.length co8) : Value).ownBlock) (.slice Ao12 t319.length co12) t319) ∧ Aside0 (wc.heap[gb318]? = some (.cells #[(.slice Ao8 t313.length co8), .int .i64 t316] 25 (0, 0))) ∧ Aside0 (wc.heap[gb323]? = some (.cells #[(.slice Ao12 t319.length co12), .int .i64 t322] 25 (0, 0))) ∧ Aside0 (Below w.heap.size w wc))
  case first =>
   have H := HC5.out
   clear HC5
   replace H := Option.bind_eq_some_iff.mp H
   obtain ⟨⟨t324, t327⟩, A150, H⟩ := H
   replace H : ((laws_lkTable.f k t319 t322 t324 t327).bind fun t328 => (if t328 = true then ((spec_TableOk.f k t313 t316).bind fun t329 => (if t329 = true then (if t317 < 0 then (laws_FnTableLimit.j0 k t317 true t313 t316 t319 t322) else (laws_FnTableLimit.j0 k t317 (decide (t317 > 64)) t313 t316 t319 t322)) else (laws_FnTableLimit.j0 k t317 true t313 t316 t319 t322))) else (laws_FnTableLimit.j0 k t317 true t313 t316 t319 t322))) = some r := H
   have A15 := Aside0.mk A150
   clear A150
   replace H := Option.bind_eq_some_iff.mp H
   obtain ⟨t328, A160, H⟩ := H
   replace H : (if t328 = true then ((spec_TableOk.f k t313 t316).bind fun t329 => (if t329 = true then (if t317 < 0 then (laws_FnTableLimit.j0 k t317 true t313 t316 t319 t322) else (laws_FnTableLimit.j0 k t317 (decide (t317 > 64)) t313 t316 t319 t322)) else (laws_FnTableLimit.j0 k t317 true t313 t316 t319 t322))) else (laws_FnTableLimit.j0 k t317 true t313 t316 t319 t322)) = some r := H
   have A16 := Aside0.mk A160
   clear A160
   by_cases c17 : t328 = true
   ·subst c17
    have H1 : ((spec_TableOk.f k t313 t316).bind fun t329 => (if t329 = true then (if t317 < 0 then (laws_FnTableLimit.j0 k t317 true t313 t316 t319 t322) else (laws_FnTableLimit.j0 k t317 (decide (t317 > 64)) t313 t316 t319 t322)) else (laws_FnTableLimit.j0 k t317 true t313 t316 t319 t322))) = some r := by rw [if_pos rfl] at H; exact H
    clear H
    have H := H1
    clear H1
    replace H := Option.bind_eq_some_iff.mp H
    obtain ⟨t329, A180, H⟩ := H
    replace H : (if t329 = true then (if t317 < 0 then (laws_FnTableLimit.j0 k t317 true t313 t316 t319 t322) else (laws_FnTableLimit.j0 k t317 (decide (t317 > 64)) t313 t316 t319 t322)) else (laws_FnTableLimit.j0 k t317 true t313 t316 t319 t322)) = some r := H
    have A18 := Aside0.mk A180
    clear A180
    by_cases c19 : t329 = true
    ·subst c19
     have H1 : (if t317 < 0 then (laws_FnTableLimit.j0 k t317 true t313 t316 t319 t322) else (laws_FnTableLimit.j0 k t317 (decide (t317 > 64)) t313 t316 t319 t322)) = some r := by rw [if_pos rfl] at H; exact H
     clear H
     have H := H1
     clear H1
     by_cases c20 : t317 < 0
     ·rw [if_pos c20] at H
      have c20b0 : decide (t317 < 0) = true := decide_eq_true c20
      clear c20
      (first | rw [c20b0] | (simp only [i64_w, i32_w]; rw [c20b0]) | skip)
      have H' := Aside0.mk H
      clear H
      try go_wp2
      have n0_ : Aside0 (Kd.R k36 36 ((w11.setCell ⟨gb323, 0, none⟩ (.slice Ao12 t319.length co12)).setCell ⟨gb323, 1, none⟩ (.int .i64 t322)) w.heap.size (fun k_ => some k_ ≠ (.slice Ao12 t319.length co12 : Value).ownBlock) (.slice Ao8 t313.length co8) t313) := ⟨by (with_reducible repeat (first | apply Kd.R_alloc | apply Kd.R_drewN | apply Kd.R_drew)); exact Kd.R_mono (Kd.R_far (p := ⟨gb323, 1, none⟩) (Kd.R_far (p := ⟨gb323, 0, none⟩) (Kd.R_types HO315.out BK323.out (by decide)) (fun _ hk => hk.2) (.slice Ao12 t319.length co12)) (fun _ hk => hk.2) (.int .i64 t322)) (fun _ hk => hk.1.2)⟩
      have n1_ : Aside0 (Kd.R k36 36 ((w11.setCell ⟨gb323, 0, none⟩ (.slice Ao12 t319.length co12)).setCell ⟨gb323, 1, none⟩ (.int .i64 t322)) w.heap.size (fun k_ => some k_ ≠ (.slice Ao8 t313.length co8 : Value).ownBlock) (.slice Ao12 t319.length co12) t319) := ⟨by (with_reducible repeat (first | apply Kd.R_alloc | apply Kd.R_drewN | apply Kd.R_drew)); exact Kd.R_mono (Kd.R_far (p := ⟨gb323, 1, none⟩) (Kd.R_far (p := ⟨gb323, 0, none⟩) (Kd.R_types HO321.out BK323.out (by decide)) (fun _ hk => hk.2) (.slice Ao12 t319.length co12)) (fun _ hk => hk.2) (.int .i64 t322)) (fun _ hk => hk.1.2)⟩
      have n2_ : Aside0 (((w11.setCell ⟨gb323, 0, none⟩ (.slice Ao12 t319.length co12)).setCell ⟨gb323, 1, none⟩ (.int .i64 t322)).heap[gb318]? = some (.cells #[.slice Ao8 t313.length co8, .int .i64 t316] 25 (0, 0))) := ⟨by (with_reducible repeat (first | refine blk_drewN ?_ _ | refine blk_drew ?_ | refine blk_alloc ?_ _)); refine blk_far ?_ NB318_323.out _; (with_reducible repeat (first | refine blk_drewN ?_ _ | refine blk_drew ?_ | refine blk_alloc ?_ _)); refine blk_far ?_ NB318_323.out _; exact zk BK318⟩
      have n3_ : Aside0 (((w11.setCell ⟨gb323, 0, none⟩ (.slice Ao12 t319.length co12)).setCell ⟨gb323, 1, none⟩ (.int .i64 t322)).heap[gb323]? = some (.cells #[.slice Ao12 t319.length co12, .int .i64 t322] 25 (0, 0))) := ⟨by (with_reducible repeat (first | refine blk_drewN ?_ _ | refine blk_drew ?_ | refine blk_alloc ?_ _)); refine blk_put (cs := #[.slice Ao12 t319.length co12, .int .i64 0]) ?_ 1 _ rfl; (with_reducible repeat (first | refine blk_drewN ?_ _ | refine blk_drew ?_ | refine blk_alloc ?_ _)); refine blk_put (cs := #[.slice none 0 0, .int .i64 0]) ?_ 0 _ rfl; exact zk BK323⟩
      have n4_ : Aside0 (Below w.heap.size w ((w11.setCell ⟨gb323, 0, none⟩ (.slice Ao12 t319.length co12)).setCell ⟨gb323, 1, none⟩ (.int .i64 t322))) := ⟨zb HB⟩
      (try clear HO315)
      (try clear HO321)
      (try clear BK318)
      (try clear BK323)
      (try clear HB)
      generalize ((w11.setCell ⟨gb323, 0, none⟩ (.slice Ao12 t319.length co12)).setCell ⟨gb323, 1, none⟩ (.int .i64 t322)) = w21 at n0_ n1_ n2_ n3_ n4_ ⊢
      have HO315 := n0_
      have HO321 := n1_
      have BK318 := n2_
      have BK323 := n3_
      have HB := n4_
      clear n0_ n1_ n2_ n3_ n4_
      replace HO315 := Aside0.mk (Kd.R_drew HO315.out)
      replace HO321 := Aside0.mk (Kd.R_drew HO321.out)
      replace BK318 := Aside0.mk (blk_drew BK318.out)
      replace BK323 := Aside0.mk (blk_drew BK323.out)
      replace HB := Aside0.mk (below_drew1 HB.out)
      refine start_ (n := 19) (S := fun w' => w'.cell? ⟨gb323, 0, none⟩ = some (.slice Ao12 t319.length co12) ∧ w'.cell? ⟨gb323, 1, none⟩ = some (.int .i64 t322) ∧ w'.cell? ⟨gb318, 0, none⟩ = some (.slice Ao8 t313.length co8) ∧ w'.cell? ⟨gb318, 1, none⟩ = some (.int .i64 t316)) (ds := []) #[false, false, false, false, false, false, false, false, false, false, false, false, false, false, false, false, false, false, false] (by kernel_rfl) rfl rfl ⟨(blk_cell BK323.out 0).trans rfl, (blk_cell BK323.out 1).trans rfl, (blk_cell BK318.out 0).trans rfl, (blk_cell BK318.out 1).trans rfl⟩ (fun hHeld => ?_); refine with_tabW laws_FnTableLimit.tab5 laws_FnTableLimit.bits5 (fun HT_ HW_ => ?_)
      generalize w21.drew = w22 at HO315 HO321 BK318 BK323 HB hHeld ⊢
      refine pu 2 (some 20) (bm 19 4) rfl rfl ?_
      refine tk4 0 (some 18) (bm 19 5) rfl rfl hHeld ?_
      refine tk4 1 (some 19) (bm 19 7) rfl rfl hHeld ?_
      refine one_ (i := 3) (N := some 21) (bm 19 15) rfl rfl (one_of HT_.out (by kernel_rfl)) (by decide) (fun K hK => ?_)
      refine gs Try.func18 #[.agg #[.slice Ao8 t313.length co8, .int .i64 t316], .int .i64 t317] ?_
      with_reducible refine (spec_TableLimit.calls k _ _ t313 t316 t317 t324 t327 _ ?side1 ?side2 A15.out).mono ?_
      (case side1 => exact zc (Kd.R_reads' HO315.out).2.2)
      (case side2 => exact (Kd.R_reads' HO315.out).2.1)
      rintro e w23 ⟨v325, rfl, ho0, hb⟩
      refine ⟨_, rfl, ?_⟩
      have HO326 := Aside0.mk (Kd.R_lower (Kd.R_new' (Kd.R_new' ho0 (Kd.R_lt (zr HO315))) (Kd.R_lt (zr HO321))) (below_size (zb HB)))
      replace HO315 := Aside0.mk (Kd.R_elder' (zr HO315) (Kd.R_base ho0) hb)
      replace HO321 := Aside0.mk (Kd.R_elder' (zr HO321) (Kd.R_base ho0) hb)
      replace BK318 := Aside0.mk (blk_below (g := gb318) (o := .cells #[.slice Ao8 t313.length co8, .int .i64 t316] 25 (0, 0)) (zk BK318) hb)
      replace BK323 := Aside0.mk (blk_below (g := gb323) (o := .cells #[.slice Ao12 t319.length co12, .int .i64 t322] 25 (0, 0)) (zk BK323) hb)
      replace HB := Aside0.mk (below_step (zb HB) hb)
      (try clear hb)
      (try clear ho0)
      obtain ⟨Ao24, co24, eo24⟩ := Kd.R_slice HO326.out
      (first | subst eo24 | (injection eo24 with f1_ f2_ f3_; have f4_ := f1_.symm; have f5_ := f3_.symm; clear f1_ f2_ f3_; subst f4_; subst f5_))
      refine hK.out _ _ ⟨(blk_cell BK323.out 0).trans rfl, (blk_cell BK323.out 1).trans rfl, (blk_cell BK318.out 0).trans rfl, (blk_cell BK318.out 1).trans rfl⟩ (fun hHeld => ?_)
      clear hK K
      refine nm ?_
      refine one_ (i := 4) (N := some 22) (bm 19 31) rfl rfl (one_of HT_.out (by kernel_rfl)) (by decide) (fun K hK => ?_)
      refine gs Try.func17 #[.agg #[.slice Ao12 t319.length co12, .int .i64 t322], .agg #[.slice Ao24 t324.length co24, .int .i64 t327]] ?_
      with_reducible refine (laws_lkTable.calls k _ _ t319 t322 _ _ t324 t327 true _ ?side1 ?side2 ?side3 ?side4 A16.out).mono ?_
      (case side1 => exact zc (Kd.R_reads' HO321.out).2.2)
      (case side2 => exact (Kd.R_reads' HO321.out).2.1)
      (case side3 => exact zc (Kd.R_reads' HO326.out).2.2)
      (case side4 => exact (Kd.R_reads' HO326.out).2.1)
      rintro e w25 ⟨rfl, hb⟩
      refine ⟨_, rfl, ?_⟩
      replace HO315 := Aside0.mk (Kd.R_below (zr HO315) hb)
      replace HO321 := Aside0.mk (Kd.R_below (zr HO321) hb)
      replace HO326 := Aside0.mk (Kd.R_below (zr HO326) hb)
      replace BK318 := Aside0.mk (blk_below (g := gb318) (o := .cells #[.slice Ao8 t313.length co8, .int .i64 t316] 25 (0, 0)) (zk BK318) hb)
      replace BK323 := Aside0.mk (blk_below (g := gb323) (o := .cells #[.slice Ao12 t319.length co12, .int .i64 t322] 25 (0, 0)) (zk BK323) hb)
      replace HB := Aside0.mk (below_step (zb HB) hb)
      (try clear hb)
      refine hK.out _ _ ⟨(blk_cell BK323.out 0).trans rfl, (blk_cell BK323.out 1).trans rfl, (blk_cell BK318.out 0).trans rfl, (blk_cell BK318.out 1).trans rfl⟩ (fun hHeld => ?_)
      clear hK K
      refine nm ?_
      refine pu 5 (some 23) (bm 19 63) rfl rfl ?_
      refine pu 6 (some 24) (bm 19 127) rfl rfl ?_
      refine tk4 7 (some 25) (bm 19 255) rfl rfl hHeld ?_
      refine one_ (i := 8) (N := some 26) (bm 19 511) rfl rfl (one_of HT_.out (by kernel_rfl)) (by decide) (fun K hK => ?_)
      refine gs Try.func19 #[.agg #[.slice Ao8 t313.length co8, .int .i64 t316]] ?_
      with_reducible refine (spec_TableOk.calls k _ _ t313 t316 true _ ?side1 ?side2 A18.out).mono ?_
      (case side1 => exact zc (Kd.R_reads' HO315.out).2.2)
      (case side2 => exact (Kd.R_reads' HO315.out).2.1)
      rintro e w26 ⟨rfl, hb⟩
      refine ⟨_, rfl, ?_⟩
      replace HO315 := Aside0.mk (Kd.R_below (zr HO315) hb)
      replace HO321 := Aside0.mk (Kd.R_below (zr HO321) hb)
      replace HO326 := Aside0.mk (Kd.R_below (zr HO326) hb)
      replace BK318 := Aside0.mk (blk_below (g := gb318) (o := .cells #[.slice Ao8 t313.length co8, .int .i64 t316] 25 (0, 0)) (zk BK318) hb)
      replace BK323 := Aside0.mk (blk_below (g := gb323) (o := .cells #[.slice Ao12 t319.length co12, .int .i64 t322] 25 (0, 0)) (zk BK323) hb)
      replace HB := Aside0.mk (below_step (zb HB) hb)
      (try clear hb)
      refine hK.out _ _ ⟨(blk_cell BK323.out 0).trans rfl, (blk_cell BK323.out 1).trans rfl, (blk_cell BK318.out 0).trans rfl, (blk_cell BK318.out 1).trans rfl⟩ (fun hHeld => ?_)
      clear hK K
      refine nm ?_
      refine pu 9 (some 27) (bm 19 1023) rfl rfl ?_
      refine pu 10 (some 28) (bm 19 2047) rfl rfl ?_
      refine pu 11 (some 29) (bm 19 4095) rfl rfl ?_
      refine pu 12 (some 30) (bm 19 8191) rfl rfl ?_
      refine pu 13 (some 31) (bm 19 16383) rfl rfl ?_
      refine pu 14 (some 32) (bm 19 32767) rfl rfl ?_
      refine pu 15 (some 33) (bm 19 65535) rfl rfl ?_
      refine pv 16 (some 34) (bm 19 131071) rfl rfl ?_
      refine pv 17 (some 35) (bm 19 262143) rfl rfl ?_
      refine pu 18 (some 36) (bm 19 524287) rfl rfl ?_
      refine done_ (done_of HT_.out (by kernel_rfl)) ?_
      try go_wp2
      go_meet
      case rel => exact ⟨_, (true), zs, H', ⟨by first | omega | exact Nat.le_refl _⟩, ⟨by (with_reducible repeat (first | apply Kd.R_alloc | apply Kd.R_drewN | apply Kd.R_drew)); exact Kd.R_mono HO315.out (fun _ hk => hk.1)⟩, ⟨by (with_reducible repeat (first | apply Kd.R_alloc | apply Kd.R_drewN | apply Kd.R_drew)); exact Kd.R_mono HO321.out (fun _ hk => hk.1)⟩, ⟨by exact zk BK318⟩, ⟨by exact zk BK323⟩, ⟨zb HB⟩⟩
     ·rw [if_neg c20] at H
      have c20b0 : decide (t317 < 0) = false := decide_eq_false c20
      clear c20
      (first | rw [c20b0] | (simp only [i64_w, i32_w]; rw [c20b0]) | skip)
      have H' := Aside0.mk H
      clear H
      try go_wp2
      have n0_ : Aside0 (Kd.R k36 36 ((w11.setCell ⟨gb323, 0, none⟩ (.slice Ao12 t319.length co12)).setCell ⟨gb323, 1, none⟩ (.int .i64 t322)) w.heap.size (fun k_ => some k_ ≠ (.slice Ao12 t319.length co12 : Value).ownBlock) (.slice Ao8 t313.length co8) t313) := ⟨by (with_reducible repeat (first | apply Kd.R_alloc | apply Kd.R_drewN | apply Kd.R_drew)); exact Kd.R_mono (Kd.R_far (p := ⟨gb323, 1, none⟩) (Kd.R_far (p := ⟨gb323, 0, none⟩) (Kd.R_types HO315.out BK323.out (by decide)) (fun _ hk => hk.2) (.slice Ao12 t319.length co12)) (fun _ hk => hk.2) (.int .i64 t322)) (fun _ hk => hk.1.2)⟩
      have n1_ : Aside0 (Kd.R k36 36 ((w11.setCell ⟨gb323, 0, none⟩ (.slice Ao12 t319.length co12)).setCell ⟨gb323, 1, none⟩ (.int .i64 t322)) w.heap.size (fun k_ => some k_ ≠ (.slice Ao8 t313.length co8 : Value).ownBlock) (.slice Ao12 t319.length co12) t319) := ⟨by (with_reducible repeat (first | apply Kd.R_alloc | apply Kd.R_drewN | apply Kd.R_drew)); exact Kd.R_mono (Kd.R_far (p := ⟨gb323, 1, none⟩) (Kd.R_far (p := ⟨gb323, 0, none⟩) (Kd.R_types HO321.out BK323.out (by decide)) (fun _ hk => hk.2) (.slice Ao12 t319.length co12)) (fun _ hk => hk.2) (.int .i64 t322)) (fun _ hk => hk.1.2)⟩
      have n2_ : Aside0 (((w11.setCell ⟨gb323, 0, none⟩ (.slice Ao12 t319.length co12)).setCell ⟨gb323, 1, none⟩ (.int .i64 t322)).heap[gb318]? = some (.cells #[.slice Ao8 t313.length co8, .int .i64 t316] 25 (0, 0))) := ⟨by (with_reducible repeat (first | refine blk_drewN ?_ _ | refine blk_drew ?_ | refine blk_alloc ?_ _)); refine blk_far ?_ NB318_323.out _; (with_reducible repeat (first | refine blk_drewN ?_ _ | refine blk_drew ?_ | refine blk_alloc ?_ _)); refine blk_far ?_ NB318_323.out _; exact zk BK318⟩
      have n3_ : Aside0 (((w11.setCell ⟨gb323, 0, none⟩ (.slice Ao12 t319.length co12)).setCell ⟨gb323, 1, none⟩ (.int .i64 t322)).heap[gb323]? = some (.cells #[.slice Ao12 t319.length co12, .int .i64 t322] 25 (0, 0))) := ⟨by (with_reducible repeat (first | refine blk_drewN ?_ _ | refine blk_drew ?_ | refine blk_alloc ?_ _)); refine blk_put (cs := #[.slice Ao12 t319.length co12, .int .i64 0]) ?_ 1 _ rfl; (with_reducible repeat (first | refine blk_drewN ?_ _ | refine blk_drew ?_ | refine blk_alloc ?_ _)); refine blk_put (cs := #[.slice none 0 0, .int .i64 0]) ?_ 0 _ rfl; exact zk BK323⟩
      have n4_ : Aside0 (Below w.heap.size w ((w11.setCell ⟨gb323, 0, none⟩ (.slice Ao12 t319.length co12)).setCell ⟨gb323, 1, none⟩ (.int .i64 t322))) := ⟨zb HB⟩
      (try clear HO315)
      (try clear HO321)
      (try clear BK318)
      (try clear BK323)
      (try clear HB)
      generalize ((w11.setCell ⟨gb323, 0, none⟩ (.slice Ao12 t319.length co12)).setCell ⟨gb323, 1, none⟩ (.int .i64 t322)) = w27 at n0_ n1_ n2_ n3_ n4_ ⊢
      have HO315 := n0_
      have HO321 := n1_
      have BK318 := n2_
      have BK323 := n3_
      have HB := n4_
      clear n0_ n1_ n2_ n3_ n4_
      replace HO315 := Aside0.mk (Kd.R_drew HO315.out)
      replace HO321 := Aside0.mk (Kd.R_drew HO321.out)
      replace BK318 := Aside0.mk (blk_drew BK318.out)
      replace BK323 := Aside0.mk (blk_drew BK323.out)
      replace HB := Aside0.mk (below_drew1 HB.out)
      refine start_ (n := 19) (S := fun w' => w'.cell? ⟨gb323, 0, none⟩ = some (.slice Ao12 t319.length co12) ∧ w'.cell? ⟨gb323, 1, none⟩ = some (.int .i64 t322) ∧ w'.cell? ⟨gb318, 0, none⟩ = some (.slice Ao8 t313.length co8) ∧ w'.cell? ⟨gb318, 1, none⟩ = some (.int .i64 t316)) (ds := []) #[false, false, false, false, false, false, false, false, false, false, false, false, false, false, false, false, false, false, false] (by kernel_rfl) rfl rfl ⟨(blk_cell BK323.out 0).trans rfl, (blk_cell BK323.out 1).trans rfl, (blk_cell BK318.out 0).trans rfl, (blk_cell BK318.out 1).trans rfl⟩ (fun hHeld => ?_); refine with_tabW laws_FnTableLimit.tab5 laws_FnTableLimit.bits5 (fun HT_ HW_ => ?_)
      generalize w27.drew = w28 at HO315 HO321 BK318 BK323 HB hHeld ⊢
      refine pu 2 (some 20) (bm 19 4) rfl rfl ?_
      refine tk4 0 (some 18) (bm 19 5) rfl rfl hHeld ?_
      refine tk4 1 (some 19) (bm 19 7) rfl rfl hHeld ?_
      refine one_ (i := 3) (N := some 21) (bm 19 15) rfl rfl (one_of HT_.out (by kernel_rfl)) (by decide) (fun K hK => ?_)
      refine gs Try.func18 #[.agg #[.slice Ao8 t313.length co8, .int .i64 t316], .int .i64 t317] ?_
      with_reducible refine (spec_TableLimit.calls k _ _ t313 t316 t317 t324 t327 _ ?side1 ?side2 A15.out).mono ?_
      (case side1 => exact zc (Kd.R_reads' HO315.out).2.2)
      (case side2 => exact (Kd.R_reads' HO315.out).2.1)
      rintro e w29 ⟨v325, rfl, ho0, hb⟩
      refine ⟨_, rfl, ?_⟩
      have HO326 := Aside0.mk (Kd.R_lower (Kd.R_new' (Kd.R_new' ho0 (Kd.R_lt (zr HO315))) (Kd.R_lt (zr HO321))) (below_size (zb HB)))
      replace HO315 := Aside0.mk (Kd.R_elder' (zr HO315) (Kd.R_base ho0) hb)
      replace HO321 := Aside0.mk (Kd.R_elder' (zr HO321) (Kd.R_base ho0) hb)
      replace BK318 := Aside0.mk (blk_below (g := gb318) (o := .cells #[.slice Ao8 t313.length co8, .int .i64 t316] 25 (0, 0)) (zk BK318) hb)
      replace BK323 := Aside0.mk (blk_below (g := gb323) (o := .cells #[.slice Ao12 t319.length co12, .int .i64 t322] 25 (0, 0)) (zk BK323) hb)
      replace HB := Aside0.mk (below_step (zb HB) hb)
      (try clear hb)
      (try clear ho0)
      obtain ⟨Ao30, co30, eo30⟩ := Kd.R_slice HO326.out
      (first | subst eo30 | (injection eo30 with f1_ f2_ f3_; have f4_ := f1_.symm; have f5_ := f3_.symm; clear f1_ f2_ f3_; subst f4_; subst f5_))
      refine hK.out _ _ ⟨(blk_cell BK323.out 0).trans rfl, (blk_cell BK323.out 1).trans rfl, (blk_cell BK318.out 0).trans rfl, (blk_cell BK318.out 1).trans rfl⟩ (fun hHeld => ?_)
      clear hK K
      refine nm ?_
      refine one_ (i := 4) (N := some 22) (bm 19 31) rfl rfl (one_of HT_.out (by kernel_rfl)) (by decide) (fun K hK => ?_)
      refine gs Try.func17 #[.agg #[.slice Ao12 t319.length co12, .int .i64 t322], .agg #[.slice Ao30 t324.length co30, .int .i64 t327]] ?_
      with_reducible refine (laws_lkTable.calls k _ _ t319 t322 _ _ t324 t327 true _ ?side1 ?side2 ?side3 ?side4 A16.out).mono ?_
      (case side1 => exact zc (Kd.R_reads' HO321.out).2.2)
      (case side2 => exact (Kd.R_reads' HO321.out).2.1)
      (case side3 => exact zc (Kd.R_reads' HO326.out).2.2)
      (case side4 => exact (Kd.R_reads' HO326.out).2.1)
      rintro e w31 ⟨rfl, hb⟩
      refine ⟨_, rfl, ?_⟩
      replace HO315 := Aside0.mk (Kd.R_below (zr HO315) hb)
      replace HO321 := Aside0.mk (Kd.R_below (zr HO321) hb)
      replace HO326 := Aside0.mk (Kd.R_below (zr HO326) hb)
      replace BK318 := Aside0.mk (blk_below (g := gb318) (o := .cells #[.slice Ao8 t313.length co8, .int .i64 t316] 25 (0, 0)) (zk BK318) hb)
      replace BK323 := Aside0.mk (blk_below (g := gb323) (o := .cells #[.slice Ao12 t319.length co12, .int .i64 t322] 25 (0, 0)) (zk BK323) hb)
      replace HB := Aside0.mk (below_step (zb HB) hb)
      (try clear hb)
      refine hK.out _ _ ⟨(blk_cell BK323.out 0).trans rfl, (blk_cell BK323.out 1).trans rfl, (blk_cell BK318.out 0).trans rfl, (blk_cell BK318.out 1).trans rfl⟩ (fun hHeld => ?_)
      clear hK K
      refine nm ?_
      refine pu 5 (some 23) (bm 19 63) rfl rfl ?_
      refine pu 6 (some 24) (bm 19 127) rfl rfl ?_
      refine tk4 7 (some 25) (bm 19 255) rfl rfl hHeld ?_
      refine one_ (i := 8) (N := some 26) (bm 19 511) rfl rfl (one_of HT_.out (by kernel_rfl)) (by decide) (fun K hK => ?_)
      refine gs Try.func19 #[.agg #[.slice Ao8 t313.length co8, .int .i64 t316]] ?_
      with_reducible refine (spec_TableOk.calls k _ _ t313 t316 true _ ?side1 ?side2 A18.out).mono ?_
      (case side1 => exact zc (Kd.R_reads' HO315.out).2.2)
      (case side2 => exact (Kd.R_reads' HO315.out).2.1)
      rintro e w32 ⟨rfl, hb⟩
      refine ⟨_, rfl, ?_⟩
      replace HO315 := Aside0.mk (Kd.R_below (zr HO315) hb)
      replace HO321 := Aside0.mk (Kd.R_below (zr HO321) hb)
      replace HO326 := Aside0.mk (Kd.R_below (zr HO326) hb)
      replace BK318 := Aside0.mk (blk_below (g := gb318) (o := .cells #[.slice Ao8 t313.length co8, .int .i64 t316] 25 (0, 0)) (zk BK318) hb)
      replace BK323 := Aside0.mk (blk_below (g := gb323) (o := .cells #[.slice Ao12 t319.length co12, .int .i64 t322] 25 (0, 0)) (zk BK323) hb)
      replace HB := Aside0.mk (below_step (zb HB) hb)
      (try clear hb)
      refine hK.out _ _ ⟨(blk_cell BK323.out 0).trans rfl, (blk_cell BK323.out 1).trans rfl, (blk_cell BK318.out 0).trans rfl, (blk_cell BK318.out 1).trans rfl⟩ (fun hHeld => ?_)
      clear hK K
      refine nm ?_
      refine pu 9 (some 27) (bm 19 1023) rfl rfl ?_
      refine pu 10 (some 28) (bm 19 2047) rfl rfl ?_
      refine pu 11 (some 29) (bm 19 4095) rfl rfl ?_
      refine pu 12 (some 30) (bm 19 8191) rfl rfl ?_
      refine pu 13 (some 31) (bm 19 16383) rfl rfl ?_
      refine pu 14 (some 32) (bm 19 32767) rfl rfl ?_
      refine pu 15 (some 33) (bm 19 65535) rfl rfl ?_
      refine pu 16 (some 34) (bm 19 131071) rfl rfl ?_
      refine pu 17 (some 35) (bm 19 262143) rfl rfl ?_
      refine pu 18 (some 36) (bm 19 524287) rfl rfl ?_
      refine done_ (done_of HT_.out (by kernel_rfl)) ?_
      try go_wp2
      go_meet
      case rel => exact ⟨_, (decide (t317 > 64)), zs, H', ⟨by first | omega | exact Nat.le_refl _⟩, ⟨by (with_reducible repeat (first | apply Kd.R_alloc | apply Kd.R_drewN | apply Kd.R_drew)); exact Kd.R_mono HO315.out (fun _ hk => hk.1)⟩, ⟨by (with_reducible repeat (first | apply Kd.R_alloc | apply Kd.R_drewN | apply Kd.R_drew)); exact Kd.R_mono HO321.out (fun _ hk => hk.1)⟩, ⟨by exact zk BK318⟩, ⟨by exact zk BK323⟩, ⟨zb HB⟩⟩
    ·replace c19 := Bool.eq_false_iff.mpr c19
     subst c19
     have H1 : (laws_FnTableLimit.j0 k t317 true t313 t316 t319 t322) = some r := by rw [if_neg (show ¬ (false = true) by decide)] at H; exact H
     clear H
     have H := H1
     clear H1
     have H' := Aside0.mk H
     clear H
     try go_wp2
     have n0_ : Aside0 (Kd.R k36 36 ((w11.setCell ⟨gb323, 0, none⟩ (.slice Ao12 t319.length co12)).setCell ⟨gb323, 1, none⟩ (.int .i64 t322)) w.heap.size (fun k_ => some k_ ≠ (.slice Ao12 t319.length co12 : Value).ownBlock) (.slice Ao8 t313.length co8) t313) := ⟨by (with_reducible repeat (first | apply Kd.R_alloc | apply Kd.R_drewN | apply Kd.R_drew)); exact Kd.R_mono (Kd.R_far (p := ⟨gb323, 1, none⟩) (Kd.R_far (p := ⟨gb323, 0, none⟩) (Kd.R_types HO315.out BK323.out (by decide)) (fun _ hk => hk.2) (.slice Ao12 t319.length co12)) (fun _ hk => hk.2) (.int .i64 t322)) (fun _ hk => hk.1.2)⟩
     have n1_ : Aside0 (Kd.R k36 36 ((w11.setCell ⟨gb323, 0, none⟩ (.slice Ao12 t319.length co12)).setCell ⟨gb323, 1, none⟩ (.int .i64 t322)) w.heap.size (fun k_ => some k_ ≠ (.slice Ao8 t313.length co8 : Value).ownBlock) (.slice Ao12 t319.length co12) t319) := ⟨by (with_reducible repeat (first | apply Kd.R_alloc | apply Kd.R_drewN | apply Kd.R_drew)); exact Kd.R_mono (Kd.R_far (p := ⟨gb323, 1, none⟩) (Kd.R_far (p := ⟨gb323, 0, none⟩) (Kd.R_types HO321.out BK323.out (by decide)) (fun _ hk => hk.2) (.slice Ao12 t319.length co12)) (fun _ hk => hk.2) (.int .i64 t322)) (fun _ hk => hk.1.2)⟩
     have n2_ : Aside0 (((w11.setCell ⟨gb323, 0, none⟩ (.slice Ao12 t319.length co12)).setCell ⟨gb323, 1, none⟩ (.int .i64 t322)).heap[gb318]? = some (.cells #[.slice Ao8 t313.length co8, .int .i64 t316] 25 (0, 0))) := ⟨by (with_reducible repeat (first | refine blk_drewN ?_ _ | refine blk_drew ?_ | refine blk_alloc ?_ _)); refine blk_far ?_ NB318_323.out _; (with_reducible repeat (first | refine blk_drewN ?_ _ | refine blk_drew ?_ | refine blk_alloc ?_ _)); refine blk_far ?_ NB318_323.out _; exact zk BK318⟩
     have n3_ : Aside0 (((w11.setCell ⟨gb323, 0, none⟩ (.slice Ao12 t319.length co12)).setCell ⟨gb323, 1, none⟩ (.int .i64 t322)).heap[gb323]? = some (.cells #[.slice Ao12 t319.length co12, .int .i64 t322] 25 (0, 0))) := ⟨by (with_reducible repeat (first | refine blk_drewN ?_ _ | refine blk_drew ?_ | refine blk_alloc ?_ _)); refine blk_put (cs := #[.slice Ao12 t319.length co12, .int .i64 0]) ?_ 1 _ rfl; (with_reducible repeat (first | refine blk_drewN ?_ _ | refine blk_drew ?_ | refine blk_alloc ?_ _)); refine blk_put (cs := #[.slice none 0 0, .int .i64 0]) ?_ 0 _ rfl; exact zk BK323⟩
     have n4_ : Aside0 (Below w.heap.size w ((w11.setCell ⟨gb323, 0, none⟩ (.slice Ao12 t319.length co12)).setCell ⟨gb323, 1, none⟩ (.int .i64 t322))) := ⟨zb HB⟩
     (try clear HO315)
     (try clear HO321)
     (try clear BK318)
     (try clear BK323)
     (try clear HB)
     generalize ((w11.setCell ⟨gb323, 0, none⟩ (.slice Ao12 t319.length co12)).setCell ⟨gb323, 1, none⟩ (.int .i64 t322)) = w33 at n0_ n1_ n2_ n3_ n4_ ⊢
     have HO315 := n0_
     have HO321 := n1_
     have BK318 := n2_
     have BK323 := n3_
     have HB := n4_
     clear n0_ n1_ n2_ n3_ n4_
     replace HO315 := Aside0.mk (Kd.R_drew HO315.out)
     replace HO321 := Aside0.mk (Kd.R_drew HO321.out)
     replace BK318 := Aside0.mk (blk_drew BK318.out)
     replace BK323 := Aside0.mk (blk_drew BK323.out)
     replace HB := Aside0.mk (below_drew1 HB.out)
     refine start_ (n := 19) (S := fun w' => w'.cell? ⟨gb323, 0, none⟩ = some (.slice Ao12 t319.length co12) ∧ w'.cell? ⟨gb323, 1, none⟩ = some (.int .i64 t322) ∧ w'.cell? ⟨gb318, 0, none⟩ = some (.slice Ao8 t313.length co8) ∧ w'.cell? ⟨gb318, 1, none⟩ = some (.int .i64 t316)) (ds := []) #[false, false, false, false, false, false, false, false, false, false, false, false, false, false, false, false, false, false, false] (by kernel_rfl) rfl rfl ⟨(blk_cell BK323.out 0).trans rfl, (blk_cell BK323.out 1).trans rfl, (blk_cell BK318.out 0).trans rfl, (blk_cell BK318.out 1).trans rfl⟩ (fun hHeld => ?_); refine with_tabW laws_FnTableLimit.tab5 laws_FnTableLimit.bits5 (fun HT_ HW_ => ?_)
     generalize w33.drew = w34 at HO315 HO321 BK318 BK323 HB hHeld ⊢
     refine pu 2 (some 20) (bm 19 4) rfl rfl ?_
     refine tk4 0 (some 18) (bm 19 5) rfl rfl hHeld ?_
     refine tk4 1 (some 19) (bm 19 7) rfl rfl hHeld ?_
     refine one_ (i := 3) (N := some 21) (bm 19 15) rfl rfl (one_of HT_.out (by kernel_rfl)) (by decide) (fun K hK => ?_)
     refine gs Try.func18 #[.agg #[.slice Ao8 t313.length co8, .int .i64 t316], .int .i64 t317] ?_
     with_reducible refine (spec_TableLimit.calls k _ _ t313 t316 t317 t324 t327 _ ?side1 ?side2 A15.out).mono ?_
     (case side1 => exact zc (Kd.R_reads' HO315.out).2.2)
     (case side2 => exact (Kd.R_reads' HO315.out).2.1)
     rintro e w35 ⟨v325, rfl, ho0, hb⟩
     refine ⟨_, rfl, ?_⟩
     have HO326 := Aside0.mk (Kd.R_lower (Kd.R_new' (Kd.R_new' ho0 (Kd.R_lt (zr HO315))) (Kd.R_lt (zr HO321))) (below_size (zb HB)))
     replace HO315 := Aside0.mk (Kd.R_elder' (zr HO315) (Kd.R_base ho0) hb)
     replace HO321 := Aside0.mk (Kd.R_elder' (zr HO321) (Kd.R_base ho0) hb)
     replace BK318 := Aside0.mk (blk_below (g := gb318) (o := .cells #[.slice Ao8 t313.length co8, .int .i64 t316] 25 (0, 0)) (zk BK318) hb)
     replace BK323 := Aside0.mk (blk_below (g := gb323) (o := .cells #[.slice Ao12 t319.length co12, .int .i64 t322] 25 (0, 0)) (zk BK323) hb)
     replace HB := Aside0.mk (below_step (zb HB) hb)
     (try clear hb)
     (try clear ho0)
     obtain ⟨Ao36, co36, eo36⟩ := Kd.R_slice HO326.out
     (first | subst eo36 | (injection eo36 with f1_ f2_ f3_; have f4_ := f1_.symm; have f5_ := f3_.symm; clear f1_ f2_ f3_; subst f4_; subst f5_))
     refine hK.out _ _ ⟨(blk_cell BK323.out 0).trans rfl, (blk_cell BK323.out 1).trans rfl, (blk_cell BK318.out 0).trans rfl, (blk_cell BK318.out 1).trans rfl⟩ (fun hHeld => ?_)
     clear hK K
     refine nm ?_
     refine one_ (i := 4) (N := some 22) (bm 19 31) rfl rfl (one_of HT_.out (by kernel_rfl)) (by decide) (fun K hK => ?_)
     refine gs Try.func17 #[.agg #[.slice Ao12 t319.length co12, .int .i64 t322], .agg #[.slice Ao36 t324.length co36, .int .i64 t327]] ?_
     with_reducible refine (laws_lkTable.calls k _ _ t319 t322 _ _ t324 t327 true _ ?side1 ?side2 ?side3 ?side4 A16.out).mono ?_
     (case side1 => exact zc (Kd.R_reads' HO321.out).2.2)
     (case side2 => exact (Kd.R_reads' HO321.out).2.1)
     (case side3 => exact zc (Kd.R_reads' HO326.out).2.2)
     (case side4 => exact (Kd.R_reads' HO326.out).2.1)
     rintro e w37 ⟨rfl, hb⟩
     refine ⟨_, rfl, ?_⟩
     replace HO315 := Aside0.mk (Kd.R_below (zr HO315) hb)
     replace HO321 := Aside0.mk (Kd.R_below (zr HO321) hb)
     replace HO326 := Aside0.mk (Kd.R_below (zr HO326) hb)
     replace BK318 := Aside0.mk (blk_below (g := gb318) (o := .cells #[.slice Ao8 t313.length co8, .int .i64 t316] 25 (0, 0)) (zk BK318) hb)
     replace BK323 := Aside0.mk (blk_below (g := gb323) (o := .cells #[.slice Ao12 t319.length co12, .int .i64 t322] 25 (0, 0)) (zk BK323) hb)
     replace HB := Aside0.mk (below_step (zb HB) hb)
     (try clear hb)
     refine hK.out _ _ ⟨(blk_cell BK323.out 0).trans rfl, (blk_cell BK323.out 1).trans rfl, (blk_cell BK318.out 0).trans rfl, (blk_cell BK318.out 1).trans rfl⟩ (fun hHeld => ?_)
     clear hK K
     refine nm ?_
     refine pu 5 (some 23) (bm 19 63) rfl rfl ?_
     refine pu 6 (some 24) (bm 19 127) rfl rfl ?_
     refine tk4 7 (some 25) (bm 19 255) rfl rfl hHeld ?_
     refine one_ (i := 8) (N := some 26) (bm 19 511) rfl rfl (one_of HT_.out (by kernel_rfl)) (by decide) (fun K hK => ?_)
     refine gs Try.func19 #[.agg #[.slice Ao8 t313.length co8, .int .i64 t316]] ?_
     with_reducible refine (spec_TableOk.calls k _ _ t313 t316 false _ ?side1 ?side2 A18.out).mono ?_
     (case side1 => exact zc (Kd.R_reads' HO315.out).2.2)
     (case side2 => exact (Kd.R_reads' HO315.out).2.1)
     rintro e w38 ⟨rfl, hb⟩
     refine ⟨_, rfl, ?_⟩
     replace HO315 := Aside0.mk (Kd.R_below (zr HO315) hb)
     replace HO321 := Aside0.mk (Kd.R_below (zr HO321) hb)
     replace HO326 := Aside0.mk (Kd.R_below (zr HO326) hb)
     replace BK318 := Aside0.mk (blk_below (g := gb318) (o := .cells #[.slice Ao8 t313.length co8, .int .i64 t316] 25 (0, 0)) (zk BK318) hb)
     replace BK323 := Aside0.mk (blk_below (g := gb323) (o := .cells #[.slice Ao12 t319.length co12, .int .i64 t322] 25 (0, 0)) (zk BK323) hb)
     replace HB := Aside0.mk (below_step (zb HB) hb)
     (try clear hb)
     refine hK.out _ _ ⟨(blk_cell BK323.out 0).trans rfl, (blk_cell BK323.out 1).trans rfl, (blk_cell BK318.out 0).trans rfl, (blk_cell BK318.out 1).trans rfl⟩ (fun hHeld => ?_)
     clear hK K
     refine nm ?_
     refine pu 9 (some 27) (bm 19 1023) rfl rfl ?_
     refine pu 10 (some 28) (bm 19 2047) rfl rfl ?_
     refine pu 11 (some 29) (bm 19 4095) rfl rfl ?_
     refine pv 12 (some 30) (bm 19 8191) rfl rfl ?_
     refine pv 13 (some 31) (bm 19 16383) rfl rfl ?_
     refine pu 14 (some 32) (bm 19 32767) rfl rfl ?_
     refine pu 15 (some 33) (bm 19 65535) rfl rfl ?_
     refine pv 16 (some 34) (bm 19 131071) rfl rfl ?_
     refine pv 17 (some 35) (bm 19 262143) rfl rfl ?_
     refine pu 18 (some 36) (bm 19 524287) rfl rfl ?_
     refine done_ (done_of HT_.out (by kernel_rfl)) ?_
     try go_wp2
     go_meet
     case rel => exact ⟨_, (true), zs, H', ⟨by first | omega | exact Nat.le_refl _⟩, ⟨by (with_reducible repeat (first | apply Kd.R_alloc | apply Kd.R_drewN | apply Kd.R_drew)); exact Kd.R_mono HO315.out (fun _ hk => hk.1)⟩, ⟨by (with_reducible repeat (first | apply Kd.R_alloc | apply Kd.R_drewN | apply Kd.R_drew)); exact Kd.R_mono HO321.out (fun _ hk => hk.1)⟩, ⟨by exact zk BK318⟩, ⟨by exact zk BK323⟩, ⟨zb HB⟩⟩
   ·replace c17 := Bool.eq_false_iff.mpr c17
    subst c17
    have H1 : (laws_FnTableLimit.j0 k t317 true t313 t316 t319 t322) = some r := by rw [if_neg (show ¬ (false = true) by decide)] at H; exact H
    clear H
    have H := H1
    clear H1
    have H' := Aside0.mk H
    clear H
    try go_wp2
    have n0_ : Aside0 (Kd.R k36 36 ((w11.setCell ⟨gb323, 0, none⟩ (.slice Ao12 t319.length co12)).setCell ⟨gb323, 1, none⟩ (.int .i64 t322)) w.heap.size (fun k_ => some k_ ≠ (.slice Ao12 t319.length co12 : Value).ownBlock) (.slice Ao8 t313.length co8) t313) := ⟨by (with_reducible repeat (first | apply Kd.R_alloc | apply Kd.R_drewN | apply Kd.R_drew)); exact Kd.R_mono (Kd.R_far (p := ⟨gb323, 1, none⟩) (Kd.R_far (p := ⟨gb323, 0, none⟩) (Kd.R_types HO315.out BK323.out (by decide)) (fun _ hk => hk.2) (.slice Ao12 t319.length co12)) (fun _ hk => hk.2) (.int .i64 t322)) (fun _ hk => hk.1.2)⟩
    have n1_ : Aside0 (Kd.R k36 36 ((w11.setCell ⟨gb323, 0, none⟩ (.slice Ao12 t319.length co12)).setCell ⟨gb323, 1, none⟩ (.int .i64 t322)) w.heap.size (fun k_ => some k_ ≠ (.slice Ao8 t313.length co8 : Value).ownBlock) (.slice Ao12 t319.length co12) t319) := ⟨by (with_reducible repeat (first | apply Kd.R_alloc | apply Kd.R_drewN | apply Kd.R_drew)); exact Kd.R_mono (Kd.R_far (p := ⟨gb323, 1, none⟩) (Kd.R_far (p := ⟨gb323, 0, none⟩) (Kd.R_types HO321.out BK323.out (by decide)) (fun _ hk => hk.2) (.slice Ao12 t319.length co12)) (fun _ hk => hk.2) (.int .i64 t322)) (fun _ hk => hk.1.2)⟩
    have n2_ : Aside0 (((w11.setCell ⟨gb323, 0, none⟩ (.slice Ao12 t319.length co12)).setCell ⟨gb323, 1, none⟩ (.int .i64 t322)).heap[gb318]? = some (.cells #[.slice Ao8 t313.length co8, .int .i64 t316] 25 (0, 0))) := ⟨by (with_reducible repeat (first | refine blk_drewN ?_ _ | refine blk_drew ?_ | refine blk_alloc ?_ _)); refine blk_far ?_ NB318_323.out _; (with_reducible repeat (first | refine blk_drewN ?_ _ | refine blk_drew ?_ | refine blk_alloc ?_ _)); refine blk_far ?_ NB318_323.out _; exact zk BK318⟩
    have n3_ : Aside0 (((w11.setCell ⟨gb323, 0, none⟩ (.slice Ao12 t319.length co12)).setCell ⟨gb323, 1, none⟩ (.int .i64 t322)).heap[gb323]? = some (.cells #[.slice Ao12 t319.length co12, .int .i64 t322] 25 (0, 0))) := ⟨by (with_reducible repeat (first | refine blk_drewN ?_ _ | refine blk_drew ?_ | refine blk_alloc ?_ _)); refine blk_put (cs := #[.slice Ao12 t319.length co12, .int .i64 0]) ?_ 1 _ rfl; (with_reducible repeat (first | refine blk_drewN ?_ _ | refine blk_drew ?_ | refine blk_alloc ?_ _)); refine blk_put (cs := #[.slice none 0 0, .int .i64 0]) ?_ 0 _ rfl; exact zk BK323⟩
    have n4_ : Aside0 (Below w.heap.size w ((w11.setCell ⟨gb323, 0, none⟩ (.slice Ao12 t319.length co12)).setCell ⟨gb323, 1, none⟩ (.int .i64 t322))) := ⟨zb HB⟩
    (try clear HO315)
    (try clear HO321)
    (try clear BK318)
    (try clear BK323)
    (try clear HB)
    generalize ((w11.setCell ⟨gb323, 0, none⟩ (.slice Ao12 t319.length co12)).setCell ⟨gb323, 1, none⟩ (.int .i64 t322)) = w39 at n0_ n1_ n2_ n3_ n4_ ⊢
    have HO315 := n0_
    have HO321 := n1_
    have BK318 := n2_
    have BK323 := n3_
    have HB := n4_
    clear n0_ n1_ n2_ n3_ n4_
    replace HO315 := Aside0.mk (Kd.R_drew HO315.out)
    replace HO321 := Aside0.mk (Kd.R_drew HO321.out)
    replace BK318 := Aside0.mk (blk_drew BK318.out)
    replace BK323 := Aside0.mk (blk_drew BK323.out)
    replace HB := Aside0.mk (below_drew1 HB.out)
    refine start_ (n := 19) (S := fun w' => w'.cell? ⟨gb323, 0, none⟩ = some (.slice Ao12 t319.length co12) ∧ w'.cell? ⟨gb323, 1, none⟩ = some (.int .i64 t322) ∧ w'.cell? ⟨gb318, 0, none⟩ = some (.slice Ao8 t313.length co8) ∧ w'.cell? ⟨gb318, 1, none⟩ = some (.int .i64 t316)) (ds := []) #[false, false, false, false, false, false, false, false, false, false, false, false, false, false, false, false, false, false, false] (by kernel_rfl) rfl rfl ⟨(blk_cell BK323.out 0).trans rfl, (blk_cell BK323.out 1).trans rfl, (blk_cell BK318.out 0).trans rfl, (blk_cell BK318.out 1).trans rfl⟩ (fun hHeld => ?_); refine with_tabW laws_FnTableLimit.tab5 laws_FnTableLimit.bits5 (fun HT_ HW_ => ?_)
    generalize w39.drew = w40 at HO315 HO321 BK318 BK323 HB hHeld ⊢
    refine pu 2 (some 20) (bm 19 4) rfl rfl ?_
    refine tk4 0 (some 18) (bm 19 5) rfl rfl hHeld ?_
    refine tk4 1 (some 19) (bm 19 7) rfl rfl hHeld ?_
    refine one_ (i := 3) (N := some 21) (bm 19 15) rfl rfl (one_of HT_.out (by kernel_rfl)) (by decide) (fun K hK => ?_)
    refine gs Try.func18 #[.agg #[.slice Ao8 t313.length co8, .int .i64 t316], .int .i64 t317] ?_
    with_reducible refine (spec_TableLimit.calls k _ _ t313 t316 t317 t324 t327 _ ?side1 ?side2 A15.out).mono ?_
    (case side1 => exact zc (Kd.R_reads' HO315.out).2.2)
    (case side2 => exact (Kd.R_reads' HO315.out).2.1)
    rintro e w41 ⟨v325, rfl, ho0, hb⟩
    refine ⟨_, rfl, ?_⟩
    have HO326 := Aside0.mk (Kd.R_lower (Kd.R_new' (Kd.R_new' ho0 (Kd.R_lt (zr HO315))) (Kd.R_lt (zr HO321))) (below_size (zb HB)))
    replace HO315 := Aside0.mk (Kd.R_elder' (zr HO315) (Kd.R_base ho0) hb)
    replace HO321 := Aside0.mk (Kd.R_elder' (zr HO321) (Kd.R_base ho0) hb)
    replace BK318 := Aside0.mk (blk_below (g := gb318) (o := .cells #[.slice Ao8 t313.length co8, .int .i64 t316] 25 (0, 0)) (zk BK318) hb)
    replace BK323 := Aside0.mk (blk_below (g := gb323) (o := .cells #[.slice Ao12 t319.length co12, .int .i64 t322] 25 (0, 0)) (zk BK323) hb)
    replace HB := Aside0.mk (below_step (zb HB) hb)
    (try clear hb)
    (try clear ho0)
    obtain ⟨Ao42, co42, eo42⟩ := Kd.R_slice HO326.out
    (first | subst eo42 | (injection eo42 with f1_ f2_ f3_; have f4_ := f1_.symm; have f5_ := f3_.symm; clear f1_ f2_ f3_; subst f4_; subst f5_))
    refine hK.out _ _ ⟨(blk_cell BK323.out 0).trans rfl, (blk_cell BK323.out 1).trans rfl, (blk_cell BK318.out 0).trans rfl, (blk_cell BK318.out 1).trans rfl⟩ (fun hHeld => ?_)
    clear hK K
    refine nm ?_
    refine one_ (i := 4) (N := some 22) (bm 19 31) rfl rfl (one_of HT_.out (by kernel_rfl)) (by decide) (fun K hK => ?_)
    refine gs Try.func17 #[.agg #[.slice Ao12 t319.length co12, .int .i64 t322], .agg #[.slice Ao42 t324.length co42, .int .i64 t327]] ?_
    with_reducible refine (laws_lkTable.calls k _ _ t319 t322 _ _ t324 t327 false _ ?side1 ?side2 ?side3 ?side4 A16.out).mono ?_
    (case side1 => exact zc (Kd.R_reads' HO321.out).2.2)
    (case side2 => exact (Kd.R_reads' HO321.out).2.1)
    (case side3 => exact zc (Kd.R_reads' HO326.out).2.2)
    (case side4 => exact (Kd.R_reads' HO326.out).2.1)
    rintro e w43 ⟨rfl, hb⟩
    refine ⟨_, rfl, ?_⟩
    replace HO315 := Aside0.mk (Kd.R_below (zr HO315) hb)
    replace HO321 := Aside0.mk (Kd.R_below (zr HO321) hb)
    replace HO326 := Aside0.mk (Kd.R_below (zr HO326) hb)
    replace BK318 := Aside0.mk (blk_below (g := gb318) (o := .cells #[.slice Ao8 t313.length co8, .int .i64 t316] 25 (0, 0)) (zk BK318) hb)
    replace BK323 := Aside0.mk (blk_below (g := gb323) (o := .cells #[.slice Ao12 t319.length co12, .int .i64 t322] 25 (0, 0)) (zk BK323) hb)
    replace HB := Aside0.mk (below_step (zb HB) hb)
    (try clear hb)
    refine hK.out _ _ ⟨(blk_cell BK323.out 0).trans rfl, (blk_cell BK323.out 1).trans rfl, (blk_cell BK318.out 0).trans rfl, (blk_cell BK318.out 1).trans rfl⟩ (fun hHeld => ?_)
    clear hK K
    refine nm ?_
    refine pu 5 (some 23) (bm 19 63) rfl rfl ?_
    refine pu 6 (some 24) (bm 19 127) rfl rfl ?_
    refine pv 7 (some 25) (bm 19 255) rfl rfl ?_
    refine pv 8 (some 26) (bm 19 511) rfl rfl ?_
    refine pv 9 (some 27) (bm 19 1023) rfl rfl ?_
    refine pu 10 (some 28) (bm 19 2047) rfl rfl ?_
    refine pu 11 (some 29) (bm 19 4095) rfl rfl ?_
    refine pv 12 (some 30) (bm 19 8191) rfl rfl ?_
    refine pv 13 (some 31) (bm 19 16383) rfl rfl ?_
    refine pu 14 (some 32) (bm 19 32767) rfl rfl ?_
    refine pu 15 (some 33) (bm 19 65535) rfl rfl ?_
    refine pv 16 (some 34) (bm 19 131071) rfl rfl ?_
    refine pv 17 (some 35) (bm 19 262143) rfl rfl ?_
    refine pu 18 (some 36) (bm 19 524287) rfl rfl ?_
    refine done_ (done_of HT_.out (by kernel_rfl)) ?_
    try go_wp2
    go_meet
    case rel => exact ⟨_, (true), zs, H', ⟨by first | omega | exact Nat.le_refl _⟩, ⟨by (with_reducible repeat (first | apply Kd.R_alloc | apply Kd.R_drewN | apply Kd.R_drew)); exact Kd.R_mono HO315.out (fun _ hk => hk.1)⟩, ⟨by (with_reducible repeat (first | apply Kd.R_alloc | apply Kd.R_drewN | apply Kd.R_drew)); exact Kd.R_mono HO321.out (fun _ hk => hk.1)⟩, ⟨by exact zk BK318⟩, ⟨by exact zk BK323⟩, ⟨zb HB⟩⟩
  case rest =>
   clear HC5
   try clear c1
   try clear p2
   try clear c17
   try clear c18
   try clear c19
   obtain ⟨kq, x36_4, rfl, HA, HJ4, HO_319000, HO_324000, BK318, BK323, HB⟩ := hcut
   cases kq with
   | zero => exact absurd HA.out (by simp [laws_FnTableLimit.j0])
   | succ kj4 =>
    have H := HA.out
    clear HA
    simp only [laws_FnTableLimit.j0] at H
    by_cases c44 : x36_4 = true
    ·subst c44
     have H1 : ((spec_TableLimit.f kj4 t313 t316 t317).bind fun bt330 => ((laws_lkTable.f kj4 t319 t322 bt330.1 bt330.2).bind fun t334 => (some t334))) = some r := by rw [if_pos rfl] at H; exact H
     clear H
     have H := H1
     clear H1
     replace H := Option.bind_eq_some_iff.mp H
     obtain ⟨⟨t330, t333⟩, A450, H⟩ := H
     replace H : ((laws_lkTable.f kj4 t319 t322 t330 t333).bind fun t334 => (some t334)) = some r := H
     have A45 := Aside0.mk A450
     clear A450
     replace H := Option.bind_eq_some_iff.mp H
     obtain ⟨t334, A460, H⟩ := H
     replace H : (some t334) = some r := H
     have A46 := Aside0.mk A460
     clear A460
     obtain rfl := Option.some.inj H
     try go_wp2
     replace HO_319000 := Aside0.mk (Kd.R_drew HO_319000.out)
     replace HO_324000 := Aside0.mk (Kd.R_drew HO_324000.out)
     replace BK318 := Aside0.mk (blk_drew BK318.out)
     replace BK323 := Aside0.mk (blk_drew BK323.out)
     replace HB := Aside0.mk (below_drew1 HB.out)
     refine start_ (n := 6) (S := fun w' => w'.cell? ⟨gb323, 0, none⟩ = some (.slice Ao12 t319.length co12) ∧ w'.cell? ⟨gb323, 1, none⟩ = some (.int .i64 t322) ∧ w'.cell? ⟨gb318, 0, none⟩ = some (.slice Ao8 t313.length co8) ∧ w'.cell? ⟨gb318, 1, none⟩ = some (.int .i64 t316)) (ds := []) #[false, false, false, false, false, false] (by kernel_rfl) rfl rfl ⟨(blk_cell BK323.out 0).trans rfl, (blk_cell BK323.out 1).trans rfl, (blk_cell BK318.out 0).trans rfl, (blk_cell BK318.out 1).trans rfl⟩ (fun hHeld => ?_)
     generalize wc.drew = w47 at HO_319000 HO_324000 BK318 BK323 HB hHeld ⊢
     refine pu 2 (some 39) (bm 6 4) rfl rfl ?_
     refine tk4 0 (some 37) (bm 6 5) rfl rfl hHeld ?_
     refine tk4 1 (some 38) (bm 6 7) rfl rfl hHeld ?_
     refine one_ (i := 3) (N := some 40) (bm 6 15) rfl rfl (by kernel_rfl) (by decide) (fun K hK => ?_)
     refine gs Try.func18 #[.agg #[.slice Ao8 t313.length co8, .int .i64 t316], .int .i64 t317] ?_
     with_reducible refine (spec_TableLimit.calls kj4 _ _ t313 t316 t317 t330 t333 _ ?side1 ?side2 A45.out).mono ?_
     (case side1 => exact zc (Kd.R_reads' HO_319000.out).2.2)
     (case side2 => exact (Kd.R_reads' HO_319000.out).2.1)
     rintro e w48 ⟨v331, rfl, ho0, hb⟩
     refine ⟨_, rfl, ?_⟩
     have HO332 := Aside0.mk (Kd.R_lower (Kd.R_new' (Kd.R_new' ho0 (Kd.R_lt (zr HO_319000))) (Kd.R_lt (zr HO_324000))) (below_size (zb HB)))
     replace HO_319000 := Aside0.mk (Kd.R_elder' (zr HO_319000) (Kd.R_base ho0) hb)
     replace HO_324000 := Aside0.mk (Kd.R_elder' (zr HO_324000) (Kd.R_base ho0) hb)
     replace BK318 := Aside0.mk (blk_below (g := gb318) (o := .cells #[.slice Ao8 t313.length co8, .int .i64 t316] 25 (0, 0)) (zk BK318) hb)
     replace BK323 := Aside0.mk (blk_below (g := gb323) (o := .cells #[.slice Ao12 t319.length co12, .int .i64 t322] 25 (0, 0)) (zk BK323) hb)
     replace HB := Aside0.mk (below_step (zb HB) hb)
     (try clear hb)
     (try clear ho0)
     obtain ⟨Ao49, co49, eo49⟩ := Kd.R_slice HO332.out
     (first | subst eo49 | (injection eo49 with f1_ f2_ f3_; have f4_ := f1_.symm; have f5_ := f3_.symm; clear f1_ f2_ f3_; subst f4_; subst f5_))
     refine hK.out _ _ ⟨(blk_cell BK323.out 0).trans rfl, (blk_cell BK323.out 1).trans rfl, (blk_cell BK318.out 0).trans rfl, (blk_cell BK318.out 1).trans rfl⟩ (fun hHeld => ?_)
     clear hK K
     refine nm ?_
     refine one_ (i := 4) (N := some 41) (bm 6 31) rfl rfl (by kernel_rfl) (by decide) (fun K hK => ?_)
     refine gs Try.func17 #[.agg #[.slice Ao12 t319.length co12, .int .i64 t322], .agg #[.slice Ao49 t330.length co49, .int .i64 t333]] ?_
     with_reducible refine (laws_lkTable.calls kj4 _ _ t319 t322 _ _ t330 t333 t334 _ ?side1 ?side2 ?side3 ?side4 A46.out).mono ?_
     (case side1 => exact zc (Kd.R_reads' HO_324000.out).2.2)
     (case side2 => exact (Kd.R_reads' HO_324000.out).2.1)
     (case side3 => exact zc (Kd.R_reads' HO332.out).2.2)
     (case side4 => exact (Kd.R_reads' HO332.out).2.1)
     rintro e w50 ⟨rfl, hb⟩
     refine ⟨_, rfl, ?_⟩
     replace HO_319000 := Aside0.mk (Kd.R_below (zr HO_319000) hb)
     replace HO_324000 := Aside0.mk (Kd.R_below (zr HO_324000) hb)
     replace HO332 := Aside0.mk (Kd.R_below (zr HO332) hb)
     replace BK318 := Aside0.mk (blk_below (g := gb318) (o := .cells #[.slice Ao8 t313.length co8, .int .i64 t316] 25 (0, 0)) (zk BK318) hb)
     replace BK323 := Aside0.mk (blk_below (g := gb323) (o := .cells #[.slice Ao12 t319.length co12, .int .i64 t322] 25 (0, 0)) (zk BK323) hb)
     replace HB := Aside0.mk (below_step (zb HB) hb)
     (try clear hb)
     refine hK.out _ _ ⟨(blk_cell BK323.out 0).trans rfl, (blk_cell BK323.out 1).trans rfl, (blk_cell BK318.out 0).trans rfl, (blk_cell BK318.out 1).trans rfl⟩ (fun hHeld => ?_)
     clear hK K
     refine nm ?_
     refine pu 5 (some 2) (bm 6 63) rfl rfl ?_
     refine done_ (by kernel_rfl) ?_
     try go_wp2
     go_ret
     exact ⟨ze, zb HB⟩
    ·replace c44 := Bool.eq_false_iff.mpr c44
     subst c44
     have H1 : (if (t319.length : Int) > (t313.length : Int) then (laws_FnTableLimit.j1 kj4 t317 (t319.length : Int) true t313 t316 t319 t322) else (if 0 ≤ (t319.length : Int) then (if (t319.length : Int) ≤ (t313.length : Int) then ((laws_lkFields.f kj4 t319 (t313.take ((t319.length : Int) : Int).toNat)).bind fun t339 => (if t339 = true then (if t322 = t317 then ((impl_TableOk.f kj4 t319 t322).bind fun t340 => (if t340 = true then ((impl_TableLimit.f kj4 t319 t322 t317).bind fun bt341 => ((laws_lkTable.f kj4 bt341.1 bt341.2 t319 t322).bind fun t345 => (laws_FnTableLimit.j1 kj4 t317 (t319.length : Int) (!t345) t313 t316 t319 t322))) else (laws_FnTableLimit.j1 kj4 t317 (t319.length : Int) true t313 t316 t319 t322))) else (laws_FnTableLimit.j1 kj4 t317 (t319.length : Int) true t313 t316 t319 t322)) else (laws_FnTableLimit.j1 kj4 t317 (t319.length : Int) true t313 t316 t319 t322))) else (none)) else (none))) = some r := by rw [if_neg (show ¬ (false = true) by decide)] at H; exact H
     clear H
     have H := H1
     clear H1
     have HC51 := Aside0.mk H
     clear H
     have hnb52 := NB323_318.out
     have hnc52 := NB318_323.out
     have hcz53_0 : wc.cell? ⟨gb323, 0, none⟩ = some (.slice Ao12 t319.length co12) := (blk_cell BK323.out 0).trans rfl
     have hcz53_1 : wc.cell? ⟨gb323, 1, none⟩ = some (.int .i64 t322) := (blk_cell BK323.out 1).trans rfl
     have hfz53_0 := blk_frozen BK323.out 0
     have hfz53_1 := blk_frozen BK323.out 1
     go_upto_region 8 with (fail)
     go_cut [78] (fun v78 wc => ∃ (kq : Nat) (x78_50 : Bool), v78 = .bool x78_50 ∧ Aside0 (laws_FnTableLimit.j1 kq t317 (t319.length : Int) x78_50 t313 t316 t319 t322 = some r) ∧ Aside0 (kq ≤ kj4) ∧ Aside0 (Kd.R k36 36 wc w.heap.size (fun k_ => some k_ ≠ ((.slice Ao12 t319.length co12) : Value).ownBlock) (.slice Ao8 t313.length co8) t313) ∧ Aside0 (Kd.R k36 36 wc w.heap.size (fun k_ => some k_ ≠ ((.slice Ao8 t313.length co8) : Value).ownBlock) (.slice Ao12 t319.length co12) t319) ∧ Aside0 (wc.heap[gb318]? = some (.cells #[(.slice Ao8 t313.length co8), .int .i64 t316] 25 (0, 0))) ∧ Aside0 (wc.heap[gb323]? = some (.cells #[(.slice Ao12 t319.length co12), .int .i64 t322] 25 (0, 0))) ∧ Aside0 (Below w.heap.size w wc))
     case first =>
      have H := HC51.out
      clear HC51
      by_cases c54 : (t319.length : Int) > (t313.length : Int)
      ·rw [if_pos c54] at H
       have c54b0 : decide ((t313.length : Int) < (t319.length : Int)) = true := decide_eq_true c54
       have c54b1 : decide (t313.length < t319.length) = true := decide_eq_true (Int.ofNat_lt.mp c54)
       clear c54
       (first | rw [c54b0] | (simp only [i64_w, i32_w]; rw [c54b0]) | skip)
       have H' := Aside0.mk H
       clear H
       try go_wp2
       replace HO_319000 := Aside0.mk (Kd.R_drew HO_319000.out)
       replace HO_324000 := Aside0.mk (Kd.R_drew HO_324000.out)
       replace BK318 := Aside0.mk (blk_drew BK318.out)
       replace BK323 := Aside0.mk (blk_drew BK323.out)
       replace HB := Aside0.mk (below_drew1 HB.out)
       refine start_ (n := 34) (S := fun w' => w'.cell? ⟨gb318, 0, none⟩ = some (.slice Ao8 t313.length co8) ∧ w'.cell? ⟨gb318, 1, none⟩ = some (.int .i64 t316)) (ds := []) #[false, false, false, false, false, false, false, false, false, false, false, false, false, false, false, false, false, false, false, false, false, false, false, false, false, false, false, false, false, false, false, false, false, false] (by kernel_rfl) rfl rfl ⟨(blk_cell BK318.out 0).trans rfl, (blk_cell BK318.out 1).trans rfl⟩ (fun hHeld => ?_); refine with_tabW laws_FnTableLimit.tab8 laws_FnTableLimit.bits8 (fun HT_ HW_ => ?_)
       generalize wc.drew = w55 at HO_319000 HO_324000 BK318 BK323 HB hHeld ⊢
       refine pu 0 (some 45) (bm 34 1) rfl rfl ?_
       refine pu 1 (some 46) (bm 34 3) rfl rfl ?_
       refine tk2 2 (some 47) (bm 34 7) rfl rfl hHeld ?_
       refine pu 3 (some 48) (bm 34 15) rfl rfl ?_
       refine pu 4 (some 49) (bm 34 31) rfl rfl ?_
       refine pu 5 (some 50) (bm 34 63) rfl rfl ?_
       refine pv 6 (some 51) (bm 34 127) rfl rfl ?_
       refine pv 7 (some 52) (bm 34 255) rfl rfl ?_
       refine pv 8 (some 53) (bm 34 511) rfl rfl ?_
       refine pv 9 (some 54) (bm 34 1023) rfl rfl ?_
       refine pv 10 (some 55) (bm 34 2047) rfl rfl ?_
       refine pv 11 (some 56) (bm 34 4095) rfl rfl ?_
       refine pv 12 (some 57) (bm 34 8191) rfl rfl ?_
       refine pv 13 (some 58) (bm 34 16383) rfl rfl ?_
       refine pu 14 (some 59) (bm 34 32767) rfl rfl ?_
       refine pu 15 (some 60) (bm 34 65535) rfl rfl ?_
       refine pv 16 (some 61) (bm 34 131071) rfl rfl ?_
       refine pv 17 (some 62) (bm 34 262143) rfl rfl ?_
       refine pv 18 (some 63) (bm 34 524287) rfl rfl ?_
       refine pv 19 (some 64) (bm 34 1048575) rfl rfl ?_
       refine pu 20 (some 65) (bm 34 2097151) rfl rfl ?_
       refine pu 21 (some 66) (bm 34 4194303) rfl rfl ?_
       refine pv 22 (some 67) (bm 34 8388607) rfl rfl ?_
       refine pv 23 (some 68) (bm 34 16777215) rfl rfl ?_
       refine pv 24 (some 69) (bm 34 33554431) rfl rfl ?_
       refine pu 25 (some 70) (bm 34 67108863) rfl rfl ?_
       refine pu 26 (some 71) (bm 34 134217727) rfl rfl ?_
       refine pv 27 (some 72) (bm 34 268435455) rfl rfl ?_
       refine pv 28 (some 73) (bm 34 536870911) rfl rfl ?_
       refine pv 29 (some 74) (bm 34 1073741823) rfl rfl ?_
       refine pv 30 (some 75) (bm 34 2147483647) rfl rfl ?_
       refine pv 31 (some 76) (bm 34 4294967295) rfl rfl ?_
       refine pv 32 (some 77) (bm 34 8589934591) rfl rfl ?_
       refine pu 33 (some 78) (bm 34 17179869183) rfl rfl ?_
       refine done_ (done_of HT_.out (by kernel_rfl)) ?_
       try go_wp2
       go_meet
       case rel => exact ⟨_, (true), zs, H', ⟨by have := HJ4.out; first | omega | exact Nat.le_refl _⟩, ⟨by exact zr HO_319000⟩, ⟨by exact zr HO_324000⟩, ⟨by exact zk BK318⟩, ⟨by exact zk BK323⟩, ⟨zb HB⟩⟩
      ·rw [if_neg c54] at H
       have c54b0 : decide ((t313.length : Int) < (t319.length : Int)) = false := decide_eq_false c54
       have c54b1 : decide (t313.length < t319.length) = false := decide_eq_false (fun h => c54 (Int.ofNat_lt.mpr h))
       clear c54
       (first | rw [c54b0] | (simp only [i64_w, i32_w]; rw [c54b0]) | skip)
       by_cases c56 : 0 ≤ (t319.length : Int)
       ·rw [if_pos c56] at H
        have c56b0 := eq_true c56
        have c56b1 : decide (0 ≤ (t319.length : Int)) = true := decide_eq_true c56
        clear c56
        by_cases c57 : (t319.length : Int) ≤ (t313.length : Int)
        ·rw [if_pos c57] at H
         have c57b0 := eq_true c57
         have c57b1 : decide ((t319.length : Int) ≤ (t313.length : Int)) = true := decide_eq_true c57
         clear c57
         obtain ⟨y335, hy335⟩ : ∃ y_ : List (S36), y_ = (t313.take ((t319.length : Int) : Int).toNat) := ⟨_, rfl⟩
         replace H : ((laws_lkFields.f kj4 t319 y335).bind fun t339 => (if t339 = true then (if t322 = t317 then ((impl_TableOk.f kj4 t319 t322).bind fun t340 => (if t340 = true then ((impl_TableLimit.f kj4 t319 t322 t317).bind fun bt341 => ((laws_lkTable.f kj4 bt341.1 bt341.2 t319 t322).bind fun t345 => (laws_FnTableLimit.j1 kj4 t317 (t319.length : Int) (!t345) t313 t316 t319 t322))) else (laws_FnTableLimit.j1 kj4 t317 (t319.length : Int) true t313 t316 t319 t322))) else (laws_FnTableLimit.j1 kj4 t317 (t319.length : Int) true t313 t316 t319 t322)) else (laws_FnTableLimit.j1 kj4 t317 (t319.length : Int) true t313 t316 t319 t322))) = some r := by first | (rw [hy335]; with_reducible exact H) | (have H2_ := (Option.bind_some _ _).symm.trans H; rw [hy335]; with_reducible exact H2_) | (have H2_ := (Option.bind_some _ _).symm.trans H; with_reducible exact H2_) | with_reducible exact H | (rw [hy335]; exact H) | exact H
         have Ny335 := Aside0.mk hy335
         clear hy335
         replace H := Option.bind_eq_some_iff.mp H
         obtain ⟨t339, A580, H⟩ := H
         replace H : (if t339 = true then (if t322 = t317 then ((impl_TableOk.f kj4 t319 t322).bind fun t340 => (if t340 = true then ((impl_TableLimit.f kj4 t319 t322 t317).bind fun bt341 => ((laws_lkTable.f kj4 bt341.1 bt341.2 t319 t322).bind fun t345 => (laws_FnTableLimit.j1 kj4 t317 (t319.length : Int) (!t345) t313 t316 t319 t322))) else (laws_FnTableLimit.j1 kj4 t317 (t319.length : Int) true t313 t316 t319 t322))) else (laws_FnTableLimit.j1 kj4 t317 (t319.length : Int) true t313 t316 t319 t322)) else (laws_FnTableLimit.j1 kj4 t317 (t319.length : Int) true t313 t316 t319 t322)) = some r := H
         have A58 := Aside0.mk A580
         clear A580
         by_cases c59 : t339 = true
         ·subst c59
          have H1 : (if t322 = t317 then ((impl_TableOk.f kj4 t319 t322).bind fun t340 => (if t340 = true then ((impl_TableLimit.f kj4 t319 t322 t317).bind fun bt341 => ((laws_lkTable.f kj4 bt341.1 bt341.2 t319 t322).bind fun t345 => (laws_FnTableLimit.j1 kj4 t317 (t319.length : Int) (!t345) t313 t316 t319 t322))) else (laws_FnTableLimit.j1 kj4 t317 (t319.length : Int) true t313 t316 t319 t322))) else (laws_FnTableLimit.j1 kj4 t317 (t319.length : Int) true t313 t316 t319 t322)) = some r := by rw [if_pos rfl] at H; exact H
          clear H
          have H := H1
          clear H1
          by_cases c60 : t322 = t317
          ·rw [if_pos c60] at H
           have c60b0 : (t322 == t317) = true := beq_iff_eq.mpr c60
           have c60b1 : (t322 != t317) = false := bne_eq_false_iff_eq.mpr c60
           clear c60
           replace H := Option.bind_eq_some_iff.mp H
           obtain ⟨t340, A610, H⟩ := H
           replace H : (if t340 = true then ((impl_TableLimit.f kj4 t319 t322 t317).bind fun bt341 => ((laws_lkTable.f kj4 bt341.1 bt341.2 t319 t322).bind fun t345 => (laws_FnTableLimit.j1 kj4 t317 (t319.length : Int) (!t345) t313 t316 t319 t322))) else (laws_FnTableLimit.j1 kj4 t317 (t319.length : Int) true t313 t316 t319 t322)) = some r := H
           have A61 := Aside0.mk A610
           clear A610
           by_cases c62 : t340 = true
           ·subst c62
            have H1 : ((impl_TableLimit.f kj4 t319 t322 t317).bind fun bt341 => ((laws_lkTable.f kj4 bt341.1 bt341.2 t319 t322).bind fun t345 => (laws_FnTableLimit.j1 kj4 t317 (t319.length : Int) (!t345) t313 t316 t319 t322))) = some r := by rw [if_pos rfl] at H; exact H
            clear H
            have H := H1
            clear H1
            replace H := Option.bind_eq_some_iff.mp H
            obtain ⟨⟨t341, t344⟩, A630, H⟩ := H
            replace H : ((laws_lkTable.f kj4 t341 t344 t319 t322).bind fun t345 => (laws_FnTableLimit.j1 kj4 t317 (t319.length : Int) (!t345) t313 t316 t319 t322)) = some r := H
            have A63 := Aside0.mk A630
            clear A630
            replace H := Option.bind_eq_some_iff.mp H
            obtain ⟨t345, A640, H⟩ := H
            replace H : (laws_FnTableLimit.j1 kj4 t317 (t319.length : Int) (!t345) t313 t316 t319 t322) = some r := H
            have A64 := Aside0.mk A640
            clear A640
            have H' := Aside0.mk H
            clear H
            try go_wp2
            replace HO_319000 := Aside0.mk (Kd.R_drew HO_319000.out)
            replace HO_324000 := Aside0.mk (Kd.R_drew HO_324000.out)
            replace BK318 := Aside0.mk (blk_drew BK318.out)
            replace BK323 := Aside0.mk (blk_drew BK323.out)
            replace HB := Aside0.mk (below_drew1 HB.out)
            have q66 : ((t319.length : Int) : Int) ≤ ((t313.length : Int) : Int) := of_decide_eq_true za
            obtain ⟨i066, hi066, _, hsz66, _⟩ := info_parts info36
            have hroom66 : t313.length ≤ co8 := (Kd.R_reads' HO_319000.out).2.1
            have hC66 : Kd.C k36 _ Ao8 t313.length t313 := (Kd.R_reads' HO_319000.out).2.2
            have hcut66 := cut_to (P := Try.prog) 23 36 .i64 Try.underlying23 hi066 Ao8 t313.length co8 (t319.length : Int) (of_decide_eq_true za) q66 hroom66
            have hr66 := Kd.C_take (m := ((t319.length : Int) : Int).toNat) hC66 (by omega)
            have hy66 : y335.length = ((t319.length : Int) : Int).toNat := (by rw [Ny335.out, List.length_take]; omega)
            rw [← Ny335.out] at hr66
            rw [← hy66] at hcut66
            have HR338 := Aside0.mk hr66
            have HC338 := Aside0.mk (show y335.length ≤ co8 from by omega)
            clear hr66 hC66 hroom66 hi066 hsz66
            have KY66 := Aside0.mk hy66
            clear hy66
            have KL66 := Aside0.mk (show ((t319.length : Int) : Int).toNat ≤ t313.length from by omega)
            replace q66 := eq_true q66
            refine start_ (n := 34) (S := fun w' => w'.cell? ⟨gb318, 0, none⟩ = some (.slice Ao8 t313.length co8) ∧ w'.cell? ⟨gb318, 1, none⟩ = some (.int .i64 t316) ∧ w'.cell? ⟨gb323, 0, none⟩ = some (.slice Ao12 t319.length co12) ∧ w'.cell? ⟨gb323, 1, none⟩ = some (.int .i64 t322)) (ds := []) #[false, false, false, false, false, false, false, false, false, false, false, false, false, false, false, false, false, false, false, false, false, false, false, false, false, false, false, false, false, false, false, false, false, false] (by kernel_rfl) rfl rfl ⟨(blk_cell BK318.out 0).trans rfl, (blk_cell BK318.out 1).trans rfl, (blk_cell BK323.out 0).trans rfl, (blk_cell BK323.out 1).trans rfl⟩ (fun hHeld => ?_); refine with_tabW laws_FnTableLimit.tab8 laws_FnTableLimit.bits8 (fun HT_ HW_ => ?_)
            generalize wc.drew = w65 at HO_319000 HO_324000 BK318 BK323 HB HR338 hHeld ⊢
            refine pu 0 (some 45) (bm 34 1) rfl rfl ?_
            refine pu 1 (some 46) (bm 34 3) rfl rfl ?_
            refine tk4 2 (some 47) (bm 34 7) rfl rfl hHeld ?_
            refine pu 3 (some 48) (bm 34 15) rfl rfl ?_
            refine pu 4 (some 49) (bm 34 31) rfl rfl ?_
            refine pu 5 (some 50) (bm 34 63) rfl rfl ?_
            refine pu 6 (some 51) (bm 34 127) rfl rfl ?_
            refine pu 8 (some 53) (bm 34 383) rfl rfl ?_
            refine pu 10 (some 55) (bm 34 1407) rfl rfl ?_
            refine tk4 7 (some 52) (bm 34 1535) rfl rfl hHeld ?_
            refine tk4 9 (some 54) (bm 34 2047) rfl rfl hHeld ?_
            refine pu 11 (some 56) (bm 34 4095) rfl rfl ?_
            refine one_ (i := 12) (N := some 57) (bm 34 8191) rfl rfl (one_of HT_.out (by kernel_rfl)) (by decide) (fun K hK => ?_)
            refine gs Try.func20 #[.slice Ao12 t319.length co12, .slice Ao8 y335.length co8] ?_
            with_reducible refine (laws_lkFields.calls kj4 _ _ t319 _ _ y335 true _ ?side1 ?side2 ?side3 ?side4 A58.out).mono ?_
            (case side1 => exact zc (Kd.R_reads' HO_324000.out).2.2)
            (case side2 => exact (Kd.R_reads' HO_324000.out).2.1)
            (case side3 => exact zc HR338.out)
            (case side4 => exact HC338.out)
            rintro e w' ⟨rfl, ⟨nd, rfl⟩⟩
            refine ⟨_, rfl, ?_⟩
            refine hK.out _ _ ⟨(blk_cell BK318.out 0).trans rfl, (blk_cell BK318.out 1).trans rfl, (blk_cell BK323.out 0).trans rfl, (blk_cell BK323.out 1).trans rfl⟩ (fun hHeld => ?_)
            clear hK K
            refine nm ?_
            refine pu 13 (some 58) (bm 34 16383) rfl rfl ?_
            refine pu 14 (some 59) (bm 34 32767) rfl rfl ?_
            refine pu 15 (some 60) (bm 34 65535) rfl rfl ?_
            refine pu 16 (some 61) (bm 34 131071) rfl rfl ?_
            refine pu 18 (some 63) (bm 34 393215) rfl rfl ?_
            refine tk4 17 (some 62) (bm 34 524287) rfl rfl hHeld ?_
            refine pu 19 (some 64) (bm 34 1048575) rfl rfl ?_
            refine pu 20 (some 65) (bm 34 2097151) rfl rfl ?_
            refine pu 21 (some 66) (bm 34 4194303) rfl rfl ?_
            refine tk4 22 (some 67) (bm 34 8388607) rfl rfl hHeld ?_
            refine one_ (i := 23) (N := some 68) (bm 34 16777215) rfl rfl (one_of HT_.out (by kernel_rfl)) (by decide) (fun K hK => ?_)
            refine gs Try.func21 #[.agg #[.slice Ao12 t319.length co12, .int .i64 t322]] ?_
            with_reducible refine (impl_TableOk.calls kj4 _ _ t319 t322 true _ ?side1 ?side2 A61.out).mono ?_
            (case side1 => exact zc (Kd.R_reads' HO_324000.out).2.2)
            (case side2 => exact (Kd.R_reads' HO_324000.out).2.1)
            rintro e w67 ⟨rfl, hb⟩
            refine ⟨_, rfl, ?_⟩
            replace HO_319000 := Aside0.mk (Kd.R_below (zr HO_319000) hb)
            replace HO_324000 := Aside0.mk (Kd.R_below (zr HO_324000) hb)
            replace BK318 := Aside0.mk (blk_below (g := gb318) (o := .cells #[.slice Ao8 t313.length co8, .int .i64 t316] 25 (0, 0)) (zk BK318) hb)
            replace BK323 := Aside0.mk (blk_below (g := gb323) (o := .cells #[.slice Ao12 t319.length co12, .int .i64 t322] 25 (0, 0)) (zk BK323) hb)
            replace HR338 := Aside0.mk (Kd.C_below (zc HR338.out) hb)
            replace HB := Aside0.mk (below_step (zb HB) hb)
            (try clear hb)
            refine hK.out _ _ ⟨(blk_cell BK318.out 0).trans rfl, (blk_cell BK318.out 1).trans rfl, (blk_cell BK323.out 0).trans rfl, (blk_cell BK323.out 1).trans rfl⟩ (fun hHeld => ?_)
            clear hK K
            refine nm ?_
            refine pu 24 (some 69) (bm 34 33554431) rfl rfl ?_
            refine pu 25 (some 70) (bm 34 67108863) rfl rfl ?_
            refine pu 26 (some 71) (bm 34 134217727) rfl rfl ?_
            refine pu 28 (some 73) (bm 34 402653183) rfl rfl ?_
            refine tk4 27 (some 72) (bm 34 536870911) rfl rfl hHeld ?_
            refine tk4 30 (some 75) (bm 34 1610612735) rfl rfl hHeld ?_
            refine one_ (i := 29) (N := some 74) (bm 34 2147483647) rfl rfl (one_of HT_.out (by kernel_rfl)) (by decide) (fun K hK => ?_)
            refine gs Try.func16 #[.agg #[.slice Ao12 t319.length co12, .int .i64 t322], .int .i64 t317] ?_
            with_reducible refine (impl_TableLimit.calls kj4 _ _ t319 t322 t317 t341 t344 _ ?side1 ?side2 A63.out).mono ?_
            (case side1 => exact zc (Kd.R_reads' HO_324000.out).2.2)
            (case side2 => exact (Kd.R_reads' HO_324000.out).2.1)
            rintro e w68 ⟨v342, rfl, ho0, hb⟩
            refine ⟨_, rfl, ?_⟩
            have HO343 := Aside0.mk (Kd.R_lower (Kd.R_new' (Kd.R_new' ho0 (Kd.R_lt (zr HO_319000))) (Kd.R_lt (zr HO_324000))) (below_size (zb HB)))
            replace HO_319000 := Aside0.mk (Kd.R_elder' (zr HO_319000) (Kd.R_base ho0) hb)
            replace HO_324000 := Aside0.mk (Kd.R_elder' (zr HO_324000) (Kd.R_base ho0) hb)
            replace BK318 := Aside0.mk (blk_below (g := gb318) (o := .cells #[.slice Ao8 t313.length co8, .int .i64 t316] 25 (0, 0)) (zk BK318) hb)
            replace BK323 := Aside0.mk (blk_below (g := gb323) (o := .cells #[.slice Ao12 t319.length co12, .int .i64 t322] 25 (0, 0)) (zk BK323) hb)
            replace HR338 := Aside0.mk (Kd.C_below (zc HR338.out) hb)
            replace HB := Aside0.mk (below_step (zb HB) hb)
            (try clear hb)
            (try clear ho0)
            obtain ⟨Ao69, co69, eo69⟩ := Kd.R_slice HO343.out
            (first | subst eo69 | (injection eo69 with f1_ f2_ f3_; have f4_ := f1_.symm; have f5_ := f3_.symm; clear f1_ f2_ f3_; subst f4_; subst f5_))
            refine hK.out _ _ ⟨(blk_cell BK318.out 0).trans rfl, (blk_cell BK318.out 1).trans rfl, (blk_cell BK323.out 0).trans rfl, (blk_cell BK323.out 1).trans rfl⟩ (fun hHeld => ?_)
            clear hK K
            refine nm ?_
            refine one_ (i := 31) (N := some 76) (bm 34 4294967295) rfl rfl (one_of HT_.out (by kernel_rfl)) (by decide) (fun K hK => ?_)
            refine gs Try.func17 #[.agg #[.slice Ao69 t341.length co69, .int .i64 t344], .agg #[.slice Ao12 t319.length co12, .int .i64 t322]] ?_
            with_reducible refine (laws_lkTable.calls kj4 _ _ t341 t344 _ _ t319 t322 t345 _ ?side1 ?side2 ?side3 ?side4 A64.out).mono ?_
            (case side1 => exact zc (Kd.R_reads' HO343.out).2.2)
            (case side2 => exact (Kd.R_reads' HO343.out).2.1)
            (case side3 => exact zc (Kd.R_reads' HO_324000.out).2.2)
            (case side4 => exact (Kd.R_reads' HO_324000.out).2.1)
            rintro e w70 ⟨rfl, hb⟩
            refine ⟨_, rfl, ?_⟩
            replace HO_319000 := Aside0.mk (Kd.R_below (zr HO_319000) hb)
            replace HO_324000 := Aside0.mk (Kd.R_below (zr HO_324000) hb)
            replace HO343 := Aside0.mk (Kd.R_below (zr HO343) hb)
            replace BK318 := Aside0.mk (blk_below (g := gb318) (o := .cells #[.slice Ao8 t313.length co8, .int .i64 t316] 25 (0, 0)) (zk BK318) hb)
            replace BK323 := Aside0.mk (blk_below (g := gb323) (o := .cells #[.slice Ao12 t319.length co12, .int .i64 t322] 25 (0, 0)) (zk BK323) hb)
            replace HR338 := Aside0.mk (Kd.C_below (zc HR338.out) hb)
            replace HB := Aside0.mk (below_step (zb HB) hb)
            (try clear hb)
            refine hK.out _ _ ⟨(blk_cell BK318.out 0).trans rfl, (blk_cell BK318.out 1).trans rfl, (blk_cell BK323.out 0).trans rfl, (blk_cell BK323.out 1).trans rfl⟩ (fun hHeld => ?_)
            clear hK K
            refine nm ?_
            refine pu 32 (some 77) (bm 34 8589934591) rfl rfl ?_
            refine pu 33 (some 78) (bm 34 17179869183) rfl rfl ?_
            refine done_ (done_of HT_.out (by kernel_rfl)) ?_
            try go_wp2
            go_meet
            case rel => exact ⟨_, (!t345), zs, H', ⟨by have := HJ4.out; first | omega | exact Nat.le_refl _⟩, ⟨by (with_reducible repeat (first | apply Kd.R_alloc | apply Kd.R_drewN | apply Kd.R_drew)); exact Kd.R_mono HO_319000.out (fun _ hk => hk.1)⟩, ⟨by (with_reducible repeat (first | apply Kd.R_alloc | apply Kd.R_drewN | apply Kd.R_drew)); exact Kd.R_mono HO_324000.out (fun _ hk => hk.1)⟩, ⟨by exact zk BK318⟩, ⟨by exact zk BK323⟩, ⟨zb HB⟩⟩
           ·replace c62 := Bool.eq_false_iff.mpr c62
            subst c62
            have H1 : (laws_FnTableLimit.j1 kj4 t317 (t319.length : Int) true t313 t316 t319 t322) = some r := by rw [if_neg (show ¬ (false = true) by decide)] at H; exact H
            clear H
            have H := H1
            clear H1
            have H' := Aside0.mk H
            clear H
            try go_wp2
            replace HO_319000 := Aside0.mk (Kd.R_drew HO_319000.out)
            replace HO_324000 := Aside0.mk (Kd.R_drew HO_324000.out)
            replace BK318 := Aside0.mk (blk_drew BK318.out)
            replace BK323 := Aside0.mk (blk_drew BK323.out)
            replace HB := Aside0.mk (below_drew1 HB.out)
            have q72 : ((t319.length : Int) : Int) ≤ ((t313.length : Int) : Int) := of_decide_eq_true za
            obtain ⟨i072, hi072, _, hsz72, _⟩ := info_parts info36
            have hroom72 : t313.length ≤ co8 := (Kd.R_reads' HO_319000.out).2.1
            have hC72 : Kd.C k36 _ Ao8 t313.length t313 := (Kd.R_reads' HO_319000.out).2.2
            have hcut72 := cut_to (P := Try.prog) 23 36 .i64 Try.underlying23 hi072 Ao8 t313.length co8 (t319.length : Int) (of_decide_eq_true za) q72 hroom72
            have hr72 := Kd.C_take (m := ((t319.length : Int) : Int).toNat) hC72 (by omega)
            have hy72 : y335.length = ((t319.length : Int) : Int).toNat := (by rw [Ny335.out, List.length_take]; omega)
            rw [← Ny335.out] at hr72
            rw [← hy72] at hcut72
            have HR338 := Aside0.mk hr72
            have HC338 := Aside0.mk (show y335.length ≤ co8 from by omega)
            clear hr72 hC72 hroom72 hi072 hsz72
            have KY72 := Aside0.mk hy72
            clear hy72
            have KL72 := Aside0.mk (show ((t319.length : Int) : Int).toNat ≤ t313.length from by omega)
            replace q72 := eq_true q72
            refine start_ (n := 34) (S := fun w' => w'.cell? ⟨gb318, 0, none⟩ = some (.slice Ao8 t313.length co8) ∧ w'.cell? ⟨gb318, 1, none⟩ = some (.int .i64 t316) ∧ w'.cell? ⟨gb323, 0, none⟩ = some (.slice Ao12 t319.length co12) ∧ w'.cell? ⟨gb323, 1, none⟩ = some (.int .i64 t322)) (ds := []) #[false, false, false, false, false, false, false, false, false, false, false, false, false, false, false, false, false, false, false, false, false, false, false, false, false, false, false, false, false, false, false, false, false, false] (by kernel_rfl) rfl rfl ⟨(blk_cell BK318.out 0).trans rfl, (blk_cell BK318.out 1).trans rfl, (blk_cell BK323.out 0).trans rfl, (blk_cell BK323.out 1).trans rfl⟩ (fun hHeld => ?_); refine with_tabW laws_FnTableLimit.tab8 laws_FnTableLimit.bits8 (fun HT_ HW_ => ?_)
            generalize wc.drew = w71 at HO_319000 HO_324000 BK318 BK323 HB HR338 hHeld ⊢
            refine pu 0 (some 45) (bm 34 1) rfl rfl ?_
            refine pu 1 (some 46) (bm 34 3) rfl rfl ?_
            refine tk4 2 (some 47) (bm 34 7) rfl rfl hHeld ?_
            refine pu 3 (some 48) (bm 34 15) rfl rfl ?_
            refine pu 4 (some 49) (bm 34 31) rfl rfl ?_
            refine pu 5 (some 50) (bm 34 63) rfl rfl ?_
            refine pu 6 (some 51) (bm 34 127) rfl rfl ?_
            refine pu 8 (some 53) (bm 34 383) rfl rfl ?_
            refine pu 10 (some 55) (bm 34 1407) rfl rfl ?_
            refine tk4 7 (some 52) (bm 34 1535) rfl rfl hHeld ?_
            refine tk4 9 (some 54) (bm 34 2047) rfl rfl hHeld ?_
            refine pu 11 (some 56) (bm 34 4095) rfl rfl ?_
            refine one_ (i := 12) (N := some 57) (bm 34 8191) rfl rfl (one_of HT_.out (by kernel_rfl)) (by decide) (fun K hK => ?_)
            refine gs Try.func20 #[.slice Ao12 t319.length co12, .slice Ao8 y335.length co8] ?_
            with_reducible refine (laws_lkFields.calls kj4 _ _ t319 _ _ y335 true _ ?side1 ?side2 ?side3 ?side4 A58.out).mono ?_
            (case side1 => exact zc (Kd.R_reads' HO_324000.out).2.2)
            (case side2 => exact (Kd.R_reads' HO_324000.out).2.1)
            (case side3 => exact zc HR338.out)
            (case side4 => exact HC338.out)
            rintro e w' ⟨rfl, ⟨nd, rfl⟩⟩
            refine ⟨_, rfl, ?_⟩
            refine hK.out _ _ ⟨(blk_cell BK318.out 0).trans rfl, (blk_cell BK318.out 1).trans rfl, (blk_cell BK323.out 0).trans rfl, (blk_cell BK323.out 1).trans rfl⟩ (fun hHeld => ?_)
            clear hK K
            refine nm ?_
            refine pu 13 (some 58) (bm 34 16383) rfl rfl ?_
            refine pu 14 (some 59) (bm 34 32767) rfl rfl ?_
            refine pu 15 (some 60) (bm 34 65535) rfl rfl ?_
            refine pu 16 (some 61) (bm 34 131071) rfl rfl ?_
            refine pu 18 (some 63) (bm 34 393215) rfl rfl ?_
            refine tk4 17 (some 62) (bm 34 524287) rfl rfl hHeld ?_
            refine pu 19 (some 64) (bm 34 1048575) rfl rfl ?_
            refine pu 20 (some 65) (bm 34 2097151) rfl rfl ?_
            refine pu 21 (some 66) (bm 34 4194303) rfl rfl ?_
            refine tk4 22 (some 67) (bm 34 8388607) rfl rfl hHeld ?_
            refine one_ (i := 23) (N := some 68) (bm 34 16777215) rfl rfl (one_of HT_.out (by kernel_rfl)) (by decide) (fun K hK => ?_)
            refine gs Try.func21 #[.agg #[.slice Ao12 t319.length co12, .int .i64 t322]] ?_
            with_reducible refine (impl_TableOk.calls kj4 _ _ t319 t322 false _ ?side1 ?side2 A61.out).mono ?_
            (case side1 => exact zc (Kd.R_reads' HO_324000.out).2.2)
            (case side2 => exact (Kd.R_reads' HO_324000.out).2.1)
            rintro e w73 ⟨rfl, hb⟩
            refine ⟨_, rfl, ?_⟩
            replace HO_319000 := Aside0.mk (Kd.R_below (zr HO_319000) hb)
            replace HO_324000 := Aside0.mk (Kd.R_below (zr HO_324000) hb)
            replace BK318 := Aside0.mk (blk_below (g := gb318) (o := .cells #[.slice Ao8 t313.length co8, .int .i64 t316] 25 (0, 0)) (zk BK318) hb)
            replace BK323 := Aside0.mk (blk_below (g := gb323) (o := .cells #[.slice Ao12 t319.length co12, .int .i64 t322] 25 (0, 0)) (zk BK323) hb)
            replace HR338 := Aside0.mk (Kd.C_below (zc HR338.out) hb)
            replace HB := Aside0.mk (below_step (zb HB) hb)
            (try clear hb)
            refine hK.out _ _ ⟨(blk_cell BK318.out 0).trans rfl, (blk_cell BK318.out 1).trans rfl, (blk_cell BK323.out 0).trans rfl, (blk_cell BK323.out 1).trans rfl⟩ (fun hHeld => ?_)
            clear hK K
            refine nm ?_
            refine pu 24 (some 69) (bm 34 33554431) rfl rfl ?_
            refine pu 25 (some 70) (bm 34 67108863) rfl rfl ?_
            refine pu 26 (some 71) (bm 34 134217727) rfl rfl ?_
            refine pv 27 (some 72) (bm 34 268435455) rfl rfl ?_
            refine pv 28 (some 73) (bm 34 536870911) rfl rfl ?_
            refine pv 29 (some 74) (bm 34 1073741823) rfl rfl ?_
            refine pv 30 (some 75) (bm 34 2147483647) rfl rfl ?_
            refine pv 31 (some 76) (bm 34 4294967295) rfl rfl ?_
            refine pv 32 (some 77) (bm 34 8589934591) rfl rfl ?_
            refine pu 33 (some 78) (bm 34 17179869183) rfl rfl ?_
            refine done_ (done_of HT_.out (by kernel_rfl)) ?_
            try go_wp2
            go_meet
            case rel => exact ⟨_, (true), zs, H', ⟨by have := HJ4.out; first | omega | exact Nat.le_refl _⟩, ⟨by exact zr HO_319000⟩, ⟨by exact zr HO_324000⟩, ⟨by exact zk BK318⟩, ⟨by exact zk BK323⟩, ⟨zb HB⟩⟩
          ·rw [if_neg c60] at H
           have c60b0 : (t322 == t317) = false := beq_eq_false_iff_ne.mpr c60
           have c60b1 : (t322 != t317) = true := bne_iff_ne.mpr c60
           have H' := Aside0.mk H
           clear H
           try go_wp2
           replace HO_319000 := Aside0.mk (Kd.R_drew HO_319000.out)
           replace HO_324000 := Aside0.mk (Kd.R_drew HO_324000.out)
           replace BK318 := Aside0.mk (blk_drew BK318.out)
           replace BK323 := Aside0.mk (blk_drew BK323.out)
           replace HB := Aside0.mk (below_drew1 HB.out)
           have q75 : ((t319.length : Int) : Int) ≤ ((t313.length : Int) : Int) := of_decide_eq_true za
           obtain ⟨i075, hi075, _, hsz75, _⟩ := info_parts info36
           have hroom75 : t313.length ≤ co8 := (Kd.R_reads' HO_319000.out).2.1
           have hC75 : Kd.C k36 _ Ao8 t313.length t313 := (Kd.R_reads' HO_319000.out).2.2
           have hcut75 := cut_to (P := Try.prog) 23 36 .i64 Try.underlying23 hi075 Ao8 t313.length co8 (t319.length : Int) (of_decide_eq_true za) q75 hroom75
           have hr75 := Kd.C_take (m := ((t319.length : Int) : Int).toNat) hC75 (by omega)
           have hy75 : y335.length = ((t319.length : Int) : Int).toNat := (by rw [Ny335.out, List.length_take]; omega)
           rw [← Ny335.out] at hr75
           rw [← hy75] at hcut75
           have HR338 := Aside0.mk hr75
           have HC338 := Aside0.mk (show y335.length ≤ co8 from by omega)
           clear hr75 hC75 hroom75 hi075 hsz75
           have KY75 := Aside0.mk hy75
           clear hy75
           have KL75 := Aside0.mk (show ((t319.length : Int) : Int).toNat ≤ t313.length from by omega)
           replace q75 := eq_true q75
           refine start_ (n := 34) (S := fun w' => w'.cell? ⟨gb318, 0, none⟩ = some (.slice Ao8 t313.length co8) ∧ w'.cell? ⟨gb318, 1, none⟩ = some (.int .i64 t316) ∧ w'.cell? ⟨gb323, 0, none⟩ = some (.slice Ao12 t319.length co12) ∧ w'.cell? ⟨gb323, 1, none⟩ = some (.int .i64 t322)) (ds := []) #[false, false, false, false, false, false, false, false, false, false, false, false, false, false, false, false, false, false, false, false, false, false, false, false, false, false, false, false, false, false, false, false, false, false] (by kernel_rfl) rfl rfl ⟨(blk_cell BK318.out 0).trans rfl, (blk_cell BK318.out 1).trans rfl, (blk_cell BK323.out 0).trans rfl, (blk_cell BK323.out 1).trans rfl⟩ (fun hHeld => ?_); refine with_tabW laws_FnTableLimit.tab8 laws_FnTableLimit.bits8 (fun HT_ HW_ => ?_)
           generalize wc.drew = w74 at HO_319000 HO_324000 BK318 BK323 HB HR338 hHeld ⊢
           refine pu 0 (some 45) (bm 34 1) rfl rfl ?_
           refine pu 1 (some 46) (bm 34 3) rfl rfl ?_
           refine tk4 2 (some 47) (bm 34 7) rfl rfl hHeld ?_
           refine pu 3 (some 48) (bm 34 15) rfl rfl ?_
           refine pu 4 (some 49) (bm 34 31) rfl rfl ?_
           refine pu 5 (some 50) (bm 34 63) rfl rfl ?_
           refine pu 6 (some 51) (bm 34 127) rfl rfl ?_
           refine pu 8 (some 53) (bm 34 383) rfl rfl ?_
           refine pu 10 (some 55) (bm 34 1407) rfl rfl ?_
           refine tk4 7 (some 52) (bm 34 1535) rfl rfl hHeld ?_
           refine tk4 9 (some 54) (bm 34 2047) rfl rfl hHeld ?_
           refine pu 11 (some 56) (bm 34 4095) rfl rfl ?_
           refine one_ (i := 12) (N := some 57) (bm 34 8191) rfl rfl (one_of HT_.out (by kernel_rfl)) (by decide) (fun K hK => ?_)
           refine gs Try.func20 #[.slice Ao12 t319.length co12, .slice Ao8 y335.length co8] ?_
           with_reducible refine (laws_lkFields.calls kj4 _ _ t319 _ _ y335 true _ ?side1 ?side2 ?side3 ?side4 A58.out).mono ?_
           (case side1 => exact zc (Kd.R_reads' HO_324000.out).2.2)
           (case side2 => exact (Kd.R_reads' HO_324000.out).2.1)
           (case side3 => exact zc HR338.out)
           (case side4 => exact HC338.out)
           rintro e w' ⟨rfl, ⟨nd, rfl⟩⟩
           refine ⟨_, rfl, ?_⟩
           refine hK.out _ _ ⟨(blk_cell BK318.out 0).trans rfl, (blk_cell BK318.out 1).trans rfl, (blk_cell BK323.out 0).trans rfl, (blk_cell BK323.out 1).trans rfl⟩ (fun hHeld => ?_)
           clear hK K
           refine nm ?_
           refine pu 13 (some 58) (bm 34 16383) rfl rfl ?_
           refine pu 14 (some 59) (bm 34 32767) rfl rfl ?_
           refine pu 15 (some 60) (bm 34 65535) rfl rfl ?_
           refine pu 16 (some 61) (bm 34 131071) rfl rfl ?_
           refine pu 18 (some 63) (bm 34 393215) rfl rfl ?_
           refine tk4 17 (some 62) (bm 34 524287) rfl rfl hHeld ?_
           refine pu 19 (some 64) (bm 34 1048575) rfl rfl ?_
           refine pu 20 (some 65) (bm 34 2097151) rfl rfl ?_
           refine pu 21 (some 66) (bm 34 4194303) rfl rfl ?_
           refine pv 22 (some 67) (bm 34 8388607) rfl rfl ?_
           refine pv 23 (some 68) (bm 34 16777215) rfl rfl ?_
           refine pv 24 (some 69) (bm 34 33554431) rfl rfl ?_
           refine pu 25 (some 70) (bm 34 67108863) rfl rfl ?_
           refine pu 26 (some 71) (bm 34 134217727) rfl rfl ?_
           refine pv 27 (some 72) (bm 34 268435455) rfl rfl ?_
           refine pv 28 (some 73) (bm 34 536870911) rfl rfl ?_
           refine pv 29 (some 74) (bm 34 1073741823) rfl rfl ?_
           refine pv 30 (some 75) (bm 34 2147483647) rfl rfl ?_
           refine pv 31 (some 76) (bm 34 4294967295) rfl rfl ?_
           refine pv 32 (some 77) (bm 34 8589934591) rfl rfl ?_
           refine pu 33 (some 78) (bm 34 17179869183) rfl rfl ?_
           refine done_ (done_of HT_.out (by kernel_rfl)) ?_
           try go_wp2
           go_meet
           case rel => exact ⟨_, (true), zs, H', ⟨by have := HJ4.out; first | omega | exact Nat.le_refl _⟩, ⟨by exact zr HO_319000⟩, ⟨by exact zr HO_324000⟩, ⟨by exact zk BK318⟩, ⟨by exact zk BK323⟩, ⟨zb HB⟩⟩
         ·replace c59 := Bool.eq_false_iff.mpr c59
          subst c59
          have H1 : (laws_FnTableLimit.j1 kj4 t317 (t319.length : Int) true t313 t316 t319 t322) = some r := by rw [if_neg (show ¬ (false = true) by decide)] at H; exact H
          clear H
          have H := H1
          clear H1
          have H' := Aside0.mk H
          clear H
          try go_wp2
          replace HO_319000 := Aside0.mk (Kd.R_drew HO_319000.out)
          replace HO_324000 := Aside0.mk (Kd.R_drew HO_324000.out)
          replace BK318 := Aside0.mk (blk_drew BK318.out)
          replace BK323 := Aside0.mk (blk_drew BK323.out)
          replace HB := Aside0.mk (below_drew1 HB.out)
          have q77 : ((t319.length : Int) : Int) ≤ ((t313.length : Int) : Int) := of_decide_eq_true za
          obtain ⟨i077, hi077, _, hsz77, _⟩ := info_parts info36
          have hroom77 : t313.length ≤ co8 := (Kd.R_reads' HO_319000.out).2.1
          have hC77 : Kd.C k36 _ Ao8 t313.length t313 := (Kd.R_reads' HO_319000.out).2.2
          have hcut77 := cut_to (P := Try.prog) 23 36 .i64 Try.underlying23 hi077 Ao8 t313.length co8 (t319.length : Int) (of_decide_eq_true za) q77 hroom77
          have hr77 := Kd.C_take (m := ((t319.length : Int) : Int).toNat) hC77 (by omega)
          have hy77 : y335.length = ((t319.length : Int) : Int).toNat := (by rw [Ny335.out, List.length_take]; omega)
          rw [← Ny335.out] at hr77
          rw [← hy77] at hcut77
          have HR338 := Aside0.mk hr77
          have HC338 := Aside0.mk (show y335.length ≤ co8 from by omega)
          clear hr77 hC77 hroom77 hi077 hsz77
          have KY77 := Aside0.mk hy77
          clear hy77
          have KL77 := Aside0.mk (show ((t319.length : Int) : Int).toNat ≤ t313.length from by omega)
          replace q77 := eq_true q77
          refine start_ (n := 34) (S := fun w' => w'.cell? ⟨gb318, 0, none⟩ = some (.slice Ao8 t313.length co8) ∧ w'.cell? ⟨gb318, 1, none⟩ = some (.int .i64 t316) ∧ w'.cell? ⟨gb323, 0, none⟩ = some (.slice Ao12 t319.length co12) ∧ w'.cell? ⟨gb323, 1, none⟩ = some (.int .i64 t322)) (ds := []) #[false, false, false, false, false, false, false, false, false, false, false, false, false, false, false, false, false, false, false, false, false, false, false, false, false, false, false, false, false, false, false, false, false, false] (by kernel_rfl) rfl rfl ⟨(blk_cell BK318.out 0).trans rfl, (blk_cell BK318.out 1).trans rfl, (blk_cell BK323.out 0).trans rfl, (blk_cell BK323.out 1).trans rfl⟩ (fun hHeld => ?_); refine with_tabW laws_FnTableLimit.tab8 laws_FnTableLimit.bits8 (fun HT_ HW_ => ?_)
          generalize wc.drew = w76 at HO_319000 HO_324000 BK318 BK323 HB HR338 hHeld ⊢
          refine pu 0 (some 45) (bm 34 1) rfl rfl ?_
          refine pu 1 (some 46) (bm 34 3) rfl rfl ?_
          refine tk4 2 (some 47) (bm 34 7) rfl rfl hHeld ?_
          refine pu 3 (some 48) (bm 34 15) rfl rfl ?_
          refine pu 4 (some 49) (bm 34 31) rfl rfl ?_
          refine pu 5 (some 50) (bm 34 63) rfl rfl ?_
          refine pu 6 (some 51) (bm 34 127) rfl rfl ?_
          refine pu 8 (some 53) (bm 34 383) rfl rfl ?_
          refine pu 10 (some 55) (bm 34 1407) rfl rfl ?_
          refine tk4 7 (some 52) (bm 34 1535) rfl rfl hHeld ?_
          refine tk4 9 (some 54) (bm 34 2047) rfl rfl hHeld ?_
          refine pu 11 (some 56) (bm 34 4095) rfl rfl ?_
          refine one_ (i := 12) (N := some 57) (bm 34 8191) rfl rfl (one_of HT_.out (by kernel_rfl)) (by decide) (fun K hK => ?_)
          refine gs Try.func20 #[.slice Ao12 t319.length co12, .slice Ao8 y335.length co8] ?_
          with_reducible refine (laws_lkFields.calls kj4 _ _ t319 _ _ y335 false _ ?side1 ?side2 ?side3 ?side4 A58.out).mono ?_
          (case side1 => exact zc (Kd.R_reads' HO_324000.out).2.2)
          (case side2 => exact (Kd.R_reads' HO_324000.out).2.1)
          (case side3 => exact zc HR338.out)
          (case side4 => exact HC338.out)
          rintro e w' ⟨rfl, ⟨nd, rfl⟩⟩
          refine ⟨_, rfl, ?_⟩
          refine hK.out _ _ ⟨(blk_cell BK318.out 0).trans rfl, (blk_cell BK318.out 1).trans rfl, (blk_cell BK323.out 0).trans rfl, (blk_cell BK323.out 1).trans rfl⟩ (fun hHeld => ?_)
          clear hK K
          refine nm ?_
          refine pu 13 (some 58) (bm 34 16383) rfl rfl ?_
          refine pu 14 (some 59) (bm 34 32767) rfl rfl ?_
          refine pu 15 (some 60) (bm 34 65535) rfl rfl ?_
          refine pv 16 (some 61) (bm 34 131071) rfl rfl ?_
          refine pv 17 (some 62) (bm 34 262143) rfl rfl ?_
          refine pv 18 (some 63) (bm 34 524287) rfl rfl ?_
          refine pv 19 (some 64) (bm 34 1048575) rfl rfl ?_
          refine pu 20 (some 65) (bm 34 2097151) rfl rfl ?_
          refine pu 21 (some 66) (bm 34 4194303) rfl rfl ?_
          refine pv 22 (some 67) (bm 34 8388607) rfl rfl ?_
          refine pv 23 (some 68) (bm 34 16777215) rfl rfl ?_
          refine pv 24 (some 69) (bm 34 33554431) rfl rfl ?_
          refine pu 25 (some 70) (bm 34 67108863) rfl rfl ?_
          refine pu 26 (some 71) (bm 34 134217727) rfl rfl ?_
          refine pv 27 (some 72) (bm 34 268435455) rfl rfl ?_
          refine pv 28 (some 73) (bm 34 536870911) rfl rfl ?_
          refine pv 29 (some 74) (bm 34 1073741823) rfl rfl ?_
          refine pv 30 (some 75) (bm 34 2147483647) rfl rfl ?_
          refine pv 31 (some 76) (bm 34 4294967295) rfl rfl ?_
          refine pv 32 (some 77) (bm 34 8589934591) rfl rfl ?_
          refine pu 33 (some 78) (bm 34 17179869183) rfl rfl ?_
          refine done_ (done_of HT_.out (by kernel_rfl)) ?_
          try go_wp2
          go_meet
          case rel => exact ⟨_, (true), zs, H', ⟨by have := HJ4.out; first | omega | exact Nat.le_refl _⟩, ⟨by exact zr HO_319000⟩, ⟨by exact zr HO_324000⟩, ⟨by exact zk BK318⟩, ⟨by exact zk BK323⟩, ⟨zb HB⟩⟩
        ·rw [if_neg c57] at H
         exact absurd H (by simp)
       ·rw [if_neg c56] at H
        exact absurd H (by simp)
     case rest =>
      clear HC51
      try clear c2
      try clear p2
      try clear c5
      try clear c6
      try clear q7
      try clear c20
      try clear c56
      try clear c57
      try clear c59
      try clear c60
      try clear c60b0
      try clear c60b1
      try clear q75
      try clear q77
      try clear q75
      try clear q77
      obtain ⟨kq, x78_50, rfl, HA, HJ50, HO_319000, HO_324000, BK318, BK323, HB⟩ := hcut
      cases kq with
      | zero => exact absurd HA.out (by simp [laws_FnTableLimit.j1])
      | succ kj50 =>
       have H := HA.out
       clear HA
       simp only [laws_FnTableLimit.j1] at H
       by_cases c78 : x78_50 = true
       ·subst c78
        have H1 : (some false) = some r := by rw [if_pos rfl] at H; exact H
        clear H
        have H := H1
        clear H1
        obtain rfl := Option.some.inj H
        go_wp2
        go_ret
        exact ⟨ze, zb HB⟩
       ·replace c78 := Bool.eq_false_iff.mpr c78
        subst c78
        have H1 : (if (t319.length : Int) = (t313.length : Int) then ((impl_TableLimit.f kj50 t313 t316 64).bind fun bt346 => ((laws_lkFields.f kj50 bt346.1 t313).bind fun t350 => (some t350))) else ((impl_TableSize.f kj50 t319 t322).bind fun t351 => (if 0 ≤ (t319.length : Int) then (if (t319.length : Int) < (t313.length : Int) then ((laws_lkOne.f ((rd_T36 t313 (t319.length : Int)).f0) ((rd_T36 t313 (t319.length : Int)).f1) ((rd_T36 t313 (t319.length : Int)).f2)).bind fun t353 => (if (wrap64 (t351 + t353)) > t317 then ((impl_TableLimit.f kj50 t313 t316 64).bind fun bt354 => ((laws_lkFields.f kj50 bt354.1 t313).bind fun t358 => (some t358))) else (some false))) else (none)) else (none)))) = some r := by rw [if_neg (show ¬ (false = true) by decide)] at H; exact H
        clear H
        have H := H1
        clear H1
        by_cases c79 : (t319.length : Int) = (t313.length : Int)
        ·rw [if_pos c79] at H
         have c79b0 : ((t319.length : Int) == (t313.length : Int)) = true := beq_iff_eq.mpr c79
         have c79b1 : ((t319.length : Int) != (t313.length : Int)) = false := bne_eq_false_iff_eq.mpr c79
         have c79b2 : (t319.length == t313.length) = true := by first | simpa using c79 | (simp at c79 ⊢; omega)
         clear c79
         replace H := Option.bind_eq_some_iff.mp H
         obtain ⟨⟨t346, t349⟩, A800, H⟩ := H
         replace H : ((laws_lkFields.f kj50 t346 t313).bind fun t350 => (some t350)) = some r := H
         have A80 := Aside0.mk A800
         clear A800
         replace H := Option.bind_eq_some_iff.mp H
         obtain ⟨t350, A810, H⟩ := H
         replace H : (some t350) = some r := H
         have A81 := Aside0.mk A810
         clear A810
         obtain rfl := Option.some.inj H
         try go_wp2
         replace HO_319000 := Aside0.mk (Kd.R_drew HO_319000.out)
         replace HO_324000 := Aside0.mk (Kd.R_drew HO_324000.out)
         replace BK318 := Aside0.mk (blk_drew BK318.out)
         replace BK323 := Aside0.mk (blk_drew BK323.out)
         replace HB := Aside0.mk (below_drew1 HB.out)
         refine start_ (n := 27) (S := fun w' => w'.cell? ⟨gb318, 0, none⟩ = some (.slice Ao8 t313.length co8) ∧ w'.cell? ⟨gb318, 1, none⟩ = some (.int .i64 t316)) (ds := []) #[false, false, false, false, false, false, false, false, false, false, false, false, false, false, false, false, false, false, false, false, false, false, false, false, false, false, false] (by kernel_rfl) rfl rfl ⟨(blk_cell BK318.out 0).trans rfl, (blk_cell BK318.out 1).trans rfl⟩ (fun hHeld => ?_); refine with_tabW laws_FnTableLimit.tab10 laws_FnTableLimit.bits10 (fun HT_ HW_ => ?_)
         generalize wc.drew = w82 at HO_319000 HO_324000 BK318 BK323 HB hHeld ⊢
         refine pu 0 (some 79) (bm 27 1) rfl rfl ?_
         refine pu 1 (some 80) (bm 27 3) rfl rfl ?_
         refine tk2 2 (some 81) (bm 27 7) rfl rfl hHeld ?_
         refine pu 3 (some 82) (bm 27 15) rfl rfl ?_
         refine pu 4 (some 83) (bm 27 31) rfl rfl ?_
         refine pu 5 (some 84) (bm 27 63) rfl rfl ?_
         refine pv 6 (some 85) (bm 27 127) rfl rfl ?_
         refine pv 7 (some 86) (bm 27 255) rfl rfl ?_
         refine pv 8 (some 87) (bm 27 511) rfl rfl ?_
         refine pv 9 (some 88) (bm 27 1023) rfl rfl ?_
         refine pv 10 (some 89) (bm 27 2047) rfl rfl ?_
         refine pv 11 (some 90) (bm 27 4095) rfl rfl ?_
         refine pv 12 (some 91) (bm 27 8191) rfl rfl ?_
         refine pv 13 (some 92) (bm 27 16383) rfl rfl ?_
         refine pv 14 (some 93) (bm 27 32767) rfl rfl ?_
         refine pv 15 (some 94) (bm 27 65535) rfl rfl ?_
         refine pv 16 (some 95) (bm 27 131071) rfl rfl ?_
         refine pu 17 (some 96) (bm 27 262143) rfl rfl ?_
         refine pu 18 (some 97) (bm 27 524287) rfl rfl ?_
         refine pu 22 (some 101) (bm 27 4718591) rfl rfl ?_
         refine tk2 19 (some 98) (bm 27 5242879) rfl rfl hHeld ?_
         refine tk2 23 (some 102) (bm 27 13631487) rfl rfl hHeld ?_
         refine one_ (i := 20) (N := some 99) (bm 27 14680063) rfl rfl (one_of HT_.out (by kernel_rfl)) (by decide) (fun K hK => ?_)
         refine gs Try.func16 #[.agg #[.slice Ao8 t313.length co8, .int .i64 t316], .int .i64 64] ?_
         with_reducible refine (impl_TableLimit.calls kj50 _ _ t313 t316 64 t346 t349 _ ?side1 ?side2 A80.out).mono ?_
         (case side1 => exact zc (Kd.R_reads' HO_319000.out).2.2)
         (case side2 => exact (Kd.R_reads' HO_319000.out).2.1)
         rintro e w83 ⟨v347, rfl, ho0, hb⟩
         refine ⟨_, rfl, ?_⟩
         have HO348 := Aside0.mk (Kd.R_lower (Kd.R_new' (Kd.R_new' ho0 (Kd.R_lt (zr HO_319000))) (Kd.R_lt (zr HO_324000))) (below_size (zb HB)))
         replace HO_319000 := Aside0.mk (Kd.R_elder' (zr HO_319000) (Kd.R_base ho0) hb)
         replace HO_324000 := Aside0.mk (Kd.R_elder' (zr HO_324000) (Kd.R_base ho0) hb)
         replace BK318 := Aside0.mk (blk_below (g := gb318) (o := .cells #[.slice Ao8 t313.length co8, .int .i64 t316] 25 (0, 0)) (zk BK318) hb)
         replace BK323 := Aside0.mk (blk_below (g := gb323) (o := .cells #[.slice Ao12 t319.length co12, .int .i64 t322] 25 (0, 0)) (zk BK323) hb)
         replace HB := Aside0.mk (below_step (zb HB) hb)
         (try clear hb)
         (try clear ho0)
         obtain ⟨Ao84, co84, eo84⟩ := Kd.R_slice HO348.out
         (first | subst eo84 | (injection eo84 with f1_ f2_ f3_; have f4_ := f1_.symm; have f5_ := f3_.symm; clear f1_ f2_ f3_; subst f4_; subst f5_))
         refine hK.out _ _ ⟨(blk_cell BK318.out 0).trans rfl, (blk_cell BK318.out 1).trans rfl⟩ (fun hHeld => ?_)
         clear hK K
         refine nm ?_
         refine pu 21 (some 100) (bm 27 16777215) rfl rfl ?_
         refine one_ (i := 24) (N := some 103) (bm 27 33554431) rfl rfl (one_of HT_.out (by kernel_rfl)) (by decide) (fun K hK => ?_)
         refine gs Try.func20 #[.slice Ao84 t346.length co84, .slice Ao8 t313.length co8] ?_
         with_reducible refine (laws_lkFields.calls kj50 _ _ t346 _ _ t313 t350 _ ?side1 ?side2 ?side3 ?side4 A81.out).mono ?_
         (case side1 => exact zc (Kd.R_reads' HO348.out).2.2)
         (case side2 => exact (Kd.R_reads' HO348.out).2.1)
         (case side3 => exact zc (Kd.R_reads' HO_319000.out).2.2)
         (case side4 => exact (Kd.R_reads' HO_319000.out).2.1)
         rintro e w' ⟨rfl, ⟨nd, rfl⟩⟩
         refine ⟨_, rfl, ?_⟩
         refine hK.out _ _ ⟨(blk_cell BK318.out 0).trans rfl, (blk_cell BK318.out 1).trans rfl⟩ (fun hHeld => ?_)
         clear hK K
         refine nm ?_
         refine pu 25 (some 104) (bm 27 67108863) rfl rfl ?_
         refine pu 26 (some 2) (bm 27 134217727) rfl rfl ?_
         refine done_ (done_of HT_.out (by kernel_rfl)) ?_
         try go_wp2
         go_ret
         exact ⟨ze, zb HB⟩
        ·rw [if_neg c79] at H
         have c79b0 : ((t319.length : Int) == (t313.length : Int)) = false := beq_eq_false_iff_ne.mpr c79
         have c79b1 : ((t319.length : Int) != (t313.length : Int)) = true := bne_iff_ne.mpr c79
         have c79b2 : (t319.length == t313.length) = false := by first | simpa using c79 | (simp at c79 ⊢; omega)
         replace H := Option.bind_eq_some_iff.mp H
         obtain ⟨t351, A850, H⟩ := H
         replace H : (if 0 ≤ (t319.length : Int) then (if (t319.length : Int) < (t313.length : Int) then ((laws_lkOne.f ((rd_T36 t313 (t319.length : Int)).f0) ((rd_T36 t313 (t319.length : Int)).f1) ((rd_T36 t313 (t319.length : Int)).f2)).bind fun t353 => (if (wrap64 (t351 + t353)) > t317 then ((impl_TableLimit.f kj50 t313 t316 64).bind fun bt354 => ((laws_lkFields.f kj50 bt354.1 t313).bind fun t358 => (some t358))) else (some false))) else (none)) else (none)) = some r := H
         have A85 := Aside0.mk A850
         clear A850
         by_cases c86 : 0 ≤ (t319.length : Int)
         ·rw [if_pos c86] at H
          have c86b0 : decide (0 ≤ (t319.length : Int)) = true := decide_eq_true c86
          have c86b1 : decide (0 ≤ t319.length) = true := decide_eq_true (by omega)
          clear c86
          by_cases c87 : (t319.length : Int) < (t313.length : Int)
          ·rw [if_pos c87] at H
           have c87b0 : decide ((t319.length : Int) < (t313.length : Int)) = true := decide_eq_true c87
           have c87b1 : decide (t319.length < t313.length) = true := decide_eq_true (Int.ofNat_lt.mp c87)
           clear c87
           replace H := Option.bind_eq_some_iff.mp H
           obtain ⟨t353, A880, H⟩ := H
           replace H : (if (wrap64 (t351 + t353)) > t317 then ((impl_TableLimit.f kj50 t313 t316 64).bind fun bt354 => ((laws_lkFields.f kj50 bt354.1 t313).bind fun t358 => (some t358))) else (some false)) = some r := H
           have A88 := Aside0.mk A880
           clear A880
           by_cases c89 : (wrap64 (t351 + t353)) > t317
           ·rw [if_pos c89] at H
            have c89b0 : decide (t317 < (wrap64 (t351 + t353))) = true := decide_eq_true c89
            clear c89
            replace H := Option.bind_eq_some_iff.mp H
            obtain ⟨⟨t354, t357⟩, A900, H⟩ := H
            replace H : ((laws_lkFields.f kj50 t354 t313).bind fun t358 => (some t358)) = some r := H
            have A90 := Aside0.mk A900
            clear A900
            replace H := Option.bind_eq_some_iff.mp H
            obtain ⟨t358, A910, H⟩ := H
            replace H : (some t358) = some r := H
            have A91 := Aside0.mk A910
            clear A910
            obtain rfl := Option.some.inj H
            try go_wp2
            replace HO_319000 := Aside0.mk (Kd.R_drew HO_319000.out)
            replace HO_324000 := Aside0.mk (Kd.R_drew HO_324000.out)
            replace BK318 := Aside0.mk (blk_drew BK318.out)
            replace BK323 := Aside0.mk (blk_drew BK323.out)
            replace HB := Aside0.mk (below_drew1 HB.out)
            have p352 : 0 ≤ ((t319.length : Int) : Int) := of_decide_eq_true za
            have q352 : (t319.length : Int) < (t313.length : Int) := of_decide_eq_true za
            obtain ⟨ad352, e352, hx352_0, hx352_1, hx352_2⟩ := at_T36 (Kd.R_reads' HO_319000.out).2.2 (t319.length : Int) p352 q352
            cases e352
            (try simp only [Go.IntWalk.toNatUp] at hx352_0)
            (try simp only [Go.IntWalk.toNatUp] at hx352_1)
            (try simp only [Go.IntWalk.toNatUp] at hx352_2)
            replace p352 := eq_true p352
            replace q352 := eq_true q352
            refine start_ (n := 27) (S := fun w' => w'.cell? ⟨gb318, 0, none⟩ = some (.slice (some ad352) t313.length co8) ∧ w'.cell? ⟨gb318, 1, none⟩ = some (.int .i64 t316) ∧ w'.cell? ⟨gb323, 0, none⟩ = some (.slice Ao12 t319.length co12) ∧ w'.cell? ⟨gb323, 1, none⟩ = some (.int .i64 t322) ∧ w'.cell? (ad352.add (((t319.length : Int)).toNat * 3)) = some (.string ((rd_T36 t313 (t319.length : Int)).f0)) ∧ w'.cell? ⟨(ad352.add (((t319.length : Int)).toNat * 3)).block, (ad352.add (((t319.length : Int)).toNat * 3)).off + 1, none⟩ = some (.string ((rd_T36 t313 (t319.length : Int)).f1)) ∧ w'.cell? ⟨(ad352.add (((t319.length : Int)).toNat * 3)).block, (ad352.add (((t319.length : Int)).toNat * 3)).off + 2, none⟩ = some (.bool ((rd_T36 t313 (t319.length : Int)).f2))) (ds := []) #[false, false, false, false, false, false, false, false, false, false, false, false, false, false, false, false, false, false, false, false, false, false, false, false, false, false, false] (by kernel_rfl) rfl rfl ⟨(blk_cell BK318.out 0).trans rfl, (blk_cell BK318.out 1).trans rfl, (blk_cell BK323.out 0).trans rfl, (blk_cell BK323.out 1).trans rfl, hx352_0, hx352_1, hx352_2⟩ (fun hHeld => ?_); refine with_tabW laws_FnTableLimit.tab10 laws_FnTableLimit.bits10 (fun HT_ HW_ => ?_)
            generalize wc.drew = w92 at HO_319000 HO_324000 BK318 BK323 HB hx352_0 hx352_1 hx352_2 hHeld ⊢
            refine pu 0 (some 79) (bm 27 1) rfl rfl ?_
            refine pu 1 (some 80) (bm 27 3) rfl rfl ?_
            refine tk7 2 (some 81) (bm 27 7) rfl rfl hHeld ?_
            refine pu 3 (some 82) (bm 27 15) rfl rfl ?_
            refine pu 4 (some 83) (bm 27 31) rfl rfl ?_
            refine pu 5 (some 84) (bm 27 63) rfl rfl ?_
            refine pu 8 (some 87) (bm 27 319) rfl rfl ?_
            refine pu 10 (some 89) (bm 27 1343) rfl rfl ?_
            refine pu 15 (some 94) (bm 27 34111) rfl rfl ?_
            refine tk7 6 (some 85) (bm 27 34175) rfl rfl hHeld ?_
            refine tk7 9 (some 88) (bm 27 34687) rfl rfl hHeld ?_
            refine pu 11 (some 90) (bm 27 36735) rfl rfl ?_
            refine tk7 12 (some 91) (bm 27 40831) rfl rfl hHeld ?_
            refine one_ (i := 7) (N := some 86) (bm 27 40959) rfl rfl (one_of HT_.out (by kernel_rfl)) (by decide) (fun K hK => ?_)
            refine gs Try.func22 #[.agg #[.slice Ao12 t319.length co12, .int .i64 t322]] ?_
            with_reducible refine (impl_TableSize.calls kj50 _ _ t319 t322 t351 _ ?side1 ?side2 A85.out).mono ?_
            (case side1 => exact zc (Kd.R_reads' HO_324000.out).2.2)
            (case side2 => exact (Kd.R_reads' HO_324000.out).2.1)
            rintro e w93 ⟨rfl, hb⟩
            have HS4_ := (hb.cell (World.block_lt_of_cell? _ _ (hHeld.2.2.2.2.1))).trans (hHeld.2.2.2.2.1)
            have HS5_ := (hb.cell (World.block_lt_of_cell? _ _ (hHeld.2.2.2.2.2.1))).trans (hHeld.2.2.2.2.2.1)
            have HS6_ := (hb.cell (World.block_lt_of_cell? _ _ (hHeld.2.2.2.2.2.2))).trans (hHeld.2.2.2.2.2.2)
            refine ⟨_, rfl, ?_⟩
            replace HO_319000 := Aside0.mk (Kd.R_below (zr HO_319000) hb)
            replace HO_324000 := Aside0.mk (Kd.R_below (zr HO_324000) hb)
            replace BK318 := Aside0.mk (blk_below (g := gb318) (o := .cells #[.slice (some ad352) t313.length co8, .int .i64 t316] 25 (0, 0)) (zk BK318) hb)
            replace BK323 := Aside0.mk (blk_below (g := gb323) (o := .cells #[.slice Ao12 t319.length co12, .int .i64 t322] 25 (0, 0)) (zk BK323) hb)
            replace HB := Aside0.mk (below_step (zb HB) hb)
            (try clear hb)
            refine hK.out _ _ ⟨(blk_cell BK318.out 0).trans rfl, (blk_cell BK318.out 1).trans rfl, (blk_cell BK323.out 0).trans rfl, (blk_cell BK323.out 1).trans rfl, HS4_, HS5_, HS6_⟩ (fun hHeld => ?_)
            clear hK K
            refine nm ?_
            refine one_ (i := 13) (N := some 92) (bm 27 49151) rfl rfl (one_of HT_.out (by kernel_rfl)) (by decide) (fun K hK => ?_)
            refine gs Try.func23 #[.agg #[.string ((rd_T36 t313 (t319.length : Int)).f0), .string ((rd_T36 t313 (t319.length : Int)).f1), .bool ((rd_T36 t313 (t319.length : Int)).f2)]] ?_
            with_reducible refine (laws_lkOne.calls ((rd_T36 t313 (t319.length : Int)).f0) ((rd_T36 t313 (t319.length : Int)).f1) ((rd_T36 t313 (t319.length : Int)).f2) t353 _ A88.out).mono ?_
            rintro e w94 ⟨rfl, hb⟩
            have HS4_ := (hb.cell (World.block_lt_of_cell? _ _ (hHeld.2.2.2.2.1))).trans (hHeld.2.2.2.2.1)
            have HS5_ := (hb.cell (World.block_lt_of_cell? _ _ (hHeld.2.2.2.2.2.1))).trans (hHeld.2.2.2.2.2.1)
            have HS6_ := (hb.cell (World.block_lt_of_cell? _ _ (hHeld.2.2.2.2.2.2))).trans (hHeld.2.2.2.2.2.2)
            refine ⟨_, rfl, ?_⟩
            replace HO_319000 := Aside0.mk (Kd.R_below (zr HO_319000) hb)
            replace HO_324000 := Aside0.mk (Kd.R_below (zr HO_324000) hb)
            replace BK318 := Aside0.mk (blk_below (g := gb318) (o := .cells #[.slice (some ad352) t313.length co8, .int .i64 t316] 25 (0, 0)) (zk BK318) hb)
            replace BK323 := Aside0.mk (blk_below (g := gb323) (o := .cells #[.slice Ao12 t319.length co12, .int .i64 t322] 25 (0, 0)) (zk BK323) hb)
            replace HB := Aside0.mk (below_step (zb HB) hb)
            (try clear hb)
            refine hK.out _ _ ⟨(blk_cell BK318.out 0).trans rfl, (blk_cell BK318.out 1).trans rfl, (blk_cell BK323.out 0).trans rfl, (blk_cell BK323.out 1).trans rfl, HS4_, HS5_, HS6_⟩ (fun hHeld => ?_)
            clear hK K
            refine nm ?_
            refine pu 14 (some 93) (bm 27 65535) rfl rfl ?_
            refine pu 16 (some 95) (bm 27 131071) rfl rfl ?_
            refine pu 17 (some 96) (bm 27 262143) rfl rfl ?_
            refine pu 18 (some 97) (bm 27 524287) rfl rfl ?_
            refine pu 22 (some 101) (bm 27 4718591) rfl rfl ?_
            refine tk7 19 (some 98) (bm 27 5242879) rfl rfl hHeld ?_
            refine tk7 23 (some 102) (bm 27 13631487) rfl rfl hHeld ?_
            refine one_ (i := 20) (N := some 99) (bm 27 14680063) rfl rfl (one_of HT_.out (by kernel_rfl)) (by decide) (fun K hK => ?_)
            refine gs Try.func16 #[.agg #[.slice (some ad352) t313.length co8, .int .i64 t316], .int .i64 64] ?_
            with_reducible refine (impl_TableLimit.calls kj50 _ _ t313 t316 64 t354 t357 _ ?side1 ?side2 A90.out).mono ?_
            (case side1 => exact zc (Kd.R_reads' HO_319000.out).2.2)
            (case side2 => exact (Kd.R_reads' HO_319000.out).2.1)
            rintro e w95 ⟨v355, rfl, ho0, hb⟩
            have HS4_ := (hb.cell (World.block_lt_of_cell? _ _ (hHeld.2.2.2.2.1))).trans (hHeld.2.2.2.2.1)
            have HS5_ := (hb.cell (World.block_lt_of_cell? _ _ (hHeld.2.2.2.2.2.1))).trans (hHeld.2.2.2.2.2.1)
            have HS6_ := (hb.cell (World.block_lt_of_cell? _ _ (hHeld.2.2.2.2.2.2))).trans (hHeld.2.2.2.2.2.2)
            refine ⟨_, rfl, ?_⟩
            have HO356 := Aside0.mk (Kd.R_lower (Kd.R_new' (Kd.R_new' ho0 (Kd.R_lt (zr HO_319000))) (Kd.R_lt (zr HO_324000))) (below_size (zb HB)))
            replace HO_319000 := Aside0.mk (Kd.R_elder' (zr HO_319000) (Kd.R_base ho0) hb)
            replace HO_324000 := Aside0.mk (Kd.R_elder' (zr HO_324000) (Kd.R_base ho0) hb)
            replace BK318 := Aside0.mk (blk_below (g := gb318) (o := .cells #[.slice (some ad352) t313.length co8, .int .i64 t316] 25 (0, 0)) (zk BK318) hb)
            replace BK323 := Aside0.mk (blk_below (g := gb323) (o := .cells #[.slice Ao12 t319.length co12, .int .i64 t322] 25 (0, 0)) (zk BK323) hb)
            replace HB := Aside0.mk (below_step (zb HB) hb)
            (try clear hb)
            (try clear ho0)
            obtain ⟨Ao96, co96, eo96⟩ := Kd.R_slice HO356.out
            (first | subst eo96 | (injection eo96 with f1_ f2_ f3_; have f4_ := f1_.symm; have f5_ := f3_.symm; clear f1_ f2_ f3_; subst f4_; subst f5_))
            refine hK.out _ _ ⟨(blk_cell BK318.out 0).trans rfl, (blk_cell BK318.out 1).trans rfl, (blk_cell BK323.out 0).trans rfl, (blk_cell BK323.out 1).trans rfl, HS4_, HS5_, HS6_⟩ (fun hHeld => ?_)
            clear hK K
            refine nm ?_
            refine pu 21 (some 100) (bm 27 16777215) rfl rfl ?_
            refine one_ (i := 24) (N := some 103) (bm 27 33554431) rfl rfl (one_of HT_.out (by kernel_rfl)) (by decide) (fun K hK => ?_)
            refine gs Try.func20 #[.slice Ao96 t354.length co96, .slice (some ad352) t313.length co8] ?_
            with_reducible refine (laws_lkFields.calls kj50 _ _ t354 _ _ t313 t358 _ ?side1 ?side2 ?side3 ?side4 A91.out).mono ?_
            (case side1 => exact zc (Kd.R_reads' HO356.out).2.2)
            (case side2 => exact (Kd.R_reads' HO356.out).2.1)
            (case side3 => exact zc (Kd.R_reads' HO_319000.out).2.2)
            (case side4 => exact (Kd.R_reads' HO_319000.out).2.1)
            rintro e w' ⟨rfl, ⟨nd, rfl⟩⟩
            refine ⟨_, rfl, ?_⟩
            refine hK.out _ _ ⟨(blk_cell BK318.out 0).trans rfl, (blk_cell BK318.out 1).trans rfl, (blk_cell BK323.out 0).trans rfl, (blk_cell BK323.out 1).trans rfl, hHeld.2.2.2.2.1, hHeld.2.2.2.2.2.1, hHeld.2.2.2.2.2.2⟩ (fun hHeld => ?_)
            clear hK K
            refine nm ?_
            refine pu 25 (some 104) (bm 27 67108863) rfl rfl ?_
            refine pu 26 (some 2) (bm 27 134217727) rfl rfl ?_
            refine done_ (done_of HT_.out (by kernel_rfl)) ?_
            try go_wp2
            go_ret
            exact ⟨ze, zb HB⟩
           ·rw [if_neg c89] at H
            have c89b0 : decide (t317 < (wrap64 (t351 + t353))) = false := decide_eq_false c89
            clear c89
            obtain rfl := Option.some.inj H
            try go_wp2
            replace HO_319000 := Aside0.mk (Kd.R_drew HO_319000.out)
            replace HO_324000 := Aside0.mk (Kd.R_drew HO_324000.out)
            replace BK318 := Aside0.mk (blk_drew BK318.out)
            replace BK323 := Aside0.mk (blk_drew BK323.out)
            replace HB := Aside0.mk (below_drew1 HB.out)
            have p352 : 0 ≤ ((t319.length : Int) : Int) := of_decide_eq_true za
            have q352 : (t319.length : Int) < (t313.length : Int) := of_decide_eq_true za
            obtain ⟨ad352, e352, hx352_0, hx352_1, hx352_2⟩ := at_T36 (Kd.R_reads' HO_319000.out).2.2 (t319.length : Int) p352 q352
            cases e352
            (try simp only [Go.IntWalk.toNatUp] at hx352_0)
            (try simp only [Go.IntWalk.toNatUp] at hx352_1)
            (try simp only [Go.IntWalk.toNatUp] at hx352_2)
            replace p352 := eq_true p352
            replace q352 := eq_true q352
            refine start_ (n := 27) (S := fun w' => w'.cell? ⟨gb318, 0, none⟩ = some (.slice (some ad352) t313.length co8) ∧ w'.cell? ⟨gb318, 1, none⟩ = some (.int .i64 t316) ∧ w'.cell? ⟨gb323, 0, none⟩ = some (.slice Ao12 t319.length co12) ∧ w'.cell? ⟨gb323, 1, none⟩ = some (.int .i64 t322) ∧ w'.cell? (ad352.add (((t319.length : Int)).toNat * 3)) = some (.string ((rd_T36 t313 (t319.length : Int)).f0)) ∧ w'.cell? ⟨(ad352.add (((t319.length : Int)).toNat * 3)).block, (ad352.add (((t319.length : Int)).toNat * 3)).off + 1, none⟩ = some (.string ((rd_T36 t313 (t319.length : Int)).f1)) ∧ w'.cell? ⟨(ad352.add (((t319.length : Int)).toNat * 3)).block, (ad352.add (((t319.length : Int)).toNat * 3)).off + 2, none⟩ = some (.bool ((rd_T36 t313 (t319.length : Int)).f2))) (ds := []) #[false, false, false, false, false, false, false, false, false, false, false, false, false, false, false, false, false, false, false, false, false, false, false, false, false, false, false] (by kernel_rfl) rfl rfl ⟨(blk_cell BK318.out 0).trans rfl, (blk_cell BK318.out 1).trans rfl, (blk_cell BK323.out 0).trans rfl, (blk_cell BK323.out 1).trans rfl, hx352_0, hx352_1, hx352_2⟩ (fun hHeld => ?_); refine with_tabW laws_FnTableLimit.tab10 laws_FnTableLimit.bits10 (fun HT_ HW_ => ?_)
            generalize wc.drew = w97 at HO_319000 HO_324000 BK318 BK323 HB hx352_0 hx352_1 hx352_2 hHeld ⊢
            refine pu 0 (some 79) (bm 27 1) rfl rfl ?_
            refine pu 1 (some 80) (bm 27 3) rfl rfl ?_
            refine tk7 2 (some 81) (bm 27 7) rfl rfl hHeld ?_
            refine pu 3 (some 82) (bm 27 15) rfl rfl ?_
            refine pu 4 (some 83) (bm 27 31) rfl rfl ?_
            refine pu 5 (some 84) (bm 27 63) rfl rfl ?_
            refine pu 8 (some 87) (bm 27 319) rfl rfl ?_
            refine pu 10 (some 89) (bm 27 1343) rfl rfl ?_
            refine pu 15 (some 94) (bm 27 34111) rfl rfl ?_
            refine tk7 6 (some 85) (bm 27 34175) rfl rfl hHeld ?_
            refine tk7 9 (some 88) (bm 27 34687) rfl rfl hHeld ?_
            refine pu 11 (some 90) (bm 27 36735) rfl rfl ?_
            refine tk7 12 (some 91) (bm 27 40831) rfl rfl hHeld ?_
            refine one_ (i := 7) (N := some 86) (bm 27 40959) rfl rfl (one_of HT_.out (by kernel_rfl)) (by decide) (fun K hK => ?_)
            refine gs Try.func22 #[.agg #[.slice Ao12 t319.length co12, .int .i64 t322]] ?_
            with_reducible refine (impl_TableSize.calls kj50 _ _ t319 t322 t351 _ ?side1 ?side2 A85.out).mono ?_
            (case side1 => exact zc (Kd.R_reads' HO_324000.out).2.2)
            (case side2 => exact (Kd.R_reads' HO_324000.out).2.1)
            rintro e w98 ⟨rfl, hb⟩
            have HS4_ := (hb.cell (World.block_lt_of_cell? _ _ (hHeld.2.2.2.2.1))).trans (hHeld.2.2.2.2.1)
            have HS5_ := (hb.cell (World.block_lt_of_cell? _ _ (hHeld.2.2.2.2.2.1))).trans (hHeld.2.2.2.2.2.1)
            have HS6_ := (hb.cell (World.block_lt_of_cell? _ _ (hHeld.2.2.2.2.2.2))).trans (hHeld.2.2.2.2.2.2)
            refine ⟨_, rfl, ?_⟩
            replace HO_319000 := Aside0.mk (Kd.R_below (zr HO_319000) hb)
            replace HO_324000 := Aside0.mk (Kd.R_below (zr HO_324000) hb)
            replace BK318 := Aside0.mk (blk_below (g := gb318) (o := .cells #[.slice (some ad352) t313.length co8, .int .i64 t316] 25 (0, 0)) (zk BK318) hb)
            replace BK323 := Aside0.mk (blk_below (g := gb323) (o := .cells #[.slice Ao12 t319.length co12, .int .i64 t322] 25 (0, 0)) (zk BK323) hb)
            replace HB := Aside0.mk (below_step (zb HB) hb)
            (try clear hb)
            refine hK.out _ _ ⟨(blk_cell BK318.out 0).trans rfl, (blk_cell BK318.out 1).trans rfl, (blk_cell BK323.out 0).trans rfl, (blk_cell BK323.out 1).trans rfl, HS4_, HS5_, HS6_⟩ (fun hHeld => ?_)
            clear hK K
            refine nm ?_
            refine one_ (i := 13) (N := some 92) (bm 27 49151) rfl rfl (one_of HT_.out (by kernel_rfl)) (by decide) (fun K hK => ?_)
            refine gs Try.func23 #[.agg #[.string ((rd_T36 t313 (t319.length : Int)).f0), .string ((rd_T36 t313 (t319.length : Int)).f1), .bool ((rd_T36 t313 (t319.length : Int)).f2)]] ?_
            with_reducible refine (laws_lkOne.calls ((rd_T36 t313 (t319.length : Int)).f0) ((rd_T36 t313 (t319.length : Int)).f1) ((rd_T36 t313 (t319.length : Int)).f2) t353 _ A88.out).mono ?_
            rintro e w99 ⟨rfl, hb⟩
            have HS4_ := (hb.cell (World.block_lt_of_cell? _ _ (hHeld.2.2.2.2.1))).trans (hHeld.2.2.2.2.1)
            have HS5_ := (hb.cell (World.block_lt_of_cell? _ _ (hHeld.2.2.2.2.2.1))).trans (hHeld.2.2.2.2.2.1)
            have HS6_ := (hb.cell (World.block_lt_of_cell? _ _ (hHeld.2.2.2.2.2.2))).trans (hHeld.2.2.2.2.2.2)
            refine ⟨_, rfl, ?_⟩
            replace HO_319000 := Aside0.mk (Kd.R_below (zr HO_319000) hb)
            replace HO_324000 := Aside0.mk (Kd.R_below (zr HO_324000) hb)
            replace BK318 := Aside0.mk (blk_below (g := gb318) (o := .cells #[.slice (some ad352) t313.length co8, .int .i64 t316] 25 (0, 0)) (zk BK318) hb)
            replace BK323 := Aside0.mk (blk_below (g := gb323) (o := .cells #[.slice Ao12 t319.length co12, .int .i64 t322] 25 (0, 0)) (zk BK323) hb)
            replace HB := Aside0.mk (below_step (zb HB) hb)
            (try clear hb)
            refine hK.out _ _ ⟨(blk_cell BK318.out 0).trans rfl, (blk_cell BK318.out 1).trans rfl, (blk_cell BK323.out 0).trans rfl, (blk_cell BK323.out 1).trans rfl, HS4_, HS5_, HS6_⟩ (fun hHeld => ?_)
            clear hK K
            refine nm ?_
            refine pu 14 (some 93) (bm 27 65535) rfl rfl ?_
            refine pu 16 (some 95) (bm 27 131071) rfl rfl ?_
            refine pu 17 (some 96) (bm 27 262143) rfl rfl ?_
            refine pu 18 (some 97) (bm 27 524287) rfl rfl ?_
            refine pv 19 (some 98) (bm 27 1048575) rfl rfl ?_
            refine pv 20 (some 99) (bm 27 2097151) rfl rfl ?_
            refine pv 21 (some 100) (bm 27 4194303) rfl rfl ?_
            refine pv 22 (some 101) (bm 27 8388607) rfl rfl ?_
            refine pv 23 (some 102) (bm 27 16777215) rfl rfl ?_
            refine pv 24 (some 103) (bm 27 33554431) rfl rfl ?_
            refine pu 25 (some 104) (bm 27 67108863) rfl rfl ?_
            refine pu 26 (some 2) (bm 27 134217727) rfl rfl ?_
            refine done_ (done_of HT_.out (by kernel_rfl)) ?_
            try go_wp2
            go_ret
            exact ⟨ze, zb HB⟩
          ·rw [if_neg c87] at H
           exact absurd H (by simp)
         ·rw [if_neg c86] at H
          exact absurd H (by simp)

/-- THE ONE PURE STATEMENT of laws_FnTableLimit: yours. -/
def laws_FnTableLimit.Pure : Prop := ∀ (l0 : List Int), l0.length ≤ maxLen → l0.length * 1 ≤ 140737488351232 → (∀ x ∈ l0, (Lit.int .u8 x).wf = true) → ∃ k, laws_FnTableLimit.f k l0 = some true
theorem laws_FnTableLimit.walk (P : laws_FnTableLimit.Pure) (a0 : Option Addr) (len0 cap0 : Nat) (z0 : List Int) (w : World) (w0 : (a0 = none ∧ len0 = 0 ∧ cap0 = 0 ∧ z0 = []) ∨ ∃ x, a0 = some x ∧ len0 ≤ cap0 ∧ cap0 ≤ maxLen ∧ z0.length = cap0 ∧ (∀ i, i < z0.length → w.cell? (x.add i) = some (.int .u8 (z0.getD i 0))) ∧ ∀ n ∈ z0, (Lit.int .u8 n).wf = true) (y0 : len0 * 1 ≤ 140737488351232) :
  Calls Try.prog 4 #[.slice a0 len0 cap0] w fun e w' => e = .returned (.bool true) ∧ Below w.heap.size w w' := by
 obtain ⟨l0, rfl, hr0, hm0, hw0, hc0⟩ := ReadsInt.ofRowC w0
 obtain ⟨k, h⟩ := P l0 hm0 y0 hw0
 refine (laws_FnTableLimit.calls k _ _ l0 true w (Kd.C_of_reads (d := (0 : Int)) (h1 := fun _ => rfl) hr0) hc0 h).mono ?_
 rintro e w' ⟨rfl, hd⟩
 exact ⟨rfl, hd⟩

end Go.Proofs.Ytdhahifdcoinhaa.PFnTableLimit
