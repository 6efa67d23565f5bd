-- WRITTEN BY a turned print (wip/tools of the prover's repo)
import Derived.Test.YtdhahifdcoinhaaPFnAddFindx0
import Derived.Test.YtdhahifdcoinhaaPFnAddFindx2
import Derived.Test.YtdhahifdcoinhaaPFnAddFindx3
import Derived.Test.YtdhahifdcoinhaaPFnAddFindx5
import Derived.Test.YtdhahifdcoinhaaPFnAddFindx7
namespace Go.Proofs.Ytdhahifdcoinhaa.PFnAddFind
open Go.RowKit Go.Proofs.YtdhahifdcoinhaaW.PrintWords Go.Proofs.YtdhahifdcoinhaaW.PrintLast Go.Proofs.YtdhahifdcoinhaaW.PrintMore Go.Proofs.Ytdhahifdcoinhaa.Lm
attribute [local go_sem] max2_int min2_int max_two min_two max_three min_three max_four min_four   -- for this text's walks alone
set_option linter.unusedVariables false
set_option linter.unusedSimpArgs false

/-! ### laws_FnAddFind: function 9 -/
-- thin
def laws_FnAddFind.j0 : Nat → Bool → List (S36) → Int → ByteArray → ByteArray → Bool → List (S36) → Int → Option (Bool)
 | 0, _, _, _, _, _, _, _, _ => none
 | k + 1, x41, x356000, x356001, x357000, x357001, x357002, x362000, x362001 => if x41 = true then ((spec_TableAdd.f k x356000 x356001 x357000 x357001 x357002).bind fun bt370 => ((laws_lkTable.f k x362000 x362001 bt370.1 bt370.2).bind fun t374 => (some t374))) else ((impl_TableFind.f k x362000 x362001 x357000 x357001 x357002).bind fun bt375 => (if bt375.2 = true then (if bt375.1 ≥ 1 then ((impl_TableFixed.f).bind fun t377 => (some (decide (bt375.1 ≤ (wrap64 ((t377.length : Int) + 1)))))) else (some false)) else (some false)))
def laws_FnAddFind.f (k : Nat) (l0 : List Int) : Option (Bool) := if (l0.length : Int) > 1048576 then (some true) else ((spec_DrawTableAdd.f k l0).bind fun bt348 => ((impl_TableAdd.f k bt348.1 bt348.2.1 bt348.2.2.1 bt348.2.2.2.1 bt348.2.2.2.2).bind fun bt357 => ((spec_TableAdd.f k bt348.1 bt348.2.1 bt348.2.2.1 bt348.2.2.2.1 bt348.2.2.2.2).bind fun bt362 => ((laws_lkTable.f k bt357.1 bt357.2 bt362.1 bt362.2).bind fun t366 => (if t366 = true then ((spec_TableOk.f k bt348.1 bt348.2.1).bind fun t367 => (if t367 = true then ((spec_FieldOk.f k bt348.2.2.1 bt348.2.2.2.1 bt348.2.2.2.2).bind fun t368 => (if t368 = true then ((laws_lkOne.f bt348.2.2.1 bt348.2.2.2.1 bt348.2.2.2.2).bind fun t369 => (laws_FnAddFind.j0 k (decide (t369 > bt348.2.1)) bt348.1 bt348.2.1 bt348.2.2.1 bt348.2.2.2.1 bt348.2.2.2.2 bt357.1 bt357.2)) else (laws_FnAddFind.j0 k true bt348.1 bt348.2.1 bt348.2.2.1 bt348.2.2.2.1 bt348.2.2.2.2 bt357.1 bt357.2))) else (laws_FnAddFind.j0 k true bt348.1 bt348.2.1 bt348.2.2.1 bt348.2.2.2.1 bt348.2.2.2.2 bt357.1 bt357.2))) else (laws_FnAddFind.j0 k true bt348.1 bt348.2.1 bt348.2.2.1 bt348.2.2.2.1 bt348.2.2.2.2 bt357.1 bt357.2))))))
theorem laws_FnAddFind.mono_l : ∀ k, (∀ y0 y1 y2 y3 y4 y5 y6 y7, LeO (laws_FnAddFind.j0 k y0 y1 y2 y3 y4 y5 y6 y7) (laws_FnAddFind.j0 (k + 1) y0 y1 y2 y3 y4 y5 y6 y7))
 | 0 => fun _ _ _ _ _ _ _ _ r h => by simp [laws_FnAddFind.j0] at h
 | k + 1 => by
  have ih0 := laws_FnAddFind.mono_l k
  ·intro y0 y1 y2 y3 y4 y5 y6 y7
   unfold laws_FnAddFind.j0
   repeat' first
   | (with_reducible exact ih0 _ _ _ _ _ _ _ _)
   | (with_reducible exact impl_TableAdd.mono _ _ _ _ _ _)
   | (with_reducible exact impl_TableFind.mono _ _ _ _ _ _)
   | (with_reducible exact laws_lkTable.mono _ _ _ _ _)
   | (with_reducible exact spec_DrawTableAdd.mono _ _)
   | (with_reducible exact spec_FieldOk.mono _ _ _ _)
   | (with_reducible exact spec_TableAdd.mono _ _ _ _ _ _)
   | (with_reducible exact spec_TableOk.mono _ _ _)
   | (with_reducible exact LeO.refl _)
   | (with_reducible exact LeO.none _)
   | (with_reducible refine LeO.ite ?_ ?_)
   | (with_reducible refine LeO.bind ?_ (fun _ => ?_))
   | exact ih0 _ _ _ _ _ _ _ _
   | exact impl_TableAdd.mono _ _ _ _ _ _
   | exact impl_TableFind.mono _ _ _ _ _ _
   | exact laws_lkTable.mono _ _ _ _ _
   | exact spec_DrawTableAdd.mono _ _
   | exact spec_FieldOk.mono _ _ _ _
   | exact spec_TableAdd.mono _ _ _ _ _ _
   | exact spec_TableOk.mono _ _ _
   | exact LeO.none _
   | refine LeO.ite ?_ ?_
   | refine LeO.bind ?_ (fun _ => ?_)
theorem laws_FnAddFind.mono : ∀ a0 k, LeO (laws_FnAddFind.f k a0) (laws_FnAddFind.f (k + 1) a0) := by
 intro a0 k
 have ih0 := laws_FnAddFind.mono_l k
 unfold laws_FnAddFind.f
 repeat' first
   | (with_reducible exact ih0 _ _ _ _ _ _ _ _)
   | (with_reducible exact impl_TableAdd.mono _ _ _ _ _ _)
   | (with_reducible exact impl_TableFind.mono _ _ _ _ _ _)
   | (with_reducible exact laws_lkTable.mono _ _ _ _ _)
   | (with_reducible exact spec_DrawTableAdd.mono _ _)
   | (with_reducible exact spec_FieldOk.mono _ _ _ _)
   | (with_reducible exact spec_TableAdd.mono _ _ _ _ _ _)
   | (with_reducible exact spec_TableOk.mono _ _ _)
   | (with_reducible exact LeO.refl _)
   | (with_reducible exact LeO.none _)
   | (with_reducible refine LeO.ite ?_ ?_)
   | (with_reducible refine LeO.bind ?_ (fun _ => ?_))
   | exact ih0 _ _ _ _ _ _ _ _
   | exact impl_TableAdd.mono _ _ _ _ _ _
   | exact impl_TableFind.mono _ _ _ _ _ _
   | exact laws_lkTable.mono _ _ _ _ _
   | exact spec_DrawTableAdd.mono _ _
   | exact spec_FieldOk.mono _ _ _ _
   | exact spec_TableAdd.mono _ _ _ _ _ _
   | exact spec_TableOk.mono _ _ _
   | exact LeO.none _
   | refine LeO.ite ?_ ?_
   | refine LeO.bind ?_ (fun _ => ?_)
def laws_FnAddFind.T5 : Bool × List (List Nat × List Nat) := (true, [([], []), ([], []), ([], []), ([1, 2], [1, 2]), ([0, 3, 3], [0, 3]), ([4], [4]), ([5, 4], [5]), ([6], [6]), ([7, 6, 6], [6, 7]), ([8, 6], [6, 8]), ([6, 9], [6, 9]), ([10, 8], [10]), ([11], [11]), ([12, 11, 11], [11, 12]), ([13, 11], [11, 13]), ([11, 14], [11, 14]), ([15, 13], [15]), ([16], [16]), ([17, 16, 16], [16, 17]), ([16], [16]), ([19, 16], [16, 19]), ([18, 20, 16], [16, 18, 20]), ([16, 21], [16, 21])])
def laws_FnAddFind.B5 : List Nat := [0, 0, 0, 6, 15, 31, 63, 127, 255, 511, 1023, 2047, 4095, 8191, 16383, 32767, 65535, 131071, 262143, 131071, 655359, 2097151, 4194303]
theorem laws_FnAddFind.tab5 : rtab .any (opsOf Try.f9 5) = laws_FnAddFind.T5 := by kernel_rfl
theorem laws_FnAddFind.bits5 : waitsOk laws_FnAddFind.T5.2 laws_FnAddFind.B5 = true := by kernel_rfl
set_option maxHeartbeats 8000000 in
set_option maxRecDepth 100000 in
theorem laws_FnAddFind.calls (k : Nat) (A0 : Option Addr) (c0 : Nat) (l0 : List Int) (r : Bool) (w : World) (hr0 : Kd.C (Kd.int .u8) w A0 l0.length l0) (hc0 : l0.length ≤ c0) (h : laws_FnAddFind.f k l0 = some r) :
  Calls Try.prog 9 #[.slice A0 l0.length c0] w fun e w' => e = .returned (.bool r) ∧ Below w.heap.size w w' := by
 have hu25 := Try.underlying25
 have hu36 := Try.underlying36
 have HR0 := Aside0.mk hr0
 have HC0 := Aside0.mk hc0
 clear hr0 hc0
 have HB := Aside0.mk (Below.refl w.heap.size w)
 have H : (if (l0.length : Int) > 1048576 then (some true) else ((spec_DrawTableAdd.f k l0).bind fun bt348 => ((impl_TableAdd.f k bt348.1 bt348.2.1 bt348.2.2.1 bt348.2.2.2.1 bt348.2.2.2.2).bind fun bt357 => ((spec_TableAdd.f k bt348.1 bt348.2.1 bt348.2.2.1 bt348.2.2.2.1 bt348.2.2.2.2).bind fun bt362 => ((laws_lkTable.f k bt357.1 bt357.2 bt362.1 bt362.2).bind fun t366 => (if t366 = true then ((spec_TableOk.f k bt348.1 bt348.2.1).bind fun t367 => (if t367 = true then ((spec_FieldOk.f k bt348.2.2.1 bt348.2.2.2.1 bt348.2.2.2.2).bind fun t368 => (if t368 = true then ((laws_lkOne.f bt348.2.2.1 bt348.2.2.2.1 bt348.2.2.2.2).bind fun t369 => (laws_FnAddFind.j0 k (decide (t369 > bt348.2.1)) bt348.1 bt348.2.1 bt348.2.2.1 bt348.2.2.2.1 bt348.2.2.2.2 bt357.1 bt357.2)) else (laws_FnAddFind.j0 k true bt348.1 bt348.2.1 bt348.2.2.1 bt348.2.2.2.1 bt348.2.2.2.2 bt357.1 bt357.2))) else (laws_FnAddFind.j0 k true bt348.1 bt348.2.1 bt348.2.2.1 bt348.2.2.2.1 bt348.2.2.2.2 bt357.1 bt357.2))) else (laws_FnAddFind.j0 k true bt348.1 bt348.2.1 bt348.2.2.1 bt348.2.2.2.1 bt348.2.2.2.2 bt357.1 bt357.2))))))) = some r := h
 clear h
 by_cases c2 : (l0.length : Int) > 1048576
 ·rw [if_pos c2] at H
  have c2b0 : decide (1048576 < (l0.length : Int)) = true := decide_eq_true c2
  have c2b1 : decide (1048576 < l0.length) = true := decide_eq_true (by omega)
  clear c2
  obtain rfl := Option.some.inj H
  go_enter Try.func9, Try.ntmps9
  go_wp2
  go_ret
  exact ⟨ze, zb HB⟩
 ·rw [if_neg c2] at H
  have c2b0 : decide (1048576 < (l0.length : Int)) = false := decide_eq_false c2
  have c2b1 : decide (1048576 < l0.length) = false := decide_eq_false (by omega)
  clear c2
  replace H := Option.bind_eq_some_iff.mp H
  obtain ⟨⟨t348, t351, t352, t353, t354⟩, A30, H⟩ := H
  replace H : ((impl_TableAdd.f k t348 t351 t352 t353 t354).bind fun bt357 => ((spec_TableAdd.f k t348 t351 t352 t353 t354).bind fun bt362 => ((laws_lkTable.f k bt357.1 bt357.2 bt362.1 bt362.2).bind fun t366 => (if t366 = true then ((spec_TableOk.f k t348 t351).bind fun t367 => (if t367 = true then ((spec_FieldOk.f k t352 t353 t354).bind fun t368 => (if t368 = true then ((laws_lkOne.f t352 t353 t354).bind fun t369 => (laws_FnAddFind.j0 k (decide (t369 > t351)) t348 t351 t352 t353 t354 bt357.1 bt357.2)) else (laws_FnAddFind.j0 k true t348 t351 t352 t353 t354 bt357.1 bt357.2))) else (laws_FnAddFind.j0 k true t348 t351 t352 t353 t354 bt357.1 bt357.2))) else (laws_FnAddFind.j0 k true t348 t351 t352 t353 t354 bt357.1 bt357.2))))) = some r := H
  have A3 := Aside0.mk A30
  clear A30
  replace H := Option.bind_eq_some_iff.mp H
  obtain ⟨⟨t357, t360⟩, A40, H⟩ := H
  replace H : ((spec_TableAdd.f k t348 t351 t352 t353 t354).bind fun bt362 => ((laws_lkTable.f k t357 t360 bt362.1 bt362.2).bind fun t366 => (if t366 = true then ((spec_TableOk.f k t348 t351).bind fun t367 => (if t367 = true then ((spec_FieldOk.f k t352 t353 t354).bind fun t368 => (if t368 = true then ((laws_lkOne.f t352 t353 t354).bind fun t369 => (laws_FnAddFind.j0 k (decide (t369 > t351)) t348 t351 t352 t353 t354 t357 t360)) else (laws_FnAddFind.j0 k true t348 t351 t352 t353 t354 t357 t360))) else (laws_FnAddFind.j0 k true t348 t351 t352 t353 t354 t357 t360))) else (laws_FnAddFind.j0 k true t348 t351 t352 t353 t354 t357 t360)))) = some r := H
  have A4 := Aside0.mk A40
  clear A40
  have HC5 := Aside0.mk H
  clear H
  go_enter Try.func9, Try.ntmps9
  go_upto_region 5 with (first | ((with_reducible refine gq 29 rfl ?_); refine gl (some 13) Try.func29 #[.slice A0 l0.length c0] ?_; (with_reducible refine (spec_DrawTableAdd.calls k _ _ l0 t348 t351 t352 t353 t354 _ ?side1 ?side2 A3.out).mono ?_); (case side1 => exact zc HR0.out); (case side2 => exact HC0.out); rintro e w6 ⟨v349, rfl, ho0, hb⟩; refine ⟨_, rfl, ?_⟩; have HO350 := Aside0.mk (Kd.R_lower ho0 (below_size (zb HB))); replace HB := Aside0.mk (below_step (zb HB) hb); (try clear hb); (try clear ho0)) | ((with_reducible refine gd 3 rfl ?_); (try (refine gate_guard (by rfl) ?_; dsimp only)); refine bx (N := 3) (cs := #[.slice none 0 0, .int .i64 0]) (t := 25) ?_; intro gb355 hg w7 hbox hb; replace HO350 := Aside0.mk (Kd.R_below (zr HO350) hb); have BK355 := Aside0.mk (hbox); have GW355 := Aside0.mk ((by rw [hg]; exact (below_size (zb HB)) : w.heap.size ≤ gb355)); have GE355 := Aside0.mk ((by rw [hg]; exact (below_size (zb HB)) : w.heap.size ≤ gb355)); replace HB := Aside0.mk (below_step (zb HB) hb); clear hb hbox hg) | ((with_reducible refine gd 4 rfl ?_); (try (refine gate_guard (by rfl) ?_; dsimp only)); refine bx (N := 4) (cs := #[.string (⟨#[]⟩ : ByteArray), .string (⟨#[]⟩ : ByteArray), .bool false]) (t := 36) ?_; intro gb356 hg w8 hbox hb; replace HO350 := Aside0.mk (Kd.R_below (Kd.R_elderB (zr HO350) gb356 (Nat.le_of_eq hg.symm)) hb); have BK356 := Aside0.mk (hbox); have GW356 := Aside0.mk ((by rw [hg]; exact (below_size (zb HB)) : w.heap.size ≤ gb356)); have GE356 := Aside0.mk ((by rw [hg]; exact (below_size (zb HB)) : w.heap.size ≤ gb356)); replace HB := Aside0.mk (below_step (zb HB) hb); have NB355_356 := Aside0.mk ((by rw [hg]; exact Nat.ne_of_lt (blk_lt (g := gb355) (o := .cells #[.slice none 0 0, .int .i64 0] 25 (0, 0)) (zk BK355)) : gb355 ≠ gb356)); have NB356_355 := Aside0.mk ((by rw [hg]; exact Nat.ne_of_gt (blk_lt (g := gb355) (o := .cells #[.slice none 0 0, .int .i64 0] 25 (0, 0)) (zk BK355)) : gb356 ≠ gb355)); replace BK355 := Aside0.mk (blk_below (g := gb355) (o := .cells #[.slice none 0 0, .int .i64 0] 25 (0, 0)) (zk BK355) hb); clear hb hbox hg; obtain ⟨Ao9, co9, eo9⟩ := Kd.R_slice HO350.out; subst eo9; have hnb10 := NB355_356.out; have hnc10 := NB356_355.out; have hcz11_0 : w8.cell? ⟨gb355, 0, none⟩ = some (.slice none 0 0) := (blk_cell BK355.out 0).trans rfl; have hcz11_1 : w8.cell? ⟨gb355, 1, none⟩ = some (.int .i64 0) := (blk_cell BK355.out 1).trans rfl; have hfz11_0 := blk_frozen BK355.out 0; have hfz11_1 := blk_frozen BK355.out 1; have hcz12_0 : w8.cell? ⟨gb356, 0, none⟩ = some (.string (⟨#[]⟩ : ByteArray)) := (blk_cell BK356.out 0).trans rfl; have hcz12_1 : w8.cell? ⟨gb356, 1, none⟩ = some (.string (⟨#[]⟩ : ByteArray)) := (blk_cell BK356.out 1).trans rfl; have hcz12_2 : w8.cell? ⟨gb356, 2, none⟩ = some (.bool false) := (blk_cell BK356.out 2).trans rfl; have hfz12_0 := blk_frozen BK356.out 0; have hfz12_1 := blk_frozen BK356.out 1; have hfz12_2 := blk_frozen BK356.out 2) | ((with_reducible refine gq 30 rfl ?_); refine gl (some 18) Try.func30 #[.agg #[.slice Ao9 t348.length co9, .int .i64 t351], .agg #[.string t352, .string t353, .bool t354]] ?_; (with_reducible refine (impl_TableAdd.calls k _ _ t348 t351 t352 t353 t354 t357 t360 _ ?side1 ?side2 A4.out).mono ?_); (case side1 => refine (Kd.R_reads' (e := 36) (base := w.heap.size) (ok := fun k_ => (True ∧ k_ ≠ gb356)) (n := t348.length) (c := co9) ?_).2.2; exact (by (with_reducible repeat (first | apply Kd.R_alloc | apply Kd.R_drewN | apply Kd.R_drew)); exact (Kd.R_mono (Kd.R_mono (Kd.R_far (p := ⟨gb356, 2, none⟩) (Kd.R_far (p := ⟨gb356, 1, none⟩) (Kd.R_far (p := ⟨gb356, 0, none⟩) (Kd.R_far (p := ⟨gb355, 1, none⟩) (Kd.R_far (p := ⟨gb355, 0, none⟩) (Kd.R_mono (Kd.R_types HO350.out BK355.out (by decide)) (fun k_ hk => (⟨hk, hk.1.2⟩ : _ ∧ k_ ≠ gb356))) (fun _ hk => hk.1.2) (.slice Ao9 t348.length co9)) (fun _ hk => hk.1.2) (.int .i64 t351)) (fun _ hk => hk.2) (.string t352)) (fun _ hk => hk.2) (.string t353)) (fun _ hk => hk.2) (.bool t354)) (fun _ h_ => h_.1)) (fun _ h_ => h_.1)))); (case side2 => exact (Kd.R_reads' HO350.out).2.1); rintro e w13 ⟨v358, rfl, ho0, hb⟩; refine ⟨_, rfl, ?_⟩; have HO359 := Aside0.mk (Kd.R_lower (Kd.R_newB (Kd.R_new' ho0 (Kd.R_lt (by (with_reducible repeat (first | apply Kd.R_alloc | apply Kd.R_drewN | apply Kd.R_drew)); exact (Kd.R_mono (Kd.R_mono (Kd.R_far (p := ⟨gb356, 2, none⟩) (Kd.R_far (p := ⟨gb356, 1, none⟩) (Kd.R_far (p := ⟨gb356, 0, none⟩) (Kd.R_far (p := ⟨gb355, 1, none⟩) (Kd.R_far (p := ⟨gb355, 0, none⟩) (Kd.R_mono (Kd.R_types HO350.out BK355.out (by decide)) (fun k_ hk => (⟨hk, hk.1.2⟩ : _ ∧ k_ ≠ gb356))) (fun _ hk => hk.1.2) (.slice Ao9 t348.length co9)) (fun _ hk => hk.1.2) (.int .i64 t351)) (fun _ hk => hk.2) (.string t352)) (fun _ hk => hk.2) (.string t353)) (fun _ hk => hk.2) (.bool t354)) (fun _ h_ => h_.1)) (fun _ h_ => h_.1))))) (g := gb356) (o := .cells #[.string t352, .string t353, .bool t354] 36 (0, 0)) (by (with_reducible repeat (first | refine blk_drewN ?_ _ | refine blk_drew ?_ | refine blk_alloc ?_ _)); refine blk_put (cs := #[.string t352, .string t353, .bool false]) ?_ 2 _ rfl; (with_reducible repeat (first | refine blk_drewN ?_ _ | refine blk_drew ?_ | refine blk_alloc ?_ _)); refine blk_put (cs := #[.string t352, .string (⟨#[]⟩ : ByteArray), .bool false]) ?_ 1 _ rfl; (with_reducible repeat (first | refine blk_drewN ?_ _ | refine blk_drew ?_ | refine blk_alloc ?_ _)); refine blk_put (cs := #[.string (⟨#[]⟩ : ByteArray), .string (⟨#[]⟩ : ByteArray), .bool false]) ?_ 0 _ rfl; (with_reducible repeat (first | refine blk_drewN ?_ _ | refine blk_drew ?_ | refine blk_alloc ?_ _)); refine blk_far ?_ NB356_355.out _; (with_reducible repeat (first | refine blk_drewN ?_ _ | refine blk_drew ?_ | refine blk_alloc ?_ _)); refine blk_far ?_ NB356_355.out _; exact zk BK356)) (below_size (zb HB))); replace HO350 := Aside0.mk (Kd.R_elder' (by (with_reducible repeat (first | apply Kd.R_alloc | apply Kd.R_drewN | apply Kd.R_drew)); exact (Kd.R_mono (Kd.R_mono (Kd.R_far (p := ⟨gb356, 2, none⟩) (Kd.R_far (p := ⟨gb356, 1, none⟩) (Kd.R_far (p := ⟨gb356, 0, none⟩) (Kd.R_far (p := ⟨gb355, 1, none⟩) (Kd.R_far (p := ⟨gb355, 0, none⟩) (Kd.R_mono (Kd.R_types HO350.out BK355.out (by decide)) (fun k_ hk => (⟨hk, hk.1.2⟩ : _ ∧ k_ ≠ gb356))) (fun _ hk => hk.1.2) (.slice Ao9 t348.length co9)) (fun _ hk => hk.1.2) (.int .i64 t351)) (fun _ hk => hk.2) (.string t352)) (fun _ hk => hk.2) (.string t353)) (fun _ hk => hk.2) (.bool t354)) (fun _ h_ => h_.1)) (fun _ h_ => h_.1))) (Kd.R_base ho0) hb); replace BK355 := Aside0.mk (blk_below (g := gb355) (o := .cells #[.slice Ao9 t348.length co9, .int .i64 t351] 25 (0, 0)) (by (with_reducible repeat (first | refine blk_drewN ?_ _ | refine blk_drew ?_ | refine blk_alloc ?_ _)); refine blk_far ?_ NB355_356.out _; (with_reducible repeat (first | refine blk_drewN ?_ _ | refine blk_drew ?_ | refine blk_alloc ?_ _)); refine blk_far ?_ NB355_356.out _; (with_reducible repeat (first | refine blk_drewN ?_ _ | refine blk_drew ?_ | refine blk_alloc ?_ _)); refine blk_far ?_ NB355_356.out _; (with_reducible repeat (first | refine blk_drewN ?_ _ | refine blk_drew ?_ | refine blk_alloc ?_ _)); refine blk_put (cs := #[.slice Ao9 t348.length co9, .int .i64 0]) ?_ 1 _ rfl; (with_reducible repeat (first | refine blk_drewN ?_ _ | refine blk_drew ?_ | refine blk_alloc ?_ _)); refine blk_put (cs := #[.slice none 0 0, .int .i64 0]) ?_ 0 _ rfl; exact zk BK355) hb); replace BK356 := Aside0.mk (blk_below (g := gb356) (o := .cells #[.string t352, .string t353, .bool t354] 36 (0, 0)) (by (with_reducible repeat (first | refine blk_drewN ?_ _ | refine blk_drew ?_ | refine blk_alloc ?_ _)); refine blk_put (cs := #[.string t352, .string t353, .bool false]) ?_ 2 _ rfl; (with_reducible repeat (first | refine blk_drewN ?_ _ | refine blk_drew ?_ | refine blk_alloc ?_ _)); refine blk_put (cs := #[.string t352, .string (⟨#[]⟩ : ByteArray), .bool false]) ?_ 1 _ rfl; (with_reducible repeat (first | refine blk_drewN ?_ _ | refine blk_drew ?_ | refine blk_alloc ?_ _)); refine blk_put (cs := #[.string (⟨#[]⟩ : ByteArray), .string (⟨#[]⟩ : ByteArray), .bool false]) ?_ 0 _ rfl; (with_reducible repeat (first | refine blk_drewN ?_ _ | refine blk_drew ?_ | refine blk_alloc ?_ _)); refine blk_far ?_ NB356_355.out _; (with_reducible repeat (first | refine blk_drewN ?_ _ | refine blk_drew ?_ | refine blk_alloc ?_ _)); refine blk_far ?_ NB356_355.out _; exact zk BK356) hb); replace HB := Aside0.mk (below_step (zb HB) hb); (try clear hb); (try clear hk); (try clear ho0)) | ((with_reducible refine gd 5 rfl ?_); (try (refine gate_guard (by rfl) ?_; dsimp only)); refine bx (N := 5) (cs := #[.slice none 0 0, .int .i64 0]) (t := 25) ?_; intro gb361 hg w14 hbox hb; replace HO350 := Aside0.mk (Kd.R_below (zr HO350) hb); replace HO359 := Aside0.mk (Kd.R_below (zr HO359) hb); have BK361 := Aside0.mk (hbox); have GW361 := Aside0.mk ((by rw [hg]; exact (below_size (zb HB)) : w.heap.size ≤ gb361)); have GE361 := Aside0.mk ((by rw [hg]; exact (below_size (zb HB)) : w.heap.size ≤ gb361)); replace HB := Aside0.mk (below_step (zb HB) hb); have NB355_361 := Aside0.mk ((by rw [hg]; exact Nat.ne_of_lt (blk_lt (g := gb355) (o := .cells #[.slice Ao9 t348.length co9, .int .i64 t351] 25 (0, 0)) (zk BK355)) : gb355 ≠ gb361)); have NB361_355 := Aside0.mk ((by rw [hg]; exact Nat.ne_of_gt (blk_lt (g := gb355) (o := .cells #[.slice Ao9 t348.length co9, .int .i64 t351] 25 (0, 0)) (zk BK355)) : gb361 ≠ gb355)); replace BK355 := Aside0.mk (blk_below (g := gb355) (o := .cells #[.slice Ao9 t348.length co9, .int .i64 t351] 25 (0, 0)) (zk BK355) hb); have NB356_361 := Aside0.mk ((by rw [hg]; exact Nat.ne_of_lt (blk_lt (g := gb356) (o := .cells #[.string t352, .string t353, .bool t354] 36 (0, 0)) (zk BK356)) : gb356 ≠ gb361)); have NB361_356 := Aside0.mk ((by rw [hg]; exact Nat.ne_of_gt (blk_lt (g := gb356) (o := .cells #[.string t352, .string t353, .bool t354] 36 (0, 0)) (zk BK356)) : gb361 ≠ gb356)); replace BK356 := Aside0.mk (blk_below (g := gb356) (o := .cells #[.string t352, .string t353, .bool t354] 36 (0, 0)) (zk BK356) hb); clear hb hbox hg; obtain ⟨Ao15, co15, eo15⟩ := Kd.R_slice HO359.out; subst eo15; have hnb16 := NB361_355.out; have hnc16 := NB355_361.out; have hnb17 := NB361_356.out; have hnc17 := NB356_361.out; have hcz18_0 : w14.cell? ⟨gb361, 0, none⟩ = some (.slice none 0 0) := (blk_cell BK361.out 0).trans rfl; have hcz18_1 : w14.cell? ⟨gb361, 1, none⟩ = some (.int .i64 0) := (blk_cell BK361.out 1).trans rfl; have hfz18_0 := blk_frozen BK361.out 0; have hfz18_1 := blk_frozen BK361.out 1))
  (try simp only [Act.put, s1, s2, s3])
  go_cut [41] (fun v41 wc => ∃ (kq : Nat) (x41_4 : Bool), v41 = .bool x41_4 ∧ Aside0 (laws_FnAddFind.j0 kq x41_4 t348 t351 t352 t353 t354 t357 t360 = some r) ∧ Aside0 (kq ≤ k) ∧ Aside0 (Kd.R k36 36 wc w.heap.size (fun k_ => some k_ ≠ ((.slice Ao15 t357.length co15) : Value).ownBlock ∧ k_ ≠ gb356) (.slice Ao9 t348.length co9) t348) ∧ Aside0 (Kd.R k36 36 wc w.heap.size (fun k_ => some k_ ≠ ((.slice Ao9 t348.length co9) : Value).ownBlock ∧ k_ ≠ gb356) (.slice Ao15 t357.length co15) t357) ∧ Aside0 (wc.heap[gb355]? = some (.cells #[(.slice Ao9 t348.length co9), .int .i64 t351] 25 (0, 0))) ∧ Aside0 (wc.heap[gb356]? = some (.cells #[.string t352, .string t353, .bool t354] 36 (0, 0))) ∧ Aside0 (wc.heap[gb361]? = some (.cells #[(.slice Ao15 t357.length co15), .int .i64 t360] 25 (0, 0))) ∧ Aside0 (Below w.heap.size w wc))
  case first =>
   have H := HC5.out
   clear HC5
   replace H := Option.bind_eq_some_iff.mp H
   obtain ⟨⟨t362, t365⟩, A190, H⟩ := H
   replace H : ((laws_lkTable.f k t357 t360 t362 t365).bind fun t366 => (if t366 = true then ((spec_TableOk.f k t348 t351).bind fun t367 => (if t367 = true then ((spec_FieldOk.f k t352 t353 t354).bind fun t368 => (if t368 = true then ((laws_lkOne.f t352 t353 t354).bind fun t369 => (laws_FnAddFind.j0 k (decide (t369 > t351)) t348 t351 t352 t353 t354 t357 t360)) else (laws_FnAddFind.j0 k true t348 t351 t352 t353 t354 t357 t360))) else (laws_FnAddFind.j0 k true t348 t351 t352 t353 t354 t357 t360))) else (laws_FnAddFind.j0 k true t348 t351 t352 t353 t354 t357 t360))) = some r := H
   have A19 := Aside0.mk A190
   clear A190
   replace H := Option.bind_eq_some_iff.mp H
   obtain ⟨t366, A200, H⟩ := H
   replace H : (if t366 = true then ((spec_TableOk.f k t348 t351).bind fun t367 => (if t367 = true then ((spec_FieldOk.f k t352 t353 t354).bind fun t368 => (if t368 = true then ((laws_lkOne.f t352 t353 t354).bind fun t369 => (laws_FnAddFind.j0 k (decide (t369 > t351)) t348 t351 t352 t353 t354 t357 t360)) else (laws_FnAddFind.j0 k true t348 t351 t352 t353 t354 t357 t360))) else (laws_FnAddFind.j0 k true t348 t351 t352 t353 t354 t357 t360))) else (laws_FnAddFind.j0 k true t348 t351 t352 t353 t354 t357 t360)) = some r := H
   have A20 := Aside0.mk A200
   clear A200
   by_cases c21 : t366 = true
   ·subst c21
    have H1 : ((spec_TableOk.f k t348 t351).bind fun t367 => (if t367 = true then ((spec_FieldOk.f k t352 t353 t354).bind fun t368 => (if t368 = true then ((laws_lkOne.f t352 t353 t354).bind fun t369 => (laws_FnAddFind.j0 k (decide (t369 > t351)) t348 t351 t352 t353 t354 t357 t360)) else (laws_FnAddFind.j0 k true t348 t351 t352 t353 t354 t357 t360))) else (laws_FnAddFind.j0 k true t348 t351 t352 t353 t354 t357 t360))) = some r := by rw [if_pos rfl] at H; exact H
    clear H
    have H := H1
    clear H1
    replace H := Option.bind_eq_some_iff.mp H
    obtain ⟨t367, A220, H⟩ := H
    replace H : (if t367 = true then ((spec_FieldOk.f k t352 t353 t354).bind fun t368 => (if t368 = true then ((laws_lkOne.f t352 t353 t354).bind fun t369 => (laws_FnAddFind.j0 k (decide (t369 > t351)) t348 t351 t352 t353 t354 t357 t360)) else (laws_FnAddFind.j0 k true t348 t351 t352 t353 t354 t357 t360))) else (laws_FnAddFind.j0 k true t348 t351 t352 t353 t354 t357 t360)) = some r := H
    have A22 := Aside0.mk A220
    clear A220
    by_cases c23 : t367 = true
    ·subst c23
     have H1 : ((spec_FieldOk.f k t352 t353 t354).bind fun t368 => (if t368 = true then ((laws_lkOne.f t352 t353 t354).bind fun t369 => (laws_FnAddFind.j0 k (decide (t369 > t351)) t348 t351 t352 t353 t354 t357 t360)) else (laws_FnAddFind.j0 k true t348 t351 t352 t353 t354 t357 t360))) = some r := by rw [if_pos rfl] at H; exact H
     clear H
     have H := H1
     clear H1
     replace H := Option.bind_eq_some_iff.mp H
     obtain ⟨t368, A240, H⟩ := H
     replace H : (if t368 = true then ((laws_lkOne.f t352 t353 t354).bind fun t369 => (laws_FnAddFind.j0 k (decide (t369 > t351)) t348 t351 t352 t353 t354 t357 t360)) else (laws_FnAddFind.j0 k true t348 t351 t352 t353 t354 t357 t360)) = some r := H
     have A24 := Aside0.mk A240
     clear A240
     by_cases c25 : t368 = true
     ·subst c25
      have H1 : ((laws_lkOne.f t352 t353 t354).bind fun t369 => (laws_FnAddFind.j0 k (decide (t369 > t351)) t348 t351 t352 t353 t354 t357 t360)) = some r := by rw [if_pos rfl] at H; exact H
      clear H
      have H := H1
      clear H1
      replace H := Option.bind_eq_some_iff.mp H
      obtain ⟨t369, A260, H⟩ := H
      replace H : (laws_FnAddFind.j0 k (decide (t369 > t351)) t348 t351 t352 t353 t354 t357 t360) = some r := H
      have A26 := Aside0.mk A260
      clear A260
      have H' := Aside0.mk H
      clear H
      try go_wp2
      have n0_ : Aside0 (Kd.R k36 36 ((w14.setCell ⟨gb361, 0, none⟩ (.slice Ao15 t357.length co15)).setCell ⟨gb361, 1, none⟩ (.int .i64 t360)) w.heap.size (fun k_ => some k_ ≠ (.slice Ao15 t357.length co15 : Value).ownBlock ∧ k_ ≠ gb356) (.slice Ao9 t348.length co9) t348) := ⟨by (with_reducible repeat (first | apply Kd.R_alloc | apply Kd.R_drewN | apply Kd.R_drew)); exact Kd.R_mono (Kd.R_far (p := ⟨gb361, 1, none⟩) (Kd.R_far (p := ⟨gb361, 0, none⟩) (Kd.R_types HO350.out BK361.out (by decide)) (fun _ hk => hk.2) (.slice Ao15 t357.length co15)) (fun _ hk => hk.2) (.int .i64 t360)) (fun _ hk => ⟨hk.1.2, hk.1.1.2⟩)⟩
      have n1_ : Aside0 (Kd.R k36 36 ((w14.setCell ⟨gb361, 0, none⟩ (.slice Ao15 t357.length co15)).setCell ⟨gb361, 1, none⟩ (.int .i64 t360)) w.heap.size (fun k_ => some k_ ≠ (.slice Ao9 t348.length co9 : Value).ownBlock ∧ k_ ≠ gb356) (.slice Ao15 t357.length co15) t357) := ⟨by (with_reducible repeat (first | apply Kd.R_alloc | apply Kd.R_drewN | apply Kd.R_drew)); exact Kd.R_mono (Kd.R_far (p := ⟨gb361, 1, none⟩) (Kd.R_far (p := ⟨gb361, 0, none⟩) (Kd.R_types HO359.out BK361.out (by decide)) (fun _ hk => hk.2) (.slice Ao15 t357.length co15)) (fun _ hk => hk.2) (.int .i64 t360)) (fun _ hk => ⟨hk.1.1.2, hk.1.2⟩)⟩
      have n2_ : Aside0 (((w14.setCell ⟨gb361, 0, none⟩ (.slice Ao15 t357.length co15)).setCell ⟨gb361, 1, none⟩ (.int .i64 t360)).heap[gb355]? = some (.cells #[.slice Ao9 t348.length co9, .int .i64 t351] 25 (0, 0))) := ⟨by (with_reducible repeat (first | refine blk_drewN ?_ _ | refine blk_drew ?_ | refine blk_alloc ?_ _)); refine blk_far ?_ NB355_361.out _; (with_reducible repeat (first | refine blk_drewN ?_ _ | refine blk_drew ?_ | refine blk_alloc ?_ _)); refine blk_far ?_ NB355_361.out _; exact zk BK355⟩
      have n3_ : Aside0 (((w14.setCell ⟨gb361, 0, none⟩ (.slice Ao15 t357.length co15)).setCell ⟨gb361, 1, none⟩ (.int .i64 t360)).heap[gb356]? = some (.cells #[.string t352, .string t353, .bool t354] 36 (0, 0))) := ⟨by (with_reducible repeat (first | refine blk_drewN ?_ _ | refine blk_drew ?_ | refine blk_alloc ?_ _)); refine blk_far ?_ NB356_361.out _; (with_reducible repeat (first | refine blk_drewN ?_ _ | refine blk_drew ?_ | refine blk_alloc ?_ _)); refine blk_far ?_ NB356_361.out _; exact zk BK356⟩
      have n4_ : Aside0 (((w14.setCell ⟨gb361, 0, none⟩ (.slice Ao15 t357.length co15)).setCell ⟨gb361, 1, none⟩ (.int .i64 t360)).heap[gb361]? = some (.cells #[.slice Ao15 t357.length co15, .int .i64 t360] 25 (0, 0))) := ⟨by (with_reducible repeat (first | refine blk_drewN ?_ _ | refine blk_drew ?_ | refine blk_alloc ?_ _)); refine blk_put (cs := #[.slice Ao15 t357.length co15, .int .i64 0]) ?_ 1 _ rfl; (with_reducible repeat (first | refine blk_drewN ?_ _ | refine blk_drew ?_ | refine blk_alloc ?_ _)); refine blk_put (cs := #[.slice none 0 0, .int .i64 0]) ?_ 0 _ rfl; exact zk BK361⟩
      have n5_ : Aside0 (Below w.heap.size w ((w14.setCell ⟨gb361, 0, none⟩ (.slice Ao15 t357.length co15)).setCell ⟨gb361, 1, none⟩ (.int .i64 t360))) := ⟨zb HB⟩
      (try clear HO350)
      (try clear HO359)
      (try clear BK355)
      (try clear BK356)
      (try clear BK361)
      (try clear HB)
      generalize ((w14.setCell ⟨gb361, 0, none⟩ (.slice Ao15 t357.length co15)).setCell ⟨gb361, 1, none⟩ (.int .i64 t360)) = w27 at n0_ n1_ n2_ n3_ n4_ n5_ ⊢
      have HO350 := n0_
      have HO359 := n1_
      have BK355 := n2_
      have BK356 := n3_
      have BK361 := n4_
      have HB := n5_
      clear n0_ n1_ n2_ n3_ n4_ n5_
      replace HO350 := Aside0.mk (Kd.R_drew HO350.out)
      replace HO359 := Aside0.mk (Kd.R_drew HO359.out)
      replace BK355 := Aside0.mk (blk_drew BK355.out)
      replace BK356 := Aside0.mk (blk_drew BK356.out)
      replace BK361 := Aside0.mk (blk_drew BK361.out)
      replace HB := Aside0.mk (below_drew1 HB.out)
      refine start_ (n := 23) (S := fun w' => w'.cell? ⟨gb361, 0, none⟩ = some (.slice Ao15 t357.length co15) ∧ w'.cell? ⟨gb361, 1, none⟩ = some (.int .i64 t360) ∧ w'.cell? ⟨gb355, 0, none⟩ = some (.slice Ao9 t348.length co9) ∧ w'.cell? ⟨gb355, 1, none⟩ = some (.int .i64 t351) ∧ w'.cell? ⟨gb356, 0, none⟩ = some (.string t352) ∧ w'.cell? ⟨gb356, 1, none⟩ = some (.string t353) ∧ w'.cell? ⟨gb356, 2, none⟩ = some (.bool t354)) (ds := []) #[false, false, false, false, false, false, false, false, false, false, false, false, false, false, false, false, false, false, false, false, false, false, false] (by kernel_rfl) rfl rfl ⟨(blk_cell BK361.out 0).trans rfl, (blk_cell BK361.out 1).trans rfl, (blk_cell BK355.out 0).trans rfl, (blk_cell BK355.out 1).trans rfl, (blk_cell BK356.out 0).trans rfl, (blk_cell BK356.out 1).trans rfl, (blk_cell BK356.out 2).trans rfl⟩ (fun hHeld => ?_); refine with_tabW laws_FnAddFind.tab5 laws_FnAddFind.bits5 (fun HT_ HW_ => ?_)
      generalize w27.drew = w28 at HO350 HO359 BK355 BK356 BK361 HB hHeld ⊢
      refine tk7 0 (some 19) (bm 23 1) rfl rfl hHeld ?_
      refine tk7 1 (some 20) (bm 23 3) rfl rfl hHeld ?_
      refine tk7 2 (some 21) (bm 23 7) rfl rfl hHeld ?_
      refine one_ (i := 3) (N := some 22) (bm 23 15) rfl rfl (one_of HT_.out (by kernel_rfl)) (by decide) (fun K hK => ?_)
      refine gs Try.func31 #[.agg #[.slice Ao9 t348.length co9, .int .i64 t351], .agg #[.string t352, .string t353, .bool t354]] ?_
      with_reducible refine (spec_TableAdd.calls k _ _ t348 t351 t352 t353 t354 t362 t365 _ ?side1 ?side2 A19.out).mono ?_
      (case side1 => exact zc (Kd.R_reads' HO350.out).2.2)
      (case side2 => exact (Kd.R_reads' HO350.out).2.1)
      rintro e w29 ⟨v363, rfl, ho0, hb⟩
      refine ⟨_, rfl, ?_⟩
      have HO364 := Aside0.mk (Kd.R_lower (Kd.R_newB (Kd.R_new' (Kd.R_new' ho0 (Kd.R_lt (zr HO350))) (Kd.R_lt (zr HO359))) (g := gb356) (o := .cells #[.string t352, .string t353, .bool t354] 36 (0, 0)) (zk BK356)) (below_size (zb HB)))
      replace HO350 := Aside0.mk (Kd.R_elder' (zr HO350) (Kd.R_base ho0) hb)
      replace HO359 := Aside0.mk (Kd.R_elder' (zr HO359) (Kd.R_base ho0) hb)
      replace BK355 := Aside0.mk (blk_below (g := gb355) (o := .cells #[.slice Ao9 t348.length co9, .int .i64 t351] 25 (0, 0)) (zk BK355) hb)
      replace BK356 := Aside0.mk (blk_below (g := gb356) (o := .cells #[.string t352, .string t353, .bool t354] 36 (0, 0)) (zk BK356) hb)
      replace BK361 := Aside0.mk (blk_below (g := gb361) (o := .cells #[.slice Ao15 t357.length co15, .int .i64 t360] 25 (0, 0)) (zk BK361) hb)
      replace HB := Aside0.mk (below_step (zb HB) hb)
      (try clear hb)
      (try clear ho0)
      obtain ⟨Ao30, co30, eo30⟩ := Kd.R_slice HO364.out
      (first | subst eo30 | (injection eo30 with f1_ f2_ f3_; have f4_ := f1_.symm; have f5_ := f3_.symm; clear f1_ f2_ f3_; subst f4_; subst f5_))
      refine hK.out _ _ ⟨(blk_cell BK361.out 0).trans rfl, (blk_cell BK361.out 1).trans rfl, (blk_cell BK355.out 0).trans rfl, (blk_cell BK355.out 1).trans rfl, (blk_cell BK356.out 0).trans rfl, (blk_cell BK356.out 1).trans rfl, (blk_cell BK356.out 2).trans rfl⟩ (fun hHeld => ?_)
      clear hK K
      refine nm ?_
      refine one_ (i := 4) (N := some 23) (bm 23 31) rfl rfl (one_of HT_.out (by kernel_rfl)) (by decide) (fun K hK => ?_)
      refine gs Try.func17 #[.agg #[.slice Ao15 t357.length co15, .int .i64 t360], .agg #[.slice Ao30 t362.length co30, .int .i64 t365]] ?_
      with_reducible refine (laws_lkTable.calls k _ _ t357 t360 _ _ t362 t365 true _ ?side1 ?side2 ?side3 ?side4 A20.out).mono ?_
      (case side1 => exact zc (Kd.R_reads' HO359.out).2.2)
      (case side2 => exact (Kd.R_reads' HO359.out).2.1)
      (case side3 => exact zc (Kd.R_reads' HO364.out).2.2)
      (case side4 => exact (Kd.R_reads' HO364.out).2.1)
      rintro e w31 ⟨rfl, hb⟩
      refine ⟨_, rfl, ?_⟩
      replace HO350 := Aside0.mk (Kd.R_below (zr HO350) hb)
      replace HO359 := Aside0.mk (Kd.R_below (zr HO359) hb)
      replace HO364 := Aside0.mk (Kd.R_below (zr HO364) hb)
      replace BK355 := Aside0.mk (blk_below (g := gb355) (o := .cells #[.slice Ao9 t348.length co9, .int .i64 t351] 25 (0, 0)) (zk BK355) hb)
      replace BK356 := Aside0.mk (blk_below (g := gb356) (o := .cells #[.string t352, .string t353, .bool t354] 36 (0, 0)) (zk BK356) hb)
      replace BK361 := Aside0.mk (blk_below (g := gb361) (o := .cells #[.slice Ao15 t357.length co15, .int .i64 t360] 25 (0, 0)) (zk BK361) hb)
      replace HB := Aside0.mk (below_step (zb HB) hb)
      (try clear hb)
      refine hK.out _ _ ⟨(blk_cell BK361.out 0).trans rfl, (blk_cell BK361.out 1).trans rfl, (blk_cell BK355.out 0).trans rfl, (blk_cell BK355.out 1).trans rfl, (blk_cell BK356.out 0).trans rfl, (blk_cell BK356.out 1).trans rfl, (blk_cell BK356.out 2).trans rfl⟩ (fun hHeld => ?_)
      clear hK K
      refine nm ?_
      refine pu 5 (some 24) (bm 23 63) rfl rfl ?_
      refine pu 6 (some 25) (bm 23 127) rfl rfl ?_
      refine tk7 7 (some 26) (bm 23 255) rfl rfl hHeld ?_
      refine one_ (i := 8) (N := some 27) (bm 23 511) rfl rfl (one_of HT_.out (by kernel_rfl)) (by decide) (fun K hK => ?_)
      refine gs Try.func19 #[.agg #[.slice Ao9 t348.length co9, .int .i64 t351]] ?_
      with_reducible refine (spec_TableOk.calls k _ _ t348 t351 true _ ?side1 ?side2 A22.out).mono ?_
      (case side1 => exact zc (Kd.R_reads' HO350.out).2.2)
      (case side2 => exact (Kd.R_reads' HO350.out).2.1)
      rintro e w32 ⟨rfl, hb⟩
      refine ⟨_, rfl, ?_⟩
      replace HO350 := Aside0.mk (Kd.R_below (zr HO350) hb)
      replace HO359 := Aside0.mk (Kd.R_below (zr HO359) hb)
      replace HO364 := Aside0.mk (Kd.R_below (zr HO364) hb)
      replace BK355 := Aside0.mk (blk_below (g := gb355) (o := .cells #[.slice Ao9 t348.length co9, .int .i64 t351] 25 (0, 0)) (zk BK355) hb)
      replace BK356 := Aside0.mk (blk_below (g := gb356) (o := .cells #[.string t352, .string t353, .bool t354] 36 (0, 0)) (zk BK356) hb)
      replace BK361 := Aside0.mk (blk_below (g := gb361) (o := .cells #[.slice Ao15 t357.length co15, .int .i64 t360] 25 (0, 0)) (zk BK361) hb)
      replace HB := Aside0.mk (below_step (zb HB) hb)
      (try clear hb)
      refine hK.out _ _ ⟨(blk_cell BK361.out 0).trans rfl, (blk_cell BK361.out 1).trans rfl, (blk_cell BK355.out 0).trans rfl, (blk_cell BK355.out 1).trans rfl, (blk_cell BK356.out 0).trans rfl, (blk_cell BK356.out 1).trans rfl, (blk_cell BK356.out 2).trans rfl⟩ (fun hHeld => ?_)
      clear hK K
      refine nm ?_
      refine pu 9 (some 28) (bm 23 1023) rfl rfl ?_
      refine pu 10 (some 29) (bm 23 2047) rfl rfl ?_
      refine pu 11 (some 30) (bm 23 4095) rfl rfl ?_
      refine tk7 12 (some 31) (bm 23 8191) rfl rfl hHeld ?_
      refine one_ (i := 13) (N := some 32) (bm 23 16383) rfl rfl (one_of HT_.out (by kernel_rfl)) (by decide) (fun K hK => ?_)
      refine gs Try.func32 #[.agg #[.string t352, .string t353, .bool t354]] ?_
      with_reducible refine (spec_FieldOk.calls k t352 t353 t354 true _ A24.out).mono ?_
      rintro e w33 ⟨rfl, hb⟩
      refine ⟨_, rfl, ?_⟩
      replace HO350 := Aside0.mk (Kd.R_below (zr HO350) hb)
      replace HO359 := Aside0.mk (Kd.R_below (zr HO359) hb)
      replace HO364 := Aside0.mk (Kd.R_below (zr HO364) hb)
      replace BK355 := Aside0.mk (blk_below (g := gb355) (o := .cells #[.slice Ao9 t348.length co9, .int .i64 t351] 25 (0, 0)) (zk BK355) hb)
      replace BK356 := Aside0.mk (blk_below (g := gb356) (o := .cells #[.string t352, .string t353, .bool t354] 36 (0, 0)) (zk BK356) hb)
      replace BK361 := Aside0.mk (blk_below (g := gb361) (o := .cells #[.slice Ao15 t357.length co15, .int .i64 t360] 25 (0, 0)) (zk BK361) hb)
      replace HB := Aside0.mk (below_step (zb HB) hb)
      (try clear hb)
      refine hK.out _ _ ⟨(blk_cell BK361.out 0).trans rfl, (blk_cell BK361.out 1).trans rfl, (blk_cell BK355.out 0).trans rfl, (blk_cell BK355.out 1).trans rfl, (blk_cell BK356.out 0).trans rfl, (blk_cell BK356.out 1).trans rfl, (blk_cell BK356.out 2).trans rfl⟩ (fun hHeld => ?_)
      clear hK K
      refine nm ?_
      refine pu 14 (some 33) (bm 23 32767) rfl rfl ?_
      refine pu 15 (some 34) (bm 23 65535) rfl rfl ?_
      refine pu 16 (some 35) (bm 23 131071) rfl rfl ?_
      refine pu 19 (some 38) (bm 23 655359) rfl rfl ?_
      refine tk7 17 (some 36) (bm 23 786431) rfl rfl hHeld ?_
      refine tk7 20 (some 39) (bm 23 1835007) rfl rfl hHeld ?_
      refine one_ (i := 18) (N := some 37) (bm 23 2097151) rfl rfl (one_of HT_.out (by kernel_rfl)) (by decide) (fun K hK => ?_)
      refine gs Try.func23 #[.agg #[.string t352, .string t353, .bool t354]] ?_
      with_reducible refine (laws_lkOne.calls t352 t353 t354 t369 _ A26.out).mono ?_
      rintro e w34 ⟨rfl, hb⟩
      refine ⟨_, rfl, ?_⟩
      replace HO350 := Aside0.mk (Kd.R_below (zr HO350) hb)
      replace HO359 := Aside0.mk (Kd.R_below (zr HO359) hb)
      replace HO364 := Aside0.mk (Kd.R_below (zr HO364) hb)
      replace BK355 := Aside0.mk (blk_below (g := gb355) (o := .cells #[.slice Ao9 t348.length co9, .int .i64 t351] 25 (0, 0)) (zk BK355) hb)
      replace BK356 := Aside0.mk (blk_below (g := gb356) (o := .cells #[.string t352, .string t353, .bool t354] 36 (0, 0)) (zk BK356) hb)
      replace BK361 := Aside0.mk (blk_below (g := gb361) (o := .cells #[.slice Ao15 t357.length co15, .int .i64 t360] 25 (0, 0)) (zk BK361) hb)
      replace HB := Aside0.mk (below_step (zb HB) hb)
      (try clear hb)
      refine hK.out _ _ ⟨(blk_cell BK361.out 0).trans rfl, (blk_cell BK361.out 1).trans rfl, (blk_cell BK355.out 0).trans rfl, (blk_cell BK355.out 1).trans rfl, (blk_cell BK356.out 0).trans rfl, (blk_cell BK356.out 1).trans rfl, (blk_cell BK356.out 2).trans rfl⟩ (fun hHeld => ?_)
      clear hK K
      refine nm ?_
      refine pu 21 (some 40) (bm 23 4194303) rfl rfl ?_
      refine pu 22 (some 41) (bm 23 8388607) rfl rfl ?_
      refine done_ (done_of HT_.out (by kernel_rfl)) ?_
      try go_wp2
      go_meet
      case rel => exact ⟨_, (decide (t369 > t351)), zs, H', ⟨by first | omega | exact Nat.le_refl _⟩, ⟨by (with_reducible repeat (first | apply Kd.R_alloc | apply Kd.R_drewN | apply Kd.R_drew)); exact Kd.R_mono HO350.out (fun _ hk => ⟨hk.1.1, hk.1.2⟩)⟩, ⟨by (with_reducible repeat (first | apply Kd.R_alloc | apply Kd.R_drewN | apply Kd.R_drew)); exact Kd.R_mono HO359.out (fun _ hk => ⟨hk.1.1, hk.1.2⟩)⟩, ⟨by exact zk BK355⟩, ⟨by exact zk BK356⟩, ⟨by exact zk BK361⟩, ⟨zb HB⟩⟩
     ·replace c25 := Bool.eq_false_iff.mpr c25
      subst c25
      have H1 : (laws_FnAddFind.j0 k true t348 t351 t352 t353 t354 t357 t360) = some r := by rw [if_neg (show ¬ (false = true) by decide)] at H; exact H
      clear H
      have H := H1
      clear H1
      have H' := Aside0.mk H
      clear H
      try go_wp2
      have n0_ : Aside0 (Kd.R k36 36 ((w14.setCell ⟨gb361, 0, none⟩ (.slice Ao15 t357.length co15)).setCell ⟨gb361, 1, none⟩ (.int .i64 t360)) w.heap.size (fun k_ => some k_ ≠ (.slice Ao15 t357.length co15 : Value).ownBlock ∧ k_ ≠ gb356) (.slice Ao9 t348.length co9) t348) := ⟨by (with_reducible repeat (first | apply Kd.R_alloc | apply Kd.R_drewN | apply Kd.R_drew)); exact Kd.R_mono (Kd.R_far (p := ⟨gb361, 1, none⟩) (Kd.R_far (p := ⟨gb361, 0, none⟩) (Kd.R_types HO350.out BK361.out (by decide)) (fun _ hk => hk.2) (.slice Ao15 t357.length co15)) (fun _ hk => hk.2) (.int .i64 t360)) (fun _ hk => ⟨hk.1.2, hk.1.1.2⟩)⟩
      have n1_ : Aside0 (Kd.R k36 36 ((w14.setCell ⟨gb361, 0, none⟩ (.slice Ao15 t357.length co15)).setCell ⟨gb361, 1, none⟩ (.int .i64 t360)) w.heap.size (fun k_ => some k_ ≠ (.slice Ao9 t348.length co9 : Value).ownBlock ∧ k_ ≠ gb356) (.slice Ao15 t357.length co15) t357) := ⟨by (with_reducible repeat (first | apply Kd.R_alloc | apply Kd.R_drewN | apply Kd.R_drew)); exact Kd.R_mono (Kd.R_far (p := ⟨gb361, 1, none⟩) (Kd.R_far (p := ⟨gb361, 0, none⟩) (Kd.R_types HO359.out BK361.out (by decide)) (fun _ hk => hk.2) (.slice Ao15 t357.length co15)) (fun _ hk => hk.2) (.int .i64 t360)) (fun _ hk => ⟨hk.1.1.2, hk.1.2⟩)⟩
      have n2_ : Aside0 (((w14.setCell ⟨gb361, 0, none⟩ (.slice Ao15 t357.length co15)).setCell ⟨gb361, 1, none⟩ (.int .i64 t360)).heap[gb355]? = some (.cells #[.slice Ao9 t348.length co9, .int .i64 t351] 25 (0, 0))) := ⟨by (with_reducible repeat (first | refine blk_drewN ?_ _ | refine blk_drew ?_ | refine blk_alloc ?_ _)); refine blk_far ?_ NB355_361.out _; (with_reducible repeat (first | refine blk_drewN ?_ _ | refine blk_drew ?_ | refine blk_alloc ?_ _)); refine blk_far ?_ NB355_361.out _; exact zk BK355⟩
      have n3_ : Aside0 (((w14.setCell ⟨gb361, 0, none⟩ (.slice Ao15 t357.length co15)).setCell ⟨gb361, 1, none⟩ (.int .i64 t360)).heap[gb356]? = some (.cells #[.string t352, .string t353, .bool t354] 36 (0, 0))) := ⟨by (with_reducible repeat (first | refine blk_drewN ?_ _ | refine blk_drew ?_ | refine blk_alloc ?_ _)); refine blk_far ?_ NB356_361.out _; (with_reducible repeat (first | refine blk_drewN ?_ _ | refine blk_drew ?_ | refine blk_alloc ?_ _)); refine blk_far ?_ NB356_361.out _; exact zk BK356⟩
      have n4_ : Aside0 (((w14.setCell ⟨gb361, 0, none⟩ (.slice Ao15 t357.length co15)).setCell ⟨gb361, 1, none⟩ (.int .i64 t360)).heap[gb361]? = some (.cells #[.slice Ao15 t357.length co15, .int .i64 t360] 25 (0, 0))) := ⟨by (with_reducible repeat (first | refine blk_drewN ?_ _ | refine blk_drew ?_ | refine blk_alloc ?_ _)); refine blk_put (cs := #[.slice Ao15 t357.length co15, .int .i64 0]) ?_ 1 _ rfl; (with_reducible repeat (first | refine blk_drewN ?_ _ | refine blk_drew ?_ | refine blk_alloc ?_ _)); refine blk_put (cs := #[.slice none 0 0, .int .i64 0]) ?_ 0 _ rfl; exact zk BK361⟩
      have n5_ : Aside0 (Below w.heap.size w ((w14.setCell ⟨gb361, 0, none⟩ (.slice Ao15 t357.length co15)).setCell ⟨gb361, 1, none⟩ (.int .i64 t360))) := ⟨zb HB⟩
      (try clear HO350)
      (try clear HO359)
      (try clear BK355)
      (try clear BK356)
      (try clear BK361)
      (try clear HB)
      generalize ((w14.setCell ⟨gb361, 0, none⟩ (.slice Ao15 t357.length co15)).setCell ⟨gb361, 1, none⟩ (.int .i64 t360)) = w35 at n0_ n1_ n2_ n3_ n4_ n5_ ⊢
      have HO350 := n0_
      have HO359 := n1_
      have BK355 := n2_
      have BK356 := n3_
      have BK361 := n4_
      have HB := n5_
      clear n0_ n1_ n2_ n3_ n4_ n5_
      replace HO350 := Aside0.mk (Kd.R_drew HO350.out)
      replace HO359 := Aside0.mk (Kd.R_drew HO359.out)
      replace BK355 := Aside0.mk (blk_drew BK355.out)
      replace BK356 := Aside0.mk (blk_drew BK356.out)
      replace BK361 := Aside0.mk (blk_drew BK361.out)
      replace HB := Aside0.mk (below_drew1 HB.out)
      refine start_ (n := 23) (S := fun w' => w'.cell? ⟨gb361, 0, none⟩ = some (.slice Ao15 t357.length co15) ∧ w'.cell? ⟨gb361, 1, none⟩ = some (.int .i64 t360) ∧ w'.cell? ⟨gb355, 0, none⟩ = some (.slice Ao9 t348.length co9) ∧ w'.cell? ⟨gb355, 1, none⟩ = some (.int .i64 t351) ∧ w'.cell? ⟨gb356, 0, none⟩ = some (.string t352) ∧ w'.cell? ⟨gb356, 1, none⟩ = some (.string t353) ∧ w'.cell? ⟨gb356, 2, none⟩ = some (.bool t354)) (ds := []) #[false, false, false, false, false, false, false, false, false, false, false, false, false, false, false, false, false, false, false, false, false, false, false] (by kernel_rfl) rfl rfl ⟨(blk_cell BK361.out 0).trans rfl, (blk_cell BK361.out 1).trans rfl, (blk_cell BK355.out 0).trans rfl, (blk_cell BK355.out 1).trans rfl, (blk_cell BK356.out 0).trans rfl, (blk_cell BK356.out 1).trans rfl, (blk_cell BK356.out 2).trans rfl⟩ (fun hHeld => ?_); refine with_tabW laws_FnAddFind.tab5 laws_FnAddFind.bits5 (fun HT_ HW_ => ?_)
      generalize w35.drew = w36 at HO350 HO359 BK355 BK356 BK361 HB hHeld ⊢
      refine tk7 0 (some 19) (bm 23 1) rfl rfl hHeld ?_
      refine tk7 1 (some 20) (bm 23 3) rfl rfl hHeld ?_
      refine tk7 2 (some 21) (bm 23 7) rfl rfl hHeld ?_
      refine one_ (i := 3) (N := some 22) (bm 23 15) rfl rfl (one_of HT_.out (by kernel_rfl)) (by decide) (fun K hK => ?_)
      refine gs Try.func31 #[.agg #[.slice Ao9 t348.length co9, .int .i64 t351], .agg #[.string t352, .string t353, .bool t354]] ?_
      with_reducible refine (spec_TableAdd.calls k _ _ t348 t351 t352 t353 t354 t362 t365 _ ?side1 ?side2 A19.out).mono ?_
      (case side1 => exact zc (Kd.R_reads' HO350.out).2.2)
      (case side2 => exact (Kd.R_reads' HO350.out).2.1)
      rintro e w37 ⟨v363, rfl, ho0, hb⟩
      refine ⟨_, rfl, ?_⟩
      have HO364 := Aside0.mk (Kd.R_lower (Kd.R_newB (Kd.R_new' (Kd.R_new' ho0 (Kd.R_lt (zr HO350))) (Kd.R_lt (zr HO359))) (g := gb356) (o := .cells #[.string t352, .string t353, .bool t354] 36 (0, 0)) (zk BK356)) (below_size (zb HB)))
      replace HO350 := Aside0.mk (Kd.R_elder' (zr HO350) (Kd.R_base ho0) hb)
      replace HO359 := Aside0.mk (Kd.R_elder' (zr HO359) (Kd.R_base ho0) hb)
      replace BK355 := Aside0.mk (blk_below (g := gb355) (o := .cells #[.slice Ao9 t348.length co9, .int .i64 t351] 25 (0, 0)) (zk BK355) hb)
      replace BK356 := Aside0.mk (blk_below (g := gb356) (o := .cells #[.string t352, .string t353, .bool t354] 36 (0, 0)) (zk BK356) hb)
      replace BK361 := Aside0.mk (blk_below (g := gb361) (o := .cells #[.slice Ao15 t357.length co15, .int .i64 t360] 25 (0, 0)) (zk BK361) hb)
      replace HB := Aside0.mk (below_step (zb HB) hb)
      (try clear hb)
      (try clear ho0)
      obtain ⟨Ao38, co38, eo38⟩ := Kd.R_slice HO364.out
      (first | subst eo38 | (injection eo38 with f1_ f2_ f3_; have f4_ := f1_.symm; have f5_ := f3_.symm; clear f1_ f2_ f3_; subst f4_; subst f5_))
      refine hK.out _ _ ⟨(blk_cell BK361.out 0).trans rfl, (blk_cell BK361.out 1).trans rfl, (blk_cell BK355.out 0).trans rfl, (blk_cell BK355.out 1).trans rfl, (blk_cell BK356.out 0).trans rfl, (blk_cell BK356.out 1).trans rfl, (blk_cell BK356.out 2).trans rfl⟩ (fun hHeld => ?_)
      clear hK K
      refine nm ?_
      refine one_ (i := 4) (N := some 23) (bm 23 31) rfl rfl (one_of HT_.out (by kernel_rfl)) (by decide) (fun K hK => ?_)
      refine gs Try.func17 #[.agg #[.slice Ao15 t357.length co15, .int .i64 t360], .agg #[.slice Ao38 t362.length co38, .int .i64 t365]] ?_
      with_reducible refine (laws_lkTable.calls k _ _ t357 t360 _ _ t362 t365 true _ ?side1 ?side2 ?side3 ?side4 A20.out).mono ?_
      (case side1 => exact zc (Kd.R_reads' HO359.out).2.2)
      (case side2 => exact (Kd.R_reads' HO359.out).2.1)
      (case side3 => exact zc (Kd.R_reads' HO364.out).2.2)
      (case side4 => exact (Kd.R_reads' HO364.out).2.1)
      rintro e w39 ⟨rfl, hb⟩
      refine ⟨_, rfl, ?_⟩
      replace HO350 := Aside0.mk (Kd.R_below (zr HO350) hb)
      replace HO359 := Aside0.mk (Kd.R_below (zr HO359) hb)
      replace HO364 := Aside0.mk (Kd.R_below (zr HO364) hb)
      replace BK355 := Aside0.mk (blk_below (g := gb355) (o := .cells #[.slice Ao9 t348.length co9, .int .i64 t351] 25 (0, 0)) (zk BK355) hb)
      replace BK356 := Aside0.mk (blk_below (g := gb356) (o := .cells #[.string t352, .string t353, .bool t354] 36 (0, 0)) (zk BK356) hb)
      replace BK361 := Aside0.mk (blk_below (g := gb361) (o := .cells #[.slice Ao15 t357.length co15, .int .i64 t360] 25 (0, 0)) (zk BK361) hb)
      replace HB := Aside0.mk (below_step (zb HB) hb)
      (try clear hb)
      refine hK.out _ _ ⟨(blk_cell BK361.out 0).trans rfl, (blk_cell BK361.out 1).trans rfl, (blk_cell BK355.out 0).trans rfl, (blk_cell BK355.out 1).trans rfl, (blk_cell BK356.out 0).trans rfl, (blk_cell BK356.out 1).trans rfl, (blk_cell BK356.out 2).trans rfl⟩ (fun hHeld => ?_)
      clear hK K
      refine nm ?_
      refine pu 5 (some 24) (bm 23 63) rfl rfl ?_
      refine pu 6 (some 25) (bm 23 127) rfl rfl ?_
      refine tk7 7 (some 26) (bm 23 255) rfl rfl hHeld ?_
      refine one_ (i := 8) (N := some 27) (bm 23 511) rfl rfl (one_of HT_.out (by kernel_rfl)) (by decide) (fun K hK => ?_)
      refine gs Try.func19 #[.agg #[.slice Ao9 t348.length co9, .int .i64 t351]] ?_
      with_reducible refine (spec_TableOk.calls k _ _ t348 t351 true _ ?side1 ?side2 A22.out).mono ?_
      (case side1 => exact zc (Kd.R_reads' HO350.out).2.2)
      (case side2 => exact (Kd.R_reads' HO350.out).2.1)
      rintro e w40 ⟨rfl, hb⟩
      refine ⟨_, rfl, ?_⟩
      replace HO350 := Aside0.mk (Kd.R_below (zr HO350) hb)
      replace HO359 := Aside0.mk (Kd.R_below (zr HO359) hb)
      replace HO364 := Aside0.mk (Kd.R_below (zr HO364) hb)
      replace BK355 := Aside0.mk (blk_below (g := gb355) (o := .cells #[.slice Ao9 t348.length co9, .int .i64 t351] 25 (0, 0)) (zk BK355) hb)
      replace BK356 := Aside0.mk (blk_below (g := gb356) (o := .cells #[.string t352, .string t353, .bool t354] 36 (0, 0)) (zk BK356) hb)
      replace BK361 := Aside0.mk (blk_below (g := gb361) (o := .cells #[.slice Ao15 t357.length co15, .int .i64 t360] 25 (0, 0)) (zk BK361) hb)
      replace HB := Aside0.mk (below_step (zb HB) hb)
      (try clear hb)
      refine hK.out _ _ ⟨(blk_cell BK361.out 0).trans rfl, (blk_cell BK361.out 1).trans rfl, (blk_cell BK355.out 0).trans rfl, (blk_cell BK355.out 1).trans rfl, (blk_cell BK356.out 0).trans rfl, (blk_cell BK356.out 1).trans rfl, (blk_cell BK356.out 2).trans rfl⟩ (fun hHeld => ?_)
      clear hK K
      refine nm ?_
      refine pu 9 (some 28) (bm 23 1023) rfl rfl ?_
      refine pu 10 (some 29) (bm 23 2047) rfl rfl ?_
      refine pu 11 (some 30) (bm 23 4095) rfl rfl ?_
      refine tk7 12 (some 31) (bm 23 8191) rfl rfl hHeld ?_
      refine one_ (i := 13) (N := some 32) (bm 23 16383) rfl rfl (one_of HT_.out (by kernel_rfl)) (by decide) (fun K hK => ?_)
      refine gs Try.func32 #[.agg #[.string t352, .string t353, .bool t354]] ?_
      with_reducible refine (spec_FieldOk.calls k t352 t353 t354 false _ A24.out).mono ?_
      rintro e w41 ⟨rfl, hb⟩
      refine ⟨_, rfl, ?_⟩
      replace HO350 := Aside0.mk (Kd.R_below (zr HO350) hb)
      replace HO359 := Aside0.mk (Kd.R_below (zr HO359) hb)
      replace HO364 := Aside0.mk (Kd.R_below (zr HO364) hb)
      replace BK355 := Aside0.mk (blk_below (g := gb355) (o := .cells #[.slice Ao9 t348.length co9, .int .i64 t351] 25 (0, 0)) (zk BK355) hb)
      replace BK356 := Aside0.mk (blk_below (g := gb356) (o := .cells #[.string t352, .string t353, .bool t354] 36 (0, 0)) (zk BK356) hb)
      replace BK361 := Aside0.mk (blk_below (g := gb361) (o := .cells #[.slice Ao15 t357.length co15, .int .i64 t360] 25 (0, 0)) (zk BK361) hb)
      replace HB := Aside0.mk (below_step (zb HB) hb)
      (try clear hb)
      refine hK.out _ _ ⟨(blk_cell BK361.out 0).trans rfl, (blk_cell BK361.out 1).trans rfl, (blk_cell BK355.out 0).trans rfl, (blk_cell BK355.out 1).trans rfl, (blk_cell BK356.out 0).trans rfl, (blk_cell BK356.out 1).trans rfl, (blk_cell BK356.out 2).trans rfl⟩ (fun hHeld => ?_)
      clear hK K
      refine nm ?_
      refine pu 14 (some 33) (bm 23 32767) rfl rfl ?_
      refine pu 15 (some 34) (bm 23 65535) rfl rfl ?_
      refine pu 16 (some 35) (bm 23 131071) rfl rfl ?_
      refine pv 17 (some 36) (bm 23 262143) rfl rfl ?_
      refine pv 18 (some 37) (bm 23 524287) rfl rfl ?_
      refine pv 19 (some 38) (bm 23 1048575) rfl rfl ?_
      refine pv 20 (some 39) (bm 23 2097151) rfl rfl ?_
      refine pv 21 (some 40) (bm 23 4194303) rfl rfl ?_
      refine pu 22 (some 41) (bm 23 8388607) rfl rfl ?_
      refine done_ (done_of HT_.out (by kernel_rfl)) ?_
      try go_wp2
      go_meet
      case rel => exact ⟨_, (true), zs, H', ⟨by first | omega | exact Nat.le_refl _⟩, ⟨by (with_reducible repeat (first | apply Kd.R_alloc | apply Kd.R_drewN | apply Kd.R_drew)); exact Kd.R_mono HO350.out (fun _ hk => ⟨hk.1.1, hk.1.2⟩)⟩, ⟨by (with_reducible repeat (first | apply Kd.R_alloc | apply Kd.R_drewN | apply Kd.R_drew)); exact Kd.R_mono HO359.out (fun _ hk => ⟨hk.1.1, hk.1.2⟩)⟩, ⟨by exact zk BK355⟩, ⟨by exact zk BK356⟩, ⟨by exact zk BK361⟩, ⟨zb HB⟩⟩
    ·replace c23 := Bool.eq_false_iff.mpr c23
     subst c23
     have H1 : (laws_FnAddFind.j0 k true t348 t351 t352 t353 t354 t357 t360) = some r := by rw [if_neg (show ¬ (false = true) by decide)] at H; exact H
     clear H
     have H := H1
     clear H1
     have H' := Aside0.mk H
     clear H
     try go_wp2
     have n0_ : Aside0 (Kd.R k36 36 ((w14.setCell ⟨gb361, 0, none⟩ (.slice Ao15 t357.length co15)).setCell ⟨gb361, 1, none⟩ (.int .i64 t360)) w.heap.size (fun k_ => some k_ ≠ (.slice Ao15 t357.length co15 : Value).ownBlock ∧ k_ ≠ gb356) (.slice Ao9 t348.length co9) t348) := ⟨by (with_reducible repeat (first | apply Kd.R_alloc | apply Kd.R_drewN | apply Kd.R_drew)); exact Kd.R_mono (Kd.R_far (p := ⟨gb361, 1, none⟩) (Kd.R_far (p := ⟨gb361, 0, none⟩) (Kd.R_types HO350.out BK361.out (by decide)) (fun _ hk => hk.2) (.slice Ao15 t357.length co15)) (fun _ hk => hk.2) (.int .i64 t360)) (fun _ hk => ⟨hk.1.2, hk.1.1.2⟩)⟩
     have n1_ : Aside0 (Kd.R k36 36 ((w14.setCell ⟨gb361, 0, none⟩ (.slice Ao15 t357.length co15)).setCell ⟨gb361, 1, none⟩ (.int .i64 t360)) w.heap.size (fun k_ => some k_ ≠ (.slice Ao9 t348.length co9 : Value).ownBlock ∧ k_ ≠ gb356) (.slice Ao15 t357.length co15) t357) := ⟨by (with_reducible repeat (first | apply Kd.R_alloc | apply Kd.R_drewN | apply Kd.R_drew)); exact Kd.R_mono (Kd.R_far (p := ⟨gb361, 1, none⟩) (Kd.R_far (p := ⟨gb361, 0, none⟩) (Kd.R_types HO359.out BK361.out (by decide)) (fun _ hk => hk.2) (.slice Ao15 t357.length co15)) (fun _ hk => hk.2) (.int .i64 t360)) (fun _ hk => ⟨hk.1.1.2, hk.1.2⟩)⟩
     have n2_ : Aside0 (((w14.setCell ⟨gb361, 0, none⟩ (.slice Ao15 t357.length co15)).setCell ⟨gb361, 1, none⟩ (.int .i64 t360)).heap[gb355]? = some (.cells #[.slice Ao9 t348.length co9, .int .i64 t351] 25 (0, 0))) := ⟨by (with_reducible repeat (first | refine blk_drewN ?_ _ | refine blk_drew ?_ | refine blk_alloc ?_ _)); refine blk_far ?_ NB355_361.out _; (with_reducible repeat (first | refine blk_drewN ?_ _ | refine blk_drew ?_ | refine blk_alloc ?_ _)); refine blk_far ?_ NB355_361.out _; exact zk BK355⟩
     have n3_ : Aside0 (((w14.setCell ⟨gb361, 0, none⟩ (.slice Ao15 t357.length co15)).setCell ⟨gb361, 1, none⟩ (.int .i64 t360)).heap[gb356]? = some (.cells #[.string t352, .string t353, .bool t354] 36 (0, 0))) := ⟨by (with_reducible repeat (first | refine blk_drewN ?_ _ | refine blk_drew ?_ | refine blk_alloc ?_ _)); refine blk_far ?_ NB356_361.out _; (with_reducible repeat (first | refine blk_drewN ?_ _ | refine blk_drew ?_ | refine blk_alloc ?_ _)); refine blk_far ?_ NB356_361.out _; exact zk BK356⟩
     have n4_ : Aside0 (((w14.setCell ⟨gb361, 0, none⟩ (.slice Ao15 t357.length co15)).setCell ⟨gb361, 1, none⟩ (.int .i64 t360)).heap[gb361]? = some (.cells #[.slice Ao15 t357.length co15, .int .i64 t360] 25 (0, 0))) := ⟨by (with_reducible repeat (first | refine blk_drewN ?_ _ | refine blk_drew ?_ | refine blk_alloc ?_ _)); refine blk_put (cs := #[.slice Ao15 t357.length co15, .int .i64 0]) ?_ 1 _ rfl; (with_reducible repeat (first | refine blk_drewN ?_ _ | refine blk_drew ?_ | refine blk_alloc ?_ _)); refine blk_put (cs := #[.slice none 0 0, .int .i64 0]) ?_ 0 _ rfl; exact zk BK361⟩
     have n5_ : Aside0 (Below w.heap.size w ((w14.setCell ⟨gb361, 0, none⟩ (.slice Ao15 t357.length co15)).setCell ⟨gb361, 1, none⟩ (.int .i64 t360))) := ⟨zb HB⟩
     (try clear HO350)
     (try clear HO359)
     (try clear BK355)
     (try clear BK356)
     (try clear BK361)
     (try clear HB)
     generalize ((w14.setCell ⟨gb361, 0, none⟩ (.slice Ao15 t357.length co15)).setCell ⟨gb361, 1, none⟩ (.int .i64 t360)) = w42 at n0_ n1_ n2_ n3_ n4_ n5_ ⊢
     have HO350 := n0_
     have HO359 := n1_
     have BK355 := n2_
     have BK356 := n3_
     have BK361 := n4_
     have HB := n5_
     clear n0_ n1_ n2_ n3_ n4_ n5_
     replace HO350 := Aside0.mk (Kd.R_drew HO350.out)
     replace HO359 := Aside0.mk (Kd.R_drew HO359.out)
     replace BK355 := Aside0.mk (blk_drew BK355.out)
     replace BK356 := Aside0.mk (blk_drew BK356.out)
     replace BK361 := Aside0.mk (blk_drew BK361.out)
     replace HB := Aside0.mk (below_drew1 HB.out)
     refine start_ (n := 23) (S := fun w' => w'.cell? ⟨gb361, 0, none⟩ = some (.slice Ao15 t357.length co15) ∧ w'.cell? ⟨gb361, 1, none⟩ = some (.int .i64 t360) ∧ w'.cell? ⟨gb355, 0, none⟩ = some (.slice Ao9 t348.length co9) ∧ w'.cell? ⟨gb355, 1, none⟩ = some (.int .i64 t351) ∧ w'.cell? ⟨gb356, 0, none⟩ = some (.string t352) ∧ w'.cell? ⟨gb356, 1, none⟩ = some (.string t353) ∧ w'.cell? ⟨gb356, 2, none⟩ = some (.bool t354)) (ds := []) #[false, false, false, false, false, false, false, false, false, false, false, false, false, false, false, false, false, false, false, false, false, false, false] (by kernel_rfl) rfl rfl ⟨(blk_cell BK361.out 0).trans rfl, (blk_cell BK361.out 1).trans rfl, (blk_cell BK355.out 0).trans rfl, (blk_cell BK355.out 1).trans rfl, (blk_cell BK356.out 0).trans rfl, (blk_cell BK356.out 1).trans rfl, (blk_cell BK356.out 2).trans rfl⟩ (fun hHeld => ?_); refine with_tabW laws_FnAddFind.tab5 laws_FnAddFind.bits5 (fun HT_ HW_ => ?_)
     generalize w42.drew = w43 at HO350 HO359 BK355 BK356 BK361 HB hHeld ⊢
     refine tk7 0 (some 19) (bm 23 1) rfl rfl hHeld ?_
     refine tk7 1 (some 20) (bm 23 3) rfl rfl hHeld ?_
     refine tk7 2 (some 21) (bm 23 7) rfl rfl hHeld ?_
     refine one_ (i := 3) (N := some 22) (bm 23 15) rfl rfl (one_of HT_.out (by kernel_rfl)) (by decide) (fun K hK => ?_)
     refine gs Try.func31 #[.agg #[.slice Ao9 t348.length co9, .int .i64 t351], .agg #[.string t352, .string t353, .bool t354]] ?_
     with_reducible refine (spec_TableAdd.calls k _ _ t348 t351 t352 t353 t354 t362 t365 _ ?side1 ?side2 A19.out).mono ?_
     (case side1 => exact zc (Kd.R_reads' HO350.out).2.2)
     (case side2 => exact (Kd.R_reads' HO350.out).2.1)
     rintro e w44 ⟨v363, rfl, ho0, hb⟩
     refine ⟨_, rfl, ?_⟩
     have HO364 := Aside0.mk (Kd.R_lower (Kd.R_newB (Kd.R_new' (Kd.R_new' ho0 (Kd.R_lt (zr HO350))) (Kd.R_lt (zr HO359))) (g := gb356) (o := .cells #[.string t352, .string t353, .bool t354] 36 (0, 0)) (zk BK356)) (below_size (zb HB)))
     replace HO350 := Aside0.mk (Kd.R_elder' (zr HO350) (Kd.R_base ho0) hb)
     replace HO359 := Aside0.mk (Kd.R_elder' (zr HO359) (Kd.R_base ho0) hb)
     replace BK355 := Aside0.mk (blk_below (g := gb355) (o := .cells #[.slice Ao9 t348.length co9, .int .i64 t351] 25 (0, 0)) (zk BK355) hb)
     replace BK356 := Aside0.mk (blk_below (g := gb356) (o := .cells #[.string t352, .string t353, .bool t354] 36 (0, 0)) (zk BK356) hb)
     replace BK361 := Aside0.mk (blk_below (g := gb361) (o := .cells #[.slice Ao15 t357.length co15, .int .i64 t360] 25 (0, 0)) (zk BK361) hb)
     replace HB := Aside0.mk (below_step (zb HB) hb)
     (try clear hb)
     (try clear ho0)
     obtain ⟨Ao45, co45, eo45⟩ := Kd.R_slice HO364.out
     (first | subst eo45 | (injection eo45 with f1_ f2_ f3_; have f4_ := f1_.symm; have f5_ := f3_.symm; clear f1_ f2_ f3_; subst f4_; subst f5_))
     refine hK.out _ _ ⟨(blk_cell BK361.out 0).trans rfl, (blk_cell BK361.out 1).trans rfl, (blk_cell BK355.out 0).trans rfl, (blk_cell BK355.out 1).trans rfl, (blk_cell BK356.out 0).trans rfl, (blk_cell BK356.out 1).trans rfl, (blk_cell BK356.out 2).trans rfl⟩ (fun hHeld => ?_)
     clear hK K
     refine nm ?_
     refine one_ (i := 4) (N := some 23) (bm 23 31) rfl rfl (one_of HT_.out (by kernel_rfl)) (by decide) (fun K hK => ?_)
     refine gs Try.func17 #[.agg #[.slice Ao15 t357.length co15, .int .i64 t360], .agg #[.slice Ao45 t362.length co45, .int .i64 t365]] ?_
     with_reducible refine (laws_lkTable.calls k _ _ t357 t360 _ _ t362 t365 true _ ?side1 ?side2 ?side3 ?side4 A20.out).mono ?_
     (case side1 => exact zc (Kd.R_reads' HO359.out).2.2)
     (case side2 => exact (Kd.R_reads' HO359.out).2.1)
     (case side3 => exact zc (Kd.R_reads' HO364.out).2.2)
     (case side4 => exact (Kd.R_reads' HO364.out).2.1)
     rintro e w46 ⟨rfl, hb⟩
     refine ⟨_, rfl, ?_⟩
     replace HO350 := Aside0.mk (Kd.R_below (zr HO350) hb)
     replace HO359 := Aside0.mk (Kd.R_below (zr HO359) hb)
     replace HO364 := Aside0.mk (Kd.R_below (zr HO364) hb)
     replace BK355 := Aside0.mk (blk_below (g := gb355) (o := .cells #[.slice Ao9 t348.length co9, .int .i64 t351] 25 (0, 0)) (zk BK355) hb)
     replace BK356 := Aside0.mk (blk_below (g := gb356) (o := .cells #[.string t352, .string t353, .bool t354] 36 (0, 0)) (zk BK356) hb)
     replace BK361 := Aside0.mk (blk_below (g := gb361) (o := .cells #[.slice Ao15 t357.length co15, .int .i64 t360] 25 (0, 0)) (zk BK361) hb)
     replace HB := Aside0.mk (below_step (zb HB) hb)
     (try clear hb)
     refine hK.out _ _ ⟨(blk_cell BK361.out 0).trans rfl, (blk_cell BK361.out 1).trans rfl, (blk_cell BK355.out 0).trans rfl, (blk_cell BK355.out 1).trans rfl, (blk_cell BK356.out 0).trans rfl, (blk_cell BK356.out 1).trans rfl, (blk_cell BK356.out 2).trans rfl⟩ (fun hHeld => ?_)
     clear hK K
     refine nm ?_
     refine pu 5 (some 24) (bm 23 63) rfl rfl ?_
     refine pu 6 (some 25) (bm 23 127) rfl rfl ?_
     refine tk7 7 (some 26) (bm 23 255) rfl rfl hHeld ?_
     refine one_ (i := 8) (N := some 27) (bm 23 511) rfl rfl (one_of HT_.out (by kernel_rfl)) (by decide) (fun K hK => ?_)
     refine gs Try.func19 #[.agg #[.slice Ao9 t348.length co9, .int .i64 t351]] ?_
     with_reducible refine (spec_TableOk.calls k _ _ t348 t351 false _ ?side1 ?side2 A22.out).mono ?_
     (case side1 => exact zc (Kd.R_reads' HO350.out).2.2)
     (case side2 => exact (Kd.R_reads' HO350.out).2.1)
     rintro e w47 ⟨rfl, hb⟩
     refine ⟨_, rfl, ?_⟩
     replace HO350 := Aside0.mk (Kd.R_below (zr HO350) hb)
     replace HO359 := Aside0.mk (Kd.R_below (zr HO359) hb)
     replace HO364 := Aside0.mk (Kd.R_below (zr HO364) hb)
     replace BK355 := Aside0.mk (blk_below (g := gb355) (o := .cells #[.slice Ao9 t348.length co9, .int .i64 t351] 25 (0, 0)) (zk BK355) hb)
     replace BK356 := Aside0.mk (blk_below (g := gb356) (o := .cells #[.string t352, .string t353, .bool t354] 36 (0, 0)) (zk BK356) hb)
     replace BK361 := Aside0.mk (blk_below (g := gb361) (o := .cells #[.slice Ao15 t357.length co15, .int .i64 t360] 25 (0, 0)) (zk BK361) hb)
     replace HB := Aside0.mk (below_step (zb HB) hb)
     (try clear hb)
     refine hK.out _ _ ⟨(blk_cell BK361.out 0).trans rfl, (blk_cell BK361.out 1).trans rfl, (blk_cell BK355.out 0).trans rfl, (blk_cell BK355.out 1).trans rfl, (blk_cell BK356.out 0).trans rfl, (blk_cell BK356.out 1).trans rfl, (blk_cell BK356.out 2).trans rfl⟩ (fun hHeld => ?_)
     clear hK K
     refine nm ?_
     refine pu 9 (some 28) (bm 23 1023) rfl rfl ?_
     refine pu 10 (some 29) (bm 23 2047) rfl rfl ?_
     refine pu 11 (some 30) (bm 23 4095) rfl rfl ?_
     refine pv 12 (some 31) (bm 23 8191) rfl rfl ?_
     refine pv 13 (some 32) (bm 23 16383) rfl rfl ?_
     refine pv 14 (some 33) (bm 23 32767) rfl rfl ?_
     refine pu 15 (some 34) (bm 23 65535) rfl rfl ?_
     refine pu 16 (some 35) (bm 23 131071) rfl rfl ?_
     refine pv 17 (some 36) (bm 23 262143) rfl rfl ?_
     refine pv 18 (some 37) (bm 23 524287) rfl rfl ?_
     refine pv 19 (some 38) (bm 23 1048575) rfl rfl ?_
     refine pv 20 (some 39) (bm 23 2097151) rfl rfl ?_
     refine pv 21 (some 40) (bm 23 4194303) rfl rfl ?_
     refine pu 22 (some 41) (bm 23 8388607) rfl rfl ?_
     refine done_ (done_of HT_.out (by kernel_rfl)) ?_
     try go_wp2
     go_meet
     case rel => exact ⟨_, (true), zs, H', ⟨by first | omega | exact Nat.le_refl _⟩, ⟨by (with_reducible repeat (first | apply Kd.R_alloc | apply Kd.R_drewN | apply Kd.R_drew)); exact Kd.R_mono HO350.out (fun _ hk => ⟨hk.1.1, hk.1.2⟩)⟩, ⟨by (with_reducible repeat (first | apply Kd.R_alloc | apply Kd.R_drewN | apply Kd.R_drew)); exact Kd.R_mono HO359.out (fun _ hk => ⟨hk.1.1, hk.1.2⟩)⟩, ⟨by exact zk BK355⟩, ⟨by exact zk BK356⟩, ⟨by exact zk BK361⟩, ⟨zb HB⟩⟩
   ·replace c21 := Bool.eq_false_iff.mpr c21
    subst c21
    have H1 : (laws_FnAddFind.j0 k true t348 t351 t352 t353 t354 t357 t360) = some r := by rw [if_neg (show ¬ (false = true) by decide)] at H; exact H
    clear H
    have H := H1
    clear H1
    have H' := Aside0.mk H
    clear H
    try go_wp2
    have n0_ : Aside0 (Kd.R k36 36 ((w14.setCell ⟨gb361, 0, none⟩ (.slice Ao15 t357.length co15)).setCell ⟨gb361, 1, none⟩ (.int .i64 t360)) w.heap.size (fun k_ => some k_ ≠ (.slice Ao15 t357.length co15 : Value).ownBlock ∧ k_ ≠ gb356) (.slice Ao9 t348.length co9) t348) := ⟨by (with_reducible repeat (first | apply Kd.R_alloc | apply Kd.R_drewN | apply Kd.R_drew)); exact Kd.R_mono (Kd.R_far (p := ⟨gb361, 1, none⟩) (Kd.R_far (p := ⟨gb361, 0, none⟩) (Kd.R_types HO350.out BK361.out (by decide)) (fun _ hk => hk.2) (.slice Ao15 t357.length co15)) (fun _ hk => hk.2) (.int .i64 t360)) (fun _ hk => ⟨hk.1.2, hk.1.1.2⟩)⟩
    have n1_ : Aside0 (Kd.R k36 36 ((w14.setCell ⟨gb361, 0, none⟩ (.slice Ao15 t357.length co15)).setCell ⟨gb361, 1, none⟩ (.int .i64 t360)) w.heap.size (fun k_ => some k_ ≠ (.slice Ao9 t348.length co9 : Value).ownBlock ∧ k_ ≠ gb356) (.slice Ao15 t357.length co15) t357) := ⟨by (with_reducible repeat (first | apply Kd.R_alloc | apply Kd.R_drewN | apply Kd.R_drew)); exact Kd.R_mono (Kd.R_far (p := ⟨gb361, 1, none⟩) (Kd.R_far (p := ⟨gb361, 0, none⟩) (Kd.R_types HO359.out BK361.out (by decide)) (fun _ hk => hk.2) (.slice Ao15 t357.length co15)) (fun _ hk => hk.2) (.int .i64 t360)) (fun _ hk => ⟨hk.1.1.2, hk.1.2⟩)⟩
    have n2_ : Aside0 (((w14.setCell ⟨gb361, 0, none⟩ (.slice Ao15 t357.length co15)).setCell ⟨gb361, 1, none⟩ (.int .i64 t360)).heap[gb355]? = some (.cells #[.slice Ao9 t348.length co9, .int .i64 t351] 25 (0, 0))) := ⟨by (with_reducible repeat (first | refine blk_drewN ?_ _ | refine blk_drew ?_ | refine blk_alloc ?_ _)); refine blk_far ?_ NB355_361.out _; (with_reducible repeat (first | refine blk_drewN ?_ _ | refine blk_drew ?_ | refine blk_alloc ?_ _)); refine blk_far ?_ NB355_361.out _; exact zk BK355⟩
    have n3_ : Aside0 (((w14.setCell ⟨gb361, 0, none⟩ (.slice Ao15 t357.length co15)).setCell ⟨gb361, 1, none⟩ (.int .i64 t360)).heap[gb356]? = some (.cells #[.string t352, .string t353, .bool t354] 36 (0, 0))) := ⟨by (with_reducible repeat (first | refine blk_drewN ?_ _ | refine blk_drew ?_ | refine blk_alloc ?_ _)); refine blk_far ?_ NB356_361.out _; (with_reducible repeat (first | refine blk_drewN ?_ _ | refine blk_drew ?_ | refine blk_alloc ?_ _)); refine blk_far ?_ NB356_361.out _; exact zk BK356⟩
    have n4_ : Aside0 (((w14.setCell ⟨gb361, 0, none⟩ (.slice Ao15 t357.length co15)).setCell ⟨gb361, 1, none⟩ (.int .i64 t360)).heap[gb361]? = some (.cells #[.slice Ao15 t357.length co15, .int .i64 t360] 25 (0, 0))) := ⟨by (with_reducible repeat (first | refine blk_drewN ?_ _ | refine blk_drew ?_ | refine blk_alloc ?_ _)); refine blk_put (cs := #[.slice Ao15 t357.length co15, .int .i64 0]) ?_ 1 _ rfl; (with_reducible repeat (first | refine blk_drewN ?_ _ | refine blk_drew ?_ | refine blk_alloc ?_ _)); refine blk_put (cs := #[.slice none 0 0, .int .i64 0]) ?_ 0 _ rfl; exact zk BK361⟩
    have n5_ : Aside0 (Below w.heap.size w ((w14.setCell ⟨gb361, 0, none⟩ (.slice Ao15 t357.length co15)).setCell ⟨gb361, 1, none⟩ (.int .i64 t360))) := ⟨zb HB⟩
    (try clear HO350)
    (try clear HO359)
    (try clear BK355)
    (try clear BK356)
    (try clear BK361)
    (try clear HB)
    generalize ((w14.setCell ⟨gb361, 0, none⟩ (.slice Ao15 t357.length co15)).setCell ⟨gb361, 1, none⟩ (.int .i64 t360)) = w48 at n0_ n1_ n2_ n3_ n4_ n5_ ⊢
    have HO350 := n0_
    have HO359 := n1_
    have BK355 := n2_
    have BK356 := n3_
    have BK361 := n4_
    have HB := n5_
    clear n0_ n1_ n2_ n3_ n4_ n5_
    replace HO350 := Aside0.mk (Kd.R_drew HO350.out)
    replace HO359 := Aside0.mk (Kd.R_drew HO359.out)
    replace BK355 := Aside0.mk (blk_drew BK355.out)
    replace BK356 := Aside0.mk (blk_drew BK356.out)
    replace BK361 := Aside0.mk (blk_drew BK361.out)
    replace HB := Aside0.mk (below_drew1 HB.out)
    refine start_ (n := 23) (S := fun w' => w'.cell? ⟨gb361, 0, none⟩ = some (.slice Ao15 t357.length co15) ∧ w'.cell? ⟨gb361, 1, none⟩ = some (.int .i64 t360) ∧ w'.cell? ⟨gb355, 0, none⟩ = some (.slice Ao9 t348.length co9) ∧ w'.cell? ⟨gb355, 1, none⟩ = some (.int .i64 t351) ∧ w'.cell? ⟨gb356, 0, none⟩ = some (.string t352) ∧ w'.cell? ⟨gb356, 1, none⟩ = some (.string t353) ∧ w'.cell? ⟨gb356, 2, none⟩ = some (.bool t354)) (ds := []) #[false, false, false, false, false, false, false, false, false, false, false, false, false, false, false, false, false, false, false, false, false, false, false] (by kernel_rfl) rfl rfl ⟨(blk_cell BK361.out 0).trans rfl, (blk_cell BK361.out 1).trans rfl, (blk_cell BK355.out 0).trans rfl, (blk_cell BK355.out 1).trans rfl, (blk_cell BK356.out 0).trans rfl, (blk_cell BK356.out 1).trans rfl, (blk_cell BK356.out 2).trans rfl⟩ (fun hHeld => ?_); refine with_tabW laws_FnAddFind.tab5 laws_FnAddFind.bits5 (fun HT_ HW_ => ?_)
    generalize w48.drew = w49 at HO350 HO359 BK355 BK356 BK361 HB hHeld ⊢
    refine tk7 0 (some 19) (bm 23 1) rfl rfl hHeld ?_
    refine tk7 1 (some 20) (bm 23 3) rfl rfl hHeld ?_
    refine tk7 2 (some 21) (bm 23 7) rfl rfl hHeld ?_
    refine one_ (i := 3) (N := some 22) (bm 23 15) rfl rfl (one_of HT_.out (by kernel_rfl)) (by decide) (fun K hK => ?_)
    refine gs Try.func31 #[.agg #[.slice Ao9 t348.length co9, .int .i64 t351], .agg #[.string t352, .string t353, .bool t354]] ?_
    with_reducible refine (spec_TableAdd.calls k _ _ t348 t351 t352 t353 t354 t362 t365 _ ?side1 ?side2 A19.out).mono ?_
    (case side1 => exact zc (Kd.R_reads' HO350.out).2.2)
    (case side2 => exact (Kd.R_reads' HO350.out).2.1)
    rintro e w50 ⟨v363, rfl, ho0, hb⟩
    refine ⟨_, rfl, ?_⟩
    have HO364 := Aside0.mk (Kd.R_lower (Kd.R_newB (Kd.R_new' (Kd.R_new' ho0 (Kd.R_lt (zr HO350))) (Kd.R_lt (zr HO359))) (g := gb356) (o := .cells #[.string t352, .string t353, .bool t354] 36 (0, 0)) (zk BK356)) (below_size (zb HB)))
    replace HO350 := Aside0.mk (Kd.R_elder' (zr HO350) (Kd.R_base ho0) hb)
    replace HO359 := Aside0.mk (Kd.R_elder' (zr HO359) (Kd.R_base ho0) hb)
    replace BK355 := Aside0.mk (blk_below (g := gb355) (o := .cells #[.slice Ao9 t348.length co9, .int .i64 t351] 25 (0, 0)) (zk BK355) hb)
    replace BK356 := Aside0.mk (blk_below (g := gb356) (o := .cells #[.string t352, .string t353, .bool t354] 36 (0, 0)) (zk BK356) hb)
    replace BK361 := Aside0.mk (blk_below (g := gb361) (o := .cells #[.slice Ao15 t357.length co15, .int .i64 t360] 25 (0, 0)) (zk BK361) hb)
    replace HB := Aside0.mk (below_step (zb HB) hb)
    (try clear hb)
    (try clear ho0)
    obtain ⟨Ao51, co51, eo51⟩ := Kd.R_slice HO364.out
    (first | subst eo51 | (injection eo51 with f1_ f2_ f3_; have f4_ := f1_.symm; have f5_ := f3_.symm; clear f1_ f2_ f3_; subst f4_; subst f5_))
    refine hK.out _ _ ⟨(blk_cell BK361.out 0).trans rfl, (blk_cell BK361.out 1).trans rfl, (blk_cell BK355.out 0).trans rfl, (blk_cell BK355.out 1).trans rfl, (blk_cell BK356.out 0).trans rfl, (blk_cell BK356.out 1).trans rfl, (blk_cell BK356.out 2).trans rfl⟩ (fun hHeld => ?_)
    clear hK K
    refine nm ?_
    refine one_ (i := 4) (N := some 23) (bm 23 31) rfl rfl (one_of HT_.out (by kernel_rfl)) (by decide) (fun K hK => ?_)
    refine gs Try.func17 #[.agg #[.slice Ao15 t357.length co15, .int .i64 t360], .agg #[.slice Ao51 t362.length co51, .int .i64 t365]] ?_
    with_reducible refine (laws_lkTable.calls k _ _ t357 t360 _ _ t362 t365 false _ ?side1 ?side2 ?side3 ?side4 A20.out).mono ?_
    (case side1 => exact zc (Kd.R_reads' HO359.out).2.2)
    (case side2 => exact (Kd.R_reads' HO359.out).2.1)
    (case side3 => exact zc (Kd.R_reads' HO364.out).2.2)
    (case side4 => exact (Kd.R_reads' HO364.out).2.1)
    rintro e w52 ⟨rfl, hb⟩
    refine ⟨_, rfl, ?_⟩
    replace HO350 := Aside0.mk (Kd.R_below (zr HO350) hb)
    replace HO359 := Aside0.mk (Kd.R_below (zr HO359) hb)
    replace HO364 := Aside0.mk (Kd.R_below (zr HO364) hb)
    replace BK355 := Aside0.mk (blk_below (g := gb355) (o := .cells #[.slice Ao9 t348.length co9, .int .i64 t351] 25 (0, 0)) (zk BK355) hb)
    replace BK356 := Aside0.mk (blk_below (g := gb356) (o := .cells #[.string t352, .string t353, .bool t354] 36 (0, 0)) (zk BK356) hb)
    replace BK361 := Aside0.mk (blk_below (g := gb361) (o := .cells #[.slice Ao15 t357.length co15, .int .i64 t360] 25 (0, 0)) (zk BK361) hb)
    replace HB := Aside0.mk (below_step (zb HB) hb)
    (try clear hb)
    refine hK.out _ _ ⟨(blk_cell BK361.out 0).trans rfl, (blk_cell BK361.out 1).trans rfl, (blk_cell BK355.out 0).trans rfl, (blk_cell BK355.out 1).trans rfl, (blk_cell BK356.out 0).trans rfl, (blk_cell BK356.out 1).trans rfl, (blk_cell BK356.out 2).trans rfl⟩ (fun hHeld => ?_)
    clear hK K
    refine nm ?_
    refine pu 5 (some 24) (bm 23 63) rfl rfl ?_
    refine pu 6 (some 25) (bm 23 127) rfl rfl ?_
    refine pv 7 (some 26) (bm 23 255) rfl rfl ?_
    refine pv 8 (some 27) (bm 23 511) rfl rfl ?_
    refine pv 9 (some 28) (bm 23 1023) rfl rfl ?_
    refine pu 10 (some 29) (bm 23 2047) rfl rfl ?_
    refine pu 11 (some 30) (bm 23 4095) rfl rfl ?_
    refine pv 12 (some 31) (bm 23 8191) rfl rfl ?_
    refine pv 13 (some 32) (bm 23 16383) rfl rfl ?_
    refine pv 14 (some 33) (bm 23 32767) rfl rfl ?_
    refine pu 15 (some 34) (bm 23 65535) rfl rfl ?_
    refine pu 16 (some 35) (bm 23 131071) rfl rfl ?_
    refine pv 17 (some 36) (bm 23 262143) rfl rfl ?_
    refine pv 18 (some 37) (bm 23 524287) rfl rfl ?_
    refine pv 19 (some 38) (bm 23 1048575) rfl rfl ?_
    refine pv 20 (some 39) (bm 23 2097151) rfl rfl ?_
    refine pv 21 (some 40) (bm 23 4194303) rfl rfl ?_
    refine pu 22 (some 41) (bm 23 8388607) rfl rfl ?_
    refine done_ (done_of HT_.out (by kernel_rfl)) ?_
    try go_wp2
    go_meet
    case rel => exact ⟨_, (true), zs, H', ⟨by first | omega | exact Nat.le_refl _⟩, ⟨by (with_reducible repeat (first | apply Kd.R_alloc | apply Kd.R_drewN | apply Kd.R_drew)); exact Kd.R_mono HO350.out (fun _ hk => ⟨hk.1.1, hk.1.2⟩)⟩, ⟨by (with_reducible repeat (first | apply Kd.R_alloc | apply Kd.R_drewN | apply Kd.R_drew)); exact Kd.R_mono HO359.out (fun _ hk => ⟨hk.1.1, hk.1.2⟩)⟩, ⟨by exact zk BK355⟩, ⟨by exact zk BK356⟩, ⟨by exact zk BK361⟩, ⟨zb HB⟩⟩
  case rest =>
   clear HC5
   try clear c1
   try clear c2
   try clear p2
   try clear c3
   try clear c17
   try clear c19
   try clear c21
   try clear c23
   try clear c31
   obtain ⟨kq, x41_4, rfl, HA, HJ4, HO_356000, HO_362000, BK355, BK356, BK361, HB⟩ := hcut
   cases kq with
   | zero => exact absurd HA.out (by simp [laws_FnAddFind.j0])
   | succ kj4 =>
    have H := HA.out
    clear HA
    simp only [laws_FnAddFind.j0] at H
    by_cases c53 : x41_4 = true
    ·subst c53
     have H1 : ((spec_TableAdd.f kj4 t348 t351 t352 t353 t354).bind fun bt370 => ((laws_lkTable.f kj4 t357 t360 bt370.1 bt370.2).bind fun t374 => (some t374))) = some r := by rw [if_pos rfl] at H; exact H
     clear H
     have H := H1
     clear H1
     replace H := Option.bind_eq_some_iff.mp H
     obtain ⟨⟨t370, t373⟩, A540, H⟩ := H
     replace H : ((laws_lkTable.f kj4 t357 t360 t370 t373).bind fun t374 => (some t374)) = some r := H
     have A54 := Aside0.mk A540
     clear A540
     replace H := Option.bind_eq_some_iff.mp H
     obtain ⟨t374, A550, H⟩ := H
     replace H : (some t374) = some r := H
     have A55 := Aside0.mk A550
     clear A550
     obtain rfl := Option.some.inj H
     try go_wp2
     replace HO_356000 := Aside0.mk (Kd.R_drew HO_356000.out)
     replace HO_362000 := Aside0.mk (Kd.R_drew HO_362000.out)
     replace BK355 := Aside0.mk (blk_drew BK355.out)
     replace BK356 := Aside0.mk (blk_drew BK356.out)
     replace BK361 := Aside0.mk (blk_drew BK361.out)
     replace HB := Aside0.mk (below_drew1 HB.out)
     refine start_ (n := 6) (S := fun w' => w'.cell? ⟨gb361, 0, none⟩ = some (.slice Ao15 t357.length co15) ∧ w'.cell? ⟨gb361, 1, none⟩ = some (.int .i64 t360) ∧ w'.cell? ⟨gb355, 0, none⟩ = some (.slice Ao9 t348.length co9) ∧ w'.cell? ⟨gb355, 1, none⟩ = some (.int .i64 t351) ∧ w'.cell? ⟨gb356, 0, none⟩ = some (.string t352) ∧ w'.cell? ⟨gb356, 1, none⟩ = some (.string t353) ∧ w'.cell? ⟨gb356, 2, none⟩ = some (.bool t354)) (ds := []) #[false, false, false, false, false, false] (by kernel_rfl) rfl rfl ⟨(blk_cell BK361.out 0).trans rfl, (blk_cell BK361.out 1).trans rfl, (blk_cell BK355.out 0).trans rfl, (blk_cell BK355.out 1).trans rfl, (blk_cell BK356.out 0).trans rfl, (blk_cell BK356.out 1).trans rfl, (blk_cell BK356.out 2).trans rfl⟩ (fun hHeld => ?_)
     generalize wc.drew = w56 at HO_356000 HO_362000 BK355 BK356 BK361 HB hHeld ⊢
     refine tk7 0 (some 42) (bm 6 1) rfl rfl hHeld ?_
     refine tk7 1 (some 43) (bm 6 3) rfl rfl hHeld ?_
     refine tk7 2 (some 44) (bm 6 7) rfl rfl hHeld ?_
     refine one_ (i := 3) (N := some 45) (bm 6 15) rfl rfl (by kernel_rfl) (by decide) (fun K hK => ?_)
     refine gs Try.func31 #[.agg #[.slice Ao9 t348.length co9, .int .i64 t351], .agg #[.string t352, .string t353, .bool t354]] ?_
     with_reducible refine (spec_TableAdd.calls kj4 _ _ t348 t351 t352 t353 t354 t370 t373 _ ?side1 ?side2 A54.out).mono ?_
     (case side1 => exact zc (Kd.R_reads' HO_356000.out).2.2)
     (case side2 => exact (Kd.R_reads' HO_356000.out).2.1)
     rintro e w57 ⟨v371, rfl, ho0, hb⟩
     refine ⟨_, rfl, ?_⟩
     have HO372 := Aside0.mk (Kd.R_lower (Kd.R_newB (Kd.R_new' (Kd.R_new' ho0 (Kd.R_lt (zr HO_356000))) (Kd.R_lt (zr HO_362000))) (g := gb356) (o := .cells #[.string t352, .string t353, .bool t354] 36 (0, 0)) (zk BK356)) (below_size (zb HB)))
     replace HO_356000 := Aside0.mk (Kd.R_elder' (zr HO_356000) (Kd.R_base ho0) hb)
     replace HO_362000 := Aside0.mk (Kd.R_elder' (zr HO_362000) (Kd.R_base ho0) hb)
     replace BK355 := Aside0.mk (blk_below (g := gb355) (o := .cells #[.slice Ao9 t348.length co9, .int .i64 t351] 25 (0, 0)) (zk BK355) hb)
     replace BK356 := Aside0.mk (blk_below (g := gb356) (o := .cells #[.string t352, .string t353, .bool t354] 36 (0, 0)) (zk BK356) hb)
     replace BK361 := Aside0.mk (blk_below (g := gb361) (o := .cells #[.slice Ao15 t357.length co15, .int .i64 t360] 25 (0, 0)) (zk BK361) hb)
     replace HB := Aside0.mk (below_step (zb HB) hb)
     (try clear hb)
     (try clear ho0)
     obtain ⟨Ao58, co58, eo58⟩ := Kd.R_slice HO372.out
     (first | subst eo58 | (injection eo58 with f1_ f2_ f3_; have f4_ := f1_.symm; have f5_ := f3_.symm; clear f1_ f2_ f3_; subst f4_; subst f5_))
     refine hK.out _ _ ⟨(blk_cell BK361.out 0).trans rfl, (blk_cell BK361.out 1).trans rfl, (blk_cell BK355.out 0).trans rfl, (blk_cell BK355.out 1).trans rfl, (blk_cell BK356.out 0).trans rfl, (blk_cell BK356.out 1).trans rfl, (blk_cell BK356.out 2).trans rfl⟩ (fun hHeld => ?_)
     clear hK K
     refine nm ?_
     refine one_ (i := 4) (N := some 46) (bm 6 31) rfl rfl (by kernel_rfl) (by decide) (fun K hK => ?_)
     refine gs Try.func17 #[.agg #[.slice Ao15 t357.length co15, .int .i64 t360], .agg #[.slice Ao58 t370.length co58, .int .i64 t373]] ?_
     with_reducible refine (laws_lkTable.calls kj4 _ _ t357 t360 _ _ t370 t373 t374 _ ?side1 ?side2 ?side3 ?side4 A55.out).mono ?_
     (case side1 => exact zc (Kd.R_reads' HO_362000.out).2.2)
     (case side2 => exact (Kd.R_reads' HO_362000.out).2.1)
     (case side3 => exact zc (Kd.R_reads' HO372.out).2.2)
     (case side4 => exact (Kd.R_reads' HO372.out).2.1)
     rintro e w59 ⟨rfl, hb⟩
     refine ⟨_, rfl, ?_⟩
     replace HO_356000 := Aside0.mk (Kd.R_below (zr HO_356000) hb)
     replace HO_362000 := Aside0.mk (Kd.R_below (zr HO_362000) hb)
     replace HO372 := Aside0.mk (Kd.R_below (zr HO372) hb)
     replace BK355 := Aside0.mk (blk_below (g := gb355) (o := .cells #[.slice Ao9 t348.length co9, .int .i64 t351] 25 (0, 0)) (zk BK355) hb)
     replace BK356 := Aside0.mk (blk_below (g := gb356) (o := .cells #[.string t352, .string t353, .bool t354] 36 (0, 0)) (zk BK356) hb)
     replace BK361 := Aside0.mk (blk_below (g := gb361) (o := .cells #[.slice Ao15 t357.length co15, .int .i64 t360] 25 (0, 0)) (zk BK361) hb)
     replace HB := Aside0.mk (below_step (zb HB) hb)
     (try clear hb)
     refine hK.out _ _ ⟨(blk_cell BK361.out 0).trans rfl, (blk_cell BK361.out 1).trans rfl, (blk_cell BK355.out 0).trans rfl, (blk_cell BK355.out 1).trans rfl, (blk_cell BK356.out 0).trans rfl, (blk_cell BK356.out 1).trans rfl, (blk_cell BK356.out 2).trans rfl⟩ (fun hHeld => ?_)
     clear hK K
     refine nm ?_
     refine pu 5 (some 2) (bm 6 63) rfl rfl ?_
     refine done_ (by kernel_rfl) ?_
     try go_wp2
     go_ret
     exact ⟨ze, zb HB⟩
    ·replace c53 := Bool.eq_false_iff.mpr c53
     subst c53
     have H1 : ((impl_TableFind.f kj4 t357 t360 t352 t353 t354).bind fun bt375 => (if bt375.2 = true then (if bt375.1 ≥ 1 then ((impl_TableFixed.f).bind fun t377 => (some (decide (bt375.1 ≤ (wrap64 ((t377.length : Int) + 1)))))) else (some false)) else (some false))) = some r := by rw [if_neg (show ¬ (false = true) by decide)] at H; exact H
     clear H
     have H := H1
     clear H1
     replace H := Option.bind_eq_some_iff.mp H
     obtain ⟨⟨t375, t376⟩, A600, H⟩ := H
     replace H : (if t376 = true then (if t375 ≥ 1 then ((impl_TableFixed.f).bind fun t377 => (some (decide (t375 ≤ (wrap64 ((t377.length : Int) + 1)))))) else (some false)) else (some false)) = some r := H
     have A60 := Aside0.mk A600
     clear A600
     by_cases c61 : t376 = true
     ·subst c61
      have H1 : (if t375 ≥ 1 then ((impl_TableFixed.f).bind fun t377 => (some (decide (t375 ≤ (wrap64 ((t377.length : Int) + 1)))))) else (some false)) = some r := by rw [if_pos rfl] at H; exact H
      clear H
      have H := H1
      clear H1
      by_cases c62 : t375 ≥ 1
      ·rw [if_pos c62] at H
       have c62b0 : decide (1 ≤ t375) = true := decide_eq_true c62
       clear c62
       replace H := Option.bind_eq_some_iff.mp H
       obtain ⟨t377, A630, H⟩ := H
       replace H : (some (decide (t375 ≤ (wrap64 ((t377.length : Int) + 1))))) = some r := H
       have A63 := Aside0.mk A630
       clear A630
       obtain rfl := Option.some.inj H
       have hnb64 := NB361_355.out
       have hnc64 := NB355_361.out
       have hnb65 := NB361_356.out
       have hnc65 := NB356_361.out
       have hcz66_0 : wc.cell? ⟨gb361, 0, none⟩ = some (.slice Ao15 t357.length co15) := (blk_cell BK361.out 0).trans rfl
       have hcz66_1 : wc.cell? ⟨gb361, 1, none⟩ = some (.int .i64 t360) := (blk_cell BK361.out 1).trans rfl
       have hfz66_0 := blk_frozen BK361.out 0
       have hfz66_1 := blk_frozen BK361.out 1
       have hnb67 := NB356_355.out
       have hnc67 := NB355_356.out
       have hcz68_0 : wc.cell? ⟨gb356, 0, none⟩ = some (.string t352) := (blk_cell BK356.out 0).trans rfl
       have hcz68_1 : wc.cell? ⟨gb356, 1, none⟩ = some (.string t353) := (blk_cell BK356.out 1).trans rfl
       have hcz68_2 : wc.cell? ⟨gb356, 2, none⟩ = some (.bool t354) := (blk_cell BK356.out 2).trans rfl
       have hfz68_0 := blk_frozen BK356.out 0
       have hfz68_1 := blk_frozen BK356.out 1
       have hfz68_2 := blk_frozen BK356.out 2
       go_wp2_with (first | ((with_reducible refine gq 33 rfl ?_); refine gl (some 50) Try.func33 #[.agg #[.slice Ao15 t357.length co15, .int .i64 t360], .agg #[.string t352, .string t353, .bool t354]] ?_; (with_reducible refine (impl_TableFind.calls kj4 _ _ t357 t360 t352 t353 t354 t375 true _ ?side1 ?side2 A60.out).mono ?_); (case side1 => exact zc (Kd.R_reads' HO_362000.out).2.2); (case side2 => exact (Kd.R_reads' HO_362000.out).2.1); rintro e w69 ⟨rfl, hb⟩; refine ⟨_, rfl, ?_⟩; replace HO_356000 := Aside0.mk (Kd.R_below (zr HO_356000) hb); replace HO_362000 := Aside0.mk (Kd.R_below (zr HO_362000) hb); replace BK355 := Aside0.mk (blk_below (g := gb355) (o := .cells #[.slice Ao9 t348.length co9, .int .i64 t351] 25 (0, 0)) (zk BK355) hb); replace BK356 := Aside0.mk (blk_below (g := gb356) (o := .cells #[.string t352, .string t353, .bool t354] 36 (0, 0)) (zk BK356) hb); replace BK361 := Aside0.mk (blk_below (g := gb361) (o := .cells #[.slice Ao15 t357.length co15, .int .i64 t360] 25 (0, 0)) (zk BK361) hb); replace HB := Aside0.mk (below_step (zb HB) hb); (try clear hb)) | (go_at_call 34; (with_reducible refine (impl_TableFixed.calls  t377 _ A63.out).mono ?_); rintro e w70 ⟨v378, rfl, ho0, hb⟩; have HO379 := Aside0.mk (Kd.R_lower (Kd.R_newB (Kd.R_new' (Kd.R_new' ho0 (Kd.R_lt (zr HO_356000))) (Kd.R_lt (zr HO_362000))) (g := gb356) (o := .cells #[.string t352, .string t353, .bool t354] 36 (0, 0)) (zk BK356)) (below_size (zb HB))); replace HO_356000 := Aside0.mk (Kd.R_elder' (zr HO_356000) (Kd.R_base ho0) hb); replace HO_362000 := Aside0.mk (Kd.R_elder' (zr HO_362000) (Kd.R_base ho0) hb); replace BK355 := Aside0.mk (blk_below (g := gb355) (o := .cells #[.slice Ao9 t348.length co9, .int .i64 t351] 25 (0, 0)) (zk BK355) hb); replace BK356 := Aside0.mk (blk_below (g := gb356) (o := .cells #[.string t352, .string t353, .bool t354] 36 (0, 0)) (zk BK356) hb); replace BK361 := Aside0.mk (blk_below (g := gb361) (o := .cells #[.slice Ao15 t357.length co15, .int .i64 t360] 25 (0, 0)) (zk BK361) hb); replace HB := Aside0.mk (below_step (zb HB) hb); (try clear hb); (try clear ho0); obtain ⟨Ao71, co71, eo71⟩ := Kd.R_slice HO379.out; subst eo71))
       go_ret
       exact ⟨ze, zb HB⟩
      ·rw [if_neg c62] at H
       have c62b0 : decide (1 ≤ t375) = false := decide_eq_false c62
       clear c62
       obtain rfl := Option.some.inj H
       have hnb72 := NB361_355.out
       have hnc72 := NB355_361.out
       have hnb73 := NB361_356.out
       have hnc73 := NB356_361.out
       have hcz74_0 : wc.cell? ⟨gb361, 0, none⟩ = some (.slice Ao15 t357.length co15) := (blk_cell BK361.out 0).trans rfl
       have hcz74_1 : wc.cell? ⟨gb361, 1, none⟩ = some (.int .i64 t360) := (blk_cell BK361.out 1).trans rfl
       have hfz74_0 := blk_frozen BK361.out 0
       have hfz74_1 := blk_frozen BK361.out 1
       have hnb75 := NB356_355.out
       have hnc75 := NB355_356.out
       have hcz76_0 : wc.cell? ⟨gb356, 0, none⟩ = some (.string t352) := (blk_cell BK356.out 0).trans rfl
       have hcz76_1 : wc.cell? ⟨gb356, 1, none⟩ = some (.string t353) := (blk_cell BK356.out 1).trans rfl
       have hcz76_2 : wc.cell? ⟨gb356, 2, none⟩ = some (.bool t354) := (blk_cell BK356.out 2).trans rfl
       have hfz76_0 := blk_frozen BK356.out 0
       have hfz76_1 := blk_frozen BK356.out 1
       have hfz76_2 := blk_frozen BK356.out 2
       go_wp2_with (first | ((with_reducible refine gq 33 rfl ?_); refine gl (some 50) Try.func33 #[.agg #[.slice Ao15 t357.length co15, .int .i64 t360], .agg #[.string t352, .string t353, .bool t354]] ?_; (with_reducible refine (impl_TableFind.calls kj4 _ _ t357 t360 t352 t353 t354 t375 true _ ?side1 ?side2 A60.out).mono ?_); (case side1 => exact zc (Kd.R_reads' HO_362000.out).2.2); (case side2 => exact (Kd.R_reads' HO_362000.out).2.1); rintro e w77 ⟨rfl, hb⟩; refine ⟨_, rfl, ?_⟩; replace HO_356000 := Aside0.mk (Kd.R_below (zr HO_356000) hb); replace HO_362000 := Aside0.mk (Kd.R_below (zr HO_362000) hb); replace BK355 := Aside0.mk (blk_below (g := gb355) (o := .cells #[.slice Ao9 t348.length co9, .int .i64 t351] 25 (0, 0)) (zk BK355) hb); replace BK356 := Aside0.mk (blk_below (g := gb356) (o := .cells #[.string t352, .string t353, .bool t354] 36 (0, 0)) (zk BK356) hb); replace BK361 := Aside0.mk (blk_below (g := gb361) (o := .cells #[.slice Ao15 t357.length co15, .int .i64 t360] 25 (0, 0)) (zk BK361) hb); replace HB := Aside0.mk (below_step (zb HB) hb); (try clear hb)))
       go_ret
       exact ⟨ze, zb HB⟩
     ·replace c61 := Bool.eq_false_iff.mpr c61
      subst c61
      have H1 : (some false) = some r := by rw [if_neg (show ¬ (false = true) by decide)] at H; exact H
      clear H
      have H := H1
      clear H1
      obtain rfl := Option.some.inj H
      have hnb78 := NB361_355.out
      have hnc78 := NB355_361.out
      have hnb79 := NB361_356.out
      have hnc79 := NB356_361.out
      have hcz80_0 : wc.cell? ⟨gb361, 0, none⟩ = some (.slice Ao15 t357.length co15) := (blk_cell BK361.out 0).trans rfl
      have hcz80_1 : wc.cell? ⟨gb361, 1, none⟩ = some (.int .i64 t360) := (blk_cell BK361.out 1).trans rfl
      have hfz80_0 := blk_frozen BK361.out 0
      have hfz80_1 := blk_frozen BK361.out 1
      have hnb81 := NB356_355.out
      have hnc81 := NB355_356.out
      have hcz82_0 : wc.cell? ⟨gb356, 0, none⟩ = some (.string t352) := (blk_cell BK356.out 0).trans rfl
      have hcz82_1 : wc.cell? ⟨gb356, 1, none⟩ = some (.string t353) := (blk_cell BK356.out 1).trans rfl
      have hcz82_2 : wc.cell? ⟨gb356, 2, none⟩ = some (.bool t354) := (blk_cell BK356.out 2).trans rfl
      have hfz82_0 := blk_frozen BK356.out 0
      have hfz82_1 := blk_frozen BK356.out 1
      have hfz82_2 := blk_frozen BK356.out 2
      go_wp2_with (first | ((with_reducible refine gq 33 rfl ?_); refine gl (some 50) Try.func33 #[.agg #[.slice Ao15 t357.length co15, .int .i64 t360], .agg #[.string t352, .string t353, .bool t354]] ?_; (with_reducible refine (impl_TableFind.calls kj4 _ _ t357 t360 t352 t353 t354 t375 false _ ?side1 ?side2 A60.out).mono ?_); (case side1 => exact zc (Kd.R_reads' HO_362000.out).2.2); (case side2 => exact (Kd.R_reads' HO_362000.out).2.1); rintro e w83 ⟨rfl, hb⟩; refine ⟨_, rfl, ?_⟩; replace HO_356000 := Aside0.mk (Kd.R_below (zr HO_356000) hb); replace HO_362000 := Aside0.mk (Kd.R_below (zr HO_362000) hb); replace BK355 := Aside0.mk (blk_below (g := gb355) (o := .cells #[.slice Ao9 t348.length co9, .int .i64 t351] 25 (0, 0)) (zk BK355) hb); replace BK356 := Aside0.mk (blk_below (g := gb356) (o := .cells #[.string t352, .string t353, .bool t354] 36 (0, 0)) (zk BK356) hb); replace BK361 := Aside0.mk (blk_below (g := gb361) (o := .cells #[.slice Ao15 t357.length co15, .int .i64 t360] 25 (0, 0)) (zk BK361) hb); replace HB := Aside0.mk (below_step (zb HB) hb); (try clear hb)))
      go_ret
      exact ⟨ze, zb HB⟩

/-- THE ONE PURE STATEMENT of laws_FnAddFind: yours. -/
def laws_FnAddFind.Pure : Prop := ∀ (l0 : List Int), l0.length ≤ maxLen → l0.length * 1 ≤ 140737488351232 → (∀ x ∈ l0, (Lit.int .u8 x).wf = true) → ∃ k, laws_FnAddFind.f k l0 = some true
theorem laws_FnAddFind.walk (P : laws_FnAddFind.Pure) (a0 : Option Addr) (len0 cap0 : Nat) (z0 : List Int) (w : World) (w0 : (a0 = none ∧ len0 = 0 ∧ cap0 = 0 ∧ z0 = []) ∨ ∃ x, a0 = some x ∧ len0 ≤ cap0 ∧ cap0 ≤ maxLen ∧ z0.length = cap0 ∧ (∀ i, i < z0.length → w.cell? (x.add i) = some (.int .u8 (z0.getD i 0))) ∧ ∀ n ∈ z0, (Lit.int .u8 n).wf = true) (y0 : len0 * 1 ≤ 140737488351232) :
  Calls Try.prog 9 #[.slice a0 len0 cap0] w fun e w' => e = .returned (.bool true) ∧ Below w.heap.size w w' := by
 obtain ⟨l0, rfl, hr0, hm0, hw0, hc0⟩ := ReadsInt.ofRowC w0
 obtain ⟨k, h⟩ := P l0 hm0 y0 hw0
 refine (laws_FnAddFind.calls k _ _ l0 true w (Kd.C_of_reads (d := (0 : Int)) (h1 := fun _ => rfl) hr0) hc0 h).mono ?_
 rintro e w' ⟨rfl, hd⟩
 exact ⟨rfl, hd⟩

end Go.Proofs.Ytdhahifdcoinhaa.PFnAddFind
