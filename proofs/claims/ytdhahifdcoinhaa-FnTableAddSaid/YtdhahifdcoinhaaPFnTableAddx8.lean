-- WRITTEN BY a turned print (wip/tools of the prover's repo)
import Derived.Test.YtdhahifdcoinhaaPFnTableAddx0
import Derived.Test.YtdhahifdcoinhaaPFnTableAddx1
import Derived.Test.YtdhahifdcoinhaaPFnTableAddx2
import Derived.Test.YtdhahifdcoinhaaPFnTableAddx3
import Derived.Test.YtdhahifdcoinhaaPFnTableAddx6
import Derived.Test.YtdhahifdcoinhaaPFnTableAddx7
namespace Go.Proofs.Ytdhahifdcoinhaa.PFnTableAdd
open Go.RowKit Go.Proofs.YtdhahifdcoinhaaW.PrintWords Go.Proofs.YtdhahifdcoinhaaW.PrintLast Go.Proofs.YtdhahifdcoinhaaW.PrintMore Go.Proofs.Ytdhahifdcoinhaa.Lm
attribute [local go_sem] max2_int min2_int max_two min_two max_three min_three max_four min_four   -- for this text's walks alone
set_option linter.unusedVariables false
set_option linter.unusedSimpArgs false

attribute [local go_sem high] eqA36
/-! ### laws_FnTableAdd: function 8 -/
-- thin
mutual
def laws_FnTableAdd.j0 : Nat → Bool → List (S36) → Int → ByteArray → ByteArray → Bool → List (S36) → Int → Option (Bool)
 | 0, _, _, _, _, _, _, _, _ => none
 | k + 1, x34, x340000, x340001, x341000, x341001, x341002, x346000, x346001 => if x34 = true then ((spec_TableAdd.f k x340000 x340001 x341000 x341001 x341002).bind fun bt353 => ((laws_lkTable.f k x346000 x346001 bt353.1 bt353.2).bind fun t357 => (some t357))) else ((laws_lkOne.f x341000 x341001 x341002).bind fun t358 => (if t358 > x340001 then (if (x346000.length : Int) = 0 then (some (x346001 == x340001)) else (some false)) else (if (x346000.length : Int) < 1 then (laws_FnTableAdd.j1 k (x346000.length : Int) true x340000 x340001 x346000 x346001) else (if 0 < (x346000.length : Int) then (if (!((((rd_T36 x346000 0).f0).toList) == x341000.toList) || (!((((rd_T36 x346000 0).f1).toList) == x341001.toList) || (((rd_T36 x346000 0).f2)))) = true then (laws_FnTableAdd.j1 k (x346000.length : Int) true x340000 x340001 x346000 x346001) else (if 1 ≤ (x346000.length : Int) then (if 0 ≤ (wrap64 ((x346000.length : Int) - 1)) then (if (wrap64 ((x346000.length : Int) - 1)) ≤ (x340000.length : Int) then ((laws_lkFields.f k (x346000.drop 1) (x340000.take ((wrap64 ((x346000.length : Int) - 1)) : Int).toNat)).bind fun t369 => (if t369 = true then ((impl_TableOk.f k x346000 x346001).bind fun t370 => (if t370 = true then (laws_FnTableAdd.j1 k (x346000.length : Int) (x346001 != x340001) x340000 x340001 x346000 x346001) else (laws_FnTableAdd.j1 k (x346000.length : Int) true x340000 x340001 x346000 x346001))) else (laws_FnTableAdd.j1 k (x346000.length : Int) true x340000 x340001 x346000 x346001))) else (none)) else (none)) else (none))) else (none)))))
def laws_FnTableAdd.j1 : Nat → Int → Bool → List (S36) → Int → List (S36) → Int → Option (Bool)
 | 0, _, _, _, _, _, _ => none
 | k + 1, x6, x94, x340000, x340001, x346000, x346001 => if x94 = true then (some false) else (if (wrap64 (x6 - 1)) = (x340000.length : Int) then (some true) else ((impl_TableSize.f k x346000 x346001).bind fun t371 => (if 0 ≤ (wrap64 (x6 - 1)) then (if (wrap64 (x6 - 1)) < (x340000.length : Int) then ((laws_lkOne.f ((rd_T36 x340000 (wrap64 (x6 - 1))).f0) ((rd_T36 x340000 (wrap64 (x6 - 1))).f1) ((rd_T36 x340000 (wrap64 (x6 - 1))).f2)).bind fun t373 => (some (decide ((wrap64 (t371 + t373)) > x340001)))) else (none)) else (none))))
end
def laws_FnTableAdd.f (k : Nat) (l0 : List Int) : Option (Bool) := if (l0.length : Int) > 1048576 then (some true) else ((spec_DrawTableAdd.f k l0).bind fun bt332 => ((impl_TableAdd.f k bt332.1 bt332.2.1 bt332.2.2.1 bt332.2.2.2.1 bt332.2.2.2.2).bind fun bt341 => ((spec_TableAdd.f k bt332.1 bt332.2.1 bt332.2.2.1 bt332.2.2.2.1 bt332.2.2.2.2).bind fun bt346 => ((laws_lkTable.f k bt341.1 bt341.2 bt346.1 bt346.2).bind fun t350 => (if t350 = true then ((spec_TableOk.f k bt332.1 bt332.2.1).bind fun t351 => (if t351 = true then ((spec_FieldOk.f k bt332.2.2.1 bt332.2.2.2.1 bt332.2.2.2.2).bind fun t352 => (laws_FnTableAdd.j0 k (!t352) bt332.1 bt332.2.1 bt332.2.2.1 bt332.2.2.2.1 bt332.2.2.2.2 bt341.1 bt341.2)) else (laws_FnTableAdd.j0 k true bt332.1 bt332.2.1 bt332.2.2.1 bt332.2.2.2.1 bt332.2.2.2.2 bt341.1 bt341.2))) else (laws_FnTableAdd.j0 k true bt332.1 bt332.2.1 bt332.2.2.1 bt332.2.2.2.1 bt332.2.2.2.2 bt341.1 bt341.2))))))
theorem laws_FnTableAdd.mono_l : ∀ k, (∀ y0 y1 y2 y3 y4 y5 y6 y7, LeO (laws_FnTableAdd.j0 k y0 y1 y2 y3 y4 y5 y6 y7) (laws_FnTableAdd.j0 (k + 1) y0 y1 y2 y3 y4 y5 y6 y7)) ∧ (∀ y0 y1 y2 y3 y4 y5, LeO (laws_FnTableAdd.j1 k y0 y1 y2 y3 y4 y5) (laws_FnTableAdd.j1 (k + 1) y0 y1 y2 y3 y4 y5))
 | 0 => ⟨fun _ _ _ _ _ _ _ _ r h => by simp [laws_FnTableAdd.j0] at h, fun _ _ _ _ _ _ r h => by simp [laws_FnTableAdd.j1] at h⟩
 | k + 1 => by
  obtain ⟨ih0, ih1⟩ := laws_FnTableAdd.mono_l k
  refine ⟨?_, ?_⟩
  ·intro y0 y1 y2 y3 y4 y5 y6 y7
   unfold laws_FnTableAdd.j0
   repeat' first
   | (with_reducible exact ih0 _ _ _ _ _ _ _ _)
   | (with_reducible exact ih1 _ _ _ _ _ _)
   | (with_reducible exact impl_TableAdd.mono _ _ _ _ _ _)
   | (with_reducible exact impl_TableOk.mono _ _ _)
   | (with_reducible exact impl_TableSize.mono _ _ _)
   | (with_reducible exact laws_lkFields.mono _ _ _)
   | (with_reducible exact laws_lkTable.mono _ _ _ _ _)
   | (with_reducible exact spec_DrawTableAdd.mono _ _)
   | (with_reducible exact spec_FieldOk.mono _ _ _ _)
   | (with_reducible exact spec_TableAdd.mono _ _ _ _ _ _)
   | (with_reducible exact spec_TableOk.mono _ _ _)
   | (with_reducible exact LeO.refl _)
   | (with_reducible exact LeO.none _)
   | (with_reducible refine LeO.ite ?_ ?_)
   | (with_reducible refine LeO.bind ?_ (fun _ => ?_))
   | exact ih0 _ _ _ _ _ _ _ _
   | exact ih1 _ _ _ _ _ _
   | exact impl_TableAdd.mono _ _ _ _ _ _
   | exact impl_TableOk.mono _ _ _
   | exact impl_TableSize.mono _ _ _
   | exact laws_lkFields.mono _ _ _
   | exact laws_lkTable.mono _ _ _ _ _
   | exact spec_DrawTableAdd.mono _ _
   | exact spec_FieldOk.mono _ _ _ _
   | exact spec_TableAdd.mono _ _ _ _ _ _
   | exact spec_TableOk.mono _ _ _
   | exact LeO.none _
   | refine LeO.ite ?_ ?_
   | refine LeO.bind ?_ (fun _ => ?_)
  ·intro y0 y1 y2 y3 y4 y5
   unfold laws_FnTableAdd.j1
   repeat' first
   | (with_reducible exact ih0 _ _ _ _ _ _ _ _)
   | (with_reducible exact ih1 _ _ _ _ _ _)
   | (with_reducible exact impl_TableAdd.mono _ _ _ _ _ _)
   | (with_reducible exact impl_TableOk.mono _ _ _)
   | (with_reducible exact impl_TableSize.mono _ _ _)
   | (with_reducible exact laws_lkFields.mono _ _ _)
   | (with_reducible exact laws_lkTable.mono _ _ _ _ _)
   | (with_reducible exact spec_DrawTableAdd.mono _ _)
   | (with_reducible exact spec_FieldOk.mono _ _ _ _)
   | (with_reducible exact spec_TableAdd.mono _ _ _ _ _ _)
   | (with_reducible exact spec_TableOk.mono _ _ _)
   | (with_reducible exact LeO.refl _)
   | (with_reducible exact LeO.none _)
   | (with_reducible refine LeO.ite ?_ ?_)
   | (with_reducible refine LeO.bind ?_ (fun _ => ?_))
   | exact ih0 _ _ _ _ _ _ _ _
   | exact ih1 _ _ _ _ _ _
   | exact impl_TableAdd.mono _ _ _ _ _ _
   | exact impl_TableOk.mono _ _ _
   | exact impl_TableSize.mono _ _ _
   | exact laws_lkFields.mono _ _ _
   | exact laws_lkTable.mono _ _ _ _ _
   | exact spec_DrawTableAdd.mono _ _
   | exact spec_FieldOk.mono _ _ _ _
   | exact spec_TableAdd.mono _ _ _ _ _ _
   | exact spec_TableOk.mono _ _ _
   | exact LeO.none _
   | refine LeO.ite ?_ ?_
   | refine LeO.bind ?_ (fun _ => ?_)
theorem laws_FnTableAdd.mono : ∀ a0 k, LeO (laws_FnTableAdd.f k a0) (laws_FnTableAdd.f (k + 1) a0) := by
 intro a0 k
 obtain ⟨ih0, ih1⟩ := laws_FnTableAdd.mono_l k
 unfold laws_FnTableAdd.f
 repeat' first
   | (with_reducible exact ih0 _ _ _ _ _ _ _ _)
   | (with_reducible exact ih1 _ _ _ _ _ _)
   | (with_reducible exact impl_TableAdd.mono _ _ _ _ _ _)
   | (with_reducible exact impl_TableOk.mono _ _ _)
   | (with_reducible exact impl_TableSize.mono _ _ _)
   | (with_reducible exact laws_lkFields.mono _ _ _)
   | (with_reducible exact laws_lkTable.mono _ _ _ _ _)
   | (with_reducible exact spec_DrawTableAdd.mono _ _)
   | (with_reducible exact spec_FieldOk.mono _ _ _ _)
   | (with_reducible exact spec_TableAdd.mono _ _ _ _ _ _)
   | (with_reducible exact spec_TableOk.mono _ _ _)
   | (with_reducible exact LeO.refl _)
   | (with_reducible exact LeO.none _)
   | (with_reducible refine LeO.ite ?_ ?_)
   | (with_reducible refine LeO.bind ?_ (fun _ => ?_))
   | exact ih0 _ _ _ _ _ _ _ _
   | exact ih1 _ _ _ _ _ _
   | exact impl_TableAdd.mono _ _ _ _ _ _
   | exact impl_TableOk.mono _ _ _
   | exact impl_TableSize.mono _ _ _
   | exact laws_lkFields.mono _ _ _
   | exact laws_lkTable.mono _ _ _ _ _
   | exact spec_DrawTableAdd.mono _ _
   | exact spec_FieldOk.mono _ _ _ _
   | exact spec_TableAdd.mono _ _ _ _ _ _
   | exact spec_TableOk.mono _ _ _
   | exact LeO.none _
   | refine LeO.ite ?_ ?_
   | refine LeO.bind ?_ (fun _ => ?_)
def laws_FnTableAdd.T5 : Bool × List (List Nat × List Nat) := (true, [([], []), ([], []), ([], []), ([1, 2], [1, 2]), ([0, 3, 3], [0, 3]), ([4], [4]), ([5, 4], [5]), ([6], [6]), ([7, 6, 6], [6, 7]), ([8, 6], [6, 8]), ([6, 9], [6, 9]), ([10, 8], [10]), ([11], [11]), ([12, 11, 11], [11, 12]), ([13, 11], [11, 13]), ([11, 14], [11, 14])])
def laws_FnTableAdd.B5 : List Nat := [0, 0, 0, 6, 15, 31, 63, 127, 255, 511, 1023, 2047, 4095, 8191, 16383, 32767]
theorem laws_FnTableAdd.tab5 : rtab .any (opsOf Try.f8 5) = laws_FnTableAdd.T5 := by kernel_rfl
theorem laws_FnTableAdd.bits5 : waitsOk laws_FnTableAdd.T5.2 laws_FnTableAdd.B5 = true := by kernel_rfl
def laws_FnTableAdd.T12 : Bool × List (List Nat × List Nat) := (true, [([], []), ([0], [0]), ([1], [1]), ([2], [2]), ([3, 2], [2, 3]), ([4, 2], [2, 4]), ([5, 2], [2, 5]), ([2], [2]), ([6, 7, 2], [2, 6, 7]), ([2, 8], [2, 8]), ([9, 2], [9]), ([10], [10]), ([11, 10], [10, 11]), ([12, 10], [10, 12]), ([10], [10]), ([14, 10], [10, 14]), ([10], [10]), ([16, 10], [10, 16]), ([15, 17, 10], [10, 15, 17]), ([13, 18, 10, 10], [10, 13, 18]), ([19, 10], [10, 19]), ([10, 20], [10, 20]), ([21, 19], [21]), ([22], [22]), ([23, 22, 22], [22, 23]), ([24, 22], [22, 24]), ([22, 25], [22, 25]), ([26, 24], [26]), ([27], [27]), ([28, 27], [27, 28]), ([27], [27]), ([30, 27], [27, 30]), ([29, 31, 27], [27, 29, 31]), ([27, 32], [27, 32])])
def laws_FnTableAdd.B12 : List Nat := [0, 1, 3, 7, 15, 31, 63, 7, 255, 511, 1023, 2047, 4095, 8191, 2047, 18431, 2047, 67583, 247807, 524287, 1048575, 2097151, 4194303, 8388607, 16777215, 33554431, 67108863, 134217727, 268435455, 536870911, 268435455, 1342177279, 4294967295, 8589934591]
theorem laws_FnTableAdd.tab12 : rtab .any (opsOf Try.f8 12) = laws_FnTableAdd.T12 := by kernel_rfl
theorem laws_FnTableAdd.bits12 : waitsOk laws_FnTableAdd.T12.2 laws_FnTableAdd.B12 = true := by kernel_rfl
def laws_FnTableAdd.T14 : Bool × List (List Nat × List Nat) := (true, [([], []), ([0], [0]), ([], []), ([2], [2]), ([3], [3]), ([1, 4], [1, 4]), ([5], [5]), ([6], [6]), ([7, 6, 6], [6, 7]), ([6], [6]), ([9, 6], [6, 9]), ([6], [6]), ([11, 6], [6, 11]), ([10, 12, 6], [6, 10, 12]), ([13, 6], [6, 13]), ([14, 8, 6], [6, 14]), ([8, 15, 6], [6, 8, 15]), ([6], [6]), ([17, 6], [6, 17]), ([16, 18, 6], [6, 16, 18]), ([6, 19], [6, 19]), ([20, 15, 0, 1, 2, 3, 4, 5, 6, 7, 8, 9, 10, 11, 12, 13, 14, 15, 16, 17, 18, 19, 20], [20])])
def laws_FnTableAdd.B14 : List Nat := [0, 1, 0, 4, 12, 31, 63, 127, 255, 127, 639, 127, 2175, 7807, 15999, 32767, 65535, 127, 131199, 524287, 1048575, 2097151]
theorem laws_FnTableAdd.tab14 : rtab .any (opsOf Try.f8 14) = laws_FnTableAdd.T14 := by kernel_rfl
theorem laws_FnTableAdd.bits14 : waitsOk laws_FnTableAdd.T14.2 laws_FnTableAdd.B14 = true := by kernel_rfl
set_option maxHeartbeats 8000000 in
set_option maxRecDepth 100000 in
theorem laws_FnTableAdd.calls (k : Nat) (A0 : Option Addr) (c0 : Nat) (l0 : List Int) (r : Bool) (w : World) (hr0 : Kd.C (Kd.int .u8) w A0 l0.length l0) (hc0 : l0.length ≤ c0) (h : laws_FnTableAdd.f k l0 = some r) :
  Calls Try.prog 8 #[.slice A0 l0.length c0] w fun e w' => e = .returned (.bool r) ∧ Below w.heap.size w w' := by
 have hu25 := Try.underlying25
 have hu36 := Try.underlying36
 have HR0 := Aside0.mk hr0
 have HC0 := Aside0.mk hc0
 clear hr0 hc0
 have HB := Aside0.mk (Below.refl w.heap.size w)
 have H : (if (l0.length : Int) > 1048576 then (some true) else ((spec_DrawTableAdd.f k l0).bind fun bt332 => ((impl_TableAdd.f k bt332.1 bt332.2.1 bt332.2.2.1 bt332.2.2.2.1 bt332.2.2.2.2).bind fun bt341 => ((spec_TableAdd.f k bt332.1 bt332.2.1 bt332.2.2.1 bt332.2.2.2.1 bt332.2.2.2.2).bind fun bt346 => ((laws_lkTable.f k bt341.1 bt341.2 bt346.1 bt346.2).bind fun t350 => (if t350 = true then ((spec_TableOk.f k bt332.1 bt332.2.1).bind fun t351 => (if t351 = true then ((spec_FieldOk.f k bt332.2.2.1 bt332.2.2.2.1 bt332.2.2.2.2).bind fun t352 => (laws_FnTableAdd.j0 k (!t352) bt332.1 bt332.2.1 bt332.2.2.1 bt332.2.2.2.1 bt332.2.2.2.2 bt341.1 bt341.2)) else (laws_FnTableAdd.j0 k true bt332.1 bt332.2.1 bt332.2.2.1 bt332.2.2.2.1 bt332.2.2.2.2 bt341.1 bt341.2))) else (laws_FnTableAdd.j0 k true bt332.1 bt332.2.1 bt332.2.2.1 bt332.2.2.2.1 bt332.2.2.2.2 bt341.1 bt341.2))))))) = some r := h
 clear h
 by_cases c2 : (l0.length : Int) > 1048576
 ·rw [if_pos c2] at H
  have c2b0 : decide (1048576 < (l0.length : Int)) = true := decide_eq_true c2
  have c2b1 : decide (1048576 < l0.length) = true := decide_eq_true (by omega)
  clear c2
  obtain rfl := Option.some.inj H
  go_enter Try.func8, Try.ntmps8
  go_wp2
  go_ret
  exact ⟨ze, zb HB⟩
 ·rw [if_neg c2] at H
  have c2b0 : decide (1048576 < (l0.length : Int)) = false := decide_eq_false c2
  have c2b1 : decide (1048576 < l0.length) = false := decide_eq_false (by omega)
  clear c2
  replace H := Option.bind_eq_some_iff.mp H
  obtain ⟨⟨t332, t335, t336, t337, t338⟩, A30, H⟩ := H
  replace H : ((impl_TableAdd.f k t332 t335 t336 t337 t338).bind fun bt341 => ((spec_TableAdd.f k t332 t335 t336 t337 t338).bind fun bt346 => ((laws_lkTable.f k bt341.1 bt341.2 bt346.1 bt346.2).bind fun t350 => (if t350 = true then ((spec_TableOk.f k t332 t335).bind fun t351 => (if t351 = true then ((spec_FieldOk.f k t336 t337 t338).bind fun t352 => (laws_FnTableAdd.j0 k (!t352) t332 t335 t336 t337 t338 bt341.1 bt341.2)) else (laws_FnTableAdd.j0 k true t332 t335 t336 t337 t338 bt341.1 bt341.2))) else (laws_FnTableAdd.j0 k true t332 t335 t336 t337 t338 bt341.1 bt341.2))))) = some r := H
  have A3 := Aside0.mk A30
  clear A30
  replace H := Option.bind_eq_some_iff.mp H
  obtain ⟨⟨t341, t344⟩, A40, H⟩ := H
  replace H : ((spec_TableAdd.f k t332 t335 t336 t337 t338).bind fun bt346 => ((laws_lkTable.f k t341 t344 bt346.1 bt346.2).bind fun t350 => (if t350 = true then ((spec_TableOk.f k t332 t335).bind fun t351 => (if t351 = true then ((spec_FieldOk.f k t336 t337 t338).bind fun t352 => (laws_FnTableAdd.j0 k (!t352) t332 t335 t336 t337 t338 t341 t344)) else (laws_FnTableAdd.j0 k true t332 t335 t336 t337 t338 t341 t344))) else (laws_FnTableAdd.j0 k true t332 t335 t336 t337 t338 t341 t344)))) = some r := H
  have A4 := Aside0.mk A40
  clear A40
  have HC5 := Aside0.mk H
  clear H
  go_enter Try.func8, Try.ntmps8
  go_upto_region 5 with (first | ((with_reducible refine gq 29 rfl ?_); refine gl (some 13) Try.func29 #[.slice A0 l0.length c0] ?_; (with_reducible refine (spec_DrawTableAdd.calls k _ _ l0 t332 t335 t336 t337 t338 _ ?side1 ?side2 A3.out).mono ?_); (case side1 => exact zc HR0.out); (case side2 => exact HC0.out); rintro e w6 ⟨v333, rfl, ho0, hb⟩; refine ⟨_, rfl, ?_⟩; have HO334 := Aside0.mk (Kd.R_lower ho0 (below_size (zb HB))); replace HB := Aside0.mk (below_step (zb HB) hb); (try clear hb); (try clear ho0)) | ((with_reducible refine gd 3 rfl ?_); refine bx (N := 3) (cs := #[.slice none 0 0, .int .i64 0]) (t := 25) ?_; intro gb339 hg w7 hbox hb; replace HO334 := Aside0.mk (Kd.R_below (zr HO334) hb); have BK339 := Aside0.mk (hbox); have GW339 := Aside0.mk ((by rw [hg]; exact (below_size (zb HB)) : w.heap.size ≤ gb339)); have GE339 := Aside0.mk ((by rw [hg]; exact (below_size (zb HB)) : w.heap.size ≤ gb339)); replace HB := Aside0.mk (below_step (zb HB) hb); clear hb hbox hg) | ((with_reducible refine gd 4 rfl ?_); refine bx (N := 4) (cs := #[.string (⟨#[]⟩ : ByteArray), .string (⟨#[]⟩ : ByteArray), .bool false]) (t := 36) ?_; intro gb340 hg w8 hbox hb; replace HO334 := Aside0.mk (Kd.R_below (Kd.R_elderB (zr HO334) gb340 (Nat.le_of_eq hg.symm)) hb); have BK340 := Aside0.mk (hbox); have GW340 := Aside0.mk ((by rw [hg]; exact (below_size (zb HB)) : w.heap.size ≤ gb340)); have GE340 := Aside0.mk ((by rw [hg]; exact (below_size (zb HB)) : w.heap.size ≤ gb340)); replace HB := Aside0.mk (below_step (zb HB) hb); have NB339_340 := Aside0.mk ((by rw [hg]; exact Nat.ne_of_lt (blk_lt (g := gb339) (o := .cells #[.slice none 0 0, .int .i64 0] 25 (0, 0)) (zk BK339)) : gb339 ≠ gb340)); have NB340_339 := Aside0.mk ((by rw [hg]; exact Nat.ne_of_gt (blk_lt (g := gb339) (o := .cells #[.slice none 0 0, .int .i64 0] 25 (0, 0)) (zk BK339)) : gb340 ≠ gb339)); replace BK339 := Aside0.mk (blk_below (g := gb339) (o := .cells #[.slice none 0 0, .int .i64 0] 25 (0, 0)) (zk BK339) hb); clear hb hbox hg; obtain ⟨Ao9, co9, eo9⟩ := Kd.R_slice HO334.out; subst eo9; have hnb10 := NB339_340.out; have hnc10 := NB340_339.out; have hcz11_0 : w8.cell? ⟨gb339, 0, none⟩ = some (.slice none 0 0) := (blk_cell BK339.out 0).trans rfl; have hcz11_1 : w8.cell? ⟨gb339, 1, none⟩ = some (.int .i64 0) := (blk_cell BK339.out 1).trans rfl; have hfz11_0 := blk_frozen BK339.out 0; have hfz11_1 := blk_frozen BK339.out 1; have hcz12_0 : w8.cell? ⟨gb340, 0, none⟩ = some (.string (⟨#[]⟩ : ByteArray)) := (blk_cell BK340.out 0).trans rfl; have hcz12_1 : w8.cell? ⟨gb340, 1, none⟩ = some (.string (⟨#[]⟩ : ByteArray)) := (blk_cell BK340.out 1).trans rfl; have hcz12_2 : w8.cell? ⟨gb340, 2, none⟩ = some (.bool false) := (blk_cell BK340.out 2).trans rfl; have hfz12_0 := blk_frozen BK340.out 0; have hfz12_1 := blk_frozen BK340.out 1; have hfz12_2 := blk_frozen BK340.out 2) | ((with_reducible refine gq 30 rfl ?_); refine gl (some 18) Try.func30 #[.agg #[.slice Ao9 t332.length co9, .int .i64 t335], .agg #[.string t336, .string t337, .bool t338]] ?_; (with_reducible refine (impl_TableAdd.calls k _ _ t332 t335 t336 t337 t338 t341 t344 _ ?side1 ?side2 A4.out).mono ?_); (case side1 => refine (Kd.R_reads' (e := 36) (base := w.heap.size) (ok := fun k_ => (True ∧ k_ ≠ gb340)) (n := t332.length) (c := co9) ?_).2.2; exact (by (with_reducible repeat (first | apply Kd.R_alloc | apply Kd.R_drewN | apply Kd.R_drew)); exact (Kd.R_mono (Kd.R_mono (Kd.R_far (p := ⟨gb340, 2, none⟩) (Kd.R_far (p := ⟨gb340, 1, none⟩) (Kd.R_far (p := ⟨gb340, 0, none⟩) (Kd.R_far (p := ⟨gb339, 1, none⟩) (Kd.R_far (p := ⟨gb339, 0, none⟩) (Kd.R_mono (Kd.R_types HO334.out BK339.out (by decide)) (fun k_ hk => (⟨hk, hk.1.2⟩ : _ ∧ k_ ≠ gb340))) (fun _ hk => hk.1.2) (.slice Ao9 t332.length co9)) (fun _ hk => hk.1.2) (.int .i64 t335)) (fun _ hk => hk.2) (.string t336)) (fun _ hk => hk.2) (.string t337)) (fun _ hk => hk.2) (.bool t338)) (fun _ h_ => h_.1)) (fun _ h_ => h_.1)))); (case side2 => exact (Kd.R_reads' HO334.out).2.1); rintro e w13 ⟨v342, rfl, ho0, hb⟩; refine ⟨_, rfl, ?_⟩; have HO343 := Aside0.mk (Kd.R_lower (Kd.R_newB (Kd.R_new' ho0 (Kd.R_lt (by (with_reducible repeat (first | apply Kd.R_alloc | apply Kd.R_drewN | apply Kd.R_drew)); exact (Kd.R_mono (Kd.R_mono (Kd.R_far (p := ⟨gb340, 2, none⟩) (Kd.R_far (p := ⟨gb340, 1, none⟩) (Kd.R_far (p := ⟨gb340, 0, none⟩) (Kd.R_far (p := ⟨gb339, 1, none⟩) (Kd.R_far (p := ⟨gb339, 0, none⟩) (Kd.R_mono (Kd.R_types HO334.out BK339.out (by decide)) (fun k_ hk => (⟨hk, hk.1.2⟩ : _ ∧ k_ ≠ gb340))) (fun _ hk => hk.1.2) (.slice Ao9 t332.length co9)) (fun _ hk => hk.1.2) (.int .i64 t335)) (fun _ hk => hk.2) (.string t336)) (fun _ hk => hk.2) (.string t337)) (fun _ hk => hk.2) (.bool t338)) (fun _ h_ => h_.1)) (fun _ h_ => h_.1))))) (g := gb340) (o := .cells #[.string t336, .string t337, .bool t338] 36 (0, 0)) (by (with_reducible repeat (first | refine blk_drewN ?_ _ | refine blk_drew ?_ | refine blk_alloc ?_ _)); refine blk_put (cs := #[.string t336, .string t337, .bool false]) ?_ 2 _ rfl; (with_reducible repeat (first | refine blk_drewN ?_ _ | refine blk_drew ?_ | refine blk_alloc ?_ _)); refine blk_put (cs := #[.string t336, .string (⟨#[]⟩ : ByteArray), .bool false]) ?_ 1 _ rfl; (with_reducible repeat (first | refine blk_drewN ?_ _ | refine blk_drew ?_ | refine blk_alloc ?_ _)); refine blk_put (cs := #[.string (⟨#[]⟩ : ByteArray), .string (⟨#[]⟩ : ByteArray), .bool false]) ?_ 0 _ rfl; (with_reducible repeat (first | refine blk_drewN ?_ _ | refine blk_drew ?_ | refine blk_alloc ?_ _)); refine blk_far ?_ NB340_339.out _; (with_reducible repeat (first | refine blk_drewN ?_ _ | refine blk_drew ?_ | refine blk_alloc ?_ _)); refine blk_far ?_ NB340_339.out _; exact zk BK340)) (below_size (zb HB))); replace HO334 := Aside0.mk (Kd.R_elder' (by (with_reducible repeat (first | apply Kd.R_alloc | apply Kd.R_drewN | apply Kd.R_drew)); exact (Kd.R_mono (Kd.R_mono (Kd.R_far (p := ⟨gb340, 2, none⟩) (Kd.R_far (p := ⟨gb340, 1, none⟩) (Kd.R_far (p := ⟨gb340, 0, none⟩) (Kd.R_far (p := ⟨gb339, 1, none⟩) (Kd.R_far (p := ⟨gb339, 0, none⟩) (Kd.R_mono (Kd.R_types HO334.out BK339.out (by decide)) (fun k_ hk => (⟨hk, hk.1.2⟩ : _ ∧ k_ ≠ gb340))) (fun _ hk => hk.1.2) (.slice Ao9 t332.length co9)) (fun _ hk => hk.1.2) (.int .i64 t335)) (fun _ hk => hk.2) (.string t336)) (fun _ hk => hk.2) (.string t337)) (fun _ hk => hk.2) (.bool t338)) (fun _ h_ => h_.1)) (fun _ h_ => h_.1))) (Kd.R_base ho0) hb); replace BK339 := Aside0.mk (blk_below (g := gb339) (o := .cells #[.slice Ao9 t332.length co9, .int .i64 t335] 25 (0, 0)) (by (with_reducible repeat (first | refine blk_drewN ?_ _ | refine blk_drew ?_ | refine blk_alloc ?_ _)); refine blk_far ?_ NB339_340.out _; (with_reducible repeat (first | refine blk_drewN ?_ _ | refine blk_drew ?_ | refine blk_alloc ?_ _)); refine blk_far ?_ NB339_340.out _; (with_reducible repeat (first | refine blk_drewN ?_ _ | refine blk_drew ?_ | refine blk_alloc ?_ _)); refine blk_far ?_ NB339_340.out _; (with_reducible repeat (first | refine blk_drewN ?_ _ | refine blk_drew ?_ | refine blk_alloc ?_ _)); refine blk_put (cs := #[.slice Ao9 t332.length co9, .int .i64 0]) ?_ 1 _ rfl; (with_reducible repeat (first | refine blk_drewN ?_ _ | refine blk_drew ?_ | refine blk_alloc ?_ _)); refine blk_put (cs := #[.slice none 0 0, .int .i64 0]) ?_ 0 _ rfl; exact zk BK339) hb); replace BK340 := Aside0.mk (blk_below (g := gb340) (o := .cells #[.string t336, .string t337, .bool t338] 36 (0, 0)) (by (with_reducible repeat (first | refine blk_drewN ?_ _ | refine blk_drew ?_ | refine blk_alloc ?_ _)); refine blk_put (cs := #[.string t336, .string t337, .bool false]) ?_ 2 _ rfl; (with_reducible repeat (first | refine blk_drewN ?_ _ | refine blk_drew ?_ | refine blk_alloc ?_ _)); refine blk_put (cs := #[.string t336, .string (⟨#[]⟩ : ByteArray), .bool false]) ?_ 1 _ rfl; (with_reducible repeat (first | refine blk_drewN ?_ _ | refine blk_drew ?_ | refine blk_alloc ?_ _)); refine blk_put (cs := #[.string (⟨#[]⟩ : ByteArray), .string (⟨#[]⟩ : ByteArray), .bool false]) ?_ 0 _ rfl; (with_reducible repeat (first | refine blk_drewN ?_ _ | refine blk_drew ?_ | refine blk_alloc ?_ _)); refine blk_far ?_ NB340_339.out _; (with_reducible repeat (first | refine blk_drewN ?_ _ | refine blk_drew ?_ | refine blk_alloc ?_ _)); refine blk_far ?_ NB340_339.out _; exact zk BK340) hb); replace HB := Aside0.mk (below_step (zb HB) hb); (try clear hb); (try clear hk); (try clear ho0)) | ((with_reducible refine gd 5 rfl ?_); refine bx (N := 5) (cs := #[.slice none 0 0, .int .i64 0]) (t := 25) ?_; intro gb345 hg w14 hbox hb; replace HO334 := Aside0.mk (Kd.R_below (zr HO334) hb); replace HO343 := Aside0.mk (Kd.R_below (zr HO343) hb); have BK345 := Aside0.mk (hbox); have GW345 := Aside0.mk ((by rw [hg]; exact (below_size (zb HB)) : w.heap.size ≤ gb345)); have GE345 := Aside0.mk ((by rw [hg]; exact (below_size (zb HB)) : w.heap.size ≤ gb345)); replace HB := Aside0.mk (below_step (zb HB) hb); have NB339_345 := Aside0.mk ((by rw [hg]; exact Nat.ne_of_lt (blk_lt (g := gb339) (o := .cells #[.slice Ao9 t332.length co9, .int .i64 t335] 25 (0, 0)) (zk BK339)) : gb339 ≠ gb345)); have NB345_339 := Aside0.mk ((by rw [hg]; exact Nat.ne_of_gt (blk_lt (g := gb339) (o := .cells #[.slice Ao9 t332.length co9, .int .i64 t335] 25 (0, 0)) (zk BK339)) : gb345 ≠ gb339)); replace BK339 := Aside0.mk (blk_below (g := gb339) (o := .cells #[.slice Ao9 t332.length co9, .int .i64 t335] 25 (0, 0)) (zk BK339) hb); have NB340_345 := Aside0.mk ((by rw [hg]; exact Nat.ne_of_lt (blk_lt (g := gb340) (o := .cells #[.string t336, .string t337, .bool t338] 36 (0, 0)) (zk BK340)) : gb340 ≠ gb345)); have NB345_340 := Aside0.mk ((by rw [hg]; exact Nat.ne_of_gt (blk_lt (g := gb340) (o := .cells #[.string t336, .string t337, .bool t338] 36 (0, 0)) (zk BK340)) : gb345 ≠ gb340)); replace BK340 := Aside0.mk (blk_below (g := gb340) (o := .cells #[.string t336, .string t337, .bool t338] 36 (0, 0)) (zk BK340) hb); clear hb hbox hg; obtain ⟨Ao15, co15, eo15⟩ := Kd.R_slice HO343.out; subst eo15; have hnb16 := NB345_339.out; have hnc16 := NB339_345.out; have hnb17 := NB345_340.out; have hnc17 := NB340_345.out; have hcz18_0 : w14.cell? ⟨gb345, 0, none⟩ = some (.slice none 0 0) := (blk_cell BK345.out 0).trans rfl; have hcz18_1 : w14.cell? ⟨gb345, 1, none⟩ = some (.int .i64 0) := (blk_cell BK345.out 1).trans rfl; have hfz18_0 := blk_frozen BK345.out 0; have hfz18_1 := blk_frozen BK345.out 1))
  (try simp only [Act.put, s1, s2, s3])
  go_cut [34] (fun v34 wc => ∃ (kq : Nat) (x34_4 : Bool), v34 = .bool x34_4 ∧ Aside0 (laws_FnTableAdd.j0 kq x34_4 t332 t335 t336 t337 t338 t341 t344 = some r) ∧ Aside0 (kq ≤ k) ∧ Aside0 (Kd.R k36 36 wc w.heap.size (fun k_ => some k_ ≠ ((.slice Ao15 t341.length co15) : Value).ownBlock ∧ k_ ≠ gb340) (.slice Ao9 t332.length co9) t332) ∧ Aside0 (Kd.R k36 36 wc w.heap.size (fun k_ => some k_ ≠ ((.slice Ao9 t332.length co9) : Value).ownBlock ∧ k_ ≠ gb340) (.slice Ao15 t341.length co15) t341) ∧ Aside0 (wc.heap[gb339]? = some (.cells #[(.slice Ao9 t332.length co9), .int .i64 t335] 25 (0, 0))) ∧ Aside0 (wc.heap[gb340]? = some (.cells #[.string t336, .string t337, .bool t338] 36 (0, 0))) ∧ Aside0 (wc.heap[gb345]? = some (.cells #[(.slice Ao15 t341.length co15), .int .i64 t344] 25 (0, 0))) ∧ Aside0 (Below w.heap.size w wc))
  case first =>
   have H := HC5.out
   clear HC5
   replace H := Option.bind_eq_some_iff.mp H
   obtain ⟨⟨t346, t349⟩, A190, H⟩ := H
   replace H : ((laws_lkTable.f k t341 t344 t346 t349).bind fun t350 => (if t350 = true then ((spec_TableOk.f k t332 t335).bind fun t351 => (if t351 = true then ((spec_FieldOk.f k t336 t337 t338).bind fun t352 => (laws_FnTableAdd.j0 k (!t352) t332 t335 t336 t337 t338 t341 t344)) else (laws_FnTableAdd.j0 k true t332 t335 t336 t337 t338 t341 t344))) else (laws_FnTableAdd.j0 k true t332 t335 t336 t337 t338 t341 t344))) = some r := H
   have A19 := Aside0.mk A190
   clear A190
   replace H := Option.bind_eq_some_iff.mp H
   obtain ⟨t350, A200, H⟩ := H
   replace H : (if t350 = true then ((spec_TableOk.f k t332 t335).bind fun t351 => (if t351 = true then ((spec_FieldOk.f k t336 t337 t338).bind fun t352 => (laws_FnTableAdd.j0 k (!t352) t332 t335 t336 t337 t338 t341 t344)) else (laws_FnTableAdd.j0 k true t332 t335 t336 t337 t338 t341 t344))) else (laws_FnTableAdd.j0 k true t332 t335 t336 t337 t338 t341 t344)) = some r := H
   have A20 := Aside0.mk A200
   clear A200
   by_cases c21 : t350 = true
   ·subst c21
    have H1 : ((spec_TableOk.f k t332 t335).bind fun t351 => (if t351 = true then ((spec_FieldOk.f k t336 t337 t338).bind fun t352 => (laws_FnTableAdd.j0 k (!t352) t332 t335 t336 t337 t338 t341 t344)) else (laws_FnTableAdd.j0 k true t332 t335 t336 t337 t338 t341 t344))) = some r := by rw [if_pos rfl] at H; exact H
    clear H
    have H := H1
    clear H1
    replace H := Option.bind_eq_some_iff.mp H
    obtain ⟨t351, A220, H⟩ := H
    replace H : (if t351 = true then ((spec_FieldOk.f k t336 t337 t338).bind fun t352 => (laws_FnTableAdd.j0 k (!t352) t332 t335 t336 t337 t338 t341 t344)) else (laws_FnTableAdd.j0 k true t332 t335 t336 t337 t338 t341 t344)) = some r := H
    have A22 := Aside0.mk A220
    clear A220
    by_cases c23 : t351 = true
    ·subst c23
     have H1 : ((spec_FieldOk.f k t336 t337 t338).bind fun t352 => (laws_FnTableAdd.j0 k (!t352) t332 t335 t336 t337 t338 t341 t344)) = some r := by rw [if_pos rfl] at H; exact H
     clear H
     have H := H1
     clear H1
     replace H := Option.bind_eq_some_iff.mp H
     obtain ⟨t352, A240, H⟩ := H
     replace H : (laws_FnTableAdd.j0 k (!t352) t332 t335 t336 t337 t338 t341 t344) = some r := H
     have A24 := Aside0.mk A240
     clear A240
     have H' := Aside0.mk H
     clear H
     try go_wp2
     have n0_ : Aside0 (Kd.R k36 36 ((w14.setCell ⟨gb345, 0, none⟩ (.slice Ao15 t341.length co15)).setCell ⟨gb345, 1, none⟩ (.int .i64 t344)) w.heap.size (fun k_ => some k_ ≠ (.slice Ao15 t341.length co15 : Value).ownBlock ∧ k_ ≠ gb340) (.slice Ao9 t332.length co9) t332) := ⟨by (with_reducible repeat (first | apply Kd.R_alloc | apply Kd.R_drewN | apply Kd.R_drew)); exact Kd.R_mono (Kd.R_far (p := ⟨gb345, 1, none⟩) (Kd.R_far (p := ⟨gb345, 0, none⟩) (Kd.R_types HO334.out BK345.out (by decide)) (fun _ hk => hk.2) (.slice Ao15 t341.length co15)) (fun _ hk => hk.2) (.int .i64 t344)) (fun _ hk => ⟨hk.1.2, hk.1.1.2⟩)⟩
     have n1_ : Aside0 (Kd.R k36 36 ((w14.setCell ⟨gb345, 0, none⟩ (.slice Ao15 t341.length co15)).setCell ⟨gb345, 1, none⟩ (.int .i64 t344)) w.heap.size (fun k_ => some k_ ≠ (.slice Ao9 t332.length co9 : Value).ownBlock ∧ k_ ≠ gb340) (.slice Ao15 t341.length co15) t341) := ⟨by (with_reducible repeat (first | apply Kd.R_alloc | apply Kd.R_drewN | apply Kd.R_drew)); exact Kd.R_mono (Kd.R_far (p := ⟨gb345, 1, none⟩) (Kd.R_far (p := ⟨gb345, 0, none⟩) (Kd.R_types HO343.out BK345.out (by decide)) (fun _ hk => hk.2) (.slice Ao15 t341.length co15)) (fun _ hk => hk.2) (.int .i64 t344)) (fun _ hk => ⟨hk.1.1.2, hk.1.2⟩)⟩
     have n2_ : Aside0 (((w14.setCell ⟨gb345, 0, none⟩ (.slice Ao15 t341.length co15)).setCell ⟨gb345, 1, none⟩ (.int .i64 t344)).heap[gb339]? = some (.cells #[.slice Ao9 t332.length co9, .int .i64 t335] 25 (0, 0))) := ⟨by (with_reducible repeat (first | refine blk_drewN ?_ _ | refine blk_drew ?_ | refine blk_alloc ?_ _)); refine blk_far ?_ NB339_345.out _; (with_reducible repeat (first | refine blk_drewN ?_ _ | refine blk_drew ?_ | refine blk_alloc ?_ _)); refine blk_far ?_ NB339_345.out _; exact zk BK339⟩
     have n3_ : Aside0 (((w14.setCell ⟨gb345, 0, none⟩ (.slice Ao15 t341.length co15)).setCell ⟨gb345, 1, none⟩ (.int .i64 t344)).heap[gb340]? = some (.cells #[.string t336, .string t337, .bool t338] 36 (0, 0))) := ⟨by (with_reducible repeat (first | refine blk_drewN ?_ _ | refine blk_drew ?_ | refine blk_alloc ?_ _)); refine blk_far ?_ NB340_345.out _; (with_reducible repeat (first | refine blk_drewN ?_ _ | refine blk_drew ?_ | refine blk_alloc ?_ _)); refine blk_far ?_ NB340_345.out _; exact zk BK340⟩
     have n4_ : Aside0 (((w14.setCell ⟨gb345, 0, none⟩ (.slice Ao15 t341.length co15)).setCell ⟨gb345, 1, none⟩ (.int .i64 t344)).heap[gb345]? = some (.cells #[.slice Ao15 t341.length co15, .int .i64 t344] 25 (0, 0))) := ⟨by (with_reducible repeat (first | refine blk_drewN ?_ _ | refine blk_drew ?_ | refine blk_alloc ?_ _)); refine blk_put (cs := #[.slice Ao15 t341.length co15, .int .i64 0]) ?_ 1 _ rfl; (with_reducible repeat (first | refine blk_drewN ?_ _ | refine blk_drew ?_ | refine blk_alloc ?_ _)); refine blk_put (cs := #[.slice none 0 0, .int .i64 0]) ?_ 0 _ rfl; exact zk BK345⟩
     have n5_ : Aside0 (Below w.heap.size w ((w14.setCell ⟨gb345, 0, none⟩ (.slice Ao15 t341.length co15)).setCell ⟨gb345, 1, none⟩ (.int .i64 t344))) := ⟨zb HB⟩
     (try clear HO334)
     (try clear HO343)
     (try clear BK339)
     (try clear BK340)
     (try clear BK345)
     (try clear HB)
     generalize ((w14.setCell ⟨gb345, 0, none⟩ (.slice Ao15 t341.length co15)).setCell ⟨gb345, 1, none⟩ (.int .i64 t344)) = w25 at n0_ n1_ n2_ n3_ n4_ n5_ ⊢
     have HO334 := n0_
     have HO343 := n1_
     have BK339 := n2_
     have BK340 := n3_
     have BK345 := n4_
     have HB := n5_
     clear n0_ n1_ n2_ n3_ n4_ n5_
     replace HO334 := Aside0.mk (Kd.R_drew HO334.out)
     replace HO343 := Aside0.mk (Kd.R_drew HO343.out)
     replace BK339 := Aside0.mk (blk_drew BK339.out)
     replace BK340 := Aside0.mk (blk_drew BK340.out)
     replace BK345 := Aside0.mk (blk_drew BK345.out)
     replace HB := Aside0.mk (below_drew1 HB.out)
     refine start_ (n := 16) (S := fun w' => w'.cell? ⟨gb345, 0, none⟩ = some (.slice Ao15 t341.length co15) ∧ w'.cell? ⟨gb345, 1, none⟩ = some (.int .i64 t344) ∧ w'.cell? ⟨gb339, 0, none⟩ = some (.slice Ao9 t332.length co9) ∧ w'.cell? ⟨gb339, 1, none⟩ = some (.int .i64 t335) ∧ w'.cell? ⟨gb340, 0, none⟩ = some (.string t336) ∧ w'.cell? ⟨gb340, 1, none⟩ = some (.string t337) ∧ w'.cell? ⟨gb340, 2, none⟩ = some (.bool t338)) (ds := []) #[false, false, false, false, false, false, false, false, false, false, false, false, false, false, false, false] (by kernel_rfl) rfl rfl ⟨(blk_cell BK345.out 0).trans rfl, (blk_cell BK345.out 1).trans rfl, (blk_cell BK339.out 0).trans rfl, (blk_cell BK339.out 1).trans rfl, (blk_cell BK340.out 0).trans rfl, (blk_cell BK340.out 1).trans rfl, (blk_cell BK340.out 2).trans rfl⟩ (fun hHeld => ?_); refine with_tabW laws_FnTableAdd.tab5 laws_FnTableAdd.bits5 (fun HT_ HW_ => ?_)
     generalize w25.drew = w26 at HO334 HO343 BK339 BK340 BK345 HB hHeld ⊢
     refine tk7 0 (some 19) (bm 16 1) rfl rfl hHeld ?_
     refine tk7 1 (some 20) (bm 16 3) rfl rfl hHeld ?_
     refine tk7 2 (some 21) (bm 16 7) rfl rfl hHeld ?_
     refine one_ (i := 3) (N := some 22) (bm 16 15) rfl rfl (one_of HT_.out (by kernel_rfl)) (by decide) (fun K hK => ?_)
     refine gs Try.func31 #[.agg #[.slice Ao9 t332.length co9, .int .i64 t335], .agg #[.string t336, .string t337, .bool t338]] ?_
     with_reducible refine (spec_TableAdd.calls k _ _ t332 t335 t336 t337 t338 t346 t349 _ ?side1 ?side2 A19.out).mono ?_
     (case side1 => exact zc (Kd.R_reads' HO334.out).2.2)
     (case side2 => exact (Kd.R_reads' HO334.out).2.1)
     rintro e w27 ⟨v347, rfl, ho0, hb⟩
     refine ⟨_, rfl, ?_⟩
     have HO348 := Aside0.mk (Kd.R_lower (Kd.R_newB (Kd.R_new' (Kd.R_new' ho0 (Kd.R_lt (zr HO334))) (Kd.R_lt (zr HO343))) (g := gb340) (o := .cells #[.string t336, .string t337, .bool t338] 36 (0, 0)) (zk BK340)) (below_size (zb HB)))
     replace HO334 := Aside0.mk (Kd.R_elder' (zr HO334) (Kd.R_base ho0) hb)
     replace HO343 := Aside0.mk (Kd.R_elder' (zr HO343) (Kd.R_base ho0) hb)
     replace BK339 := Aside0.mk (blk_below (g := gb339) (o := .cells #[.slice Ao9 t332.length co9, .int .i64 t335] 25 (0, 0)) (zk BK339) hb)
     replace BK340 := Aside0.mk (blk_below (g := gb340) (o := .cells #[.string t336, .string t337, .bool t338] 36 (0, 0)) (zk BK340) hb)
     replace BK345 := Aside0.mk (blk_below (g := gb345) (o := .cells #[.slice Ao15 t341.length co15, .int .i64 t344] 25 (0, 0)) (zk BK345) hb)
     replace HB := Aside0.mk (below_step (zb HB) hb)
     (try clear hb)
     (try clear ho0)
     obtain ⟨Ao28, co28, eo28⟩ := Kd.R_slice HO348.out
     (first | subst eo28 | (injection eo28 with f1_ f2_ f3_; have f4_ := f1_.symm; have f5_ := f3_.symm; clear f1_ f2_ f3_; subst f4_; subst f5_))
     refine hK.out _ _ ⟨(blk_cell BK345.out 0).trans rfl, (blk_cell BK345.out 1).trans rfl, (blk_cell BK339.out 0).trans rfl, (blk_cell BK339.out 1).trans rfl, (blk_cell BK340.out 0).trans rfl, (blk_cell BK340.out 1).trans rfl, (blk_cell BK340.out 2).trans rfl⟩ (fun hHeld => ?_)
     clear hK K
     refine nm ?_
     refine one_ (i := 4) (N := some 23) (bm 16 31) rfl rfl (one_of HT_.out (by kernel_rfl)) (by decide) (fun K hK => ?_)
     refine gs Try.func17 #[.agg #[.slice Ao15 t341.length co15, .int .i64 t344], .agg #[.slice Ao28 t346.length co28, .int .i64 t349]] ?_
     with_reducible refine (laws_lkTable.calls k _ _ t341 t344 _ _ t346 t349 true _ ?side1 ?side2 ?side3 ?side4 A20.out).mono ?_
     (case side1 => exact zc (Kd.R_reads' HO343.out).2.2)
     (case side2 => exact (Kd.R_reads' HO343.out).2.1)
     (case side3 => exact zc (Kd.R_reads' HO348.out).2.2)
     (case side4 => exact (Kd.R_reads' HO348.out).2.1)
     rintro e w29 ⟨rfl, hb⟩
     refine ⟨_, rfl, ?_⟩
     replace HO334 := Aside0.mk (Kd.R_below (zr HO334) hb)
     replace HO343 := Aside0.mk (Kd.R_below (zr HO343) hb)
     replace HO348 := Aside0.mk (Kd.R_below (zr HO348) hb)
     replace BK339 := Aside0.mk (blk_below (g := gb339) (o := .cells #[.slice Ao9 t332.length co9, .int .i64 t335] 25 (0, 0)) (zk BK339) hb)
     replace BK340 := Aside0.mk (blk_below (g := gb340) (o := .cells #[.string t336, .string t337, .bool t338] 36 (0, 0)) (zk BK340) hb)
     replace BK345 := Aside0.mk (blk_below (g := gb345) (o := .cells #[.slice Ao15 t341.length co15, .int .i64 t344] 25 (0, 0)) (zk BK345) hb)
     replace HB := Aside0.mk (below_step (zb HB) hb)
     (try clear hb)
     refine hK.out _ _ ⟨(blk_cell BK345.out 0).trans rfl, (blk_cell BK345.out 1).trans rfl, (blk_cell BK339.out 0).trans rfl, (blk_cell BK339.out 1).trans rfl, (blk_cell BK340.out 0).trans rfl, (blk_cell BK340.out 1).trans rfl, (blk_cell BK340.out 2).trans rfl⟩ (fun hHeld => ?_)
     clear hK K
     refine nm ?_
     refine pu 5 (some 24) (bm 16 63) rfl rfl ?_
     refine pu 6 (some 25) (bm 16 127) rfl rfl ?_
     refine tk7 7 (some 26) (bm 16 255) rfl rfl hHeld ?_
     refine one_ (i := 8) (N := some 27) (bm 16 511) rfl rfl (one_of HT_.out (by kernel_rfl)) (by decide) (fun K hK => ?_)
     refine gs Try.func19 #[.agg #[.slice Ao9 t332.length co9, .int .i64 t335]] ?_
     with_reducible refine (spec_TableOk.calls k _ _ t332 t335 true _ ?side1 ?side2 A22.out).mono ?_
     (case side1 => exact zc (Kd.R_reads' HO334.out).2.2)
     (case side2 => exact (Kd.R_reads' HO334.out).2.1)
     rintro e w30 ⟨rfl, hb⟩
     refine ⟨_, rfl, ?_⟩
     replace HO334 := Aside0.mk (Kd.R_below (zr HO334) hb)
     replace HO343 := Aside0.mk (Kd.R_below (zr HO343) hb)
     replace HO348 := Aside0.mk (Kd.R_below (zr HO348) hb)
     replace BK339 := Aside0.mk (blk_below (g := gb339) (o := .cells #[.slice Ao9 t332.length co9, .int .i64 t335] 25 (0, 0)) (zk BK339) hb)
     replace BK340 := Aside0.mk (blk_below (g := gb340) (o := .cells #[.string t336, .string t337, .bool t338] 36 (0, 0)) (zk BK340) hb)
     replace BK345 := Aside0.mk (blk_below (g := gb345) (o := .cells #[.slice Ao15 t341.length co15, .int .i64 t344] 25 (0, 0)) (zk BK345) hb)
     replace HB := Aside0.mk (below_step (zb HB) hb)
     (try clear hb)
     refine hK.out _ _ ⟨(blk_cell BK345.out 0).trans rfl, (blk_cell BK345.out 1).trans rfl, (blk_cell BK339.out 0).trans rfl, (blk_cell BK339.out 1).trans rfl, (blk_cell BK340.out 0).trans rfl, (blk_cell BK340.out 1).trans rfl, (blk_cell BK340.out 2).trans rfl⟩ (fun hHeld => ?_)
     clear hK K
     refine nm ?_
     refine pu 9 (some 28) (bm 16 1023) rfl rfl ?_
     refine pu 10 (some 29) (bm 16 2047) rfl rfl ?_
     refine pu 11 (some 30) (bm 16 4095) rfl rfl ?_
     refine tk7 12 (some 31) (bm 16 8191) rfl rfl hHeld ?_
     refine one_ (i := 13) (N := some 32) (bm 16 16383) rfl rfl (one_of HT_.out (by kernel_rfl)) (by decide) (fun K hK => ?_)
     refine gs Try.func32 #[.agg #[.string t336, .string t337, .bool t338]] ?_
     with_reducible refine (spec_FieldOk.calls k t336 t337 t338 t352 _ A24.out).mono ?_
     rintro e w31 ⟨rfl, hb⟩
     refine ⟨_, rfl, ?_⟩
     replace HO334 := Aside0.mk (Kd.R_below (zr HO334) hb)
     replace HO343 := Aside0.mk (Kd.R_below (zr HO343) hb)
     replace HO348 := Aside0.mk (Kd.R_below (zr HO348) hb)
     replace BK339 := Aside0.mk (blk_below (g := gb339) (o := .cells #[.slice Ao9 t332.length co9, .int .i64 t335] 25 (0, 0)) (zk BK339) hb)
     replace BK340 := Aside0.mk (blk_below (g := gb340) (o := .cells #[.string t336, .string t337, .bool t338] 36 (0, 0)) (zk BK340) hb)
     replace BK345 := Aside0.mk (blk_below (g := gb345) (o := .cells #[.slice Ao15 t341.length co15, .int .i64 t344] 25 (0, 0)) (zk BK345) hb)
     replace HB := Aside0.mk (below_step (zb HB) hb)
     (try clear hb)
     refine hK.out _ _ ⟨(blk_cell BK345.out 0).trans rfl, (blk_cell BK345.out 1).trans rfl, (blk_cell BK339.out 0).trans rfl, (blk_cell BK339.out 1).trans rfl, (blk_cell BK340.out 0).trans rfl, (blk_cell BK340.out 1).trans rfl, (blk_cell BK340.out 2).trans rfl⟩ (fun hHeld => ?_)
     clear hK K
     refine nm ?_
     refine pu 14 (some 33) (bm 16 32767) rfl rfl ?_
     refine pu 15 (some 34) (bm 16 65535) rfl rfl ?_
     refine done_ (done_of HT_.out (by kernel_rfl)) ?_
     try go_wp2
     go_meet
     case rel => exact ⟨_, (!t352), zs, H', ⟨by first | omega | exact Nat.le_refl _⟩, ⟨by (with_reducible repeat (first | apply Kd.R_alloc | apply Kd.R_drewN | apply Kd.R_drew)); exact Kd.R_mono HO334.out (fun _ hk => ⟨hk.1.1, hk.1.2⟩)⟩, ⟨by (with_reducible repeat (first | apply Kd.R_alloc | apply Kd.R_drewN | apply Kd.R_drew)); exact Kd.R_mono HO343.out (fun _ hk => ⟨hk.1.1, hk.1.2⟩)⟩, ⟨by exact zk BK339⟩, ⟨by exact zk BK340⟩, ⟨by exact zk BK345⟩, ⟨zb HB⟩⟩
    ·replace c23 := Bool.eq_false_iff.mpr c23
     subst c23
     have H1 : (laws_FnTableAdd.j0 k true t332 t335 t336 t337 t338 t341 t344) = some r := by rw [if_neg (show ¬ (false = true) by decide)] at H; exact H
     clear H
     have H := H1
     clear H1
     have H' := Aside0.mk H
     clear H
     try go_wp2
     have n0_ : Aside0 (Kd.R k36 36 ((w14.setCell ⟨gb345, 0, none⟩ (.slice Ao15 t341.length co15)).setCell ⟨gb345, 1, none⟩ (.int .i64 t344)) w.heap.size (fun k_ => some k_ ≠ (.slice Ao15 t341.length co15 : Value).ownBlock ∧ k_ ≠ gb340) (.slice Ao9 t332.length co9) t332) := ⟨by (with_reducible repeat (first | apply Kd.R_alloc | apply Kd.R_drewN | apply Kd.R_drew)); exact Kd.R_mono (Kd.R_far (p := ⟨gb345, 1, none⟩) (Kd.R_far (p := ⟨gb345, 0, none⟩) (Kd.R_types HO334.out BK345.out (by decide)) (fun _ hk => hk.2) (.slice Ao15 t341.length co15)) (fun _ hk => hk.2) (.int .i64 t344)) (fun _ hk => ⟨hk.1.2, hk.1.1.2⟩)⟩
     have n1_ : Aside0 (Kd.R k36 36 ((w14.setCell ⟨gb345, 0, none⟩ (.slice Ao15 t341.length co15)).setCell ⟨gb345, 1, none⟩ (.int .i64 t344)) w.heap.size (fun k_ => some k_ ≠ (.slice Ao9 t332.length co9 : Value).ownBlock ∧ k_ ≠ gb340) (.slice Ao15 t341.length co15) t341) := ⟨by (with_reducible repeat (first | apply Kd.R_alloc | apply Kd.R_drewN | apply Kd.R_drew)); exact Kd.R_mono (Kd.R_far (p := ⟨gb345, 1, none⟩) (Kd.R_far (p := ⟨gb345, 0, none⟩) (Kd.R_types HO343.out BK345.out (by decide)) (fun _ hk => hk.2) (.slice Ao15 t341.length co15)) (fun _ hk => hk.2) (.int .i64 t344)) (fun _ hk => ⟨hk.1.1.2, hk.1.2⟩)⟩
     have n2_ : Aside0 (((w14.setCell ⟨gb345, 0, none⟩ (.slice Ao15 t341.length co15)).setCell ⟨gb345, 1, none⟩ (.int .i64 t344)).heap[gb339]? = some (.cells #[.slice Ao9 t332.length co9, .int .i64 t335] 25 (0, 0))) := ⟨by (with_reducible repeat (first | refine blk_drewN ?_ _ | refine blk_drew ?_ | refine blk_alloc ?_ _)); refine blk_far ?_ NB339_345.out _; (with_reducible repeat (first | refine blk_drewN ?_ _ | refine blk_drew ?_ | refine blk_alloc ?_ _)); refine blk_far ?_ NB339_345.out _; exact zk BK339⟩
     have n3_ : Aside0 (((w14.setCell ⟨gb345, 0, none⟩ (.slice Ao15 t341.length co15)).setCell ⟨gb345, 1, none⟩ (.int .i64 t344)).heap[gb340]? = some (.cells #[.string t336, .string t337, .bool t338] 36 (0, 0))) := ⟨by (with_reducible repeat (first | refine blk_drewN ?_ _ | refine blk_drew ?_ | refine blk_alloc ?_ _)); refine blk_far ?_ NB340_345.out _; (with_reducible repeat (first | refine blk_drewN ?_ _ | refine blk_drew ?_ | refine blk_alloc ?_ _)); refine blk_far ?_ NB340_345.out _; exact zk BK340⟩
     have n4_ : Aside0 (((w14.setCell ⟨gb345, 0, none⟩ (.slice Ao15 t341.length co15)).setCell ⟨gb345, 1, none⟩ (.int .i64 t344)).heap[gb345]? = some (.cells #[.slice Ao15 t341.length co15, .int .i64 t344] 25 (0, 0))) := ⟨by (with_reducible repeat (first | refine blk_drewN ?_ _ | refine blk_drew ?_ | refine blk_alloc ?_ _)); refine blk_put (cs := #[.slice Ao15 t341.length co15, .int .i64 0]) ?_ 1 _ rfl; (with_reducible repeat (first | refine blk_drewN ?_ _ | refine blk_drew ?_ | refine blk_alloc ?_ _)); refine blk_put (cs := #[.slice none 0 0, .int .i64 0]) ?_ 0 _ rfl; exact zk BK345⟩
     have n5_ : Aside0 (Below w.heap.size w ((w14.setCell ⟨gb345, 0, none⟩ (.slice Ao15 t341.length co15)).setCell ⟨gb345, 1, none⟩ (.int .i64 t344))) := ⟨zb HB⟩
     (try clear HO334)
     (try clear HO343)
     (try clear BK339)
     (try clear BK340)
     (try clear BK345)
     (try clear HB)
     generalize ((w14.setCell ⟨gb345, 0, none⟩ (.slice Ao15 t341.length co15)).setCell ⟨gb345, 1, none⟩ (.int .i64 t344)) = w32 at n0_ n1_ n2_ n3_ n4_ n5_ ⊢
     have HO334 := n0_
     have HO343 := n1_
     have BK339 := n2_
     have BK340 := n3_
     have BK345 := n4_
     have HB := n5_
     clear n0_ n1_ n2_ n3_ n4_ n5_
     replace HO334 := Aside0.mk (Kd.R_drew HO334.out)
     replace HO343 := Aside0.mk (Kd.R_drew HO343.out)
     replace BK339 := Aside0.mk (blk_drew BK339.out)
     replace BK340 := Aside0.mk (blk_drew BK340.out)
     replace BK345 := Aside0.mk (blk_drew BK345.out)
     replace HB := Aside0.mk (below_drew1 HB.out)
     refine start_ (n := 16) (S := fun w' => w'.cell? ⟨gb345, 0, none⟩ = some (.slice Ao15 t341.length co15) ∧ w'.cell? ⟨gb345, 1, none⟩ = some (.int .i64 t344) ∧ w'.cell? ⟨gb339, 0, none⟩ = some (.slice Ao9 t332.length co9) ∧ w'.cell? ⟨gb339, 1, none⟩ = some (.int .i64 t335) ∧ w'.cell? ⟨gb340, 0, none⟩ = some (.string t336) ∧ w'.cell? ⟨gb340, 1, none⟩ = some (.string t337) ∧ w'.cell? ⟨gb340, 2, none⟩ = some (.bool t338)) (ds := []) #[false, false, false, false, false, false, false, false, false, false, false, false, false, false, false, false] (by kernel_rfl) rfl rfl ⟨(blk_cell BK345.out 0).trans rfl, (blk_cell BK345.out 1).trans rfl, (blk_cell BK339.out 0).trans rfl, (blk_cell BK339.out 1).trans rfl, (blk_cell BK340.out 0).trans rfl, (blk_cell BK340.out 1).trans rfl, (blk_cell BK340.out 2).trans rfl⟩ (fun hHeld => ?_); refine with_tabW laws_FnTableAdd.tab5 laws_FnTableAdd.bits5 (fun HT_ HW_ => ?_)
     generalize w32.drew = w33 at HO334 HO343 BK339 BK340 BK345 HB hHeld ⊢
     refine tk7 0 (some 19) (bm 16 1) rfl rfl hHeld ?_
     refine tk7 1 (some 20) (bm 16 3) rfl rfl hHeld ?_
     refine tk7 2 (some 21) (bm 16 7) rfl rfl hHeld ?_
     refine one_ (i := 3) (N := some 22) (bm 16 15) rfl rfl (one_of HT_.out (by kernel_rfl)) (by decide) (fun K hK => ?_)
     refine gs Try.func31 #[.agg #[.slice Ao9 t332.length co9, .int .i64 t335], .agg #[.string t336, .string t337, .bool t338]] ?_
     with_reducible refine (spec_TableAdd.calls k _ _ t332 t335 t336 t337 t338 t346 t349 _ ?side1 ?side2 A19.out).mono ?_
     (case side1 => exact zc (Kd.R_reads' HO334.out).2.2)
     (case side2 => exact (Kd.R_reads' HO334.out).2.1)
     rintro e w34 ⟨v347, rfl, ho0, hb⟩
     refine ⟨_, rfl, ?_⟩
     have HO348 := Aside0.mk (Kd.R_lower (Kd.R_newB (Kd.R_new' (Kd.R_new' ho0 (Kd.R_lt (zr HO334))) (Kd.R_lt (zr HO343))) (g := gb340) (o := .cells #[.string t336, .string t337, .bool t338] 36 (0, 0)) (zk BK340)) (below_size (zb HB)))
     replace HO334 := Aside0.mk (Kd.R_elder' (zr HO334) (Kd.R_base ho0) hb)
     replace HO343 := Aside0.mk (Kd.R_elder' (zr HO343) (Kd.R_base ho0) hb)
     replace BK339 := Aside0.mk (blk_below (g := gb339) (o := .cells #[.slice Ao9 t332.length co9, .int .i64 t335] 25 (0, 0)) (zk BK339) hb)
     replace BK340 := Aside0.mk (blk_below (g := gb340) (o := .cells #[.string t336, .string t337, .bool t338] 36 (0, 0)) (zk BK340) hb)
     replace BK345 := Aside0.mk (blk_below (g := gb345) (o := .cells #[.slice Ao15 t341.length co15, .int .i64 t344] 25 (0, 0)) (zk BK345) hb)
     replace HB := Aside0.mk (below_step (zb HB) hb)
     (try clear hb)
     (try clear ho0)
     obtain ⟨Ao35, co35, eo35⟩ := Kd.R_slice HO348.out
     (first | subst eo35 | (injection eo35 with f1_ f2_ f3_; have f4_ := f1_.symm; have f5_ := f3_.symm; clear f1_ f2_ f3_; subst f4_; subst f5_))
     refine hK.out _ _ ⟨(blk_cell BK345.out 0).trans rfl, (blk_cell BK345.out 1).trans rfl, (blk_cell BK339.out 0).trans rfl, (blk_cell BK339.out 1).trans rfl, (blk_cell BK340.out 0).trans rfl, (blk_cell BK340.out 1).trans rfl, (blk_cell BK340.out 2).trans rfl⟩ (fun hHeld => ?_)
     clear hK K
     refine nm ?_
     refine one_ (i := 4) (N := some 23) (bm 16 31) rfl rfl (one_of HT_.out (by kernel_rfl)) (by decide) (fun K hK => ?_)
     refine gs Try.func17 #[.agg #[.slice Ao15 t341.length co15, .int .i64 t344], .agg #[.slice Ao35 t346.length co35, .int .i64 t349]] ?_
     with_reducible refine (laws_lkTable.calls k _ _ t341 t344 _ _ t346 t349 true _ ?side1 ?side2 ?side3 ?side4 A20.out).mono ?_
     (case side1 => exact zc (Kd.R_reads' HO343.out).2.2)
     (case side2 => exact (Kd.R_reads' HO343.out).2.1)
     (case side3 => exact zc (Kd.R_reads' HO348.out).2.2)
     (case side4 => exact (Kd.R_reads' HO348.out).2.1)
     rintro e w36 ⟨rfl, hb⟩
     refine ⟨_, rfl, ?_⟩
     replace HO334 := Aside0.mk (Kd.R_below (zr HO334) hb)
     replace HO343 := Aside0.mk (Kd.R_below (zr HO343) hb)
     replace HO348 := Aside0.mk (Kd.R_below (zr HO348) hb)
     replace BK339 := Aside0.mk (blk_below (g := gb339) (o := .cells #[.slice Ao9 t332.length co9, .int .i64 t335] 25 (0, 0)) (zk BK339) hb)
     replace BK340 := Aside0.mk (blk_below (g := gb340) (o := .cells #[.string t336, .string t337, .bool t338] 36 (0, 0)) (zk BK340) hb)
     replace BK345 := Aside0.mk (blk_below (g := gb345) (o := .cells #[.slice Ao15 t341.length co15, .int .i64 t344] 25 (0, 0)) (zk BK345) hb)
     replace HB := Aside0.mk (below_step (zb HB) hb)
     (try clear hb)
     refine hK.out _ _ ⟨(blk_cell BK345.out 0).trans rfl, (blk_cell BK345.out 1).trans rfl, (blk_cell BK339.out 0).trans rfl, (blk_cell BK339.out 1).trans rfl, (blk_cell BK340.out 0).trans rfl, (blk_cell BK340.out 1).trans rfl, (blk_cell BK340.out 2).trans rfl⟩ (fun hHeld => ?_)
     clear hK K
     refine nm ?_
     refine pu 5 (some 24) (bm 16 63) rfl rfl ?_
     refine pu 6 (some 25) (bm 16 127) rfl rfl ?_
     refine tk7 7 (some 26) (bm 16 255) rfl rfl hHeld ?_
     refine one_ (i := 8) (N := some 27) (bm 16 511) rfl rfl (one_of HT_.out (by kernel_rfl)) (by decide) (fun K hK => ?_)
     refine gs Try.func19 #[.agg #[.slice Ao9 t332.length co9, .int .i64 t335]] ?_
     with_reducible refine (spec_TableOk.calls k _ _ t332 t335 false _ ?side1 ?side2 A22.out).mono ?_
     (case side1 => exact zc (Kd.R_reads' HO334.out).2.2)
     (case side2 => exact (Kd.R_reads' HO334.out).2.1)
     rintro e w37 ⟨rfl, hb⟩
     refine ⟨_, rfl, ?_⟩
     replace HO334 := Aside0.mk (Kd.R_below (zr HO334) hb)
     replace HO343 := Aside0.mk (Kd.R_below (zr HO343) hb)
     replace HO348 := Aside0.mk (Kd.R_below (zr HO348) hb)
     replace BK339 := Aside0.mk (blk_below (g := gb339) (o := .cells #[.slice Ao9 t332.length co9, .int .i64 t335] 25 (0, 0)) (zk BK339) hb)
     replace BK340 := Aside0.mk (blk_below (g := gb340) (o := .cells #[.string t336, .string t337, .bool t338] 36 (0, 0)) (zk BK340) hb)
     replace BK345 := Aside0.mk (blk_below (g := gb345) (o := .cells #[.slice Ao15 t341.length co15, .int .i64 t344] 25 (0, 0)) (zk BK345) hb)
     replace HB := Aside0.mk (below_step (zb HB) hb)
     (try clear hb)
     refine hK.out _ _ ⟨(blk_cell BK345.out 0).trans rfl, (blk_cell BK345.out 1).trans rfl, (blk_cell BK339.out 0).trans rfl, (blk_cell BK339.out 1).trans rfl, (blk_cell BK340.out 0).trans rfl, (blk_cell BK340.out 1).trans rfl, (blk_cell BK340.out 2).trans rfl⟩ (fun hHeld => ?_)
     clear hK K
     refine nm ?_
     refine pu 9 (some 28) (bm 16 1023) rfl rfl ?_
     refine pu 10 (some 29) (bm 16 2047) rfl rfl ?_
     refine pu 11 (some 30) (bm 16 4095) rfl rfl ?_
     refine pv 12 (some 31) (bm 16 8191) rfl rfl ?_
     refine pv 13 (some 32) (bm 16 16383) rfl rfl ?_
     refine pv 14 (some 33) (bm 16 32767) rfl rfl ?_
     refine pu 15 (some 34) (bm 16 65535) rfl rfl ?_
     refine done_ (done_of HT_.out (by kernel_rfl)) ?_
     try go_wp2
     go_meet
     case rel => exact ⟨_, (true), zs, H', ⟨by first | omega | exact Nat.le_refl _⟩, ⟨by (with_reducible repeat (first | apply Kd.R_alloc | apply Kd.R_drewN | apply Kd.R_drew)); exact Kd.R_mono HO334.out (fun _ hk => ⟨hk.1.1, hk.1.2⟩)⟩, ⟨by (with_reducible repeat (first | apply Kd.R_alloc | apply Kd.R_drewN | apply Kd.R_drew)); exact Kd.R_mono HO343.out (fun _ hk => ⟨hk.1.1, hk.1.2⟩)⟩, ⟨by exact zk BK339⟩, ⟨by exact zk BK340⟩, ⟨by exact zk BK345⟩, ⟨zb HB⟩⟩
   ·replace c21 := Bool.eq_false_iff.mpr c21
    subst c21
    have H1 : (laws_FnTableAdd.j0 k true t332 t335 t336 t337 t338 t341 t344) = some r := by rw [if_neg (show ¬ (false = true) by decide)] at H; exact H
    clear H
    have H := H1
    clear H1
    have H' := Aside0.mk H
    clear H
    try go_wp2
    have n0_ : Aside0 (Kd.R k36 36 ((w14.setCell ⟨gb345, 0, none⟩ (.slice Ao15 t341.length co15)).setCell ⟨gb345, 1, none⟩ (.int .i64 t344)) w.heap.size (fun k_ => some k_ ≠ (.slice Ao15 t341.length co15 : Value).ownBlock ∧ k_ ≠ gb340) (.slice Ao9 t332.length co9) t332) := ⟨by (with_reducible repeat (first | apply Kd.R_alloc | apply Kd.R_drewN | apply Kd.R_drew)); exact Kd.R_mono (Kd.R_far (p := ⟨gb345, 1, none⟩) (Kd.R_far (p := ⟨gb345, 0, none⟩) (Kd.R_types HO334.out BK345.out (by decide)) (fun _ hk => hk.2) (.slice Ao15 t341.length co15)) (fun _ hk => hk.2) (.int .i64 t344)) (fun _ hk => ⟨hk.1.2, hk.1.1.2⟩)⟩
    have n1_ : Aside0 (Kd.R k36 36 ((w14.setCell ⟨gb345, 0, none⟩ (.slice Ao15 t341.length co15)).setCell ⟨gb345, 1, none⟩ (.int .i64 t344)) w.heap.size (fun k_ => some k_ ≠ (.slice Ao9 t332.length co9 : Value).ownBlock ∧ k_ ≠ gb340) (.slice Ao15 t341.length co15) t341) := ⟨by (with_reducible repeat (first | apply Kd.R_alloc | apply Kd.R_drewN | apply Kd.R_drew)); exact Kd.R_mono (Kd.R_far (p := ⟨gb345, 1, none⟩) (Kd.R_far (p := ⟨gb345, 0, none⟩) (Kd.R_types HO343.out BK345.out (by decide)) (fun _ hk => hk.2) (.slice Ao15 t341.length co15)) (fun _ hk => hk.2) (.int .i64 t344)) (fun _ hk => ⟨hk.1.1.2, hk.1.2⟩)⟩
    have n2_ : Aside0 (((w14.setCell ⟨gb345, 0, none⟩ (.slice Ao15 t341.length co15)).setCell ⟨gb345, 1, none⟩ (.int .i64 t344)).heap[gb339]? = some (.cells #[.slice Ao9 t332.length co9, .int .i64 t335] 25 (0, 0))) := ⟨by (with_reducible repeat (first | refine blk_drewN ?_ _ | refine blk_drew ?_ | refine blk_alloc ?_ _)); refine blk_far ?_ NB339_345.out _; (with_reducible repeat (first | refine blk_drewN ?_ _ | refine blk_drew ?_ | refine blk_alloc ?_ _)); refine blk_far ?_ NB339_345.out _; exact zk BK339⟩
    have n3_ : Aside0 (((w14.setCell ⟨gb345, 0, none⟩ (.slice Ao15 t341.length co15)).setCell ⟨gb345, 1, none⟩ (.int .i64 t344)).heap[gb340]? = some (.cells #[.string t336, .string t337, .bool t338] 36 (0, 0))) := ⟨by (with_reducible repeat (first | refine blk_drewN ?_ _ | refine blk_drew ?_ | refine blk_alloc ?_ _)); refine blk_far ?_ NB340_345.out _; (with_reducible repeat (first | refine blk_drewN ?_ _ | refine blk_drew ?_ | refine blk_alloc ?_ _)); refine blk_far ?_ NB340_345.out _; exact zk BK340⟩
    have n4_ : Aside0 (((w14.setCell ⟨gb345, 0, none⟩ (.slice Ao15 t341.length co15)).setCell ⟨gb345, 1, none⟩ (.int .i64 t344)).heap[gb345]? = some (.cells #[.slice Ao15 t341.length co15, .int .i64 t344] 25 (0, 0))) := ⟨by (with_reducible repeat (first | refine blk_drewN ?_ _ | refine blk_drew ?_ | refine blk_alloc ?_ _)); refine blk_put (cs := #[.slice Ao15 t341.length co15, .int .i64 0]) ?_ 1 _ rfl; (with_reducible repeat (first | refine blk_drewN ?_ _ | refine blk_drew ?_ | refine blk_alloc ?_ _)); refine blk_put (cs := #[.slice none 0 0, .int .i64 0]) ?_ 0 _ rfl; exact zk BK345⟩
    have n5_ : Aside0 (Below w.heap.size w ((w14.setCell ⟨gb345, 0, none⟩ (.slice Ao15 t341.length co15)).setCell ⟨gb345, 1, none⟩ (.int .i64 t344))) := ⟨zb HB⟩
    (try clear HO334)
    (try clear HO343)
    (try clear BK339)
    (try clear BK340)
    (try clear BK345)
    (try clear HB)
    generalize ((w14.setCell ⟨gb345, 0, none⟩ (.slice Ao15 t341.length co15)).setCell ⟨gb345, 1, none⟩ (.int .i64 t344)) = w38 at n0_ n1_ n2_ n3_ n4_ n5_ ⊢
    have HO334 := n0_
    have HO343 := n1_
    have BK339 := n2_
    have BK340 := n3_
    have BK345 := n4_
    have HB := n5_
    clear n0_ n1_ n2_ n3_ n4_ n5_
    replace HO334 := Aside0.mk (Kd.R_drew HO334.out)
    replace HO343 := Aside0.mk (Kd.R_drew HO343.out)
    replace BK339 := Aside0.mk (blk_drew BK339.out)
    replace BK340 := Aside0.mk (blk_drew BK340.out)
    replace BK345 := Aside0.mk (blk_drew BK345.out)
    replace HB := Aside0.mk (below_drew1 HB.out)
    refine start_ (n := 16) (S := fun w' => w'.cell? ⟨gb345, 0, none⟩ = some (.slice Ao15 t341.length co15) ∧ w'.cell? ⟨gb345, 1, none⟩ = some (.int .i64 t344) ∧ w'.cell? ⟨gb339, 0, none⟩ = some (.slice Ao9 t332.length co9) ∧ w'.cell? ⟨gb339, 1, none⟩ = some (.int .i64 t335) ∧ w'.cell? ⟨gb340, 0, none⟩ = some (.string t336) ∧ w'.cell? ⟨gb340, 1, none⟩ = some (.string t337) ∧ w'.cell? ⟨gb340, 2, none⟩ = some (.bool t338)) (ds := []) #[false, false, false, false, false, false, false, false, false, false, false, false, false, false, false, false] (by kernel_rfl) rfl rfl ⟨(blk_cell BK345.out 0).trans rfl, (blk_cell BK345.out 1).trans rfl, (blk_cell BK339.out 0).trans rfl, (blk_cell BK339.out 1).trans rfl, (blk_cell BK340.out 0).trans rfl, (blk_cell BK340.out 1).trans rfl, (blk_cell BK340.out 2).trans rfl⟩ (fun hHeld => ?_); refine with_tabW laws_FnTableAdd.tab5 laws_FnTableAdd.bits5 (fun HT_ HW_ => ?_)
    generalize w38.drew = w39 at HO334 HO343 BK339 BK340 BK345 HB hHeld ⊢
    refine tk7 0 (some 19) (bm 16 1) rfl rfl hHeld ?_
    refine tk7 1 (some 20) (bm 16 3) rfl rfl hHeld ?_
    refine tk7 2 (some 21) (bm 16 7) rfl rfl hHeld ?_
    refine one_ (i := 3) (N := some 22) (bm 16 15) rfl rfl (one_of HT_.out (by kernel_rfl)) (by decide) (fun K hK => ?_)
    refine gs Try.func31 #[.agg #[.slice Ao9 t332.length co9, .int .i64 t335], .agg #[.string t336, .string t337, .bool t338]] ?_
    with_reducible refine (spec_TableAdd.calls k _ _ t332 t335 t336 t337 t338 t346 t349 _ ?side1 ?side2 A19.out).mono ?_
    (case side1 => exact zc (Kd.R_reads' HO334.out).2.2)
    (case side2 => exact (Kd.R_reads' HO334.out).2.1)
    rintro e w40 ⟨v347, rfl, ho0, hb⟩
    refine ⟨_, rfl, ?_⟩
    have HO348 := Aside0.mk (Kd.R_lower (Kd.R_newB (Kd.R_new' (Kd.R_new' ho0 (Kd.R_lt (zr HO334))) (Kd.R_lt (zr HO343))) (g := gb340) (o := .cells #[.string t336, .string t337, .bool t338] 36 (0, 0)) (zk BK340)) (below_size (zb HB)))
    replace HO334 := Aside0.mk (Kd.R_elder' (zr HO334) (Kd.R_base ho0) hb)
    replace HO343 := Aside0.mk (Kd.R_elder' (zr HO343) (Kd.R_base ho0) hb)
    replace BK339 := Aside0.mk (blk_below (g := gb339) (o := .cells #[.slice Ao9 t332.length co9, .int .i64 t335] 25 (0, 0)) (zk BK339) hb)
    replace BK340 := Aside0.mk (blk_below (g := gb340) (o := .cells #[.string t336, .string t337, .bool t338] 36 (0, 0)) (zk BK340) hb)
    replace BK345 := Aside0.mk (blk_below (g := gb345) (o := .cells #[.slice Ao15 t341.length co15, .int .i64 t344] 25 (0, 0)) (zk BK345) hb)
    replace HB := Aside0.mk (below_step (zb HB) hb)
    (try clear hb)
    (try clear ho0)
    obtain ⟨Ao41, co41, eo41⟩ := Kd.R_slice HO348.out
    (first | subst eo41 | (injection eo41 with f1_ f2_ f3_; have f4_ := f1_.symm; have f5_ := f3_.symm; clear f1_ f2_ f3_; subst f4_; subst f5_))
    refine hK.out _ _ ⟨(blk_cell BK345.out 0).trans rfl, (blk_cell BK345.out 1).trans rfl, (blk_cell BK339.out 0).trans rfl, (blk_cell BK339.out 1).trans rfl, (blk_cell BK340.out 0).trans rfl, (blk_cell BK340.out 1).trans rfl, (blk_cell BK340.out 2).trans rfl⟩ (fun hHeld => ?_)
    clear hK K
    refine nm ?_
    refine one_ (i := 4) (N := some 23) (bm 16 31) rfl rfl (one_of HT_.out (by kernel_rfl)) (by decide) (fun K hK => ?_)
    refine gs Try.func17 #[.agg #[.slice Ao15 t341.length co15, .int .i64 t344], .agg #[.slice Ao41 t346.length co41, .int .i64 t349]] ?_
    with_reducible refine (laws_lkTable.calls k _ _ t341 t344 _ _ t346 t349 false _ ?side1 ?side2 ?side3 ?side4 A20.out).mono ?_
    (case side1 => exact zc (Kd.R_reads' HO343.out).2.2)
    (case side2 => exact (Kd.R_reads' HO343.out).2.1)
    (case side3 => exact zc (Kd.R_reads' HO348.out).2.2)
    (case side4 => exact (Kd.R_reads' HO348.out).2.1)
    rintro e w42 ⟨rfl, hb⟩
    refine ⟨_, rfl, ?_⟩
    replace HO334 := Aside0.mk (Kd.R_below (zr HO334) hb)
    replace HO343 := Aside0.mk (Kd.R_below (zr HO343) hb)
    replace HO348 := Aside0.mk (Kd.R_below (zr HO348) hb)
    replace BK339 := Aside0.mk (blk_below (g := gb339) (o := .cells #[.slice Ao9 t332.length co9, .int .i64 t335] 25 (0, 0)) (zk BK339) hb)
    replace BK340 := Aside0.mk (blk_below (g := gb340) (o := .cells #[.string t336, .string t337, .bool t338] 36 (0, 0)) (zk BK340) hb)
    replace BK345 := Aside0.mk (blk_below (g := gb345) (o := .cells #[.slice Ao15 t341.length co15, .int .i64 t344] 25 (0, 0)) (zk BK345) hb)
    replace HB := Aside0.mk (below_step (zb HB) hb)
    (try clear hb)
    refine hK.out _ _ ⟨(blk_cell BK345.out 0).trans rfl, (blk_cell BK345.out 1).trans rfl, (blk_cell BK339.out 0).trans rfl, (blk_cell BK339.out 1).trans rfl, (blk_cell BK340.out 0).trans rfl, (blk_cell BK340.out 1).trans rfl, (blk_cell BK340.out 2).trans rfl⟩ (fun hHeld => ?_)
    clear hK K
    refine nm ?_
    refine pu 5 (some 24) (bm 16 63) rfl rfl ?_
    refine pu 6 (some 25) (bm 16 127) rfl rfl ?_
    refine pv 7 (some 26) (bm 16 255) rfl rfl ?_
    refine pv 8 (some 27) (bm 16 511) rfl rfl ?_
    refine pv 9 (some 28) (bm 16 1023) rfl rfl ?_
    refine pu 10 (some 29) (bm 16 2047) rfl rfl ?_
    refine pu 11 (some 30) (bm 16 4095) rfl rfl ?_
    refine pv 12 (some 31) (bm 16 8191) rfl rfl ?_
    refine pv 13 (some 32) (bm 16 16383) rfl rfl ?_
    refine pv 14 (some 33) (bm 16 32767) rfl rfl ?_
    refine pu 15 (some 34) (bm 16 65535) rfl rfl ?_
    refine done_ (done_of HT_.out (by kernel_rfl)) ?_
    try go_wp2
    go_meet
    case rel => exact ⟨_, (true), zs, H', ⟨by first | omega | exact Nat.le_refl _⟩, ⟨by (with_reducible repeat (first | apply Kd.R_alloc | apply Kd.R_drewN | apply Kd.R_drew)); exact Kd.R_mono HO334.out (fun _ hk => ⟨hk.1.1, hk.1.2⟩)⟩, ⟨by (with_reducible repeat (first | apply Kd.R_alloc | apply Kd.R_drewN | apply Kd.R_drew)); exact Kd.R_mono HO343.out (fun _ hk => ⟨hk.1.1, hk.1.2⟩)⟩, ⟨by exact zk BK339⟩, ⟨by exact zk BK340⟩, ⟨by exact zk BK345⟩, ⟨zb HB⟩⟩
  case rest =>
   clear HC5
   try clear c1
   try clear c2
   try clear p2
   try clear c3
   try clear c17
   try clear c19
   try clear c21
   try clear c23
   try clear c31
   try clear c32
   obtain ⟨kq, x34_4, rfl, HA, HJ4, HO_340000, HO_346000, BK339, BK340, BK345, HB⟩ := hcut
   cases kq with
   | zero => exact absurd HA.out (by simp [laws_FnTableAdd.j0])
   | succ kj4 =>
    have H := HA.out
    clear HA
    simp only [laws_FnTableAdd.j0] at H
    by_cases c43 : x34_4 = true
    ·subst c43
     have H1 : ((spec_TableAdd.f kj4 t332 t335 t336 t337 t338).bind fun bt353 => ((laws_lkTable.f kj4 t341 t344 bt353.1 bt353.2).bind fun t357 => (some t357))) = some r := by rw [if_pos rfl] at H; exact H
     clear H
     have H := H1
     clear H1
     replace H := Option.bind_eq_some_iff.mp H
     obtain ⟨⟨t353, t356⟩, A440, H⟩ := H
     replace H : ((laws_lkTable.f kj4 t341 t344 t353 t356).bind fun t357 => (some t357)) = some r := H
     have A44 := Aside0.mk A440
     clear A440
     replace H := Option.bind_eq_some_iff.mp H
     obtain ⟨t357, A450, H⟩ := H
     replace H : (some t357) = some r := H
     have A45 := Aside0.mk A450
     clear A450
     obtain rfl := Option.some.inj H
     try go_wp2
     replace HO_340000 := Aside0.mk (Kd.R_drew HO_340000.out)
     replace HO_346000 := Aside0.mk (Kd.R_drew HO_346000.out)
     replace BK339 := Aside0.mk (blk_drew BK339.out)
     replace BK340 := Aside0.mk (blk_drew BK340.out)
     replace BK345 := Aside0.mk (blk_drew BK345.out)
     replace HB := Aside0.mk (below_drew1 HB.out)
     refine start_ (n := 6) (S := fun w' => w'.cell? ⟨gb345, 0, none⟩ = some (.slice Ao15 t341.length co15) ∧ w'.cell? ⟨gb345, 1, none⟩ = some (.int .i64 t344) ∧ w'.cell? ⟨gb339, 0, none⟩ = some (.slice Ao9 t332.length co9) ∧ w'.cell? ⟨gb339, 1, none⟩ = some (.int .i64 t335) ∧ w'.cell? ⟨gb340, 0, none⟩ = some (.string t336) ∧ w'.cell? ⟨gb340, 1, none⟩ = some (.string t337) ∧ w'.cell? ⟨gb340, 2, none⟩ = some (.bool t338)) (ds := []) #[false, false, false, false, false, false] (by kernel_rfl) rfl rfl ⟨(blk_cell BK345.out 0).trans rfl, (blk_cell BK345.out 1).trans rfl, (blk_cell BK339.out 0).trans rfl, (blk_cell BK339.out 1).trans rfl, (blk_cell BK340.out 0).trans rfl, (blk_cell BK340.out 1).trans rfl, (blk_cell BK340.out 2).trans rfl⟩ (fun hHeld => ?_)
     generalize wc.drew = w46 at HO_340000 HO_346000 BK339 BK340 BK345 HB hHeld ⊢
     refine tk7 0 (some 35) (bm 6 1) rfl rfl hHeld ?_
     refine tk7 1 (some 36) (bm 6 3) rfl rfl hHeld ?_
     refine tk7 2 (some 37) (bm 6 7) rfl rfl hHeld ?_
     refine one_ (i := 3) (N := some 38) (bm 6 15) rfl rfl (by kernel_rfl) (by decide) (fun K hK => ?_)
     refine gs Try.func31 #[.agg #[.slice Ao9 t332.length co9, .int .i64 t335], .agg #[.string t336, .string t337, .bool t338]] ?_
     with_reducible refine (spec_TableAdd.calls kj4 _ _ t332 t335 t336 t337 t338 t353 t356 _ ?side1 ?side2 A44.out).mono ?_
     (case side1 => exact zc (Kd.R_reads' HO_340000.out).2.2)
     (case side2 => exact (Kd.R_reads' HO_340000.out).2.1)
     rintro e w47 ⟨v354, rfl, ho0, hb⟩
     refine ⟨_, rfl, ?_⟩
     have HO355 := Aside0.mk (Kd.R_lower (Kd.R_newB (Kd.R_new' (Kd.R_new' ho0 (Kd.R_lt (zr HO_340000))) (Kd.R_lt (zr HO_346000))) (g := gb340) (o := .cells #[.string t336, .string t337, .bool t338] 36 (0, 0)) (zk BK340)) (below_size (zb HB)))
     replace HO_340000 := Aside0.mk (Kd.R_elder' (zr HO_340000) (Kd.R_base ho0) hb)
     replace HO_346000 := Aside0.mk (Kd.R_elder' (zr HO_346000) (Kd.R_base ho0) hb)
     replace BK339 := Aside0.mk (blk_below (g := gb339) (o := .cells #[.slice Ao9 t332.length co9, .int .i64 t335] 25 (0, 0)) (zk BK339) hb)
     replace BK340 := Aside0.mk (blk_below (g := gb340) (o := .cells #[.string t336, .string t337, .bool t338] 36 (0, 0)) (zk BK340) hb)
     replace BK345 := Aside0.mk (blk_below (g := gb345) (o := .cells #[.slice Ao15 t341.length co15, .int .i64 t344] 25 (0, 0)) (zk BK345) hb)
     replace HB := Aside0.mk (below_step (zb HB) hb)
     (try clear hb)
     (try clear ho0)
     obtain ⟨Ao48, co48, eo48⟩ := Kd.R_slice HO355.out
     (first | subst eo48 | (injection eo48 with f1_ f2_ f3_; have f4_ := f1_.symm; have f5_ := f3_.symm; clear f1_ f2_ f3_; subst f4_; subst f5_))
     refine hK.out _ _ ⟨(blk_cell BK345.out 0).trans rfl, (blk_cell BK345.out 1).trans rfl, (blk_cell BK339.out 0).trans rfl, (blk_cell BK339.out 1).trans rfl, (blk_cell BK340.out 0).trans rfl, (blk_cell BK340.out 1).trans rfl, (blk_cell BK340.out 2).trans rfl⟩ (fun hHeld => ?_)
     clear hK K
     refine nm ?_
     refine one_ (i := 4) (N := some 39) (bm 6 31) rfl rfl (by kernel_rfl) (by decide) (fun K hK => ?_)
     refine gs Try.func17 #[.agg #[.slice Ao15 t341.length co15, .int .i64 t344], .agg #[.slice Ao48 t353.length co48, .int .i64 t356]] ?_
     with_reducible refine (laws_lkTable.calls kj4 _ _ t341 t344 _ _ t353 t356 t357 _ ?side1 ?side2 ?side3 ?side4 A45.out).mono ?_
     (case side1 => exact zc (Kd.R_reads' HO_346000.out).2.2)
     (case side2 => exact (Kd.R_reads' HO_346000.out).2.1)
     (case side3 => exact zc (Kd.R_reads' HO355.out).2.2)
     (case side4 => exact (Kd.R_reads' HO355.out).2.1)
     rintro e w49 ⟨rfl, hb⟩
     refine ⟨_, rfl, ?_⟩
     replace HO_340000 := Aside0.mk (Kd.R_below (zr HO_340000) hb)
     replace HO_346000 := Aside0.mk (Kd.R_below (zr HO_346000) hb)
     replace HO355 := Aside0.mk (Kd.R_below (zr HO355) hb)
     replace BK339 := Aside0.mk (blk_below (g := gb339) (o := .cells #[.slice Ao9 t332.length co9, .int .i64 t335] 25 (0, 0)) (zk BK339) hb)
     replace BK340 := Aside0.mk (blk_below (g := gb340) (o := .cells #[.string t336, .string t337, .bool t338] 36 (0, 0)) (zk BK340) hb)
     replace BK345 := Aside0.mk (blk_below (g := gb345) (o := .cells #[.slice Ao15 t341.length co15, .int .i64 t344] 25 (0, 0)) (zk BK345) hb)
     replace HB := Aside0.mk (below_step (zb HB) hb)
     (try clear hb)
     refine hK.out _ _ ⟨(blk_cell BK345.out 0).trans rfl, (blk_cell BK345.out 1).trans rfl, (blk_cell BK339.out 0).trans rfl, (blk_cell BK339.out 1).trans rfl, (blk_cell BK340.out 0).trans rfl, (blk_cell BK340.out 1).trans rfl, (blk_cell BK340.out 2).trans rfl⟩ (fun hHeld => ?_)
     clear hK K
     refine nm ?_
     refine pu 5 (some 2) (bm 6 63) rfl rfl ?_
     refine done_ (by kernel_rfl) ?_
     try go_wp2
     go_ret
     exact ⟨ze, zb HB⟩
    ·replace c43 := Bool.eq_false_iff.mpr c43
     subst c43
     have H1 : ((laws_lkOne.f t336 t337 t338).bind fun t358 => (if t358 > t335 then (if (t341.length : Int) = 0 then (some (t344 == t335)) else (some false)) else (if (t341.length : Int) < 1 then (laws_FnTableAdd.j1 kj4 (t341.length : Int) true t332 t335 t341 t344) else (if 0 < (t341.length : Int) then (if (!((((rd_T36 t341 0).f0).toList) == t336.toList) || (!((((rd_T36 t341 0).f1).toList) == t337.toList) || (((rd_T36 t341 0).f2)))) = true then (laws_FnTableAdd.j1 kj4 (t341.length : Int) true t332 t335 t341 t344) else (if 1 ≤ (t341.length : Int) then (if 0 ≤ (wrap64 ((t341.length : Int) - 1)) then (if (wrap64 ((t341.length : Int) - 1)) ≤ (t332.length : Int) then ((laws_lkFields.f kj4 (t341.drop 1) (t332.take ((wrap64 ((t341.length : Int) - 1)) : Int).toNat)).bind fun t369 => (if t369 = true then ((impl_TableOk.f kj4 t341 t344).bind fun t370 => (if t370 = true then (laws_FnTableAdd.j1 kj4 (t341.length : Int) (t344 != t335) t332 t335 t341 t344) else (laws_FnTableAdd.j1 kj4 (t341.length : Int) true t332 t335 t341 t344))) else (laws_FnTableAdd.j1 kj4 (t341.length : Int) true t332 t335 t341 t344))) else (none)) else (none)) else (none))) else (none))))) = some r := by rw [if_neg (show ¬ (false = true) by decide)] at H; exact H
     clear H
     have H := H1
     clear H1
     replace H := Option.bind_eq_some_iff.mp H
     obtain ⟨t358, A500, H⟩ := H
     replace H : (if t358 > t335 then (if (t341.length : Int) = 0 then (some (t344 == t335)) else (some false)) else (if (t341.length : Int) < 1 then (laws_FnTableAdd.j1 kj4 (t341.length : Int) true t332 t335 t341 t344) else (if 0 < (t341.length : Int) then (if (!((((rd_T36 t341 0).f0).toList) == t336.toList) || (!((((rd_T36 t341 0).f1).toList) == t337.toList) || (((rd_T36 t341 0).f2)))) = true then (laws_FnTableAdd.j1 kj4 (t341.length : Int) true t332 t335 t341 t344) else (if 1 ≤ (t341.length : Int) then (if 0 ≤ (wrap64 ((t341.length : Int) - 1)) then (if (wrap64 ((t341.length : Int) - 1)) ≤ (t332.length : Int) then ((laws_lkFields.f kj4 (t341.drop 1) (t332.take ((wrap64 ((t341.length : Int) - 1)) : Int).toNat)).bind fun t369 => (if t369 = true then ((impl_TableOk.f kj4 t341 t344).bind fun t370 => (if t370 = true then (laws_FnTableAdd.j1 kj4 (t341.length : Int) (t344 != t335) t332 t335 t341 t344) else (laws_FnTableAdd.j1 kj4 (t341.length : Int) true t332 t335 t341 t344))) else (laws_FnTableAdd.j1 kj4 (t341.length : Int) true t332 t335 t341 t344))) else (none)) else (none)) else (none))) else (none)))) = some r := H
     have A50 := Aside0.mk A500
     clear A500
     by_cases c51 : t358 > t335
     ·rw [if_pos c51] at H
      have c51b0 : decide (t335 < t358) = true := decide_eq_true c51
      clear c51
      by_cases c52 : (t341.length : Int) = 0
      ·rw [if_pos c52] at H
       have c52b0 : ((t341.length : Int) == 0) = true := beq_iff_eq.mpr c52
       have c52b1 : ((t341.length : Int) != 0) = false := bne_eq_false_iff_eq.mpr c52
       clear c52
       obtain rfl := Option.some.inj H
       try go_wp2
       replace HO_340000 := Aside0.mk (Kd.R_drew HO_340000.out)
       replace HO_346000 := Aside0.mk (Kd.R_drew HO_346000.out)
       replace BK339 := Aside0.mk (blk_drew BK339.out)
       replace BK340 := Aside0.mk (blk_drew BK340.out)
       replace BK345 := Aside0.mk (blk_drew BK345.out)
       replace HB := Aside0.mk (below_drew1 HB.out)
       refine start_ (n := 5) (S := fun w' => w'.cell? ⟨gb340, 0, none⟩ = some (.string t336) ∧ w'.cell? ⟨gb340, 1, none⟩ = some (.string t337) ∧ w'.cell? ⟨gb340, 2, none⟩ = some (.bool t338) ∧ w'.cell? ⟨gb339, 0, none⟩ = some (.slice Ao9 t332.length co9) ∧ w'.cell? ⟨gb339, 1, none⟩ = some (.int .i64 t335)) (ds := []) #[false, false, false, false, false] (by kernel_rfl) rfl rfl ⟨(blk_cell BK340.out 0).trans rfl, (blk_cell BK340.out 1).trans rfl, (blk_cell BK340.out 2).trans rfl, (blk_cell BK339.out 0).trans rfl, (blk_cell BK339.out 1).trans rfl⟩ (fun hHeld => ?_)
       generalize wc.drew = w53 at HO_340000 HO_346000 BK339 BK340 BK345 HB hHeld ⊢
       refine pu 2 (some 42) (bm 5 4) rfl rfl ?_
       refine tk5 0 (some 40) (bm 5 5) rfl rfl hHeld ?_
       refine tk5 3 (some 43) (bm 5 13) rfl rfl hHeld ?_
       refine one_ (i := 1) (N := some 41) (bm 5 15) rfl rfl (by kernel_rfl) (by decide) (fun K hK => ?_)
       refine gs Try.func23 #[.agg #[.string t336, .string t337, .bool t338]] ?_
       with_reducible refine (laws_lkOne.calls t336 t337 t338 t358 _ A50.out).mono ?_
       rintro e w54 ⟨rfl, hb⟩
       refine ⟨_, rfl, ?_⟩
       replace HO_340000 := Aside0.mk (Kd.R_below (zr HO_340000) hb)
       replace HO_346000 := Aside0.mk (Kd.R_below (zr HO_346000) hb)
       replace BK339 := Aside0.mk (blk_below (g := gb339) (o := .cells #[.slice Ao9 t332.length co9, .int .i64 t335] 25 (0, 0)) (zk BK339) hb)
       replace BK340 := Aside0.mk (blk_below (g := gb340) (o := .cells #[.string t336, .string t337, .bool t338] 36 (0, 0)) (zk BK340) hb)
       replace BK345 := Aside0.mk (blk_below (g := gb345) (o := .cells #[.slice Ao15 t341.length co15, .int .i64 t344] 25 (0, 0)) (zk BK345) hb)
       replace HB := Aside0.mk (below_step (zb HB) hb)
       (try clear hb)
       refine hK.out _ _ ⟨(blk_cell BK340.out 0).trans rfl, (blk_cell BK340.out 1).trans rfl, (blk_cell BK340.out 2).trans rfl, (blk_cell BK339.out 0).trans rfl, (blk_cell BK339.out 1).trans rfl⟩ (fun hHeld => ?_)
       clear hK K
       refine nm ?_
       refine pu 4 (some 44) (bm 5 31) rfl rfl ?_
       refine done_ (by kernel_rfl) ?_
       have hnb55 := NB345_339.out
       have hnc55 := NB339_345.out
       have hnb56 := NB345_340.out
       have hnc56 := NB340_345.out
       have hcz57_0 : w54.cell? ⟨gb345, 0, none⟩ = some (.slice Ao15 t341.length co15) := (blk_cell BK345.out 0).trans rfl
       have hcz57_1 : w54.cell? ⟨gb345, 1, none⟩ = some (.int .i64 t344) := (blk_cell BK345.out 1).trans rfl
       have hfz57_0 := blk_frozen BK345.out 0
       have hfz57_1 := blk_frozen BK345.out 1
       have hnb58 := NB339_340.out
       have hnc58 := NB340_339.out
       have hcz59_0 : w54.cell? ⟨gb339, 0, none⟩ = some (.slice Ao9 t332.length co9) := (blk_cell BK339.out 0).trans rfl
       have hcz59_1 : w54.cell? ⟨gb339, 1, none⟩ = some (.int .i64 t335) := (blk_cell BK339.out 1).trans rfl
       have hfz59_0 := blk_frozen BK339.out 0
       have hfz59_1 := blk_frozen BK339.out 1
       try go_wp2
       go_ret
       exact ⟨ze, zb HB⟩
      ·rw [if_neg c52] at H
       have c52b0 : ((t341.length : Int) == 0) = false := beq_eq_false_iff_ne.mpr c52
       have c52b1 : ((t341.length : Int) != 0) = true := bne_iff_ne.mpr c52
       have c52b2 : ¬ (t341 = []) := fun h_ => c52 (by rw [h_]; rfl)
       obtain rfl := Option.some.inj H
       try go_wp2
       replace HO_340000 := Aside0.mk (Kd.R_drew HO_340000.out)
       replace HO_346000 := Aside0.mk (Kd.R_drew HO_346000.out)
       replace BK339 := Aside0.mk (blk_drew BK339.out)
       replace BK340 := Aside0.mk (blk_drew BK340.out)
       replace BK345 := Aside0.mk (blk_drew BK345.out)
       replace HB := Aside0.mk (below_drew1 HB.out)
       refine start_ (n := 5) (S := fun w' => w'.cell? ⟨gb340, 0, none⟩ = some (.string t336) ∧ w'.cell? ⟨gb340, 1, none⟩ = some (.string t337) ∧ w'.cell? ⟨gb340, 2, none⟩ = some (.bool t338) ∧ w'.cell? ⟨gb339, 0, none⟩ = some (.slice Ao9 t332.length co9) ∧ w'.cell? ⟨gb339, 1, none⟩ = some (.int .i64 t335)) (ds := []) #[false, false, false, false, false] (by kernel_rfl) rfl rfl ⟨(blk_cell BK340.out 0).trans rfl, (blk_cell BK340.out 1).trans rfl, (blk_cell BK340.out 2).trans rfl, (blk_cell BK339.out 0).trans rfl, (blk_cell BK339.out 1).trans rfl⟩ (fun hHeld => ?_)
       generalize wc.drew = w60 at HO_340000 HO_346000 BK339 BK340 BK345 HB hHeld ⊢
       refine pu 2 (some 42) (bm 5 4) rfl rfl ?_
       refine tk5 0 (some 40) (bm 5 5) rfl rfl hHeld ?_
       refine tk5 3 (some 43) (bm 5 13) rfl rfl hHeld ?_
       refine one_ (i := 1) (N := some 41) (bm 5 15) rfl rfl (by kernel_rfl) (by decide) (fun K hK => ?_)
       refine gs Try.func23 #[.agg #[.string t336, .string t337, .bool t338]] ?_
       with_reducible refine (laws_lkOne.calls t336 t337 t338 t358 _ A50.out).mono ?_
       rintro e w61 ⟨rfl, hb⟩
       refine ⟨_, rfl, ?_⟩
       replace HO_340000 := Aside0.mk (Kd.R_below (zr HO_340000) hb)
       replace HO_346000 := Aside0.mk (Kd.R_below (zr HO_346000) hb)
       replace BK339 := Aside0.mk (blk_below (g := gb339) (o := .cells #[.slice Ao9 t332.length co9, .int .i64 t335] 25 (0, 0)) (zk BK339) hb)
       replace BK340 := Aside0.mk (blk_below (g := gb340) (o := .cells #[.string t336, .string t337, .bool t338] 36 (0, 0)) (zk BK340) hb)
       replace BK345 := Aside0.mk (blk_below (g := gb345) (o := .cells #[.slice Ao15 t341.length co15, .int .i64 t344] 25 (0, 0)) (zk BK345) hb)
       replace HB := Aside0.mk (below_step (zb HB) hb)
       (try clear hb)
       refine hK.out _ _ ⟨(blk_cell BK340.out 0).trans rfl, (blk_cell BK340.out 1).trans rfl, (blk_cell BK340.out 2).trans rfl, (blk_cell BK339.out 0).trans rfl, (blk_cell BK339.out 1).trans rfl⟩ (fun hHeld => ?_)
       clear hK K
       refine nm ?_
       refine pu 4 (some 44) (bm 5 31) rfl rfl ?_
       refine done_ (by kernel_rfl) ?_
       have hnb62 := NB345_339.out
       have hnc62 := NB339_345.out
       have hnb63 := NB345_340.out
       have hnc63 := NB340_345.out
       have hcz64_0 : w61.cell? ⟨gb345, 0, none⟩ = some (.slice Ao15 t341.length co15) := (blk_cell BK345.out 0).trans rfl
       have hcz64_1 : w61.cell? ⟨gb345, 1, none⟩ = some (.int .i64 t344) := (blk_cell BK345.out 1).trans rfl
       have hfz64_0 := blk_frozen BK345.out 0
       have hfz64_1 := blk_frozen BK345.out 1
       try go_wp2
       go_ret
       exact ⟨ze, zb HB⟩
     ·rw [if_neg c51] at H
      have c51b0 : decide (t335 < t358) = false := decide_eq_false c51
      clear c51
      have HC65 := Aside0.mk H
      clear H
      try go_wp2
      replace HO_340000 := Aside0.mk (Kd.R_drew HO_340000.out)
      replace HO_346000 := Aside0.mk (Kd.R_drew HO_346000.out)
      replace BK339 := Aside0.mk (blk_drew BK339.out)
      replace BK340 := Aside0.mk (blk_drew BK340.out)
      replace BK345 := Aside0.mk (blk_drew BK345.out)
      replace HB := Aside0.mk (below_drew1 HB.out)
      refine start_ (n := 5) (S := fun w' => w'.cell? ⟨gb340, 0, none⟩ = some (.string t336) ∧ w'.cell? ⟨gb340, 1, none⟩ = some (.string t337) ∧ w'.cell? ⟨gb340, 2, none⟩ = some (.bool t338) ∧ w'.cell? ⟨gb339, 0, none⟩ = some (.slice Ao9 t332.length co9) ∧ w'.cell? ⟨gb339, 1, none⟩ = some (.int .i64 t335)) (ds := []) #[false, false, false, false, false] (by kernel_rfl) rfl rfl ⟨(blk_cell BK340.out 0).trans rfl, (blk_cell BK340.out 1).trans rfl, (blk_cell BK340.out 2).trans rfl, (blk_cell BK339.out 0).trans rfl, (blk_cell BK339.out 1).trans rfl⟩ (fun hHeld => ?_)
      generalize wc.drew = w66 at HO_340000 HO_346000 BK339 BK340 BK345 HB hHeld ⊢
      refine pu 2 (some 42) (bm 5 4) rfl rfl ?_
      refine tk5 0 (some 40) (bm 5 5) rfl rfl hHeld ?_
      refine tk5 3 (some 43) (bm 5 13) rfl rfl hHeld ?_
      refine one_ (i := 1) (N := some 41) (bm 5 15) rfl rfl (by kernel_rfl) (by decide) (fun K hK => ?_)
      refine gs Try.func23 #[.agg #[.string t336, .string t337, .bool t338]] ?_
      with_reducible refine (laws_lkOne.calls t336 t337 t338 t358 _ A50.out).mono ?_
      rintro e w67 ⟨rfl, hb⟩
      refine ⟨_, rfl, ?_⟩
      replace HO_340000 := Aside0.mk (Kd.R_below (zr HO_340000) hb)
      replace HO_346000 := Aside0.mk (Kd.R_below (zr HO_346000) hb)
      replace BK339 := Aside0.mk (blk_below (g := gb339) (o := .cells #[.slice Ao9 t332.length co9, .int .i64 t335] 25 (0, 0)) (zk BK339) hb)
      replace BK340 := Aside0.mk (blk_below (g := gb340) (o := .cells #[.string t336, .string t337, .bool t338] 36 (0, 0)) (zk BK340) hb)
      replace BK345 := Aside0.mk (blk_below (g := gb345) (o := .cells #[.slice Ao15 t341.length co15, .int .i64 t344] 25 (0, 0)) (zk BK345) hb)
      replace HB := Aside0.mk (below_step (zb HB) hb)
      (try clear hb)
      refine hK.out _ _ ⟨(blk_cell BK340.out 0).trans rfl, (blk_cell BK340.out 1).trans rfl, (blk_cell BK340.out 2).trans rfl, (blk_cell BK339.out 0).trans rfl, (blk_cell BK339.out 1).trans rfl⟩ (fun hHeld => ?_)
      clear hK K
      refine nm ?_
      refine pu 4 (some 44) (bm 5 31) rfl rfl ?_
      refine done_ (by kernel_rfl) ?_
      have hnb68 := NB345_339.out
      have hnc68 := NB339_345.out
      have hnb69 := NB345_340.out
      have hnc69 := NB340_345.out
      have hcz70_0 : w67.cell? ⟨gb345, 0, none⟩ = some (.slice Ao15 t341.length co15) := (blk_cell BK345.out 0).trans rfl
      have hcz70_1 : w67.cell? ⟨gb345, 1, none⟩ = some (.int .i64 t344) := (blk_cell BK345.out 1).trans rfl
      have hfz70_0 := blk_frozen BK345.out 0
      have hfz70_1 := blk_frozen BK345.out 1
      have hnb71 := NB340_339.out
      have hnc71 := NB339_340.out
      have hcz72_0 : w67.cell? ⟨gb340, 0, none⟩ = some (.string t336) := (blk_cell BK340.out 0).trans rfl
      have hcz72_1 : w67.cell? ⟨gb340, 1, none⟩ = some (.string t337) := (blk_cell BK340.out 1).trans rfl
      have hcz72_2 : w67.cell? ⟨gb340, 2, none⟩ = some (.bool t338) := (blk_cell BK340.out 2).trans rfl
      have hfz72_0 := blk_frozen BK340.out 0
      have hfz72_1 := blk_frozen BK340.out 1
      have hfz72_2 := blk_frozen BK340.out 2
      go_upto_region 12 with (first | ((with_reducible refine gd 7 rfl ?_); refine bx (N := 7) (cs := #[.string (⟨#[]⟩ : ByteArray), .string (⟨#[]⟩ : ByteArray), .bool false]) (t := 36) ?_; intro gb359 hg w73 hbox hb; replace HO_340000 := Aside0.mk (Kd.R_below (Kd.R_elderB (zr HO_340000) gb359 (Nat.le_of_eq hg.symm)) hb); replace HO_346000 := Aside0.mk (Kd.R_below (Kd.R_elderB (zr HO_346000) gb359 (Nat.le_of_eq hg.symm)) hb); have BK359 := Aside0.mk (hbox); have GW359 := Aside0.mk ((by rw [hg]; exact (below_size (zb HB)) : w.heap.size ≤ gb359)); have GE359 := Aside0.mk ((by rw [hg]; exact (below_size (zb HB)) : w.heap.size ≤ gb359)); replace HB := Aside0.mk (below_step (zb HB) hb); have NB339_359 := Aside0.mk ((by rw [hg]; exact Nat.ne_of_lt (blk_lt (g := gb339) (o := .cells #[.slice Ao9 t332.length co9, .int .i64 t335] 25 (0, 0)) (zk BK339)) : gb339 ≠ gb359)); have NB359_339 := Aside0.mk ((by rw [hg]; exact Nat.ne_of_gt (blk_lt (g := gb339) (o := .cells #[.slice Ao9 t332.length co9, .int .i64 t335] 25 (0, 0)) (zk BK339)) : gb359 ≠ gb339)); replace BK339 := Aside0.mk (blk_below (g := gb339) (o := .cells #[.slice Ao9 t332.length co9, .int .i64 t335] 25 (0, 0)) (zk BK339) hb); have NB340_359 := Aside0.mk ((by rw [hg]; exact Nat.ne_of_lt (blk_lt (g := gb340) (o := .cells #[.string t336, .string t337, .bool t338] 36 (0, 0)) (zk BK340)) : gb340 ≠ gb359)); have NB359_340 := Aside0.mk ((by rw [hg]; exact Nat.ne_of_gt (blk_lt (g := gb340) (o := .cells #[.string t336, .string t337, .bool t338] 36 (0, 0)) (zk BK340)) : gb359 ≠ gb340)); replace BK340 := Aside0.mk (blk_below (g := gb340) (o := .cells #[.string t336, .string t337, .bool t338] 36 (0, 0)) (zk BK340) hb); have NB345_359 := Aside0.mk ((by rw [hg]; exact Nat.ne_of_lt (blk_lt (g := gb345) (o := .cells #[.slice Ao15 t341.length co15, .int .i64 t344] 25 (0, 0)) (zk BK345)) : gb345 ≠ gb359)); have NB359_345 := Aside0.mk ((by rw [hg]; exact Nat.ne_of_gt (blk_lt (g := gb345) (o := .cells #[.slice Ao15 t341.length co15, .int .i64 t344] 25 (0, 0)) (zk BK345)) : gb359 ≠ gb345)); replace BK345 := Aside0.mk (blk_below (g := gb345) (o := .cells #[.slice Ao15 t341.length co15, .int .i64 t344] 25 (0, 0)) (zk BK345) hb); clear hb hbox hg; have hnb74 := NB359_339.out; have hnc74 := NB339_359.out; have hnb75 := NB359_340.out; have hnc75 := NB340_359.out; have hnb76 := NB359_345.out; have hnc76 := NB345_359.out; have hcz77_0 : w73.cell? ⟨gb359, 0, none⟩ = some (.string (⟨#[]⟩ : ByteArray)) := (blk_cell BK359.out 0).trans rfl; have hcz77_1 : w73.cell? ⟨gb359, 1, none⟩ = some (.string (⟨#[]⟩ : ByteArray)) := (blk_cell BK359.out 1).trans rfl; have hcz77_2 : w73.cell? ⟨gb359, 2, none⟩ = some (.bool false) := (blk_cell BK359.out 2).trans rfl; have hfz77_0 := blk_frozen BK359.out 0; have hfz77_1 := blk_frozen BK359.out 1; have hfz77_2 := blk_frozen BK359.out 2))
      (try simp only [Act.put, s1, s2, s3])
      go_cut [94] (fun v94 wc => ∃ (kq : Nat) (x94_64 : Bool), v94 = .bool x94_64 ∧ Aside0 (laws_FnTableAdd.j1 kq (t341.length : Int) x94_64 t332 t335 t341 t344 = some r) ∧ Aside0 (kq ≤ kj4) ∧ Aside0 (Kd.R k36 36 wc w.heap.size (fun k_ => some k_ ≠ ((.slice Ao15 t341.length co15) : Value).ownBlock ∧ k_ ≠ gb340 ∧ k_ ≠ gb359) (.slice Ao9 t332.length co9) t332) ∧ Aside0 (Kd.R k36 36 wc w.heap.size (fun k_ => some k_ ≠ ((.slice Ao9 t332.length co9) : Value).ownBlock ∧ k_ ≠ gb340 ∧ k_ ≠ gb359) (.slice Ao15 t341.length co15) t341) ∧ Aside0 (wc.heap[gb339]? = some (.cells #[(.slice Ao9 t332.length co9), .int .i64 t335] 25 (0, 0))) ∧ Aside0 (wc.heap[gb340]? = some (.cells #[.string t336, .string t337, .bool t338] 36 (0, 0))) ∧ Aside0 (wc.heap[gb345]? = some (.cells #[(.slice Ao15 t341.length co15), .int .i64 t344] 25 (0, 0))) ∧ Aside0 (wc.heap[gb359]? = some (.cells #[.string t336, .string t337, .bool false] 36 (0, 0))) ∧ Aside0 (Below w.heap.size w wc))
      case first =>
       have H := HC65.out
       clear HC65
       by_cases c78 : (t341.length : Int) < 1
       ·rw [if_pos c78] at H
        have c78b0 : decide ((t341.length : Int) < 1) = true := decide_eq_true c78
        have c78b1 : decide (t341.length < 1) = true := decide_eq_true (by omega)
        clear c78
        (first | rw [c78b0] | (simp only [i64_w, i32_w]; rw [c78b0]) | skip)
        have H' := Aside0.mk H
        clear H
        try go_wp2
        have n0_ : Aside0 (Kd.R k36 36 ((((w73.setCell ⟨gb359, 0, none⟩ (.string t336)).setCell ⟨gb359, 1, none⟩ (.string t337)).setCell ⟨gb359, 2, none⟩ (.bool t338)).setCell ⟨gb359, 2, none⟩ (.bool false)) w.heap.size (fun k_ => some k_ ≠ (.slice Ao15 t341.length co15 : Value).ownBlock ∧ k_ ≠ gb340 ∧ k_ ≠ gb359) (.slice Ao9 t332.length co9) t332) := ⟨by (with_reducible repeat (first | apply Kd.R_alloc | apply Kd.R_drewN | apply Kd.R_drew)); exact Kd.R_mono (Kd.R_far (p := ⟨gb359, 2, none⟩) (Kd.R_far (p := ⟨gb359, 2, none⟩) (Kd.R_far (p := ⟨gb359, 1, none⟩) (Kd.R_far (p := ⟨gb359, 0, none⟩) (Kd.R_mono HO_340000.out (fun k_ hk => (⟨hk, hk.2⟩ : _ ∧ k_ ≠ gb359))) (fun _ hk => hk.2) (.string t336)) (fun _ hk => hk.2) (.string t337)) (fun _ hk => hk.2) (.bool t338)) (fun _ hk => hk.2) (.bool false)) (fun _ hk => ⟨hk.1.1.1, ⟨hk.1.1.2, hk.1.2⟩⟩)⟩
        have n1_ : Aside0 (Kd.R k36 36 ((((w73.setCell ⟨gb359, 0, none⟩ (.string t336)).setCell ⟨gb359, 1, none⟩ (.string t337)).setCell ⟨gb359, 2, none⟩ (.bool t338)).setCell ⟨gb359, 2, none⟩ (.bool false)) w.heap.size (fun k_ => some k_ ≠ (.slice Ao9 t332.length co9 : Value).ownBlock ∧ k_ ≠ gb340 ∧ k_ ≠ gb359) (.slice Ao15 t341.length co15) t341) := ⟨by (with_reducible repeat (first | apply Kd.R_alloc | apply Kd.R_drewN | apply Kd.R_drew)); exact Kd.R_mono (Kd.R_far (p := ⟨gb359, 2, none⟩) (Kd.R_far (p := ⟨gb359, 2, none⟩) (Kd.R_far (p := ⟨gb359, 1, none⟩) (Kd.R_far (p := ⟨gb359, 0, none⟩) (Kd.R_mono HO_346000.out (fun k_ hk => (⟨hk, hk.2⟩ : _ ∧ k_ ≠ gb359))) (fun _ hk => hk.2) (.string t336)) (fun _ hk => hk.2) (.string t337)) (fun _ hk => hk.2) (.bool t338)) (fun _ hk => hk.2) (.bool false)) (fun _ hk => ⟨hk.1.1.1, ⟨hk.1.1.2, hk.1.2⟩⟩)⟩
        have n2_ : Aside0 (((((w73.setCell ⟨gb359, 0, none⟩ (.string t336)).setCell ⟨gb359, 1, none⟩ (.string t337)).setCell ⟨gb359, 2, none⟩ (.bool t338)).setCell ⟨gb359, 2, none⟩ (.bool false)).heap[gb339]? = some (.cells #[.slice Ao9 t332.length co9, .int .i64 t335] 25 (0, 0))) := ⟨by (with_reducible repeat (first | refine blk_drewN ?_ _ | refine blk_drew ?_ | refine blk_alloc ?_ _)); refine blk_far ?_ NB339_359.out _; (with_reducible repeat (first | refine blk_drewN ?_ _ | refine blk_drew ?_ | refine blk_alloc ?_ _)); refine blk_far ?_ NB339_359.out _; (with_reducible repeat (first | refine blk_drewN ?_ _ | refine blk_drew ?_ | refine blk_alloc ?_ _)); refine blk_far ?_ NB339_359.out _; (with_reducible repeat (first | refine blk_drewN ?_ _ | refine blk_drew ?_ | refine blk_alloc ?_ _)); refine blk_far ?_ NB339_359.out _; exact zk BK339⟩
        have n3_ : Aside0 (((((w73.setCell ⟨gb359, 0, none⟩ (.string t336)).setCell ⟨gb359, 1, none⟩ (.string t337)).setCell ⟨gb359, 2, none⟩ (.bool t338)).setCell ⟨gb359, 2, none⟩ (.bool false)).heap[gb340]? = some (.cells #[.string t336, .string t337, .bool t338] 36 (0, 0))) := ⟨by (with_reducible repeat (first | refine blk_drewN ?_ _ | refine blk_drew ?_ | refine blk_alloc ?_ _)); refine blk_far ?_ NB340_359.out _; (with_reducible repeat (first | refine blk_drewN ?_ _ | refine blk_drew ?_ | refine blk_alloc ?_ _)); refine blk_far ?_ NB340_359.out _; (with_reducible repeat (first | refine blk_drewN ?_ _ | refine blk_drew ?_ | refine blk_alloc ?_ _)); refine blk_far ?_ NB340_359.out _; (with_reducible repeat (first | refine blk_drewN ?_ _ | refine blk_drew ?_ | refine blk_alloc ?_ _)); refine blk_far ?_ NB340_359.out _; exact zk BK340⟩
        have n4_ : Aside0 (((((w73.setCell ⟨gb359, 0, none⟩ (.string t336)).setCell ⟨gb359, 1, none⟩ (.string t337)).setCell ⟨gb359, 2, none⟩ (.bool t338)).setCell ⟨gb359, 2, none⟩ (.bool false)).heap[gb345]? = some (.cells #[.slice Ao15 t341.length co15, .int .i64 t344] 25 (0, 0))) := ⟨by (with_reducible repeat (first | refine blk_drewN ?_ _ | refine blk_drew ?_ | refine blk_alloc ?_ _)); refine blk_far ?_ NB345_359.out _; (with_reducible repeat (first | refine blk_drewN ?_ _ | refine blk_drew ?_ | refine blk_alloc ?_ _)); refine blk_far ?_ NB345_359.out _; (with_reducible repeat (first | refine blk_drewN ?_ _ | refine blk_drew ?_ | refine blk_alloc ?_ _)); refine blk_far ?_ NB345_359.out _; (with_reducible repeat (first | refine blk_drewN ?_ _ | refine blk_drew ?_ | refine blk_alloc ?_ _)); refine blk_far ?_ NB345_359.out _; exact zk BK345⟩
        have n5_ : Aside0 (((((w73.setCell ⟨gb359, 0, none⟩ (.string t336)).setCell ⟨gb359, 1, none⟩ (.string t337)).setCell ⟨gb359, 2, none⟩ (.bool t338)).setCell ⟨gb359, 2, none⟩ (.bool false)).heap[gb359]? = some (.cells #[.string t336, .string t337, .bool false] 36 (0, 0))) := ⟨by (with_reducible repeat (first | refine blk_drewN ?_ _ | refine blk_drew ?_ | refine blk_alloc ?_ _)); refine blk_put (cs := #[.string t336, .string t337, .bool t338]) ?_ 2 _ rfl; (with_reducible repeat (first | refine blk_drewN ?_ _ | refine blk_drew ?_ | refine blk_alloc ?_ _)); refine blk_put (cs := #[.string t336, .string t337, .bool false]) ?_ 2 _ rfl; (with_reducible repeat (first | refine blk_drewN ?_ _ | refine blk_drew ?_ | refine blk_alloc ?_ _)); refine blk_put (cs := #[.string t336, .string (⟨#[]⟩ : ByteArray), .bool false]) ?_ 1 _ rfl; (with_reducible repeat (first | refine blk_drewN ?_ _ | refine blk_drew ?_ | refine blk_alloc ?_ _)); refine blk_put (cs := #[.string (⟨#[]⟩ : ByteArray), .string (⟨#[]⟩ : ByteArray), .bool false]) ?_ 0 _ rfl; exact zk BK359⟩
        have n6_ : Aside0 (Below w.heap.size w ((((w73.setCell ⟨gb359, 0, none⟩ (.string t336)).setCell ⟨gb359, 1, none⟩ (.string t337)).setCell ⟨gb359, 2, none⟩ (.bool t338)).setCell ⟨gb359, 2, none⟩ (.bool false))) := ⟨zb HB⟩
        (try clear HO_340000)
        (try clear HO_346000)
        (try clear BK339)
        (try clear BK340)
        (try clear BK345)
        (try clear BK359)
        (try clear HB)
        generalize ((((w73.setCell ⟨gb359, 0, none⟩ (.string t336)).setCell ⟨gb359, 1, none⟩ (.string t337)).setCell ⟨gb359, 2, none⟩ (.bool t338)).setCell ⟨gb359, 2, none⟩ (.bool false)) = w79 at n0_ n1_ n2_ n3_ n4_ n5_ n6_ ⊢
        have HO_340000 := n0_
        have HO_346000 := n1_
        have BK339 := n2_
        have BK340 := n3_
        have BK345 := n4_
        have BK359 := n5_
        have HB := n6_
        clear n0_ n1_ n2_ n3_ n4_ n5_ n6_
        replace HO_340000 := Aside0.mk (Kd.R_drew HO_340000.out)
        replace HO_346000 := Aside0.mk (Kd.R_drew HO_346000.out)
        replace BK339 := Aside0.mk (blk_drew BK339.out)
        replace BK340 := Aside0.mk (blk_drew BK340.out)
        replace BK345 := Aside0.mk (blk_drew BK345.out)
        replace BK359 := Aside0.mk (blk_drew BK359.out)
        replace HB := Aside0.mk (below_drew1 HB.out)
        refine start_ (n := 34) (S := fun w' => True) (ds := []) #[false, false, false, false, false, false, false, false, false, false, false, false, false, false, false, false, false, false, false, false, false, false, false, false, false, false, false, false, false, false, false, false, false, false] (by kernel_rfl) rfl rfl trivial (fun hHeld => ?_); refine with_tabW laws_FnTableAdd.tab12 laws_FnTableAdd.bits12 (fun HT_ HW_ => ?_)
        generalize w79.drew = w80 at HO_340000 HO_346000 BK339 BK340 BK345 BK359 HB hHeld ⊢
        refine pu 0 (some 61) (bm 34 1) rfl rfl ?_
        refine pu 1 (some 62) (bm 34 3) rfl rfl ?_
        refine pu 2 (some 63) (bm 34 7) rfl rfl ?_
        refine pv 3 (some 64) (bm 34 15) rfl rfl ?_
        refine pv 4 (some 65) (bm 34 31) rfl rfl ?_
        refine pv 5 (some 66) (bm 34 63) rfl rfl ?_
        refine pv 6 (some 67) (bm 34 127) rfl rfl ?_
        refine pv 7 (some 68) (bm 34 255) rfl rfl ?_
        refine pv 8 (some 69) (bm 34 511) rfl rfl ?_
        refine pu 9 (some 70) (bm 34 1023) rfl rfl ?_
        refine pu 10 (some 71) (bm 34 2047) rfl rfl ?_
        refine pv 11 (some 72) (bm 34 4095) rfl rfl ?_
        refine pv 12 (some 73) (bm 34 8191) rfl rfl ?_
        refine pv 13 (some 74) (bm 34 16383) rfl rfl ?_
        refine pv 14 (some 75) (bm 34 32767) rfl rfl ?_
        refine pv 15 (some 76) (bm 34 65535) rfl rfl ?_
        refine pv 16 (some 77) (bm 34 131071) rfl rfl ?_
        refine pv 17 (some 78) (bm 34 262143) rfl rfl ?_
        refine pv 18 (some 79) (bm 34 524287) rfl rfl ?_
        refine pv 19 (some 80) (bm 34 1048575) rfl rfl ?_
        refine pv 20 (some 81) (bm 34 2097151) rfl rfl ?_
        refine pu 21 (some 82) (bm 34 4194303) rfl rfl ?_
        refine pu 22 (some 83) (bm 34 8388607) rfl rfl ?_
        refine pv 23 (some 84) (bm 34 16777215) rfl rfl ?_
        refine pv 24 (some 85) (bm 34 33554431) rfl rfl ?_
        refine pv 25 (some 86) (bm 34 67108863) rfl rfl ?_
        refine pu 26 (some 87) (bm 34 134217727) rfl rfl ?_
        refine pu 27 (some 88) (bm 34 268435455) rfl rfl ?_
        refine pv 28 (some 89) (bm 34 536870911) rfl rfl ?_
        refine pv 29 (some 90) (bm 34 1073741823) rfl rfl ?_
        refine pv 30 (some 91) (bm 34 2147483647) rfl rfl ?_
        refine pv 31 (some 92) (bm 34 4294967295) rfl rfl ?_
        refine pv 32 (some 93) (bm 34 8589934591) rfl rfl ?_
        refine pu 33 (some 94) (bm 34 17179869183) rfl rfl ?_
        refine done_ (done_of HT_.out (by kernel_rfl)) ?_
        try go_wp2
        go_meet
        case rel => exact ⟨_, (true), zs, H', ⟨by have := HJ4.out; first | omega | exact Nat.le_refl _⟩, ⟨by exact zr HO_340000⟩, ⟨by exact zr HO_346000⟩, ⟨by exact zk BK339⟩, ⟨by exact zk BK340⟩, ⟨by exact zk BK345⟩, ⟨by exact zk BK359⟩, ⟨zb HB⟩⟩
       ·rw [if_neg c78] at H
        have c78b0 : decide ((t341.length : Int) < 1) = false := decide_eq_false c78
        have c78b1 : decide (t341.length < 1) = false := decide_eq_false (by omega)
        clear c78
        (first | rw [c78b0] | (simp only [i64_w, i32_w]; rw [c78b0]) | skip)
        by_cases c81 : 0 < (t341.length : Int)
        ·rw [if_pos c81] at H
         have c81b0 : decide (0 < (t341.length : Int)) = true := decide_eq_true c81
         have c81b1 : decide (0 < t341.length) = true := decide_eq_true (by omega)
         clear c81
         by_cases c82 : (!((((rd_T36 t341 0).f0).toList) == t336.toList) || (!((((rd_T36 t341 0).f1).toList) == t337.toList) || (((rd_T36 t341 0).f2)))) = true
         ·rw [if_pos c82] at H
          have c82b0 : (!((((rd_T36 t341 0).f0).toList) == t336.toList) || (!((((rd_T36 t341 0).f1).toList) == t337.toList) || (((rd_T36 t341 0).f2)))) = true := c82
          clear c82
          have H' := Aside0.mk H
          clear H
          try go_wp2
          have n0_ : Aside0 (Kd.R k36 36 ((((w73.setCell ⟨gb359, 0, none⟩ (.string t336)).setCell ⟨gb359, 1, none⟩ (.string t337)).setCell ⟨gb359, 2, none⟩ (.bool t338)).setCell ⟨gb359, 2, none⟩ (.bool false)) w.heap.size (fun k_ => some k_ ≠ (.slice Ao15 t341.length co15 : Value).ownBlock ∧ k_ ≠ gb340 ∧ k_ ≠ gb359) (.slice Ao9 t332.length co9) t332) := ⟨by (with_reducible repeat (first | apply Kd.R_alloc | apply Kd.R_drewN | apply Kd.R_drew)); exact Kd.R_mono (Kd.R_far (p := ⟨gb359, 2, none⟩) (Kd.R_far (p := ⟨gb359, 2, none⟩) (Kd.R_far (p := ⟨gb359, 1, none⟩) (Kd.R_far (p := ⟨gb359, 0, none⟩) (Kd.R_mono HO_340000.out (fun k_ hk => (⟨hk, hk.2⟩ : _ ∧ k_ ≠ gb359))) (fun _ hk => hk.2) (.string t336)) (fun _ hk => hk.2) (.string t337)) (fun _ hk => hk.2) (.bool t338)) (fun _ hk => hk.2) (.bool false)) (fun _ hk => ⟨hk.1.1.1, ⟨hk.1.1.2, hk.1.2⟩⟩)⟩
          have n1_ : Aside0 (Kd.R k36 36 ((((w73.setCell ⟨gb359, 0, none⟩ (.string t336)).setCell ⟨gb359, 1, none⟩ (.string t337)).setCell ⟨gb359, 2, none⟩ (.bool t338)).setCell ⟨gb359, 2, none⟩ (.bool false)) w.heap.size (fun k_ => some k_ ≠ (.slice Ao9 t332.length co9 : Value).ownBlock ∧ k_ ≠ gb340 ∧ k_ ≠ gb359) (.slice Ao15 t341.length co15) t341) := ⟨by (with_reducible repeat (first | apply Kd.R_alloc | apply Kd.R_drewN | apply Kd.R_drew)); exact Kd.R_mono (Kd.R_far (p := ⟨gb359, 2, none⟩) (Kd.R_far (p := ⟨gb359, 2, none⟩) (Kd.R_far (p := ⟨gb359, 1, none⟩) (Kd.R_far (p := ⟨gb359, 0, none⟩) (Kd.R_mono HO_346000.out (fun k_ hk => (⟨hk, hk.2⟩ : _ ∧ k_ ≠ gb359))) (fun _ hk => hk.2) (.string t336)) (fun _ hk => hk.2) (.string t337)) (fun _ hk => hk.2) (.bool t338)) (fun _ hk => hk.2) (.bool false)) (fun _ hk => ⟨hk.1.1.1, ⟨hk.1.1.2, hk.1.2⟩⟩)⟩
          have n2_ : Aside0 (((((w73.setCell ⟨gb359, 0, none⟩ (.string t336)).setCell ⟨gb359, 1, none⟩ (.string t337)).setCell ⟨gb359, 2, none⟩ (.bool t338)).setCell ⟨gb359, 2, none⟩ (.bool false)).heap[gb339]? = some (.cells #[.slice Ao9 t332.length co9, .int .i64 t335] 25 (0, 0))) := ⟨by (with_reducible repeat (first | refine blk_drewN ?_ _ | refine blk_drew ?_ | refine blk_alloc ?_ _)); refine blk_far ?_ NB339_359.out _; (with_reducible repeat (first | refine blk_drewN ?_ _ | refine blk_drew ?_ | refine blk_alloc ?_ _)); refine blk_far ?_ NB339_359.out _; (with_reducible repeat (first | refine blk_drewN ?_ _ | refine blk_drew ?_ | refine blk_alloc ?_ _)); refine blk_far ?_ NB339_359.out _; (with_reducible repeat (first | refine blk_drewN ?_ _ | refine blk_drew ?_ | refine blk_alloc ?_ _)); refine blk_far ?_ NB339_359.out _; exact zk BK339⟩
          have n3_ : Aside0 (((((w73.setCell ⟨gb359, 0, none⟩ (.string t336)).setCell ⟨gb359, 1, none⟩ (.string t337)).setCell ⟨gb359, 2, none⟩ (.bool t338)).setCell ⟨gb359, 2, none⟩ (.bool false)).heap[gb340]? = some (.cells #[.string t336, .string t337, .bool t338] 36 (0, 0))) := ⟨by (with_reducible repeat (first | refine blk_drewN ?_ _ | refine blk_drew ?_ | refine blk_alloc ?_ _)); refine blk_far ?_ NB340_359.out _; (with_reducible repeat (first | refine blk_drewN ?_ _ | refine blk_drew ?_ | refine blk_alloc ?_ _)); refine blk_far ?_ NB340_359.out _; (with_reducible repeat (first | refine blk_drewN ?_ _ | refine blk_drew ?_ | refine blk_alloc ?_ _)); refine blk_far ?_ NB340_359.out _; (with_reducible repeat (first | refine blk_drewN ?_ _ | refine blk_drew ?_ | refine blk_alloc ?_ _)); refine blk_far ?_ NB340_359.out _; exact zk BK340⟩
          have n4_ : Aside0 (((((w73.setCell ⟨gb359, 0, none⟩ (.string t336)).setCell ⟨gb359, 1, none⟩ (.string t337)).setCell ⟨gb359, 2, none⟩ (.bool t338)).setCell ⟨gb359, 2, none⟩ (.bool false)).heap[gb345]? = some (.cells #[.slice Ao15 t341.length co15, .int .i64 t344] 25 (0, 0))) := ⟨by (with_reducible repeat (first | refine blk_drewN ?_ _ | refine blk_drew ?_ | refine blk_alloc ?_ _)); refine blk_far ?_ NB345_359.out _; (with_reducible repeat (first | refine blk_drewN ?_ _ | refine blk_drew ?_ | refine blk_alloc ?_ _)); refine blk_far ?_ NB345_359.out _; (with_reducible repeat (first | refine blk_drewN ?_ _ | refine blk_drew ?_ | refine blk_alloc ?_ _)); refine blk_far ?_ NB345_359.out _; (with_reducible repeat (first | refine blk_drewN ?_ _ | refine blk_drew ?_ | refine blk_alloc ?_ _)); refine blk_far ?_ NB345_359.out _; exact zk BK345⟩
          have n5_ : Aside0 (((((w73.setCell ⟨gb359, 0, none⟩ (.string t336)).setCell ⟨gb359, 1, none⟩ (.string t337)).setCell ⟨gb359, 2, none⟩ (.bool t338)).setCell ⟨gb359, 2, none⟩ (.bool false)).heap[gb359]? = some (.cells #[.string t336, .string t337, .bool false] 36 (0, 0))) := ⟨by (with_reducible repeat (first | refine blk_drewN ?_ _ | refine blk_drew ?_ | refine blk_alloc ?_ _)); refine blk_put (cs := #[.string t336, .string t337, .bool t338]) ?_ 2 _ rfl; (with_reducible repeat (first | refine blk_drewN ?_ _ | refine blk_drew ?_ | refine blk_alloc ?_ _)); refine blk_put (cs := #[.string t336, .string t337, .bool false]) ?_ 2 _ rfl; (with_reducible repeat (first | refine blk_drewN ?_ _ | refine blk_drew ?_ | refine blk_alloc ?_ _)); refine blk_put (cs := #[.string t336, .string (⟨#[]⟩ : ByteArray), .bool false]) ?_ 1 _ rfl; (with_reducible repeat (first | refine blk_drewN ?_ _ | refine blk_drew ?_ | refine blk_alloc ?_ _)); refine blk_put (cs := #[.string (⟨#[]⟩ : ByteArray), .string (⟨#[]⟩ : ByteArray), .bool false]) ?_ 0 _ rfl; exact zk BK359⟩
          have n6_ : Aside0 (Below w.heap.size w ((((w73.setCell ⟨gb359, 0, none⟩ (.string t336)).setCell ⟨gb359, 1, none⟩ (.string t337)).setCell ⟨gb359, 2, none⟩ (.bool t338)).setCell ⟨gb359, 2, none⟩ (.bool false))) := ⟨zb HB⟩
          (try clear HO_340000)
          (try clear HO_346000)
          (try clear BK339)
          (try clear BK340)
          (try clear BK345)
          (try clear BK359)
          (try clear HB)
          generalize ((((w73.setCell ⟨gb359, 0, none⟩ (.string t336)).setCell ⟨gb359, 1, none⟩ (.string t337)).setCell ⟨gb359, 2, none⟩ (.bool t338)).setCell ⟨gb359, 2, none⟩ (.bool false)) = w83 at n0_ n1_ n2_ n3_ n4_ n5_ n6_ ⊢
          have HO_340000 := n0_
          have HO_346000 := n1_
          have BK339 := n2_
          have BK340 := n3_
          have BK345 := n4_
          have BK359 := n5_
          have HB := n6_
          clear n0_ n1_ n2_ n3_ n4_ n5_ n6_
          replace HO_340000 := Aside0.mk (Kd.R_drew HO_340000.out)
          replace HO_346000 := Aside0.mk (Kd.R_drew HO_346000.out)
          replace BK339 := Aside0.mk (blk_drew BK339.out)
          replace BK340 := Aside0.mk (blk_drew BK340.out)
          replace BK345 := Aside0.mk (blk_drew BK345.out)
          replace BK359 := Aside0.mk (blk_drew BK359.out)
          replace HB := Aside0.mk (below_drew1 HB.out)
          have p360 : 0 ≤ (0 : Int) := (by omega)
          have q360 : 0 < (t341.length : Int) := of_decide_eq_true za
          obtain ⟨ad360, e360, hx360_0, hx360_1, hx360_2⟩ := at_T36 (Kd.R_reads' HO_346000.out).2.2 0 p360 q360
          cases e360
          have qi360 : (0 < t341.length) = True := eq_true (by omega)
          (try rw [show ((0 : Int)).toNat = 0 from rfl] at hx360_0)
          (try rw [show 0 * 3 = 0 from rfl] at hx360_0)
          (try rw [Addr.add_zero'] at hx360_0)
          (try rw [show ((0 : Int)).toNat = 0 from rfl] at hx360_1)
          (try rw [show 0 * 3 = 0 from rfl] at hx360_1)
          (try rw [Addr.add_zero'] at hx360_1)
          (try rw [show ((0 : Int)).toNat = 0 from rfl] at hx360_2)
          (try rw [show 0 * 3 = 0 from rfl] at hx360_2)
          (try rw [Addr.add_zero'] at hx360_2)
          replace p360 := eq_true p360
          replace q360 := eq_true q360
          refine start_ (n := 34) (S := fun w' => w'.cell? ⟨gb345, 0, none⟩ = some (.slice (some ad360) t341.length co15) ∧ w'.cell? ⟨gb345, 1, none⟩ = some (.int .i64 t344) ∧ w'.cell? ⟨gb359, 0, none⟩ = some (.string t336) ∧ w'.cell? ⟨gb359, 1, none⟩ = some (.string t337) ∧ w'.cell? ⟨gb359, 2, none⟩ = some (.bool false) ∧ w'.cell? ad360 = some (.string ((rd_T36 t341 0).f0)) ∧ w'.cell? ⟨ad360.block, ad360.off + 1, none⟩ = some (.string ((rd_T36 t341 0).f1)) ∧ w'.cell? ⟨ad360.block, ad360.off + 2, none⟩ = some (.bool ((rd_T36 t341 0).f2))) (ds := []) #[false, false, false, false, false, false, false, false, false, false, false, false, false, false, false, false, false, false, false, false, false, false, false, false, false, false, false, false, false, false, false, false, false, false] (by kernel_rfl) rfl rfl ⟨(blk_cell BK345.out 0).trans rfl, (blk_cell BK345.out 1).trans rfl, (blk_cell BK359.out 0).trans rfl, (blk_cell BK359.out 1).trans rfl, (blk_cell BK359.out 2).trans rfl, hx360_0, hx360_1, hx360_2⟩ (fun hHeld => ?_); refine with_tabW laws_FnTableAdd.tab12 laws_FnTableAdd.bits12 (fun HT_ HW_ => ?_)
          generalize w83.drew = w84 at HO_340000 HO_346000 BK339 BK340 BK345 BK359 HB hx360_0 hx360_1 hx360_2 hHeld ⊢
          refine pu 0 (some 61) (bm 34 1) rfl rfl ?_
          refine pu 1 (some 62) (bm 34 3) rfl rfl ?_
          refine pu 2 (some 63) (bm 34 7) rfl rfl ?_
          refine pu 3 (some 64) (bm 34 15) rfl rfl ?_
          refine tk8 4 (some 65) (bm 34 31) rfl rfl hHeld ?_
          refine pu 5 (some 66) (bm 34 63) rfl rfl ?_
          refine tk8 6 (some 67) (bm 34 127) rfl rfl hHeld ?_
          refine tk8 7 (some 68) (bm 34 255) rfl rfl hHeld ?_
          refine pu 8 (some 69) (bm 34 511) rfl rfl ?_
          refine pu 9 (some 70) (bm 34 1023) rfl rfl ?_
          refine pu 10 (some 71) (bm 34 2047) rfl rfl ?_
          refine pv 11 (some 72) (bm 34 4095) rfl rfl ?_
          refine pv 12 (some 73) (bm 34 8191) rfl rfl ?_
          refine pv 13 (some 74) (bm 34 16383) rfl rfl ?_
          refine pv 14 (some 75) (bm 34 32767) rfl rfl ?_
          refine pv 15 (some 76) (bm 34 65535) rfl rfl ?_
          refine pv 16 (some 77) (bm 34 131071) rfl rfl ?_
          refine pv 17 (some 78) (bm 34 262143) rfl rfl ?_
          refine pv 18 (some 79) (bm 34 524287) rfl rfl ?_
          refine pv 19 (some 80) (bm 34 1048575) rfl rfl ?_
          refine pv 20 (some 81) (bm 34 2097151) rfl rfl ?_
          refine pu 21 (some 82) (bm 34 4194303) rfl rfl ?_
          refine pu 22 (some 83) (bm 34 8388607) rfl rfl ?_
          refine pv 23 (some 84) (bm 34 16777215) rfl rfl ?_
          refine pv 24 (some 85) (bm 34 33554431) rfl rfl ?_
          refine pv 25 (some 86) (bm 34 67108863) rfl rfl ?_
          refine pu 26 (some 87) (bm 34 134217727) rfl rfl ?_
          refine pu 27 (some 88) (bm 34 268435455) rfl rfl ?_
          refine pv 28 (some 89) (bm 34 536870911) rfl rfl ?_
          refine pv 29 (some 90) (bm 34 1073741823) rfl rfl ?_
          refine pv 30 (some 91) (bm 34 2147483647) rfl rfl ?_
          refine pv 31 (some 92) (bm 34 4294967295) rfl rfl ?_
          refine pv 32 (some 93) (bm 34 8589934591) rfl rfl ?_
          refine pu 33 (some 94) (bm 34 17179869183) rfl rfl ?_
          refine done_ (done_of HT_.out (by kernel_rfl)) ?_
          try go_wp2
          go_meet
          case rel => exact ⟨_, (true), zs, H', ⟨by have := HJ4.out; first | omega | exact Nat.le_refl _⟩, ⟨by exact zr HO_340000⟩, ⟨by exact zr HO_346000⟩, ⟨by exact zk BK339⟩, ⟨by exact zk BK340⟩, ⟨by exact zk BK345⟩, ⟨by exact zk BK359⟩, ⟨zb HB⟩⟩
         ·rw [if_neg c82] at H
          have c82b0 : (!((((rd_T36 t341 0).f0).toList) == t336.toList) || (!((((rd_T36 t341 0).f1).toList) == t337.toList) || (((rd_T36 t341 0).f2)))) = false := by simpa using c82
          clear c82
          by_cases c85 : 1 ≤ (t341.length : Int)
          ·rw [if_pos c85] at H
           have c85b0 := eq_true c85
           have c85b1 : decide (1 ≤ (t341.length : Int)) = true := decide_eq_true c85
           clear c85
           obtain ⟨y361, hy361⟩ : ∃ y_ : List (S36), y_ = (t341.drop 1) := ⟨_, rfl⟩
           replace H : (if 0 ≤ (wrap64 ((t341.length : Int) - 1)) then (if (wrap64 ((t341.length : Int) - 1)) ≤ (t332.length : Int) then ((laws_lkFields.f kj4 y361 (t332.take ((wrap64 ((t341.length : Int) - 1)) : Int).toNat)).bind fun t369 => (if t369 = true then ((impl_TableOk.f kj4 t341 t344).bind fun t370 => (if t370 = true then (laws_FnTableAdd.j1 kj4 (t341.length : Int) (t344 != t335) t332 t335 t341 t344) else (laws_FnTableAdd.j1 kj4 (t341.length : Int) true t332 t335 t341 t344))) else (laws_FnTableAdd.j1 kj4 (t341.length : Int) true t332 t335 t341 t344))) else (none)) else (none)) = some r := by first | (rw [hy361]; with_reducible exact H) | (have H2_ := (Option.bind_some _ _).symm.trans H; rw [hy361]; with_reducible exact H2_) | (have H2_ := (Option.bind_some _ _).symm.trans H; with_reducible exact H2_) | with_reducible exact H | (rw [hy361]; exact H) | exact H
           have Ny361 := Aside0.mk hy361
           clear hy361
           obtain ⟨ji86, hji86⟩ : ∃ j_ : Int, (wrap64 ((t341.length : Int) - 1)) = j_ := ⟨_, rfl⟩
           replace H : (if 0 ≤ (ji86) then (if (ji86) ≤ (t332.length : Int) then ((laws_lkFields.f kj4 y361 (t332.take ((ji86) : Int).toNat)).bind fun t369 => (if t369 = true then ((impl_TableOk.f kj4 t341 t344).bind fun t370 => (if t370 = true then (laws_FnTableAdd.j1 kj4 (t341.length : Int) (t344 != t335) t332 t335 t341 t344) else (laws_FnTableAdd.j1 kj4 (t341.length : Int) true t332 t335 t341 t344))) else (laws_FnTableAdd.j1 kj4 (t341.length : Int) true t332 t335 t341 t344))) else (none)) else (none)) = some r := by first | (rw [hji86] at H; exact H) | (simp only [hji86] at H ⊢; exact H)
           have hji86w : (IntKind.i64.wrap ((t341.length : Int) - 1)) = ji86 := (i64_w _).trans hji86
           by_cases c87 : 0 ≤ (ji86)
           ·rw [if_pos c87] at H
            have c87b0 := eq_true c87
            have c87b1 : decide (0 ≤ (ji86)) = true := decide_eq_true c87
            clear c87
            by_cases c88 : (ji86) ≤ (t332.length : Int)
            ·rw [if_pos c88] at H
             have c88b0 := eq_true c88
             have c88b1 : decide ((ji86) ≤ (t332.length : Int)) = true := decide_eq_true c88
             clear c88
             obtain ⟨y365, hy365⟩ : ∃ y_ : List (S36), y_ = (t332.take ((ji86) : Int).toNat) := ⟨_, rfl⟩
             replace H : ((laws_lkFields.f kj4 y361 y365).bind fun t369 => (if t369 = true then ((impl_TableOk.f kj4 t341 t344).bind fun t370 => (if t370 = true then (laws_FnTableAdd.j1 kj4 (t341.length : Int) (t344 != t335) t332 t335 t341 t344) else (laws_FnTableAdd.j1 kj4 (t341.length : Int) true t332 t335 t341 t344))) else (laws_FnTableAdd.j1 kj4 (t341.length : Int) true t332 t335 t341 t344))) = some r := by first | (rw [hy365]; with_reducible exact H) | (have H2_ := (Option.bind_some _ _).symm.trans H; rw [hy365]; with_reducible exact H2_) | (have H2_ := (Option.bind_some _ _).symm.trans H; with_reducible exact H2_) | with_reducible exact H | (rw [hy365]; exact H) | exact H
             have Ny365 := Aside0.mk hy365
             clear hy365
             replace H := Option.bind_eq_some_iff.mp H
             obtain ⟨t369, A890, H⟩ := H
             replace H : (if t369 = true then ((impl_TableOk.f kj4 t341 t344).bind fun t370 => (if t370 = true then (laws_FnTableAdd.j1 kj4 (t341.length : Int) (t344 != t335) t332 t335 t341 t344) else (laws_FnTableAdd.j1 kj4 (t341.length : Int) true t332 t335 t341 t344))) else (laws_FnTableAdd.j1 kj4 (t341.length : Int) true t332 t335 t341 t344)) = some r := H
             have A89 := Aside0.mk A890
             clear A890
             by_cases c90 : t369 = true
             ·subst c90
              have H1 : ((impl_TableOk.f kj4 t341 t344).bind fun t370 => (if t370 = true then (laws_FnTableAdd.j1 kj4 (t341.length : Int) (t344 != t335) t332 t335 t341 t344) else (laws_FnTableAdd.j1 kj4 (t341.length : Int) true t332 t335 t341 t344))) = some r := by rw [if_pos rfl] at H; exact H
              clear H
              have H := H1
              clear H1
              replace H := Option.bind_eq_some_iff.mp H
              obtain ⟨t370, A910, H⟩ := H
              replace H : (if t370 = true then (laws_FnTableAdd.j1 kj4 (t341.length : Int) (t344 != t335) t332 t335 t341 t344) else (laws_FnTableAdd.j1 kj4 (t341.length : Int) true t332 t335 t341 t344)) = some r := H
              have A91 := Aside0.mk A910
              clear A910
              by_cases c92 : t370 = true
              ·subst c92
               have H1 : (laws_FnTableAdd.j1 kj4 (t341.length : Int) (t344 != t335) t332 t335 t341 t344) = some r := by rw [if_pos rfl] at H; exact H
               clear H
               have H := H1
               clear H1
               have H' := Aside0.mk H
               clear H
               try go_wp2
               have n0_ : Aside0 (Kd.R k36 36 ((((w73.setCell ⟨gb359, 0, none⟩ (.string t336)).setCell ⟨gb359, 1, none⟩ (.string t337)).setCell ⟨gb359, 2, none⟩ (.bool t338)).setCell ⟨gb359, 2, none⟩ (.bool false)) w.heap.size (fun k_ => some k_ ≠ (.slice Ao15 t341.length co15 : Value).ownBlock ∧ k_ ≠ gb340 ∧ k_ ≠ gb359) (.slice Ao9 t332.length co9) t332) := ⟨by (with_reducible repeat (first | apply Kd.R_alloc | apply Kd.R_drewN | apply Kd.R_drew)); exact Kd.R_mono (Kd.R_far (p := ⟨gb359, 2, none⟩) (Kd.R_far (p := ⟨gb359, 2, none⟩) (Kd.R_far (p := ⟨gb359, 1, none⟩) (Kd.R_far (p := ⟨gb359, 0, none⟩) (Kd.R_mono HO_340000.out (fun k_ hk => (⟨hk, hk.2⟩ : _ ∧ k_ ≠ gb359))) (fun _ hk => hk.2) (.string t336)) (fun _ hk => hk.2) (.string t337)) (fun _ hk => hk.2) (.bool t338)) (fun _ hk => hk.2) (.bool false)) (fun _ hk => ⟨hk.1.1.1, ⟨hk.1.1.2, hk.1.2⟩⟩)⟩
               have n1_ : Aside0 (Kd.R k36 36 ((((w73.setCell ⟨gb359, 0, none⟩ (.string t336)).setCell ⟨gb359, 1, none⟩ (.string t337)).setCell ⟨gb359, 2, none⟩ (.bool t338)).setCell ⟨gb359, 2, none⟩ (.bool false)) w.heap.size (fun k_ => some k_ ≠ (.slice Ao9 t332.length co9 : Value).ownBlock ∧ k_ ≠ gb340 ∧ k_ ≠ gb359) (.slice Ao15 t341.length co15) t341) := ⟨by (with_reducible repeat (first | apply Kd.R_alloc | apply Kd.R_drewN | apply Kd.R_drew)); exact Kd.R_mono (Kd.R_far (p := ⟨gb359, 2, none⟩) (Kd.R_far (p := ⟨gb359, 2, none⟩) (Kd.R_far (p := ⟨gb359, 1, none⟩) (Kd.R_far (p := ⟨gb359, 0, none⟩) (Kd.R_mono HO_346000.out (fun k_ hk => (⟨hk, hk.2⟩ : _ ∧ k_ ≠ gb359))) (fun _ hk => hk.2) (.string t336)) (fun _ hk => hk.2) (.string t337)) (fun _ hk => hk.2) (.bool t338)) (fun _ hk => hk.2) (.bool false)) (fun _ hk => ⟨hk.1.1.1, ⟨hk.1.1.2, hk.1.2⟩⟩)⟩
               have n2_ : Aside0 (((((w73.setCell ⟨gb359, 0, none⟩ (.string t336)).setCell ⟨gb359, 1, none⟩ (.string t337)).setCell ⟨gb359, 2, none⟩ (.bool t338)).setCell ⟨gb359, 2, none⟩ (.bool false)).heap[gb339]? = some (.cells #[.slice Ao9 t332.length co9, .int .i64 t335] 25 (0, 0))) := ⟨by (with_reducible repeat (first | refine blk_drewN ?_ _ | refine blk_drew ?_ | refine blk_alloc ?_ _)); refine blk_far ?_ NB339_359.out _; (with_reducible repeat (first | refine blk_drewN ?_ _ | refine blk_drew ?_ | refine blk_alloc ?_ _)); refine blk_far ?_ NB339_359.out _; (with_reducible repeat (first | refine blk_drewN ?_ _ | refine blk_drew ?_ | refine blk_alloc ?_ _)); refine blk_far ?_ NB339_359.out _; (with_reducible repeat (first | refine blk_drewN ?_ _ | refine blk_drew ?_ | refine blk_alloc ?_ _)); refine blk_far ?_ NB339_359.out _; exact zk BK339⟩
               have n3_ : Aside0 (((((w73.setCell ⟨gb359, 0, none⟩ (.string t336)).setCell ⟨gb359, 1, none⟩ (.string t337)).setCell ⟨gb359, 2, none⟩ (.bool t338)).setCell ⟨gb359, 2, none⟩ (.bool false)).heap[gb340]? = some (.cells #[.string t336, .string t337, .bool t338] 36 (0, 0))) := ⟨by (with_reducible repeat (first | refine blk_drewN ?_ _ | refine blk_drew ?_ | refine blk_alloc ?_ _)); refine blk_far ?_ NB340_359.out _; (with_reducible repeat (first | refine blk_drewN ?_ _ | refine blk_drew ?_ | refine blk_alloc ?_ _)); refine blk_far ?_ NB340_359.out _; (with_reducible repeat (first | refine blk_drewN ?_ _ | refine blk_drew ?_ | refine blk_alloc ?_ _)); refine blk_far ?_ NB340_359.out _; (with_reducible repeat (first | refine blk_drewN ?_ _ | refine blk_drew ?_ | refine blk_alloc ?_ _)); refine blk_far ?_ NB340_359.out _; exact zk BK340⟩
               have n4_ : Aside0 (((((w73.setCell ⟨gb359, 0, none⟩ (.string t336)).setCell ⟨gb359, 1, none⟩ (.string t337)).setCell ⟨gb359, 2, none⟩ (.bool t338)).setCell ⟨gb359, 2, none⟩ (.bool false)).heap[gb345]? = some (.cells #[.slice Ao15 t341.length co15, .int .i64 t344] 25 (0, 0))) := ⟨by (with_reducible repeat (first | refine blk_drewN ?_ _ | refine blk_drew ?_ | refine blk_alloc ?_ _)); refine blk_far ?_ NB345_359.out _; (with_reducible repeat (first | refine blk_drewN ?_ _ | refine blk_drew ?_ | refine blk_alloc ?_ _)); refine blk_far ?_ NB345_359.out _; (with_reducible repeat (first | refine blk_drewN ?_ _ | refine blk_drew ?_ | refine blk_alloc ?_ _)); refine blk_far ?_ NB345_359.out _; (with_reducible repeat (first | refine blk_drewN ?_ _ | refine blk_drew ?_ | refine blk_alloc ?_ _)); refine blk_far ?_ NB345_359.out _; exact zk BK345⟩
               have n5_ : Aside0 (((((w73.setCell ⟨gb359, 0, none⟩ (.string t336)).setCell ⟨gb359, 1, none⟩ (.string t337)).setCell ⟨gb359, 2, none⟩ (.bool t338)).setCell ⟨gb359, 2, none⟩ (.bool false)).heap[gb359]? = some (.cells #[.string t336, .string t337, .bool false] 36 (0, 0))) := ⟨by (with_reducible repeat (first | refine blk_drewN ?_ _ | refine blk_drew ?_ | refine blk_alloc ?_ _)); refine blk_put (cs := #[.string t336, .string t337, .bool t338]) ?_ 2 _ rfl; (with_reducible repeat (first | refine blk_drewN ?_ _ | refine blk_drew ?_ | refine blk_alloc ?_ _)); refine blk_put (cs := #[.string t336, .string t337, .bool false]) ?_ 2 _ rfl; (with_reducible repeat (first | refine blk_drewN ?_ _ | refine blk_drew ?_ | refine blk_alloc ?_ _)); refine blk_put (cs := #[.string t336, .string (⟨#[]⟩ : ByteArray), .bool false]) ?_ 1 _ rfl; (with_reducible repeat (first | refine blk_drewN ?_ _ | refine blk_drew ?_ | refine blk_alloc ?_ _)); refine blk_put (cs := #[.string (⟨#[]⟩ : ByteArray), .string (⟨#[]⟩ : ByteArray), .bool false]) ?_ 0 _ rfl; exact zk BK359⟩
               have n6_ : Aside0 (Below w.heap.size w ((((w73.setCell ⟨gb359, 0, none⟩ (.string t336)).setCell ⟨gb359, 1, none⟩ (.string t337)).setCell ⟨gb359, 2, none⟩ (.bool t338)).setCell ⟨gb359, 2, none⟩ (.bool false))) := ⟨zb HB⟩
               (try clear HO_340000)
               (try clear HO_346000)
               (try clear BK339)
               (try clear BK340)
               (try clear BK345)
               (try clear BK359)
               (try clear HB)
               generalize ((((w73.setCell ⟨gb359, 0, none⟩ (.string t336)).setCell ⟨gb359, 1, none⟩ (.string t337)).setCell ⟨gb359, 2, none⟩ (.bool t338)).setCell ⟨gb359, 2, none⟩ (.bool false)) = w93 at n0_ n1_ n2_ n3_ n4_ n5_ n6_ ⊢
               have HO_340000 := n0_
               have HO_346000 := n1_
               have BK339 := n2_
               have BK340 := n3_
               have BK345 := n4_
               have BK359 := n5_
               have HB := n6_
               clear n0_ n1_ n2_ n3_ n4_ n5_ n6_
               replace HO_340000 := Aside0.mk (Kd.R_drew HO_340000.out)
               replace HO_346000 := Aside0.mk (Kd.R_drew HO_346000.out)
               replace BK339 := Aside0.mk (blk_drew BK339.out)
               replace BK340 := Aside0.mk (blk_drew BK340.out)
               replace BK345 := Aside0.mk (blk_drew BK345.out)
               replace BK359 := Aside0.mk (blk_drew BK359.out)
               replace HB := Aside0.mk (below_drew1 HB.out)
               have p360 : 0 ≤ (0 : Int) := (by omega)
               have q360 : 0 < (t341.length : Int) := of_decide_eq_true za
               obtain ⟨ad360, e360, hx360_0, hx360_1, hx360_2⟩ := at_T36 (Kd.R_reads' HO_346000.out).2.2 0 p360 q360
               cases e360
               have qi360 : (0 < t341.length) = True := eq_true (by omega)
               (try rw [show ((0 : Int)).toNat = 0 from rfl] at hx360_0)
               (try rw [show 0 * 3 = 0 from rfl] at hx360_0)
               (try rw [Addr.add_zero'] at hx360_0)
               (try rw [show ((0 : Int)).toNat = 0 from rfl] at hx360_1)
               (try rw [show 0 * 3 = 0 from rfl] at hx360_1)
               (try rw [Addr.add_zero'] at hx360_1)
               (try rw [show ((0 : Int)).toNat = 0 from rfl] at hx360_2)
               (try rw [show 0 * 3 = 0 from rfl] at hx360_2)
               (try rw [Addr.add_zero'] at hx360_2)
               replace p360 := eq_true p360
               replace q360 := eq_true q360
               have q95 : (1 : Int) ≤ ((t341.length : Int) : Int) := of_decide_eq_true za
               obtain ⟨i095, hi095, _, hsz95, _⟩ := info_parts info36
               have hroom95 : t341.length ≤ co15 := (Kd.R_reads' HO_346000.out).2.1
               have hC95 : Kd.C k36 _ (some ad360) t341.length t341 := (Kd.R_reads' HO_346000.out).2.2
               have hcut95 := cut_from (P := Try.prog) 23 36 .i64 Try.underlying23 hi095 3 hsz95 (some ad360) t341.length co15 1 (by omega) q95
               have hr95 := Kd.C_drop (m := (1 : Int).toNat) (c := co15) hC95 (by omega) hroom95
               obtain ⟨A95, hA95⟩ : ∃ A1, A1 = (if co15 = (1 : Int).toNat then (some ad360) else ((some ad360) : Option Addr).map (·.add ((1 : Int).toNat * 3))) := ⟨_, rfl⟩
               obtain ⟨c95, hc95⟩ : ∃ c1, c1 = co15 - (1 : Int).toNat := ⟨_, rfl⟩
               have hy95 : y361.length = t341.length - (1 : Int).toNat := (by rw [Ny361.out, List.length_drop] <;> omega)
               rw [show (t341).drop (1 : Int).toNat = y361 from Ny361.out.symm] at hr95
               replace hr95 : Kd.C k36 _ A95 y361.length y361 := (by rw [hA95]; exact hr95)
               rw [← hy95, ← hA95, ← hc95] at hcut95
               have HR364 := Aside0.mk hr95
               have HC364 := Aside0.mk (show y361.length ≤ c95 from by rw [hy95, hc95]; exact Nat.sub_le_sub_right hroom95 _)
               clear hr95 hC95 hroom95 hi095 hsz95 hc95
               have KY95 := Aside0.mk hy95
               have KA95 := Aside0.mk hA95
               clear hy95 hA95
               have KL95 := Aside0.mk (show 1 ≤ t341.length from by omega)
               replace q95 := eq_true q95
               have q96 : ((ji86) : Int) ≤ ((t332.length : Int) : Int) := of_decide_eq_true za
               obtain ⟨i096, hi096, _, hsz96, _⟩ := info_parts info36
               have hroom96 : t332.length ≤ co9 := (Kd.R_reads' HO_340000.out).2.1
               have hC96 : Kd.C k36 _ Ao9 t332.length t332 := (Kd.R_reads' HO_340000.out).2.2
               have hcut96 := cut_to (P := Try.prog) 23 36 .i64 Try.underlying23 hi096 Ao9 t332.length co9 (ji86) (of_decide_eq_true za) q96 hroom96
               have hr96 := Kd.C_take (m := ((ji86) : Int).toNat) hC96 (by omega)
               have hy96 : y365.length = ((ji86) : Int).toNat := (by rw [Ny365.out, List.length_take]; omega)
               rw [← Ny365.out] at hr96
               rw [← hy96] at hcut96
               have HR368 := Aside0.mk hr96
               have HC368 := Aside0.mk (show y365.length ≤ co9 from by omega)
               clear hr96 hC96 hroom96 hi096 hsz96
               have KY96 := Aside0.mk hy96
               clear hy96
               have KL96 := Aside0.mk (show ((ji86) : Int).toNat ≤ t332.length from by omega)
               replace q96 := eq_true q96
               refine start_ (n := 34) (S := fun w' => w'.cell? ⟨gb345, 0, none⟩ = some (.slice (some ad360) t341.length co15) ∧ w'.cell? ⟨gb345, 1, none⟩ = some (.int .i64 t344) ∧ w'.cell? ⟨gb359, 0, none⟩ = some (.string t336) ∧ w'.cell? ⟨gb359, 1, none⟩ = some (.string t337) ∧ w'.cell? ⟨gb359, 2, none⟩ = some (.bool false) ∧ w'.cell? ⟨gb339, 0, none⟩ = some (.slice Ao9 t332.length co9) ∧ w'.cell? ⟨gb339, 1, none⟩ = some (.int .i64 t335) ∧ w'.cell? ad360 = some (.string ((rd_T36 t341 0).f0)) ∧ w'.cell? ⟨ad360.block, ad360.off + 1, none⟩ = some (.string ((rd_T36 t341 0).f1)) ∧ w'.cell? ⟨ad360.block, ad360.off + 2, none⟩ = some (.bool ((rd_T36 t341 0).f2))) (ds := []) #[false, false, false, false, false, false, false, false, false, false, false, false, false, false, false, false, false, false, false, false, false, false, false, false, false, false, false, false, false, false, false, false, false, false] (by kernel_rfl) rfl rfl ⟨(blk_cell BK345.out 0).trans rfl, (blk_cell BK345.out 1).trans rfl, (blk_cell BK359.out 0).trans rfl, (blk_cell BK359.out 1).trans rfl, (blk_cell BK359.out 2).trans rfl, (blk_cell BK339.out 0).trans rfl, (blk_cell BK339.out 1).trans rfl, hx360_0, hx360_1, hx360_2⟩ (fun hHeld => ?_); refine with_tabW laws_FnTableAdd.tab12 laws_FnTableAdd.bits12 (fun HT_ HW_ => ?_)
               generalize w93.drew = w94 at HO_340000 HO_346000 BK339 BK340 BK345 BK359 HB HR364 HR368 hx360_0 hx360_1 hx360_2 hHeld ⊢
               refine pu 0 (some 61) (bm 34 1) rfl rfl ?_
               refine pu 1 (some 62) (bm 34 3) rfl rfl ?_
               refine pu 2 (some 63) (bm 34 7) rfl rfl ?_
               refine pu 3 (some 64) (bm 34 15) rfl rfl ?_
               refine tk10 4 (some 65) (bm 34 31) rfl rfl hHeld ?_
               refine pu 5 (some 66) (bm 34 63) rfl rfl ?_
               refine tk10 6 (some 67) (bm 34 127) rfl rfl hHeld ?_
               refine tk10 7 (some 68) (bm 34 255) rfl rfl hHeld ?_
               refine pu 8 (some 69) (bm 34 511) rfl rfl ?_
               refine pu 9 (some 70) (bm 34 1023) rfl rfl ?_
               refine pu 10 (some 71) (bm 34 2047) rfl rfl ?_
               refine pu 11 (some 72) (bm 34 4095) rfl rfl ?_
               refine pu 14 (some 75) (bm 34 20479) rfl rfl ?_
               refine pu 16 (some 77) (bm 34 86015) rfl rfl ?_
               refine pu 17 (some 78) (bm 34 217087) rfl rfl ?_
               refine tk10 12 (some 73) (bm 34 221183) rfl rfl hHeld ?_
               refine pu 13 (some 74) (bm 34 229375) rfl rfl ?_
               refine tk10 15 (some 76) (bm 34 262143) rfl rfl hHeld ?_
               refine pu 18 (some 79) (bm 34 524287) rfl rfl ?_
               refine one_ (i := 19) (N := some 80) (bm 34 1048575) rfl rfl (one_of HT_.out (by kernel_rfl)) (by decide) (fun K hK => ?_)
               refine gs Try.func20 #[.slice A95 y361.length c95, .slice Ao9 y365.length co9] ?_
               with_reducible refine (laws_lkFields.calls kj4 _ _ y361 _ _ y365 true _ ?side1 ?side2 ?side3 ?side4 A89.out).mono ?_
               (case side1 => exact zc HR364.out)
               (case side2 => exact HC364.out)
               (case side3 => exact zc HR368.out)
               (case side4 => exact HC368.out)
               rintro e w' ⟨rfl, ⟨nd, rfl⟩⟩
               refine ⟨_, rfl, ?_⟩
               refine hK.out _ _ ⟨(blk_cell BK345.out 0).trans rfl, (blk_cell BK345.out 1).trans rfl, (blk_cell BK359.out 0).trans rfl, (blk_cell BK359.out 1).trans rfl, (blk_cell BK359.out 2).trans rfl, (blk_cell BK339.out 0).trans rfl, (blk_cell BK339.out 1).trans rfl, hHeld.2.2.2.2.2.2.2.1, hHeld.2.2.2.2.2.2.2.2.1, hHeld.2.2.2.2.2.2.2.2.2⟩ (fun hHeld => ?_)
               clear hK K
               refine nm ?_
               refine pu 20 (some 81) (bm 34 2097151) rfl rfl ?_
               refine pu 21 (some 82) (bm 34 4194303) rfl rfl ?_
               refine pu 22 (some 83) (bm 34 8388607) rfl rfl ?_
               refine tk10 23 (some 84) (bm 34 16777215) rfl rfl hHeld ?_
               refine one_ (i := 24) (N := some 85) (bm 34 33554431) rfl rfl (one_of HT_.out (by kernel_rfl)) (by decide) (fun K hK => ?_)
               refine gs Try.func21 #[.agg #[.slice (some ad360) t341.length co15, .int .i64 t344]] ?_
               with_reducible refine (impl_TableOk.calls kj4 _ _ t341 t344 true _ ?side1 ?side2 A91.out).mono ?_
               (case side1 => exact zc (Kd.R_reads' HO_346000.out).2.2)
               (case side2 => exact (Kd.R_reads' HO_346000.out).2.1)
               rintro e w97 ⟨rfl, hb⟩
               have HS7_ := (hb.cell (World.block_lt_of_cell? _ _ (hHeld.2.2.2.2.2.2.2.1))).trans (hHeld.2.2.2.2.2.2.2.1)
               have HS8_ := (hb.cell (World.block_lt_of_cell? _ _ (hHeld.2.2.2.2.2.2.2.2.1))).trans (hHeld.2.2.2.2.2.2.2.2.1)
               have HS9_ := (hb.cell (World.block_lt_of_cell? _ _ (hHeld.2.2.2.2.2.2.2.2.2))).trans (hHeld.2.2.2.2.2.2.2.2.2)
               refine ⟨_, rfl, ?_⟩
               replace HO_340000 := Aside0.mk (Kd.R_below (zr HO_340000) hb)
               replace HO_346000 := Aside0.mk (Kd.R_below (zr HO_346000) hb)
               replace BK339 := Aside0.mk (blk_below (g := gb339) (o := .cells #[.slice Ao9 t332.length co9, .int .i64 t335] 25 (0, 0)) (zk BK339) hb)
               replace BK340 := Aside0.mk (blk_below (g := gb340) (o := .cells #[.string t336, .string t337, .bool t338] 36 (0, 0)) (zk BK340) hb)
               replace BK345 := Aside0.mk (blk_below (g := gb345) (o := .cells #[.slice (some ad360) t341.length co15, .int .i64 t344] 25 (0, 0)) (zk BK345) hb)
               replace BK359 := Aside0.mk (blk_below (g := gb359) (o := .cells #[.string t336, .string t337, .bool false] 36 (0, 0)) (zk BK359) hb)
               replace HR364 := Aside0.mk (Kd.C_below (zc HR364.out) hb)
               replace HR368 := Aside0.mk (Kd.C_below (zc HR368.out) hb)
               replace HB := Aside0.mk (below_step (zb HB) hb)
               (try clear hb)
               refine hK.out _ _ ⟨(blk_cell BK345.out 0).trans rfl, (blk_cell BK345.out 1).trans rfl, (blk_cell BK359.out 0).trans rfl, (blk_cell BK359.out 1).trans rfl, (blk_cell BK359.out 2).trans rfl, (blk_cell BK339.out 0).trans rfl, (blk_cell BK339.out 1).trans rfl, HS7_, HS8_, HS9_⟩ (fun hHeld => ?_)
               clear hK K
               refine nm ?_
               refine pu 25 (some 86) (bm 34 67108863) rfl rfl ?_
               refine pu 26 (some 87) (bm 34 134217727) rfl rfl ?_
               refine pu 27 (some 88) (bm 34 268435455) rfl rfl ?_
               refine pu 28 (some 89) (bm 34 536870911) rfl rfl ?_
               refine pu 30 (some 91) (bm 34 1610612735) rfl rfl ?_
               refine tk10 29 (some 90) (bm 34 2147483647) rfl rfl hHeld ?_
               refine tk10 31 (some 92) (bm 34 4294967295) rfl rfl hHeld ?_
               refine pu 32 (some 93) (bm 34 8589934591) rfl rfl ?_
               refine pu 33 (some 94) (bm 34 17179869183) rfl rfl ?_
               refine done_ (done_of HT_.out (by kernel_rfl)) ?_
               try go_wp2
               go_meet
               case rel => exact ⟨_, ((t344 != t335)), zs, H', ⟨by have := HJ4.out; first | omega | exact Nat.le_refl _⟩, ⟨by exact zr HO_340000⟩, ⟨by exact zr HO_346000⟩, ⟨by exact zk BK339⟩, ⟨by exact zk BK340⟩, ⟨by exact zk BK345⟩, ⟨by exact zk BK359⟩, ⟨zb HB⟩⟩
              ·replace c92 := Bool.eq_false_iff.mpr c92
               subst c92
               have H1 : (laws_FnTableAdd.j1 kj4 (t341.length : Int) true t332 t335 t341 t344) = some r := by rw [if_neg (show ¬ (false = true) by decide)] at H; exact H
               clear H
               have H := H1
               clear H1
               have H' := Aside0.mk H
               clear H
               try go_wp2
               have n0_ : Aside0 (Kd.R k36 36 ((((w73.setCell ⟨gb359, 0, none⟩ (.string t336)).setCell ⟨gb359, 1, none⟩ (.string t337)).setCell ⟨gb359, 2, none⟩ (.bool t338)).setCell ⟨gb359, 2, none⟩ (.bool false)) w.heap.size (fun k_ => some k_ ≠ (.slice Ao15 t341.length co15 : Value).ownBlock ∧ k_ ≠ gb340 ∧ k_ ≠ gb359) (.slice Ao9 t332.length co9) t332) := ⟨by (with_reducible repeat (first | apply Kd.R_alloc | apply Kd.R_drewN | apply Kd.R_drew)); exact Kd.R_mono (Kd.R_far (p := ⟨gb359, 2, none⟩) (Kd.R_far (p := ⟨gb359, 2, none⟩) (Kd.R_far (p := ⟨gb359, 1, none⟩) (Kd.R_far (p := ⟨gb359, 0, none⟩) (Kd.R_mono HO_340000.out (fun k_ hk => (⟨hk, hk.2⟩ : _ ∧ k_ ≠ gb359))) (fun _ hk => hk.2) (.string t336)) (fun _ hk => hk.2) (.string t337)) (fun _ hk => hk.2) (.bool t338)) (fun _ hk => hk.2) (.bool false)) (fun _ hk => ⟨hk.1.1.1, ⟨hk.1.1.2, hk.1.2⟩⟩)⟩
               have n1_ : Aside0 (Kd.R k36 36 ((((w73.setCell ⟨gb359, 0, none⟩ (.string t336)).setCell ⟨gb359, 1, none⟩ (.string t337)).setCell ⟨gb359, 2, none⟩ (.bool t338)).setCell ⟨gb359, 2, none⟩ (.bool false)) w.heap.size (fun k_ => some k_ ≠ (.slice Ao9 t332.length co9 : Value).ownBlock ∧ k_ ≠ gb340 ∧ k_ ≠ gb359) (.slice Ao15 t341.length co15) t341) := ⟨by (with_reducible repeat (first | apply Kd.R_alloc | apply Kd.R_drewN | apply Kd.R_drew)); exact Kd.R_mono (Kd.R_far (p := ⟨gb359, 2, none⟩) (Kd.R_far (p := ⟨gb359, 2, none⟩) (Kd.R_far (p := ⟨gb359, 1, none⟩) (Kd.R_far (p := ⟨gb359, 0, none⟩) (Kd.R_mono HO_346000.out (fun k_ hk => (⟨hk, hk.2⟩ : _ ∧ k_ ≠ gb359))) (fun _ hk => hk.2) (.string t336)) (fun _ hk => hk.2) (.string t337)) (fun _ hk => hk.2) (.bool t338)) (fun _ hk => hk.2) (.bool false)) (fun _ hk => ⟨hk.1.1.1, ⟨hk.1.1.2, hk.1.2⟩⟩)⟩
               have n2_ : Aside0 (((((w73.setCell ⟨gb359, 0, none⟩ (.string t336)).setCell ⟨gb359, 1, none⟩ (.string t337)).setCell ⟨gb359, 2, none⟩ (.bool t338)).setCell ⟨gb359, 2, none⟩ (.bool false)).heap[gb339]? = some (.cells #[.slice Ao9 t332.length co9, .int .i64 t335] 25 (0, 0))) := ⟨by (with_reducible repeat (first | refine blk_drewN ?_ _ | refine blk_drew ?_ | refine blk_alloc ?_ _)); refine blk_far ?_ NB339_359.out _; (with_reducible repeat (first | refine blk_drewN ?_ _ | refine blk_drew ?_ | refine blk_alloc ?_ _)); refine blk_far ?_ NB339_359.out _; (with_reducible repeat (first | refine blk_drewN ?_ _ | refine blk_drew ?_ | refine blk_alloc ?_ _)); refine blk_far ?_ NB339_359.out _; (with_reducible repeat (first | refine blk_drewN ?_ _ | refine blk_drew ?_ | refine blk_alloc ?_ _)); refine blk_far ?_ NB339_359.out _; exact zk BK339⟩
               have n3_ : Aside0 (((((w73.setCell ⟨gb359, 0, none⟩ (.string t336)).setCell ⟨gb359, 1, none⟩ (.string t337)).setCell ⟨gb359, 2, none⟩ (.bool t338)).setCell ⟨gb359, 2, none⟩ (.bool false)).heap[gb340]? = some (.cells #[.string t336, .string t337, .bool t338] 36 (0, 0))) := ⟨by (with_reducible repeat (first | refine blk_drewN ?_ _ | refine blk_drew ?_ | refine blk_alloc ?_ _)); refine blk_far ?_ NB340_359.out _; (with_reducible repeat (first | refine blk_drewN ?_ _ | refine blk_drew ?_ | refine blk_alloc ?_ _)); refine blk_far ?_ NB340_359.out _; (with_reducible repeat (first | refine blk_drewN ?_ _ | refine blk_drew ?_ | refine blk_alloc ?_ _)); refine blk_far ?_ NB340_359.out _; (with_reducible repeat (first | refine blk_drewN ?_ _ | refine blk_drew ?_ | refine blk_alloc ?_ _)); refine blk_far ?_ NB340_359.out _; exact zk BK340⟩
               have n4_ : Aside0 (((((w73.setCell ⟨gb359, 0, none⟩ (.string t336)).setCell ⟨gb359, 1, none⟩ (.string t337)).setCell ⟨gb359, 2, none⟩ (.bool t338)).setCell ⟨gb359, 2, none⟩ (.bool false)).heap[gb345]? = some (.cells #[.slice Ao15 t341.length co15, .int .i64 t344] 25 (0, 0))) := ⟨by (with_reducible repeat (first | refine blk_drewN ?_ _ | refine blk_drew ?_ | refine blk_alloc ?_ _)); refine blk_far ?_ NB345_359.out _; (with_reducible repeat (first | refine blk_drewN ?_ _ | refine blk_drew ?_ | refine blk_alloc ?_ _)); refine blk_far ?_ NB345_359.out _; (with_reducible repeat (first | refine blk_drewN ?_ _ | refine blk_drew ?_ | refine blk_alloc ?_ _)); refine blk_far ?_ NB345_359.out _; (with_reducible repeat (first | refine blk_drewN ?_ _ | refine blk_drew ?_ | refine blk_alloc ?_ _)); refine blk_far ?_ NB345_359.out _; exact zk BK345⟩
               have n5_ : Aside0 (((((w73.setCell ⟨gb359, 0, none⟩ (.string t336)).setCell ⟨gb359, 1, none⟩ (.string t337)).setCell ⟨gb359, 2, none⟩ (.bool t338)).setCell ⟨gb359, 2, none⟩ (.bool false)).heap[gb359]? = some (.cells #[.string t336, .string t337, .bool false] 36 (0, 0))) := ⟨by (with_reducible repeat (first | refine blk_drewN ?_ _ | refine blk_drew ?_ | refine blk_alloc ?_ _)); refine blk_put (cs := #[.string t336, .string t337, .bool t338]) ?_ 2 _ rfl; (with_reducible repeat (first | refine blk_drewN ?_ _ | refine blk_drew ?_ | refine blk_alloc ?_ _)); refine blk_put (cs := #[.string t336, .string t337, .bool false]) ?_ 2 _ rfl; (with_reducible repeat (first | refine blk_drewN ?_ _ | refine blk_drew ?_ | refine blk_alloc ?_ _)); refine blk_put (cs := #[.string t336, .string (⟨#[]⟩ : ByteArray), .bool false]) ?_ 1 _ rfl; (with_reducible repeat (first | refine blk_drewN ?_ _ | refine blk_drew ?_ | refine blk_alloc ?_ _)); refine blk_put (cs := #[.string (⟨#[]⟩ : ByteArray), .string (⟨#[]⟩ : ByteArray), .bool false]) ?_ 0 _ rfl; exact zk BK359⟩
               have n6_ : Aside0 (Below w.heap.size w ((((w73.setCell ⟨gb359, 0, none⟩ (.string t336)).setCell ⟨gb359, 1, none⟩ (.string t337)).setCell ⟨gb359, 2, none⟩ (.bool t338)).setCell ⟨gb359, 2, none⟩ (.bool false))) := ⟨zb HB⟩
               (try clear HO_340000)
               (try clear HO_346000)
               (try clear BK339)
               (try clear BK340)
               (try clear BK345)
               (try clear BK359)
               (try clear HB)
               generalize ((((w73.setCell ⟨gb359, 0, none⟩ (.string t336)).setCell ⟨gb359, 1, none⟩ (.string t337)).setCell ⟨gb359, 2, none⟩ (.bool t338)).setCell ⟨gb359, 2, none⟩ (.bool false)) = w98 at n0_ n1_ n2_ n3_ n4_ n5_ n6_ ⊢
               have HO_340000 := n0_
               have HO_346000 := n1_
               have BK339 := n2_
               have BK340 := n3_
               have BK345 := n4_
               have BK359 := n5_
               have HB := n6_
               clear n0_ n1_ n2_ n3_ n4_ n5_ n6_
               replace HO_340000 := Aside0.mk (Kd.R_drew HO_340000.out)
               replace HO_346000 := Aside0.mk (Kd.R_drew HO_346000.out)
               replace BK339 := Aside0.mk (blk_drew BK339.out)
               replace BK340 := Aside0.mk (blk_drew BK340.out)
               replace BK345 := Aside0.mk (blk_drew BK345.out)
               replace BK359 := Aside0.mk (blk_drew BK359.out)
               replace HB := Aside0.mk (below_drew1 HB.out)
               have p360 : 0 ≤ (0 : Int) := (by omega)
               have q360 : 0 < (t341.length : Int) := of_decide_eq_true za
               obtain ⟨ad360, e360, hx360_0, hx360_1, hx360_2⟩ := at_T36 (Kd.R_reads' HO_346000.out).2.2 0 p360 q360
               cases e360
               have qi360 : (0 < t341.length) = True := eq_true (by omega)
               (try rw [show ((0 : Int)).toNat = 0 from rfl] at hx360_0)
               (try rw [show 0 * 3 = 0 from rfl] at hx360_0)
               (try rw [Addr.add_zero'] at hx360_0)
               (try rw [show ((0 : Int)).toNat = 0 from rfl] at hx360_1)
               (try rw [show 0 * 3 = 0 from rfl] at hx360_1)
               (try rw [Addr.add_zero'] at hx360_1)
               (try rw [show ((0 : Int)).toNat = 0 from rfl] at hx360_2)
               (try rw [show 0 * 3 = 0 from rfl] at hx360_2)
               (try rw [Addr.add_zero'] at hx360_2)
               replace p360 := eq_true p360
               replace q360 := eq_true q360
               have q100 : (1 : Int) ≤ ((t341.length : Int) : Int) := of_decide_eq_true za
               obtain ⟨i0100, hi0100, _, hsz100, _⟩ := info_parts info36
               have hroom100 : t341.length ≤ co15 := (Kd.R_reads' HO_346000.out).2.1
               have hC100 : Kd.C k36 _ (some ad360) t341.length t341 := (Kd.R_reads' HO_346000.out).2.2
               have hcut100 := cut_from (P := Try.prog) 23 36 .i64 Try.underlying23 hi0100 3 hsz100 (some ad360) t341.length co15 1 (by omega) q100
               have hr100 := Kd.C_drop (m := (1 : Int).toNat) (c := co15) hC100 (by omega) hroom100
               obtain ⟨A100, hA100⟩ : ∃ A1, A1 = (if co15 = (1 : Int).toNat then (some ad360) else ((some ad360) : Option Addr).map (·.add ((1 : Int).toNat * 3))) := ⟨_, rfl⟩
               obtain ⟨c100, hc100⟩ : ∃ c1, c1 = co15 - (1 : Int).toNat := ⟨_, rfl⟩
               have hy100 : y361.length = t341.length - (1 : Int).toNat := (by rw [Ny361.out, List.length_drop] <;> omega)
               rw [show (t341).drop (1 : Int).toNat = y361 from Ny361.out.symm] at hr100
               replace hr100 : Kd.C k36 _ A100 y361.length y361 := (by rw [hA100]; exact hr100)
               rw [← hy100, ← hA100, ← hc100] at hcut100
               have HR364 := Aside0.mk hr100
               have HC364 := Aside0.mk (show y361.length ≤ c100 from by rw [hy100, hc100]; exact Nat.sub_le_sub_right hroom100 _)
               clear hr100 hC100 hroom100 hi0100 hsz100 hc100
               have KY100 := Aside0.mk hy100
               have KA100 := Aside0.mk hA100
               clear hy100 hA100
               have KL100 := Aside0.mk (show 1 ≤ t341.length from by omega)
               replace q100 := eq_true q100
               have q101 : ((ji86) : Int) ≤ ((t332.length : Int) : Int) := of_decide_eq_true za
               obtain ⟨i0101, hi0101, _, hsz101, _⟩ := info_parts info36
               have hroom101 : t332.length ≤ co9 := (Kd.R_reads' HO_340000.out).2.1
               have hC101 : Kd.C k36 _ Ao9 t332.length t332 := (Kd.R_reads' HO_340000.out).2.2
               have hcut101 := cut_to (P := Try.prog) 23 36 .i64 Try.underlying23 hi0101 Ao9 t332.length co9 (ji86) (of_decide_eq_true za) q101 hroom101
               have hr101 := Kd.C_take (m := ((ji86) : Int).toNat) hC101 (by omega)
               have hy101 : y365.length = ((ji86) : Int).toNat := (by rw [Ny365.out, List.length_take]; omega)
               rw [← Ny365.out] at hr101
               rw [← hy101] at hcut101
               have HR368 := Aside0.mk hr101
               have HC368 := Aside0.mk (show y365.length ≤ co9 from by omega)
               clear hr101 hC101 hroom101 hi0101 hsz101
               have KY101 := Aside0.mk hy101
               clear hy101
               have KL101 := Aside0.mk (show ((ji86) : Int).toNat ≤ t332.length from by omega)
               replace q101 := eq_true q101
               refine start_ (n := 34) (S := fun w' => w'.cell? ⟨gb345, 0, none⟩ = some (.slice (some ad360) t341.length co15) ∧ w'.cell? ⟨gb345, 1, none⟩ = some (.int .i64 t344) ∧ w'.cell? ⟨gb359, 0, none⟩ = some (.string t336) ∧ w'.cell? ⟨gb359, 1, none⟩ = some (.string t337) ∧ w'.cell? ⟨gb359, 2, none⟩ = some (.bool false) ∧ w'.cell? ⟨gb339, 0, none⟩ = some (.slice Ao9 t332.length co9) ∧ w'.cell? ⟨gb339, 1, none⟩ = some (.int .i64 t335) ∧ w'.cell? ad360 = some (.string ((rd_T36 t341 0).f0)) ∧ w'.cell? ⟨ad360.block, ad360.off + 1, none⟩ = some (.string ((rd_T36 t341 0).f1)) ∧ w'.cell? ⟨ad360.block, ad360.off + 2, none⟩ = some (.bool ((rd_T36 t341 0).f2))) (ds := []) #[false, false, false, false, false, false, false, false, false, false, false, false, false, false, false, false, false, false, false, false, false, false, false, false, false, false, false, false, false, false, false, false, false, false] (by kernel_rfl) rfl rfl ⟨(blk_cell BK345.out 0).trans rfl, (blk_cell BK345.out 1).trans rfl, (blk_cell BK359.out 0).trans rfl, (blk_cell BK359.out 1).trans rfl, (blk_cell BK359.out 2).trans rfl, (blk_cell BK339.out 0).trans rfl, (blk_cell BK339.out 1).trans rfl, hx360_0, hx360_1, hx360_2⟩ (fun hHeld => ?_); refine with_tabW laws_FnTableAdd.tab12 laws_FnTableAdd.bits12 (fun HT_ HW_ => ?_)
               generalize w98.drew = w99 at HO_340000 HO_346000 BK339 BK340 BK345 BK359 HB HR364 HR368 hx360_0 hx360_1 hx360_2 hHeld ⊢
               refine pu 0 (some 61) (bm 34 1) rfl rfl ?_
               refine pu 1 (some 62) (bm 34 3) rfl rfl ?_
               refine pu 2 (some 63) (bm 34 7) rfl rfl ?_
               refine pu 3 (some 64) (bm 34 15) rfl rfl ?_
               refine tk10 4 (some 65) (bm 34 31) rfl rfl hHeld ?_
               refine pu 5 (some 66) (bm 34 63) rfl rfl ?_
               refine tk10 6 (some 67) (bm 34 127) rfl rfl hHeld ?_
               refine tk10 7 (some 68) (bm 34 255) rfl rfl hHeld ?_
               refine pu 8 (some 69) (bm 34 511) rfl rfl ?_
               refine pu 9 (some 70) (bm 34 1023) rfl rfl ?_
               refine pu 10 (some 71) (bm 34 2047) rfl rfl ?_
               refine pu 11 (some 72) (bm 34 4095) rfl rfl ?_
               refine pu 14 (some 75) (bm 34 20479) rfl rfl ?_
               refine pu 16 (some 77) (bm 34 86015) rfl rfl ?_
               refine pu 17 (some 78) (bm 34 217087) rfl rfl ?_
               refine tk10 12 (some 73) (bm 34 221183) rfl rfl hHeld ?_
               refine pu 13 (some 74) (bm 34 229375) rfl rfl ?_
               refine tk10 15 (some 76) (bm 34 262143) rfl rfl hHeld ?_
               refine pu 18 (some 79) (bm 34 524287) rfl rfl ?_
               refine one_ (i := 19) (N := some 80) (bm 34 1048575) rfl rfl (one_of HT_.out (by kernel_rfl)) (by decide) (fun K hK => ?_)
               refine gs Try.func20 #[.slice A100 y361.length c100, .slice Ao9 y365.length co9] ?_
               with_reducible refine (laws_lkFields.calls kj4 _ _ y361 _ _ y365 true _ ?side1 ?side2 ?side3 ?side4 A89.out).mono ?_
               (case side1 => exact zc HR364.out)
               (case side2 => exact HC364.out)
               (case side3 => exact zc HR368.out)
               (case side4 => exact HC368.out)
               rintro e w' ⟨rfl, ⟨nd, rfl⟩⟩
               refine ⟨_, rfl, ?_⟩
               refine hK.out _ _ ⟨(blk_cell BK345.out 0).trans rfl, (blk_cell BK345.out 1).trans rfl, (blk_cell BK359.out 0).trans rfl, (blk_cell BK359.out 1).trans rfl, (blk_cell BK359.out 2).trans rfl, (blk_cell BK339.out 0).trans rfl, (blk_cell BK339.out 1).trans rfl, hHeld.2.2.2.2.2.2.2.1, hHeld.2.2.2.2.2.2.2.2.1, hHeld.2.2.2.2.2.2.2.2.2⟩ (fun hHeld => ?_)
               clear hK K
               refine nm ?_
               refine pu 20 (some 81) (bm 34 2097151) rfl rfl ?_
               refine pu 21 (some 82) (bm 34 4194303) rfl rfl ?_
               refine pu 22 (some 83) (bm 34 8388607) rfl rfl ?_
               refine tk10 23 (some 84) (bm 34 16777215) rfl rfl hHeld ?_
               refine one_ (i := 24) (N := some 85) (bm 34 33554431) rfl rfl (one_of HT_.out (by kernel_rfl)) (by decide) (fun K hK => ?_)
               refine gs Try.func21 #[.agg #[.slice (some ad360) t341.length co15, .int .i64 t344]] ?_
               with_reducible refine (impl_TableOk.calls kj4 _ _ t341 t344 false _ ?side1 ?side2 A91.out).mono ?_
               (case side1 => exact zc (Kd.R_reads' HO_346000.out).2.2)
               (case side2 => exact (Kd.R_reads' HO_346000.out).2.1)
               rintro e w102 ⟨rfl, hb⟩
               have HS7_ := (hb.cell (World.block_lt_of_cell? _ _ (hHeld.2.2.2.2.2.2.2.1))).trans (hHeld.2.2.2.2.2.2.2.1)
               have HS8_ := (hb.cell (World.block_lt_of_cell? _ _ (hHeld.2.2.2.2.2.2.2.2.1))).trans (hHeld.2.2.2.2.2.2.2.2.1)
               have HS9_ := (hb.cell (World.block_lt_of_cell? _ _ (hHeld.2.2.2.2.2.2.2.2.2))).trans (hHeld.2.2.2.2.2.2.2.2.2)
               refine ⟨_, rfl, ?_⟩
               replace HO_340000 := Aside0.mk (Kd.R_below (zr HO_340000) hb)
               replace HO_346000 := Aside0.mk (Kd.R_below (zr HO_346000) hb)
               replace BK339 := Aside0.mk (blk_below (g := gb339) (o := .cells #[.slice Ao9 t332.length co9, .int .i64 t335] 25 (0, 0)) (zk BK339) hb)
               replace BK340 := Aside0.mk (blk_below (g := gb340) (o := .cells #[.string t336, .string t337, .bool t338] 36 (0, 0)) (zk BK340) hb)
               replace BK345 := Aside0.mk (blk_below (g := gb345) (o := .cells #[.slice (some ad360) t341.length co15, .int .i64 t344] 25 (0, 0)) (zk BK345) hb)
               replace BK359 := Aside0.mk (blk_below (g := gb359) (o := .cells #[.string t336, .string t337, .bool false] 36 (0, 0)) (zk BK359) hb)
               replace HR364 := Aside0.mk (Kd.C_below (zc HR364.out) hb)
               replace HR368 := Aside0.mk (Kd.C_below (zc HR368.out) hb)
               replace HB := Aside0.mk (below_step (zb HB) hb)
               (try clear hb)
               refine hK.out _ _ ⟨(blk_cell BK345.out 0).trans rfl, (blk_cell BK345.out 1).trans rfl, (blk_cell BK359.out 0).trans rfl, (blk_cell BK359.out 1).trans rfl, (blk_cell BK359.out 2).trans rfl, (blk_cell BK339.out 0).trans rfl, (blk_cell BK339.out 1).trans rfl, HS7_, HS8_, HS9_⟩ (fun hHeld => ?_)
               clear hK K
               refine nm ?_
               refine pu 25 (some 86) (bm 34 67108863) rfl rfl ?_
               refine pu 26 (some 87) (bm 34 134217727) rfl rfl ?_
               refine pu 27 (some 88) (bm 34 268435455) rfl rfl ?_
               refine pv 28 (some 89) (bm 34 536870911) rfl rfl ?_
               refine pv 29 (some 90) (bm 34 1073741823) rfl rfl ?_
               refine pv 30 (some 91) (bm 34 2147483647) rfl rfl ?_
               refine pv 31 (some 92) (bm 34 4294967295) rfl rfl ?_
               refine pv 32 (some 93) (bm 34 8589934591) rfl rfl ?_
               refine pu 33 (some 94) (bm 34 17179869183) rfl rfl ?_
               refine done_ (done_of HT_.out (by kernel_rfl)) ?_
               try go_wp2
               go_meet
               case rel => exact ⟨_, (true), zs, H', ⟨by have := HJ4.out; first | omega | exact Nat.le_refl _⟩, ⟨by exact zr HO_340000⟩, ⟨by exact zr HO_346000⟩, ⟨by exact zk BK339⟩, ⟨by exact zk BK340⟩, ⟨by exact zk BK345⟩, ⟨by exact zk BK359⟩, ⟨zb HB⟩⟩
             ·replace c90 := Bool.eq_false_iff.mpr c90
              subst c90
              have H1 : (laws_FnTableAdd.j1 kj4 (t341.length : Int) true t332 t335 t341 t344) = some r := by rw [if_neg (show ¬ (false = true) by decide)] at H; exact H
              clear H
              have H := H1
              clear H1
              have H' := Aside0.mk H
              clear H
              try go_wp2
              have n0_ : Aside0 (Kd.R k36 36 ((((w73.setCell ⟨gb359, 0, none⟩ (.string t336)).setCell ⟨gb359, 1, none⟩ (.string t337)).setCell ⟨gb359, 2, none⟩ (.bool t338)).setCell ⟨gb359, 2, none⟩ (.bool false)) w.heap.size (fun k_ => some k_ ≠ (.slice Ao15 t341.length co15 : Value).ownBlock ∧ k_ ≠ gb340 ∧ k_ ≠ gb359) (.slice Ao9 t332.length co9) t332) := ⟨by (with_reducible repeat (first | apply Kd.R_alloc | apply Kd.R_drewN | apply Kd.R_drew)); exact Kd.R_mono (Kd.R_far (p := ⟨gb359, 2, none⟩) (Kd.R_far (p := ⟨gb359, 2, none⟩) (Kd.R_far (p := ⟨gb359, 1, none⟩) (Kd.R_far (p := ⟨gb359, 0, none⟩) (Kd.R_mono HO_340000.out (fun k_ hk => (⟨hk, hk.2⟩ : _ ∧ k_ ≠ gb359))) (fun _ hk => hk.2) (.string t336)) (fun _ hk => hk.2) (.string t337)) (fun _ hk => hk.2) (.bool t338)) (fun _ hk => hk.2) (.bool false)) (fun _ hk => ⟨hk.1.1.1, ⟨hk.1.1.2, hk.1.2⟩⟩)⟩
              have n1_ : Aside0 (Kd.R k36 36 ((((w73.setCell ⟨gb359, 0, none⟩ (.string t336)).setCell ⟨gb359, 1, none⟩ (.string t337)).setCell ⟨gb359, 2, none⟩ (.bool t338)).setCell ⟨gb359, 2, none⟩ (.bool false)) w.heap.size (fun k_ => some k_ ≠ (.slice Ao9 t332.length co9 : Value).ownBlock ∧ k_ ≠ gb340 ∧ k_ ≠ gb359) (.slice Ao15 t341.length co15) t341) := ⟨by (with_reducible repeat (first | apply Kd.R_alloc | apply Kd.R_drewN | apply Kd.R_drew)); exact Kd.R_mono (Kd.R_far (p := ⟨gb359, 2, none⟩) (Kd.R_far (p := ⟨gb359, 2, none⟩) (Kd.R_far (p := ⟨gb359, 1, none⟩) (Kd.R_far (p := ⟨gb359, 0, none⟩) (Kd.R_mono HO_346000.out (fun k_ hk => (⟨hk, hk.2⟩ : _ ∧ k_ ≠ gb359))) (fun _ hk => hk.2) (.string t336)) (fun _ hk => hk.2) (.string t337)) (fun _ hk => hk.2) (.bool t338)) (fun _ hk => hk.2) (.bool false)) (fun _ hk => ⟨hk.1.1.1, ⟨hk.1.1.2, hk.1.2⟩⟩)⟩
              have n2_ : Aside0 (((((w73.setCell ⟨gb359, 0, none⟩ (.string t336)).setCell ⟨gb359, 1, none⟩ (.string t337)).setCell ⟨gb359, 2, none⟩ (.bool t338)).setCell ⟨gb359, 2, none⟩ (.bool false)).heap[gb339]? = some (.cells #[.slice Ao9 t332.length co9, .int .i64 t335] 25 (0, 0))) := ⟨by (with_reducible repeat (first | refine blk_drewN ?_ _ | refine blk_drew ?_ | refine blk_alloc ?_ _)); refine blk_far ?_ NB339_359.out _; (with_reducible repeat (first | refine blk_drewN ?_ _ | refine blk_drew ?_ | refine blk_alloc ?_ _)); refine blk_far ?_ NB339_359.out _; (with_reducible repeat (first | refine blk_drewN ?_ _ | refine blk_drew ?_ | refine blk_alloc ?_ _)); refine blk_far ?_ NB339_359.out _; (with_reducible repeat (first | refine blk_drewN ?_ _ | refine blk_drew ?_ | refine blk_alloc ?_ _)); refine blk_far ?_ NB339_359.out _; exact zk BK339⟩
              have n3_ : Aside0 (((((w73.setCell ⟨gb359, 0, none⟩ (.string t336)).setCell ⟨gb359, 1, none⟩ (.string t337)).setCell ⟨gb359, 2, none⟩ (.bool t338)).setCell ⟨gb359, 2, none⟩ (.bool false)).heap[gb340]? = some (.cells #[.string t336, .string t337, .bool t338] 36 (0, 0))) := ⟨by (with_reducible repeat (first | refine blk_drewN ?_ _ | refine blk_drew ?_ | refine blk_alloc ?_ _)); refine blk_far ?_ NB340_359.out _; (with_reducible repeat (first | refine blk_drewN ?_ _ | refine blk_drew ?_ | refine blk_alloc ?_ _)); refine blk_far ?_ NB340_359.out _; (with_reducible repeat (first | refine blk_drewN ?_ _ | refine blk_drew ?_ | refine blk_alloc ?_ _)); refine blk_far ?_ NB340_359.out _; (with_reducible repeat (first | refine blk_drewN ?_ _ | refine blk_drew ?_ | refine blk_alloc ?_ _)); refine blk_far ?_ NB340_359.out _; exact zk BK340⟩
              have n4_ : Aside0 (((((w73.setCell ⟨gb359, 0, none⟩ (.string t336)).setCell ⟨gb359, 1, none⟩ (.string t337)).setCell ⟨gb359, 2, none⟩ (.bool t338)).setCell ⟨gb359, 2, none⟩ (.bool false)).heap[gb345]? = some (.cells #[.slice Ao15 t341.length co15, .int .i64 t344] 25 (0, 0))) := ⟨by (with_reducible repeat (first | refine blk_drewN ?_ _ | refine blk_drew ?_ | refine blk_alloc ?_ _)); refine blk_far ?_ NB345_359.out _; (with_reducible repeat (first | refine blk_drewN ?_ _ | refine blk_drew ?_ | refine blk_alloc ?_ _)); refine blk_far ?_ NB345_359.out _; (with_reducible repeat (first | refine blk_drewN ?_ _ | refine blk_drew ?_ | refine blk_alloc ?_ _)); refine blk_far ?_ NB345_359.out _; (with_reducible repeat (first | refine blk_drewN ?_ _ | refine blk_drew ?_ | refine blk_alloc ?_ _)); refine blk_far ?_ NB345_359.out _; exact zk BK345⟩
              have n5_ : Aside0 (((((w73.setCell ⟨gb359, 0, none⟩ (.string t336)).setCell ⟨gb359, 1, none⟩ (.string t337)).setCell ⟨gb359, 2, none⟩ (.bool t338)).setCell ⟨gb359, 2, none⟩ (.bool false)).heap[gb359]? = some (.cells #[.string t336, .string t337, .bool false] 36 (0, 0))) := ⟨by (with_reducible repeat (first | refine blk_drewN ?_ _ | refine blk_drew ?_ | refine blk_alloc ?_ _)); refine blk_put (cs := #[.string t336, .string t337, .bool t338]) ?_ 2 _ rfl; (with_reducible repeat (first | refine blk_drewN ?_ _ | refine blk_drew ?_ | refine blk_alloc ?_ _)); refine blk_put (cs := #[.string t336, .string t337, .bool false]) ?_ 2 _ rfl; (with_reducible repeat (first | refine blk_drewN ?_ _ | refine blk_drew ?_ | refine blk_alloc ?_ _)); refine blk_put (cs := #[.string t336, .string (⟨#[]⟩ : ByteArray), .bool false]) ?_ 1 _ rfl; (with_reducible repeat (first | refine blk_drewN ?_ _ | refine blk_drew ?_ | refine blk_alloc ?_ _)); refine blk_put (cs := #[.string (⟨#[]⟩ : ByteArray), .string (⟨#[]⟩ : ByteArray), .bool false]) ?_ 0 _ rfl; exact zk BK359⟩
              have n6_ : Aside0 (Below w.heap.size w ((((w73.setCell ⟨gb359, 0, none⟩ (.string t336)).setCell ⟨gb359, 1, none⟩ (.string t337)).setCell ⟨gb359, 2, none⟩ (.bool t338)).setCell ⟨gb359, 2, none⟩ (.bool false))) := ⟨zb HB⟩
              (try clear HO_340000)
              (try clear HO_346000)
              (try clear BK339)
              (try clear BK340)
              (try clear BK345)
              (try clear BK359)
              (try clear HB)
              generalize ((((w73.setCell ⟨gb359, 0, none⟩ (.string t336)).setCell ⟨gb359, 1, none⟩ (.string t337)).setCell ⟨gb359, 2, none⟩ (.bool t338)).setCell ⟨gb359, 2, none⟩ (.bool false)) = w103 at n0_ n1_ n2_ n3_ n4_ n5_ n6_ ⊢
              have HO_340000 := n0_
              have HO_346000 := n1_
              have BK339 := n2_
              have BK340 := n3_
              have BK345 := n4_
              have BK359 := n5_
              have HB := n6_
              clear n0_ n1_ n2_ n3_ n4_ n5_ n6_
              replace HO_340000 := Aside0.mk (Kd.R_drew HO_340000.out)
              replace HO_346000 := Aside0.mk (Kd.R_drew HO_346000.out)
              replace BK339 := Aside0.mk (blk_drew BK339.out)
              replace BK340 := Aside0.mk (blk_drew BK340.out)
              replace BK345 := Aside0.mk (blk_drew BK345.out)
              replace BK359 := Aside0.mk (blk_drew BK359.out)
              replace HB := Aside0.mk (below_drew1 HB.out)
              have p360 : 0 ≤ (0 : Int) := (by omega)
              have q360 : 0 < (t341.length : Int) := of_decide_eq_true za
              obtain ⟨ad360, e360, hx360_0, hx360_1, hx360_2⟩ := at_T36 (Kd.R_reads' HO_346000.out).2.2 0 p360 q360
              cases e360
              have qi360 : (0 < t341.length) = True := eq_true (by omega)
              (try rw [show ((0 : Int)).toNat = 0 from rfl] at hx360_0)
              (try rw [show 0 * 3 = 0 from rfl] at hx360_0)
              (try rw [Addr.add_zero'] at hx360_0)
              (try rw [show ((0 : Int)).toNat = 0 from rfl] at hx360_1)
              (try rw [show 0 * 3 = 0 from rfl] at hx360_1)
              (try rw [Addr.add_zero'] at hx360_1)
              (try rw [show ((0 : Int)).toNat = 0 from rfl] at hx360_2)
              (try rw [show 0 * 3 = 0 from rfl] at hx360_2)
              (try rw [Addr.add_zero'] at hx360_2)
              replace p360 := eq_true p360
              replace q360 := eq_true q360
              have q105 : (1 : Int) ≤ ((t341.length : Int) : Int) := of_decide_eq_true za
              obtain ⟨i0105, hi0105, _, hsz105, _⟩ := info_parts info36
              have hroom105 : t341.length ≤ co15 := (Kd.R_reads' HO_346000.out).2.1
              have hC105 : Kd.C k36 _ (some ad360) t341.length t341 := (Kd.R_reads' HO_346000.out).2.2
              have hcut105 := cut_from (P := Try.prog) 23 36 .i64 Try.underlying23 hi0105 3 hsz105 (some ad360) t341.length co15 1 (by omega) q105
              have hr105 := Kd.C_drop (m := (1 : Int).toNat) (c := co15) hC105 (by omega) hroom105
              obtain ⟨A105, hA105⟩ : ∃ A1, A1 = (if co15 = (1 : Int).toNat then (some ad360) else ((some ad360) : Option Addr).map (·.add ((1 : Int).toNat * 3))) := ⟨_, rfl⟩
              obtain ⟨c105, hc105⟩ : ∃ c1, c1 = co15 - (1 : Int).toNat := ⟨_, rfl⟩
              have hy105 : y361.length = t341.length - (1 : Int).toNat := (by rw [Ny361.out, List.length_drop] <;> omega)
              rw [show (t341).drop (1 : Int).toNat = y361 from Ny361.out.symm] at hr105
              replace hr105 : Kd.C k36 _ A105 y361.length y361 := (by rw [hA105]; exact hr105)
              rw [← hy105, ← hA105, ← hc105] at hcut105
              have HR364 := Aside0.mk hr105
              have HC364 := Aside0.mk (show y361.length ≤ c105 from by rw [hy105, hc105]; exact Nat.sub_le_sub_right hroom105 _)
              clear hr105 hC105 hroom105 hi0105 hsz105 hc105
              have KY105 := Aside0.mk hy105
              have KA105 := Aside0.mk hA105
              clear hy105 hA105
              have KL105 := Aside0.mk (show 1 ≤ t341.length from by omega)
              replace q105 := eq_true q105
              have q106 : ((ji86) : Int) ≤ ((t332.length : Int) : Int) := of_decide_eq_true za
              obtain ⟨i0106, hi0106, _, hsz106, _⟩ := info_parts info36
              have hroom106 : t332.length ≤ co9 := (Kd.R_reads' HO_340000.out).2.1
              have hC106 : Kd.C k36 _ Ao9 t332.length t332 := (Kd.R_reads' HO_340000.out).2.2
              have hcut106 := cut_to (P := Try.prog) 23 36 .i64 Try.underlying23 hi0106 Ao9 t332.length co9 (ji86) (of_decide_eq_true za) q106 hroom106
              have hr106 := Kd.C_take (m := ((ji86) : Int).toNat) hC106 (by omega)
              have hy106 : y365.length = ((ji86) : Int).toNat := (by rw [Ny365.out, List.length_take]; omega)
              rw [← Ny365.out] at hr106
              rw [← hy106] at hcut106
              have HR368 := Aside0.mk hr106
              have HC368 := Aside0.mk (show y365.length ≤ co9 from by omega)
              clear hr106 hC106 hroom106 hi0106 hsz106
              have KY106 := Aside0.mk hy106
              clear hy106
              have KL106 := Aside0.mk (show ((ji86) : Int).toNat ≤ t332.length from by omega)
              replace q106 := eq_true q106
              refine start_ (n := 34) (S := fun w' => w'.cell? ⟨gb345, 0, none⟩ = some (.slice (some ad360) t341.length co15) ∧ w'.cell? ⟨gb345, 1, none⟩ = some (.int .i64 t344) ∧ w'.cell? ⟨gb359, 0, none⟩ = some (.string t336) ∧ w'.cell? ⟨gb359, 1, none⟩ = some (.string t337) ∧ w'.cell? ⟨gb359, 2, none⟩ = some (.bool false) ∧ w'.cell? ⟨gb339, 0, none⟩ = some (.slice Ao9 t332.length co9) ∧ w'.cell? ⟨gb339, 1, none⟩ = some (.int .i64 t335) ∧ w'.cell? ad360 = some (.string ((rd_T36 t341 0).f0)) ∧ w'.cell? ⟨ad360.block, ad360.off + 1, none⟩ = some (.string ((rd_T36 t341 0).f1)) ∧ w'.cell? ⟨ad360.block, ad360.off + 2, none⟩ = some (.bool ((rd_T36 t341 0).f2))) (ds := []) #[false, false, false, false, false, false, false, false, false, false, false, false, false, false, false, false, false, false, false, false, false, false, false, false, false, false, false, false, false, false, false, false, false, false] (by kernel_rfl) rfl rfl ⟨(blk_cell BK345.out 0).trans rfl, (blk_cell BK345.out 1).trans rfl, (blk_cell BK359.out 0).trans rfl, (blk_cell BK359.out 1).trans rfl, (blk_cell BK359.out 2).trans rfl, (blk_cell BK339.out 0).trans rfl, (blk_cell BK339.out 1).trans rfl, hx360_0, hx360_1, hx360_2⟩ (fun hHeld => ?_); refine with_tabW laws_FnTableAdd.tab12 laws_FnTableAdd.bits12 (fun HT_ HW_ => ?_)
              generalize w103.drew = w104 at HO_340000 HO_346000 BK339 BK340 BK345 BK359 HB HR364 HR368 hx360_0 hx360_1 hx360_2 hHeld ⊢
              refine pu 0 (some 61) (bm 34 1) rfl rfl ?_
              refine pu 1 (some 62) (bm 34 3) rfl rfl ?_
              refine pu 2 (some 63) (bm 34 7) rfl rfl ?_
              refine pu 3 (some 64) (bm 34 15) rfl rfl ?_
              refine tk10 4 (some 65) (bm 34 31) rfl rfl hHeld ?_
              refine pu 5 (some 66) (bm 34 63) rfl rfl ?_
              refine tk10 6 (some 67) (bm 34 127) rfl rfl hHeld ?_
              refine tk10 7 (some 68) (bm 34 255) rfl rfl hHeld ?_
              refine pu 8 (some 69) (bm 34 511) rfl rfl ?_
              refine pu 9 (some 70) (bm 34 1023) rfl rfl ?_
              refine pu 10 (some 71) (bm 34 2047) rfl rfl ?_
              refine pu 11 (some 72) (bm 34 4095) rfl rfl ?_
              refine pu 14 (some 75) (bm 34 20479) rfl rfl ?_
              refine pu 16 (some 77) (bm 34 86015) rfl rfl ?_
              refine pu 17 (some 78) (bm 34 217087) rfl rfl ?_
              refine tk10 12 (some 73) (bm 34 221183) rfl rfl hHeld ?_
              refine pu 13 (some 74) (bm 34 229375) rfl rfl ?_
              refine tk10 15 (some 76) (bm 34 262143) rfl rfl hHeld ?_
              refine pu 18 (some 79) (bm 34 524287) rfl rfl ?_
              refine one_ (i := 19) (N := some 80) (bm 34 1048575) rfl rfl (one_of HT_.out (by kernel_rfl)) (by decide) (fun K hK => ?_)
              refine gs Try.func20 #[.slice A105 y361.length c105, .slice Ao9 y365.length co9] ?_
              with_reducible refine (laws_lkFields.calls kj4 _ _ y361 _ _ y365 false _ ?side1 ?side2 ?side3 ?side4 A89.out).mono ?_
              (case side1 => exact zc HR364.out)
              (case side2 => exact HC364.out)
              (case side3 => exact zc HR368.out)
              (case side4 => exact HC368.out)
              rintro e w' ⟨rfl, ⟨nd, rfl⟩⟩
              refine ⟨_, rfl, ?_⟩
              refine hK.out _ _ ⟨(blk_cell BK345.out 0).trans rfl, (blk_cell BK345.out 1).trans rfl, (blk_cell BK359.out 0).trans rfl, (blk_cell BK359.out 1).trans rfl, (blk_cell BK359.out 2).trans rfl, (blk_cell BK339.out 0).trans rfl, (blk_cell BK339.out 1).trans rfl, hHeld.2.2.2.2.2.2.2.1, hHeld.2.2.2.2.2.2.2.2.1, hHeld.2.2.2.2.2.2.2.2.2⟩ (fun hHeld => ?_)
              clear hK K
              refine nm ?_
              refine pu 20 (some 81) (bm 34 2097151) rfl rfl ?_
              refine pu 21 (some 82) (bm 34 4194303) rfl rfl ?_
              refine pu 22 (some 83) (bm 34 8388607) rfl rfl ?_
              refine pv 23 (some 84) (bm 34 16777215) rfl rfl ?_
              refine pv 24 (some 85) (bm 34 33554431) rfl rfl ?_
              refine pv 25 (some 86) (bm 34 67108863) rfl rfl ?_
              refine pu 26 (some 87) (bm 34 134217727) rfl rfl ?_
              refine pu 27 (some 88) (bm 34 268435455) rfl rfl ?_
              refine pv 28 (some 89) (bm 34 536870911) rfl rfl ?_
              refine pv 29 (some 90) (bm 34 1073741823) rfl rfl ?_
              refine pv 30 (some 91) (bm 34 2147483647) rfl rfl ?_
              refine pv 31 (some 92) (bm 34 4294967295) rfl rfl ?_
              refine pv 32 (some 93) (bm 34 8589934591) rfl rfl ?_
              refine pu 33 (some 94) (bm 34 17179869183) rfl rfl ?_
              refine done_ (done_of HT_.out (by kernel_rfl)) ?_
              try go_wp2
              go_meet
              case rel => exact ⟨_, (true), zs, H', ⟨by have := HJ4.out; first | omega | exact Nat.le_refl _⟩, ⟨by exact zr HO_340000⟩, ⟨by exact zr HO_346000⟩, ⟨by exact zk BK339⟩, ⟨by exact zk BK340⟩, ⟨by exact zk BK345⟩, ⟨by exact zk BK359⟩, ⟨zb HB⟩⟩
            ·rw [if_neg c88] at H
             exact absurd H (by simp)
           ·rw [if_neg c87] at H
            exact absurd H (by simp)
          ·rw [if_neg c85] at H
           exact absurd H (by simp)
        ·rw [if_neg c81] at H
         exact absurd H (by simp)
      case rest =>
       clear HC65
       try clear c1
       try clear q1
       try clear c2
       try clear p2
       try clear p3
       try clear q3
       try clear hx3
       try clear qi3
       try clear c8
       try clear c9
       try clear c10
       try clear q10
       try clear c20
       try clear c21
       try clear p36
       try clear q36
       try clear hx36
       try clear qi36
       try clear c81
       try clear c85
       try clear c87
       try clear c88
       try clear c90
       try clear c100
       try clear c105
       try clear q105
       try clear q106
       try clear hx360_0
       try clear hx360_1
       try clear hx360_2
       try clear p360
       try clear q105
       try clear q106
       try clear q360
       obtain ⟨kq, x94_64, rfl, HA, HJ64, HO_340000, HO_346000, BK339, BK340, BK345, BK359, HB⟩ := hcut
       cases kq with
       | zero => exact absurd HA.out (by simp [laws_FnTableAdd.j1])
       | succ kj64 =>
        have H := HA.out
        clear HA
        simp only [laws_FnTableAdd.j1] at H
        by_cases c107 : x94_64 = true
        ·subst c107
         have H1 : (some false) = some r := by rw [if_pos rfl] at H; exact H
         clear H
         have H := H1
         clear H1
         obtain rfl := Option.some.inj H
         go_wp2
         go_ret
         exact ⟨ze, zb HB⟩
        ·replace c107 := Bool.eq_false_iff.mpr c107
         subst c107
         have H1 : (if (wrap64 ((t341.length : Int) - 1)) = (t332.length : Int) then (some true) else ((impl_TableSize.f kj64 t341 t344).bind fun t371 => (if 0 ≤ (wrap64 ((t341.length : Int) - 1)) then (if (wrap64 ((t341.length : Int) - 1)) < (t332.length : Int) then ((laws_lkOne.f ((rd_T36 t332 (wrap64 ((t341.length : Int) - 1))).f0) ((rd_T36 t332 (wrap64 ((t341.length : Int) - 1))).f1) ((rd_T36 t332 (wrap64 ((t341.length : Int) - 1))).f2)).bind fun t373 => (some (decide ((wrap64 (t371 + t373)) > t335)))) else (none)) else (none)))) = some r := by rw [if_neg (show ¬ (false = true) by decide)] at H; exact H
         clear H
         have H := H1
         clear H1
         by_cases c108 : (wrap64 ((t341.length : Int) - 1)) = (t332.length : Int)
         ·rw [if_pos c108] at H
          have c108b0 : ((wrap64 ((t341.length : Int) - 1)) == (t332.length : Int)) = true := beq_iff_eq.mpr c108
          have c108b1 : ((wrap64 ((t341.length : Int) - 1)) != (t332.length : Int)) = false := bne_eq_false_iff_eq.mpr c108
          clear c108
          obtain rfl := Option.some.inj H
          try go_wp2
          replace HO_340000 := Aside0.mk (Kd.R_drew HO_340000.out)
          replace HO_346000 := Aside0.mk (Kd.R_drew HO_346000.out)
          replace BK339 := Aside0.mk (blk_drew BK339.out)
          replace BK340 := Aside0.mk (blk_drew BK340.out)
          replace BK345 := Aside0.mk (blk_drew BK345.out)
          replace BK359 := Aside0.mk (blk_drew BK359.out)
          replace HB := Aside0.mk (below_drew1 HB.out)
          refine start_ (n := 22) (S := fun w' => w'.cell? ⟨gb339, 0, none⟩ = some (.slice Ao9 t332.length co9) ∧ w'.cell? ⟨gb339, 1, none⟩ = some (.int .i64 t335)) (ds := []) #[false, false, false, false, false, false, false, false, false, false, false, false, false, false, false, false, false, false, false, false, false, false] (by kernel_rfl) rfl rfl ⟨(blk_cell BK339.out 0).trans rfl, (blk_cell BK339.out 1).trans rfl⟩ (fun hHeld => ?_); refine with_tabW laws_FnTableAdd.tab14 laws_FnTableAdd.bits14 (fun HT_ HW_ => ?_)
          generalize wc.drew = w109 at HO_340000 HO_346000 BK339 BK340 BK345 BK359 HB hHeld ⊢
          refine pu 0 (some 95) (bm 22 1) rfl rfl ?_
          refine pu 1 (some 96) (bm 22 3) rfl rfl ?_
          refine pu 2 (some 97) (bm 22 7) rfl rfl ?_
          refine tk2 3 (some 98) (bm 22 15) rfl rfl hHeld ?_
          refine pu 4 (some 99) (bm 22 31) rfl rfl ?_
          refine pu 5 (some 100) (bm 22 63) rfl rfl ?_
          refine pu 6 (some 101) (bm 22 127) rfl rfl ?_
          refine pv 7 (some 102) (bm 22 255) rfl rfl ?_
          refine pv 8 (some 103) (bm 22 511) rfl rfl ?_
          refine pv 9 (some 104) (bm 22 1023) rfl rfl ?_
          refine pv 10 (some 105) (bm 22 2047) rfl rfl ?_
          refine pv 11 (some 106) (bm 22 4095) rfl rfl ?_
          refine pv 12 (some 107) (bm 22 8191) rfl rfl ?_
          refine pv 13 (some 108) (bm 22 16383) rfl rfl ?_
          refine pv 14 (some 109) (bm 22 32767) rfl rfl ?_
          refine pv 15 (some 110) (bm 22 65535) rfl rfl ?_
          refine pv 16 (some 111) (bm 22 131071) rfl rfl ?_
          refine pv 17 (some 112) (bm 22 262143) rfl rfl ?_
          refine pv 18 (some 113) (bm 22 524287) rfl rfl ?_
          refine pv 19 (some 114) (bm 22 1048575) rfl rfl ?_
          refine pu 20 (some 115) (bm 22 2097151) rfl rfl ?_
          refine pu 21 (some 2) (bm 22 4194303) rfl rfl ?_
          refine done_ (done_of HT_.out (by kernel_rfl)) ?_
          try go_wp2
          go_ret
          exact ⟨ze, zb HB⟩
         ·rw [if_neg c108] at H
          have c108b0 : ((wrap64 ((t341.length : Int) - 1)) == (t332.length : Int)) = false := beq_eq_false_iff_ne.mpr c108
          have c108b1 : ((wrap64 ((t341.length : Int) - 1)) != (t332.length : Int)) = true := bne_iff_ne.mpr c108
          replace H := Option.bind_eq_some_iff.mp H
          obtain ⟨t371, A1100, H⟩ := H
          replace H : (if 0 ≤ (wrap64 ((t341.length : Int) - 1)) then (if (wrap64 ((t341.length : Int) - 1)) < (t332.length : Int) then ((laws_lkOne.f ((rd_T36 t332 (wrap64 ((t341.length : Int) - 1))).f0) ((rd_T36 t332 (wrap64 ((t341.length : Int) - 1))).f1) ((rd_T36 t332 (wrap64 ((t341.length : Int) - 1))).f2)).bind fun t373 => (some (decide ((wrap64 (t371 + t373)) > t335)))) else (none)) else (none)) = some r := H
          have A110 := Aside0.mk A1100
          clear A1100
          obtain ⟨ji111, hji111⟩ : ∃ j_ : Int, (wrap64 ((t341.length : Int) - 1)) = j_ := ⟨_, rfl⟩
          replace H : (if 0 ≤ (ji111) then (if (ji111) < (t332.length : Int) then ((laws_lkOne.f ((rd_T36 t332 (ji111)).f0) ((rd_T36 t332 (ji111)).f1) ((rd_T36 t332 (ji111)).f2)).bind fun t373 => (some (decide ((wrap64 (t371 + t373)) > t335)))) else (none)) else (none)) = some r := by first | (rw [hji111] at H; exact H) | (simp only [hji111] at H ⊢; exact H)
          (try rw [hji111] at c108b0)
          (try rw [hji111] at c108b1)
          (try rw [hji111] at A110)
          have hji111w : (IntKind.i64.wrap ((t341.length : Int) - 1)) = ji111 := (i64_w _).trans hji111
          by_cases c112 : 0 ≤ (ji111)
          ·rw [if_pos c112] at H
           have c112b0 : decide (0 ≤ (ji111)) = true := decide_eq_true c112
           clear c112
           by_cases c113 : (ji111) < (t332.length : Int)
           ·rw [if_pos c113] at H
            have c113b0 : decide ((ji111) < (t332.length : Int)) = true := decide_eq_true c113
            clear c113
            replace H := Option.bind_eq_some_iff.mp H
            obtain ⟨t373, A1140, H⟩ := H
            replace H : (some (decide ((wrap64 (t371 + t373)) > t335))) = some r := H
            have A114 := Aside0.mk A1140
            clear A1140
            obtain rfl := Option.some.inj H
            try go_wp2
            replace HO_340000 := Aside0.mk (Kd.R_drew HO_340000.out)
            replace HO_346000 := Aside0.mk (Kd.R_drew HO_346000.out)
            replace BK339 := Aside0.mk (blk_drew BK339.out)
            replace BK340 := Aside0.mk (blk_drew BK340.out)
            replace BK345 := Aside0.mk (blk_drew BK345.out)
            replace BK359 := Aside0.mk (blk_drew BK359.out)
            replace HB := Aside0.mk (below_drew1 HB.out)
            have p372 : 0 ≤ ((ji111) : Int) := of_decide_eq_true za
            have q372 : (ji111) < (t332.length : Int) := of_decide_eq_true za
            obtain ⟨ad372, e372, hx372_0, hx372_1, hx372_2⟩ := at_T36 (Kd.R_reads' HO_340000.out).2.2 (ji111) p372 q372
            cases e372
            replace p372 := eq_true p372
            replace q372 := eq_true q372
            refine start_ (n := 22) (S := fun w' => w'.cell? ⟨gb339, 0, none⟩ = some (.slice (some ad372) t332.length co9) ∧ w'.cell? ⟨gb339, 1, none⟩ = some (.int .i64 t335) ∧ w'.cell? ⟨gb345, 0, none⟩ = some (.slice Ao15 t341.length co15) ∧ w'.cell? ⟨gb345, 1, none⟩ = some (.int .i64 t344) ∧ w'.cell? (ad372.add (((ji111)).toNat * 3)) = some (.string ((rd_T36 t332 (ji111)).f0)) ∧ w'.cell? ⟨(ad372.add (((ji111)).toNat * 3)).block, (ad372.add (((ji111)).toNat * 3)).off + 1, none⟩ = some (.string ((rd_T36 t332 (ji111)).f1)) ∧ w'.cell? ⟨(ad372.add (((ji111)).toNat * 3)).block, (ad372.add (((ji111)).toNat * 3)).off + 2, none⟩ = some (.bool ((rd_T36 t332 (ji111)).f2))) (ds := []) #[false, false, false, false, false, false, false, false, false, false, false, false, false, false, false, false, false, false, false, false, false, false] (by kernel_rfl) rfl rfl ⟨(blk_cell BK339.out 0).trans rfl, (blk_cell BK339.out 1).trans rfl, (blk_cell BK345.out 0).trans rfl, (blk_cell BK345.out 1).trans rfl, hx372_0, hx372_1, hx372_2⟩ (fun hHeld => ?_); refine with_tabW laws_FnTableAdd.tab14 laws_FnTableAdd.bits14 (fun HT_ HW_ => ?_)
            generalize wc.drew = w115 at HO_340000 HO_346000 BK339 BK340 BK345 BK359 HB hx372_0 hx372_1 hx372_2 hHeld ⊢
            refine pu 0 (some 95) (bm 22 1) rfl rfl ?_
            refine pu 1 (some 96) (bm 22 3) rfl rfl ?_
            refine pu 2 (some 97) (bm 22 7) rfl rfl ?_
            refine tk7 3 (some 98) (bm 22 15) rfl rfl hHeld ?_
            refine pu 4 (some 99) (bm 22 31) rfl rfl ?_
            refine pu 5 (some 100) (bm 22 63) rfl rfl ?_
            refine pu 6 (some 101) (bm 22 127) rfl rfl ?_
            refine pu 9 (some 104) (bm 22 639) rfl rfl ?_
            refine pu 11 (some 106) (bm 22 2687) rfl rfl ?_
            refine pu 12 (some 107) (bm 22 6783) rfl rfl ?_
            refine pu 17 (some 112) (bm 22 137855) rfl rfl ?_
            refine tk7 7 (some 102) (bm 22 137983) rfl rfl hHeld ?_
            refine tk7 10 (some 105) (bm 22 139007) rfl rfl hHeld ?_
            refine pu 13 (some 108) (bm 22 147199) rfl rfl ?_
            refine tk7 14 (some 109) (bm 22 163583) rfl rfl hHeld ?_
            refine tk7 18 (some 113) (bm 22 425727) rfl rfl hHeld ?_
            refine one_ (i := 8) (N := some 103) (bm 22 425983) rfl rfl (one_of HT_.out (by kernel_rfl)) (by decide) (fun K hK => ?_)
            refine gs Try.func22 #[.agg #[.slice Ao15 t341.length co15, .int .i64 t344]] ?_
            with_reducible refine (impl_TableSize.calls kj64 _ _ t341 t344 t371 _ ?side1 ?side2 A110.out).mono ?_
            (case side1 => exact zc (Kd.R_reads' HO_346000.out).2.2)
            (case side2 => exact (Kd.R_reads' HO_346000.out).2.1)
            rintro e w116 ⟨rfl, hb⟩
            have HS4_ := (hb.cell (World.block_lt_of_cell? _ _ (hHeld.2.2.2.2.1))).trans (hHeld.2.2.2.2.1)
            have HS5_ := (hb.cell (World.block_lt_of_cell? _ _ (hHeld.2.2.2.2.2.1))).trans (hHeld.2.2.2.2.2.1)
            have HS6_ := (hb.cell (World.block_lt_of_cell? _ _ (hHeld.2.2.2.2.2.2))).trans (hHeld.2.2.2.2.2.2)
            refine ⟨_, rfl, ?_⟩
            replace HO_340000 := Aside0.mk (Kd.R_below (zr HO_340000) hb)
            replace HO_346000 := Aside0.mk (Kd.R_below (zr HO_346000) hb)
            replace BK339 := Aside0.mk (blk_below (g := gb339) (o := .cells #[.slice (some ad372) t332.length co9, .int .i64 t335] 25 (0, 0)) (zk BK339) hb)
            replace BK340 := Aside0.mk (blk_below (g := gb340) (o := .cells #[.string t336, .string t337, .bool t338] 36 (0, 0)) (zk BK340) hb)
            replace BK345 := Aside0.mk (blk_below (g := gb345) (o := .cells #[.slice Ao15 t341.length co15, .int .i64 t344] 25 (0, 0)) (zk BK345) hb)
            replace BK359 := Aside0.mk (blk_below (g := gb359) (o := .cells #[.string t336, .string t337, .bool false] 36 (0, 0)) (zk BK359) hb)
            replace HB := Aside0.mk (below_step (zb HB) hb)
            (try clear hb)
            refine hK.out _ _ ⟨(blk_cell BK339.out 0).trans rfl, (blk_cell BK339.out 1).trans rfl, (blk_cell BK345.out 0).trans rfl, (blk_cell BK345.out 1).trans rfl, HS4_, HS5_, HS6_⟩ (fun hHeld => ?_)
            clear hK K
            refine nm ?_
            refine one_ (i := 15) (N := some 110) (bm 22 458751) rfl rfl (one_of HT_.out (by kernel_rfl)) (by decide) (fun K hK => ?_)
            refine goes_ Try.func23 (by kernel_rfl) rfl #[.agg #[.string ((rd_T36 t332 (ji111)).f0), .string ((rd_T36 t332 (ji111)).f1), .bool ((rd_T36 t332 (ji111)).f2)]] (by rfl) rfl rfl (by (try simp only [List.map_toArray, List.map_cons, List.map_nil]); first | done | (simp only [hji111]; rfl) | rfl | (simp only [List.length_drop, List.length_take]; rfl)) ?_
            with_reducible refine (laws_lkOne.calls ((rd_T36 t332 (ji111)).f0) ((rd_T36 t332 (ji111)).f1) ((rd_T36 t332 (ji111)).f2) t373 _ A114.out).mono ?_
            rintro e w117 ⟨rfl, hb⟩
            have HS4_ := (hb.cell (World.block_lt_of_cell? _ _ (hHeld.2.2.2.2.1))).trans (hHeld.2.2.2.2.1)
            have HS5_ := (hb.cell (World.block_lt_of_cell? _ _ (hHeld.2.2.2.2.2.1))).trans (hHeld.2.2.2.2.2.1)
            have HS6_ := (hb.cell (World.block_lt_of_cell? _ _ (hHeld.2.2.2.2.2.2))).trans (hHeld.2.2.2.2.2.2)
            refine ⟨_, rfl, ?_⟩
            replace HO_340000 := Aside0.mk (Kd.R_below (zr HO_340000) hb)
            replace HO_346000 := Aside0.mk (Kd.R_below (zr HO_346000) hb)
            replace BK339 := Aside0.mk (blk_below (g := gb339) (o := .cells #[.slice (some ad372) t332.length co9, .int .i64 t335] 25 (0, 0)) (zk BK339) hb)
            replace BK340 := Aside0.mk (blk_below (g := gb340) (o := .cells #[.string t336, .string t337, .bool t338] 36 (0, 0)) (zk BK340) hb)
            replace BK345 := Aside0.mk (blk_below (g := gb345) (o := .cells #[.slice Ao15 t341.length co15, .int .i64 t344] 25 (0, 0)) (zk BK345) hb)
            replace BK359 := Aside0.mk (blk_below (g := gb359) (o := .cells #[.string t336, .string t337, .bool false] 36 (0, 0)) (zk BK359) hb)
            replace HB := Aside0.mk (below_step (zb HB) hb)
            (try clear hb)
            refine hK.out _ _ ⟨(blk_cell BK339.out 0).trans rfl, (blk_cell BK339.out 1).trans rfl, (blk_cell BK345.out 0).trans rfl, (blk_cell BK345.out 1).trans rfl, HS4_, HS5_, HS6_⟩ (fun hHeld => ?_)
            clear hK K
            refine nm ?_
            refine pu 16 (some 111) (bm 22 524287) rfl rfl ?_
            refine pu 19 (some 114) (bm 22 1048575) rfl rfl ?_
            refine pu 20 (some 115) (bm 22 2097151) rfl rfl ?_
            refine pu 21 (some 2) (bm 22 4194303) rfl rfl ?_
            refine done_ (done_of HT_.out (by kernel_rfl)) ?_
            try go_wp2
            go_ret
            exact ⟨by first | rfl | (simp [errW_none, errW_some] <;> rfl) | (simp only [← hji111]; first | rfl | (simp [errW_none, errW_some] <;> rfl)) | (simp [*, errW_none, errW_some] <;> rfl) | (simp [errW_none, errW_some]; exact (by intro l_; cases l_ <;> rfl : ∀ l_ : List UInt8, l_.isEmpty = !(l_ != [])) _), zb HB⟩
           ·rw [if_neg c113] at H
            exact absurd H (by simp)
          ·rw [if_neg c112] at H
           exact absurd H (by simp)

/-- THE ONE PURE STATEMENT of laws_FnTableAdd: yours. -/
def laws_FnTableAdd.Pure : Prop := ∀ (l0 : List Int), l0.length ≤ maxLen → l0.length * 1 ≤ 140737488351232 → (∀ x ∈ l0, (Lit.int .u8 x).wf = true) → ∃ k, laws_FnTableAdd.f k l0 = some true
theorem laws_FnTableAdd.walk (P : laws_FnTableAdd.Pure) (a0 : Option Addr) (len0 cap0 : Nat) (z0 : List Int) (w : World) (w0 : (a0 = none ∧ len0 = 0 ∧ cap0 = 0 ∧ z0 = []) ∨ ∃ x, a0 = some x ∧ len0 ≤ cap0 ∧ cap0 ≤ maxLen ∧ z0.length = cap0 ∧ (∀ i, i < z0.length → w.cell? (x.add i) = some (.int .u8 (z0.getD i 0))) ∧ ∀ n ∈ z0, (Lit.int .u8 n).wf = true) (y0 : len0 * 1 ≤ 140737488351232) :
  Calls Try.prog 8 #[.slice a0 len0 cap0] w fun e w' => e = .returned (.bool true) ∧ Below w.heap.size w w' := by
 obtain ⟨l0, rfl, hr0, hm0, hw0, hc0⟩ := ReadsInt.ofRowC w0
 obtain ⟨k, h⟩ := P l0 hm0 y0 hw0
 refine (laws_FnTableAdd.calls k _ _ l0 true w (Kd.C_of_reads (d := (0 : Int)) (h1 := fun _ => rfl) hr0) hc0 h).mono ?_
 rintro e w' ⟨rfl, hd⟩
 exact ⟨rfl, hd⟩

end Go.Proofs.Ytdhahifdcoinhaa.PFnTableAdd
