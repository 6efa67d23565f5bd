-- WRITTEN BY a turned print (wip/tools of the prover's repo)
import Derived.Test.YtdhahifdcoinhaaPFnAddTwox0
import Derived.Test.YtdhahifdcoinhaaPFnAddTwox1
import Derived.Test.YtdhahifdcoinhaaPFnAddTwox2
import Derived.Test.YtdhahifdcoinhaaPFnAddTwox3
import Derived.Test.YtdhahifdcoinhaaPFnAddTwox6
import Derived.Test.YtdhahifdcoinhaaPFnAddTwox7
namespace Go.Proofs.Ytdhahifdcoinhaa.PFnAddTwo
open Go.RowKit Go.Proofs.YtdhahifdcoinhaaW.PrintWords Go.Proofs.YtdhahifdcoinhaaW.PrintLast Go.Proofs.YtdhahifdcoinhaaW.PrintMore Go.Proofs.Ytdhahifdcoinhaa.Lm
attribute [local go_sem] max2_int min2_int max_two min_two max_three min_three max_four min_four   -- for this text's walks alone
set_option linter.unusedVariables false
set_option linter.unusedSimpArgs false

attribute [local go_sem high] eqA36
/-! ### laws_FnAddTwo: function 6 -/
-- thin
mutual
def laws_FnAddTwo.j0 : Nat → List Int → List Int → Bool → Option (Bool)
 | 0, _, _, _ => none
 | k + 1, x0, x1, x18 => if x18 = true then (some true) else ((spec_DrawTableAdd.f k x0).bind fun bt329 => ((impl_TableAdd.f k bt329.1 bt329.2.1 bt329.2.2.1 bt329.2.2.2.1 bt329.2.2.2.2).bind fun bt338 => ((spec_TableAdd.f k bt329.1 bt329.2.1 bt329.2.2.1 bt329.2.2.2.1 bt329.2.2.2.2).bind fun bt343 => ((laws_lkTable.f k bt338.1 bt338.2 bt343.1 bt343.2).bind fun t347 => (if t347 = true then ((spec_TableOk.f k bt329.1 bt329.2.1).bind fun t348 => (if t348 = true then ((spec_FieldOk.f k bt329.2.2.1 bt329.2.2.2.1 bt329.2.2.2.2).bind fun t349 => (laws_FnAddTwo.j1 k x1 (!t349) bt329.1 bt329.2.1 bt329.2.2.1 bt329.2.2.2.1 bt329.2.2.2.2 bt338.1 bt338.2)) else (laws_FnAddTwo.j1 k x1 true bt329.1 bt329.2.1 bt329.2.2.1 bt329.2.2.2.1 bt329.2.2.2.2 bt338.1 bt338.2))) else (laws_FnAddTwo.j1 k x1 true bt329.1 bt329.2.1 bt329.2.2.1 bt329.2.2.2.1 bt329.2.2.2.2 bt338.1 bt338.2))))))
def laws_FnAddTwo.j1 : Nat → List Int → Bool → List (S36) → Int → ByteArray → ByteArray → Bool → List (S36) → Int → Option (Bool)
 | 0, _, _, _, _, _, _, _, _, _ => none
 | k + 1, x1, x42, x337000, x337001, x338000, x338001, x338002, x343000, x343001 => if x42 = true then ((spec_TableAdd.f k x337000 x337001 x338000 x338001 x338002).bind fun bt350 => ((laws_lkTable.f k x343000 x343001 bt350.1 bt350.2).bind fun t354 => (some t354))) else ((some (([(⟨#[]⟩ : ByteArray), (⟨#[120]⟩ : ByteArray), (⟨#[121, 121]⟩ : ByteArray)] : List ByteArray) : List ByteArray)).bind fun y355 => (if 0 ≤ ((x1.length : Int) % 3) then (if ((x1.length : Int) % 3) < (y355.length : Int) then ((laws_lkOne.f x338000 x338001 x338002).bind fun t360 => ((laws_lkOne.f (⟨#[97]⟩ : ByteArray) (rdOf ByteArray.empty y355 ((x1.length : Int) % 3)) false).bind fun t361 => (if (wrap64 (t360 + t361)) > x337001 then (some true) else ((impl_TableAdd.f k x343000 x343001 (⟨#[97]⟩ : ByteArray) (rdOf ByteArray.empty y355 ((x1.length : Int) % 3)) false).bind fun bt362 => (if (bt362.1.length : Int) ≥ 2 then (if 0 < (bt362.1.length : Int) then (if ((((rd_T36 bt362.1 0).f0).toList) == ([97] : List UInt8) && ((((rd_T36 bt362.1 0).f1).toList) == ((rdOf ByteArray.empty y355 ((x1.length : Int) % 3)).toList) && (!((rd_T36 bt362.1 0).f2)))) = true then (if 1 < (bt362.1.length : Int) then (if ((((rd_T36 bt362.1 1).f0).toList) == x338000.toList && ((((rd_T36 bt362.1 1).f1).toList) == x338001.toList && (!((rd_T36 bt362.1 1).f2)))) = true then ((impl_TableOk.f k bt362.1 bt362.2).bind fun t370 => (some t370)) else (some false)) else (none)) else (some false)) else (none)) else (some false)))))) else (none)) else (none)))
end
def laws_FnAddTwo.f (k : Nat) (l0 : List Int) (l1 : List Int) : Option (Bool) := if (l0.length : Int) > 1048576 then (laws_FnAddTwo.j0 k l0 l1 true) else (laws_FnAddTwo.j0 k l0 l1 (decide ((l1.length : Int) > 1048576)))
theorem laws_FnAddTwo.mono_l : ∀ k, (∀ y0 y1 y2, LeO (laws_FnAddTwo.j0 k y0 y1 y2) (laws_FnAddTwo.j0 (k + 1) y0 y1 y2)) ∧ (∀ y0 y1 y2 y3 y4 y5 y6 y7 y8, LeO (laws_FnAddTwo.j1 k y0 y1 y2 y3 y4 y5 y6 y7 y8) (laws_FnAddTwo.j1 (k + 1) y0 y1 y2 y3 y4 y5 y6 y7 y8))
 | 0 => ⟨fun _ _ _ r h => by simp [laws_FnAddTwo.j0] at h, fun _ _ _ _ _ _ _ _ _ r h => by simp [laws_FnAddTwo.j1] at h⟩
 | k + 1 => by
  obtain ⟨ih0, ih1⟩ := laws_FnAddTwo.mono_l k
  refine ⟨?_, ?_⟩
  ·intro y0 y1 y2
   unfold laws_FnAddTwo.j0
   repeat' first
   | (with_reducible exact ih0 _ _ _)
   | (with_reducible exact ih1 _ _ _ _ _ _ _ _ _)
   | (with_reducible exact impl_TableAdd.mono _ _ _ _ _ _)
   | (with_reducible exact impl_TableOk.mono _ _ _)
   | (with_reducible exact laws_lkTable.mono _ _ _ _ _)
   | (with_reducible exact spec_DrawTableAdd.mono _ _)
   | (with_reducible exact spec_FieldOk.mono _ _ _ _)
   | (with_reducible exact spec_TableAdd.mono _ _ _ _ _ _)
   | (with_reducible exact spec_TableOk.mono _ _ _)
   | (with_reducible exact LeO.refl _)
   | (with_reducible exact LeO.none _)
   | (with_reducible refine LeO.ite ?_ ?_)
   | (with_reducible refine LeO.bind ?_ (fun _ => ?_))
   | exact ih0 _ _ _
   | exact ih1 _ _ _ _ _ _ _ _ _
   | exact impl_TableAdd.mono _ _ _ _ _ _
   | exact impl_TableOk.mono _ _ _
   | exact laws_lkTable.mono _ _ _ _ _
   | exact spec_DrawTableAdd.mono _ _
   | exact spec_FieldOk.mono _ _ _ _
   | exact spec_TableAdd.mono _ _ _ _ _ _
   | exact spec_TableOk.mono _ _ _
   | exact LeO.none _
   | refine LeO.ite ?_ ?_
   | refine LeO.bind ?_ (fun _ => ?_)
  ·intro y0 y1 y2 y3 y4 y5 y6 y7 y8
   unfold laws_FnAddTwo.j1
   repeat' first
   | (with_reducible exact ih0 _ _ _)
   | (with_reducible exact ih1 _ _ _ _ _ _ _ _ _)
   | (with_reducible exact impl_TableAdd.mono _ _ _ _ _ _)
   | (with_reducible exact impl_TableOk.mono _ _ _)
   | (with_reducible exact laws_lkTable.mono _ _ _ _ _)
   | (with_reducible exact spec_DrawTableAdd.mono _ _)
   | (with_reducible exact spec_FieldOk.mono _ _ _ _)
   | (with_reducible exact spec_TableAdd.mono _ _ _ _ _ _)
   | (with_reducible exact spec_TableOk.mono _ _ _)
   | (with_reducible exact LeO.refl _)
   | (with_reducible exact LeO.none _)
   | (with_reducible refine LeO.ite ?_ ?_)
   | (with_reducible refine LeO.bind ?_ (fun _ => ?_))
   | exact ih0 _ _ _
   | exact ih1 _ _ _ _ _ _ _ _ _
   | exact impl_TableAdd.mono _ _ _ _ _ _
   | exact impl_TableOk.mono _ _ _
   | exact laws_lkTable.mono _ _ _ _ _
   | exact spec_DrawTableAdd.mono _ _
   | exact spec_FieldOk.mono _ _ _ _
   | exact spec_TableAdd.mono _ _ _ _ _ _
   | exact spec_TableOk.mono _ _ _
   | exact LeO.none _
   | refine LeO.ite ?_ ?_
   | refine LeO.bind ?_ (fun _ => ?_)
theorem laws_FnAddTwo.mono : ∀ a0 a1 k, LeO (laws_FnAddTwo.f k a0 a1) (laws_FnAddTwo.f (k + 1) a0 a1) := by
 intro a0 a1 k
 obtain ⟨ih0, ih1⟩ := laws_FnAddTwo.mono_l k
 unfold laws_FnAddTwo.f
 repeat' first
   | (with_reducible exact ih0 _ _ _)
   | (with_reducible exact ih1 _ _ _ _ _ _ _ _ _)
   | (with_reducible exact impl_TableAdd.mono _ _ _ _ _ _)
   | (with_reducible exact impl_TableOk.mono _ _ _)
   | (with_reducible exact laws_lkTable.mono _ _ _ _ _)
   | (with_reducible exact spec_DrawTableAdd.mono _ _)
   | (with_reducible exact spec_FieldOk.mono _ _ _ _)
   | (with_reducible exact spec_TableAdd.mono _ _ _ _ _ _)
   | (with_reducible exact spec_TableOk.mono _ _ _)
   | (with_reducible exact LeO.refl _)
   | (with_reducible exact LeO.none _)
   | (with_reducible refine LeO.ite ?_ ?_)
   | (with_reducible refine LeO.bind ?_ (fun _ => ?_))
   | exact ih0 _ _ _
   | exact ih1 _ _ _ _ _ _ _ _ _
   | exact impl_TableAdd.mono _ _ _ _ _ _
   | exact impl_TableOk.mono _ _ _
   | exact laws_lkTable.mono _ _ _ _ _
   | exact spec_DrawTableAdd.mono _ _
   | exact spec_FieldOk.mono _ _ _ _
   | exact spec_TableAdd.mono _ _ _ _ _ _
   | exact spec_TableOk.mono _ _ _
   | exact LeO.none _
   | refine LeO.ite ?_ ?_
   | refine LeO.bind ?_ (fun _ => ?_)
def laws_FnAddTwo.T5 : Bool × List (List Nat × List Nat) := (true, [([], []), ([], []), ([], []), ([1, 2], [1, 2]), ([0, 3, 3], [0, 3]), ([4], [4]), ([5, 4], [5]), ([6], [6]), ([7, 6, 6], [6, 7]), ([8, 6], [6, 8]), ([6, 9], [6, 9]), ([10, 8], [10]), ([11], [11]), ([12, 11, 11], [11, 12]), ([13, 11], [11, 13]), ([11, 14], [11, 14])])
def laws_FnAddTwo.B5 : List Nat := [0, 0, 0, 6, 15, 31, 63, 127, 255, 511, 1023, 2047, 4095, 8191, 16383, 32767]
theorem laws_FnAddTwo.tab5 : rtab .any (opsOf Try.f6 5) = laws_FnAddTwo.T5 := by kernel_rfl
theorem laws_FnAddTwo.bits5 : waitsOk laws_FnAddTwo.T5.2 laws_FnAddTwo.B5 = true := by kernel_rfl
def laws_FnAddTwo.T8 : Bool × List (List Nat × List Nat) := (true, [([], []), ([0], [0]), ([], []), ([2, 1], [2]), ([1, 3], [1, 3]), ([], []), ([5], [5]), ([4, 6], [4, 6])])
def laws_FnAddTwo.B8 : List Nat := [0, 1, 0, 7, 15, 0, 32, 127]
theorem laws_FnAddTwo.tab8 : rtab .any (opsOf Try.f6 8) = laws_FnAddTwo.T8 := by kernel_rfl
theorem laws_FnAddTwo.bits8 : waitsOk laws_FnAddTwo.T8.2 laws_FnAddTwo.B8 = true := by kernel_rfl
def laws_FnAddTwo.T13 : Bool × List (List Nat × List Nat) := (true, [([], []), ([0], [0]), ([1], [1]), ([2], [2]), ([3], [3]), ([4], [4]), ([5, 4], [4, 5]), ([6, 4], [4, 6]), ([7, 4], [4, 7]), ([4], [4]), ([8, 9, 4], [4, 8, 9]), ([4, 10], [4, 10]), ([11, 4], [11]), ([12], [12]), ([13, 12], [12, 13]), ([14, 12], [12, 14]), ([15, 12], [12, 15]), ([12], [12]), ([16, 17, 12], [12, 16, 17]), ([12, 18], [12, 18]), ([19, 12], [19]), ([20], [20]), ([21, 20, 20], [20, 21]), ([20, 22], [20, 22]), ([23, 22, 0, 1, 2, 3, 4, 5, 6, 7, 8, 9, 10, 11, 12, 13, 14, 15, 16, 17, 18, 19, 20, 21, 22, 23], [23])])
def laws_FnAddTwo.B13 : List Nat := [0, 1, 3, 7, 15, 31, 63, 127, 255, 31, 1023, 2047, 4095, 8191, 16383, 32767, 65535, 8191, 262143, 524287, 1048575, 2097151, 4194303, 8388607, 16777215]
theorem laws_FnAddTwo.tab13 : rtab .any (opsOf Try.f6 13) = laws_FnAddTwo.T13 := by kernel_rfl
theorem laws_FnAddTwo.bits13 : waitsOk laws_FnAddTwo.T13.2 laws_FnAddTwo.B13 = true := by kernel_rfl
set_option maxHeartbeats 8000000 in
set_option maxRecDepth 100000 in
theorem laws_FnAddTwo.calls (k : Nat) (A0 : Option Addr) (c0 : Nat) (l0 : List Int) (A1 : Option Addr) (c1 : Nat) (l1 : List Int) (r : Bool) (w : World) (hr0 : Kd.C (Kd.int .u8) w A0 l0.length l0) (hc0 : l0.length ≤ c0) (hr1 : Kd.C (Kd.int .u8) w A1 l1.length l1) (hc1 : l1.length ≤ c1) (h : laws_FnAddTwo.f k l0 l1 = some r) :
  Calls Try.prog 6 #[.slice A0 l0.length c0, .slice A1 l1.length c1] w fun e w' => e = .returned (.bool r) ∧ Below w.heap.size w w' := by
 have hu25 := Try.underlying25
 have hu36 := Try.underlying36
 have HR0 := Aside0.mk hr0
 have HC0 := Aside0.mk hc0
 clear hr0 hc0
 have HR1 := Aside0.mk hr1
 have HC1 := Aside0.mk hc1
 clear hr1 hc1
 have HB := Aside0.mk (Below.refl w.heap.size w)
 have H : (if (l0.length : Int) > 1048576 then (laws_FnAddTwo.j0 k l0 l1 true) else (laws_FnAddTwo.j0 k l0 l1 (decide ((l1.length : Int) > 1048576)))) = some r := h
 clear h
 have HC3 := Aside0.mk H
 clear H
 go_enter Try.func6, Try.ntmps6
 go_upto_region 1 with (fail)
 go_cut [18] (fun v18 wc => ∃ (kq : Nat) (x18_2 : Bool), v18 = .bool x18_2 ∧ Aside0 (laws_FnAddTwo.j0 kq l0 l1 x18_2 = some r) ∧ Aside0 (kq ≤ k) ∧ Aside0 (Below w.heap.size w wc))
 case first =>
  have H := HC3.out
  clear HC3
  by_cases c4 : (l0.length : Int) > 1048576
  ·rw [if_pos c4] at H
   have c4b0 : decide (1048576 < (l0.length : Int)) = true := decide_eq_true c4
   have c4b1 : decide (1048576 < l0.length) = true := decide_eq_true (by omega)
   clear c4
   (first | rw [c4b0] | (simp only [i64_w, i32_w]; rw [c4b0]) | skip)
   have H' := Aside0.mk H
   clear H
   go_wp2
   go_meet
   case rel => exact ⟨_, (true), zs, H', ⟨by first | omega | exact Nat.le_refl _⟩, ⟨zb HB⟩⟩
  ·rw [if_neg c4] at H
   have c4b0 : decide (1048576 < (l0.length : Int)) = false := decide_eq_false c4
   have c4b1 : decide (1048576 < l0.length) = false := decide_eq_false (by omega)
   clear c4
   (first | rw [c4b0] | (simp only [i64_w, i32_w]; rw [c4b0]) | skip)
   have H' := Aside0.mk H
   clear H
   go_wp2
   go_meet
   case rel => exact ⟨_, (decide ((l1.length : Int) > 1048576)), zs, H', ⟨by first | omega | exact Nat.le_refl _⟩, ⟨zb HB⟩⟩
 case rest =>
  clear HC3
  try clear c1
  try clear p2
  try clear c4
  try clear c4b0
  try clear c4b1
  obtain ⟨kq, x18_2, rfl, HA, HJ2, HB⟩ := hcut
  cases kq with
  | zero => exact absurd HA.out (by simp [laws_FnAddTwo.j0])
  | succ kj2 =>
   have H := HA.out
   clear HA
   simp only [laws_FnAddTwo.j0] at H
   by_cases c5 : x18_2 = true
   ·subst c5
    have H1 : (some true) = some r := by rw [if_pos rfl] at H; exact H
    clear H
    have H := H1
    clear H1
    obtain rfl := Option.some.inj H
    go_wp2
    go_ret
    exact ⟨ze, zb HB⟩
   ·replace c5 := Bool.eq_false_iff.mpr c5
    subst c5
    have H1 : ((spec_DrawTableAdd.f kj2 l0).bind fun bt329 => ((impl_TableAdd.f kj2 bt329.1 bt329.2.1 bt329.2.2.1 bt329.2.2.2.1 bt329.2.2.2.2).bind fun bt338 => ((spec_TableAdd.f kj2 bt329.1 bt329.2.1 bt329.2.2.1 bt329.2.2.2.1 bt329.2.2.2.2).bind fun bt343 => ((laws_lkTable.f kj2 bt338.1 bt338.2 bt343.1 bt343.2).bind fun t347 => (if t347 = true then ((spec_TableOk.f kj2 bt329.1 bt329.2.1).bind fun t348 => (if t348 = true then ((spec_FieldOk.f kj2 bt329.2.2.1 bt329.2.2.2.1 bt329.2.2.2.2).bind fun t349 => (laws_FnAddTwo.j1 kj2 l1 (!t349) bt329.1 bt329.2.1 bt329.2.2.1 bt329.2.2.2.1 bt329.2.2.2.2 bt338.1 bt338.2)) else (laws_FnAddTwo.j1 kj2 l1 true bt329.1 bt329.2.1 bt329.2.2.1 bt329.2.2.2.1 bt329.2.2.2.2 bt338.1 bt338.2))) else (laws_FnAddTwo.j1 kj2 l1 true bt329.1 bt329.2.1 bt329.2.2.1 bt329.2.2.2.1 bt329.2.2.2.2 bt338.1 bt338.2)))))) = some r := by rw [if_neg (show ¬ (false = true) by decide)] at H; exact H
    clear H
    have H := H1
    clear H1
    replace H := Option.bind_eq_some_iff.mp H
    obtain ⟨⟨t329, t332, t333, t334, t335⟩, A60, H⟩ := H
    replace H : ((impl_TableAdd.f kj2 t329 t332 t333 t334 t335).bind fun bt338 => ((spec_TableAdd.f kj2 t329 t332 t333 t334 t335).bind fun bt343 => ((laws_lkTable.f kj2 bt338.1 bt338.2 bt343.1 bt343.2).bind fun t347 => (if t347 = true then ((spec_TableOk.f kj2 t329 t332).bind fun t348 => (if t348 = true then ((spec_FieldOk.f kj2 t333 t334 t335).bind fun t349 => (laws_FnAddTwo.j1 kj2 l1 (!t349) t329 t332 t333 t334 t335 bt338.1 bt338.2)) else (laws_FnAddTwo.j1 kj2 l1 true t329 t332 t333 t334 t335 bt338.1 bt338.2))) else (laws_FnAddTwo.j1 kj2 l1 true t329 t332 t333 t334 t335 bt338.1 bt338.2))))) = some r := H
    have A6 := Aside0.mk A60
    clear A60
    replace H := Option.bind_eq_some_iff.mp H
    obtain ⟨⟨t338, t341⟩, A70, H⟩ := H
    replace H : ((spec_TableAdd.f kj2 t329 t332 t333 t334 t335).bind fun bt343 => ((laws_lkTable.f kj2 t338 t341 bt343.1 bt343.2).bind fun t347 => (if t347 = true then ((spec_TableOk.f kj2 t329 t332).bind fun t348 => (if t348 = true then ((spec_FieldOk.f kj2 t333 t334 t335).bind fun t349 => (laws_FnAddTwo.j1 kj2 l1 (!t349) t329 t332 t333 t334 t335 t338 t341)) else (laws_FnAddTwo.j1 kj2 l1 true t329 t332 t333 t334 t335 t338 t341))) else (laws_FnAddTwo.j1 kj2 l1 true t329 t332 t333 t334 t335 t338 t341)))) = some r := H
    have A7 := Aside0.mk A70
    clear A70
    have HC8 := Aside0.mk H
    clear H
    go_upto_region 5 with (first | ((with_reducible refine gq 29 rfl ?_); refine gl (some 21) Try.func29 #[.slice A0 l0.length c0] ?_; (with_reducible refine (spec_DrawTableAdd.calls kj2 _ _ l0 t329 t332 t333 t334 t335 _ ?side1 ?side2 A6.out).mono ?_); (case side1 => exact zc (Kd.C_below HR0.out HB.out)); (case side2 => exact HC0.out); rintro e w9 ⟨v330, rfl, ho0, hb⟩; refine ⟨_, rfl, ?_⟩; have HO331 := Aside0.mk (Kd.R_lower ho0 (below_size (zb HB))); replace HB := Aside0.mk (below_step (zb HB) hb); (try clear hb); (try clear ho0)) | ((with_reducible refine gd 5 rfl ?_); (try (refine gate_guard (by rfl) ?_; dsimp only)); refine bx (N := 5) (cs := #[.slice none 0 0, .int .i64 0]) (t := 25) ?_; intro gb336 hg w10 hbox hb; replace HO331 := Aside0.mk (Kd.R_below (zr HO331) hb); have BK336 := Aside0.mk (hbox); have GW336 := Aside0.mk ((by rw [hg]; exact (below_size (zb HB)) : w.heap.size ≤ gb336)); have GE336 := Aside0.mk ((by rw [hg]; exact (below_size (zb HB)) : w.heap.size ≤ gb336)); replace HB := Aside0.mk (below_step (zb HB) hb); clear hb hbox hg) | ((with_reducible refine gd 6 rfl ?_); (try (refine gate_guard (by rfl) ?_; dsimp only)); refine bx (N := 6) (cs := #[.string (⟨#[]⟩ : ByteArray), .string (⟨#[]⟩ : ByteArray), .bool false]) (t := 36) ?_; intro gb337 hg w11 hbox hb; replace HO331 := Aside0.mk (Kd.R_below (Kd.R_elderB (zr HO331) gb337 (Nat.le_of_eq hg.symm)) hb); have BK337 := Aside0.mk (hbox); have GW337 := Aside0.mk ((by rw [hg]; exact (below_size (zb HB)) : w.heap.size ≤ gb337)); have GE337 := Aside0.mk ((by rw [hg]; exact (below_size (zb HB)) : w.heap.size ≤ gb337)); replace HB := Aside0.mk (below_step (zb HB) hb); have NB336_337 := Aside0.mk ((by rw [hg]; exact Nat.ne_of_lt (blk_lt (g := gb336) (o := .cells #[.slice none 0 0, .int .i64 0] 25 (0, 0)) (zk BK336)) : gb336 ≠ gb337)); have NB337_336 := Aside0.mk ((by rw [hg]; exact Nat.ne_of_gt (blk_lt (g := gb336) (o := .cells #[.slice none 0 0, .int .i64 0] 25 (0, 0)) (zk BK336)) : gb337 ≠ gb336)); replace BK336 := Aside0.mk (blk_below (g := gb336) (o := .cells #[.slice none 0 0, .int .i64 0] 25 (0, 0)) (zk BK336) hb); clear hb hbox hg; obtain ⟨Ao12, co12, eo12⟩ := Kd.R_slice HO331.out; subst eo12; have hnb13 := NB336_337.out; have hnc13 := NB337_336.out; have hcz14_0 : w11.cell? ⟨gb336, 0, none⟩ = some (.slice none 0 0) := (blk_cell BK336.out 0).trans rfl; have hcz14_1 : w11.cell? ⟨gb336, 1, none⟩ = some (.int .i64 0) := (blk_cell BK336.out 1).trans rfl; have hfz14_0 := blk_frozen BK336.out 0; have hfz14_1 := blk_frozen BK336.out 1; have hcz15_0 : w11.cell? ⟨gb337, 0, none⟩ = some (.string (⟨#[]⟩ : ByteArray)) := (blk_cell BK337.out 0).trans rfl; have hcz15_1 : w11.cell? ⟨gb337, 1, none⟩ = some (.string (⟨#[]⟩ : ByteArray)) := (blk_cell BK337.out 1).trans rfl; have hcz15_2 : w11.cell? ⟨gb337, 2, none⟩ = some (.bool false) := (blk_cell BK337.out 2).trans rfl; have hfz15_0 := blk_frozen BK337.out 0; have hfz15_1 := blk_frozen BK337.out 1; have hfz15_2 := blk_frozen BK337.out 2) | ((with_reducible refine gq 30 rfl ?_); refine gl (some 26) Try.func30 #[.agg #[.slice Ao12 t329.length co12, .int .i64 t332], .agg #[.string t333, .string t334, .bool t335]] ?_; (with_reducible refine (impl_TableAdd.calls kj2 _ _ t329 t332 t333 t334 t335 t338 t341 _ ?side1 ?side2 A7.out).mono ?_); (case side1 => refine (Kd.R_reads' (e := 36) (base := w.heap.size) (ok := fun k_ => (True ∧ k_ ≠ gb337)) (n := t329.length) (c := co12) ?_).2.2; exact (by (with_reducible repeat (first | apply Kd.R_alloc | apply Kd.R_drewN | apply Kd.R_drew)); exact (Kd.R_mono (Kd.R_mono (Kd.R_far (p := ⟨gb337, 2, none⟩) (Kd.R_far (p := ⟨gb337, 1, none⟩) (Kd.R_far (p := ⟨gb337, 0, none⟩) (Kd.R_far (p := ⟨gb336, 1, none⟩) (Kd.R_far (p := ⟨gb336, 0, none⟩) (Kd.R_mono (Kd.R_types HO331.out BK336.out (by decide)) (fun k_ hk => (⟨hk, hk.1.2⟩ : _ ∧ k_ ≠ gb337))) (fun _ hk => hk.1.2) (.slice Ao12 t329.length co12)) (fun _ hk => hk.1.2) (.int .i64 t332)) (fun _ hk => hk.2) (.string t333)) (fun _ hk => hk.2) (.string t334)) (fun _ hk => hk.2) (.bool t335)) (fun _ h_ => h_.1)) (fun _ h_ => h_.1)))); (case side2 => exact (Kd.R_reads' HO331.out).2.1); rintro e w16 ⟨v339, rfl, ho0, hb⟩; refine ⟨_, rfl, ?_⟩; have HO340 := Aside0.mk (Kd.R_lower (Kd.R_newB (Kd.R_new' ho0 (Kd.R_lt (by (with_reducible repeat (first | apply Kd.R_alloc | apply Kd.R_drewN | apply Kd.R_drew)); exact (Kd.R_mono (Kd.R_mono (Kd.R_far (p := ⟨gb337, 2, none⟩) (Kd.R_far (p := ⟨gb337, 1, none⟩) (Kd.R_far (p := ⟨gb337, 0, none⟩) (Kd.R_far (p := ⟨gb336, 1, none⟩) (Kd.R_far (p := ⟨gb336, 0, none⟩) (Kd.R_mono (Kd.R_types HO331.out BK336.out (by decide)) (fun k_ hk => (⟨hk, hk.1.2⟩ : _ ∧ k_ ≠ gb337))) (fun _ hk => hk.1.2) (.slice Ao12 t329.length co12)) (fun _ hk => hk.1.2) (.int .i64 t332)) (fun _ hk => hk.2) (.string t333)) (fun _ hk => hk.2) (.string t334)) (fun _ hk => hk.2) (.bool t335)) (fun _ h_ => h_.1)) (fun _ h_ => h_.1))))) (g := gb337) (o := .cells #[.string t333, .string t334, .bool t335] 36 (0, 0)) (by (with_reducible repeat (first | refine blk_drewN ?_ _ | refine blk_drew ?_ | refine blk_alloc ?_ _)); refine blk_put (cs := #[.string t333, .string t334, .bool false]) ?_ 2 _ rfl; (with_reducible repeat (first | refine blk_drewN ?_ _ | refine blk_drew ?_ | refine blk_alloc ?_ _)); refine blk_put (cs := #[.string t333, .string (⟨#[]⟩ : ByteArray), .bool false]) ?_ 1 _ rfl; (with_reducible repeat (first | refine blk_drewN ?_ _ | refine blk_drew ?_ | refine blk_alloc ?_ _)); refine blk_put (cs := #[.string (⟨#[]⟩ : ByteArray), .string (⟨#[]⟩ : ByteArray), .bool false]) ?_ 0 _ rfl; (with_reducible repeat (first | refine blk_drewN ?_ _ | refine blk_drew ?_ | refine blk_alloc ?_ _)); refine blk_far ?_ NB337_336.out _; (with_reducible repeat (first | refine blk_drewN ?_ _ | refine blk_drew ?_ | refine blk_alloc ?_ _)); refine blk_far ?_ NB337_336.out _; exact zk BK337)) (below_size (zb HB))); replace HO331 := Aside0.mk (Kd.R_elder' (by (with_reducible repeat (first | apply Kd.R_alloc | apply Kd.R_drewN | apply Kd.R_drew)); exact (Kd.R_mono (Kd.R_mono (Kd.R_far (p := ⟨gb337, 2, none⟩) (Kd.R_far (p := ⟨gb337, 1, none⟩) (Kd.R_far (p := ⟨gb337, 0, none⟩) (Kd.R_far (p := ⟨gb336, 1, none⟩) (Kd.R_far (p := ⟨gb336, 0, none⟩) (Kd.R_mono (Kd.R_types HO331.out BK336.out (by decide)) (fun k_ hk => (⟨hk, hk.1.2⟩ : _ ∧ k_ ≠ gb337))) (fun _ hk => hk.1.2) (.slice Ao12 t329.length co12)) (fun _ hk => hk.1.2) (.int .i64 t332)) (fun _ hk => hk.2) (.string t333)) (fun _ hk => hk.2) (.string t334)) (fun _ hk => hk.2) (.bool t335)) (fun _ h_ => h_.1)) (fun _ h_ => h_.1))) (Kd.R_base ho0) hb); replace BK336 := Aside0.mk (blk_below (g := gb336) (o := .cells #[.slice Ao12 t329.length co12, .int .i64 t332] 25 (0, 0)) (by (with_reducible repeat (first | refine blk_drewN ?_ _ | refine blk_drew ?_ | refine blk_alloc ?_ _)); refine blk_far ?_ NB336_337.out _; (with_reducible repeat (first | refine blk_drewN ?_ _ | refine blk_drew ?_ | refine blk_alloc ?_ _)); refine blk_far ?_ NB336_337.out _; (with_reducible repeat (first | refine blk_drewN ?_ _ | refine blk_drew ?_ | refine blk_alloc ?_ _)); refine blk_far ?_ NB336_337.out _; (with_reducible repeat (first | refine blk_drewN ?_ _ | refine blk_drew ?_ | refine blk_alloc ?_ _)); refine blk_put (cs := #[.slice Ao12 t329.length co12, .int .i64 0]) ?_ 1 _ rfl; (with_reducible repeat (first | refine blk_drewN ?_ _ | refine blk_drew ?_ | refine blk_alloc ?_ _)); refine blk_put (cs := #[.slice none 0 0, .int .i64 0]) ?_ 0 _ rfl; exact zk BK336) hb); replace BK337 := Aside0.mk (blk_below (g := gb337) (o := .cells #[.string t333, .string t334, .bool t335] 36 (0, 0)) (by (with_reducible repeat (first | refine blk_drewN ?_ _ | refine blk_drew ?_ | refine blk_alloc ?_ _)); refine blk_put (cs := #[.string t333, .string t334, .bool false]) ?_ 2 _ rfl; (with_reducible repeat (first | refine blk_drewN ?_ _ | refine blk_drew ?_ | refine blk_alloc ?_ _)); refine blk_put (cs := #[.string t333, .string (⟨#[]⟩ : ByteArray), .bool false]) ?_ 1 _ rfl; (with_reducible repeat (first | refine blk_drewN ?_ _ | refine blk_drew ?_ | refine blk_alloc ?_ _)); refine blk_put (cs := #[.string (⟨#[]⟩ : ByteArray), .string (⟨#[]⟩ : ByteArray), .bool false]) ?_ 0 _ rfl; (with_reducible repeat (first | refine blk_drewN ?_ _ | refine blk_drew ?_ | refine blk_alloc ?_ _)); refine blk_far ?_ NB337_336.out _; (with_reducible repeat (first | refine blk_drewN ?_ _ | refine blk_drew ?_ | refine blk_alloc ?_ _)); refine blk_far ?_ NB337_336.out _; exact zk BK337) hb); replace HB := Aside0.mk (below_step (zb HB) hb); (try clear hb); (try clear hk); (try clear ho0)) | ((with_reducible refine gd 7 rfl ?_); (try (refine gate_guard (by rfl) ?_; dsimp only)); refine bx (N := 7) (cs := #[.slice none 0 0, .int .i64 0]) (t := 25) ?_; intro gb342 hg w17 hbox hb; replace HO331 := Aside0.mk (Kd.R_below (zr HO331) hb); replace HO340 := Aside0.mk (Kd.R_below (zr HO340) hb); have BK342 := Aside0.mk (hbox); have GW342 := Aside0.mk ((by rw [hg]; exact (below_size (zb HB)) : w.heap.size ≤ gb342)); have GE342 := Aside0.mk ((by rw [hg]; exact (below_size (zb HB)) : w.heap.size ≤ gb342)); replace HB := Aside0.mk (below_step (zb HB) hb); have NB336_342 := Aside0.mk ((by rw [hg]; exact Nat.ne_of_lt (blk_lt (g := gb336) (o := .cells #[.slice Ao12 t329.length co12, .int .i64 t332] 25 (0, 0)) (zk BK336)) : gb336 ≠ gb342)); have NB342_336 := Aside0.mk ((by rw [hg]; exact Nat.ne_of_gt (blk_lt (g := gb336) (o := .cells #[.slice Ao12 t329.length co12, .int .i64 t332] 25 (0, 0)) (zk BK336)) : gb342 ≠ gb336)); replace BK336 := Aside0.mk (blk_below (g := gb336) (o := .cells #[.slice Ao12 t329.length co12, .int .i64 t332] 25 (0, 0)) (zk BK336) hb); have NB337_342 := Aside0.mk ((by rw [hg]; exact Nat.ne_of_lt (blk_lt (g := gb337) (o := .cells #[.string t333, .string t334, .bool t335] 36 (0, 0)) (zk BK337)) : gb337 ≠ gb342)); have NB342_337 := Aside0.mk ((by rw [hg]; exact Nat.ne_of_gt (blk_lt (g := gb337) (o := .cells #[.string t333, .string t334, .bool t335] 36 (0, 0)) (zk BK337)) : gb342 ≠ gb337)); replace BK337 := Aside0.mk (blk_below (g := gb337) (o := .cells #[.string t333, .string t334, .bool t335] 36 (0, 0)) (zk BK337) hb); clear hb hbox hg; obtain ⟨Ao18, co18, eo18⟩ := Kd.R_slice HO340.out; subst eo18; have hnb19 := NB342_336.out; have hnc19 := NB336_342.out; have hnb20 := NB342_337.out; have hnc20 := NB337_342.out; have hcz21_0 : w17.cell? ⟨gb342, 0, none⟩ = some (.slice none 0 0) := (blk_cell BK342.out 0).trans rfl; have hcz21_1 : w17.cell? ⟨gb342, 1, none⟩ = some (.int .i64 0) := (blk_cell BK342.out 1).trans rfl; have hfz21_0 := blk_frozen BK342.out 0; have hfz21_1 := blk_frozen BK342.out 1))
    (try simp only [Act.put, s1, s2, s3])
    go_cut [42] (fun v42 wc => ∃ (kq : Nat) (x42_7 : Bool), v42 = .bool x42_7 ∧ Aside0 (laws_FnAddTwo.j1 kq l1 x42_7 t329 t332 t333 t334 t335 t338 t341 = some r) ∧ Aside0 (kq ≤ kj2) ∧ Aside0 (Kd.R k36 36 wc w.heap.size (fun k_ => some k_ ≠ ((.slice Ao18 t338.length co18) : Value).ownBlock ∧ k_ ≠ gb337) (.slice Ao12 t329.length co12) t329) ∧ Aside0 (Kd.R k36 36 wc w.heap.size (fun k_ => some k_ ≠ ((.slice Ao12 t329.length co12) : Value).ownBlock ∧ k_ ≠ gb337) (.slice Ao18 t338.length co18) t338) ∧ Aside0 (wc.heap[gb336]? = some (.cells #[(.slice Ao12 t329.length co12), .int .i64 t332] 25 (0, 0))) ∧ Aside0 (wc.heap[gb337]? = some (.cells #[.string t333, .string t334, .bool t335] 36 (0, 0))) ∧ Aside0 (wc.heap[gb342]? = some (.cells #[(.slice Ao18 t338.length co18), .int .i64 t341] 25 (0, 0))) ∧ Aside0 (Below w.heap.size w wc))
    case first =>
     have H := HC8.out
     clear HC8
     replace H := Option.bind_eq_some_iff.mp H
     obtain ⟨⟨t343, t346⟩, A220, H⟩ := H
     replace H : ((laws_lkTable.f kj2 t338 t341 t343 t346).bind fun t347 => (if t347 = true then ((spec_TableOk.f kj2 t329 t332).bind fun t348 => (if t348 = true then ((spec_FieldOk.f kj2 t333 t334 t335).bind fun t349 => (laws_FnAddTwo.j1 kj2 l1 (!t349) t329 t332 t333 t334 t335 t338 t341)) else (laws_FnAddTwo.j1 kj2 l1 true t329 t332 t333 t334 t335 t338 t341))) else (laws_FnAddTwo.j1 kj2 l1 true t329 t332 t333 t334 t335 t338 t341))) = some r := H
     have A22 := Aside0.mk A220
     clear A220
     replace H := Option.bind_eq_some_iff.mp H
     obtain ⟨t347, A230, H⟩ := H
     replace H : (if t347 = true then ((spec_TableOk.f kj2 t329 t332).bind fun t348 => (if t348 = true then ((spec_FieldOk.f kj2 t333 t334 t335).bind fun t349 => (laws_FnAddTwo.j1 kj2 l1 (!t349) t329 t332 t333 t334 t335 t338 t341)) else (laws_FnAddTwo.j1 kj2 l1 true t329 t332 t333 t334 t335 t338 t341))) else (laws_FnAddTwo.j1 kj2 l1 true t329 t332 t333 t334 t335 t338 t341)) = some r := H
     have A23 := Aside0.mk A230
     clear A230
     by_cases c24 : t347 = true
     ·subst c24
      have H1 : ((spec_TableOk.f kj2 t329 t332).bind fun t348 => (if t348 = true then ((spec_FieldOk.f kj2 t333 t334 t335).bind fun t349 => (laws_FnAddTwo.j1 kj2 l1 (!t349) t329 t332 t333 t334 t335 t338 t341)) else (laws_FnAddTwo.j1 kj2 l1 true t329 t332 t333 t334 t335 t338 t341))) = some r := by rw [if_pos rfl] at H; exact H
      clear H
      have H := H1
      clear H1
      replace H := Option.bind_eq_some_iff.mp H
      obtain ⟨t348, A250, H⟩ := H
      replace H : (if t348 = true then ((spec_FieldOk.f kj2 t333 t334 t335).bind fun t349 => (laws_FnAddTwo.j1 kj2 l1 (!t349) t329 t332 t333 t334 t335 t338 t341)) else (laws_FnAddTwo.j1 kj2 l1 true t329 t332 t333 t334 t335 t338 t341)) = some r := H
      have A25 := Aside0.mk A250
      clear A250
      by_cases c26 : t348 = true
      ·subst c26
       have H1 : ((spec_FieldOk.f kj2 t333 t334 t335).bind fun t349 => (laws_FnAddTwo.j1 kj2 l1 (!t349) t329 t332 t333 t334 t335 t338 t341)) = some r := by rw [if_pos rfl] at H; exact H
       clear H
       have H := H1
       clear H1
       replace H := Option.bind_eq_some_iff.mp H
       obtain ⟨t349, A270, H⟩ := H
       replace H : (laws_FnAddTwo.j1 kj2 l1 (!t349) t329 t332 t333 t334 t335 t338 t341) = some r := H
       have A27 := Aside0.mk A270
       clear A270
       have H' := Aside0.mk H
       clear H
       try go_wp2
       have n0_ : Aside0 (Kd.R k36 36 ((w17.setCell ⟨gb342, 0, none⟩ (.slice Ao18 t338.length co18)).setCell ⟨gb342, 1, none⟩ (.int .i64 t341)) w.heap.size (fun k_ => some k_ ≠ (.slice Ao18 t338.length co18 : Value).ownBlock ∧ k_ ≠ gb337) (.slice Ao12 t329.length co12) t329) := ⟨by (with_reducible repeat (first | apply Kd.R_alloc | apply Kd.R_drewN | apply Kd.R_drew)); exact Kd.R_mono (Kd.R_far (p := ⟨gb342, 1, none⟩) (Kd.R_far (p := ⟨gb342, 0, none⟩) (Kd.R_types HO331.out BK342.out (by decide)) (fun _ hk => hk.2) (.slice Ao18 t338.length co18)) (fun _ hk => hk.2) (.int .i64 t341)) (fun _ hk => ⟨hk.1.2, hk.1.1.2⟩)⟩
       have n1_ : Aside0 (Kd.R k36 36 ((w17.setCell ⟨gb342, 0, none⟩ (.slice Ao18 t338.length co18)).setCell ⟨gb342, 1, none⟩ (.int .i64 t341)) w.heap.size (fun k_ => some k_ ≠ (.slice Ao12 t329.length co12 : Value).ownBlock ∧ k_ ≠ gb337) (.slice Ao18 t338.length co18) t338) := ⟨by (with_reducible repeat (first | apply Kd.R_alloc | apply Kd.R_drewN | apply Kd.R_drew)); exact Kd.R_mono (Kd.R_far (p := ⟨gb342, 1, none⟩) (Kd.R_far (p := ⟨gb342, 0, none⟩) (Kd.R_types HO340.out BK342.out (by decide)) (fun _ hk => hk.2) (.slice Ao18 t338.length co18)) (fun _ hk => hk.2) (.int .i64 t341)) (fun _ hk => ⟨hk.1.1.2, hk.1.2⟩)⟩
       have n2_ : Aside0 (((w17.setCell ⟨gb342, 0, none⟩ (.slice Ao18 t338.length co18)).setCell ⟨gb342, 1, none⟩ (.int .i64 t341)).heap[gb336]? = some (.cells #[.slice Ao12 t329.length co12, .int .i64 t332] 25 (0, 0))) := ⟨by (with_reducible repeat (first | refine blk_drewN ?_ _ | refine blk_drew ?_ | refine blk_alloc ?_ _)); refine blk_far ?_ NB336_342.out _; (with_reducible repeat (first | refine blk_drewN ?_ _ | refine blk_drew ?_ | refine blk_alloc ?_ _)); refine blk_far ?_ NB336_342.out _; exact zk BK336⟩
       have n3_ : Aside0 (((w17.setCell ⟨gb342, 0, none⟩ (.slice Ao18 t338.length co18)).setCell ⟨gb342, 1, none⟩ (.int .i64 t341)).heap[gb337]? = some (.cells #[.string t333, .string t334, .bool t335] 36 (0, 0))) := ⟨by (with_reducible repeat (first | refine blk_drewN ?_ _ | refine blk_drew ?_ | refine blk_alloc ?_ _)); refine blk_far ?_ NB337_342.out _; (with_reducible repeat (first | refine blk_drewN ?_ _ | refine blk_drew ?_ | refine blk_alloc ?_ _)); refine blk_far ?_ NB337_342.out _; exact zk BK337⟩
       have n4_ : Aside0 (((w17.setCell ⟨gb342, 0, none⟩ (.slice Ao18 t338.length co18)).setCell ⟨gb342, 1, none⟩ (.int .i64 t341)).heap[gb342]? = some (.cells #[.slice Ao18 t338.length co18, .int .i64 t341] 25 (0, 0))) := ⟨by (with_reducible repeat (first | refine blk_drewN ?_ _ | refine blk_drew ?_ | refine blk_alloc ?_ _)); refine blk_put (cs := #[.slice Ao18 t338.length co18, .int .i64 0]) ?_ 1 _ rfl; (with_reducible repeat (first | refine blk_drewN ?_ _ | refine blk_drew ?_ | refine blk_alloc ?_ _)); refine blk_put (cs := #[.slice none 0 0, .int .i64 0]) ?_ 0 _ rfl; exact zk BK342⟩
       have n5_ : Aside0 (Below w.heap.size w ((w17.setCell ⟨gb342, 0, none⟩ (.slice Ao18 t338.length co18)).setCell ⟨gb342, 1, none⟩ (.int .i64 t341))) := ⟨zb HB⟩
       (try clear HO331)
       (try clear HO340)
       (try clear BK336)
       (try clear BK337)
       (try clear BK342)
       (try clear HB)
       generalize ((w17.setCell ⟨gb342, 0, none⟩ (.slice Ao18 t338.length co18)).setCell ⟨gb342, 1, none⟩ (.int .i64 t341)) = w28 at n0_ n1_ n2_ n3_ n4_ n5_ ⊢
       have HO331 := n0_
       have HO340 := n1_
       have BK336 := n2_
       have BK337 := n3_
       have BK342 := n4_
       have HB := n5_
       clear n0_ n1_ n2_ n3_ n4_ n5_
       replace HO331 := Aside0.mk (Kd.R_drew HO331.out)
       replace HO340 := Aside0.mk (Kd.R_drew HO340.out)
       replace BK336 := Aside0.mk (blk_drew BK336.out)
       replace BK337 := Aside0.mk (blk_drew BK337.out)
       replace BK342 := Aside0.mk (blk_drew BK342.out)
       replace HB := Aside0.mk (below_drew1 HB.out)
       refine start_ (n := 16) (S := fun w' => w'.cell? ⟨gb342, 0, none⟩ = some (.slice Ao18 t338.length co18) ∧ w'.cell? ⟨gb342, 1, none⟩ = some (.int .i64 t341) ∧ w'.cell? ⟨gb336, 0, none⟩ = some (.slice Ao12 t329.length co12) ∧ w'.cell? ⟨gb336, 1, none⟩ = some (.int .i64 t332) ∧ w'.cell? ⟨gb337, 0, none⟩ = some (.string t333) ∧ w'.cell? ⟨gb337, 1, none⟩ = some (.string t334) ∧ w'.cell? ⟨gb337, 2, none⟩ = some (.bool t335)) (ds := []) #[false, false, false, false, false, false, false, false, false, false, false, false, false, false, false, false] (by kernel_rfl) rfl rfl ⟨(blk_cell BK342.out 0).trans rfl, (blk_cell BK342.out 1).trans rfl, (blk_cell BK336.out 0).trans rfl, (blk_cell BK336.out 1).trans rfl, (blk_cell BK337.out 0).trans rfl, (blk_cell BK337.out 1).trans rfl, (blk_cell BK337.out 2).trans rfl⟩ (fun hHeld => ?_); refine with_tabW laws_FnAddTwo.tab5 laws_FnAddTwo.bits5 (fun HT_ HW_ => ?_)
       generalize w28.drew = w29 at HO331 HO340 BK336 BK337 BK342 HB hHeld ⊢
       refine tk7 0 (some 27) (bm 16 1) rfl rfl hHeld ?_
       refine tk7 1 (some 28) (bm 16 3) rfl rfl hHeld ?_
       refine tk7 2 (some 29) (bm 16 7) rfl rfl hHeld ?_
       refine one_ (i := 3) (N := some 30) (bm 16 15) rfl rfl (one_of HT_.out (by kernel_rfl)) (by decide) (fun K hK => ?_)
       refine gs Try.func31 #[.agg #[.slice Ao12 t329.length co12, .int .i64 t332], .agg #[.string t333, .string t334, .bool t335]] ?_
       with_reducible refine (spec_TableAdd.calls kj2 _ _ t329 t332 t333 t334 t335 t343 t346 _ ?side1 ?side2 A22.out).mono ?_
       (case side1 => exact zc (Kd.R_reads' HO331.out).2.2)
       (case side2 => exact (Kd.R_reads' HO331.out).2.1)
       rintro e w30 ⟨v344, rfl, ho0, hb⟩
       refine ⟨_, rfl, ?_⟩
       have HO345 := Aside0.mk (Kd.R_lower (Kd.R_newB (Kd.R_new' (Kd.R_new' ho0 (Kd.R_lt (zr HO331))) (Kd.R_lt (zr HO340))) (g := gb337) (o := .cells #[.string t333, .string t334, .bool t335] 36 (0, 0)) (zk BK337)) (below_size (zb HB)))
       replace HO331 := Aside0.mk (Kd.R_elder' (zr HO331) (Kd.R_base ho0) hb)
       replace HO340 := Aside0.mk (Kd.R_elder' (zr HO340) (Kd.R_base ho0) hb)
       replace BK336 := Aside0.mk (blk_below (g := gb336) (o := .cells #[.slice Ao12 t329.length co12, .int .i64 t332] 25 (0, 0)) (zk BK336) hb)
       replace BK337 := Aside0.mk (blk_below (g := gb337) (o := .cells #[.string t333, .string t334, .bool t335] 36 (0, 0)) (zk BK337) hb)
       replace BK342 := Aside0.mk (blk_below (g := gb342) (o := .cells #[.slice Ao18 t338.length co18, .int .i64 t341] 25 (0, 0)) (zk BK342) hb)
       replace HB := Aside0.mk (below_step (zb HB) hb)
       (try clear hb)
       (try clear ho0)
       obtain ⟨Ao31, co31, eo31⟩ := Kd.R_slice HO345.out
       (first | subst eo31 | (injection eo31 with f1_ f2_ f3_; have f4_ := f1_.symm; have f5_ := f3_.symm; clear f1_ f2_ f3_; subst f4_; subst f5_))
       refine hK.out _ _ ⟨(blk_cell BK342.out 0).trans rfl, (blk_cell BK342.out 1).trans rfl, (blk_cell BK336.out 0).trans rfl, (blk_cell BK336.out 1).trans rfl, (blk_cell BK337.out 0).trans rfl, (blk_cell BK337.out 1).trans rfl, (blk_cell BK337.out 2).trans rfl⟩ (fun hHeld => ?_)
       clear hK K
       refine nm ?_
       refine one_ (i := 4) (N := some 31) (bm 16 31) rfl rfl (one_of HT_.out (by kernel_rfl)) (by decide) (fun K hK => ?_)
       refine gs Try.func17 #[.agg #[.slice Ao18 t338.length co18, .int .i64 t341], .agg #[.slice Ao31 t343.length co31, .int .i64 t346]] ?_
       with_reducible refine (laws_lkTable.calls kj2 _ _ t338 t341 _ _ t343 t346 true _ ?side1 ?side2 ?side3 ?side4 A23.out).mono ?_
       (case side1 => exact zc (Kd.R_reads' HO340.out).2.2)
       (case side2 => exact (Kd.R_reads' HO340.out).2.1)
       (case side3 => exact zc (Kd.R_reads' HO345.out).2.2)
       (case side4 => exact (Kd.R_reads' HO345.out).2.1)
       rintro e w32 ⟨rfl, hb⟩
       refine ⟨_, rfl, ?_⟩
       replace HO331 := Aside0.mk (Kd.R_below (zr HO331) hb)
       replace HO340 := Aside0.mk (Kd.R_below (zr HO340) hb)
       replace HO345 := Aside0.mk (Kd.R_below (zr HO345) hb)
       replace BK336 := Aside0.mk (blk_below (g := gb336) (o := .cells #[.slice Ao12 t329.length co12, .int .i64 t332] 25 (0, 0)) (zk BK336) hb)
       replace BK337 := Aside0.mk (blk_below (g := gb337) (o := .cells #[.string t333, .string t334, .bool t335] 36 (0, 0)) (zk BK337) hb)
       replace BK342 := Aside0.mk (blk_below (g := gb342) (o := .cells #[.slice Ao18 t338.length co18, .int .i64 t341] 25 (0, 0)) (zk BK342) hb)
       replace HB := Aside0.mk (below_step (zb HB) hb)
       (try clear hb)
       refine hK.out _ _ ⟨(blk_cell BK342.out 0).trans rfl, (blk_cell BK342.out 1).trans rfl, (blk_cell BK336.out 0).trans rfl, (blk_cell BK336.out 1).trans rfl, (blk_cell BK337.out 0).trans rfl, (blk_cell BK337.out 1).trans rfl, (blk_cell BK337.out 2).trans rfl⟩ (fun hHeld => ?_)
       clear hK K
       refine nm ?_
       refine pu 5 (some 32) (bm 16 63) rfl rfl ?_
       refine pu 6 (some 33) (bm 16 127) rfl rfl ?_
       refine tk7 7 (some 34) (bm 16 255) rfl rfl hHeld ?_
       refine one_ (i := 8) (N := some 35) (bm 16 511) rfl rfl (one_of HT_.out (by kernel_rfl)) (by decide) (fun K hK => ?_)
       refine gs Try.func19 #[.agg #[.slice Ao12 t329.length co12, .int .i64 t332]] ?_
       with_reducible refine (spec_TableOk.calls kj2 _ _ t329 t332 true _ ?side1 ?side2 A25.out).mono ?_
       (case side1 => exact zc (Kd.R_reads' HO331.out).2.2)
       (case side2 => exact (Kd.R_reads' HO331.out).2.1)
       rintro e w33 ⟨rfl, hb⟩
       refine ⟨_, rfl, ?_⟩
       replace HO331 := Aside0.mk (Kd.R_below (zr HO331) hb)
       replace HO340 := Aside0.mk (Kd.R_below (zr HO340) hb)
       replace HO345 := Aside0.mk (Kd.R_below (zr HO345) hb)
       replace BK336 := Aside0.mk (blk_below (g := gb336) (o := .cells #[.slice Ao12 t329.length co12, .int .i64 t332] 25 (0, 0)) (zk BK336) hb)
       replace BK337 := Aside0.mk (blk_below (g := gb337) (o := .cells #[.string t333, .string t334, .bool t335] 36 (0, 0)) (zk BK337) hb)
       replace BK342 := Aside0.mk (blk_below (g := gb342) (o := .cells #[.slice Ao18 t338.length co18, .int .i64 t341] 25 (0, 0)) (zk BK342) hb)
       replace HB := Aside0.mk (below_step (zb HB) hb)
       (try clear hb)
       refine hK.out _ _ ⟨(blk_cell BK342.out 0).trans rfl, (blk_cell BK342.out 1).trans rfl, (blk_cell BK336.out 0).trans rfl, (blk_cell BK336.out 1).trans rfl, (blk_cell BK337.out 0).trans rfl, (blk_cell BK337.out 1).trans rfl, (blk_cell BK337.out 2).trans rfl⟩ (fun hHeld => ?_)
       clear hK K
       refine nm ?_
       refine pu 9 (some 36) (bm 16 1023) rfl rfl ?_
       refine pu 10 (some 37) (bm 16 2047) rfl rfl ?_
       refine pu 11 (some 38) (bm 16 4095) rfl rfl ?_
       refine tk7 12 (some 39) (bm 16 8191) rfl rfl hHeld ?_
       refine one_ (i := 13) (N := some 40) (bm 16 16383) rfl rfl (one_of HT_.out (by kernel_rfl)) (by decide) (fun K hK => ?_)
       refine gs Try.func32 #[.agg #[.string t333, .string t334, .bool t335]] ?_
       with_reducible refine (spec_FieldOk.calls kj2 t333 t334 t335 t349 _ A27.out).mono ?_
       rintro e w34 ⟨rfl, hb⟩
       refine ⟨_, rfl, ?_⟩
       replace HO331 := Aside0.mk (Kd.R_below (zr HO331) hb)
       replace HO340 := Aside0.mk (Kd.R_below (zr HO340) hb)
       replace HO345 := Aside0.mk (Kd.R_below (zr HO345) hb)
       replace BK336 := Aside0.mk (blk_below (g := gb336) (o := .cells #[.slice Ao12 t329.length co12, .int .i64 t332] 25 (0, 0)) (zk BK336) hb)
       replace BK337 := Aside0.mk (blk_below (g := gb337) (o := .cells #[.string t333, .string t334, .bool t335] 36 (0, 0)) (zk BK337) hb)
       replace BK342 := Aside0.mk (blk_below (g := gb342) (o := .cells #[.slice Ao18 t338.length co18, .int .i64 t341] 25 (0, 0)) (zk BK342) hb)
       replace HB := Aside0.mk (below_step (zb HB) hb)
       (try clear hb)
       refine hK.out _ _ ⟨(blk_cell BK342.out 0).trans rfl, (blk_cell BK342.out 1).trans rfl, (blk_cell BK336.out 0).trans rfl, (blk_cell BK336.out 1).trans rfl, (blk_cell BK337.out 0).trans rfl, (blk_cell BK337.out 1).trans rfl, (blk_cell BK337.out 2).trans rfl⟩ (fun hHeld => ?_)
       clear hK K
       refine nm ?_
       refine pu 14 (some 41) (bm 16 32767) rfl rfl ?_
       refine pu 15 (some 42) (bm 16 65535) rfl rfl ?_
       refine done_ (done_of HT_.out (by kernel_rfl)) ?_
       try go_wp2
       go_meet
       case rel => exact ⟨_, (!t349), zs, H', ⟨by have := HJ2.out; first | omega | exact Nat.le_refl _⟩, ⟨by (with_reducible repeat (first | apply Kd.R_alloc | apply Kd.R_drewN | apply Kd.R_drew)); exact Kd.R_mono HO331.out (fun _ hk => ⟨hk.1.1, hk.1.2⟩)⟩, ⟨by (with_reducible repeat (first | apply Kd.R_alloc | apply Kd.R_drewN | apply Kd.R_drew)); exact Kd.R_mono HO340.out (fun _ hk => ⟨hk.1.1, hk.1.2⟩)⟩, ⟨by exact zk BK336⟩, ⟨by exact zk BK337⟩, ⟨by exact zk BK342⟩, ⟨zb HB⟩⟩
      ·replace c26 := Bool.eq_false_iff.mpr c26
       subst c26
       have H1 : (laws_FnAddTwo.j1 kj2 l1 true t329 t332 t333 t334 t335 t338 t341) = some r := by rw [if_neg (show ¬ (false = true) by decide)] at H; exact H
       clear H
       have H := H1
       clear H1
       have H' := Aside0.mk H
       clear H
       try go_wp2
       have n0_ : Aside0 (Kd.R k36 36 ((w17.setCell ⟨gb342, 0, none⟩ (.slice Ao18 t338.length co18)).setCell ⟨gb342, 1, none⟩ (.int .i64 t341)) w.heap.size (fun k_ => some k_ ≠ (.slice Ao18 t338.length co18 : Value).ownBlock ∧ k_ ≠ gb337) (.slice Ao12 t329.length co12) t329) := ⟨by (with_reducible repeat (first | apply Kd.R_alloc | apply Kd.R_drewN | apply Kd.R_drew)); exact Kd.R_mono (Kd.R_far (p := ⟨gb342, 1, none⟩) (Kd.R_far (p := ⟨gb342, 0, none⟩) (Kd.R_types HO331.out BK342.out (by decide)) (fun _ hk => hk.2) (.slice Ao18 t338.length co18)) (fun _ hk => hk.2) (.int .i64 t341)) (fun _ hk => ⟨hk.1.2, hk.1.1.2⟩)⟩
       have n1_ : Aside0 (Kd.R k36 36 ((w17.setCell ⟨gb342, 0, none⟩ (.slice Ao18 t338.length co18)).setCell ⟨gb342, 1, none⟩ (.int .i64 t341)) w.heap.size (fun k_ => some k_ ≠ (.slice Ao12 t329.length co12 : Value).ownBlock ∧ k_ ≠ gb337) (.slice Ao18 t338.length co18) t338) := ⟨by (with_reducible repeat (first | apply Kd.R_alloc | apply Kd.R_drewN | apply Kd.R_drew)); exact Kd.R_mono (Kd.R_far (p := ⟨gb342, 1, none⟩) (Kd.R_far (p := ⟨gb342, 0, none⟩) (Kd.R_types HO340.out BK342.out (by decide)) (fun _ hk => hk.2) (.slice Ao18 t338.length co18)) (fun _ hk => hk.2) (.int .i64 t341)) (fun _ hk => ⟨hk.1.1.2, hk.1.2⟩)⟩
       have n2_ : Aside0 (((w17.setCell ⟨gb342, 0, none⟩ (.slice Ao18 t338.length co18)).setCell ⟨gb342, 1, none⟩ (.int .i64 t341)).heap[gb336]? = some (.cells #[.slice Ao12 t329.length co12, .int .i64 t332] 25 (0, 0))) := ⟨by (with_reducible repeat (first | refine blk_drewN ?_ _ | refine blk_drew ?_ | refine blk_alloc ?_ _)); refine blk_far ?_ NB336_342.out _; (with_reducible repeat (first | refine blk_drewN ?_ _ | refine blk_drew ?_ | refine blk_alloc ?_ _)); refine blk_far ?_ NB336_342.out _; exact zk BK336⟩
       have n3_ : Aside0 (((w17.setCell ⟨gb342, 0, none⟩ (.slice Ao18 t338.length co18)).setCell ⟨gb342, 1, none⟩ (.int .i64 t341)).heap[gb337]? = some (.cells #[.string t333, .string t334, .bool t335] 36 (0, 0))) := ⟨by (with_reducible repeat (first | refine blk_drewN ?_ _ | refine blk_drew ?_ | refine blk_alloc ?_ _)); refine blk_far ?_ NB337_342.out _; (with_reducible repeat (first | refine blk_drewN ?_ _ | refine blk_drew ?_ | refine blk_alloc ?_ _)); refine blk_far ?_ NB337_342.out _; exact zk BK337⟩
       have n4_ : Aside0 (((w17.setCell ⟨gb342, 0, none⟩ (.slice Ao18 t338.length co18)).setCell ⟨gb342, 1, none⟩ (.int .i64 t341)).heap[gb342]? = some (.cells #[.slice Ao18 t338.length co18, .int .i64 t341] 25 (0, 0))) := ⟨by (with_reducible repeat (first | refine blk_drewN ?_ _ | refine blk_drew ?_ | refine blk_alloc ?_ _)); refine blk_put (cs := #[.slice Ao18 t338.length co18, .int .i64 0]) ?_ 1 _ rfl; (with_reducible repeat (first | refine blk_drewN ?_ _ | refine blk_drew ?_ | refine blk_alloc ?_ _)); refine blk_put (cs := #[.slice none 0 0, .int .i64 0]) ?_ 0 _ rfl; exact zk BK342⟩
       have n5_ : Aside0 (Below w.heap.size w ((w17.setCell ⟨gb342, 0, none⟩ (.slice Ao18 t338.length co18)).setCell ⟨gb342, 1, none⟩ (.int .i64 t341))) := ⟨zb HB⟩
       (try clear HO331)
       (try clear HO340)
       (try clear BK336)
       (try clear BK337)
       (try clear BK342)
       (try clear HB)
       generalize ((w17.setCell ⟨gb342, 0, none⟩ (.slice Ao18 t338.length co18)).setCell ⟨gb342, 1, none⟩ (.int .i64 t341)) = w35 at n0_ n1_ n2_ n3_ n4_ n5_ ⊢
       have HO331 := n0_
       have HO340 := n1_
       have BK336 := n2_
       have BK337 := n3_
       have BK342 := n4_
       have HB := n5_
       clear n0_ n1_ n2_ n3_ n4_ n5_
       replace HO331 := Aside0.mk (Kd.R_drew HO331.out)
       replace HO340 := Aside0.mk (Kd.R_drew HO340.out)
       replace BK336 := Aside0.mk (blk_drew BK336.out)
       replace BK337 := Aside0.mk (blk_drew BK337.out)
       replace BK342 := Aside0.mk (blk_drew BK342.out)
       replace HB := Aside0.mk (below_drew1 HB.out)
       refine start_ (n := 16) (S := fun w' => w'.cell? ⟨gb342, 0, none⟩ = some (.slice Ao18 t338.length co18) ∧ w'.cell? ⟨gb342, 1, none⟩ = some (.int .i64 t341) ∧ w'.cell? ⟨gb336, 0, none⟩ = some (.slice Ao12 t329.length co12) ∧ w'.cell? ⟨gb336, 1, none⟩ = some (.int .i64 t332) ∧ w'.cell? ⟨gb337, 0, none⟩ = some (.string t333) ∧ w'.cell? ⟨gb337, 1, none⟩ = some (.string t334) ∧ w'.cell? ⟨gb337, 2, none⟩ = some (.bool t335)) (ds := []) #[false, false, false, false, false, false, false, false, false, false, false, false, false, false, false, false] (by kernel_rfl) rfl rfl ⟨(blk_cell BK342.out 0).trans rfl, (blk_cell BK342.out 1).trans rfl, (blk_cell BK336.out 0).trans rfl, (blk_cell BK336.out 1).trans rfl, (blk_cell BK337.out 0).trans rfl, (blk_cell BK337.out 1).trans rfl, (blk_cell BK337.out 2).trans rfl⟩ (fun hHeld => ?_); refine with_tabW laws_FnAddTwo.tab5 laws_FnAddTwo.bits5 (fun HT_ HW_ => ?_)
       generalize w35.drew = w36 at HO331 HO340 BK336 BK337 BK342 HB hHeld ⊢
       refine tk7 0 (some 27) (bm 16 1) rfl rfl hHeld ?_
       refine tk7 1 (some 28) (bm 16 3) rfl rfl hHeld ?_
       refine tk7 2 (some 29) (bm 16 7) rfl rfl hHeld ?_
       refine one_ (i := 3) (N := some 30) (bm 16 15) rfl rfl (one_of HT_.out (by kernel_rfl)) (by decide) (fun K hK => ?_)
       refine gs Try.func31 #[.agg #[.slice Ao12 t329.length co12, .int .i64 t332], .agg #[.string t333, .string t334, .bool t335]] ?_
       with_reducible refine (spec_TableAdd.calls kj2 _ _ t329 t332 t333 t334 t335 t343 t346 _ ?side1 ?side2 A22.out).mono ?_
       (case side1 => exact zc (Kd.R_reads' HO331.out).2.2)
       (case side2 => exact (Kd.R_reads' HO331.out).2.1)
       rintro e w37 ⟨v344, rfl, ho0, hb⟩
       refine ⟨_, rfl, ?_⟩
       have HO345 := Aside0.mk (Kd.R_lower (Kd.R_newB (Kd.R_new' (Kd.R_new' ho0 (Kd.R_lt (zr HO331))) (Kd.R_lt (zr HO340))) (g := gb337) (o := .cells #[.string t333, .string t334, .bool t335] 36 (0, 0)) (zk BK337)) (below_size (zb HB)))
       replace HO331 := Aside0.mk (Kd.R_elder' (zr HO331) (Kd.R_base ho0) hb)
       replace HO340 := Aside0.mk (Kd.R_elder' (zr HO340) (Kd.R_base ho0) hb)
       replace BK336 := Aside0.mk (blk_below (g := gb336) (o := .cells #[.slice Ao12 t329.length co12, .int .i64 t332] 25 (0, 0)) (zk BK336) hb)
       replace BK337 := Aside0.mk (blk_below (g := gb337) (o := .cells #[.string t333, .string t334, .bool t335] 36 (0, 0)) (zk BK337) hb)
       replace BK342 := Aside0.mk (blk_below (g := gb342) (o := .cells #[.slice Ao18 t338.length co18, .int .i64 t341] 25 (0, 0)) (zk BK342) hb)
       replace HB := Aside0.mk (below_step (zb HB) hb)
       (try clear hb)
       (try clear ho0)
       obtain ⟨Ao38, co38, eo38⟩ := Kd.R_slice HO345.out
       (first | subst eo38 | (injection eo38 with f1_ f2_ f3_; have f4_ := f1_.symm; have f5_ := f3_.symm; clear f1_ f2_ f3_; subst f4_; subst f5_))
       refine hK.out _ _ ⟨(blk_cell BK342.out 0).trans rfl, (blk_cell BK342.out 1).trans rfl, (blk_cell BK336.out 0).trans rfl, (blk_cell BK336.out 1).trans rfl, (blk_cell BK337.out 0).trans rfl, (blk_cell BK337.out 1).trans rfl, (blk_cell BK337.out 2).trans rfl⟩ (fun hHeld => ?_)
       clear hK K
       refine nm ?_
       refine one_ (i := 4) (N := some 31) (bm 16 31) rfl rfl (one_of HT_.out (by kernel_rfl)) (by decide) (fun K hK => ?_)
       refine gs Try.func17 #[.agg #[.slice Ao18 t338.length co18, .int .i64 t341], .agg #[.slice Ao38 t343.length co38, .int .i64 t346]] ?_
       with_reducible refine (laws_lkTable.calls kj2 _ _ t338 t341 _ _ t343 t346 true _ ?side1 ?side2 ?side3 ?side4 A23.out).mono ?_
       (case side1 => exact zc (Kd.R_reads' HO340.out).2.2)
       (case side2 => exact (Kd.R_reads' HO340.out).2.1)
       (case side3 => exact zc (Kd.R_reads' HO345.out).2.2)
       (case side4 => exact (Kd.R_reads' HO345.out).2.1)
       rintro e w39 ⟨rfl, hb⟩
       refine ⟨_, rfl, ?_⟩
       replace HO331 := Aside0.mk (Kd.R_below (zr HO331) hb)
       replace HO340 := Aside0.mk (Kd.R_below (zr HO340) hb)
       replace HO345 := Aside0.mk (Kd.R_below (zr HO345) hb)
       replace BK336 := Aside0.mk (blk_below (g := gb336) (o := .cells #[.slice Ao12 t329.length co12, .int .i64 t332] 25 (0, 0)) (zk BK336) hb)
       replace BK337 := Aside0.mk (blk_below (g := gb337) (o := .cells #[.string t333, .string t334, .bool t335] 36 (0, 0)) (zk BK337) hb)
       replace BK342 := Aside0.mk (blk_below (g := gb342) (o := .cells #[.slice Ao18 t338.length co18, .int .i64 t341] 25 (0, 0)) (zk BK342) hb)
       replace HB := Aside0.mk (below_step (zb HB) hb)
       (try clear hb)
       refine hK.out _ _ ⟨(blk_cell BK342.out 0).trans rfl, (blk_cell BK342.out 1).trans rfl, (blk_cell BK336.out 0).trans rfl, (blk_cell BK336.out 1).trans rfl, (blk_cell BK337.out 0).trans rfl, (blk_cell BK337.out 1).trans rfl, (blk_cell BK337.out 2).trans rfl⟩ (fun hHeld => ?_)
       clear hK K
       refine nm ?_
       refine pu 5 (some 32) (bm 16 63) rfl rfl ?_
       refine pu 6 (some 33) (bm 16 127) rfl rfl ?_
       refine tk7 7 (some 34) (bm 16 255) rfl rfl hHeld ?_
       refine one_ (i := 8) (N := some 35) (bm 16 511) rfl rfl (one_of HT_.out (by kernel_rfl)) (by decide) (fun K hK => ?_)
       refine gs Try.func19 #[.agg #[.slice Ao12 t329.length co12, .int .i64 t332]] ?_
       with_reducible refine (spec_TableOk.calls kj2 _ _ t329 t332 false _ ?side1 ?side2 A25.out).mono ?_
       (case side1 => exact zc (Kd.R_reads' HO331.out).2.2)
       (case side2 => exact (Kd.R_reads' HO331.out).2.1)
       rintro e w40 ⟨rfl, hb⟩
       refine ⟨_, rfl, ?_⟩
       replace HO331 := Aside0.mk (Kd.R_below (zr HO331) hb)
       replace HO340 := Aside0.mk (Kd.R_below (zr HO340) hb)
       replace HO345 := Aside0.mk (Kd.R_below (zr HO345) hb)
       replace BK336 := Aside0.mk (blk_below (g := gb336) (o := .cells #[.slice Ao12 t329.length co12, .int .i64 t332] 25 (0, 0)) (zk BK336) hb)
       replace BK337 := Aside0.mk (blk_below (g := gb337) (o := .cells #[.string t333, .string t334, .bool t335] 36 (0, 0)) (zk BK337) hb)
       replace BK342 := Aside0.mk (blk_below (g := gb342) (o := .cells #[.slice Ao18 t338.length co18, .int .i64 t341] 25 (0, 0)) (zk BK342) hb)
       replace HB := Aside0.mk (below_step (zb HB) hb)
       (try clear hb)
       refine hK.out _ _ ⟨(blk_cell BK342.out 0).trans rfl, (blk_cell BK342.out 1).trans rfl, (blk_cell BK336.out 0).trans rfl, (blk_cell BK336.out 1).trans rfl, (blk_cell BK337.out 0).trans rfl, (blk_cell BK337.out 1).trans rfl, (blk_cell BK337.out 2).trans rfl⟩ (fun hHeld => ?_)
       clear hK K
       refine nm ?_
       refine pu 9 (some 36) (bm 16 1023) rfl rfl ?_
       refine pu 10 (some 37) (bm 16 2047) rfl rfl ?_
       refine pu 11 (some 38) (bm 16 4095) rfl rfl ?_
       refine pv 12 (some 39) (bm 16 8191) rfl rfl ?_
       refine pv 13 (some 40) (bm 16 16383) rfl rfl ?_
       refine pv 14 (some 41) (bm 16 32767) rfl rfl ?_
       refine pu 15 (some 42) (bm 16 65535) rfl rfl ?_
       refine done_ (done_of HT_.out (by kernel_rfl)) ?_
       try go_wp2
       go_meet
       case rel => exact ⟨_, (true), zs, H', ⟨by have := HJ2.out; first | omega | exact Nat.le_refl _⟩, ⟨by (with_reducible repeat (first | apply Kd.R_alloc | apply Kd.R_drewN | apply Kd.R_drew)); exact Kd.R_mono HO331.out (fun _ hk => ⟨hk.1.1, hk.1.2⟩)⟩, ⟨by (with_reducible repeat (first | apply Kd.R_alloc | apply Kd.R_drewN | apply Kd.R_drew)); exact Kd.R_mono HO340.out (fun _ hk => ⟨hk.1.1, hk.1.2⟩)⟩, ⟨by exact zk BK336⟩, ⟨by exact zk BK337⟩, ⟨by exact zk BK342⟩, ⟨zb HB⟩⟩
     ·replace c24 := Bool.eq_false_iff.mpr c24
      subst c24
      have H1 : (laws_FnAddTwo.j1 kj2 l1 true t329 t332 t333 t334 t335 t338 t341) = some r := by rw [if_neg (show ¬ (false = true) by decide)] at H; exact H
      clear H
      have H := H1
      clear H1
      have H' := Aside0.mk H
      clear H
      try go_wp2
      have n0_ : Aside0 (Kd.R k36 36 ((w17.setCell ⟨gb342, 0, none⟩ (.slice Ao18 t338.length co18)).setCell ⟨gb342, 1, none⟩ (.int .i64 t341)) w.heap.size (fun k_ => some k_ ≠ (.slice Ao18 t338.length co18 : Value).ownBlock ∧ k_ ≠ gb337) (.slice Ao12 t329.length co12) t329) := ⟨by (with_reducible repeat (first | apply Kd.R_alloc | apply Kd.R_drewN | apply Kd.R_drew)); exact Kd.R_mono (Kd.R_far (p := ⟨gb342, 1, none⟩) (Kd.R_far (p := ⟨gb342, 0, none⟩) (Kd.R_types HO331.out BK342.out (by decide)) (fun _ hk => hk.2) (.slice Ao18 t338.length co18)) (fun _ hk => hk.2) (.int .i64 t341)) (fun _ hk => ⟨hk.1.2, hk.1.1.2⟩)⟩
      have n1_ : Aside0 (Kd.R k36 36 ((w17.setCell ⟨gb342, 0, none⟩ (.slice Ao18 t338.length co18)).setCell ⟨gb342, 1, none⟩ (.int .i64 t341)) w.heap.size (fun k_ => some k_ ≠ (.slice Ao12 t329.length co12 : Value).ownBlock ∧ k_ ≠ gb337) (.slice Ao18 t338.length co18) t338) := ⟨by (with_reducible repeat (first | apply Kd.R_alloc | apply Kd.R_drewN | apply Kd.R_drew)); exact Kd.R_mono (Kd.R_far (p := ⟨gb342, 1, none⟩) (Kd.R_far (p := ⟨gb342, 0, none⟩) (Kd.R_types HO340.out BK342.out (by decide)) (fun _ hk => hk.2) (.slice Ao18 t338.length co18)) (fun _ hk => hk.2) (.int .i64 t341)) (fun _ hk => ⟨hk.1.1.2, hk.1.2⟩)⟩
      have n2_ : Aside0 (((w17.setCell ⟨gb342, 0, none⟩ (.slice Ao18 t338.length co18)).setCell ⟨gb342, 1, none⟩ (.int .i64 t341)).heap[gb336]? = some (.cells #[.slice Ao12 t329.length co12, .int .i64 t332] 25 (0, 0))) := ⟨by (with_reducible repeat (first | refine blk_drewN ?_ _ | refine blk_drew ?_ | refine blk_alloc ?_ _)); refine blk_far ?_ NB336_342.out _; (with_reducible repeat (first | refine blk_drewN ?_ _ | refine blk_drew ?_ | refine blk_alloc ?_ _)); refine blk_far ?_ NB336_342.out _; exact zk BK336⟩
      have n3_ : Aside0 (((w17.setCell ⟨gb342, 0, none⟩ (.slice Ao18 t338.length co18)).setCell ⟨gb342, 1, none⟩ (.int .i64 t341)).heap[gb337]? = some (.cells #[.string t333, .string t334, .bool t335] 36 (0, 0))) := ⟨by (with_reducible repeat (first | refine blk_drewN ?_ _ | refine blk_drew ?_ | refine blk_alloc ?_ _)); refine blk_far ?_ NB337_342.out _; (with_reducible repeat (first | refine blk_drewN ?_ _ | refine blk_drew ?_ | refine blk_alloc ?_ _)); refine blk_far ?_ NB337_342.out _; exact zk BK337⟩
      have n4_ : Aside0 (((w17.setCell ⟨gb342, 0, none⟩ (.slice Ao18 t338.length co18)).setCell ⟨gb342, 1, none⟩ (.int .i64 t341)).heap[gb342]? = some (.cells #[.slice Ao18 t338.length co18, .int .i64 t341] 25 (0, 0))) := ⟨by (with_reducible repeat (first | refine blk_drewN ?_ _ | refine blk_drew ?_ | refine blk_alloc ?_ _)); refine blk_put (cs := #[.slice Ao18 t338.length co18, .int .i64 0]) ?_ 1 _ rfl; (with_reducible repeat (first | refine blk_drewN ?_ _ | refine blk_drew ?_ | refine blk_alloc ?_ _)); refine blk_put (cs := #[.slice none 0 0, .int .i64 0]) ?_ 0 _ rfl; exact zk BK342⟩
      have n5_ : Aside0 (Below w.heap.size w ((w17.setCell ⟨gb342, 0, none⟩ (.slice Ao18 t338.length co18)).setCell ⟨gb342, 1, none⟩ (.int .i64 t341))) := ⟨zb HB⟩
      (try clear HO331)
      (try clear HO340)
      (try clear BK336)
      (try clear BK337)
      (try clear BK342)
      (try clear HB)
      generalize ((w17.setCell ⟨gb342, 0, none⟩ (.slice Ao18 t338.length co18)).setCell ⟨gb342, 1, none⟩ (.int .i64 t341)) = w41 at n0_ n1_ n2_ n3_ n4_ n5_ ⊢
      have HO331 := n0_
      have HO340 := n1_
      have BK336 := n2_
      have BK337 := n3_
      have BK342 := n4_
      have HB := n5_
      clear n0_ n1_ n2_ n3_ n4_ n5_
      replace HO331 := Aside0.mk (Kd.R_drew HO331.out)
      replace HO340 := Aside0.mk (Kd.R_drew HO340.out)
      replace BK336 := Aside0.mk (blk_drew BK336.out)
      replace BK337 := Aside0.mk (blk_drew BK337.out)
      replace BK342 := Aside0.mk (blk_drew BK342.out)
      replace HB := Aside0.mk (below_drew1 HB.out)
      refine start_ (n := 16) (S := fun w' => w'.cell? ⟨gb342, 0, none⟩ = some (.slice Ao18 t338.length co18) ∧ w'.cell? ⟨gb342, 1, none⟩ = some (.int .i64 t341) ∧ w'.cell? ⟨gb336, 0, none⟩ = some (.slice Ao12 t329.length co12) ∧ w'.cell? ⟨gb336, 1, none⟩ = some (.int .i64 t332) ∧ w'.cell? ⟨gb337, 0, none⟩ = some (.string t333) ∧ w'.cell? ⟨gb337, 1, none⟩ = some (.string t334) ∧ w'.cell? ⟨gb337, 2, none⟩ = some (.bool t335)) (ds := []) #[false, false, false, false, false, false, false, false, false, false, false, false, false, false, false, false] (by kernel_rfl) rfl rfl ⟨(blk_cell BK342.out 0).trans rfl, (blk_cell BK342.out 1).trans rfl, (blk_cell BK336.out 0).trans rfl, (blk_cell BK336.out 1).trans rfl, (blk_cell BK337.out 0).trans rfl, (blk_cell BK337.out 1).trans rfl, (blk_cell BK337.out 2).trans rfl⟩ (fun hHeld => ?_); refine with_tabW laws_FnAddTwo.tab5 laws_FnAddTwo.bits5 (fun HT_ HW_ => ?_)
      generalize w41.drew = w42 at HO331 HO340 BK336 BK337 BK342 HB hHeld ⊢
      refine tk7 0 (some 27) (bm 16 1) rfl rfl hHeld ?_
      refine tk7 1 (some 28) (bm 16 3) rfl rfl hHeld ?_
      refine tk7 2 (some 29) (bm 16 7) rfl rfl hHeld ?_
      refine one_ (i := 3) (N := some 30) (bm 16 15) rfl rfl (one_of HT_.out (by kernel_rfl)) (by decide) (fun K hK => ?_)
      refine gs Try.func31 #[.agg #[.slice Ao12 t329.length co12, .int .i64 t332], .agg #[.string t333, .string t334, .bool t335]] ?_
      with_reducible refine (spec_TableAdd.calls kj2 _ _ t329 t332 t333 t334 t335 t343 t346 _ ?side1 ?side2 A22.out).mono ?_
      (case side1 => exact zc (Kd.R_reads' HO331.out).2.2)
      (case side2 => exact (Kd.R_reads' HO331.out).2.1)
      rintro e w43 ⟨v344, rfl, ho0, hb⟩
      refine ⟨_, rfl, ?_⟩
      have HO345 := Aside0.mk (Kd.R_lower (Kd.R_newB (Kd.R_new' (Kd.R_new' ho0 (Kd.R_lt (zr HO331))) (Kd.R_lt (zr HO340))) (g := gb337) (o := .cells #[.string t333, .string t334, .bool t335] 36 (0, 0)) (zk BK337)) (below_size (zb HB)))
      replace HO331 := Aside0.mk (Kd.R_elder' (zr HO331) (Kd.R_base ho0) hb)
      replace HO340 := Aside0.mk (Kd.R_elder' (zr HO340) (Kd.R_base ho0) hb)
      replace BK336 := Aside0.mk (blk_below (g := gb336) (o := .cells #[.slice Ao12 t329.length co12, .int .i64 t332] 25 (0, 0)) (zk BK336) hb)
      replace BK337 := Aside0.mk (blk_below (g := gb337) (o := .cells #[.string t333, .string t334, .bool t335] 36 (0, 0)) (zk BK337) hb)
      replace BK342 := Aside0.mk (blk_below (g := gb342) (o := .cells #[.slice Ao18 t338.length co18, .int .i64 t341] 25 (0, 0)) (zk BK342) hb)
      replace HB := Aside0.mk (below_step (zb HB) hb)
      (try clear hb)
      (try clear ho0)
      obtain ⟨Ao44, co44, eo44⟩ := Kd.R_slice HO345.out
      (first | subst eo44 | (injection eo44 with f1_ f2_ f3_; have f4_ := f1_.symm; have f5_ := f3_.symm; clear f1_ f2_ f3_; subst f4_; subst f5_))
      refine hK.out _ _ ⟨(blk_cell BK342.out 0).trans rfl, (blk_cell BK342.out 1).trans rfl, (blk_cell BK336.out 0).trans rfl, (blk_cell BK336.out 1).trans rfl, (blk_cell BK337.out 0).trans rfl, (blk_cell BK337.out 1).trans rfl, (blk_cell BK337.out 2).trans rfl⟩ (fun hHeld => ?_)
      clear hK K
      refine nm ?_
      refine one_ (i := 4) (N := some 31) (bm 16 31) rfl rfl (one_of HT_.out (by kernel_rfl)) (by decide) (fun K hK => ?_)
      refine gs Try.func17 #[.agg #[.slice Ao18 t338.length co18, .int .i64 t341], .agg #[.slice Ao44 t343.length co44, .int .i64 t346]] ?_
      with_reducible refine (laws_lkTable.calls kj2 _ _ t338 t341 _ _ t343 t346 false _ ?side1 ?side2 ?side3 ?side4 A23.out).mono ?_
      (case side1 => exact zc (Kd.R_reads' HO340.out).2.2)
      (case side2 => exact (Kd.R_reads' HO340.out).2.1)
      (case side3 => exact zc (Kd.R_reads' HO345.out).2.2)
      (case side4 => exact (Kd.R_reads' HO345.out).2.1)
      rintro e w45 ⟨rfl, hb⟩
      refine ⟨_, rfl, ?_⟩
      replace HO331 := Aside0.mk (Kd.R_below (zr HO331) hb)
      replace HO340 := Aside0.mk (Kd.R_below (zr HO340) hb)
      replace HO345 := Aside0.mk (Kd.R_below (zr HO345) hb)
      replace BK336 := Aside0.mk (blk_below (g := gb336) (o := .cells #[.slice Ao12 t329.length co12, .int .i64 t332] 25 (0, 0)) (zk BK336) hb)
      replace BK337 := Aside0.mk (blk_below (g := gb337) (o := .cells #[.string t333, .string t334, .bool t335] 36 (0, 0)) (zk BK337) hb)
      replace BK342 := Aside0.mk (blk_below (g := gb342) (o := .cells #[.slice Ao18 t338.length co18, .int .i64 t341] 25 (0, 0)) (zk BK342) hb)
      replace HB := Aside0.mk (below_step (zb HB) hb)
      (try clear hb)
      refine hK.out _ _ ⟨(blk_cell BK342.out 0).trans rfl, (blk_cell BK342.out 1).trans rfl, (blk_cell BK336.out 0).trans rfl, (blk_cell BK336.out 1).trans rfl, (blk_cell BK337.out 0).trans rfl, (blk_cell BK337.out 1).trans rfl, (blk_cell BK337.out 2).trans rfl⟩ (fun hHeld => ?_)
      clear hK K
      refine nm ?_
      refine pu 5 (some 32) (bm 16 63) rfl rfl ?_
      refine pu 6 (some 33) (bm 16 127) rfl rfl ?_
      refine pv 7 (some 34) (bm 16 255) rfl rfl ?_
      refine pv 8 (some 35) (bm 16 511) rfl rfl ?_
      refine pv 9 (some 36) (bm 16 1023) rfl rfl ?_
      refine pu 10 (some 37) (bm 16 2047) rfl rfl ?_
      refine pu 11 (some 38) (bm 16 4095) rfl rfl ?_
      refine pv 12 (some 39) (bm 16 8191) rfl rfl ?_
      refine pv 13 (some 40) (bm 16 16383) rfl rfl ?_
      refine pv 14 (some 41) (bm 16 32767) rfl rfl ?_
      refine pu 15 (some 42) (bm 16 65535) rfl rfl ?_
      refine done_ (done_of HT_.out (by kernel_rfl)) ?_
      try go_wp2
      go_meet
      case rel => exact ⟨_, (true), zs, H', ⟨by have := HJ2.out; first | omega | exact Nat.le_refl _⟩, ⟨by (with_reducible repeat (first | apply Kd.R_alloc | apply Kd.R_drewN | apply Kd.R_drew)); exact Kd.R_mono HO331.out (fun _ hk => ⟨hk.1.1, hk.1.2⟩)⟩, ⟨by (with_reducible repeat (first | apply Kd.R_alloc | apply Kd.R_drewN | apply Kd.R_drew)); exact Kd.R_mono HO340.out (fun _ hk => ⟨hk.1.1, hk.1.2⟩)⟩, ⟨by exact zk BK336⟩, ⟨by exact zk BK337⟩, ⟨by exact zk BK342⟩, ⟨zb HB⟩⟩
    case rest =>
     clear HC8
     try clear c1
     try clear c2
     try clear p2
     try clear c3
     try clear c17
     try clear c19
     try clear c24
     try clear c26
     try clear c31
     try clear c32
     obtain ⟨kq, x42_7, rfl, HA, HJ7, HO_337000, HO_343000, BK336, BK337, BK342, HB⟩ := hcut
     cases kq with
     | zero => exact absurd HA.out (by simp [laws_FnAddTwo.j1])
     | succ kj7 =>
      have H := HA.out
      clear HA
      simp only [laws_FnAddTwo.j1] at H
      by_cases c46 : x42_7 = true
      ·subst c46
       have H1 : ((spec_TableAdd.f kj7 t329 t332 t333 t334 t335).bind fun bt350 => ((laws_lkTable.f kj7 t338 t341 bt350.1 bt350.2).bind fun t354 => (some t354))) = some r := by rw [if_pos rfl] at H; exact H
       clear H
       have H := H1
       clear H1
       replace H := Option.bind_eq_some_iff.mp H
       obtain ⟨⟨t350, t353⟩, A470, H⟩ := H
       replace H : ((laws_lkTable.f kj7 t338 t341 t350 t353).bind fun t354 => (some t354)) = some r := H
       have A47 := Aside0.mk A470
       clear A470
       replace H := Option.bind_eq_some_iff.mp H
       obtain ⟨t354, A480, H⟩ := H
       replace H : (some t354) = some r := H
       have A48 := Aside0.mk A480
       clear A480
       obtain rfl := Option.some.inj H
       try go_wp2
       replace HO_337000 := Aside0.mk (Kd.R_drew HO_337000.out)
       replace HO_343000 := Aside0.mk (Kd.R_drew HO_343000.out)
       replace BK336 := Aside0.mk (blk_drew BK336.out)
       replace BK337 := Aside0.mk (blk_drew BK337.out)
       replace BK342 := Aside0.mk (blk_drew BK342.out)
       replace HB := Aside0.mk (below_drew1 HB.out)
       refine start_ (n := 6) (S := fun w' => w'.cell? ⟨gb342, 0, none⟩ = some (.slice Ao18 t338.length co18) ∧ w'.cell? ⟨gb342, 1, none⟩ = some (.int .i64 t341) ∧ w'.cell? ⟨gb336, 0, none⟩ = some (.slice Ao12 t329.length co12) ∧ w'.cell? ⟨gb336, 1, none⟩ = some (.int .i64 t332) ∧ w'.cell? ⟨gb337, 0, none⟩ = some (.string t333) ∧ w'.cell? ⟨gb337, 1, none⟩ = some (.string t334) ∧ w'.cell? ⟨gb337, 2, none⟩ = some (.bool t335)) (ds := []) #[false, false, false, false, false, false] (by kernel_rfl) rfl rfl ⟨(blk_cell BK342.out 0).trans rfl, (blk_cell BK342.out 1).trans rfl, (blk_cell BK336.out 0).trans rfl, (blk_cell BK336.out 1).trans rfl, (blk_cell BK337.out 0).trans rfl, (blk_cell BK337.out 1).trans rfl, (blk_cell BK337.out 2).trans rfl⟩ (fun hHeld => ?_)
       generalize wc.drew = w49 at HO_337000 HO_343000 BK336 BK337 BK342 HB hHeld ⊢
       refine tk7 0 (some 43) (bm 6 1) rfl rfl hHeld ?_
       refine tk7 1 (some 44) (bm 6 3) rfl rfl hHeld ?_
       refine tk7 2 (some 45) (bm 6 7) rfl rfl hHeld ?_
       refine one_ (i := 3) (N := some 46) (bm 6 15) rfl rfl (by kernel_rfl) (by decide) (fun K hK => ?_)
       refine gs Try.func31 #[.agg #[.slice Ao12 t329.length co12, .int .i64 t332], .agg #[.string t333, .string t334, .bool t335]] ?_
       with_reducible refine (spec_TableAdd.calls kj7 _ _ t329 t332 t333 t334 t335 t350 t353 _ ?side1 ?side2 A47.out).mono ?_
       (case side1 => exact zc (Kd.R_reads' HO_337000.out).2.2)
       (case side2 => exact (Kd.R_reads' HO_337000.out).2.1)
       rintro e w50 ⟨v351, rfl, ho0, hb⟩
       refine ⟨_, rfl, ?_⟩
       have HO352 := Aside0.mk (Kd.R_lower (Kd.R_newB (Kd.R_new' (Kd.R_new' ho0 (Kd.R_lt (zr HO_337000))) (Kd.R_lt (zr HO_343000))) (g := gb337) (o := .cells #[.string t333, .string t334, .bool t335] 36 (0, 0)) (zk BK337)) (below_size (zb HB)))
       replace HO_337000 := Aside0.mk (Kd.R_elder' (zr HO_337000) (Kd.R_base ho0) hb)
       replace HO_343000 := Aside0.mk (Kd.R_elder' (zr HO_343000) (Kd.R_base ho0) hb)
       replace BK336 := Aside0.mk (blk_below (g := gb336) (o := .cells #[.slice Ao12 t329.length co12, .int .i64 t332] 25 (0, 0)) (zk BK336) hb)
       replace BK337 := Aside0.mk (blk_below (g := gb337) (o := .cells #[.string t333, .string t334, .bool t335] 36 (0, 0)) (zk BK337) hb)
       replace BK342 := Aside0.mk (blk_below (g := gb342) (o := .cells #[.slice Ao18 t338.length co18, .int .i64 t341] 25 (0, 0)) (zk BK342) hb)
       replace HB := Aside0.mk (below_step (zb HB) hb)
       (try clear hb)
       (try clear ho0)
       obtain ⟨Ao51, co51, eo51⟩ := Kd.R_slice HO352.out
       (first | subst eo51 | (injection eo51 with f1_ f2_ f3_; have f4_ := f1_.symm; have f5_ := f3_.symm; clear f1_ f2_ f3_; subst f4_; subst f5_))
       refine hK.out _ _ ⟨(blk_cell BK342.out 0).trans rfl, (blk_cell BK342.out 1).trans rfl, (blk_cell BK336.out 0).trans rfl, (blk_cell BK336.out 1).trans rfl, (blk_cell BK337.out 0).trans rfl, (blk_cell BK337.out 1).trans rfl, (blk_cell BK337.out 2).trans rfl⟩ (fun hHeld => ?_)
       clear hK K
       refine nm ?_
       refine one_ (i := 4) (N := some 47) (bm 6 31) rfl rfl (by kernel_rfl) (by decide) (fun K hK => ?_)
       refine gs Try.func17 #[.agg #[.slice Ao18 t338.length co18, .int .i64 t341], .agg #[.slice Ao51 t350.length co51, .int .i64 t353]] ?_
       with_reducible refine (laws_lkTable.calls kj7 _ _ t338 t341 _ _ t350 t353 t354 _ ?side1 ?side2 ?side3 ?side4 A48.out).mono ?_
       (case side1 => exact zc (Kd.R_reads' HO_343000.out).2.2)
       (case side2 => exact (Kd.R_reads' HO_343000.out).2.1)
       (case side3 => exact zc (Kd.R_reads' HO352.out).2.2)
       (case side4 => exact (Kd.R_reads' HO352.out).2.1)
       rintro e w52 ⟨rfl, hb⟩
       refine ⟨_, rfl, ?_⟩
       replace HO_337000 := Aside0.mk (Kd.R_below (zr HO_337000) hb)
       replace HO_343000 := Aside0.mk (Kd.R_below (zr HO_343000) hb)
       replace HO352 := Aside0.mk (Kd.R_below (zr HO352) hb)
       replace BK336 := Aside0.mk (blk_below (g := gb336) (o := .cells #[.slice Ao12 t329.length co12, .int .i64 t332] 25 (0, 0)) (zk BK336) hb)
       replace BK337 := Aside0.mk (blk_below (g := gb337) (o := .cells #[.string t333, .string t334, .bool t335] 36 (0, 0)) (zk BK337) hb)
       replace BK342 := Aside0.mk (blk_below (g := gb342) (o := .cells #[.slice Ao18 t338.length co18, .int .i64 t341] 25 (0, 0)) (zk BK342) hb)
       replace HB := Aside0.mk (below_step (zb HB) hb)
       (try clear hb)
       refine hK.out _ _ ⟨(blk_cell BK342.out 0).trans rfl, (blk_cell BK342.out 1).trans rfl, (blk_cell BK336.out 0).trans rfl, (blk_cell BK336.out 1).trans rfl, (blk_cell BK337.out 0).trans rfl, (blk_cell BK337.out 1).trans rfl, (blk_cell BK337.out 2).trans rfl⟩ (fun hHeld => ?_)
       clear hK K
       refine nm ?_
       refine pu 5 (some 4) (bm 6 63) rfl rfl ?_
       refine done_ (by kernel_rfl) ?_
       try go_wp2
       go_ret
       exact ⟨ze, zb HB⟩
      ·replace c46 := Bool.eq_false_iff.mpr c46
       subst c46
       have H1 : ((some (([(⟨#[]⟩ : ByteArray), (⟨#[120]⟩ : ByteArray), (⟨#[121, 121]⟩ : ByteArray)] : List ByteArray) : List ByteArray)).bind fun y355 => (if 0 ≤ ((l1.length : Int) % 3) then (if ((l1.length : Int) % 3) < (y355.length : Int) then ((laws_lkOne.f t333 t334 t335).bind fun t360 => ((laws_lkOne.f (⟨#[97]⟩ : ByteArray) (rdOf ByteArray.empty y355 ((l1.length : Int) % 3)) false).bind fun t361 => (if (wrap64 (t360 + t361)) > t332 then (some true) else ((impl_TableAdd.f kj7 t338 t341 (⟨#[97]⟩ : ByteArray) (rdOf ByteArray.empty y355 ((l1.length : Int) % 3)) false).bind fun bt362 => (if (bt362.1.length : Int) ≥ 2 then (if 0 < (bt362.1.length : Int) then (if ((((rd_T36 bt362.1 0).f0).toList) == ([97] : List UInt8) && ((((rd_T36 bt362.1 0).f1).toList) == ((rdOf ByteArray.empty y355 ((l1.length : Int) % 3)).toList) && (!((rd_T36 bt362.1 0).f2)))) = true then (if 1 < (bt362.1.length : Int) then (if ((((rd_T36 bt362.1 1).f0).toList) == t333.toList && ((((rd_T36 bt362.1 1).f1).toList) == t334.toList && (!((rd_T36 bt362.1 1).f2)))) = true then ((impl_TableOk.f kj7 bt362.1 bt362.2).bind fun t370 => (some t370)) else (some false)) else (none)) else (some false)) else (none)) else (some false)))))) else (none)) else (none))) = some r := by rw [if_neg (show ¬ (false = true) by decide)] at H; exact H
       clear H
       have H := H1
       clear H1
       obtain ⟨y355, hy355⟩ : ∃ y_ : List ByteArray, y_ = (([(⟨#[]⟩ : ByteArray), (⟨#[120]⟩ : ByteArray), (⟨#[121, 121]⟩ : ByteArray)] : List ByteArray)) := ⟨_, rfl⟩
       replace H : (if 0 ≤ ((l1.length : Int) % 3) then (if ((l1.length : Int) % 3) < (y355.length : Int) then ((laws_lkOne.f t333 t334 t335).bind fun t360 => ((laws_lkOne.f (⟨#[97]⟩ : ByteArray) (rdOf ByteArray.empty y355 ((l1.length : Int) % 3)) false).bind fun t361 => (if (wrap64 (t360 + t361)) > t332 then (some true) else ((impl_TableAdd.f kj7 t338 t341 (⟨#[97]⟩ : ByteArray) (rdOf ByteArray.empty y355 ((l1.length : Int) % 3)) false).bind fun bt362 => (if (bt362.1.length : Int) ≥ 2 then (if 0 < (bt362.1.length : Int) then (if ((((rd_T36 bt362.1 0).f0).toList) == ([97] : List UInt8) && ((((rd_T36 bt362.1 0).f1).toList) == ((rdOf ByteArray.empty y355 ((l1.length : Int) % 3)).toList) && (!((rd_T36 bt362.1 0).f2)))) = true then (if 1 < (bt362.1.length : Int) then (if ((((rd_T36 bt362.1 1).f0).toList) == t333.toList && ((((rd_T36 bt362.1 1).f1).toList) == t334.toList && (!((rd_T36 bt362.1 1).f2)))) = true then ((impl_TableOk.f kj7 bt362.1 bt362.2).bind fun t370 => (some t370)) else (some false)) else (none)) else (some false)) else (none)) else (some false)))))) else (none)) else (none)) = some r := by first | (rw [hy355]; with_reducible exact H) | (have H2_ := (Option.bind_some _ _).symm.trans H; rw [hy355]; with_reducible exact H2_) | (have H2_ := (Option.bind_some _ _).symm.trans H; with_reducible exact H2_) | with_reducible exact H | (rw [hy355]; exact H) | exact H
       have Ny355 := Aside0.mk hy355
       clear hy355
       obtain ⟨ji53, hji53⟩ : ∃ j_ : Int, ((l1.length : Int) % 3) = j_ := ⟨_, rfl⟩
       replace H : (if 0 ≤ (ji53) then (if (ji53) < (y355.length : Int) then ((laws_lkOne.f t333 t334 t335).bind fun t360 => ((laws_lkOne.f (⟨#[97]⟩ : ByteArray) (rdOf ByteArray.empty y355 (ji53)) false).bind fun t361 => (if (wrap64 (t360 + t361)) > t332 then (some true) else ((impl_TableAdd.f kj7 t338 t341 (⟨#[97]⟩ : ByteArray) (rdOf ByteArray.empty y355 (ji53)) false).bind fun bt362 => (if (bt362.1.length : Int) ≥ 2 then (if 0 < (bt362.1.length : Int) then (if ((((rd_T36 bt362.1 0).f0).toList) == ([97] : List UInt8) && ((((rd_T36 bt362.1 0).f1).toList) == ((rdOf ByteArray.empty y355 (ji53)).toList) && (!((rd_T36 bt362.1 0).f2)))) = true then (if 1 < (bt362.1.length : Int) then (if ((((rd_T36 bt362.1 1).f0).toList) == t333.toList && ((((rd_T36 bt362.1 1).f1).toList) == t334.toList && (!((rd_T36 bt362.1 1).f2)))) = true then ((impl_TableOk.f kj7 bt362.1 bt362.2).bind fun t370 => (some t370)) else (some false)) else (none)) else (some false)) else (none)) else (some false)))))) else (none)) else (none)) = some r := by first | (rw [hji53] at H; exact H) | (simp only [hji53] at H ⊢; exact H)
       by_cases c54 : 0 ≤ (ji53)
       ·rw [if_pos c54] at H
        have c54b0 : decide (0 ≤ (ji53)) = true := decide_eq_true c54
        clear c54
        by_cases c55 : (ji53) < (y355.length : Int)
        ·rw [if_pos c55] at H
         have c55b0 : decide ((ji53) < (y355.length : Int)) = true := decide_eq_true c55
         clear c55
         replace H := Option.bind_eq_some_iff.mp H
         obtain ⟨t360, A560, H⟩ := H
         replace H : ((laws_lkOne.f (⟨#[97]⟩ : ByteArray) (rdOf ByteArray.empty y355 (ji53)) false).bind fun t361 => (if (wrap64 (t360 + t361)) > t332 then (some true) else ((impl_TableAdd.f kj7 t338 t341 (⟨#[97]⟩ : ByteArray) (rdOf ByteArray.empty y355 (ji53)) false).bind fun bt362 => (if (bt362.1.length : Int) ≥ 2 then (if 0 < (bt362.1.length : Int) then (if ((((rd_T36 bt362.1 0).f0).toList) == ([97] : List UInt8) && ((((rd_T36 bt362.1 0).f1).toList) == ((rdOf ByteArray.empty y355 (ji53)).toList) && (!((rd_T36 bt362.1 0).f2)))) = true then (if 1 < (bt362.1.length : Int) then (if ((((rd_T36 bt362.1 1).f0).toList) == t333.toList && ((((rd_T36 bt362.1 1).f1).toList) == t334.toList && (!((rd_T36 bt362.1 1).f2)))) = true then ((impl_TableOk.f kj7 bt362.1 bt362.2).bind fun t370 => (some t370)) else (some false)) else (none)) else (some false)) else (none)) else (some false))))) = some r := H
         have A56 := Aside0.mk A560
         clear A560
         replace H := Option.bind_eq_some_iff.mp H
         obtain ⟨t361, A570, H⟩ := H
         replace H : (if (wrap64 (t360 + t361)) > t332 then (some true) else ((impl_TableAdd.f kj7 t338 t341 (⟨#[97]⟩ : ByteArray) (rdOf ByteArray.empty y355 (ji53)) false).bind fun bt362 => (if (bt362.1.length : Int) ≥ 2 then (if 0 < (bt362.1.length : Int) then (if ((((rd_T36 bt362.1 0).f0).toList) == ([97] : List UInt8) && ((((rd_T36 bt362.1 0).f1).toList) == ((rdOf ByteArray.empty y355 (ji53)).toList) && (!((rd_T36 bt362.1 0).f2)))) = true then (if 1 < (bt362.1.length : Int) then (if ((((rd_T36 bt362.1 1).f0).toList) == t333.toList && ((((rd_T36 bt362.1 1).f1).toList) == t334.toList && (!((rd_T36 bt362.1 1).f2)))) = true then ((impl_TableOk.f kj7 bt362.1 bt362.2).bind fun t370 => (some t370)) else (some false)) else (none)) else (some false)) else (none)) else (some false)))) = some r := H
         have A57 := Aside0.mk A570
         clear A570
         have HC58 := Aside0.mk H
         clear H
         try go_wp2_with (first | ((with_reducible refine gd 48 rfl ?_); (try (refine gate_guard (by rfl) ?_; dsimp only)); refine Kd.R_lit Kd.string _ 9 ?hg (N := 48) ?hd (xs := ([(⟨#[]⟩ : ByteArray), (⟨#[120]⟩ : ByteArray), (⟨#[121, 121]⟩ : ByteArray)] : List ByteArray)) (inner := [.string (⟨#[]⟩ : ByteArray), .string (⟨#[120]⟩ : ByteArray), .string (⟨#[121, 121]⟩ : ByteArray)]) (ok := fun _ => True) (okp := fun _ => True) ?hr ?hp (fun _ hk => hk) trivial (Below.refl _ _) (Nat.le_refl _) (by simp) ?_; (case hd => rfl); (case hg => rfl); (case hr => first | (go_simp; done) | (go_simp; rfl)); (case hp => exact (Reps.one (show Kd.M Kd.string _ _ _ (⟨#[]⟩ : ByteArray) [.string (⟨#[]⟩ : ByteArray)] from rfl) (Reps.one (show Kd.M Kd.string _ _ _ (⟨#[120]⟩ : ByteArray) [.string (⟨#[120]⟩ : ByteArray)] from rfl) (Reps.one (show Kd.M Kd.string _ _ _ (⟨#[121, 121]⟩ : ByteArray) [.string (⟨#[121, 121]⟩ : ByteArray)] from rfl) (Reps.none _ _))))); intro v356 w59 ho60 hb hg_ hnew_; clear hg_ hnew_; (first | rw [← Ny355.out] at ho60 | (simp only [Int.reduceToNat] at ho60; rw [← Ny355.out] at ho60)); replace HO_337000 := Aside0.mk (Kd.R_below (zr HO_337000) hb); replace HO_343000 := Aside0.mk (Kd.R_below (zr HO_343000) hb); have HO357 := Aside0.mk (Kd.R_lower ho60 (below_size (zb HB))); replace BK336 := Aside0.mk (blk_below (g := gb336) (o := .cells #[.slice Ao12 t329.length co12, .int .i64 t332] 25 (0, 0)) (zk BK336) hb); replace BK337 := Aside0.mk (blk_below (g := gb337) (o := .cells #[.string t333, .string t334, .bool t335] 36 (0, 0)) (zk BK337) hb); replace BK342 := Aside0.mk (blk_below (g := gb342) (o := .cells #[.slice Ao18 t338.length co18, .int .i64 t341] 25 (0, 0)) (zk BK342) hb); replace HB := Aside0.mk (below_step (zb HB) hb); clear hb ho60; obtain ⟨Ao61, co61, eo61⟩ := Kd.R_slice HO357.out; subst eo61; have p358 : 0 ≤ ((ji53) : Int) := of_decide_eq_true za; have q358 : (ji53) < (y355.length : Int) := of_decide_eq_true za; obtain ⟨ad358, e358, hx358_0⟩ := Kd.at_string (Kd.R_reads' HO357.out).2.2 (ji53) p358 q358; cases e358; replace p358 := eq_true p358; replace q358 := eq_true q358) | ((with_reducible refine gd 8 rfl ?_); (try (refine gate_guard (by rfl) ?_; dsimp only)); refine bx (N := 8) (cs := #[.string (⟨#[]⟩ : ByteArray), .string (⟨#[]⟩ : ByteArray), .bool false]) (t := 36) ?_; intro gb359 hg w62 hbox hb; replace HO_337000 := Aside0.mk (Kd.R_below (Kd.R_elderB (zr HO_337000) gb359 (Nat.le_of_eq hg.symm)) hb); replace HO_343000 := Aside0.mk (Kd.R_below (Kd.R_elderB (zr HO_343000) gb359 (Nat.le_of_eq hg.symm)) hb); replace HO357 := Aside0.mk (Kd.R_below (zr HO357) hb); have BK359 := Aside0.mk (hbox); have GW359 := Aside0.mk ((by rw [hg]; exact (below_size (zb HB)) : w.heap.size ≤ gb359)); have GE359 := Aside0.mk ((by rw [hg]; exact (below_size (zb HB)) : w.heap.size ≤ gb359)); replace HB := Aside0.mk (below_step (zb HB) hb); have NB336_359 := Aside0.mk ((by rw [hg]; exact Nat.ne_of_lt (blk_lt (g := gb336) (o := .cells #[.slice Ao12 t329.length co12, .int .i64 t332] 25 (0, 0)) (zk BK336)) : gb336 ≠ gb359)); have NB359_336 := Aside0.mk ((by rw [hg]; exact Nat.ne_of_gt (blk_lt (g := gb336) (o := .cells #[.slice Ao12 t329.length co12, .int .i64 t332] 25 (0, 0)) (zk BK336)) : gb359 ≠ gb336)); replace BK336 := Aside0.mk (blk_below (g := gb336) (o := .cells #[.slice Ao12 t329.length co12, .int .i64 t332] 25 (0, 0)) (zk BK336) hb); have NB337_359 := Aside0.mk ((by rw [hg]; exact Nat.ne_of_lt (blk_lt (g := gb337) (o := .cells #[.string t333, .string t334, .bool t335] 36 (0, 0)) (zk BK337)) : gb337 ≠ gb359)); have NB359_337 := Aside0.mk ((by rw [hg]; exact Nat.ne_of_gt (blk_lt (g := gb337) (o := .cells #[.string t333, .string t334, .bool t335] 36 (0, 0)) (zk BK337)) : gb359 ≠ gb337)); replace BK337 := Aside0.mk (blk_below (g := gb337) (o := .cells #[.string t333, .string t334, .bool t335] 36 (0, 0)) (zk BK337) hb); have NB342_359 := Aside0.mk ((by rw [hg]; exact Nat.ne_of_lt (blk_lt (g := gb342) (o := .cells #[.slice Ao18 t338.length co18, .int .i64 t341] 25 (0, 0)) (zk BK342)) : gb342 ≠ gb359)); have NB359_342 := Aside0.mk ((by rw [hg]; exact Nat.ne_of_gt (blk_lt (g := gb342) (o := .cells #[.slice Ao18 t338.length co18, .int .i64 t341] 25 (0, 0)) (zk BK342)) : gb359 ≠ gb342)); replace BK342 := Aside0.mk (blk_below (g := gb342) (o := .cells #[.slice Ao18 t338.length co18, .int .i64 t341] 25 (0, 0)) (zk BK342) hb); clear hb hbox hg; have hnb63 := NB359_336.out; have hnc63 := NB336_359.out; have hnb64 := NB359_337.out; have hnc64 := NB337_359.out; have hnb65 := NB359_342.out; have hnc65 := NB342_359.out; have hcz66_0 : w62.cell? ⟨gb359, 0, none⟩ = some (.string (⟨#[]⟩ : ByteArray)) := (blk_cell BK359.out 0).trans rfl; have hcz66_1 : w62.cell? ⟨gb359, 1, none⟩ = some (.string (⟨#[]⟩ : ByteArray)) := (blk_cell BK359.out 1).trans rfl; have hcz66_2 : w62.cell? ⟨gb359, 2, none⟩ = some (.bool false) := (blk_cell BK359.out 2).trans rfl; have hfz66_0 := blk_frozen BK359.out 0; have hfz66_1 := blk_frozen BK359.out 1; have hfz66_2 := blk_frozen BK359.out 2))
         have n0_ : Aside0 (Kd.R k36 36 (((w62.setCell ⟨gb359, 0, none⟩ (.string (⟨#[97]⟩ : ByteArray))).setCell ⟨gb359, 1, none⟩ (.string (rdOf ByteArray.empty y355 (ji53)))).setCell ⟨gb359, 2, none⟩ (.bool false)) w.heap.size (fun k_ => some k_ ≠ (.slice Ao18 t338.length co18 : Value).ownBlock ∧ k_ ≠ gb337 ∧ k_ ≠ gb359) (.slice Ao12 t329.length co12) t329) := ⟨by (with_reducible repeat (first | apply Kd.R_alloc | apply Kd.R_drewN | apply Kd.R_drew)); exact Kd.R_mono (Kd.R_far (p := ⟨gb359, 2, none⟩) (Kd.R_far (p := ⟨gb359, 1, none⟩) (Kd.R_far (p := ⟨gb359, 0, none⟩) (Kd.R_mono HO_337000.out (fun k_ hk => (⟨hk, hk.2⟩ : _ ∧ k_ ≠ gb359))) (fun _ hk => hk.2) (.string (⟨#[97]⟩ : ByteArray))) (fun _ hk => hk.2) (.string (rdOf ByteArray.empty y355 (ji53)))) (fun _ hk => hk.2) (.bool false)) (fun _ hk => ⟨hk.1.1.1, ⟨hk.1.1.2, hk.1.2⟩⟩)⟩
         have n1_ : Aside0 (Kd.R k36 36 (((w62.setCell ⟨gb359, 0, none⟩ (.string (⟨#[97]⟩ : ByteArray))).setCell ⟨gb359, 1, none⟩ (.string (rdOf ByteArray.empty y355 (ji53)))).setCell ⟨gb359, 2, none⟩ (.bool false)) w.heap.size (fun k_ => some k_ ≠ (.slice Ao12 t329.length co12 : Value).ownBlock ∧ k_ ≠ gb337 ∧ k_ ≠ gb359) (.slice Ao18 t338.length co18) t338) := ⟨by (with_reducible repeat (first | apply Kd.R_alloc | apply Kd.R_drewN | apply Kd.R_drew)); exact Kd.R_mono (Kd.R_far (p := ⟨gb359, 2, none⟩) (Kd.R_far (p := ⟨gb359, 1, none⟩) (Kd.R_far (p := ⟨gb359, 0, none⟩) (Kd.R_mono HO_343000.out (fun k_ hk => (⟨hk, hk.2⟩ : _ ∧ k_ ≠ gb359))) (fun _ hk => hk.2) (.string (⟨#[97]⟩ : ByteArray))) (fun _ hk => hk.2) (.string (rdOf ByteArray.empty y355 (ji53)))) (fun _ hk => hk.2) (.bool false)) (fun _ hk => ⟨hk.1.1.1, ⟨hk.1.1.2, hk.1.2⟩⟩)⟩
         have n2_ : Aside0 (Kd.R Kd.string 9 (((w62.setCell ⟨gb359, 0, none⟩ (.string (⟨#[97]⟩ : ByteArray))).setCell ⟨gb359, 1, none⟩ (.string (rdOf ByteArray.empty y355 (ji53)))).setCell ⟨gb359, 2, none⟩ (.bool false)) w.heap.size (fun _ => True) (.slice (some ad358) y355.length co61) y355) := ⟨by (with_reducible repeat (first | apply Kd.R_alloc | apply Kd.R_drewN | apply Kd.R_drew)); exact Kd.R_mono (Kd.R_far (p := ⟨gb359, 2, none⟩) (Kd.R_far (p := ⟨gb359, 1, none⟩) (Kd.R_far (p := ⟨gb359, 0, none⟩) (Kd.R_types HO357.out BK359.out (by decide)) (fun _ hk => hk.2) (.string (⟨#[97]⟩ : ByteArray))) (fun _ hk => hk.2) (.string (rdOf ByteArray.empty y355 (ji53)))) (fun _ hk => hk.2) (.bool false)) (fun _ hk => trivial)⟩
         have n3_ : Aside0 ((((w62.setCell ⟨gb359, 0, none⟩ (.string (⟨#[97]⟩ : ByteArray))).setCell ⟨gb359, 1, none⟩ (.string (rdOf ByteArray.empty y355 (ji53)))).setCell ⟨gb359, 2, none⟩ (.bool false)).heap[gb336]? = some (.cells #[.slice Ao12 t329.length co12, .int .i64 t332] 25 (0, 0))) := ⟨by (with_reducible repeat (first | refine blk_drewN ?_ _ | refine blk_drew ?_ | refine blk_alloc ?_ _)); refine blk_far ?_ NB336_359.out _; (with_reducible repeat (first | refine blk_drewN ?_ _ | refine blk_drew ?_ | refine blk_alloc ?_ _)); refine blk_far ?_ NB336_359.out _; (with_reducible repeat (first | refine blk_drewN ?_ _ | refine blk_drew ?_ | refine blk_alloc ?_ _)); refine blk_far ?_ NB336_359.out _; exact zk BK336⟩
         have n4_ : Aside0 ((((w62.setCell ⟨gb359, 0, none⟩ (.string (⟨#[97]⟩ : ByteArray))).setCell ⟨gb359, 1, none⟩ (.string (rdOf ByteArray.empty y355 (ji53)))).setCell ⟨gb359, 2, none⟩ (.bool false)).heap[gb337]? = some (.cells #[.string t333, .string t334, .bool t335] 36 (0, 0))) := ⟨by (with_reducible repeat (first | refine blk_drewN ?_ _ | refine blk_drew ?_ | refine blk_alloc ?_ _)); refine blk_far ?_ NB337_359.out _; (with_reducible repeat (first | refine blk_drewN ?_ _ | refine blk_drew ?_ | refine blk_alloc ?_ _)); refine blk_far ?_ NB337_359.out _; (with_reducible repeat (first | refine blk_drewN ?_ _ | refine blk_drew ?_ | refine blk_alloc ?_ _)); refine blk_far ?_ NB337_359.out _; exact zk BK337⟩
         have n5_ : Aside0 ((((w62.setCell ⟨gb359, 0, none⟩ (.string (⟨#[97]⟩ : ByteArray))).setCell ⟨gb359, 1, none⟩ (.string (rdOf ByteArray.empty y355 (ji53)))).setCell ⟨gb359, 2, none⟩ (.bool false)).heap[gb342]? = some (.cells #[.slice Ao18 t338.length co18, .int .i64 t341] 25 (0, 0))) := ⟨by (with_reducible repeat (first | refine blk_drewN ?_ _ | refine blk_drew ?_ | refine blk_alloc ?_ _)); refine blk_far ?_ NB342_359.out _; (with_reducible repeat (first | refine blk_drewN ?_ _ | refine blk_drew ?_ | refine blk_alloc ?_ _)); refine blk_far ?_ NB342_359.out _; (with_reducible repeat (first | refine blk_drewN ?_ _ | refine blk_drew ?_ | refine blk_alloc ?_ _)); refine blk_far ?_ NB342_359.out _; exact zk BK342⟩
         have n6_ : Aside0 ((((w62.setCell ⟨gb359, 0, none⟩ (.string (⟨#[97]⟩ : ByteArray))).setCell ⟨gb359, 1, none⟩ (.string (rdOf ByteArray.empty y355 (ji53)))).setCell ⟨gb359, 2, none⟩ (.bool false)).heap[gb359]? = some (.cells #[.string (⟨#[97]⟩ : ByteArray), .string (rdOf ByteArray.empty y355 (ji53)), .bool false] 36 (0, 0))) := ⟨by (with_reducible repeat (first | refine blk_drewN ?_ _ | refine blk_drew ?_ | refine blk_alloc ?_ _)); refine blk_put (cs := #[.string (⟨#[97]⟩ : ByteArray), .string (rdOf ByteArray.empty y355 (ji53)), .bool false]) ?_ 2 _ rfl; (with_reducible repeat (first | refine blk_drewN ?_ _ | refine blk_drew ?_ | refine blk_alloc ?_ _)); refine blk_put (cs := #[.string (⟨#[97]⟩ : ByteArray), .string (⟨#[]⟩ : ByteArray), .bool false]) ?_ 1 _ rfl; (with_reducible repeat (first | refine blk_drewN ?_ _ | refine blk_drew ?_ | refine blk_alloc ?_ _)); refine blk_put (cs := #[.string (⟨#[]⟩ : ByteArray), .string (⟨#[]⟩ : ByteArray), .bool false]) ?_ 0 _ rfl; exact zk BK359⟩
         have n7_ : Aside0 (Below w.heap.size w (((w62.setCell ⟨gb359, 0, none⟩ (.string (⟨#[97]⟩ : ByteArray))).setCell ⟨gb359, 1, none⟩ (.string (rdOf ByteArray.empty y355 (ji53)))).setCell ⟨gb359, 2, none⟩ (.bool false))) := ⟨zb HB⟩
         (try clear HO_337000)
         (try clear HO_343000)
         (try clear HO357)
         (try clear BK336)
         (try clear BK337)
         (try clear BK342)
         (try clear BK359)
         (try clear HB)
         generalize (((w62.setCell ⟨gb359, 0, none⟩ (.string (⟨#[97]⟩ : ByteArray))).setCell ⟨gb359, 1, none⟩ (.string (rdOf ByteArray.empty y355 (ji53)))).setCell ⟨gb359, 2, none⟩ (.bool false)) = w67 at n0_ n1_ n2_ n3_ n4_ n5_ n6_ n7_ ⊢
         have HO_337000 := n0_
         have HO_343000 := n1_
         have HO357 := n2_
         have BK336 := n3_
         have BK337 := n4_
         have BK342 := n5_
         have BK359 := n6_
         have HB := n7_
         clear n0_ n1_ n2_ n3_ n4_ n5_ n6_ n7_
         replace HO_337000 := Aside0.mk (Kd.R_drew HO_337000.out)
         replace HO_343000 := Aside0.mk (Kd.R_drew HO_343000.out)
         replace HO357 := Aside0.mk (Kd.R_drew HO357.out)
         replace BK336 := Aside0.mk (blk_drew BK336.out)
         replace BK337 := Aside0.mk (blk_drew BK337.out)
         replace BK342 := Aside0.mk (blk_drew BK342.out)
         replace BK359 := Aside0.mk (blk_drew BK359.out)
         replace HB := Aside0.mk (below_drew1 HB.out)
         refine start_ (n := 8) (S := fun w' => w'.cell? ⟨gb337, 0, none⟩ = some (.string t333) ∧ w'.cell? ⟨gb337, 1, none⟩ = some (.string t334) ∧ w'.cell? ⟨gb337, 2, none⟩ = some (.bool t335) ∧ w'.cell? ⟨gb359, 0, none⟩ = some (.string (⟨#[97]⟩ : ByteArray)) ∧ w'.cell? ⟨gb359, 1, none⟩ = some (.string (rdOf ByteArray.empty y355 (ji53))) ∧ w'.cell? ⟨gb359, 2, none⟩ = some (.bool false) ∧ w'.cell? ⟨gb336, 0, none⟩ = some (.slice Ao12 t329.length co12) ∧ w'.cell? ⟨gb336, 1, none⟩ = some (.int .i64 t332)) (ds := []) #[false, false, false, false, false, false, false, false] (by kernel_rfl) rfl rfl ⟨(blk_cell BK337.out 0).trans rfl, (blk_cell BK337.out 1).trans rfl, (blk_cell BK337.out 2).trans rfl, (blk_cell BK359.out 0).trans rfl, (blk_cell BK359.out 1).trans rfl, (blk_cell BK359.out 2).trans rfl, (blk_cell BK336.out 0).trans rfl, (blk_cell BK336.out 1).trans rfl⟩ (fun hHeld => ?_); refine with_tabW laws_FnAddTwo.tab8 laws_FnAddTwo.bits8 (fun HT_ HW_ => ?_)
         generalize w67.drew = w68 at HO_337000 HO_343000 HO357 BK336 BK337 BK342 BK359 HB hHeld ⊢
         refine pu 5 (some 60) (bm 8 32) rfl rfl ?_
         refine tk8 0 (some 55) (bm 8 33) rfl rfl hHeld ?_
         refine tk8 2 (some 57) (bm 8 37) rfl rfl hHeld ?_
         refine tk8 6 (some 61) (bm 8 101) rfl rfl hHeld ?_
         refine one_ (i := 1) (N := some 56) (bm 8 103) rfl rfl (one_of HT_.out (by kernel_rfl)) (by decide) (fun K hK => ?_)
         refine gs Try.func23 #[.agg #[.string t333, .string t334, .bool t335]] ?_
         with_reducible refine (laws_lkOne.calls t333 t334 t335 t360 _ A56.out).mono ?_
         rintro e w69 ⟨rfl, hb⟩
         refine ⟨_, rfl, ?_⟩
         replace HO_337000 := Aside0.mk (Kd.R_below (zr HO_337000) hb)
         replace HO_343000 := Aside0.mk (Kd.R_below (zr HO_343000) hb)
         replace HO357 := Aside0.mk (Kd.R_below (zr HO357) hb)
         replace BK336 := Aside0.mk (blk_below (g := gb336) (o := .cells #[.slice Ao12 t329.length co12, .int .i64 t332] 25 (0, 0)) (zk BK336) hb)
         replace BK337 := Aside0.mk (blk_below (g := gb337) (o := .cells #[.string t333, .string t334, .bool t335] 36 (0, 0)) (zk BK337) hb)
         replace BK342 := Aside0.mk (blk_below (g := gb342) (o := .cells #[.slice Ao18 t338.length co18, .int .i64 t341] 25 (0, 0)) (zk BK342) hb)
         replace BK359 := Aside0.mk (blk_below (g := gb359) (o := .cells #[.string (⟨#[97]⟩ : ByteArray), .string (rdOf ByteArray.empty y355 (ji53)), .bool false] 36 (0, 0)) (zk BK359) hb)
         replace HB := Aside0.mk (below_step (zb HB) hb)
         (try clear hb)
         refine hK.out _ _ ⟨(blk_cell BK337.out 0).trans rfl, (blk_cell BK337.out 1).trans rfl, (blk_cell BK337.out 2).trans rfl, (blk_cell BK359.out 0).trans rfl, (blk_cell BK359.out 1).trans rfl, (blk_cell BK359.out 2).trans rfl, (blk_cell BK336.out 0).trans rfl, (blk_cell BK336.out 1).trans rfl⟩ (fun hHeld => ?_)
         clear hK K
         refine nm ?_
         refine one_ (i := 3) (N := some 58) (bm 8 111) rfl rfl (one_of HT_.out (by kernel_rfl)) (by decide) (fun K hK => ?_)
         refine goes_ Try.func23 (by kernel_rfl) rfl #[.agg #[.string (⟨#[97]⟩ : ByteArray), .string (rdOf ByteArray.empty y355 (ji53)), .bool false]] (by rfl) rfl rfl (by (try simp only [List.map_toArray, List.map_cons, List.map_nil]); first | done | (simp only [hji53]; rfl) | rfl | (simp only [List.length_drop, List.length_take]; rfl)) ?_
         with_reducible refine (laws_lkOne.calls (⟨#[97]⟩ : ByteArray) (rdOf ByteArray.empty y355 (ji53)) false t361 _ A57.out).mono ?_
         rintro e w70 ⟨rfl, hb⟩
         refine ⟨_, rfl, ?_⟩
         replace HO_337000 := Aside0.mk (Kd.R_below (zr HO_337000) hb)
         replace HO_343000 := Aside0.mk (Kd.R_below (zr HO_343000) hb)
         replace HO357 := Aside0.mk (Kd.R_below (zr HO357) hb)
         replace BK336 := Aside0.mk (blk_below (g := gb336) (o := .cells #[.slice Ao12 t329.length co12, .int .i64 t332] 25 (0, 0)) (zk BK336) hb)
         replace BK337 := Aside0.mk (blk_below (g := gb337) (o := .cells #[.string t333, .string t334, .bool t335] 36 (0, 0)) (zk BK337) hb)
         replace BK342 := Aside0.mk (blk_below (g := gb342) (o := .cells #[.slice Ao18 t338.length co18, .int .i64 t341] 25 (0, 0)) (zk BK342) hb)
         replace BK359 := Aside0.mk (blk_below (g := gb359) (o := .cells #[.string (⟨#[97]⟩ : ByteArray), .string (rdOf ByteArray.empty y355 (ji53)), .bool false] 36 (0, 0)) (zk BK359) hb)
         replace HB := Aside0.mk (below_step (zb HB) hb)
         (try clear hb)
         refine hK.out _ _ ⟨(blk_cell BK337.out 0).trans rfl, (blk_cell BK337.out 1).trans rfl, (blk_cell BK337.out 2).trans rfl, (blk_cell BK359.out 0).trans rfl, (blk_cell BK359.out 1).trans rfl, (blk_cell BK359.out 2).trans rfl, (blk_cell BK336.out 0).trans rfl, (blk_cell BK336.out 1).trans rfl⟩ (fun hHeld => ?_)
         clear hK K
         refine nm ?_
         refine pu 4 (some 59) (bm 8 127) rfl rfl ?_
         refine pu 7 (some 62) (bm 8 255) rfl rfl ?_
         refine done_ (done_of HT_.out (by kernel_rfl)) ?_
         go_upto_if 62 with (fail)
         have H := HC58.out
         clear HC58
         by_cases c71 : (wrap64 (t360 + t361)) > t332
         ·rw [if_pos c71] at H
          have c71b0 : decide (t332 < (wrap64 (t360 + t361))) = true := decide_eq_true c71
          clear c71
          (first | rw [c71b0] | (simp only [i64_w, i32_w]; rw [c71b0]) | skip)
          obtain rfl := Option.some.inj H
          go_wp2
          go_ret
          exact ⟨by first | rfl | (simp [errW_none, errW_some] <;> rfl) | (simp only [← hji53]; first | rfl | (simp [errW_none, errW_some] <;> rfl)) | (simp [*, errW_none, errW_some] <;> rfl) | (simp [errW_none, errW_some]; exact (by intro l_; cases l_ <;> rfl : ∀ l_ : List UInt8, l_.isEmpty = !(l_ != [])) _), zb HB⟩
         ·rw [if_neg c71] at H
          have c71b0 : decide (t332 < (wrap64 (t360 + t361))) = false := decide_eq_false c71
          clear c71
          (first | rw [c71b0] | (simp only [i64_w, i32_w]; rw [c71b0]) | skip)
          replace H := Option.bind_eq_some_iff.mp H
          obtain ⟨⟨t362, t365⟩, A720, H⟩ := H
          replace H : (if (t362.length : Int) ≥ 2 then (if 0 < (t362.length : Int) then (if ((((rd_T36 t362 0).f0).toList) == ([97] : List UInt8) && ((((rd_T36 t362 0).f1).toList) == ((rdOf ByteArray.empty y355 (ji53)).toList) && (!((rd_T36 t362 0).f2)))) = true then (if 1 < (t362.length : Int) then (if ((((rd_T36 t362 1).f0).toList) == t333.toList && ((((rd_T36 t362 1).f1).toList) == t334.toList && (!((rd_T36 t362 1).f2)))) = true then ((impl_TableOk.f kj7 t362 t365).bind fun t370 => (some t370)) else (some false)) else (none)) else (some false)) else (none)) else (some false)) = some r := H
          have A72 := Aside0.mk A720
          clear A720
          by_cases c73 : (t362.length : Int) ≥ 2
          ·rw [if_pos c73] at H
           have c73b0 : decide (2 ≤ (t362.length : Int)) = true := decide_eq_true c73
           have c73b1 : decide (2 ≤ t362.length) = true := decide_eq_true (by omega)
           clear c73
           by_cases c74 : 0 < (t362.length : Int)
           ·rw [if_pos c74] at H
            have c74b0 : decide (0 < (t362.length : Int)) = true := decide_eq_true c74
            have c74b1 : decide (0 < t362.length) = true := decide_eq_true (by omega)
            clear c74
            by_cases c75 : ((((rd_T36 t362 0).f0).toList) == ([97] : List UInt8) && ((((rd_T36 t362 0).f1).toList) == ((rdOf ByteArray.empty y355 (ji53)).toList) && (!((rd_T36 t362 0).f2)))) = true
            ·rw [if_pos c75] at H
             have c75b0 : ((((rd_T36 t362 0).f0).toList) == ([97] : List UInt8) && ((((rd_T36 t362 0).f1).toList) == ((rdOf ByteArray.empty y355 (ji53)).toList) && (!((rd_T36 t362 0).f2)))) = true := c75
             (try (have c75b1 : decide ((((rd_T36 t362 0).f0).toList) = ([97] : List UInt8) && ((((rd_T36 t362 0).f1).toList) == ((rdOf ByteArray.empty y355 (ji53)).toList) && (!((rd_T36 t362 0).f2)))) = true := by simpa using c75))
             (try (have c75b2 : ((((rd_T36 t362 0).f0).toList) == ([97] : List UInt8) && ((((rd_T36 t362 0).f1).toList) == ((rdOf ByteArray.empty y355 (ji53)).toList) && (!((rd_T36 t362 0).f2)))) = true := by simpa using c75))
             clear c75
             by_cases c76 : 1 < (t362.length : Int)
             ·rw [if_pos c76] at H
              have c76b0 : decide (1 < (t362.length : Int)) = true := decide_eq_true c76
              have c76b1 : decide (1 < t362.length) = true := decide_eq_true (by omega)
              clear c76
              by_cases c77 : ((((rd_T36 t362 1).f0).toList) == t333.toList && ((((rd_T36 t362 1).f1).toList) == t334.toList && (!((rd_T36 t362 1).f2)))) = true
              ·rw [if_pos c77] at H
               have c77b0 : ((((rd_T36 t362 1).f0).toList) == t333.toList && ((((rd_T36 t362 1).f1).toList) == t334.toList && (!((rd_T36 t362 1).f2)))) = true := c77
               (try (have c77b1 : decide ((((rd_T36 t362 1).f0).toList) = t333.toList && ((((rd_T36 t362 1).f1).toList) == t334.toList && (!((rd_T36 t362 1).f2)))) = true := by simpa using c77))
               (try (have c77b2 : ((((rd_T36 t362 1).f0).toList) == t333.toList && ((((rd_T36 t362 1).f1).toList) == t334.toList && (!((rd_T36 t362 1).f2)))) = true := by simpa using c77))
               clear c77
               replace H := Option.bind_eq_some_iff.mp H
               obtain ⟨t370, A780, H⟩ := H
               replace H : (some t370) = some r := H
               have A78 := Aside0.mk A780
               clear A780
               obtain rfl := Option.some.inj H
               have hnb79 := NB342_336.out
               have hnc79 := NB336_342.out
               have hnb80 := NB342_337.out
               have hnc80 := NB337_342.out
               have hnb81 := NB342_359.out
               have hnc81 := NB359_342.out
               have hcz82_0 : w70.cell? ⟨gb342, 0, none⟩ = some (.slice Ao18 t338.length co18) := (blk_cell BK342.out 0).trans rfl
               have hcz82_1 : w70.cell? ⟨gb342, 1, none⟩ = some (.int .i64 t341) := (blk_cell BK342.out 1).trans rfl
               have hfz82_0 := blk_frozen BK342.out 0
               have hfz82_1 := blk_frozen BK342.out 1
               have hnb83 := NB359_336.out
               have hnc83 := NB336_359.out
               have hnb84 := NB359_337.out
               have hnc84 := NB337_359.out
               have hcz85_0 : w70.cell? ⟨gb359, 0, none⟩ = some (.string (⟨#[97]⟩ : ByteArray)) := (blk_cell BK359.out 0).trans rfl
               have hcz85_1 : w70.cell? ⟨gb359, 1, none⟩ = some (.string (rdOf ByteArray.empty y355 (ji53))) := (blk_cell BK359.out 1).trans rfl
               have hcz85_2 : w70.cell? ⟨gb359, 2, none⟩ = some (.bool false) := (blk_cell BK359.out 2).trans rfl
               have hfz85_0 := blk_frozen BK359.out 0
               have hfz85_1 := blk_frozen BK359.out 1
               have hfz85_2 := blk_frozen BK359.out 2
               try go_wp2_with (first | ((with_reducible refine gq 30 rfl ?_); refine goesL_ (some 65) rfl rfl Try.func30 (by kernel_rfl) rfl #[.agg #[.slice Ao18 t338.length co18, .int .i64 t341], .agg #[.string (⟨#[97]⟩ : ByteArray), .string (rdOf ByteArray.empty y355 (ji53)), .bool false]] rfl (by (try simp only [List.map_toArray, List.map_cons, List.map_nil]); first | done | (simp only [hji53]; rfl) | rfl | (simp only [List.length_drop, List.length_take]; rfl)) ?_; (with_reducible refine (impl_TableAdd.calls kj7 _ _ t338 t341 (⟨#[97]⟩ : ByteArray) (rdOf ByteArray.empty y355 (ji53)) false t362 t365 _ ?side1 ?side2 A72.out).mono ?_); (case side1 => exact zc (Kd.R_reads' HO_343000.out).2.2); (case side2 => exact (Kd.R_reads' HO_343000.out).2.1); rintro e w86 ⟨v363, rfl, ho0, hb⟩; refine ⟨_, rfl, ?_⟩; replace HO357 := Aside0.mk (Kd.R_below (zr HO357) hb); have HO364 := Aside0.mk (Kd.R_lower (Kd.R_newB (Kd.R_newB (Kd.R_new' (Kd.R_new' ho0 (Kd.R_lt (zr HO_337000))) (Kd.R_lt (zr HO_343000))) (g := gb337) (o := .cells #[.string t333, .string t334, .bool t335] 36 (0, 0)) (zk BK337)) (g := gb359) (o := .cells #[.string (⟨#[97]⟩ : ByteArray), .string (rdOf ByteArray.empty y355 (ji53)), .bool false] 36 (0, 0)) (zk BK359)) (below_size (zb HB))); replace HO_337000 := Aside0.mk (Kd.R_elder' (zr HO_337000) (Kd.R_base ho0) hb); replace HO_343000 := Aside0.mk (Kd.R_elder' (zr HO_343000) (Kd.R_base ho0) hb); replace BK336 := Aside0.mk (blk_below (g := gb336) (o := .cells #[.slice Ao12 t329.length co12, .int .i64 t332] 25 (0, 0)) (zk BK336) hb); replace BK337 := Aside0.mk (blk_below (g := gb337) (o := .cells #[.string t333, .string t334, .bool t335] 36 (0, 0)) (zk BK337) hb); replace BK342 := Aside0.mk (blk_below (g := gb342) (o := .cells #[.slice Ao18 t338.length co18, .int .i64 t341] 25 (0, 0)) (zk BK342) hb); replace BK359 := Aside0.mk (blk_below (g := gb359) (o := .cells #[.string (⟨#[97]⟩ : ByteArray), .string (rdOf ByteArray.empty y355 (ji53)), .bool false] 36 (0, 0)) (zk BK359) hb); replace HB := Aside0.mk (below_step (zb HB) hb); (try clear hb); (try clear ho0)) | ((with_reducible refine gd 9 rfl ?_); (try (refine gate_guard (by rfl) ?_; dsimp only)); refine bx (N := 9) (cs := #[.slice none 0 0, .int .i64 0]) (t := 25) ?_; intro gb366 hg w87 hbox hb; replace HO_337000 := Aside0.mk (Kd.R_below (zr HO_337000) hb); replace HO_343000 := Aside0.mk (Kd.R_below (zr HO_343000) hb); replace HO357 := Aside0.mk (Kd.R_below (zr HO357) hb); replace HO364 := Aside0.mk (Kd.R_below (zr HO364) hb); have BK366 := Aside0.mk (hbox); have GW366 := Aside0.mk ((by rw [hg]; exact (below_size (zb HB)) : w.heap.size ≤ gb366)); have GE366 := Aside0.mk ((by rw [hg]; exact (below_size (zb HB)) : w.heap.size ≤ gb366)); replace HB := Aside0.mk (below_step (zb HB) hb); have NB336_366 := Aside0.mk ((by rw [hg]; exact Nat.ne_of_lt (blk_lt (g := gb336) (o := .cells #[.slice Ao12 t329.length co12, .int .i64 t332] 25 (0, 0)) (zk BK336)) : gb336 ≠ gb366)); have NB366_336 := Aside0.mk ((by rw [hg]; exact Nat.ne_of_gt (blk_lt (g := gb336) (o := .cells #[.slice Ao12 t329.length co12, .int .i64 t332] 25 (0, 0)) (zk BK336)) : gb366 ≠ gb336)); replace BK336 := Aside0.mk (blk_below (g := gb336) (o := .cells #[.slice Ao12 t329.length co12, .int .i64 t332] 25 (0, 0)) (zk BK336) hb); have NB337_366 := Aside0.mk ((by rw [hg]; exact Nat.ne_of_lt (blk_lt (g := gb337) (o := .cells #[.string t333, .string t334, .bool t335] 36 (0, 0)) (zk BK337)) : gb337 ≠ gb366)); have NB366_337 := Aside0.mk ((by rw [hg]; exact Nat.ne_of_gt (blk_lt (g := gb337) (o := .cells #[.string t333, .string t334, .bool t335] 36 (0, 0)) (zk BK337)) : gb366 ≠ gb337)); replace BK337 := Aside0.mk (blk_below (g := gb337) (o := .cells #[.string t333, .string t334, .bool t335] 36 (0, 0)) (zk BK337) hb); have NB342_366 := Aside0.mk ((by rw [hg]; exact Nat.ne_of_lt (blk_lt (g := gb342) (o := .cells #[.slice Ao18 t338.length co18, .int .i64 t341] 25 (0, 0)) (zk BK342)) : gb342 ≠ gb366)); have NB366_342 := Aside0.mk ((by rw [hg]; exact Nat.ne_of_gt (blk_lt (g := gb342) (o := .cells #[.slice Ao18 t338.length co18, .int .i64 t341] 25 (0, 0)) (zk BK342)) : gb366 ≠ gb342)); replace BK342 := Aside0.mk (blk_below (g := gb342) (o := .cells #[.slice Ao18 t338.length co18, .int .i64 t341] 25 (0, 0)) (zk BK342) hb); have NB359_366 := Aside0.mk ((by rw [hg]; exact Nat.ne_of_lt (blk_lt (g := gb359) (o := .cells #[.string (⟨#[97]⟩ : ByteArray), .string (rdOf ByteArray.empty y355 (ji53)), .bool false] 36 (0, 0)) (zk BK359)) : gb359 ≠ gb366)); have NB366_359 := Aside0.mk ((by rw [hg]; exact Nat.ne_of_gt (blk_lt (g := gb359) (o := .cells #[.string (⟨#[97]⟩ : ByteArray), .string (rdOf ByteArray.empty y355 (ji53)), .bool false] 36 (0, 0)) (zk BK359)) : gb366 ≠ gb359)); replace BK359 := Aside0.mk (blk_below (g := gb359) (o := .cells #[.string (⟨#[97]⟩ : ByteArray), .string (rdOf ByteArray.empty y355 (ji53)), .bool false] 36 (0, 0)) (zk BK359) hb); clear hb hbox hg; obtain ⟨Ao88, co88, eo88⟩ := Kd.R_slice HO364.out; subst eo88; have hnb89 := NB366_336.out; have hnc89 := NB336_366.out; have hnb90 := NB366_337.out; have hnc90 := NB337_366.out; have hnb91 := NB366_342.out; have hnc91 := NB342_366.out; have hnb92 := NB366_359.out; have hnc92 := NB359_366.out; have hcz93_0 : w87.cell? ⟨gb366, 0, none⟩ = some (.slice none 0 0) := (blk_cell BK366.out 0).trans rfl; have hcz93_1 : w87.cell? ⟨gb366, 1, none⟩ = some (.int .i64 0) := (blk_cell BK366.out 1).trans rfl; have hfz93_0 := blk_frozen BK366.out 0; have hfz93_1 := blk_frozen BK366.out 1; have hnb94 := NB337_336.out; have hnc94 := NB336_337.out; have hcz95_0 : w87.cell? ⟨gb337, 0, none⟩ = some (.string t333) := (blk_cell BK337.out 0).trans rfl; have hcz95_1 : w87.cell? ⟨gb337, 1, none⟩ = some (.string t334) := (blk_cell BK337.out 1).trans rfl; have hcz95_2 : w87.cell? ⟨gb337, 2, none⟩ = some (.bool t335) := (blk_cell BK337.out 2).trans rfl; have hfz95_0 := blk_frozen BK337.out 0; have hfz95_1 := blk_frozen BK337.out 1; have hfz95_2 := blk_frozen BK337.out 2) | ((with_reducible refine gd 10 rfl ?_); (try (refine gate_guard (by rfl) ?_; dsimp only)); refine bx (N := 10) (cs := #[.string (⟨#[]⟩ : ByteArray), .string (⟨#[]⟩ : ByteArray), .bool false]) (t := 36) ?_; intro gb367 hg w96 hbox hb; replace HO_337000 := Aside0.mk (Kd.R_below (Kd.R_elderB (by (with_reducible repeat (first | apply Kd.R_alloc | apply Kd.R_drewN | apply Kd.R_drew)); exact (Kd.R_mono (Kd.R_far (p := ⟨gb366, 1, none⟩) (Kd.R_far (p := ⟨gb366, 0, none⟩) (Kd.R_types HO_337000.out BK366.out (by decide)) (fun _ hk => hk.2) (.slice Ao88 t362.length co88)) (fun _ hk => hk.2) (.int .i64 t365)) (fun _ h_ => h_.1))) gb367 (Nat.le_of_eq hg.symm)) hb); replace HO_343000 := Aside0.mk (Kd.R_below (Kd.R_elderB (by (with_reducible repeat (first | apply Kd.R_alloc | apply Kd.R_drewN | apply Kd.R_drew)); exact (Kd.R_mono (Kd.R_far (p := ⟨gb366, 1, none⟩) (Kd.R_far (p := ⟨gb366, 0, none⟩) (Kd.R_types HO_343000.out BK366.out (by decide)) (fun _ hk => hk.2) (.slice Ao88 t362.length co88)) (fun _ hk => hk.2) (.int .i64 t365)) (fun _ h_ => h_.1))) gb367 (Nat.le_of_eq hg.symm)) hb); replace HO357 := Aside0.mk (Kd.R_below (by (with_reducible repeat (first | apply Kd.R_alloc | apply Kd.R_drewN | apply Kd.R_drew)); exact (Kd.R_mono (Kd.R_far (p := ⟨gb366, 1, none⟩) (Kd.R_far (p := ⟨gb366, 0, none⟩) (Kd.R_types HO357.out BK366.out (by decide)) (fun _ hk => hk.2) (.slice Ao88 t362.length co88)) (fun _ hk => hk.2) (.int .i64 t365)) (fun _ h_ => h_.1))) hb); replace HO364 := Aside0.mk (Kd.R_below (Kd.R_elderB (by (with_reducible repeat (first | apply Kd.R_alloc | apply Kd.R_drewN | apply Kd.R_drew)); exact (Kd.R_mono (Kd.R_far (p := ⟨gb366, 1, none⟩) (Kd.R_far (p := ⟨gb366, 0, none⟩) (Kd.R_types HO364.out BK366.out (by decide)) (fun _ hk => hk.2) (.slice Ao88 t362.length co88)) (fun _ hk => hk.2) (.int .i64 t365)) (fun _ h_ => h_.1))) gb367 (Nat.le_of_eq hg.symm)) hb); have BK367 := Aside0.mk (hbox); have GW367 := Aside0.mk ((by rw [hg]; exact (below_size (zb HB)) : w.heap.size ≤ gb367)); have GE367 := Aside0.mk ((by rw [hg]; exact (below_size (zb HB)) : w.heap.size ≤ gb367)); replace HB := Aside0.mk (below_step (zb HB) hb); have NB336_367 := Aside0.mk ((by rw [hg]; exact Nat.ne_of_lt (blk_lt (g := gb336) (o := .cells #[.slice Ao12 t329.length co12, .int .i64 t332] 25 (0, 0)) (by (with_reducible repeat (first | refine blk_drewN ?_ _ | refine blk_drew ?_ | refine blk_alloc ?_ _)); refine blk_far ?_ NB336_366.out _; (with_reducible repeat (first | refine blk_drewN ?_ _ | refine blk_drew ?_ | refine blk_alloc ?_ _)); refine blk_far ?_ NB336_366.out _; exact zk BK336)) : gb336 ≠ gb367)); have NB367_336 := Aside0.mk ((by rw [hg]; exact Nat.ne_of_gt (blk_lt (g := gb336) (o := .cells #[.slice Ao12 t329.length co12, .int .i64 t332] 25 (0, 0)) (by (with_reducible repeat (first | refine blk_drewN ?_ _ | refine blk_drew ?_ | refine blk_alloc ?_ _)); refine blk_far ?_ NB336_366.out _; (with_reducible repeat (first | refine blk_drewN ?_ _ | refine blk_drew ?_ | refine blk_alloc ?_ _)); refine blk_far ?_ NB336_366.out _; exact zk BK336)) : gb367 ≠ gb336)); replace BK336 := Aside0.mk (blk_below (g := gb336) (o := .cells #[.slice Ao12 t329.length co12, .int .i64 t332] 25 (0, 0)) (by (with_reducible repeat (first | refine blk_drewN ?_ _ | refine blk_drew ?_ | refine blk_alloc ?_ _)); refine blk_far ?_ NB336_366.out _; (with_reducible repeat (first | refine blk_drewN ?_ _ | refine blk_drew ?_ | refine blk_alloc ?_ _)); refine blk_far ?_ NB336_366.out _; exact zk BK336) hb); have NB337_367 := Aside0.mk ((by rw [hg]; exact Nat.ne_of_lt (blk_lt (g := gb337) (o := .cells #[.string t333, .string t334, .bool t335] 36 (0, 0)) (by (with_reducible repeat (first | refine blk_drewN ?_ _ | refine blk_drew ?_ | refine blk_alloc ?_ _)); refine blk_far ?_ NB337_366.out _; (with_reducible repeat (first | refine blk_drewN ?_ _ | refine blk_drew ?_ | refine blk_alloc ?_ _)); refine blk_far ?_ NB337_366.out _; exact zk BK337)) : gb337 ≠ gb367)); have NB367_337 := Aside0.mk ((by rw [hg]; exact Nat.ne_of_gt (blk_lt (g := gb337) (o := .cells #[.string t333, .string t334, .bool t335] 36 (0, 0)) (by (with_reducible repeat (first | refine blk_drewN ?_ _ | refine blk_drew ?_ | refine blk_alloc ?_ _)); refine blk_far ?_ NB337_366.out _; (with_reducible repeat (first | refine blk_drewN ?_ _ | refine blk_drew ?_ | refine blk_alloc ?_ _)); refine blk_far ?_ NB337_366.out _; exact zk BK337)) : gb367 ≠ gb337)); replace BK337 := Aside0.mk (blk_below (g := gb337) (o := .cells #[.string t333, .string t334, .bool t335] 36 (0, 0)) (by (with_reducible repeat (first | refine blk_drewN ?_ _ | refine blk_drew ?_ | refine blk_alloc ?_ _)); refine blk_far ?_ NB337_366.out _; (with_reducible repeat (first | refine blk_drewN ?_ _ | refine blk_drew ?_ | refine blk_alloc ?_ _)); refine blk_far ?_ NB337_366.out _; exact zk BK337) hb); have NB342_367 := Aside0.mk ((by rw [hg]; exact Nat.ne_of_lt (blk_lt (g := gb342) (o := .cells #[.slice Ao18 t338.length co18, .int .i64 t341] 25 (0, 0)) (by (with_reducible repeat (first | refine blk_drewN ?_ _ | refine blk_drew ?_ | refine blk_alloc ?_ _)); refine blk_far ?_ NB342_366.out _; (with_reducible repeat (first | refine blk_drewN ?_ _ | refine blk_drew ?_ | refine blk_alloc ?_ _)); refine blk_far ?_ NB342_366.out _; exact zk BK342)) : gb342 ≠ gb367)); have NB367_342 := Aside0.mk ((by rw [hg]; exact Nat.ne_of_gt (blk_lt (g := gb342) (o := .cells #[.slice Ao18 t338.length co18, .int .i64 t341] 25 (0, 0)) (by (with_reducible repeat (first | refine blk_drewN ?_ _ | refine blk_drew ?_ | refine blk_alloc ?_ _)); refine blk_far ?_ NB342_366.out _; (with_reducible repeat (first | refine blk_drewN ?_ _ | refine blk_drew ?_ | refine blk_alloc ?_ _)); refine blk_far ?_ NB342_366.out _; exact zk BK342)) : gb367 ≠ gb342)); replace BK342 := Aside0.mk (blk_below (g := gb342) (o := .cells #[.slice Ao18 t338.length co18, .int .i64 t341] 25 (0, 0)) (by (with_reducible repeat (first | refine blk_drewN ?_ _ | refine blk_drew ?_ | refine blk_alloc ?_ _)); refine blk_far ?_ NB342_366.out _; (with_reducible repeat (first | refine blk_drewN ?_ _ | refine blk_drew ?_ | refine blk_alloc ?_ _)); refine blk_far ?_ NB342_366.out _; exact zk BK342) hb); have NB359_367 := Aside0.mk ((by rw [hg]; exact Nat.ne_of_lt (blk_lt (g := gb359) (o := .cells #[.string (⟨#[97]⟩ : ByteArray), .string (rdOf ByteArray.empty y355 (ji53)), .bool false] 36 (0, 0)) (by (with_reducible repeat (first | refine blk_drewN ?_ _ | refine blk_drew ?_ | refine blk_alloc ?_ _)); refine blk_far ?_ NB359_366.out _; (with_reducible repeat (first | refine blk_drewN ?_ _ | refine blk_drew ?_ | refine blk_alloc ?_ _)); refine blk_far ?_ NB359_366.out _; exact zk BK359)) : gb359 ≠ gb367)); have NB367_359 := Aside0.mk ((by rw [hg]; exact Nat.ne_of_gt (blk_lt (g := gb359) (o := .cells #[.string (⟨#[97]⟩ : ByteArray), .string (rdOf ByteArray.empty y355 (ji53)), .bool false] 36 (0, 0)) (by (with_reducible repeat (first | refine blk_drewN ?_ _ | refine blk_drew ?_ | refine blk_alloc ?_ _)); refine blk_far ?_ NB359_366.out _; (with_reducible repeat (first | refine blk_drewN ?_ _ | refine blk_drew ?_ | refine blk_alloc ?_ _)); refine blk_far ?_ NB359_366.out _; exact zk BK359)) : gb367 ≠ gb359)); replace BK359 := Aside0.mk (blk_below (g := gb359) (o := .cells #[.string (⟨#[97]⟩ : ByteArray), .string (rdOf ByteArray.empty y355 (ji53)), .bool false] 36 (0, 0)) (by (with_reducible repeat (first | refine blk_drewN ?_ _ | refine blk_drew ?_ | refine blk_alloc ?_ _)); refine blk_far ?_ NB359_366.out _; (with_reducible repeat (first | refine blk_drewN ?_ _ | refine blk_drew ?_ | refine blk_alloc ?_ _)); refine blk_far ?_ NB359_366.out _; exact zk BK359) hb); have NB366_367 := Aside0.mk ((by rw [hg]; exact Nat.ne_of_lt (blk_lt (g := gb366) (o := .cells #[.slice Ao88 t362.length co88, .int .i64 t365] 25 (0, 0)) (by (with_reducible repeat (first | refine blk_drewN ?_ _ | refine blk_drew ?_ | refine blk_alloc ?_ _)); refine blk_put (cs := #[.slice Ao88 t362.length co88, .int .i64 0]) ?_ 1 _ rfl; (with_reducible repeat (first | refine blk_drewN ?_ _ | refine blk_drew ?_ | refine blk_alloc ?_ _)); refine blk_put (cs := #[.slice none 0 0, .int .i64 0]) ?_ 0 _ rfl; exact zk BK366)) : gb366 ≠ gb367)); have NB367_366 := Aside0.mk ((by rw [hg]; exact Nat.ne_of_gt (blk_lt (g := gb366) (o := .cells #[.slice Ao88 t362.length co88, .int .i64 t365] 25 (0, 0)) (by (with_reducible repeat (first | refine blk_drewN ?_ _ | refine blk_drew ?_ | refine blk_alloc ?_ _)); refine blk_put (cs := #[.slice Ao88 t362.length co88, .int .i64 0]) ?_ 1 _ rfl; (with_reducible repeat (first | refine blk_drewN ?_ _ | refine blk_drew ?_ | refine blk_alloc ?_ _)); refine blk_put (cs := #[.slice none 0 0, .int .i64 0]) ?_ 0 _ rfl; exact zk BK366)) : gb367 ≠ gb366)); replace BK366 := Aside0.mk (blk_below (g := gb366) (o := .cells #[.slice Ao88 t362.length co88, .int .i64 t365] 25 (0, 0)) (by (with_reducible repeat (first | refine blk_drewN ?_ _ | refine blk_drew ?_ | refine blk_alloc ?_ _)); refine blk_put (cs := #[.slice Ao88 t362.length co88, .int .i64 0]) ?_ 1 _ rfl; (with_reducible repeat (first | refine blk_drewN ?_ _ | refine blk_drew ?_ | refine blk_alloc ?_ _)); refine blk_put (cs := #[.slice none 0 0, .int .i64 0]) ?_ 0 _ rfl; exact zk BK366) hb); clear hb hbox hg; have hnb97 := NB367_336.out; have hnc97 := NB336_367.out; have hnb98 := NB367_337.out; have hnc98 := NB337_367.out; have hnb99 := NB367_342.out; have hnc99 := NB342_367.out; have hnb100 := NB367_359.out; have hnc100 := NB359_367.out; have hnb101 := NB367_366.out; have hnc101 := NB366_367.out; have hcz102_0 : w96.cell? ⟨gb367, 0, none⟩ = some (.string (⟨#[]⟩ : ByteArray)) := (blk_cell BK367.out 0).trans rfl; have hcz102_1 : w96.cell? ⟨gb367, 1, none⟩ = some (.string (⟨#[]⟩ : ByteArray)) := (blk_cell BK367.out 1).trans rfl; have hcz102_2 : w96.cell? ⟨gb367, 2, none⟩ = some (.bool false) := (blk_cell BK367.out 2).trans rfl; have hfz102_0 := blk_frozen BK367.out 0; have hfz102_1 := blk_frozen BK367.out 1; have hfz102_2 := blk_frozen BK367.out 2))
               have n0_ : Aside0 (Kd.R k36 36 ((((w96.setCell ⟨gb367, 0, none⟩ (.string t333)).setCell ⟨gb367, 1, none⟩ (.string t334)).setCell ⟨gb367, 2, none⟩ (.bool t335)).setCell ⟨gb367, 2, none⟩ (.bool false)) w.heap.size (fun k_ => some k_ ≠ (.slice Ao18 t338.length co18 : Value).ownBlock ∧ some k_ ≠ (.slice Ao88 t362.length co88 : Value).ownBlock ∧ k_ ≠ gb337 ∧ k_ ≠ gb359 ∧ k_ ≠ gb367) (.slice Ao12 t329.length co12) t329) := ⟨by (with_reducible repeat (first | apply Kd.R_alloc | apply Kd.R_drewN | apply Kd.R_drew)); exact Kd.R_mono (Kd.R_far (p := ⟨gb367, 2, none⟩) (Kd.R_far (p := ⟨gb367, 2, none⟩) (Kd.R_far (p := ⟨gb367, 1, none⟩) (Kd.R_far (p := ⟨gb367, 0, none⟩) (Kd.R_mono HO_337000.out (fun k_ hk => (⟨hk, hk.2⟩ : _ ∧ k_ ≠ gb367))) (fun _ hk => hk.2) (.string t333)) (fun _ hk => hk.2) (.string t334)) (fun _ hk => hk.2) (.bool t335)) (fun _ hk => hk.2) (.bool false)) (fun _ hk => ⟨hk.1.1.1.1, ⟨hk.1.1.2, ⟨hk.1.1.1.2.1, ⟨hk.1.1.1.2.2, hk.1.2⟩⟩⟩⟩)⟩
               have n1_ : Aside0 (Kd.R k36 36 ((((w96.setCell ⟨gb367, 0, none⟩ (.string t333)).setCell ⟨gb367, 1, none⟩ (.string t334)).setCell ⟨gb367, 2, none⟩ (.bool t335)).setCell ⟨gb367, 2, none⟩ (.bool false)) w.heap.size (fun k_ => some k_ ≠ (.slice Ao12 t329.length co12 : Value).ownBlock ∧ some k_ ≠ (.slice Ao88 t362.length co88 : Value).ownBlock ∧ k_ ≠ gb337 ∧ k_ ≠ gb359 ∧ k_ ≠ gb367) (.slice Ao18 t338.length co18) t338) := ⟨by (with_reducible repeat (first | apply Kd.R_alloc | apply Kd.R_drewN | apply Kd.R_drew)); exact Kd.R_mono (Kd.R_far (p := ⟨gb367, 2, none⟩) (Kd.R_far (p := ⟨gb367, 2, none⟩) (Kd.R_far (p := ⟨gb367, 1, none⟩) (Kd.R_far (p := ⟨gb367, 0, none⟩) (Kd.R_mono HO_343000.out (fun k_ hk => (⟨hk, hk.2⟩ : _ ∧ k_ ≠ gb367))) (fun _ hk => hk.2) (.string t333)) (fun _ hk => hk.2) (.string t334)) (fun _ hk => hk.2) (.bool t335)) (fun _ hk => hk.2) (.bool false)) (fun _ hk => ⟨hk.1.1.1.1, ⟨hk.1.1.2, ⟨hk.1.1.1.2.1, ⟨hk.1.1.1.2.2, hk.1.2⟩⟩⟩⟩)⟩
               have n2_ : Aside0 (Kd.R Kd.string 9 ((((w96.setCell ⟨gb367, 0, none⟩ (.string t333)).setCell ⟨gb367, 1, none⟩ (.string t334)).setCell ⟨gb367, 2, none⟩ (.bool t335)).setCell ⟨gb367, 2, none⟩ (.bool false)) w.heap.size (fun _ => True) (.slice (some ad358) y355.length co61) y355) := ⟨by (with_reducible repeat (first | apply Kd.R_alloc | apply Kd.R_drewN | apply Kd.R_drew)); exact Kd.R_mono (Kd.R_far (p := ⟨gb367, 2, none⟩) (Kd.R_far (p := ⟨gb367, 2, none⟩) (Kd.R_far (p := ⟨gb367, 1, none⟩) (Kd.R_far (p := ⟨gb367, 0, none⟩) (Kd.R_types HO357.out BK367.out (by decide)) (fun _ hk => hk.2) (.string t333)) (fun _ hk => hk.2) (.string t334)) (fun _ hk => hk.2) (.bool t335)) (fun _ hk => hk.2) (.bool false)) (fun _ hk => trivial)⟩
               have n3_ : Aside0 (Kd.R k36 36 ((((w96.setCell ⟨gb367, 0, none⟩ (.string t333)).setCell ⟨gb367, 1, none⟩ (.string t334)).setCell ⟨gb367, 2, none⟩ (.bool t335)).setCell ⟨gb367, 2, none⟩ (.bool false)) w.heap.size (fun k_ => some k_ ≠ (.slice Ao12 t329.length co12 : Value).ownBlock ∧ some k_ ≠ (.slice Ao18 t338.length co18 : Value).ownBlock ∧ k_ ≠ gb337 ∧ k_ ≠ gb359 ∧ k_ ≠ gb367) (.slice Ao88 t362.length co88) t362) := ⟨by (with_reducible repeat (first | apply Kd.R_alloc | apply Kd.R_drewN | apply Kd.R_drew)); exact Kd.R_mono (Kd.R_far (p := ⟨gb367, 2, none⟩) (Kd.R_far (p := ⟨gb367, 2, none⟩) (Kd.R_far (p := ⟨gb367, 1, none⟩) (Kd.R_far (p := ⟨gb367, 0, none⟩) (Kd.R_mono HO364.out (fun k_ hk => (⟨hk, hk.2⟩ : _ ∧ k_ ≠ gb367))) (fun _ hk => hk.2) (.string t333)) (fun _ hk => hk.2) (.string t334)) (fun _ hk => hk.2) (.bool t335)) (fun _ hk => hk.2) (.bool false)) (fun _ hk => ⟨hk.1.1.1.1.1.2, ⟨hk.1.1.1.1.2, ⟨hk.1.1.1.2, ⟨hk.1.1.2, hk.1.2⟩⟩⟩⟩)⟩
               have n4_ : Aside0 (((((w96.setCell ⟨gb367, 0, none⟩ (.string t333)).setCell ⟨gb367, 1, none⟩ (.string t334)).setCell ⟨gb367, 2, none⟩ (.bool t335)).setCell ⟨gb367, 2, none⟩ (.bool false)).heap[gb336]? = some (.cells #[.slice Ao12 t329.length co12, .int .i64 t332] 25 (0, 0))) := ⟨by (with_reducible repeat (first | refine blk_drewN ?_ _ | refine blk_drew ?_ | refine blk_alloc ?_ _)); refine blk_far ?_ NB336_367.out _; (with_reducible repeat (first | refine blk_drewN ?_ _ | refine blk_drew ?_ | refine blk_alloc ?_ _)); refine blk_far ?_ NB336_367.out _; (with_reducible repeat (first | refine blk_drewN ?_ _ | refine blk_drew ?_ | refine blk_alloc ?_ _)); refine blk_far ?_ NB336_367.out _; (with_reducible repeat (first | refine blk_drewN ?_ _ | refine blk_drew ?_ | refine blk_alloc ?_ _)); refine blk_far ?_ NB336_367.out _; exact zk BK336⟩
               have n5_ : Aside0 (((((w96.setCell ⟨gb367, 0, none⟩ (.string t333)).setCell ⟨gb367, 1, none⟩ (.string t334)).setCell ⟨gb367, 2, none⟩ (.bool t335)).setCell ⟨gb367, 2, none⟩ (.bool false)).heap[gb337]? = some (.cells #[.string t333, .string t334, .bool t335] 36 (0, 0))) := ⟨by (with_reducible repeat (first | refine blk_drewN ?_ _ | refine blk_drew ?_ | refine blk_alloc ?_ _)); refine blk_far ?_ NB337_367.out _; (with_reducible repeat (first | refine blk_drewN ?_ _ | refine blk_drew ?_ | refine blk_alloc ?_ _)); refine blk_far ?_ NB337_367.out _; (with_reducible repeat (first | refine blk_drewN ?_ _ | refine blk_drew ?_ | refine blk_alloc ?_ _)); refine blk_far ?_ NB337_367.out _; (with_reducible repeat (first | refine blk_drewN ?_ _ | refine blk_drew ?_ | refine blk_alloc ?_ _)); refine blk_far ?_ NB337_367.out _; exact zk BK337⟩
               have n6_ : Aside0 (((((w96.setCell ⟨gb367, 0, none⟩ (.string t333)).setCell ⟨gb367, 1, none⟩ (.string t334)).setCell ⟨gb367, 2, none⟩ (.bool t335)).setCell ⟨gb367, 2, none⟩ (.bool false)).heap[gb342]? = some (.cells #[.slice Ao18 t338.length co18, .int .i64 t341] 25 (0, 0))) := ⟨by (with_reducible repeat (first | refine blk_drewN ?_ _ | refine blk_drew ?_ | refine blk_alloc ?_ _)); refine blk_far ?_ NB342_367.out _; (with_reducible repeat (first | refine blk_drewN ?_ _ | refine blk_drew ?_ | refine blk_alloc ?_ _)); refine blk_far ?_ NB342_367.out _; (with_reducible repeat (first | refine blk_drewN ?_ _ | refine blk_drew ?_ | refine blk_alloc ?_ _)); refine blk_far ?_ NB342_367.out _; (with_reducible repeat (first | refine blk_drewN ?_ _ | refine blk_drew ?_ | refine blk_alloc ?_ _)); refine blk_far ?_ NB342_367.out _; exact zk BK342⟩
               have n7_ : Aside0 (((((w96.setCell ⟨gb367, 0, none⟩ (.string t333)).setCell ⟨gb367, 1, none⟩ (.string t334)).setCell ⟨gb367, 2, none⟩ (.bool t335)).setCell ⟨gb367, 2, none⟩ (.bool false)).heap[gb359]? = some (.cells #[.string (⟨#[97]⟩ : ByteArray), .string (rdOf ByteArray.empty y355 (ji53)), .bool false] 36 (0, 0))) := ⟨by (with_reducible repeat (first | refine blk_drewN ?_ _ | refine blk_drew ?_ | refine blk_alloc ?_ _)); refine blk_far ?_ NB359_367.out _; (with_reducible repeat (first | refine blk_drewN ?_ _ | refine blk_drew ?_ | refine blk_alloc ?_ _)); refine blk_far ?_ NB359_367.out _; (with_reducible repeat (first | refine blk_drewN ?_ _ | refine blk_drew ?_ | refine blk_alloc ?_ _)); refine blk_far ?_ NB359_367.out _; (with_reducible repeat (first | refine blk_drewN ?_ _ | refine blk_drew ?_ | refine blk_alloc ?_ _)); refine blk_far ?_ NB359_367.out _; exact zk BK359⟩
               have n8_ : Aside0 (((((w96.setCell ⟨gb367, 0, none⟩ (.string t333)).setCell ⟨gb367, 1, none⟩ (.string t334)).setCell ⟨gb367, 2, none⟩ (.bool t335)).setCell ⟨gb367, 2, none⟩ (.bool false)).heap[gb366]? = some (.cells #[.slice Ao88 t362.length co88, .int .i64 t365] 25 (0, 0))) := ⟨by (with_reducible repeat (first | refine blk_drewN ?_ _ | refine blk_drew ?_ | refine blk_alloc ?_ _)); refine blk_far ?_ NB366_367.out _; (with_reducible repeat (first | refine blk_drewN ?_ _ | refine blk_drew ?_ | refine blk_alloc ?_ _)); refine blk_far ?_ NB366_367.out _; (with_reducible repeat (first | refine blk_drewN ?_ _ | refine blk_drew ?_ | refine blk_alloc ?_ _)); refine blk_far ?_ NB366_367.out _; (with_reducible repeat (first | refine blk_drewN ?_ _ | refine blk_drew ?_ | refine blk_alloc ?_ _)); refine blk_far ?_ NB366_367.out _; exact zk BK366⟩
               have n9_ : Aside0 (((((w96.setCell ⟨gb367, 0, none⟩ (.string t333)).setCell ⟨gb367, 1, none⟩ (.string t334)).setCell ⟨gb367, 2, none⟩ (.bool t335)).setCell ⟨gb367, 2, none⟩ (.bool false)).heap[gb367]? = some (.cells #[.string t333, .string t334, .bool false] 36 (0, 0))) := ⟨by (with_reducible repeat (first | refine blk_drewN ?_ _ | refine blk_drew ?_ | refine blk_alloc ?_ _)); refine blk_put (cs := #[.string t333, .string t334, .bool t335]) ?_ 2 _ rfl; (with_reducible repeat (first | refine blk_drewN ?_ _ | refine blk_drew ?_ | refine blk_alloc ?_ _)); refine blk_put (cs := #[.string t333, .string t334, .bool false]) ?_ 2 _ rfl; (with_reducible repeat (first | refine blk_drewN ?_ _ | refine blk_drew ?_ | refine blk_alloc ?_ _)); refine blk_put (cs := #[.string t333, .string (⟨#[]⟩ : ByteArray), .bool false]) ?_ 1 _ rfl; (with_reducible repeat (first | refine blk_drewN ?_ _ | refine blk_drew ?_ | refine blk_alloc ?_ _)); refine blk_put (cs := #[.string (⟨#[]⟩ : ByteArray), .string (⟨#[]⟩ : ByteArray), .bool false]) ?_ 0 _ rfl; exact zk BK367⟩
               have n10_ : Aside0 (Below w.heap.size w ((((w96.setCell ⟨gb367, 0, none⟩ (.string t333)).setCell ⟨gb367, 1, none⟩ (.string t334)).setCell ⟨gb367, 2, none⟩ (.bool t335)).setCell ⟨gb367, 2, none⟩ (.bool false))) := ⟨zb HB⟩
               (try clear HO_337000)
               (try clear HO_343000)
               (try clear HO357)
               (try clear HO364)
               (try clear BK336)
               (try clear BK337)
               (try clear BK342)
               (try clear BK359)
               (try clear BK366)
               (try clear BK367)
               (try clear HB)
               generalize ((((w96.setCell ⟨gb367, 0, none⟩ (.string t333)).setCell ⟨gb367, 1, none⟩ (.string t334)).setCell ⟨gb367, 2, none⟩ (.bool t335)).setCell ⟨gb367, 2, none⟩ (.bool false)) = w103 at n0_ n1_ n2_ n3_ n4_ n5_ n6_ n7_ n8_ n9_ n10_ ⊢
               have HO_337000 := n0_
               have HO_343000 := n1_
               have HO357 := n2_
               have HO364 := n3_
               have BK336 := n4_
               have BK337 := n5_
               have BK342 := n6_
               have BK359 := n7_
               have BK366 := n8_
               have BK367 := n9_
               have HB := n10_
               clear n0_ n1_ n2_ n3_ n4_ n5_ n6_ n7_ n8_ n9_ n10_
               replace HO_337000 := Aside0.mk (Kd.R_drew HO_337000.out)
               replace HO_343000 := Aside0.mk (Kd.R_drew HO_343000.out)
               replace HO357 := Aside0.mk (Kd.R_drew HO357.out)
               replace HO364 := Aside0.mk (Kd.R_drew HO364.out)
               replace BK336 := Aside0.mk (blk_drew BK336.out)
               replace BK337 := Aside0.mk (blk_drew BK337.out)
               replace BK342 := Aside0.mk (blk_drew BK342.out)
               replace BK359 := Aside0.mk (blk_drew BK359.out)
               replace BK366 := Aside0.mk (blk_drew BK366.out)
               replace BK367 := Aside0.mk (blk_drew BK367.out)
               replace HB := Aside0.mk (below_drew1 HB.out)
               have p368 : 0 ≤ (0 : Int) := (by omega)
               have q368 : 0 < (t362.length : Int) := of_decide_eq_true za
               obtain ⟨ad368, e368, hx368_0, hx368_1, hx368_2⟩ := at_T36 (Kd.R_reads' HO364.out).2.2 0 p368 q368
               cases e368
               have qi368 : (0 < t362.length) = True := eq_true (by omega)
               (try rw [show ((0 : Int)).toNat = 0 from rfl] at hx368_0)
               (try rw [show 0 * 3 = 0 from rfl] at hx368_0)
               (try rw [Addr.add_zero'] at hx368_0)
               (try rw [show ((0 : Int)).toNat = 0 from rfl] at hx368_1)
               (try rw [show 0 * 3 = 0 from rfl] at hx368_1)
               (try rw [Addr.add_zero'] at hx368_1)
               (try rw [show ((0 : Int)).toNat = 0 from rfl] at hx368_2)
               (try rw [show 0 * 3 = 0 from rfl] at hx368_2)
               (try rw [Addr.add_zero'] at hx368_2)
               replace p368 := eq_true p368
               replace q368 := eq_true q368
               have p369 : 0 ≤ (1 : Int) := (by omega)
               have q369 : 1 < (t362.length : Int) := of_decide_eq_true za
               obtain ⟨ad369, e369, hx369_0, hx369_1, hx369_2⟩ := at_T36 (Kd.R_reads' HO364.out).2.2 1 p369 q369
               obtain rfl : ad368 = ad369 := (by injection e369)
               (try simp only [show (1 : Int).toNat = 1 from rfl, Nat.reduceMul, Nat.reduceEqDiff, Go.Addr.add, ↓reduceIte] at hx369_0)
               (try simp only [show (1 : Int).toNat = 1 from rfl, Nat.reduceMul, Nat.reduceEqDiff, Go.Addr.add, ↓reduceIte] at hx369_1)
               (try simp only [show (1 : Int).toNat = 1 from rfl, Nat.reduceMul, Nat.reduceEqDiff, Go.Addr.add, ↓reduceIte] at hx369_2)
               have qi369 : (1 < t362.length) = True := eq_true (by omega)
               (try rw [show ((1 : Int)).toNat = 1 from rfl] at hx369_0)
               (try rw [show 1 * 3 = 3 from rfl] at hx369_0)
               (try rw [show ((1 : Int)).toNat = 1 from rfl] at hx369_1)
               (try rw [show 1 * 3 = 3 from rfl] at hx369_1)
               (try rw [show ((1 : Int)).toNat = 1 from rfl] at hx369_2)
               (try rw [show 1 * 3 = 3 from rfl] at hx369_2)
               replace p369 := eq_true p369
               replace q369 := eq_true q369
               refine start_ (n := 25) (S := fun w' => w'.cell? ⟨gb366, 0, none⟩ = some (.slice (some ad368) t362.length co88) ∧ w'.cell? ⟨gb366, 1, none⟩ = some (.int .i64 t365) ∧ w'.cell? ⟨gb359, 0, none⟩ = some (.string (⟨#[97]⟩ : ByteArray)) ∧ w'.cell? ⟨gb359, 1, none⟩ = some (.string (rdOf ByteArray.empty y355 (ji53))) ∧ w'.cell? ⟨gb359, 2, none⟩ = some (.bool false) ∧ w'.cell? ⟨gb367, 0, none⟩ = some (.string t333) ∧ w'.cell? ⟨gb367, 1, none⟩ = some (.string t334) ∧ w'.cell? ⟨gb367, 2, none⟩ = some (.bool false) ∧ w'.cell? ad368 = some (.string ((rd_T36 t362 0).f0)) ∧ w'.cell? ⟨ad368.block, ad368.off + 1, none⟩ = some (.string ((rd_T36 t362 0).f1)) ∧ w'.cell? ⟨ad368.block, ad368.off + 2, none⟩ = some (.bool ((rd_T36 t362 0).f2)) ∧ w'.cell? ⟨ad368.block, ad368.off + 3, none⟩ = some (.string ((rd_T36 t362 1).f0)) ∧ w'.cell? ⟨ad368.block, ad368.off + 3 + 1, none⟩ = some (.string ((rd_T36 t362 1).f1)) ∧ w'.cell? ⟨ad368.block, ad368.off + 3 + 2, none⟩ = some (.bool ((rd_T36 t362 1).f2))) (ds := []) #[false, false, false, false, false, false, false, false, false, false, false, false, false, false, false, false, false, false, false, false, false, false, false, false, false] (by kernel_rfl) rfl rfl ⟨(blk_cell BK366.out 0).trans rfl, (blk_cell BK366.out 1).trans rfl, (blk_cell BK359.out 0).trans rfl, (blk_cell BK359.out 1).trans rfl, (blk_cell BK359.out 2).trans rfl, (blk_cell BK367.out 0).trans rfl, (blk_cell BK367.out 1).trans rfl, (blk_cell BK367.out 2).trans rfl, hx368_0, hx368_1, hx368_2, hx369_0, hx369_1, hx369_2⟩ (fun hHeld => ?_); refine with_tabW laws_FnAddTwo.tab13 laws_FnAddTwo.bits13 (fun HT_ HW_ => ?_)
               generalize w103.drew = w104 at HO_337000 HO_343000 HO357 HO364 BK336 BK337 BK342 BK359 BK366 BK367 HB hx368_0 hx368_1 hx368_2 hx369_0 hx369_1 hx369_2 hHeld ⊢
               refine pu 0 (some 68) (bm 25 1) rfl rfl ?_
               refine take_ (i := 1) (N := some 69) (v := ?_) (a' := ?_) #[true, true, false, false, false, false, false, false, false, false, false, false, false, false, false, false, false, false, false, false, false, false, false, false, false] rfl rfl (take_ofW HT_.out HW_.out (by kernel_rfl)) (fun _ _ _ h => h) (Or.inl ⟨by rfl, ?_⟩) hHeld ?_ ?_
               rotate_left
               ·rintro w' ⟨s0, s1, s2, s3, s4, s5, s6, s7, s8, s9, s10, s11, s12, s13⟩
                go_simp
                with_reducible rfl
               rotate_left
               ·simp only [Act.put, s1, s2, s3, i64_w, i32_w]
                rfl
               refine pu 2 (some 70) (bm 25 7) rfl rfl ?_
               refine pu 3 (some 71) (bm 25 15) rfl rfl ?_
               refine pu 4 (some 72) (bm 25 31) rfl rfl ?_
               refine pu 5 (some 73) (bm 25 63) rfl rfl ?_
               refine take_ (i := 6) (N := some 74) (v := ?_) (a' := ?_) #[true, true, true, true, true, true, true, false, false, false, false, false, false, false, false, false, false, false, false, false, false, false, false, false, false] rfl rfl (take_ofW HT_.out HW_.out (by kernel_rfl)) (fun _ _ _ h => h) (Or.inl ⟨by rfl, ?_⟩) hHeld ?_ ?_
               rotate_left
               ·rintro w' ⟨s0, s1, s2, s3, s4, s5, s6, s7, s8, s9, s10, s11, s12, s13⟩
                go_simp
                with_reducible rfl
               rotate_left
               ·simp only [Act.put, s1, s2, s3, i64_w, i32_w]
                rfl
               refine pu 7 (some 75) (bm 25 255) rfl rfl ?_
               refine take_ (i := 8) (N := some 76) (v := ?_) (a' := ?_) #[true, true, true, true, true, true, true, true, true, false, false, false, false, false, false, false, false, false, false, false, false, false, false, false, false] rfl rfl (take_ofW HT_.out HW_.out (by kernel_rfl)) (fun _ _ _ h => h) (Or.inl ⟨by rfl, ?_⟩) hHeld ?_ ?_
               rotate_left
               ·rintro w' ⟨s0, s1, s2, s3, s4, s5, s6, s7, s8, s9, s10, s11, s12, s13⟩
                go_simp
                with_reducible rfl
               rotate_left
               ·simp only [Act.put, s1, s2, s3, i64_w, i32_w]
                rfl
               refine take_ (i := 9) (N := some 77) (v := ?_) (a' := ?_) #[true, true, true, true, true, true, true, true, true, true, false, false, false, false, false, false, false, false, false, false, false, false, false, false, false] rfl rfl (take_ofW HT_.out HW_.out (by kernel_rfl)) (fun _ _ _ h => h) (Or.inl ⟨by rfl, ?_⟩) hHeld ?_ ?_
               rotate_left
               ·rintro w' ⟨s0, s1, s2, s3, s4, s5, s6, s7, s8, s9, s10, s11, s12, s13⟩
                go_simp
                with_reducible rfl
               rotate_left
               ·simp only [Act.put, s1, s2, s3, i64_w, i32_w]
                rfl
               refine pu 10 (some 78) (bm 25 2047) rfl rfl ?_
               refine pu 11 (some 79) (bm 25 4095) rfl rfl ?_
               refine pu 12 (some 80) (bm 25 8191) rfl rfl ?_
               refine pu 13 (some 81) (bm 25 16383) rfl rfl ?_
               refine take_ (i := 14) (N := some 82) (v := ?_) (a' := ?_) #[true, true, true, true, true, true, true, true, true, true, true, true, true, true, true, false, false, false, false, false, false, false, false, false, false] rfl rfl (take_ofW HT_.out HW_.out (by kernel_rfl)) (fun _ _ _ h => h) (Or.inl ⟨by rfl, ?_⟩) hHeld ?_ ?_
               rotate_left
               ·rintro w' ⟨s0, s1, s2, s3, s4, s5, s6, s7, s8, s9, s10, s11, s12, s13⟩
                go_simp
                with_reducible rfl
               rotate_left
               ·simp only [Act.put, s1, s2, s3, i64_w, i32_w]
                rfl
               refine pu 15 (some 83) (bm 25 65535) rfl rfl ?_
               refine take_ (i := 16) (N := some 84) (v := ?_) (a' := ?_) #[true, true, true, true, true, true, true, true, true, true, true, true, true, true, true, true, true, false, false, false, false, false, false, false, false] rfl rfl (take_ofW HT_.out HW_.out (by kernel_rfl)) (fun _ _ _ h => h) (Or.inl ⟨by rfl, ?_⟩) hHeld ?_ ?_
               rotate_left
               ·rintro w' ⟨s0, s1, s2, s3, s4, s5, s6, s7, s8, s9, s10, s11, s12, s13⟩
                go_simp
                with_reducible rfl
               rotate_left
               ·simp only [Act.put, s1, s2, s3, i64_w, i32_w]
                rfl
               refine take_ (i := 17) (N := some 85) (v := ?_) (a' := ?_) #[true, true, true, true, true, true, true, true, true, true, true, true, true, true, true, true, true, true, false, false, false, false, false, false, false] rfl rfl (take_ofW HT_.out HW_.out (by kernel_rfl)) (fun _ _ _ h => h) (Or.inl ⟨by rfl, ?_⟩) hHeld ?_ ?_
               rotate_left
               ·rintro w' ⟨s0, s1, s2, s3, s4, s5, s6, s7, s8, s9, s10, s11, s12, s13⟩
                go_simp
                with_reducible rfl
               rotate_left
               ·simp only [Act.put, s1, s2, s3, i64_w, i32_w]
                rfl
               refine pu 18 (some 86) (bm 25 524287) rfl rfl ?_
               refine pu 19 (some 87) (bm 25 1048575) rfl rfl ?_
               refine pu 20 (some 88) (bm 25 2097151) rfl rfl ?_
               refine take_ (i := 21) (N := some 89) (v := ?_) (a' := ?_) #[true, true, true, true, true, true, true, true, true, true, true, true, true, true, true, true, true, true, true, true, true, true, false, false, false] rfl rfl (take_ofW HT_.out HW_.out (by kernel_rfl)) (fun _ _ _ h => h) (Or.inl ⟨by rfl, ?_⟩) hHeld ?_ ?_
               rotate_left
               ·rintro w' ⟨s0, s1, s2, s3, s4, s5, s6, s7, s8, s9, s10, s11, s12, s13⟩
                go_simp
                with_reducible rfl
               rotate_left
               ·simp only [Act.put, s1, s2, s3, i64_w, i32_w]
                rfl
               refine one_ (i := 22) (N := some 90) (bm 25 8388607) rfl rfl (one_of HT_.out (by kernel_rfl)) (by decide) (fun K hK => ?_)
               refine gs Try.func21 #[.agg #[.slice (some ad368) t362.length co88, .int .i64 t365]] ?_
               with_reducible refine (impl_TableOk.calls kj7 _ _ t362 t365 t370 _ ?side1 ?side2 A78.out).mono ?_
               (case side1 => exact zc (Kd.R_reads' HO364.out).2.2)
               (case side2 => exact (Kd.R_reads' HO364.out).2.1)
               rintro e w105 ⟨rfl, hb⟩
               have HS8_ := (hb.cell (World.block_lt_of_cell? _ _ (hHeld.2.2.2.2.2.2.2.2.1))).trans (hHeld.2.2.2.2.2.2.2.2.1)
               have HS9_ := (hb.cell (World.block_lt_of_cell? _ _ (hHeld.2.2.2.2.2.2.2.2.2.1))).trans (hHeld.2.2.2.2.2.2.2.2.2.1)
               have HS10_ := (hb.cell (World.block_lt_of_cell? _ _ (hHeld.2.2.2.2.2.2.2.2.2.2.1))).trans (hHeld.2.2.2.2.2.2.2.2.2.2.1)
               have HS11_ := (hb.cell (World.block_lt_of_cell? _ _ (hHeld.2.2.2.2.2.2.2.2.2.2.2.1))).trans (hHeld.2.2.2.2.2.2.2.2.2.2.2.1)
               have HS12_ := (hb.cell (World.block_lt_of_cell? _ _ (hHeld.2.2.2.2.2.2.2.2.2.2.2.2.1))).trans (hHeld.2.2.2.2.2.2.2.2.2.2.2.2.1)
               have HS13_ := (hb.cell (World.block_lt_of_cell? _ _ (hHeld.2.2.2.2.2.2.2.2.2.2.2.2.2))).trans (hHeld.2.2.2.2.2.2.2.2.2.2.2.2.2)
               refine ⟨_, rfl, ?_⟩
               replace HO_337000 := Aside0.mk (Kd.R_below (zr HO_337000) hb)
               replace HO_343000 := Aside0.mk (Kd.R_below (zr HO_343000) hb)
               replace HO357 := Aside0.mk (Kd.R_below (zr HO357) hb)
               replace HO364 := Aside0.mk (Kd.R_below (zr HO364) hb)
               replace BK336 := Aside0.mk (blk_below (g := gb336) (o := .cells #[.slice Ao12 t329.length co12, .int .i64 t332] 25 (0, 0)) (zk BK336) hb)
               replace BK337 := Aside0.mk (blk_below (g := gb337) (o := .cells #[.string t333, .string t334, .bool t335] 36 (0, 0)) (zk BK337) hb)
               replace BK342 := Aside0.mk (blk_below (g := gb342) (o := .cells #[.slice Ao18 t338.length co18, .int .i64 t341] 25 (0, 0)) (zk BK342) hb)
               replace BK359 := Aside0.mk (blk_below (g := gb359) (o := .cells #[.string (⟨#[97]⟩ : ByteArray), .string (rdOf ByteArray.empty y355 (ji53)), .bool false] 36 (0, 0)) (zk BK359) hb)
               replace BK366 := Aside0.mk (blk_below (g := gb366) (o := .cells #[.slice (some ad368) t362.length co88, .int .i64 t365] 25 (0, 0)) (zk BK366) hb)
               replace BK367 := Aside0.mk (blk_below (g := gb367) (o := .cells #[.string t333, .string t334, .bool false] 36 (0, 0)) (zk BK367) hb)
               replace HB := Aside0.mk (below_step (zb HB) hb)
               (try clear hb)
               refine hK.out _ _ ⟨(blk_cell BK366.out 0).trans rfl, (blk_cell BK366.out 1).trans rfl, (blk_cell BK359.out 0).trans rfl, (blk_cell BK359.out 1).trans rfl, (blk_cell BK359.out 2).trans rfl, (blk_cell BK367.out 0).trans rfl, (blk_cell BK367.out 1).trans rfl, (blk_cell BK367.out 2).trans rfl, HS8_, HS9_, HS10_, HS11_, HS12_, HS13_⟩ (fun hHeld => ?_)
               clear hK K
               refine nm ?_
               refine pu 23 (some 91) (bm 25 16777215) rfl rfl ?_
               refine pu 24 (some 4) (bm 25 33554431) rfl rfl ?_
               refine done_ (done_of HT_.out (by kernel_rfl)) ?_
               try go_wp2
               go_ret
               exact ⟨by first | rfl | (simp [errW_none, errW_some] <;> rfl) | (simp only [← hji53]; first | rfl | (simp [errW_none, errW_some] <;> rfl)) | (simp [*, errW_none, errW_some] <;> rfl) | (simp [errW_none, errW_some]; exact (by intro l_; cases l_ <;> rfl : ∀ l_ : List UInt8, l_.isEmpty = !(l_ != [])) _), zb HB⟩
              ·rw [if_neg c77] at H
               have c77b0 : ((((rd_T36 t362 1).f0).toList) == t333.toList && ((((rd_T36 t362 1).f1).toList) == t334.toList && (!((rd_T36 t362 1).f2)))) = false := by simpa using c77
               (try (have c77b1 : decide ((((rd_T36 t362 1).f0).toList) = t333.toList && ((((rd_T36 t362 1).f1).toList) == t334.toList && (!((rd_T36 t362 1).f2)))) = false := by simpa using c77))
               (try (have c77b2 : ((((rd_T36 t362 1).f0).toList) == t333.toList && ((((rd_T36 t362 1).f1).toList) == t334.toList && (!((rd_T36 t362 1).f2)))) = false := by simpa using c77))
               (try (have c77b3 : ¬ ((((rd_T36 t362 1).f0).toList) = t333.toList && ((((rd_T36 t362 1).f1).toList) == t334.toList && (!((rd_T36 t362 1).f2)))) := by simpa using c77))
               clear c77
               obtain rfl := Option.some.inj H
               have hnb106 := NB342_336.out
               have hnc106 := NB336_342.out
               have hnb107 := NB342_337.out
               have hnc107 := NB337_342.out
               have hnb108 := NB342_359.out
               have hnc108 := NB359_342.out
               have hcz109_0 : w70.cell? ⟨gb342, 0, none⟩ = some (.slice Ao18 t338.length co18) := (blk_cell BK342.out 0).trans rfl
               have hcz109_1 : w70.cell? ⟨gb342, 1, none⟩ = some (.int .i64 t341) := (blk_cell BK342.out 1).trans rfl
               have hfz109_0 := blk_frozen BK342.out 0
               have hfz109_1 := blk_frozen BK342.out 1
               have hnb110 := NB359_336.out
               have hnc110 := NB336_359.out
               have hnb111 := NB359_337.out
               have hnc111 := NB337_359.out
               have hcz112_0 : w70.cell? ⟨gb359, 0, none⟩ = some (.string (⟨#[97]⟩ : ByteArray)) := (blk_cell BK359.out 0).trans rfl
               have hcz112_1 : w70.cell? ⟨gb359, 1, none⟩ = some (.string (rdOf ByteArray.empty y355 (ji53))) := (blk_cell BK359.out 1).trans rfl
               have hcz112_2 : w70.cell? ⟨gb359, 2, none⟩ = some (.bool false) := (blk_cell BK359.out 2).trans rfl
               have hfz112_0 := blk_frozen BK359.out 0
               have hfz112_1 := blk_frozen BK359.out 1
               have hfz112_2 := blk_frozen BK359.out 2
               try go_wp2_with (first | ((with_reducible refine gq 30 rfl ?_); refine goesL_ (some 65) rfl rfl Try.func30 (by kernel_rfl) rfl #[.agg #[.slice Ao18 t338.length co18, .int .i64 t341], .agg #[.string (⟨#[97]⟩ : ByteArray), .string (rdOf ByteArray.empty y355 (ji53)), .bool false]] rfl (by (try simp only [List.map_toArray, List.map_cons, List.map_nil]); first | done | (simp only [hji53]; rfl) | rfl | (simp only [List.length_drop, List.length_take]; rfl)) ?_; (with_reducible refine (impl_TableAdd.calls kj7 _ _ t338 t341 (⟨#[97]⟩ : ByteArray) (rdOf ByteArray.empty y355 (ji53)) false t362 t365 _ ?side1 ?side2 A72.out).mono ?_); (case side1 => exact zc (Kd.R_reads' HO_343000.out).2.2); (case side2 => exact (Kd.R_reads' HO_343000.out).2.1); rintro e w113 ⟨v363, rfl, ho0, hb⟩; refine ⟨_, rfl, ?_⟩; replace HO357 := Aside0.mk (Kd.R_below (zr HO357) hb); have HO364 := Aside0.mk (Kd.R_lower (Kd.R_newB (Kd.R_newB (Kd.R_new' (Kd.R_new' ho0 (Kd.R_lt (zr HO_337000))) (Kd.R_lt (zr HO_343000))) (g := gb337) (o := .cells #[.string t333, .string t334, .bool t335] 36 (0, 0)) (zk BK337)) (g := gb359) (o := .cells #[.string (⟨#[97]⟩ : ByteArray), .string (rdOf ByteArray.empty y355 (ji53)), .bool false] 36 (0, 0)) (zk BK359)) (below_size (zb HB))); replace HO_337000 := Aside0.mk (Kd.R_elder' (zr HO_337000) (Kd.R_base ho0) hb); replace HO_343000 := Aside0.mk (Kd.R_elder' (zr HO_343000) (Kd.R_base ho0) hb); replace BK336 := Aside0.mk (blk_below (g := gb336) (o := .cells #[.slice Ao12 t329.length co12, .int .i64 t332] 25 (0, 0)) (zk BK336) hb); replace BK337 := Aside0.mk (blk_below (g := gb337) (o := .cells #[.string t333, .string t334, .bool t335] 36 (0, 0)) (zk BK337) hb); replace BK342 := Aside0.mk (blk_below (g := gb342) (o := .cells #[.slice Ao18 t338.length co18, .int .i64 t341] 25 (0, 0)) (zk BK342) hb); replace BK359 := Aside0.mk (blk_below (g := gb359) (o := .cells #[.string (⟨#[97]⟩ : ByteArray), .string (rdOf ByteArray.empty y355 (ji53)), .bool false] 36 (0, 0)) (zk BK359) hb); replace HB := Aside0.mk (below_step (zb HB) hb); (try clear hb); (try clear ho0)) | ((with_reducible refine gd 9 rfl ?_); (try (refine gate_guard (by rfl) ?_; dsimp only)); refine bx (N := 9) (cs := #[.slice none 0 0, .int .i64 0]) (t := 25) ?_; intro gb366 hg w114 hbox hb; replace HO_337000 := Aside0.mk (Kd.R_below (zr HO_337000) hb); replace HO_343000 := Aside0.mk (Kd.R_below (zr HO_343000) hb); replace HO357 := Aside0.mk (Kd.R_below (zr HO357) hb); replace HO364 := Aside0.mk (Kd.R_below (zr HO364) hb); have BK366 := Aside0.mk (hbox); have GW366 := Aside0.mk ((by rw [hg]; exact (below_size (zb HB)) : w.heap.size ≤ gb366)); have GE366 := Aside0.mk ((by rw [hg]; exact (below_size (zb HB)) : w.heap.size ≤ gb366)); replace HB := Aside0.mk (below_step (zb HB) hb); have NB336_366 := Aside0.mk ((by rw [hg]; exact Nat.ne_of_lt (blk_lt (g := gb336) (o := .cells #[.slice Ao12 t329.length co12, .int .i64 t332] 25 (0, 0)) (zk BK336)) : gb336 ≠ gb366)); have NB366_336 := Aside0.mk ((by rw [hg]; exact Nat.ne_of_gt (blk_lt (g := gb336) (o := .cells #[.slice Ao12 t329.length co12, .int .i64 t332] 25 (0, 0)) (zk BK336)) : gb366 ≠ gb336)); replace BK336 := Aside0.mk (blk_below (g := gb336) (o := .cells #[.slice Ao12 t329.length co12, .int .i64 t332] 25 (0, 0)) (zk BK336) hb); have NB337_366 := Aside0.mk ((by rw [hg]; exact Nat.ne_of_lt (blk_lt (g := gb337) (o := .cells #[.string t333, .string t334, .bool t335] 36 (0, 0)) (zk BK337)) : gb337 ≠ gb366)); have NB366_337 := Aside0.mk ((by rw [hg]; exact Nat.ne_of_gt (blk_lt (g := gb337) (o := .cells #[.string t333, .string t334, .bool t335] 36 (0, 0)) (zk BK337)) : gb366 ≠ gb337)); replace BK337 := Aside0.mk (blk_below (g := gb337) (o := .cells #[.string t333, .string t334, .bool t335] 36 (0, 0)) (zk BK337) hb); have NB342_366 := Aside0.mk ((by rw [hg]; exact Nat.ne_of_lt (blk_lt (g := gb342) (o := .cells #[.slice Ao18 t338.length co18, .int .i64 t341] 25 (0, 0)) (zk BK342)) : gb342 ≠ gb366)); have NB366_342 := Aside0.mk ((by rw [hg]; exact Nat.ne_of_gt (blk_lt (g := gb342) (o := .cells #[.slice Ao18 t338.length co18, .int .i64 t341] 25 (0, 0)) (zk BK342)) : gb366 ≠ gb342)); replace BK342 := Aside0.mk (blk_below (g := gb342) (o := .cells #[.slice Ao18 t338.length co18, .int .i64 t341] 25 (0, 0)) (zk BK342) hb); have NB359_366 := Aside0.mk ((by rw [hg]; exact Nat.ne_of_lt (blk_lt (g := gb359) (o := .cells #[.string (⟨#[97]⟩ : ByteArray), .string (rdOf ByteArray.empty y355 (ji53)), .bool false] 36 (0, 0)) (zk BK359)) : gb359 ≠ gb366)); have NB366_359 := Aside0.mk ((by rw [hg]; exact Nat.ne_of_gt (blk_lt (g := gb359) (o := .cells #[.string (⟨#[97]⟩ : ByteArray), .string (rdOf ByteArray.empty y355 (ji53)), .bool false] 36 (0, 0)) (zk BK359)) : gb366 ≠ gb359)); replace BK359 := Aside0.mk (blk_below (g := gb359) (o := .cells #[.string (⟨#[97]⟩ : ByteArray), .string (rdOf ByteArray.empty y355 (ji53)), .bool false] 36 (0, 0)) (zk BK359) hb); clear hb hbox hg; obtain ⟨Ao115, co115, eo115⟩ := Kd.R_slice HO364.out; subst eo115; have hnb116 := NB366_336.out; have hnc116 := NB336_366.out; have hnb117 := NB366_337.out; have hnc117 := NB337_366.out; have hnb118 := NB366_342.out; have hnc118 := NB342_366.out; have hnb119 := NB366_359.out; have hnc119 := NB359_366.out; have hcz120_0 : w114.cell? ⟨gb366, 0, none⟩ = some (.slice none 0 0) := (blk_cell BK366.out 0).trans rfl; have hcz120_1 : w114.cell? ⟨gb366, 1, none⟩ = some (.int .i64 0) := (blk_cell BK366.out 1).trans rfl; have hfz120_0 := blk_frozen BK366.out 0; have hfz120_1 := blk_frozen BK366.out 1; have hnb121 := NB337_336.out; have hnc121 := NB336_337.out; have hcz122_0 : w114.cell? ⟨gb337, 0, none⟩ = some (.string t333) := (blk_cell BK337.out 0).trans rfl; have hcz122_1 : w114.cell? ⟨gb337, 1, none⟩ = some (.string t334) := (blk_cell BK337.out 1).trans rfl; have hcz122_2 : w114.cell? ⟨gb337, 2, none⟩ = some (.bool t335) := (blk_cell BK337.out 2).trans rfl; have hfz122_0 := blk_frozen BK337.out 0; have hfz122_1 := blk_frozen BK337.out 1; have hfz122_2 := blk_frozen BK337.out 2) | ((with_reducible refine gd 10 rfl ?_); (try (refine gate_guard (by rfl) ?_; dsimp only)); refine bx (N := 10) (cs := #[.string (⟨#[]⟩ : ByteArray), .string (⟨#[]⟩ : ByteArray), .bool false]) (t := 36) ?_; intro gb367 hg w123 hbox hb; replace HO_337000 := Aside0.mk (Kd.R_below (Kd.R_elderB (by (with_reducible repeat (first | apply Kd.R_alloc | apply Kd.R_drewN | apply Kd.R_drew)); exact (Kd.R_mono (Kd.R_far (p := ⟨gb366, 1, none⟩) (Kd.R_far (p := ⟨gb366, 0, none⟩) (Kd.R_types HO_337000.out BK366.out (by decide)) (fun _ hk => hk.2) (.slice Ao115 t362.length co115)) (fun _ hk => hk.2) (.int .i64 t365)) (fun _ h_ => h_.1))) gb367 (Nat.le_of_eq hg.symm)) hb); replace HO_343000 := Aside0.mk (Kd.R_below (Kd.R_elderB (by (with_reducible repeat (first | apply Kd.R_alloc | apply Kd.R_drewN | apply Kd.R_drew)); exact (Kd.R_mono (Kd.R_far (p := ⟨gb366, 1, none⟩) (Kd.R_far (p := ⟨gb366, 0, none⟩) (Kd.R_types HO_343000.out BK366.out (by decide)) (fun _ hk => hk.2) (.slice Ao115 t362.length co115)) (fun _ hk => hk.2) (.int .i64 t365)) (fun _ h_ => h_.1))) gb367 (Nat.le_of_eq hg.symm)) hb); replace HO357 := Aside0.mk (Kd.R_below (by (with_reducible repeat (first | apply Kd.R_alloc | apply Kd.R_drewN | apply Kd.R_drew)); exact (Kd.R_mono (Kd.R_far (p := ⟨gb366, 1, none⟩) (Kd.R_far (p := ⟨gb366, 0, none⟩) (Kd.R_types HO357.out BK366.out (by decide)) (fun _ hk => hk.2) (.slice Ao115 t362.length co115)) (fun _ hk => hk.2) (.int .i64 t365)) (fun _ h_ => h_.1))) hb); replace HO364 := Aside0.mk (Kd.R_below (Kd.R_elderB (by (with_reducible repeat (first | apply Kd.R_alloc | apply Kd.R_drewN | apply Kd.R_drew)); exact (Kd.R_mono (Kd.R_far (p := ⟨gb366, 1, none⟩) (Kd.R_far (p := ⟨gb366, 0, none⟩) (Kd.R_types HO364.out BK366.out (by decide)) (fun _ hk => hk.2) (.slice Ao115 t362.length co115)) (fun _ hk => hk.2) (.int .i64 t365)) (fun _ h_ => h_.1))) gb367 (Nat.le_of_eq hg.symm)) hb); have BK367 := Aside0.mk (hbox); have GW367 := Aside0.mk ((by rw [hg]; exact (below_size (zb HB)) : w.heap.size ≤ gb367)); have GE367 := Aside0.mk ((by rw [hg]; exact (below_size (zb HB)) : w.heap.size ≤ gb367)); replace HB := Aside0.mk (below_step (zb HB) hb); have NB336_367 := Aside0.mk ((by rw [hg]; exact Nat.ne_of_lt (blk_lt (g := gb336) (o := .cells #[.slice Ao12 t329.length co12, .int .i64 t332] 25 (0, 0)) (by (with_reducible repeat (first | refine blk_drewN ?_ _ | refine blk_drew ?_ | refine blk_alloc ?_ _)); refine blk_far ?_ NB336_366.out _; (with_reducible repeat (first | refine blk_drewN ?_ _ | refine blk_drew ?_ | refine blk_alloc ?_ _)); refine blk_far ?_ NB336_366.out _; exact zk BK336)) : gb336 ≠ gb367)); have NB367_336 := Aside0.mk ((by rw [hg]; exact Nat.ne_of_gt (blk_lt (g := gb336) (o := .cells #[.slice Ao12 t329.length co12, .int .i64 t332] 25 (0, 0)) (by (with_reducible repeat (first | refine blk_drewN ?_ _ | refine blk_drew ?_ | refine blk_alloc ?_ _)); refine blk_far ?_ NB336_366.out _; (with_reducible repeat (first | refine blk_drewN ?_ _ | refine blk_drew ?_ | refine blk_alloc ?_ _)); refine blk_far ?_ NB336_366.out _; exact zk BK336)) : gb367 ≠ gb336)); replace BK336 := Aside0.mk (blk_below (g := gb336) (o := .cells #[.slice Ao12 t329.length co12, .int .i64 t332] 25 (0, 0)) (by (with_reducible repeat (first | refine blk_drewN ?_ _ | refine blk_drew ?_ | refine blk_alloc ?_ _)); refine blk_far ?_ NB336_366.out _; (with_reducible repeat (first | refine blk_drewN ?_ _ | refine blk_drew ?_ | refine blk_alloc ?_ _)); refine blk_far ?_ NB336_366.out _; exact zk BK336) hb); have NB337_367 := Aside0.mk ((by rw [hg]; exact Nat.ne_of_lt (blk_lt (g := gb337) (o := .cells #[.string t333, .string t334, .bool t335] 36 (0, 0)) (by (with_reducible repeat (first | refine blk_drewN ?_ _ | refine blk_drew ?_ | refine blk_alloc ?_ _)); refine blk_far ?_ NB337_366.out _; (with_reducible repeat (first | refine blk_drewN ?_ _ | refine blk_drew ?_ | refine blk_alloc ?_ _)); refine blk_far ?_ NB337_366.out _; exact zk BK337)) : gb337 ≠ gb367)); have NB367_337 := Aside0.mk ((by rw [hg]; exact Nat.ne_of_gt (blk_lt (g := gb337) (o := .cells #[.string t333, .string t334, .bool t335] 36 (0, 0)) (by (with_reducible repeat (first | refine blk_drewN ?_ _ | refine blk_drew ?_ | refine blk_alloc ?_ _)); refine blk_far ?_ NB337_366.out _; (with_reducible repeat (first | refine blk_drewN ?_ _ | refine blk_drew ?_ | refine blk_alloc ?_ _)); refine blk_far ?_ NB337_366.out _; exact zk BK337)) : gb367 ≠ gb337)); replace BK337 := Aside0.mk (blk_below (g := gb337) (o := .cells #[.string t333, .string t334, .bool t335] 36 (0, 0)) (by (with_reducible repeat (first | refine blk_drewN ?_ _ | refine blk_drew ?_ | refine blk_alloc ?_ _)); refine blk_far ?_ NB337_366.out _; (with_reducible repeat (first | refine blk_drewN ?_ _ | refine blk_drew ?_ | refine blk_alloc ?_ _)); refine blk_far ?_ NB337_366.out _; exact zk BK337) hb); have NB342_367 := Aside0.mk ((by rw [hg]; exact Nat.ne_of_lt (blk_lt (g := gb342) (o := .cells #[.slice Ao18 t338.length co18, .int .i64 t341] 25 (0, 0)) (by (with_reducible repeat (first | refine blk_drewN ?_ _ | refine blk_drew ?_ | refine blk_alloc ?_ _)); refine blk_far ?_ NB342_366.out _; (with_reducible repeat (first | refine blk_drewN ?_ _ | refine blk_drew ?_ | refine blk_alloc ?_ _)); refine blk_far ?_ NB342_366.out _; exact zk BK342)) : gb342 ≠ gb367)); have NB367_342 := Aside0.mk ((by rw [hg]; exact Nat.ne_of_gt (blk_lt (g := gb342) (o := .cells #[.slice Ao18 t338.length co18, .int .i64 t341] 25 (0, 0)) (by (with_reducible repeat (first | refine blk_drewN ?_ _ | refine blk_drew ?_ | refine blk_alloc ?_ _)); refine blk_far ?_ NB342_366.out _; (with_reducible repeat (first | refine blk_drewN ?_ _ | refine blk_drew ?_ | refine blk_alloc ?_ _)); refine blk_far ?_ NB342_366.out _; exact zk BK342)) : gb367 ≠ gb342)); replace BK342 := Aside0.mk (blk_below (g := gb342) (o := .cells #[.slice Ao18 t338.length co18, .int .i64 t341] 25 (0, 0)) (by (with_reducible repeat (first | refine blk_drewN ?_ _ | refine blk_drew ?_ | refine blk_alloc ?_ _)); refine blk_far ?_ NB342_366.out _; (with_reducible repeat (first | refine blk_drewN ?_ _ | refine blk_drew ?_ | refine blk_alloc ?_ _)); refine blk_far ?_ NB342_366.out _; exact zk BK342) hb); have NB359_367 := Aside0.mk ((by rw [hg]; exact Nat.ne_of_lt (blk_lt (g := gb359) (o := .cells #[.string (⟨#[97]⟩ : ByteArray), .string (rdOf ByteArray.empty y355 (ji53)), .bool false] 36 (0, 0)) (by (with_reducible repeat (first | refine blk_drewN ?_ _ | refine blk_drew ?_ | refine blk_alloc ?_ _)); refine blk_far ?_ NB359_366.out _; (with_reducible repeat (first | refine blk_drewN ?_ _ | refine blk_drew ?_ | refine blk_alloc ?_ _)); refine blk_far ?_ NB359_366.out _; exact zk BK359)) : gb359 ≠ gb367)); have NB367_359 := Aside0.mk ((by rw [hg]; exact Nat.ne_of_gt (blk_lt (g := gb359) (o := .cells #[.string (⟨#[97]⟩ : ByteArray), .string (rdOf ByteArray.empty y355 (ji53)), .bool false] 36 (0, 0)) (by (with_reducible repeat (first | refine blk_drewN ?_ _ | refine blk_drew ?_ | refine blk_alloc ?_ _)); refine blk_far ?_ NB359_366.out _; (with_reducible repeat (first | refine blk_drewN ?_ _ | refine blk_drew ?_ | refine blk_alloc ?_ _)); refine blk_far ?_ NB359_366.out _; exact zk BK359)) : gb367 ≠ gb359)); replace BK359 := Aside0.mk (blk_below (g := gb359) (o := .cells #[.string (⟨#[97]⟩ : ByteArray), .string (rdOf ByteArray.empty y355 (ji53)), .bool false] 36 (0, 0)) (by (with_reducible repeat (first | refine blk_drewN ?_ _ | refine blk_drew ?_ | refine blk_alloc ?_ _)); refine blk_far ?_ NB359_366.out _; (with_reducible repeat (first | refine blk_drewN ?_ _ | refine blk_drew ?_ | refine blk_alloc ?_ _)); refine blk_far ?_ NB359_366.out _; exact zk BK359) hb); have NB366_367 := Aside0.mk ((by rw [hg]; exact Nat.ne_of_lt (blk_lt (g := gb366) (o := .cells #[.slice Ao115 t362.length co115, .int .i64 t365] 25 (0, 0)) (by (with_reducible repeat (first | refine blk_drewN ?_ _ | refine blk_drew ?_ | refine blk_alloc ?_ _)); refine blk_put (cs := #[.slice Ao115 t362.length co115, .int .i64 0]) ?_ 1 _ rfl; (with_reducible repeat (first | refine blk_drewN ?_ _ | refine blk_drew ?_ | refine blk_alloc ?_ _)); refine blk_put (cs := #[.slice none 0 0, .int .i64 0]) ?_ 0 _ rfl; exact zk BK366)) : gb366 ≠ gb367)); have NB367_366 := Aside0.mk ((by rw [hg]; exact Nat.ne_of_gt (blk_lt (g := gb366) (o := .cells #[.slice Ao115 t362.length co115, .int .i64 t365] 25 (0, 0)) (by (with_reducible repeat (first | refine blk_drewN ?_ _ | refine blk_drew ?_ | refine blk_alloc ?_ _)); refine blk_put (cs := #[.slice Ao115 t362.length co115, .int .i64 0]) ?_ 1 _ rfl; (with_reducible repeat (first | refine blk_drewN ?_ _ | refine blk_drew ?_ | refine blk_alloc ?_ _)); refine blk_put (cs := #[.slice none 0 0, .int .i64 0]) ?_ 0 _ rfl; exact zk BK366)) : gb367 ≠ gb366)); replace BK366 := Aside0.mk (blk_below (g := gb366) (o := .cells #[.slice Ao115 t362.length co115, .int .i64 t365] 25 (0, 0)) (by (with_reducible repeat (first | refine blk_drewN ?_ _ | refine blk_drew ?_ | refine blk_alloc ?_ _)); refine blk_put (cs := #[.slice Ao115 t362.length co115, .int .i64 0]) ?_ 1 _ rfl; (with_reducible repeat (first | refine blk_drewN ?_ _ | refine blk_drew ?_ | refine blk_alloc ?_ _)); refine blk_put (cs := #[.slice none 0 0, .int .i64 0]) ?_ 0 _ rfl; exact zk BK366) hb); clear hb hbox hg; have hnb124 := NB367_336.out; have hnc124 := NB336_367.out; have hnb125 := NB367_337.out; have hnc125 := NB337_367.out; have hnb126 := NB367_342.out; have hnc126 := NB342_367.out; have hnb127 := NB367_359.out; have hnc127 := NB359_367.out; have hnb128 := NB367_366.out; have hnc128 := NB366_367.out; have hcz129_0 : w123.cell? ⟨gb367, 0, none⟩ = some (.string (⟨#[]⟩ : ByteArray)) := (blk_cell BK367.out 0).trans rfl; have hcz129_1 : w123.cell? ⟨gb367, 1, none⟩ = some (.string (⟨#[]⟩ : ByteArray)) := (blk_cell BK367.out 1).trans rfl; have hcz129_2 : w123.cell? ⟨gb367, 2, none⟩ = some (.bool false) := (blk_cell BK367.out 2).trans rfl; have hfz129_0 := blk_frozen BK367.out 0; have hfz129_1 := blk_frozen BK367.out 1; have hfz129_2 := blk_frozen BK367.out 2))
               have n0_ : Aside0 (Kd.R k36 36 ((((w123.setCell ⟨gb367, 0, none⟩ (.string t333)).setCell ⟨gb367, 1, none⟩ (.string t334)).setCell ⟨gb367, 2, none⟩ (.bool t335)).setCell ⟨gb367, 2, none⟩ (.bool false)) w.heap.size (fun k_ => some k_ ≠ (.slice Ao18 t338.length co18 : Value).ownBlock ∧ some k_ ≠ (.slice Ao115 t362.length co115 : Value).ownBlock ∧ k_ ≠ gb337 ∧ k_ ≠ gb359 ∧ k_ ≠ gb367) (.slice Ao12 t329.length co12) t329) := ⟨by (with_reducible repeat (first | apply Kd.R_alloc | apply Kd.R_drewN | apply Kd.R_drew)); exact Kd.R_mono (Kd.R_far (p := ⟨gb367, 2, none⟩) (Kd.R_far (p := ⟨gb367, 2, none⟩) (Kd.R_far (p := ⟨gb367, 1, none⟩) (Kd.R_far (p := ⟨gb367, 0, none⟩) (Kd.R_mono HO_337000.out (fun k_ hk => (⟨hk, hk.2⟩ : _ ∧ k_ ≠ gb367))) (fun _ hk => hk.2) (.string t333)) (fun _ hk => hk.2) (.string t334)) (fun _ hk => hk.2) (.bool t335)) (fun _ hk => hk.2) (.bool false)) (fun _ hk => ⟨hk.1.1.1.1, ⟨hk.1.1.2, ⟨hk.1.1.1.2.1, ⟨hk.1.1.1.2.2, hk.1.2⟩⟩⟩⟩)⟩
               have n1_ : Aside0 (Kd.R k36 36 ((((w123.setCell ⟨gb367, 0, none⟩ (.string t333)).setCell ⟨gb367, 1, none⟩ (.string t334)).setCell ⟨gb367, 2, none⟩ (.bool t335)).setCell ⟨gb367, 2, none⟩ (.bool false)) w.heap.size (fun k_ => some k_ ≠ (.slice Ao12 t329.length co12 : Value).ownBlock ∧ some k_ ≠ (.slice Ao115 t362.length co115 : Value).ownBlock ∧ k_ ≠ gb337 ∧ k_ ≠ gb359 ∧ k_ ≠ gb367) (.slice Ao18 t338.length co18) t338) := ⟨by (with_reducible repeat (first | apply Kd.R_alloc | apply Kd.R_drewN | apply Kd.R_drew)); exact Kd.R_mono (Kd.R_far (p := ⟨gb367, 2, none⟩) (Kd.R_far (p := ⟨gb367, 2, none⟩) (Kd.R_far (p := ⟨gb367, 1, none⟩) (Kd.R_far (p := ⟨gb367, 0, none⟩) (Kd.R_mono HO_343000.out (fun k_ hk => (⟨hk, hk.2⟩ : _ ∧ k_ ≠ gb367))) (fun _ hk => hk.2) (.string t333)) (fun _ hk => hk.2) (.string t334)) (fun _ hk => hk.2) (.bool t335)) (fun _ hk => hk.2) (.bool false)) (fun _ hk => ⟨hk.1.1.1.1, ⟨hk.1.1.2, ⟨hk.1.1.1.2.1, ⟨hk.1.1.1.2.2, hk.1.2⟩⟩⟩⟩)⟩
               have n2_ : Aside0 (Kd.R Kd.string 9 ((((w123.setCell ⟨gb367, 0, none⟩ (.string t333)).setCell ⟨gb367, 1, none⟩ (.string t334)).setCell ⟨gb367, 2, none⟩ (.bool t335)).setCell ⟨gb367, 2, none⟩ (.bool false)) w.heap.size (fun _ => True) (.slice (some ad358) y355.length co61) y355) := ⟨by (with_reducible repeat (first | apply Kd.R_alloc | apply Kd.R_drewN | apply Kd.R_drew)); exact Kd.R_mono (Kd.R_far (p := ⟨gb367, 2, none⟩) (Kd.R_far (p := ⟨gb367, 2, none⟩) (Kd.R_far (p := ⟨gb367, 1, none⟩) (Kd.R_far (p := ⟨gb367, 0, none⟩) (Kd.R_types HO357.out BK367.out (by decide)) (fun _ hk => hk.2) (.string t333)) (fun _ hk => hk.2) (.string t334)) (fun _ hk => hk.2) (.bool t335)) (fun _ hk => hk.2) (.bool false)) (fun _ hk => trivial)⟩
               have n3_ : Aside0 (Kd.R k36 36 ((((w123.setCell ⟨gb367, 0, none⟩ (.string t333)).setCell ⟨gb367, 1, none⟩ (.string t334)).setCell ⟨gb367, 2, none⟩ (.bool t335)).setCell ⟨gb367, 2, none⟩ (.bool false)) w.heap.size (fun k_ => some k_ ≠ (.slice Ao12 t329.length co12 : Value).ownBlock ∧ some k_ ≠ (.slice Ao18 t338.length co18 : Value).ownBlock ∧ k_ ≠ gb337 ∧ k_ ≠ gb359 ∧ k_ ≠ gb367) (.slice Ao115 t362.length co115) t362) := ⟨by (with_reducible repeat (first | apply Kd.R_alloc | apply Kd.R_drewN | apply Kd.R_drew)); exact Kd.R_mono (Kd.R_far (p := ⟨gb367, 2, none⟩) (Kd.R_far (p := ⟨gb367, 2, none⟩) (Kd.R_far (p := ⟨gb367, 1, none⟩) (Kd.R_far (p := ⟨gb367, 0, none⟩) (Kd.R_mono HO364.out (fun k_ hk => (⟨hk, hk.2⟩ : _ ∧ k_ ≠ gb367))) (fun _ hk => hk.2) (.string t333)) (fun _ hk => hk.2) (.string t334)) (fun _ hk => hk.2) (.bool t335)) (fun _ hk => hk.2) (.bool false)) (fun _ hk => ⟨hk.1.1.1.1.1.2, ⟨hk.1.1.1.1.2, ⟨hk.1.1.1.2, ⟨hk.1.1.2, hk.1.2⟩⟩⟩⟩)⟩
               have n4_ : Aside0 (((((w123.setCell ⟨gb367, 0, none⟩ (.string t333)).setCell ⟨gb367, 1, none⟩ (.string t334)).setCell ⟨gb367, 2, none⟩ (.bool t335)).setCell ⟨gb367, 2, none⟩ (.bool false)).heap[gb336]? = some (.cells #[.slice Ao12 t329.length co12, .int .i64 t332] 25 (0, 0))) := ⟨by (with_reducible repeat (first | refine blk_drewN ?_ _ | refine blk_drew ?_ | refine blk_alloc ?_ _)); refine blk_far ?_ NB336_367.out _; (with_reducible repeat (first | refine blk_drewN ?_ _ | refine blk_drew ?_ | refine blk_alloc ?_ _)); refine blk_far ?_ NB336_367.out _; (with_reducible repeat (first | refine blk_drewN ?_ _ | refine blk_drew ?_ | refine blk_alloc ?_ _)); refine blk_far ?_ NB336_367.out _; (with_reducible repeat (first | refine blk_drewN ?_ _ | refine blk_drew ?_ | refine blk_alloc ?_ _)); refine blk_far ?_ NB336_367.out _; exact zk BK336⟩
               have n5_ : Aside0 (((((w123.setCell ⟨gb367, 0, none⟩ (.string t333)).setCell ⟨gb367, 1, none⟩ (.string t334)).setCell ⟨gb367, 2, none⟩ (.bool t335)).setCell ⟨gb367, 2, none⟩ (.bool false)).heap[gb337]? = some (.cells #[.string t333, .string t334, .bool t335] 36 (0, 0))) := ⟨by (with_reducible repeat (first | refine blk_drewN ?_ _ | refine blk_drew ?_ | refine blk_alloc ?_ _)); refine blk_far ?_ NB337_367.out _; (with_reducible repeat (first | refine blk_drewN ?_ _ | refine blk_drew ?_ | refine blk_alloc ?_ _)); refine blk_far ?_ NB337_367.out _; (with_reducible repeat (first | refine blk_drewN ?_ _ | refine blk_drew ?_ | refine blk_alloc ?_ _)); refine blk_far ?_ NB337_367.out _; (with_reducible repeat (first | refine blk_drewN ?_ _ | refine blk_drew ?_ | refine blk_alloc ?_ _)); refine blk_far ?_ NB337_367.out _; exact zk BK337⟩
               have n6_ : Aside0 (((((w123.setCell ⟨gb367, 0, none⟩ (.string t333)).setCell ⟨gb367, 1, none⟩ (.string t334)).setCell ⟨gb367, 2, none⟩ (.bool t335)).setCell ⟨gb367, 2, none⟩ (.bool false)).heap[gb342]? = some (.cells #[.slice Ao18 t338.length co18, .int .i64 t341] 25 (0, 0))) := ⟨by (with_reducible repeat (first | refine blk_drewN ?_ _ | refine blk_drew ?_ | refine blk_alloc ?_ _)); refine blk_far ?_ NB342_367.out _; (with_reducible repeat (first | refine blk_drewN ?_ _ | refine blk_drew ?_ | refine blk_alloc ?_ _)); refine blk_far ?_ NB342_367.out _; (with_reducible repeat (first | refine blk_drewN ?_ _ | refine blk_drew ?_ | refine blk_alloc ?_ _)); refine blk_far ?_ NB342_367.out _; (with_reducible repeat (first | refine blk_drewN ?_ _ | refine blk_drew ?_ | refine blk_alloc ?_ _)); refine blk_far ?_ NB342_367.out _; exact zk BK342⟩
               have n7_ : Aside0 (((((w123.setCell ⟨gb367, 0, none⟩ (.string t333)).setCell ⟨gb367, 1, none⟩ (.string t334)).setCell ⟨gb367, 2, none⟩ (.bool t335)).setCell ⟨gb367, 2, none⟩ (.bool false)).heap[gb359]? = some (.cells #[.string (⟨#[97]⟩ : ByteArray), .string (rdOf ByteArray.empty y355 (ji53)), .bool false] 36 (0, 0))) := ⟨by (with_reducible repeat (first | refine blk_drewN ?_ _ | refine blk_drew ?_ | refine blk_alloc ?_ _)); refine blk_far ?_ NB359_367.out _; (with_reducible repeat (first | refine blk_drewN ?_ _ | refine blk_drew ?_ | refine blk_alloc ?_ _)); refine blk_far ?_ NB359_367.out _; (with_reducible repeat (first | refine blk_drewN ?_ _ | refine blk_drew ?_ | refine blk_alloc ?_ _)); refine blk_far ?_ NB359_367.out _; (with_reducible repeat (first | refine blk_drewN ?_ _ | refine blk_drew ?_ | refine blk_alloc ?_ _)); refine blk_far ?_ NB359_367.out _; exact zk BK359⟩
               have n8_ : Aside0 (((((w123.setCell ⟨gb367, 0, none⟩ (.string t333)).setCell ⟨gb367, 1, none⟩ (.string t334)).setCell ⟨gb367, 2, none⟩ (.bool t335)).setCell ⟨gb367, 2, none⟩ (.bool false)).heap[gb366]? = some (.cells #[.slice Ao115 t362.length co115, .int .i64 t365] 25 (0, 0))) := ⟨by (with_reducible repeat (first | refine blk_drewN ?_ _ | refine blk_drew ?_ | refine blk_alloc ?_ _)); refine blk_far ?_ NB366_367.out _; (with_reducible repeat (first | refine blk_drewN ?_ _ | refine blk_drew ?_ | refine blk_alloc ?_ _)); refine blk_far ?_ NB366_367.out _; (with_reducible repeat (first | refine blk_drewN ?_ _ | refine blk_drew ?_ | refine blk_alloc ?_ _)); refine blk_far ?_ NB366_367.out _; (with_reducible repeat (first | refine blk_drewN ?_ _ | refine blk_drew ?_ | refine blk_alloc ?_ _)); refine blk_far ?_ NB366_367.out _; exact zk BK366⟩
               have n9_ : Aside0 (((((w123.setCell ⟨gb367, 0, none⟩ (.string t333)).setCell ⟨gb367, 1, none⟩ (.string t334)).setCell ⟨gb367, 2, none⟩ (.bool t335)).setCell ⟨gb367, 2, none⟩ (.bool false)).heap[gb367]? = some (.cells #[.string t333, .string t334, .bool false] 36 (0, 0))) := ⟨by (with_reducible repeat (first | refine blk_drewN ?_ _ | refine blk_drew ?_ | refine blk_alloc ?_ _)); refine blk_put (cs := #[.string t333, .string t334, .bool t335]) ?_ 2 _ rfl; (with_reducible repeat (first | refine blk_drewN ?_ _ | refine blk_drew ?_ | refine blk_alloc ?_ _)); refine blk_put (cs := #[.string t333, .string t334, .bool false]) ?_ 2 _ rfl; (with_reducible repeat (first | refine blk_drewN ?_ _ | refine blk_drew ?_ | refine blk_alloc ?_ _)); refine blk_put (cs := #[.string t333, .string (⟨#[]⟩ : ByteArray), .bool false]) ?_ 1 _ rfl; (with_reducible repeat (first | refine blk_drewN ?_ _ | refine blk_drew ?_ | refine blk_alloc ?_ _)); refine blk_put (cs := #[.string (⟨#[]⟩ : ByteArray), .string (⟨#[]⟩ : ByteArray), .bool false]) ?_ 0 _ rfl; exact zk BK367⟩
               have n10_ : Aside0 (Below w.heap.size w ((((w123.setCell ⟨gb367, 0, none⟩ (.string t333)).setCell ⟨gb367, 1, none⟩ (.string t334)).setCell ⟨gb367, 2, none⟩ (.bool t335)).setCell ⟨gb367, 2, none⟩ (.bool false))) := ⟨zb HB⟩
               (try clear HO_337000)
               (try clear HO_343000)
               (try clear HO357)
               (try clear HO364)
               (try clear BK336)
               (try clear BK337)
               (try clear BK342)
               (try clear BK359)
               (try clear BK366)
               (try clear BK367)
               (try clear HB)
               generalize ((((w123.setCell ⟨gb367, 0, none⟩ (.string t333)).setCell ⟨gb367, 1, none⟩ (.string t334)).setCell ⟨gb367, 2, none⟩ (.bool t335)).setCell ⟨gb367, 2, none⟩ (.bool false)) = w130 at n0_ n1_ n2_ n3_ n4_ n5_ n6_ n7_ n8_ n9_ n10_ ⊢
               have HO_337000 := n0_
               have HO_343000 := n1_
               have HO357 := n2_
               have HO364 := n3_
               have BK336 := n4_
               have BK337 := n5_
               have BK342 := n6_
               have BK359 := n7_
               have BK366 := n8_
               have BK367 := n9_
               have HB := n10_
               clear n0_ n1_ n2_ n3_ n4_ n5_ n6_ n7_ n8_ n9_ n10_
               replace HO_337000 := Aside0.mk (Kd.R_drew HO_337000.out)
               replace HO_343000 := Aside0.mk (Kd.R_drew HO_343000.out)
               replace HO357 := Aside0.mk (Kd.R_drew HO357.out)
               replace HO364 := Aside0.mk (Kd.R_drew HO364.out)
               replace BK336 := Aside0.mk (blk_drew BK336.out)
               replace BK337 := Aside0.mk (blk_drew BK337.out)
               replace BK342 := Aside0.mk (blk_drew BK342.out)
               replace BK359 := Aside0.mk (blk_drew BK359.out)
               replace BK366 := Aside0.mk (blk_drew BK366.out)
               replace BK367 := Aside0.mk (blk_drew BK367.out)
               replace HB := Aside0.mk (below_drew1 HB.out)
               have p368 : 0 ≤ (0 : Int) := (by omega)
               have q368 : 0 < (t362.length : Int) := of_decide_eq_true za
               obtain ⟨ad368, e368, hx368_0, hx368_1, hx368_2⟩ := at_T36 (Kd.R_reads' HO364.out).2.2 0 p368 q368
               cases e368
               have qi368 : (0 < t362.length) = True := eq_true (by omega)
               (try rw [show ((0 : Int)).toNat = 0 from rfl] at hx368_0)
               (try rw [show 0 * 3 = 0 from rfl] at hx368_0)
               (try rw [Addr.add_zero'] at hx368_0)
               (try rw [show ((0 : Int)).toNat = 0 from rfl] at hx368_1)
               (try rw [show 0 * 3 = 0 from rfl] at hx368_1)
               (try rw [Addr.add_zero'] at hx368_1)
               (try rw [show ((0 : Int)).toNat = 0 from rfl] at hx368_2)
               (try rw [show 0 * 3 = 0 from rfl] at hx368_2)
               (try rw [Addr.add_zero'] at hx368_2)
               replace p368 := eq_true p368
               replace q368 := eq_true q368
               have p369 : 0 ≤ (1 : Int) := (by omega)
               have q369 : 1 < (t362.length : Int) := of_decide_eq_true za
               obtain ⟨ad369, e369, hx369_0, hx369_1, hx369_2⟩ := at_T36 (Kd.R_reads' HO364.out).2.2 1 p369 q369
               obtain rfl : ad368 = ad369 := (by injection e369)
               (try simp only [show (1 : Int).toNat = 1 from rfl, Nat.reduceMul, Nat.reduceEqDiff, Go.Addr.add, ↓reduceIte] at hx369_0)
               (try simp only [show (1 : Int).toNat = 1 from rfl, Nat.reduceMul, Nat.reduceEqDiff, Go.Addr.add, ↓reduceIte] at hx369_1)
               (try simp only [show (1 : Int).toNat = 1 from rfl, Nat.reduceMul, Nat.reduceEqDiff, Go.Addr.add, ↓reduceIte] at hx369_2)
               have qi369 : (1 < t362.length) = True := eq_true (by omega)
               (try rw [show ((1 : Int)).toNat = 1 from rfl] at hx369_0)
               (try rw [show 1 * 3 = 3 from rfl] at hx369_0)
               (try rw [show ((1 : Int)).toNat = 1 from rfl] at hx369_1)
               (try rw [show 1 * 3 = 3 from rfl] at hx369_1)
               (try rw [show ((1 : Int)).toNat = 1 from rfl] at hx369_2)
               (try rw [show 1 * 3 = 3 from rfl] at hx369_2)
               replace p369 := eq_true p369
               replace q369 := eq_true q369
               refine start_ (n := 25) (S := fun w' => w'.cell? ⟨gb366, 0, none⟩ = some (.slice (some ad368) t362.length co115) ∧ w'.cell? ⟨gb366, 1, none⟩ = some (.int .i64 t365) ∧ w'.cell? ⟨gb359, 0, none⟩ = some (.string (⟨#[97]⟩ : ByteArray)) ∧ w'.cell? ⟨gb359, 1, none⟩ = some (.string (rdOf ByteArray.empty y355 (ji53))) ∧ w'.cell? ⟨gb359, 2, none⟩ = some (.bool false) ∧ w'.cell? ⟨gb367, 0, none⟩ = some (.string t333) ∧ w'.cell? ⟨gb367, 1, none⟩ = some (.string t334) ∧ w'.cell? ⟨gb367, 2, none⟩ = some (.bool false) ∧ w'.cell? ad368 = some (.string ((rd_T36 t362 0).f0)) ∧ w'.cell? ⟨ad368.block, ad368.off + 1, none⟩ = some (.string ((rd_T36 t362 0).f1)) ∧ w'.cell? ⟨ad368.block, ad368.off + 2, none⟩ = some (.bool ((rd_T36 t362 0).f2)) ∧ w'.cell? ⟨ad368.block, ad368.off + 3, none⟩ = some (.string ((rd_T36 t362 1).f0)) ∧ w'.cell? ⟨ad368.block, ad368.off + 3 + 1, none⟩ = some (.string ((rd_T36 t362 1).f1)) ∧ w'.cell? ⟨ad368.block, ad368.off + 3 + 2, none⟩ = some (.bool ((rd_T36 t362 1).f2))) (ds := []) #[false, false, false, false, false, false, false, false, false, false, false, false, false, false, false, false, false, false, false, false, false, false, false, false, false] (by kernel_rfl) rfl rfl ⟨(blk_cell BK366.out 0).trans rfl, (blk_cell BK366.out 1).trans rfl, (blk_cell BK359.out 0).trans rfl, (blk_cell BK359.out 1).trans rfl, (blk_cell BK359.out 2).trans rfl, (blk_cell BK367.out 0).trans rfl, (blk_cell BK367.out 1).trans rfl, (blk_cell BK367.out 2).trans rfl, hx368_0, hx368_1, hx368_2, hx369_0, hx369_1, hx369_2⟩ (fun hHeld => ?_); refine with_tabW laws_FnAddTwo.tab13 laws_FnAddTwo.bits13 (fun HT_ HW_ => ?_)
               generalize w130.drew = w131 at HO_337000 HO_343000 HO357 HO364 BK336 BK337 BK342 BK359 BK366 BK367 HB hx368_0 hx368_1 hx368_2 hx369_0 hx369_1 hx369_2 hHeld ⊢
               refine pu 0 (some 68) (bm 25 1) rfl rfl ?_
               refine take_ (i := 1) (N := some 69) (v := ?_) (a' := ?_) #[true, true, false, false, false, false, false, false, false, false, false, false, false, false, false, false, false, false, false, false, false, false, false, false, false] rfl rfl (take_ofW HT_.out HW_.out (by kernel_rfl)) (fun _ _ _ h => h) (Or.inl ⟨by rfl, ?_⟩) hHeld ?_ ?_
               rotate_left
               ·rintro w' ⟨s0, s1, s2, s3, s4, s5, s6, s7, s8, s9, s10, s11, s12, s13⟩
                go_simp
                with_reducible rfl
               rotate_left
               ·simp only [Act.put, s1, s2, s3, i64_w, i32_w]
                rfl
               refine pu 2 (some 70) (bm 25 7) rfl rfl ?_
               refine pu 3 (some 71) (bm 25 15) rfl rfl ?_
               refine pu 4 (some 72) (bm 25 31) rfl rfl ?_
               refine pu 5 (some 73) (bm 25 63) rfl rfl ?_
               refine take_ (i := 6) (N := some 74) (v := ?_) (a' := ?_) #[true, true, true, true, true, true, true, false, false, false, false, false, false, false, false, false, false, false, false, false, false, false, false, false, false] rfl rfl (take_ofW HT_.out HW_.out (by kernel_rfl)) (fun _ _ _ h => h) (Or.inl ⟨by rfl, ?_⟩) hHeld ?_ ?_
               rotate_left
               ·rintro w' ⟨s0, s1, s2, s3, s4, s5, s6, s7, s8, s9, s10, s11, s12, s13⟩
                go_simp
                with_reducible rfl
               rotate_left
               ·simp only [Act.put, s1, s2, s3, i64_w, i32_w]
                rfl
               refine pu 7 (some 75) (bm 25 255) rfl rfl ?_
               refine take_ (i := 8) (N := some 76) (v := ?_) (a' := ?_) #[true, true, true, true, true, true, true, true, true, false, false, false, false, false, false, false, false, false, false, false, false, false, false, false, false] rfl rfl (take_ofW HT_.out HW_.out (by kernel_rfl)) (fun _ _ _ h => h) (Or.inl ⟨by rfl, ?_⟩) hHeld ?_ ?_
               rotate_left
               ·rintro w' ⟨s0, s1, s2, s3, s4, s5, s6, s7, s8, s9, s10, s11, s12, s13⟩
                go_simp
                with_reducible rfl
               rotate_left
               ·simp only [Act.put, s1, s2, s3, i64_w, i32_w]
                rfl
               refine take_ (i := 9) (N := some 77) (v := ?_) (a' := ?_) #[true, true, true, true, true, true, true, true, true, true, false, false, false, false, false, false, false, false, false, false, false, false, false, false, false] rfl rfl (take_ofW HT_.out HW_.out (by kernel_rfl)) (fun _ _ _ h => h) (Or.inl ⟨by rfl, ?_⟩) hHeld ?_ ?_
               rotate_left
               ·rintro w' ⟨s0, s1, s2, s3, s4, s5, s6, s7, s8, s9, s10, s11, s12, s13⟩
                go_simp
                with_reducible rfl
               rotate_left
               ·simp only [Act.put, s1, s2, s3, i64_w, i32_w]
                rfl
               refine pu 10 (some 78) (bm 25 2047) rfl rfl ?_
               refine pu 11 (some 79) (bm 25 4095) rfl rfl ?_
               refine pu 12 (some 80) (bm 25 8191) rfl rfl ?_
               refine pu 13 (some 81) (bm 25 16383) rfl rfl ?_
               refine take_ (i := 14) (N := some 82) (v := ?_) (a' := ?_) #[true, true, true, true, true, true, true, true, true, true, true, true, true, true, true, false, false, false, false, false, false, false, false, false, false] rfl rfl (take_ofW HT_.out HW_.out (by kernel_rfl)) (fun _ _ _ h => h) (Or.inl ⟨by rfl, ?_⟩) hHeld ?_ ?_
               rotate_left
               ·rintro w' ⟨s0, s1, s2, s3, s4, s5, s6, s7, s8, s9, s10, s11, s12, s13⟩
                go_simp
                with_reducible rfl
               rotate_left
               ·simp only [Act.put, s1, s2, s3, i64_w, i32_w]
                rfl
               refine pu 15 (some 83) (bm 25 65535) rfl rfl ?_
               refine take_ (i := 16) (N := some 84) (v := ?_) (a' := ?_) #[true, true, true, true, true, true, true, true, true, true, true, true, true, true, true, true, true, false, false, false, false, false, false, false, false] rfl rfl (take_ofW HT_.out HW_.out (by kernel_rfl)) (fun _ _ _ h => h) (Or.inl ⟨by rfl, ?_⟩) hHeld ?_ ?_
               rotate_left
               ·rintro w' ⟨s0, s1, s2, s3, s4, s5, s6, s7, s8, s9, s10, s11, s12, s13⟩
                go_simp
                with_reducible rfl
               rotate_left
               ·simp only [Act.put, s1, s2, s3, i64_w, i32_w]
                rfl
               refine take_ (i := 17) (N := some 85) (v := ?_) (a' := ?_) #[true, true, true, true, true, true, true, true, true, true, true, true, true, true, true, true, true, true, false, false, false, false, false, false, false] rfl rfl (take_ofW HT_.out HW_.out (by kernel_rfl)) (fun _ _ _ h => h) (Or.inl ⟨by rfl, ?_⟩) hHeld ?_ ?_
               rotate_left
               ·rintro w' ⟨s0, s1, s2, s3, s4, s5, s6, s7, s8, s9, s10, s11, s12, s13⟩
                go_simp
                with_reducible rfl
               rotate_left
               ·simp only [Act.put, s1, s2, s3, i64_w, i32_w]
                rfl
               refine pu 18 (some 86) (bm 25 524287) rfl rfl ?_
               refine pu 19 (some 87) (bm 25 1048575) rfl rfl ?_
               refine pu 20 (some 88) (bm 25 2097151) rfl rfl ?_
               refine pv 21 (some 89) (bm 25 4194303) rfl rfl ?_
               refine pv 22 (some 90) (bm 25 8388607) rfl rfl ?_
               refine pu 23 (some 91) (bm 25 16777215) rfl rfl ?_
               refine pu 24 (some 4) (bm 25 33554431) rfl rfl ?_
               refine done_ (done_of HT_.out (by kernel_rfl)) ?_
               try go_wp2
               go_ret
               exact ⟨by first | rfl | (simp [errW_none, errW_some] <;> rfl) | (simp only [← hji53]; first | rfl | (simp [errW_none, errW_some] <;> rfl)) | (simp [*, errW_none, errW_some] <;> rfl) | (simp [errW_none, errW_some]; exact (by intro l_; cases l_ <;> rfl : ∀ l_ : List UInt8, l_.isEmpty = !(l_ != [])) _), zb HB⟩
             ·rw [if_neg c76] at H
              exact absurd H (by simp)
            ·rw [if_neg c75] at H
             have c75b0 : ((((rd_T36 t362 0).f0).toList) == ([97] : List UInt8) && ((((rd_T36 t362 0).f1).toList) == ((rdOf ByteArray.empty y355 (ji53)).toList) && (!((rd_T36 t362 0).f2)))) = false := by simpa using c75
             (try (have c75b1 : decide ((((rd_T36 t362 0).f0).toList) = ([97] : List UInt8) && ((((rd_T36 t362 0).f1).toList) == ((rdOf ByteArray.empty y355 (ji53)).toList) && (!((rd_T36 t362 0).f2)))) = false := by simpa using c75))
             (try (have c75b2 : ((((rd_T36 t362 0).f0).toList) == ([97] : List UInt8) && ((((rd_T36 t362 0).f1).toList) == ((rdOf ByteArray.empty y355 (ji53)).toList) && (!((rd_T36 t362 0).f2)))) = false := by simpa using c75))
             (try (have c75b3 : ¬ ((((rd_T36 t362 0).f0).toList) = ([97] : List UInt8) && ((((rd_T36 t362 0).f1).toList) == ((rdOf ByteArray.empty y355 (ji53)).toList) && (!((rd_T36 t362 0).f2)))) := by simpa using c75))
             clear c75
             obtain rfl := Option.some.inj H
             have hnb132 := NB342_336.out
             have hnc132 := NB336_342.out
             have hnb133 := NB342_337.out
             have hnc133 := NB337_342.out
             have hnb134 := NB342_359.out
             have hnc134 := NB359_342.out
             have hcz135_0 : w70.cell? ⟨gb342, 0, none⟩ = some (.slice Ao18 t338.length co18) := (blk_cell BK342.out 0).trans rfl
             have hcz135_1 : w70.cell? ⟨gb342, 1, none⟩ = some (.int .i64 t341) := (blk_cell BK342.out 1).trans rfl
             have hfz135_0 := blk_frozen BK342.out 0
             have hfz135_1 := blk_frozen BK342.out 1
             have hnb136 := NB359_336.out
             have hnc136 := NB336_359.out
             have hnb137 := NB359_337.out
             have hnc137 := NB337_359.out
             have hcz138_0 : w70.cell? ⟨gb359, 0, none⟩ = some (.string (⟨#[97]⟩ : ByteArray)) := (blk_cell BK359.out 0).trans rfl
             have hcz138_1 : w70.cell? ⟨gb359, 1, none⟩ = some (.string (rdOf ByteArray.empty y355 (ji53))) := (blk_cell BK359.out 1).trans rfl
             have hcz138_2 : w70.cell? ⟨gb359, 2, none⟩ = some (.bool false) := (blk_cell BK359.out 2).trans rfl
             have hfz138_0 := blk_frozen BK359.out 0
             have hfz138_1 := blk_frozen BK359.out 1
             have hfz138_2 := blk_frozen BK359.out 2
             try go_wp2_with (first | ((with_reducible refine gq 30 rfl ?_); refine goesL_ (some 65) rfl rfl Try.func30 (by kernel_rfl) rfl #[.agg #[.slice Ao18 t338.length co18, .int .i64 t341], .agg #[.string (⟨#[97]⟩ : ByteArray), .string (rdOf ByteArray.empty y355 (ji53)), .bool false]] rfl (by (try simp only [List.map_toArray, List.map_cons, List.map_nil]); first | done | (simp only [hji53]; rfl) | rfl | (simp only [List.length_drop, List.length_take]; rfl)) ?_; (with_reducible refine (impl_TableAdd.calls kj7 _ _ t338 t341 (⟨#[97]⟩ : ByteArray) (rdOf ByteArray.empty y355 (ji53)) false t362 t365 _ ?side1 ?side2 A72.out).mono ?_); (case side1 => exact zc (Kd.R_reads' HO_343000.out).2.2); (case side2 => exact (Kd.R_reads' HO_343000.out).2.1); rintro e w139 ⟨v363, rfl, ho0, hb⟩; refine ⟨_, rfl, ?_⟩; replace HO357 := Aside0.mk (Kd.R_below (zr HO357) hb); have HO364 := Aside0.mk (Kd.R_lower (Kd.R_newB (Kd.R_newB (Kd.R_new' (Kd.R_new' ho0 (Kd.R_lt (zr HO_337000))) (Kd.R_lt (zr HO_343000))) (g := gb337) (o := .cells #[.string t333, .string t334, .bool t335] 36 (0, 0)) (zk BK337)) (g := gb359) (o := .cells #[.string (⟨#[97]⟩ : ByteArray), .string (rdOf ByteArray.empty y355 (ji53)), .bool false] 36 (0, 0)) (zk BK359)) (below_size (zb HB))); replace HO_337000 := Aside0.mk (Kd.R_elder' (zr HO_337000) (Kd.R_base ho0) hb); replace HO_343000 := Aside0.mk (Kd.R_elder' (zr HO_343000) (Kd.R_base ho0) hb); replace BK336 := Aside0.mk (blk_below (g := gb336) (o := .cells #[.slice Ao12 t329.length co12, .int .i64 t332] 25 (0, 0)) (zk BK336) hb); replace BK337 := Aside0.mk (blk_below (g := gb337) (o := .cells #[.string t333, .string t334, .bool t335] 36 (0, 0)) (zk BK337) hb); replace BK342 := Aside0.mk (blk_below (g := gb342) (o := .cells #[.slice Ao18 t338.length co18, .int .i64 t341] 25 (0, 0)) (zk BK342) hb); replace BK359 := Aside0.mk (blk_below (g := gb359) (o := .cells #[.string (⟨#[97]⟩ : ByteArray), .string (rdOf ByteArray.empty y355 (ji53)), .bool false] 36 (0, 0)) (zk BK359) hb); replace HB := Aside0.mk (below_step (zb HB) hb); (try clear hb); (try clear ho0)) | ((with_reducible refine gd 9 rfl ?_); (try (refine gate_guard (by rfl) ?_; dsimp only)); refine bx (N := 9) (cs := #[.slice none 0 0, .int .i64 0]) (t := 25) ?_; intro gb366 hg w140 hbox hb; replace HO_337000 := Aside0.mk (Kd.R_below (zr HO_337000) hb); replace HO_343000 := Aside0.mk (Kd.R_below (zr HO_343000) hb); replace HO357 := Aside0.mk (Kd.R_below (zr HO357) hb); replace HO364 := Aside0.mk (Kd.R_below (zr HO364) hb); have BK366 := Aside0.mk (hbox); have GW366 := Aside0.mk ((by rw [hg]; exact (below_size (zb HB)) : w.heap.size ≤ gb366)); have GE366 := Aside0.mk ((by rw [hg]; exact (below_size (zb HB)) : w.heap.size ≤ gb366)); replace HB := Aside0.mk (below_step (zb HB) hb); have NB336_366 := Aside0.mk ((by rw [hg]; exact Nat.ne_of_lt (blk_lt (g := gb336) (o := .cells #[.slice Ao12 t329.length co12, .int .i64 t332] 25 (0, 0)) (zk BK336)) : gb336 ≠ gb366)); have NB366_336 := Aside0.mk ((by rw [hg]; exact Nat.ne_of_gt (blk_lt (g := gb336) (o := .cells #[.slice Ao12 t329.length co12, .int .i64 t332] 25 (0, 0)) (zk BK336)) : gb366 ≠ gb336)); replace BK336 := Aside0.mk (blk_below (g := gb336) (o := .cells #[.slice Ao12 t329.length co12, .int .i64 t332] 25 (0, 0)) (zk BK336) hb); have NB337_366 := Aside0.mk ((by rw [hg]; exact Nat.ne_of_lt (blk_lt (g := gb337) (o := .cells #[.string t333, .string t334, .bool t335] 36 (0, 0)) (zk BK337)) : gb337 ≠ gb366)); have NB366_337 := Aside0.mk ((by rw [hg]; exact Nat.ne_of_gt (blk_lt (g := gb337) (o := .cells #[.string t333, .string t334, .bool t335] 36 (0, 0)) (zk BK337)) : gb366 ≠ gb337)); replace BK337 := Aside0.mk (blk_below (g := gb337) (o := .cells #[.string t333, .string t334, .bool t335] 36 (0, 0)) (zk BK337) hb); have NB342_366 := Aside0.mk ((by rw [hg]; exact Nat.ne_of_lt (blk_lt (g := gb342) (o := .cells #[.slice Ao18 t338.length co18, .int .i64 t341] 25 (0, 0)) (zk BK342)) : gb342 ≠ gb366)); have NB366_342 := Aside0.mk ((by rw [hg]; exact Nat.ne_of_gt (blk_lt (g := gb342) (o := .cells #[.slice Ao18 t338.length co18, .int .i64 t341] 25 (0, 0)) (zk BK342)) : gb366 ≠ gb342)); replace BK342 := Aside0.mk (blk_below (g := gb342) (o := .cells #[.slice Ao18 t338.length co18, .int .i64 t341] 25 (0, 0)) (zk BK342) hb); have NB359_366 := Aside0.mk ((by rw [hg]; exact Nat.ne_of_lt (blk_lt (g := gb359) (o := .cells #[.string (⟨#[97]⟩ : ByteArray), .string (rdOf ByteArray.empty y355 (ji53)), .bool false] 36 (0, 0)) (zk BK359)) : gb359 ≠ gb366)); have NB366_359 := Aside0.mk ((by rw [hg]; exact Nat.ne_of_gt (blk_lt (g := gb359) (o := .cells #[.string (⟨#[97]⟩ : ByteArray), .string (rdOf ByteArray.empty y355 (ji53)), .bool false] 36 (0, 0)) (zk BK359)) : gb366 ≠ gb359)); replace BK359 := Aside0.mk (blk_below (g := gb359) (o := .cells #[.string (⟨#[97]⟩ : ByteArray), .string (rdOf ByteArray.empty y355 (ji53)), .bool false] 36 (0, 0)) (zk BK359) hb); clear hb hbox hg; obtain ⟨Ao141, co141, eo141⟩ := Kd.R_slice HO364.out; subst eo141; have hnb142 := NB366_336.out; have hnc142 := NB336_366.out; have hnb143 := NB366_337.out; have hnc143 := NB337_366.out; have hnb144 := NB366_342.out; have hnc144 := NB342_366.out; have hnb145 := NB366_359.out; have hnc145 := NB359_366.out; have hcz146_0 : w140.cell? ⟨gb366, 0, none⟩ = some (.slice none 0 0) := (blk_cell BK366.out 0).trans rfl; have hcz146_1 : w140.cell? ⟨gb366, 1, none⟩ = some (.int .i64 0) := (blk_cell BK366.out 1).trans rfl; have hfz146_0 := blk_frozen BK366.out 0; have hfz146_1 := blk_frozen BK366.out 1; have hnb147 := NB337_336.out; have hnc147 := NB336_337.out; have hcz148_0 : w140.cell? ⟨gb337, 0, none⟩ = some (.string t333) := (blk_cell BK337.out 0).trans rfl; have hcz148_1 : w140.cell? ⟨gb337, 1, none⟩ = some (.string t334) := (blk_cell BK337.out 1).trans rfl; have hcz148_2 : w140.cell? ⟨gb337, 2, none⟩ = some (.bool t335) := (blk_cell BK337.out 2).trans rfl; have hfz148_0 := blk_frozen BK337.out 0; have hfz148_1 := blk_frozen BK337.out 1; have hfz148_2 := blk_frozen BK337.out 2) | ((with_reducible refine gd 10 rfl ?_); (try (refine gate_guard (by rfl) ?_; dsimp only)); refine bx (N := 10) (cs := #[.string (⟨#[]⟩ : ByteArray), .string (⟨#[]⟩ : ByteArray), .bool false]) (t := 36) ?_; intro gb367 hg w149 hbox hb; replace HO_337000 := Aside0.mk (Kd.R_below (Kd.R_elderB (by (with_reducible repeat (first | apply Kd.R_alloc | apply Kd.R_drewN | apply Kd.R_drew)); exact (Kd.R_mono (Kd.R_far (p := ⟨gb366, 1, none⟩) (Kd.R_far (p := ⟨gb366, 0, none⟩) (Kd.R_types HO_337000.out BK366.out (by decide)) (fun _ hk => hk.2) (.slice Ao141 t362.length co141)) (fun _ hk => hk.2) (.int .i64 t365)) (fun _ h_ => h_.1))) gb367 (Nat.le_of_eq hg.symm)) hb); replace HO_343000 := Aside0.mk (Kd.R_below (Kd.R_elderB (by (with_reducible repeat (first | apply Kd.R_alloc | apply Kd.R_drewN | apply Kd.R_drew)); exact (Kd.R_mono (Kd.R_far (p := ⟨gb366, 1, none⟩) (Kd.R_far (p := ⟨gb366, 0, none⟩) (Kd.R_types HO_343000.out BK366.out (by decide)) (fun _ hk => hk.2) (.slice Ao141 t362.length co141)) (fun _ hk => hk.2) (.int .i64 t365)) (fun _ h_ => h_.1))) gb367 (Nat.le_of_eq hg.symm)) hb); replace HO357 := Aside0.mk (Kd.R_below (by (with_reducible repeat (first | apply Kd.R_alloc | apply Kd.R_drewN | apply Kd.R_drew)); exact (Kd.R_mono (Kd.R_far (p := ⟨gb366, 1, none⟩) (Kd.R_far (p := ⟨gb366, 0, none⟩) (Kd.R_types HO357.out BK366.out (by decide)) (fun _ hk => hk.2) (.slice Ao141 t362.length co141)) (fun _ hk => hk.2) (.int .i64 t365)) (fun _ h_ => h_.1))) hb); replace HO364 := Aside0.mk (Kd.R_below (Kd.R_elderB (by (with_reducible repeat (first | apply Kd.R_alloc | apply Kd.R_drewN | apply Kd.R_drew)); exact (Kd.R_mono (Kd.R_far (p := ⟨gb366, 1, none⟩) (Kd.R_far (p := ⟨gb366, 0, none⟩) (Kd.R_types HO364.out BK366.out (by decide)) (fun _ hk => hk.2) (.slice Ao141 t362.length co141)) (fun _ hk => hk.2) (.int .i64 t365)) (fun _ h_ => h_.1))) gb367 (Nat.le_of_eq hg.symm)) hb); have BK367 := Aside0.mk (hbox); have GW367 := Aside0.mk ((by rw [hg]; exact (below_size (zb HB)) : w.heap.size ≤ gb367)); have GE367 := Aside0.mk ((by rw [hg]; exact (below_size (zb HB)) : w.heap.size ≤ gb367)); replace HB := Aside0.mk (below_step (zb HB) hb); have NB336_367 := Aside0.mk ((by rw [hg]; exact Nat.ne_of_lt (blk_lt (g := gb336) (o := .cells #[.slice Ao12 t329.length co12, .int .i64 t332] 25 (0, 0)) (by (with_reducible repeat (first | refine blk_drewN ?_ _ | refine blk_drew ?_ | refine blk_alloc ?_ _)); refine blk_far ?_ NB336_366.out _; (with_reducible repeat (first | refine blk_drewN ?_ _ | refine blk_drew ?_ | refine blk_alloc ?_ _)); refine blk_far ?_ NB336_366.out _; exact zk BK336)) : gb336 ≠ gb367)); have NB367_336 := Aside0.mk ((by rw [hg]; exact Nat.ne_of_gt (blk_lt (g := gb336) (o := .cells #[.slice Ao12 t329.length co12, .int .i64 t332] 25 (0, 0)) (by (with_reducible repeat (first | refine blk_drewN ?_ _ | refine blk_drew ?_ | refine blk_alloc ?_ _)); refine blk_far ?_ NB336_366.out _; (with_reducible repeat (first | refine blk_drewN ?_ _ | refine blk_drew ?_ | refine blk_alloc ?_ _)); refine blk_far ?_ NB336_366.out _; exact zk BK336)) : gb367 ≠ gb336)); replace BK336 := Aside0.mk (blk_below (g := gb336) (o := .cells #[.slice Ao12 t329.length co12, .int .i64 t332] 25 (0, 0)) (by (with_reducible repeat (first | refine blk_drewN ?_ _ | refine blk_drew ?_ | refine blk_alloc ?_ _)); refine blk_far ?_ NB336_366.out _; (with_reducible repeat (first | refine blk_drewN ?_ _ | refine blk_drew ?_ | refine blk_alloc ?_ _)); refine blk_far ?_ NB336_366.out _; exact zk BK336) hb); have NB337_367 := Aside0.mk ((by rw [hg]; exact Nat.ne_of_lt (blk_lt (g := gb337) (o := .cells #[.string t333, .string t334, .bool t335] 36 (0, 0)) (by (with_reducible repeat (first | refine blk_drewN ?_ _ | refine blk_drew ?_ | refine blk_alloc ?_ _)); refine blk_far ?_ NB337_366.out _; (with_reducible repeat (first | refine blk_drewN ?_ _ | refine blk_drew ?_ | refine blk_alloc ?_ _)); refine blk_far ?_ NB337_366.out _; exact zk BK337)) : gb337 ≠ gb367)); have NB367_337 := Aside0.mk ((by rw [hg]; exact Nat.ne_of_gt (blk_lt (g := gb337) (o := .cells #[.string t333, .string t334, .bool t335] 36 (0, 0)) (by (with_reducible repeat (first | refine blk_drewN ?_ _ | refine blk_drew ?_ | refine blk_alloc ?_ _)); refine blk_far ?_ NB337_366.out _; (with_reducible repeat (first | refine blk_drewN ?_ _ | refine blk_drew ?_ | refine blk_alloc ?_ _)); refine blk_far ?_ NB337_366.out _; exact zk BK337)) : gb367 ≠ gb337)); replace BK337 := Aside0.mk (blk_below (g := gb337) (o := .cells #[.string t333, .string t334, .bool t335] 36 (0, 0)) (by (with_reducible repeat (first | refine blk_drewN ?_ _ | refine blk_drew ?_ | refine blk_alloc ?_ _)); refine blk_far ?_ NB337_366.out _; (with_reducible repeat (first | refine blk_drewN ?_ _ | refine blk_drew ?_ | refine blk_alloc ?_ _)); refine blk_far ?_ NB337_366.out _; exact zk BK337) hb); have NB342_367 := Aside0.mk ((by rw [hg]; exact Nat.ne_of_lt (blk_lt (g := gb342) (o := .cells #[.slice Ao18 t338.length co18, .int .i64 t341] 25 (0, 0)) (by (with_reducible repeat (first | refine blk_drewN ?_ _ | refine blk_drew ?_ | refine blk_alloc ?_ _)); refine blk_far ?_ NB342_366.out _; (with_reducible repeat (first | refine blk_drewN ?_ _ | refine blk_drew ?_ | refine blk_alloc ?_ _)); refine blk_far ?_ NB342_366.out _; exact zk BK342)) : gb342 ≠ gb367)); have NB367_342 := Aside0.mk ((by rw [hg]; exact Nat.ne_of_gt (blk_lt (g := gb342) (o := .cells #[.slice Ao18 t338.length co18, .int .i64 t341] 25 (0, 0)) (by (with_reducible repeat (first | refine blk_drewN ?_ _ | refine blk_drew ?_ | refine blk_alloc ?_ _)); refine blk_far ?_ NB342_366.out _; (with_reducible repeat (first | refine blk_drewN ?_ _ | refine blk_drew ?_ | refine blk_alloc ?_ _)); refine blk_far ?_ NB342_366.out _; exact zk BK342)) : gb367 ≠ gb342)); replace BK342 := Aside0.mk (blk_below (g := gb342) (o := .cells #[.slice Ao18 t338.length co18, .int .i64 t341] 25 (0, 0)) (by (with_reducible repeat (first | refine blk_drewN ?_ _ | refine blk_drew ?_ | refine blk_alloc ?_ _)); refine blk_far ?_ NB342_366.out _; (with_reducible repeat (first | refine blk_drewN ?_ _ | refine blk_drew ?_ | refine blk_alloc ?_ _)); refine blk_far ?_ NB342_366.out _; exact zk BK342) hb); have NB359_367 := Aside0.mk ((by rw [hg]; exact Nat.ne_of_lt (blk_lt (g := gb359) (o := .cells #[.string (⟨#[97]⟩ : ByteArray), .string (rdOf ByteArray.empty y355 (ji53)), .bool false] 36 (0, 0)) (by (with_reducible repeat (first | refine blk_drewN ?_ _ | refine blk_drew ?_ | refine blk_alloc ?_ _)); refine blk_far ?_ NB359_366.out _; (with_reducible repeat (first | refine blk_drewN ?_ _ | refine blk_drew ?_ | refine blk_alloc ?_ _)); refine blk_far ?_ NB359_366.out _; exact zk BK359)) : gb359 ≠ gb367)); have NB367_359 := Aside0.mk ((by rw [hg]; exact Nat.ne_of_gt (blk_lt (g := gb359) (o := .cells #[.string (⟨#[97]⟩ : ByteArray), .string (rdOf ByteArray.empty y355 (ji53)), .bool false] 36 (0, 0)) (by (with_reducible repeat (first | refine blk_drewN ?_ _ | refine blk_drew ?_ | refine blk_alloc ?_ _)); refine blk_far ?_ NB359_366.out _; (with_reducible repeat (first | refine blk_drewN ?_ _ | refine blk_drew ?_ | refine blk_alloc ?_ _)); refine blk_far ?_ NB359_366.out _; exact zk BK359)) : gb367 ≠ gb359)); replace BK359 := Aside0.mk (blk_below (g := gb359) (o := .cells #[.string (⟨#[97]⟩ : ByteArray), .string (rdOf ByteArray.empty y355 (ji53)), .bool false] 36 (0, 0)) (by (with_reducible repeat (first | refine blk_drewN ?_ _ | refine blk_drew ?_ | refine blk_alloc ?_ _)); refine blk_far ?_ NB359_366.out _; (with_reducible repeat (first | refine blk_drewN ?_ _ | refine blk_drew ?_ | refine blk_alloc ?_ _)); refine blk_far ?_ NB359_366.out _; exact zk BK359) hb); have NB366_367 := Aside0.mk ((by rw [hg]; exact Nat.ne_of_lt (blk_lt (g := gb366) (o := .cells #[.slice Ao141 t362.length co141, .int .i64 t365] 25 (0, 0)) (by (with_reducible repeat (first | refine blk_drewN ?_ _ | refine blk_drew ?_ | refine blk_alloc ?_ _)); refine blk_put (cs := #[.slice Ao141 t362.length co141, .int .i64 0]) ?_ 1 _ rfl; (with_reducible repeat (first | refine blk_drewN ?_ _ | refine blk_drew ?_ | refine blk_alloc ?_ _)); refine blk_put (cs := #[.slice none 0 0, .int .i64 0]) ?_ 0 _ rfl; exact zk BK366)) : gb366 ≠ gb367)); have NB367_366 := Aside0.mk ((by rw [hg]; exact Nat.ne_of_gt (blk_lt (g := gb366) (o := .cells #[.slice Ao141 t362.length co141, .int .i64 t365] 25 (0, 0)) (by (with_reducible repeat (first | refine blk_drewN ?_ _ | refine blk_drew ?_ | refine blk_alloc ?_ _)); refine blk_put (cs := #[.slice Ao141 t362.length co141, .int .i64 0]) ?_ 1 _ rfl; (with_reducible repeat (first | refine blk_drewN ?_ _ | refine blk_drew ?_ | refine blk_alloc ?_ _)); refine blk_put (cs := #[.slice none 0 0, .int .i64 0]) ?_ 0 _ rfl; exact zk BK366)) : gb367 ≠ gb366)); replace BK366 := Aside0.mk (blk_below (g := gb366) (o := .cells #[.slice Ao141 t362.length co141, .int .i64 t365] 25 (0, 0)) (by (with_reducible repeat (first | refine blk_drewN ?_ _ | refine blk_drew ?_ | refine blk_alloc ?_ _)); refine blk_put (cs := #[.slice Ao141 t362.length co141, .int .i64 0]) ?_ 1 _ rfl; (with_reducible repeat (first | refine blk_drewN ?_ _ | refine blk_drew ?_ | refine blk_alloc ?_ _)); refine blk_put (cs := #[.slice none 0 0, .int .i64 0]) ?_ 0 _ rfl; exact zk BK366) hb); clear hb hbox hg; have hnb150 := NB367_336.out; have hnc150 := NB336_367.out; have hnb151 := NB367_337.out; have hnc151 := NB337_367.out; have hnb152 := NB367_342.out; have hnc152 := NB342_367.out; have hnb153 := NB367_359.out; have hnc153 := NB359_367.out; have hnb154 := NB367_366.out; have hnc154 := NB366_367.out; have hcz155_0 : w149.cell? ⟨gb367, 0, none⟩ = some (.string (⟨#[]⟩ : ByteArray)) := (blk_cell BK367.out 0).trans rfl; have hcz155_1 : w149.cell? ⟨gb367, 1, none⟩ = some (.string (⟨#[]⟩ : ByteArray)) := (blk_cell BK367.out 1).trans rfl; have hcz155_2 : w149.cell? ⟨gb367, 2, none⟩ = some (.bool false) := (blk_cell BK367.out 2).trans rfl; have hfz155_0 := blk_frozen BK367.out 0; have hfz155_1 := blk_frozen BK367.out 1; have hfz155_2 := blk_frozen BK367.out 2))
             have n0_ : Aside0 (Kd.R k36 36 ((((w149.setCell ⟨gb367, 0, none⟩ (.string t333)).setCell ⟨gb367, 1, none⟩ (.string t334)).setCell ⟨gb367, 2, none⟩ (.bool t335)).setCell ⟨gb367, 2, none⟩ (.bool false)) w.heap.size (fun k_ => some k_ ≠ (.slice Ao18 t338.length co18 : Value).ownBlock ∧ some k_ ≠ (.slice Ao141 t362.length co141 : Value).ownBlock ∧ k_ ≠ gb337 ∧ k_ ≠ gb359 ∧ k_ ≠ gb367) (.slice Ao12 t329.length co12) t329) := ⟨by (with_reducible repeat (first | apply Kd.R_alloc | apply Kd.R_drewN | apply Kd.R_drew)); exact Kd.R_mono (Kd.R_far (p := ⟨gb367, 2, none⟩) (Kd.R_far (p := ⟨gb367, 2, none⟩) (Kd.R_far (p := ⟨gb367, 1, none⟩) (Kd.R_far (p := ⟨gb367, 0, none⟩) (Kd.R_mono HO_337000.out (fun k_ hk => (⟨hk, hk.2⟩ : _ ∧ k_ ≠ gb367))) (fun _ hk => hk.2) (.string t333)) (fun _ hk => hk.2) (.string t334)) (fun _ hk => hk.2) (.bool t335)) (fun _ hk => hk.2) (.bool false)) (fun _ hk => ⟨hk.1.1.1.1, ⟨hk.1.1.2, ⟨hk.1.1.1.2.1, ⟨hk.1.1.1.2.2, hk.1.2⟩⟩⟩⟩)⟩
             have n1_ : Aside0 (Kd.R k36 36 ((((w149.setCell ⟨gb367, 0, none⟩ (.string t333)).setCell ⟨gb367, 1, none⟩ (.string t334)).setCell ⟨gb367, 2, none⟩ (.bool t335)).setCell ⟨gb367, 2, none⟩ (.bool false)) w.heap.size (fun k_ => some k_ ≠ (.slice Ao12 t329.length co12 : Value).ownBlock ∧ some k_ ≠ (.slice Ao141 t362.length co141 : Value).ownBlock ∧ k_ ≠ gb337 ∧ k_ ≠ gb359 ∧ k_ ≠ gb367) (.slice Ao18 t338.length co18) t338) := ⟨by (with_reducible repeat (first | apply Kd.R_alloc | apply Kd.R_drewN | apply Kd.R_drew)); exact Kd.R_mono (Kd.R_far (p := ⟨gb367, 2, none⟩) (Kd.R_far (p := ⟨gb367, 2, none⟩) (Kd.R_far (p := ⟨gb367, 1, none⟩) (Kd.R_far (p := ⟨gb367, 0, none⟩) (Kd.R_mono HO_343000.out (fun k_ hk => (⟨hk, hk.2⟩ : _ ∧ k_ ≠ gb367))) (fun _ hk => hk.2) (.string t333)) (fun _ hk => hk.2) (.string t334)) (fun _ hk => hk.2) (.bool t335)) (fun _ hk => hk.2) (.bool false)) (fun _ hk => ⟨hk.1.1.1.1, ⟨hk.1.1.2, ⟨hk.1.1.1.2.1, ⟨hk.1.1.1.2.2, hk.1.2⟩⟩⟩⟩)⟩
             have n2_ : Aside0 (Kd.R Kd.string 9 ((((w149.setCell ⟨gb367, 0, none⟩ (.string t333)).setCell ⟨gb367, 1, none⟩ (.string t334)).setCell ⟨gb367, 2, none⟩ (.bool t335)).setCell ⟨gb367, 2, none⟩ (.bool false)) w.heap.size (fun _ => True) (.slice (some ad358) y355.length co61) y355) := ⟨by (with_reducible repeat (first | apply Kd.R_alloc | apply Kd.R_drewN | apply Kd.R_drew)); exact Kd.R_mono (Kd.R_far (p := ⟨gb367, 2, none⟩) (Kd.R_far (p := ⟨gb367, 2, none⟩) (Kd.R_far (p := ⟨gb367, 1, none⟩) (Kd.R_far (p := ⟨gb367, 0, none⟩) (Kd.R_types HO357.out BK367.out (by decide)) (fun _ hk => hk.2) (.string t333)) (fun _ hk => hk.2) (.string t334)) (fun _ hk => hk.2) (.bool t335)) (fun _ hk => hk.2) (.bool false)) (fun _ hk => trivial)⟩
             have n3_ : Aside0 (Kd.R k36 36 ((((w149.setCell ⟨gb367, 0, none⟩ (.string t333)).setCell ⟨gb367, 1, none⟩ (.string t334)).setCell ⟨gb367, 2, none⟩ (.bool t335)).setCell ⟨gb367, 2, none⟩ (.bool false)) w.heap.size (fun k_ => some k_ ≠ (.slice Ao12 t329.length co12 : Value).ownBlock ∧ some k_ ≠ (.slice Ao18 t338.length co18 : Value).ownBlock ∧ k_ ≠ gb337 ∧ k_ ≠ gb359 ∧ k_ ≠ gb367) (.slice Ao141 t362.length co141) t362) := ⟨by (with_reducible repeat (first | apply Kd.R_alloc | apply Kd.R_drewN | apply Kd.R_drew)); exact Kd.R_mono (Kd.R_far (p := ⟨gb367, 2, none⟩) (Kd.R_far (p := ⟨gb367, 2, none⟩) (Kd.R_far (p := ⟨gb367, 1, none⟩) (Kd.R_far (p := ⟨gb367, 0, none⟩) (Kd.R_mono HO364.out (fun k_ hk => (⟨hk, hk.2⟩ : _ ∧ k_ ≠ gb367))) (fun _ hk => hk.2) (.string t333)) (fun _ hk => hk.2) (.string t334)) (fun _ hk => hk.2) (.bool t335)) (fun _ hk => hk.2) (.bool false)) (fun _ hk => ⟨hk.1.1.1.1.1.2, ⟨hk.1.1.1.1.2, ⟨hk.1.1.1.2, ⟨hk.1.1.2, hk.1.2⟩⟩⟩⟩)⟩
             have n4_ : Aside0 (((((w149.setCell ⟨gb367, 0, none⟩ (.string t333)).setCell ⟨gb367, 1, none⟩ (.string t334)).setCell ⟨gb367, 2, none⟩ (.bool t335)).setCell ⟨gb367, 2, none⟩ (.bool false)).heap[gb336]? = some (.cells #[.slice Ao12 t329.length co12, .int .i64 t332] 25 (0, 0))) := ⟨by (with_reducible repeat (first | refine blk_drewN ?_ _ | refine blk_drew ?_ | refine blk_alloc ?_ _)); refine blk_far ?_ NB336_367.out _; (with_reducible repeat (first | refine blk_drewN ?_ _ | refine blk_drew ?_ | refine blk_alloc ?_ _)); refine blk_far ?_ NB336_367.out _; (with_reducible repeat (first | refine blk_drewN ?_ _ | refine blk_drew ?_ | refine blk_alloc ?_ _)); refine blk_far ?_ NB336_367.out _; (with_reducible repeat (first | refine blk_drewN ?_ _ | refine blk_drew ?_ | refine blk_alloc ?_ _)); refine blk_far ?_ NB336_367.out _; exact zk BK336⟩
             have n5_ : Aside0 (((((w149.setCell ⟨gb367, 0, none⟩ (.string t333)).setCell ⟨gb367, 1, none⟩ (.string t334)).setCell ⟨gb367, 2, none⟩ (.bool t335)).setCell ⟨gb367, 2, none⟩ (.bool false)).heap[gb337]? = some (.cells #[.string t333, .string t334, .bool t335] 36 (0, 0))) := ⟨by (with_reducible repeat (first | refine blk_drewN ?_ _ | refine blk_drew ?_ | refine blk_alloc ?_ _)); refine blk_far ?_ NB337_367.out _; (with_reducible repeat (first | refine blk_drewN ?_ _ | refine blk_drew ?_ | refine blk_alloc ?_ _)); refine blk_far ?_ NB337_367.out _; (with_reducible repeat (first | refine blk_drewN ?_ _ | refine blk_drew ?_ | refine blk_alloc ?_ _)); refine blk_far ?_ NB337_367.out _; (with_reducible repeat (first | refine blk_drewN ?_ _ | refine blk_drew ?_ | refine blk_alloc ?_ _)); refine blk_far ?_ NB337_367.out _; exact zk BK337⟩
             have n6_ : Aside0 (((((w149.setCell ⟨gb367, 0, none⟩ (.string t333)).setCell ⟨gb367, 1, none⟩ (.string t334)).setCell ⟨gb367, 2, none⟩ (.bool t335)).setCell ⟨gb367, 2, none⟩ (.bool false)).heap[gb342]? = some (.cells #[.slice Ao18 t338.length co18, .int .i64 t341] 25 (0, 0))) := ⟨by (with_reducible repeat (first | refine blk_drewN ?_ _ | refine blk_drew ?_ | refine blk_alloc ?_ _)); refine blk_far ?_ NB342_367.out _; (with_reducible repeat (first | refine blk_drewN ?_ _ | refine blk_drew ?_ | refine blk_alloc ?_ _)); refine blk_far ?_ NB342_367.out _; (with_reducible repeat (first | refine blk_drewN ?_ _ | refine blk_drew ?_ | refine blk_alloc ?_ _)); refine blk_far ?_ NB342_367.out _; (with_reducible repeat (first | refine blk_drewN ?_ _ | refine blk_drew ?_ | refine blk_alloc ?_ _)); refine blk_far ?_ NB342_367.out _; exact zk BK342⟩
             have n7_ : Aside0 (((((w149.setCell ⟨gb367, 0, none⟩ (.string t333)).setCell ⟨gb367, 1, none⟩ (.string t334)).setCell ⟨gb367, 2, none⟩ (.bool t335)).setCell ⟨gb367, 2, none⟩ (.bool false)).heap[gb359]? = some (.cells #[.string (⟨#[97]⟩ : ByteArray), .string (rdOf ByteArray.empty y355 (ji53)), .bool false] 36 (0, 0))) := ⟨by (with_reducible repeat (first | refine blk_drewN ?_ _ | refine blk_drew ?_ | refine blk_alloc ?_ _)); refine blk_far ?_ NB359_367.out _; (with_reducible repeat (first | refine blk_drewN ?_ _ | refine blk_drew ?_ | refine blk_alloc ?_ _)); refine blk_far ?_ NB359_367.out _; (with_reducible repeat (first | refine blk_drewN ?_ _ | refine blk_drew ?_ | refine blk_alloc ?_ _)); refine blk_far ?_ NB359_367.out _; (with_reducible repeat (first | refine blk_drewN ?_ _ | refine blk_drew ?_ | refine blk_alloc ?_ _)); refine blk_far ?_ NB359_367.out _; exact zk BK359⟩
             have n8_ : Aside0 (((((w149.setCell ⟨gb367, 0, none⟩ (.string t333)).setCell ⟨gb367, 1, none⟩ (.string t334)).setCell ⟨gb367, 2, none⟩ (.bool t335)).setCell ⟨gb367, 2, none⟩ (.bool false)).heap[gb366]? = some (.cells #[.slice Ao141 t362.length co141, .int .i64 t365] 25 (0, 0))) := ⟨by (with_reducible repeat (first | refine blk_drewN ?_ _ | refine blk_drew ?_ | refine blk_alloc ?_ _)); refine blk_far ?_ NB366_367.out _; (with_reducible repeat (first | refine blk_drewN ?_ _ | refine blk_drew ?_ | refine blk_alloc ?_ _)); refine blk_far ?_ NB366_367.out _; (with_reducible repeat (first | refine blk_drewN ?_ _ | refine blk_drew ?_ | refine blk_alloc ?_ _)); refine blk_far ?_ NB366_367.out _; (with_reducible repeat (first | refine blk_drewN ?_ _ | refine blk_drew ?_ | refine blk_alloc ?_ _)); refine blk_far ?_ NB366_367.out _; exact zk BK366⟩
             have n9_ : Aside0 (((((w149.setCell ⟨gb367, 0, none⟩ (.string t333)).setCell ⟨gb367, 1, none⟩ (.string t334)).setCell ⟨gb367, 2, none⟩ (.bool t335)).setCell ⟨gb367, 2, none⟩ (.bool false)).heap[gb367]? = some (.cells #[.string t333, .string t334, .bool false] 36 (0, 0))) := ⟨by (with_reducible repeat (first | refine blk_drewN ?_ _ | refine blk_drew ?_ | refine blk_alloc ?_ _)); refine blk_put (cs := #[.string t333, .string t334, .bool t335]) ?_ 2 _ rfl; (with_reducible repeat (first | refine blk_drewN ?_ _ | refine blk_drew ?_ | refine blk_alloc ?_ _)); refine blk_put (cs := #[.string t333, .string t334, .bool false]) ?_ 2 _ rfl; (with_reducible repeat (first | refine blk_drewN ?_ _ | refine blk_drew ?_ | refine blk_alloc ?_ _)); refine blk_put (cs := #[.string t333, .string (⟨#[]⟩ : ByteArray), .bool false]) ?_ 1 _ rfl; (with_reducible repeat (first | refine blk_drewN ?_ _ | refine blk_drew ?_ | refine blk_alloc ?_ _)); refine blk_put (cs := #[.string (⟨#[]⟩ : ByteArray), .string (⟨#[]⟩ : ByteArray), .bool false]) ?_ 0 _ rfl; exact zk BK367⟩
             have n10_ : Aside0 (Below w.heap.size w ((((w149.setCell ⟨gb367, 0, none⟩ (.string t333)).setCell ⟨gb367, 1, none⟩ (.string t334)).setCell ⟨gb367, 2, none⟩ (.bool t335)).setCell ⟨gb367, 2, none⟩ (.bool false))) := ⟨zb HB⟩
             (try clear HO_337000)
             (try clear HO_343000)
             (try clear HO357)
             (try clear HO364)
             (try clear BK336)
             (try clear BK337)
             (try clear BK342)
             (try clear BK359)
             (try clear BK366)
             (try clear BK367)
             (try clear HB)
             generalize ((((w149.setCell ⟨gb367, 0, none⟩ (.string t333)).setCell ⟨gb367, 1, none⟩ (.string t334)).setCell ⟨gb367, 2, none⟩ (.bool t335)).setCell ⟨gb367, 2, none⟩ (.bool false)) = w156 at n0_ n1_ n2_ n3_ n4_ n5_ n6_ n7_ n8_ n9_ n10_ ⊢
             have HO_337000 := n0_
             have HO_343000 := n1_
             have HO357 := n2_
             have HO364 := n3_
             have BK336 := n4_
             have BK337 := n5_
             have BK342 := n6_
             have BK359 := n7_
             have BK366 := n8_
             have BK367 := n9_
             have HB := n10_
             clear n0_ n1_ n2_ n3_ n4_ n5_ n6_ n7_ n8_ n9_ n10_
             replace HO_337000 := Aside0.mk (Kd.R_drew HO_337000.out)
             replace HO_343000 := Aside0.mk (Kd.R_drew HO_343000.out)
             replace HO357 := Aside0.mk (Kd.R_drew HO357.out)
             replace HO364 := Aside0.mk (Kd.R_drew HO364.out)
             replace BK336 := Aside0.mk (blk_drew BK336.out)
             replace BK337 := Aside0.mk (blk_drew BK337.out)
             replace BK342 := Aside0.mk (blk_drew BK342.out)
             replace BK359 := Aside0.mk (blk_drew BK359.out)
             replace BK366 := Aside0.mk (blk_drew BK366.out)
             replace BK367 := Aside0.mk (blk_drew BK367.out)
             replace HB := Aside0.mk (below_drew1 HB.out)
             have p368 : 0 ≤ (0 : Int) := (by omega)
             have q368 : 0 < (t362.length : Int) := of_decide_eq_true za
             obtain ⟨ad368, e368, hx368_0, hx368_1, hx368_2⟩ := at_T36 (Kd.R_reads' HO364.out).2.2 0 p368 q368
             cases e368
             have qi368 : (0 < t362.length) = True := eq_true (by omega)
             (try rw [show ((0 : Int)).toNat = 0 from rfl] at hx368_0)
             (try rw [show 0 * 3 = 0 from rfl] at hx368_0)
             (try rw [Addr.add_zero'] at hx368_0)
             (try rw [show ((0 : Int)).toNat = 0 from rfl] at hx368_1)
             (try rw [show 0 * 3 = 0 from rfl] at hx368_1)
             (try rw [Addr.add_zero'] at hx368_1)
             (try rw [show ((0 : Int)).toNat = 0 from rfl] at hx368_2)
             (try rw [show 0 * 3 = 0 from rfl] at hx368_2)
             (try rw [Addr.add_zero'] at hx368_2)
             replace p368 := eq_true p368
             replace q368 := eq_true q368
             refine start_ (n := 25) (S := fun w' => w'.cell? ⟨gb366, 0, none⟩ = some (.slice (some ad368) t362.length co141) ∧ w'.cell? ⟨gb366, 1, none⟩ = some (.int .i64 t365) ∧ w'.cell? ⟨gb359, 0, none⟩ = some (.string (⟨#[97]⟩ : ByteArray)) ∧ w'.cell? ⟨gb359, 1, none⟩ = some (.string (rdOf ByteArray.empty y355 (ji53))) ∧ w'.cell? ⟨gb359, 2, none⟩ = some (.bool false) ∧ w'.cell? ad368 = some (.string ((rd_T36 t362 0).f0)) ∧ w'.cell? ⟨ad368.block, ad368.off + 1, none⟩ = some (.string ((rd_T36 t362 0).f1)) ∧ w'.cell? ⟨ad368.block, ad368.off + 2, none⟩ = some (.bool ((rd_T36 t362 0).f2))) (ds := []) #[false, false, false, false, false, false, false, false, false, false, false, false, false, false, false, false, false, false, false, false, false, false, false, false, false] (by kernel_rfl) rfl rfl ⟨(blk_cell BK366.out 0).trans rfl, (blk_cell BK366.out 1).trans rfl, (blk_cell BK359.out 0).trans rfl, (blk_cell BK359.out 1).trans rfl, (blk_cell BK359.out 2).trans rfl, hx368_0, hx368_1, hx368_2⟩ (fun hHeld => ?_); refine with_tabW laws_FnAddTwo.tab13 laws_FnAddTwo.bits13 (fun HT_ HW_ => ?_)
             generalize w156.drew = w157 at HO_337000 HO_343000 HO357 HO364 BK336 BK337 BK342 BK359 BK366 BK367 HB hx368_0 hx368_1 hx368_2 hHeld ⊢
             refine pu 0 (some 68) (bm 25 1) rfl rfl ?_
             refine tk8 1 (some 69) (bm 25 3) rfl rfl hHeld ?_
             refine pu 2 (some 70) (bm 25 7) rfl rfl ?_
             refine pu 3 (some 71) (bm 25 15) rfl rfl ?_
             refine pu 4 (some 72) (bm 25 31) rfl rfl ?_
             refine pu 5 (some 73) (bm 25 63) rfl rfl ?_
             refine tk8 6 (some 74) (bm 25 127) rfl rfl hHeld ?_
             refine pu 7 (some 75) (bm 25 255) rfl rfl ?_
             refine tk8 8 (some 76) (bm 25 511) rfl rfl hHeld ?_
             refine tk8 9 (some 77) (bm 25 1023) rfl rfl hHeld ?_
             refine pu 10 (some 78) (bm 25 2047) rfl rfl ?_
             refine pu 11 (some 79) (bm 25 4095) rfl rfl ?_
             refine pu 12 (some 80) (bm 25 8191) rfl rfl ?_
             refine pv 13 (some 81) (bm 25 16383) rfl rfl ?_
             refine pv 14 (some 82) (bm 25 32767) rfl rfl ?_
             refine pv 15 (some 83) (bm 25 65535) rfl rfl ?_
             refine pv 16 (some 84) (bm 25 131071) rfl rfl ?_
             refine pv 17 (some 85) (bm 25 262143) rfl rfl ?_
             refine pv 18 (some 86) (bm 25 524287) rfl rfl ?_
             refine pu 19 (some 87) (bm 25 1048575) rfl rfl ?_
             refine pu 20 (some 88) (bm 25 2097151) rfl rfl ?_
             refine pv 21 (some 89) (bm 25 4194303) rfl rfl ?_
             refine pv 22 (some 90) (bm 25 8388607) rfl rfl ?_
             refine pu 23 (some 91) (bm 25 16777215) rfl rfl ?_
             refine pu 24 (some 4) (bm 25 33554431) rfl rfl ?_
             refine done_ (done_of HT_.out (by kernel_rfl)) ?_
             try go_wp2
             go_ret
             exact ⟨by first | rfl | (simp [errW_none, errW_some] <;> rfl) | (simp only [← hji53]; first | rfl | (simp [errW_none, errW_some] <;> rfl)) | (simp [*, errW_none, errW_some] <;> rfl) | (simp [errW_none, errW_some]; exact (by intro l_; cases l_ <;> rfl : ∀ l_ : List UInt8, l_.isEmpty = !(l_ != [])) _), zb HB⟩
           ·rw [if_neg c74] at H
            exact absurd H (by simp)
          ·rw [if_neg c73] at H
           have c73b0 : decide (2 ≤ (t362.length : Int)) = false := decide_eq_false c73
           have c73b1 : decide (2 ≤ t362.length) = false := decide_eq_false (by omega)
           clear c73
           obtain rfl := Option.some.inj H
           have hnb158 := NB342_336.out
           have hnc158 := NB336_342.out
           have hnb159 := NB342_337.out
           have hnc159 := NB337_342.out
           have hnb160 := NB342_359.out
           have hnc160 := NB359_342.out
           have hcz161_0 : w70.cell? ⟨gb342, 0, none⟩ = some (.slice Ao18 t338.length co18) := (blk_cell BK342.out 0).trans rfl
           have hcz161_1 : w70.cell? ⟨gb342, 1, none⟩ = some (.int .i64 t341) := (blk_cell BK342.out 1).trans rfl
           have hfz161_0 := blk_frozen BK342.out 0
           have hfz161_1 := blk_frozen BK342.out 1
           have hnb162 := NB359_336.out
           have hnc162 := NB336_359.out
           have hnb163 := NB359_337.out
           have hnc163 := NB337_359.out
           have hcz164_0 : w70.cell? ⟨gb359, 0, none⟩ = some (.string (⟨#[97]⟩ : ByteArray)) := (blk_cell BK359.out 0).trans rfl
           have hcz164_1 : w70.cell? ⟨gb359, 1, none⟩ = some (.string (rdOf ByteArray.empty y355 (ji53))) := (blk_cell BK359.out 1).trans rfl
           have hcz164_2 : w70.cell? ⟨gb359, 2, none⟩ = some (.bool false) := (blk_cell BK359.out 2).trans rfl
           have hfz164_0 := blk_frozen BK359.out 0
           have hfz164_1 := blk_frozen BK359.out 1
           have hfz164_2 := blk_frozen BK359.out 2
           try go_wp2_with (first | ((with_reducible refine gq 30 rfl ?_); refine goesL_ (some 65) rfl rfl Try.func30 (by kernel_rfl) rfl #[.agg #[.slice Ao18 t338.length co18, .int .i64 t341], .agg #[.string (⟨#[97]⟩ : ByteArray), .string (rdOf ByteArray.empty y355 (ji53)), .bool false]] rfl (by (try simp only [List.map_toArray, List.map_cons, List.map_nil]); first | done | (simp only [hji53]; rfl) | rfl | (simp only [List.length_drop, List.length_take]; rfl)) ?_; (with_reducible refine (impl_TableAdd.calls kj7 _ _ t338 t341 (⟨#[97]⟩ : ByteArray) (rdOf ByteArray.empty y355 (ji53)) false t362 t365 _ ?side1 ?side2 A72.out).mono ?_); (case side1 => exact zc (Kd.R_reads' HO_343000.out).2.2); (case side2 => exact (Kd.R_reads' HO_343000.out).2.1); rintro e w165 ⟨v363, rfl, ho0, hb⟩; refine ⟨_, rfl, ?_⟩; replace HO357 := Aside0.mk (Kd.R_below (zr HO357) hb); have HO364 := Aside0.mk (Kd.R_lower (Kd.R_newB (Kd.R_newB (Kd.R_new' (Kd.R_new' ho0 (Kd.R_lt (zr HO_337000))) (Kd.R_lt (zr HO_343000))) (g := gb337) (o := .cells #[.string t333, .string t334, .bool t335] 36 (0, 0)) (zk BK337)) (g := gb359) (o := .cells #[.string (⟨#[97]⟩ : ByteArray), .string (rdOf ByteArray.empty y355 (ji53)), .bool false] 36 (0, 0)) (zk BK359)) (below_size (zb HB))); replace HO_337000 := Aside0.mk (Kd.R_elder' (zr HO_337000) (Kd.R_base ho0) hb); replace HO_343000 := Aside0.mk (Kd.R_elder' (zr HO_343000) (Kd.R_base ho0) hb); replace BK336 := Aside0.mk (blk_below (g := gb336) (o := .cells #[.slice Ao12 t329.length co12, .int .i64 t332] 25 (0, 0)) (zk BK336) hb); replace BK337 := Aside0.mk (blk_below (g := gb337) (o := .cells #[.string t333, .string t334, .bool t335] 36 (0, 0)) (zk BK337) hb); replace BK342 := Aside0.mk (blk_below (g := gb342) (o := .cells #[.slice Ao18 t338.length co18, .int .i64 t341] 25 (0, 0)) (zk BK342) hb); replace BK359 := Aside0.mk (blk_below (g := gb359) (o := .cells #[.string (⟨#[97]⟩ : ByteArray), .string (rdOf ByteArray.empty y355 (ji53)), .bool false] 36 (0, 0)) (zk BK359) hb); replace HB := Aside0.mk (below_step (zb HB) hb); (try clear hb); (try clear ho0)) | ((with_reducible refine gd 9 rfl ?_); (try (refine gate_guard (by rfl) ?_; dsimp only)); refine bx (N := 9) (cs := #[.slice none 0 0, .int .i64 0]) (t := 25) ?_; intro gb366 hg w166 hbox hb; replace HO_337000 := Aside0.mk (Kd.R_below (zr HO_337000) hb); replace HO_343000 := Aside0.mk (Kd.R_below (zr HO_343000) hb); replace HO357 := Aside0.mk (Kd.R_below (zr HO357) hb); replace HO364 := Aside0.mk (Kd.R_below (zr HO364) hb); have BK366 := Aside0.mk (hbox); have GW366 := Aside0.mk ((by rw [hg]; exact (below_size (zb HB)) : w.heap.size ≤ gb366)); have GE366 := Aside0.mk ((by rw [hg]; exact (below_size (zb HB)) : w.heap.size ≤ gb366)); replace HB := Aside0.mk (below_step (zb HB) hb); have NB336_366 := Aside0.mk ((by rw [hg]; exact Nat.ne_of_lt (blk_lt (g := gb336) (o := .cells #[.slice Ao12 t329.length co12, .int .i64 t332] 25 (0, 0)) (zk BK336)) : gb336 ≠ gb366)); have NB366_336 := Aside0.mk ((by rw [hg]; exact Nat.ne_of_gt (blk_lt (g := gb336) (o := .cells #[.slice Ao12 t329.length co12, .int .i64 t332] 25 (0, 0)) (zk BK336)) : gb366 ≠ gb336)); replace BK336 := Aside0.mk (blk_below (g := gb336) (o := .cells #[.slice Ao12 t329.length co12, .int .i64 t332] 25 (0, 0)) (zk BK336) hb); have NB337_366 := Aside0.mk ((by rw [hg]; exact Nat.ne_of_lt (blk_lt (g := gb337) (o := .cells #[.string t333, .string t334, .bool t335] 36 (0, 0)) (zk BK337)) : gb337 ≠ gb366)); have NB366_337 := Aside0.mk ((by rw [hg]; exact Nat.ne_of_gt (blk_lt (g := gb337) (o := .cells #[.string t333, .string t334, .bool t335] 36 (0, 0)) (zk BK337)) : gb366 ≠ gb337)); replace BK337 := Aside0.mk (blk_below (g := gb337) (o := .cells #[.string t333, .string t334, .bool t335] 36 (0, 0)) (zk BK337) hb); have NB342_366 := Aside0.mk ((by rw [hg]; exact Nat.ne_of_lt (blk_lt (g := gb342) (o := .cells #[.slice Ao18 t338.length co18, .int .i64 t341] 25 (0, 0)) (zk BK342)) : gb342 ≠ gb366)); have NB366_342 := Aside0.mk ((by rw [hg]; exact Nat.ne_of_gt (blk_lt (g := gb342) (o := .cells #[.slice Ao18 t338.length co18, .int .i64 t341] 25 (0, 0)) (zk BK342)) : gb366 ≠ gb342)); replace BK342 := Aside0.mk (blk_below (g := gb342) (o := .cells #[.slice Ao18 t338.length co18, .int .i64 t341] 25 (0, 0)) (zk BK342) hb); have NB359_366 := Aside0.mk ((by rw [hg]; exact Nat.ne_of_lt (blk_lt (g := gb359) (o := .cells #[.string (⟨#[97]⟩ : ByteArray), .string (rdOf ByteArray.empty y355 (ji53)), .bool false] 36 (0, 0)) (zk BK359)) : gb359 ≠ gb366)); have NB366_359 := Aside0.mk ((by rw [hg]; exact Nat.ne_of_gt (blk_lt (g := gb359) (o := .cells #[.string (⟨#[97]⟩ : ByteArray), .string (rdOf ByteArray.empty y355 (ji53)), .bool false] 36 (0, 0)) (zk BK359)) : gb366 ≠ gb359)); replace BK359 := Aside0.mk (blk_below (g := gb359) (o := .cells #[.string (⟨#[97]⟩ : ByteArray), .string (rdOf ByteArray.empty y355 (ji53)), .bool false] 36 (0, 0)) (zk BK359) hb); clear hb hbox hg; obtain ⟨Ao167, co167, eo167⟩ := Kd.R_slice HO364.out; subst eo167; have hnb168 := NB366_336.out; have hnc168 := NB336_366.out; have hnb169 := NB366_337.out; have hnc169 := NB337_366.out; have hnb170 := NB366_342.out; have hnc170 := NB342_366.out; have hnb171 := NB366_359.out; have hnc171 := NB359_366.out; have hcz172_0 : w166.cell? ⟨gb366, 0, none⟩ = some (.slice none 0 0) := (blk_cell BK366.out 0).trans rfl; have hcz172_1 : w166.cell? ⟨gb366, 1, none⟩ = some (.int .i64 0) := (blk_cell BK366.out 1).trans rfl; have hfz172_0 := blk_frozen BK366.out 0; have hfz172_1 := blk_frozen BK366.out 1; have hnb173 := NB337_336.out; have hnc173 := NB336_337.out; have hcz174_0 : w166.cell? ⟨gb337, 0, none⟩ = some (.string t333) := (blk_cell BK337.out 0).trans rfl; have hcz174_1 : w166.cell? ⟨gb337, 1, none⟩ = some (.string t334) := (blk_cell BK337.out 1).trans rfl; have hcz174_2 : w166.cell? ⟨gb337, 2, none⟩ = some (.bool t335) := (blk_cell BK337.out 2).trans rfl; have hfz174_0 := blk_frozen BK337.out 0; have hfz174_1 := blk_frozen BK337.out 1; have hfz174_2 := blk_frozen BK337.out 2) | ((with_reducible refine gd 10 rfl ?_); (try (refine gate_guard (by rfl) ?_; dsimp only)); refine bx (N := 10) (cs := #[.string (⟨#[]⟩ : ByteArray), .string (⟨#[]⟩ : ByteArray), .bool false]) (t := 36) ?_; intro gb367 hg w175 hbox hb; replace HO_337000 := Aside0.mk (Kd.R_below (Kd.R_elderB (by (with_reducible repeat (first | apply Kd.R_alloc | apply Kd.R_drewN | apply Kd.R_drew)); exact (Kd.R_mono (Kd.R_far (p := ⟨gb366, 1, none⟩) (Kd.R_far (p := ⟨gb366, 0, none⟩) (Kd.R_types HO_337000.out BK366.out (by decide)) (fun _ hk => hk.2) (.slice Ao167 t362.length co167)) (fun _ hk => hk.2) (.int .i64 t365)) (fun _ h_ => h_.1))) gb367 (Nat.le_of_eq hg.symm)) hb); replace HO_343000 := Aside0.mk (Kd.R_below (Kd.R_elderB (by (with_reducible repeat (first | apply Kd.R_alloc | apply Kd.R_drewN | apply Kd.R_drew)); exact (Kd.R_mono (Kd.R_far (p := ⟨gb366, 1, none⟩) (Kd.R_far (p := ⟨gb366, 0, none⟩) (Kd.R_types HO_343000.out BK366.out (by decide)) (fun _ hk => hk.2) (.slice Ao167 t362.length co167)) (fun _ hk => hk.2) (.int .i64 t365)) (fun _ h_ => h_.1))) gb367 (Nat.le_of_eq hg.symm)) hb); replace HO357 := Aside0.mk (Kd.R_below (by (with_reducible repeat (first | apply Kd.R_alloc | apply Kd.R_drewN | apply Kd.R_drew)); exact (Kd.R_mono (Kd.R_far (p := ⟨gb366, 1, none⟩) (Kd.R_far (p := ⟨gb366, 0, none⟩) (Kd.R_types HO357.out BK366.out (by decide)) (fun _ hk => hk.2) (.slice Ao167 t362.length co167)) (fun _ hk => hk.2) (.int .i64 t365)) (fun _ h_ => h_.1))) hb); replace HO364 := Aside0.mk (Kd.R_below (Kd.R_elderB (by (with_reducible repeat (first | apply Kd.R_alloc | apply Kd.R_drewN | apply Kd.R_drew)); exact (Kd.R_mono (Kd.R_far (p := ⟨gb366, 1, none⟩) (Kd.R_far (p := ⟨gb366, 0, none⟩) (Kd.R_types HO364.out BK366.out (by decide)) (fun _ hk => hk.2) (.slice Ao167 t362.length co167)) (fun _ hk => hk.2) (.int .i64 t365)) (fun _ h_ => h_.1))) gb367 (Nat.le_of_eq hg.symm)) hb); have BK367 := Aside0.mk (hbox); have GW367 := Aside0.mk ((by rw [hg]; exact (below_size (zb HB)) : w.heap.size ≤ gb367)); have GE367 := Aside0.mk ((by rw [hg]; exact (below_size (zb HB)) : w.heap.size ≤ gb367)); replace HB := Aside0.mk (below_step (zb HB) hb); have NB336_367 := Aside0.mk ((by rw [hg]; exact Nat.ne_of_lt (blk_lt (g := gb336) (o := .cells #[.slice Ao12 t329.length co12, .int .i64 t332] 25 (0, 0)) (by (with_reducible repeat (first | refine blk_drewN ?_ _ | refine blk_drew ?_ | refine blk_alloc ?_ _)); refine blk_far ?_ NB336_366.out _; (with_reducible repeat (first | refine blk_drewN ?_ _ | refine blk_drew ?_ | refine blk_alloc ?_ _)); refine blk_far ?_ NB336_366.out _; exact zk BK336)) : gb336 ≠ gb367)); have NB367_336 := Aside0.mk ((by rw [hg]; exact Nat.ne_of_gt (blk_lt (g := gb336) (o := .cells #[.slice Ao12 t329.length co12, .int .i64 t332] 25 (0, 0)) (by (with_reducible repeat (first | refine blk_drewN ?_ _ | refine blk_drew ?_ | refine blk_alloc ?_ _)); refine blk_far ?_ NB336_366.out _; (with_reducible repeat (first | refine blk_drewN ?_ _ | refine blk_drew ?_ | refine blk_alloc ?_ _)); refine blk_far ?_ NB336_366.out _; exact zk BK336)) : gb367 ≠ gb336)); replace BK336 := Aside0.mk (blk_below (g := gb336) (o := .cells #[.slice Ao12 t329.length co12, .int .i64 t332] 25 (0, 0)) (by (with_reducible repeat (first | refine blk_drewN ?_ _ | refine blk_drew ?_ | refine blk_alloc ?_ _)); refine blk_far ?_ NB336_366.out _; (with_reducible repeat (first | refine blk_drewN ?_ _ | refine blk_drew ?_ | refine blk_alloc ?_ _)); refine blk_far ?_ NB336_366.out _; exact zk BK336) hb); have NB337_367 := Aside0.mk ((by rw [hg]; exact Nat.ne_of_lt (blk_lt (g := gb337) (o := .cells #[.string t333, .string t334, .bool t335] 36 (0, 0)) (by (with_reducible repeat (first | refine blk_drewN ?_ _ | refine blk_drew ?_ | refine blk_alloc ?_ _)); refine blk_far ?_ NB337_366.out _; (with_reducible repeat (first | refine blk_drewN ?_ _ | refine blk_drew ?_ | refine blk_alloc ?_ _)); refine blk_far ?_ NB337_366.out _; exact zk BK337)) : gb337 ≠ gb367)); have NB367_337 := Aside0.mk ((by rw [hg]; exact Nat.ne_of_gt (blk_lt (g := gb337) (o := .cells #[.string t333, .string t334, .bool t335] 36 (0, 0)) (by (with_reducible repeat (first | refine blk_drewN ?_ _ | refine blk_drew ?_ | refine blk_alloc ?_ _)); refine blk_far ?_ NB337_366.out _; (with_reducible repeat (first | refine blk_drewN ?_ _ | refine blk_drew ?_ | refine blk_alloc ?_ _)); refine blk_far ?_ NB337_366.out _; exact zk BK337)) : gb367 ≠ gb337)); replace BK337 := Aside0.mk (blk_below (g := gb337) (o := .cells #[.string t333, .string t334, .bool t335] 36 (0, 0)) (by (with_reducible repeat (first | refine blk_drewN ?_ _ | refine blk_drew ?_ | refine blk_alloc ?_ _)); refine blk_far ?_ NB337_366.out _; (with_reducible repeat (first | refine blk_drewN ?_ _ | refine blk_drew ?_ | refine blk_alloc ?_ _)); refine blk_far ?_ NB337_366.out _; exact zk BK337) hb); have NB342_367 := Aside0.mk ((by rw [hg]; exact Nat.ne_of_lt (blk_lt (g := gb342) (o := .cells #[.slice Ao18 t338.length co18, .int .i64 t341] 25 (0, 0)) (by (with_reducible repeat (first | refine blk_drewN ?_ _ | refine blk_drew ?_ | refine blk_alloc ?_ _)); refine blk_far ?_ NB342_366.out _; (with_reducible repeat (first | refine blk_drewN ?_ _ | refine blk_drew ?_ | refine blk_alloc ?_ _)); refine blk_far ?_ NB342_366.out _; exact zk BK342)) : gb342 ≠ gb367)); have NB367_342 := Aside0.mk ((by rw [hg]; exact Nat.ne_of_gt (blk_lt (g := gb342) (o := .cells #[.slice Ao18 t338.length co18, .int .i64 t341] 25 (0, 0)) (by (with_reducible repeat (first | refine blk_drewN ?_ _ | refine blk_drew ?_ | refine blk_alloc ?_ _)); refine blk_far ?_ NB342_366.out _; (with_reducible repeat (first | refine blk_drewN ?_ _ | refine blk_drew ?_ | refine blk_alloc ?_ _)); refine blk_far ?_ NB342_366.out _; exact zk BK342)) : gb367 ≠ gb342)); replace BK342 := Aside0.mk (blk_below (g := gb342) (o := .cells #[.slice Ao18 t338.length co18, .int .i64 t341] 25 (0, 0)) (by (with_reducible repeat (first | refine blk_drewN ?_ _ | refine blk_drew ?_ | refine blk_alloc ?_ _)); refine blk_far ?_ NB342_366.out _; (with_reducible repeat (first | refine blk_drewN ?_ _ | refine blk_drew ?_ | refine blk_alloc ?_ _)); refine blk_far ?_ NB342_366.out _; exact zk BK342) hb); have NB359_367 := Aside0.mk ((by rw [hg]; exact Nat.ne_of_lt (blk_lt (g := gb359) (o := .cells #[.string (⟨#[97]⟩ : ByteArray), .string (rdOf ByteArray.empty y355 (ji53)), .bool false] 36 (0, 0)) (by (with_reducible repeat (first | refine blk_drewN ?_ _ | refine blk_drew ?_ | refine blk_alloc ?_ _)); refine blk_far ?_ NB359_366.out _; (with_reducible repeat (first | refine blk_drewN ?_ _ | refine blk_drew ?_ | refine blk_alloc ?_ _)); refine blk_far ?_ NB359_366.out _; exact zk BK359)) : gb359 ≠ gb367)); have NB367_359 := Aside0.mk ((by rw [hg]; exact Nat.ne_of_gt (blk_lt (g := gb359) (o := .cells #[.string (⟨#[97]⟩ : ByteArray), .string (rdOf ByteArray.empty y355 (ji53)), .bool false] 36 (0, 0)) (by (with_reducible repeat (first | refine blk_drewN ?_ _ | refine blk_drew ?_ | refine blk_alloc ?_ _)); refine blk_far ?_ NB359_366.out _; (with_reducible repeat (first | refine blk_drewN ?_ _ | refine blk_drew ?_ | refine blk_alloc ?_ _)); refine blk_far ?_ NB359_366.out _; exact zk BK359)) : gb367 ≠ gb359)); replace BK359 := Aside0.mk (blk_below (g := gb359) (o := .cells #[.string (⟨#[97]⟩ : ByteArray), .string (rdOf ByteArray.empty y355 (ji53)), .bool false] 36 (0, 0)) (by (with_reducible repeat (first | refine blk_drewN ?_ _ | refine blk_drew ?_ | refine blk_alloc ?_ _)); refine blk_far ?_ NB359_366.out _; (with_reducible repeat (first | refine blk_drewN ?_ _ | refine blk_drew ?_ | refine blk_alloc ?_ _)); refine blk_far ?_ NB359_366.out _; exact zk BK359) hb); have NB366_367 := Aside0.mk ((by rw [hg]; exact Nat.ne_of_lt (blk_lt (g := gb366) (o := .cells #[.slice Ao167 t362.length co167, .int .i64 t365] 25 (0, 0)) (by (with_reducible repeat (first | refine blk_drewN ?_ _ | refine blk_drew ?_ | refine blk_alloc ?_ _)); refine blk_put (cs := #[.slice Ao167 t362.length co167, .int .i64 0]) ?_ 1 _ rfl; (with_reducible repeat (first | refine blk_drewN ?_ _ | refine blk_drew ?_ | refine blk_alloc ?_ _)); refine blk_put (cs := #[.slice none 0 0, .int .i64 0]) ?_ 0 _ rfl; exact zk BK366)) : gb366 ≠ gb367)); have NB367_366 := Aside0.mk ((by rw [hg]; exact Nat.ne_of_gt (blk_lt (g := gb366) (o := .cells #[.slice Ao167 t362.length co167, .int .i64 t365] 25 (0, 0)) (by (with_reducible repeat (first | refine blk_drewN ?_ _ | refine blk_drew ?_ | refine blk_alloc ?_ _)); refine blk_put (cs := #[.slice Ao167 t362.length co167, .int .i64 0]) ?_ 1 _ rfl; (with_reducible repeat (first | refine blk_drewN ?_ _ | refine blk_drew ?_ | refine blk_alloc ?_ _)); refine blk_put (cs := #[.slice none 0 0, .int .i64 0]) ?_ 0 _ rfl; exact zk BK366)) : gb367 ≠ gb366)); replace BK366 := Aside0.mk (blk_below (g := gb366) (o := .cells #[.slice Ao167 t362.length co167, .int .i64 t365] 25 (0, 0)) (by (with_reducible repeat (first | refine blk_drewN ?_ _ | refine blk_drew ?_ | refine blk_alloc ?_ _)); refine blk_put (cs := #[.slice Ao167 t362.length co167, .int .i64 0]) ?_ 1 _ rfl; (with_reducible repeat (first | refine blk_drewN ?_ _ | refine blk_drew ?_ | refine blk_alloc ?_ _)); refine blk_put (cs := #[.slice none 0 0, .int .i64 0]) ?_ 0 _ rfl; exact zk BK366) hb); clear hb hbox hg; have hnb176 := NB367_336.out; have hnc176 := NB336_367.out; have hnb177 := NB367_337.out; have hnc177 := NB337_367.out; have hnb178 := NB367_342.out; have hnc178 := NB342_367.out; have hnb179 := NB367_359.out; have hnc179 := NB359_367.out; have hnb180 := NB367_366.out; have hnc180 := NB366_367.out; have hcz181_0 : w175.cell? ⟨gb367, 0, none⟩ = some (.string (⟨#[]⟩ : ByteArray)) := (blk_cell BK367.out 0).trans rfl; have hcz181_1 : w175.cell? ⟨gb367, 1, none⟩ = some (.string (⟨#[]⟩ : ByteArray)) := (blk_cell BK367.out 1).trans rfl; have hcz181_2 : w175.cell? ⟨gb367, 2, none⟩ = some (.bool false) := (blk_cell BK367.out 2).trans rfl; have hfz181_0 := blk_frozen BK367.out 0; have hfz181_1 := blk_frozen BK367.out 1; have hfz181_2 := blk_frozen BK367.out 2))
           have n0_ : Aside0 (Kd.R k36 36 ((((w175.setCell ⟨gb367, 0, none⟩ (.string t333)).setCell ⟨gb367, 1, none⟩ (.string t334)).setCell ⟨gb367, 2, none⟩ (.bool t335)).setCell ⟨gb367, 2, none⟩ (.bool false)) w.heap.size (fun k_ => some k_ ≠ (.slice Ao18 t338.length co18 : Value).ownBlock ∧ some k_ ≠ (.slice Ao167 t362.length co167 : Value).ownBlock ∧ k_ ≠ gb337 ∧ k_ ≠ gb359 ∧ k_ ≠ gb367) (.slice Ao12 t329.length co12) t329) := ⟨by (with_reducible repeat (first | apply Kd.R_alloc | apply Kd.R_drewN | apply Kd.R_drew)); exact Kd.R_mono (Kd.R_far (p := ⟨gb367, 2, none⟩) (Kd.R_far (p := ⟨gb367, 2, none⟩) (Kd.R_far (p := ⟨gb367, 1, none⟩) (Kd.R_far (p := ⟨gb367, 0, none⟩) (Kd.R_mono HO_337000.out (fun k_ hk => (⟨hk, hk.2⟩ : _ ∧ k_ ≠ gb367))) (fun _ hk => hk.2) (.string t333)) (fun _ hk => hk.2) (.string t334)) (fun _ hk => hk.2) (.bool t335)) (fun _ hk => hk.2) (.bool false)) (fun _ hk => ⟨hk.1.1.1.1, ⟨hk.1.1.2, ⟨hk.1.1.1.2.1, ⟨hk.1.1.1.2.2, hk.1.2⟩⟩⟩⟩)⟩
           have n1_ : Aside0 (Kd.R k36 36 ((((w175.setCell ⟨gb367, 0, none⟩ (.string t333)).setCell ⟨gb367, 1, none⟩ (.string t334)).setCell ⟨gb367, 2, none⟩ (.bool t335)).setCell ⟨gb367, 2, none⟩ (.bool false)) w.heap.size (fun k_ => some k_ ≠ (.slice Ao12 t329.length co12 : Value).ownBlock ∧ some k_ ≠ (.slice Ao167 t362.length co167 : Value).ownBlock ∧ k_ ≠ gb337 ∧ k_ ≠ gb359 ∧ k_ ≠ gb367) (.slice Ao18 t338.length co18) t338) := ⟨by (with_reducible repeat (first | apply Kd.R_alloc | apply Kd.R_drewN | apply Kd.R_drew)); exact Kd.R_mono (Kd.R_far (p := ⟨gb367, 2, none⟩) (Kd.R_far (p := ⟨gb367, 2, none⟩) (Kd.R_far (p := ⟨gb367, 1, none⟩) (Kd.R_far (p := ⟨gb367, 0, none⟩) (Kd.R_mono HO_343000.out (fun k_ hk => (⟨hk, hk.2⟩ : _ ∧ k_ ≠ gb367))) (fun _ hk => hk.2) (.string t333)) (fun _ hk => hk.2) (.string t334)) (fun _ hk => hk.2) (.bool t335)) (fun _ hk => hk.2) (.bool false)) (fun _ hk => ⟨hk.1.1.1.1, ⟨hk.1.1.2, ⟨hk.1.1.1.2.1, ⟨hk.1.1.1.2.2, hk.1.2⟩⟩⟩⟩)⟩
           have n2_ : Aside0 (Kd.R Kd.string 9 ((((w175.setCell ⟨gb367, 0, none⟩ (.string t333)).setCell ⟨gb367, 1, none⟩ (.string t334)).setCell ⟨gb367, 2, none⟩ (.bool t335)).setCell ⟨gb367, 2, none⟩ (.bool false)) w.heap.size (fun _ => True) (.slice (some ad358) y355.length co61) y355) := ⟨by (with_reducible repeat (first | apply Kd.R_alloc | apply Kd.R_drewN | apply Kd.R_drew)); exact Kd.R_mono (Kd.R_far (p := ⟨gb367, 2, none⟩) (Kd.R_far (p := ⟨gb367, 2, none⟩) (Kd.R_far (p := ⟨gb367, 1, none⟩) (Kd.R_far (p := ⟨gb367, 0, none⟩) (Kd.R_types HO357.out BK367.out (by decide)) (fun _ hk => hk.2) (.string t333)) (fun _ hk => hk.2) (.string t334)) (fun _ hk => hk.2) (.bool t335)) (fun _ hk => hk.2) (.bool false)) (fun _ hk => trivial)⟩
           have n3_ : Aside0 (Kd.R k36 36 ((((w175.setCell ⟨gb367, 0, none⟩ (.string t333)).setCell ⟨gb367, 1, none⟩ (.string t334)).setCell ⟨gb367, 2, none⟩ (.bool t335)).setCell ⟨gb367, 2, none⟩ (.bool false)) w.heap.size (fun k_ => some k_ ≠ (.slice Ao12 t329.length co12 : Value).ownBlock ∧ some k_ ≠ (.slice Ao18 t338.length co18 : Value).ownBlock ∧ k_ ≠ gb337 ∧ k_ ≠ gb359 ∧ k_ ≠ gb367) (.slice Ao167 t362.length co167) t362) := ⟨by (with_reducible repeat (first | apply Kd.R_alloc | apply Kd.R_drewN | apply Kd.R_drew)); exact Kd.R_mono (Kd.R_far (p := ⟨gb367, 2, none⟩) (Kd.R_far (p := ⟨gb367, 2, none⟩) (Kd.R_far (p := ⟨gb367, 1, none⟩) (Kd.R_far (p := ⟨gb367, 0, none⟩) (Kd.R_mono HO364.out (fun k_ hk => (⟨hk, hk.2⟩ : _ ∧ k_ ≠ gb367))) (fun _ hk => hk.2) (.string t333)) (fun _ hk => hk.2) (.string t334)) (fun _ hk => hk.2) (.bool t335)) (fun _ hk => hk.2) (.bool false)) (fun _ hk => ⟨hk.1.1.1.1.1.2, ⟨hk.1.1.1.1.2, ⟨hk.1.1.1.2, ⟨hk.1.1.2, hk.1.2⟩⟩⟩⟩)⟩
           have n4_ : Aside0 (((((w175.setCell ⟨gb367, 0, none⟩ (.string t333)).setCell ⟨gb367, 1, none⟩ (.string t334)).setCell ⟨gb367, 2, none⟩ (.bool t335)).setCell ⟨gb367, 2, none⟩ (.bool false)).heap[gb336]? = some (.cells #[.slice Ao12 t329.length co12, .int .i64 t332] 25 (0, 0))) := ⟨by (with_reducible repeat (first | refine blk_drewN ?_ _ | refine blk_drew ?_ | refine blk_alloc ?_ _)); refine blk_far ?_ NB336_367.out _; (with_reducible repeat (first | refine blk_drewN ?_ _ | refine blk_drew ?_ | refine blk_alloc ?_ _)); refine blk_far ?_ NB336_367.out _; (with_reducible repeat (first | refine blk_drewN ?_ _ | refine blk_drew ?_ | refine blk_alloc ?_ _)); refine blk_far ?_ NB336_367.out _; (with_reducible repeat (first | refine blk_drewN ?_ _ | refine blk_drew ?_ | refine blk_alloc ?_ _)); refine blk_far ?_ NB336_367.out _; exact zk BK336⟩
           have n5_ : Aside0 (((((w175.setCell ⟨gb367, 0, none⟩ (.string t333)).setCell ⟨gb367, 1, none⟩ (.string t334)).setCell ⟨gb367, 2, none⟩ (.bool t335)).setCell ⟨gb367, 2, none⟩ (.bool false)).heap[gb337]? = some (.cells #[.string t333, .string t334, .bool t335] 36 (0, 0))) := ⟨by (with_reducible repeat (first | refine blk_drewN ?_ _ | refine blk_drew ?_ | refine blk_alloc ?_ _)); refine blk_far ?_ NB337_367.out _; (with_reducible repeat (first | refine blk_drewN ?_ _ | refine blk_drew ?_ | refine blk_alloc ?_ _)); refine blk_far ?_ NB337_367.out _; (with_reducible repeat (first | refine blk_drewN ?_ _ | refine blk_drew ?_ | refine blk_alloc ?_ _)); refine blk_far ?_ NB337_367.out _; (with_reducible repeat (first | refine blk_drewN ?_ _ | refine blk_drew ?_ | refine blk_alloc ?_ _)); refine blk_far ?_ NB337_367.out _; exact zk BK337⟩
           have n6_ : Aside0 (((((w175.setCell ⟨gb367, 0, none⟩ (.string t333)).setCell ⟨gb367, 1, none⟩ (.string t334)).setCell ⟨gb367, 2, none⟩ (.bool t335)).setCell ⟨gb367, 2, none⟩ (.bool false)).heap[gb342]? = some (.cells #[.slice Ao18 t338.length co18, .int .i64 t341] 25 (0, 0))) := ⟨by (with_reducible repeat (first | refine blk_drewN ?_ _ | refine blk_drew ?_ | refine blk_alloc ?_ _)); refine blk_far ?_ NB342_367.out _; (with_reducible repeat (first | refine blk_drewN ?_ _ | refine blk_drew ?_ | refine blk_alloc ?_ _)); refine blk_far ?_ NB342_367.out _; (with_reducible repeat (first | refine blk_drewN ?_ _ | refine blk_drew ?_ | refine blk_alloc ?_ _)); refine blk_far ?_ NB342_367.out _; (with_reducible repeat (first | refine blk_drewN ?_ _ | refine blk_drew ?_ | refine blk_alloc ?_ _)); refine blk_far ?_ NB342_367.out _; exact zk BK342⟩
           have n7_ : Aside0 (((((w175.setCell ⟨gb367, 0, none⟩ (.string t333)).setCell ⟨gb367, 1, none⟩ (.string t334)).setCell ⟨gb367, 2, none⟩ (.bool t335)).setCell ⟨gb367, 2, none⟩ (.bool false)).heap[gb359]? = some (.cells #[.string (⟨#[97]⟩ : ByteArray), .string (rdOf ByteArray.empty y355 (ji53)), .bool false] 36 (0, 0))) := ⟨by (with_reducible repeat (first | refine blk_drewN ?_ _ | refine blk_drew ?_ | refine blk_alloc ?_ _)); refine blk_far ?_ NB359_367.out _; (with_reducible repeat (first | refine blk_drewN ?_ _ | refine blk_drew ?_ | refine blk_alloc ?_ _)); refine blk_far ?_ NB359_367.out _; (with_reducible repeat (first | refine blk_drewN ?_ _ | refine blk_drew ?_ | refine blk_alloc ?_ _)); refine blk_far ?_ NB359_367.out _; (with_reducible repeat (first | refine blk_drewN ?_ _ | refine blk_drew ?_ | refine blk_alloc ?_ _)); refine blk_far ?_ NB359_367.out _; exact zk BK359⟩
           have n8_ : Aside0 (((((w175.setCell ⟨gb367, 0, none⟩ (.string t333)).setCell ⟨gb367, 1, none⟩ (.string t334)).setCell ⟨gb367, 2, none⟩ (.bool t335)).setCell ⟨gb367, 2, none⟩ (.bool false)).heap[gb366]? = some (.cells #[.slice Ao167 t362.length co167, .int .i64 t365] 25 (0, 0))) := ⟨by (with_reducible repeat (first | refine blk_drewN ?_ _ | refine blk_drew ?_ | refine blk_alloc ?_ _)); refine blk_far ?_ NB366_367.out _; (with_reducible repeat (first | refine blk_drewN ?_ _ | refine blk_drew ?_ | refine blk_alloc ?_ _)); refine blk_far ?_ NB366_367.out _; (with_reducible repeat (first | refine blk_drewN ?_ _ | refine blk_drew ?_ | refine blk_alloc ?_ _)); refine blk_far ?_ NB366_367.out _; (with_reducible repeat (first | refine blk_drewN ?_ _ | refine blk_drew ?_ | refine blk_alloc ?_ _)); refine blk_far ?_ NB366_367.out _; exact zk BK366⟩
           have n9_ : Aside0 (((((w175.setCell ⟨gb367, 0, none⟩ (.string t333)).setCell ⟨gb367, 1, none⟩ (.string t334)).setCell ⟨gb367, 2, none⟩ (.bool t335)).setCell ⟨gb367, 2, none⟩ (.bool false)).heap[gb367]? = some (.cells #[.string t333, .string t334, .bool false] 36 (0, 0))) := ⟨by (with_reducible repeat (first | refine blk_drewN ?_ _ | refine blk_drew ?_ | refine blk_alloc ?_ _)); refine blk_put (cs := #[.string t333, .string t334, .bool t335]) ?_ 2 _ rfl; (with_reducible repeat (first | refine blk_drewN ?_ _ | refine blk_drew ?_ | refine blk_alloc ?_ _)); refine blk_put (cs := #[.string t333, .string t334, .bool false]) ?_ 2 _ rfl; (with_reducible repeat (first | refine blk_drewN ?_ _ | refine blk_drew ?_ | refine blk_alloc ?_ _)); refine blk_put (cs := #[.string t333, .string (⟨#[]⟩ : ByteArray), .bool false]) ?_ 1 _ rfl; (with_reducible repeat (first | refine blk_drewN ?_ _ | refine blk_drew ?_ | refine blk_alloc ?_ _)); refine blk_put (cs := #[.string (⟨#[]⟩ : ByteArray), .string (⟨#[]⟩ : ByteArray), .bool false]) ?_ 0 _ rfl; exact zk BK367⟩
           have n10_ : Aside0 (Below w.heap.size w ((((w175.setCell ⟨gb367, 0, none⟩ (.string t333)).setCell ⟨gb367, 1, none⟩ (.string t334)).setCell ⟨gb367, 2, none⟩ (.bool t335)).setCell ⟨gb367, 2, none⟩ (.bool false))) := ⟨zb HB⟩
           (try clear HO_337000)
           (try clear HO_343000)
           (try clear HO357)
           (try clear HO364)
           (try clear BK336)
           (try clear BK337)
           (try clear BK342)
           (try clear BK359)
           (try clear BK366)
           (try clear BK367)
           (try clear HB)
           generalize ((((w175.setCell ⟨gb367, 0, none⟩ (.string t333)).setCell ⟨gb367, 1, none⟩ (.string t334)).setCell ⟨gb367, 2, none⟩ (.bool t335)).setCell ⟨gb367, 2, none⟩ (.bool false)) = w182 at n0_ n1_ n2_ n3_ n4_ n5_ n6_ n7_ n8_ n9_ n10_ ⊢
           have HO_337000 := n0_
           have HO_343000 := n1_
           have HO357 := n2_
           have HO364 := n3_
           have BK336 := n4_
           have BK337 := n5_
           have BK342 := n6_
           have BK359 := n7_
           have BK366 := n8_
           have BK367 := n9_
           have HB := n10_
           clear n0_ n1_ n2_ n3_ n4_ n5_ n6_ n7_ n8_ n9_ n10_
           replace HO_337000 := Aside0.mk (Kd.R_drew HO_337000.out)
           replace HO_343000 := Aside0.mk (Kd.R_drew HO_343000.out)
           replace HO357 := Aside0.mk (Kd.R_drew HO357.out)
           replace HO364 := Aside0.mk (Kd.R_drew HO364.out)
           replace BK336 := Aside0.mk (blk_drew BK336.out)
           replace BK337 := Aside0.mk (blk_drew BK337.out)
           replace BK342 := Aside0.mk (blk_drew BK342.out)
           replace BK359 := Aside0.mk (blk_drew BK359.out)
           replace BK366 := Aside0.mk (blk_drew BK366.out)
           replace BK367 := Aside0.mk (blk_drew BK367.out)
           replace HB := Aside0.mk (below_drew1 HB.out)
           refine start_ (n := 25) (S := fun w' => w'.cell? ⟨gb366, 0, none⟩ = some (.slice Ao167 t362.length co167) ∧ w'.cell? ⟨gb366, 1, none⟩ = some (.int .i64 t365)) (ds := []) #[false, false, false, false, false, false, false, false, false, false, false, false, false, false, false, false, false, false, false, false, false, false, false, false, false] (by kernel_rfl) rfl rfl ⟨(blk_cell BK366.out 0).trans rfl, (blk_cell BK366.out 1).trans rfl⟩ (fun hHeld => ?_); refine with_tabW laws_FnAddTwo.tab13 laws_FnAddTwo.bits13 (fun HT_ HW_ => ?_)
           generalize w182.drew = w183 at HO_337000 HO_343000 HO357 HO364 BK336 BK337 BK342 BK359 BK366 BK367 HB hHeld ⊢
           refine pu 0 (some 68) (bm 25 1) rfl rfl ?_
           refine tk2 1 (some 69) (bm 25 3) rfl rfl hHeld ?_
           refine pu 2 (some 70) (bm 25 7) rfl rfl ?_
           refine pu 3 (some 71) (bm 25 15) rfl rfl ?_
           refine pu 4 (some 72) (bm 25 31) rfl rfl ?_
           refine pv 5 (some 73) (bm 25 63) rfl rfl ?_
           refine pv 6 (some 74) (bm 25 127) rfl rfl ?_
           refine pv 7 (some 75) (bm 25 255) rfl rfl ?_
           refine pv 8 (some 76) (bm 25 511) rfl rfl ?_
           refine pv 9 (some 77) (bm 25 1023) rfl rfl ?_
           refine pv 10 (some 78) (bm 25 2047) rfl rfl ?_
           refine pu 11 (some 79) (bm 25 4095) rfl rfl ?_
           refine pu 12 (some 80) (bm 25 8191) rfl rfl ?_
           refine pv 13 (some 81) (bm 25 16383) rfl rfl ?_
           refine pv 14 (some 82) (bm 25 32767) rfl rfl ?_
           refine pv 15 (some 83) (bm 25 65535) rfl rfl ?_
           refine pv 16 (some 84) (bm 25 131071) rfl rfl ?_
           refine pv 17 (some 85) (bm 25 262143) rfl rfl ?_
           refine pv 18 (some 86) (bm 25 524287) rfl rfl ?_
           refine pu 19 (some 87) (bm 25 1048575) rfl rfl ?_
           refine pu 20 (some 88) (bm 25 2097151) rfl rfl ?_
           refine pv 21 (some 89) (bm 25 4194303) rfl rfl ?_
           refine pv 22 (some 90) (bm 25 8388607) rfl rfl ?_
           refine pu 23 (some 91) (bm 25 16777215) rfl rfl ?_
           refine pu 24 (some 4) (bm 25 33554431) rfl rfl ?_
           refine done_ (done_of HT_.out (by kernel_rfl)) ?_
           try go_wp2
           go_ret
           exact ⟨by first | rfl | (simp [errW_none, errW_some] <;> rfl) | (simp only [← hji53]; first | rfl | (simp [errW_none, errW_some] <;> rfl)) | (simp [*, errW_none, errW_some] <;> rfl) | (simp [errW_none, errW_some]; exact (by intro l_; cases l_ <;> rfl : ∀ l_ : List UInt8, l_.isEmpty = !(l_ != [])) _), zb HB⟩
        ·rw [if_neg c55] at H
         exact absurd H (by simp)
       ·rw [if_neg c54] at H
        exact absurd H (by simp)

/-- THE ONE PURE STATEMENT of laws_FnAddTwo: yours. -/
def laws_FnAddTwo.Pure : Prop := ∀ (l0 : List Int) (l1 : List Int), l0.length ≤ maxLen → l0.length * 1 ≤ 140737488351232 → (∀ x ∈ l0, (Lit.int .u8 x).wf = true) → l1.length ≤ maxLen → l1.length * 1 ≤ 140737488351232 → (∀ x ∈ l1, (Lit.int .u8 x).wf = true) → ∃ k, laws_FnAddTwo.f k l0 l1 = some true
theorem laws_FnAddTwo.walk (P : laws_FnAddTwo.Pure) (a0 : Option Addr) (len0 cap0 : Nat) (z0 : List Int) (a1 : Option Addr) (len1 cap1 : Nat) (z1 : List Int) (w : World) (w0 : (a0 = none ∧ len0 = 0 ∧ cap0 = 0 ∧ z0 = []) ∨ ∃ x, a0 = some x ∧ len0 ≤ cap0 ∧ cap0 ≤ maxLen ∧ z0.length = cap0 ∧ (∀ i, i < z0.length → w.cell? (x.add i) = some (.int .u8 (z0.getD i 0))) ∧ ∀ n ∈ z0, (Lit.int .u8 n).wf = true) (y0 : len0 * 1 ≤ 140737488351232) (w1 : (a1 = none ∧ len1 = 0 ∧ cap1 = 0 ∧ z1 = []) ∨ ∃ x, a1 = some x ∧ len1 ≤ cap1 ∧ cap1 ≤ maxLen ∧ z1.length = cap1 ∧ (∀ i, i < z1.length → w.cell? (x.add i) = some (.int .u8 (z1.getD i 0))) ∧ ∀ n ∈ z1, (Lit.int .u8 n).wf = true) (y1 : len1 * 1 ≤ 140737488351232) :
  Calls Try.prog 6 #[.slice a0 len0 cap0, .slice a1 len1 cap1] w fun e w' => e = .returned (.bool true) ∧ Below w.heap.size w w' := by
 obtain ⟨l0, rfl, hr0, hm0, hw0, hc0⟩ := ReadsInt.ofRowC w0
 obtain ⟨l1, rfl, hr1, hm1, hw1, hc1⟩ := ReadsInt.ofRowC w1
 obtain ⟨k, h⟩ := P l0 l1 hm0 y0 hw0 hm1 y1 hw1
 refine (laws_FnAddTwo.calls k _ _ l0 _ _ l1 true w (Kd.C_of_reads (d := (0 : Int)) (h1 := fun _ => rfl) hr0) hc0 (Kd.C_of_reads (d := (0 : Int)) (h1 := fun _ => rfl) hr1) hc1 h).mono ?_
 rintro e w' ⟨rfl, hd⟩
 exact ⟨rfl, hd⟩

end Go.Proofs.Ytdhahifdcoinhaa.PFnAddTwo
