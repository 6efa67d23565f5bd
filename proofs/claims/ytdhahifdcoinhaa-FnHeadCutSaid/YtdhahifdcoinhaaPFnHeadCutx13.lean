-- WRITTEN BY a turned print (wip/tools of the prover's repo)
import Derived.Test.YtdhahifdcoinhaaPFnHeadCutx0
import Derived.Test.YtdhahifdcoinhaaPFnHeadCutx2
import Derived.Test.YtdhahifdcoinhaaPFnHeadCutx5
import Derived.Test.YtdhahifdcoinhaaPFnHeadCutx8
import Derived.Test.YtdhahifdcoinhaaPFnHeadCutx12
namespace Go.Proofs.Ytdhahifdcoinhaa.PFnHeadCut
open Go.RowKit Go.Proofs.YtdhahifdcoinhaaW.PrintWords Go.Proofs.YtdhahifdcoinhaaW.PrintLast Go.Proofs.YtdhahifdcoinhaaW.PrintMore Go.Proofs.Ytdhahifdcoinhaa.Lm
attribute [local go_sem] max2_int min2_int max_two min_two max_three min_three max_four min_four   -- for this text's walks alone
set_option linter.unusedVariables false
set_option linter.unusedSimpArgs false

/-! ### laws_FnHeadCut: function 11 -/
-- thin
mutual
def laws_FnHeadCut.j0 : Nat → List Int → List Int → Bool → Option (Bool)
 | 0, _, _, _ => none
 | k + 1, x0, x1, x23 => if x23 = true then (some true) else ((spec_DrawHeadWrite.f k x0).bind fun bt490 => ((spec_HeadWrite.f k bt490.1 bt490.2.1 bt490.2.2).bind fun bt498 => ((impl_HeadWrite.f k bt490.1 bt490.2.1 bt490.2.2).bind fun bt504 => (if bt504.2.2.toList = bt498.2.2.toList then ((laws_lkTable.f k bt504.1 bt504.2.1 bt498.1 bt498.2.1).bind fun t510 => (if t510 = true then ((spec_TableOk.f k bt490.1 bt490.2.1).bind fun t511 => (if t511 = true then ((spec_HeadOk.f k bt490.2.2).bind fun t512 => (laws_FnHeadCut.j1 k x1 bt490.2.2 bt498.2.2 bt504.2.2 (!t512) bt490.1 bt490.2.1 bt498.1 bt498.2.1 bt504.1 bt504.2.1)) else (laws_FnHeadCut.j1 k x1 bt490.2.2 bt498.2.2 bt504.2.2 true bt490.1 bt490.2.1 bt498.1 bt498.2.1 bt504.1 bt504.2.1))) else (laws_FnHeadCut.j1 k x1 bt490.2.2 bt498.2.2 bt504.2.2 true bt490.1 bt490.2.1 bt498.1 bt498.2.1 bt504.1 bt504.2.1))) else (laws_FnHeadCut.j1 k x1 bt490.2.2 bt498.2.2 bt504.2.2 true bt490.1 bt490.2.1 bt498.1 bt498.2.1 bt504.1 bt504.2.1)))))
def laws_FnHeadCut.j1 : Nat → List Int → List (S36) → ByteArray → ByteArray → Bool → List (S36) → Int → List (S36) → Int → List (S36) → Int → Option (Bool)
 | 0, _, _, _, _, _, _, _, _, _, _, _ => none
 | k + 1, x1, x6, x8, x10, x59, x498000, x498001, x504000, x504001, x510000, x510001 => if x59 = true then (if x10.toList = x8.toList then ((laws_lkTable.f k x510000 x510001 x504000 x504001).bind fun t513 => (some t513)) else (some false)) else (if (wrap64 ((x6.length : Int) + 1)) = 0 then (none) else (if 0 ≤ ((x1.length : Int) % (wrap64 ((x6.length : Int) + 1))) then (if ((x1.length : Int) % (wrap64 ((x6.length : Int) + 1))) ≤ (x6.length : Int) then ((impl_HeadWrite.f k x498000 x498001 (x6.take (((x1.length : Int) % (wrap64 ((x6.length : Int) + 1))) : Int).toNat)).bind fun bt518 => ((impl_HeadWrite.f k bt518.1 bt518.2.1 (x6.drop (((x1.length : Int) % (wrap64 ((x6.length : Int) + 1))) : Int).toNat)).bind fun bt528 => (if bt518.2.2.size + bt528.2.2.size ≤ 9223372036854775807 then (if (bt518.2.2 ++ bt528.2.2).toList = x10.toList then ((laws_lkTable.f k bt528.1 bt528.2.1 x510000 x510001).bind fun t534 => (some t534)) else (some false)) else (none)))) else (none)) else (none)))
end
def laws_FnHeadCut.f (k : Nat) (l0 : List Int) (l1 : List Int) : Option (Bool) := if (l0.length : Int) > 1048576 then (laws_FnHeadCut.j0 k l0 l1 true) else (laws_FnHeadCut.j0 k l0 l1 (decide ((l1.length : Int) > 1048576)))
theorem laws_FnHeadCut.mono_l : ∀ k, (∀ y0 y1 y2, LeO (laws_FnHeadCut.j0 k y0 y1 y2) (laws_FnHeadCut.j0 (k + 1) y0 y1 y2)) ∧ (∀ y0 y1 y2 y3 y4 y5 y6 y7 y8 y9 y10, LeO (laws_FnHeadCut.j1 k y0 y1 y2 y3 y4 y5 y6 y7 y8 y9 y10) (laws_FnHeadCut.j1 (k + 1) y0 y1 y2 y3 y4 y5 y6 y7 y8 y9 y10))
 | 0 => ⟨fun _ _ _ r h => by simp [laws_FnHeadCut.j0] at h, fun _ _ _ _ _ _ _ _ _ _ _ r h => by simp [laws_FnHeadCut.j1] at h⟩
 | k + 1 => by
  obtain ⟨ih0, ih1⟩ := laws_FnHeadCut.mono_l k
  refine ⟨?_, ?_⟩
  ·intro y0 y1 y2
   unfold laws_FnHeadCut.j0
   repeat' first
   | (with_reducible exact ih0 _ _ _)
   | (with_reducible exact ih1 _ _ _ _ _ _ _ _ _ _ _)
   | (with_reducible exact impl_HeadWrite.mono _ _ _ _)
   | (with_reducible exact laws_lkTable.mono _ _ _ _ _)
   | (with_reducible exact spec_DrawHeadWrite.mono _ _)
   | (with_reducible exact spec_HeadOk.mono _ _)
   | (with_reducible exact spec_HeadWrite.mono _ _ _ _)
   | (with_reducible exact spec_TableOk.mono _ _ _)
   | (with_reducible exact LeO.refl _)
   | (with_reducible exact LeO.none _)
   | (with_reducible refine LeO.ite ?_ ?_)
   | (with_reducible refine LeO.bind ?_ (fun _ => ?_))
   | exact ih0 _ _ _
   | exact ih1 _ _ _ _ _ _ _ _ _ _ _
   | exact impl_HeadWrite.mono _ _ _ _
   | exact laws_lkTable.mono _ _ _ _ _
   | exact spec_DrawHeadWrite.mono _ _
   | exact spec_HeadOk.mono _ _
   | exact spec_HeadWrite.mono _ _ _ _
   | exact spec_TableOk.mono _ _ _
   | exact LeO.none _
   | refine LeO.ite ?_ ?_
   | refine LeO.bind ?_ (fun _ => ?_)
  ·intro y0 y1 y2 y3 y4 y5 y6 y7 y8 y9 y10
   unfold laws_FnHeadCut.j1
   repeat' first
   | (with_reducible exact ih0 _ _ _)
   | (with_reducible exact ih1 _ _ _ _ _ _ _ _ _ _ _)
   | (with_reducible exact impl_HeadWrite.mono _ _ _ _)
   | (with_reducible exact laws_lkTable.mono _ _ _ _ _)
   | (with_reducible exact spec_DrawHeadWrite.mono _ _)
   | (with_reducible exact spec_HeadOk.mono _ _)
   | (with_reducible exact spec_HeadWrite.mono _ _ _ _)
   | (with_reducible exact spec_TableOk.mono _ _ _)
   | (with_reducible exact LeO.refl _)
   | (with_reducible exact LeO.none _)
   | (with_reducible refine LeO.ite ?_ ?_)
   | (with_reducible refine LeO.bind ?_ (fun _ => ?_))
   | exact ih0 _ _ _
   | exact ih1 _ _ _ _ _ _ _ _ _ _ _
   | exact impl_HeadWrite.mono _ _ _ _
   | exact laws_lkTable.mono _ _ _ _ _
   | exact spec_DrawHeadWrite.mono _ _
   | exact spec_HeadOk.mono _ _
   | exact spec_HeadWrite.mono _ _ _ _
   | exact spec_TableOk.mono _ _ _
   | exact LeO.none _
   | refine LeO.ite ?_ ?_
   | refine LeO.bind ?_ (fun _ => ?_)
theorem laws_FnHeadCut.mono : ∀ a0 a1 k, LeO (laws_FnHeadCut.f k a0 a1) (laws_FnHeadCut.f (k + 1) a0 a1) := by
 intro a0 a1 k
 obtain ⟨ih0, ih1⟩ := laws_FnHeadCut.mono_l k
 unfold laws_FnHeadCut.f
 repeat' first
   | (with_reducible exact ih0 _ _ _)
   | (with_reducible exact ih1 _ _ _ _ _ _ _ _ _ _ _)
   | (with_reducible exact impl_HeadWrite.mono _ _ _ _)
   | (with_reducible exact laws_lkTable.mono _ _ _ _ _)
   | (with_reducible exact spec_DrawHeadWrite.mono _ _)
   | (with_reducible exact spec_HeadOk.mono _ _)
   | (with_reducible exact spec_HeadWrite.mono _ _ _ _)
   | (with_reducible exact spec_TableOk.mono _ _ _)
   | (with_reducible exact LeO.refl _)
   | (with_reducible exact LeO.none _)
   | (with_reducible refine LeO.ite ?_ ?_)
   | (with_reducible refine LeO.bind ?_ (fun _ => ?_))
   | exact ih0 _ _ _
   | exact ih1 _ _ _ _ _ _ _ _ _ _ _
   | exact impl_HeadWrite.mono _ _ _ _
   | exact laws_lkTable.mono _ _ _ _ _
   | exact spec_DrawHeadWrite.mono _ _
   | exact spec_HeadOk.mono _ _
   | exact spec_HeadWrite.mono _ _ _ _
   | exact spec_TableOk.mono _ _ _
   | exact LeO.none _
   | refine LeO.ite ?_ ?_
   | refine LeO.bind ?_ (fun _ => ?_)
def laws_FnHeadCut.T9 : Bool × List (List Nat × List Nat) := (true, [([], []), ([], []), ([], []), ([1, 2], [1, 2]), ([0, 3], [0, 3]), ([4], [4]), ([5], [5]), ([5], [5]), ([], []), ([8, 6, 4, 0, 1, 2, 3, 4, 5, 6, 8], [6, 8]), ([7, 9, 0, 1, 2, 3, 4, 5, 6, 7, 8, 9], [7])])
def laws_FnHeadCut.B9 : List Nat := [0, 0, 0, 6, 15, 31, 63, 63, 0, 383, 1023]
theorem laws_FnHeadCut.tab9 : rtab .any (opsOf Try.f11 9) = laws_FnHeadCut.T9 := by kernel_rfl
theorem laws_FnHeadCut.bits9 : waitsOk laws_FnHeadCut.T9.2 laws_FnHeadCut.B9 = true := by kernel_rfl
def laws_FnHeadCut.T10 : Bool × List (List Nat × List Nat) := (true, [([], []), ([], []), ([], []), ([1, 2], [1, 2]), ([0, 3], [0, 3]), ([4], [4]), ([5], [5]), ([5], [5]), ([], []), ([8, 6, 4, 0, 1, 2, 3, 4, 5, 6, 8], [6, 8]), ([7, 9, 0, 1, 2, 3, 4, 5, 6, 7, 8, 9], [7])])
def laws_FnHeadCut.B10 : List Nat := [0, 0, 0, 6, 15, 31, 63, 63, 0, 383, 1023]
theorem laws_FnHeadCut.tab10 : rtab .any (opsOf Try.f11 10) = laws_FnHeadCut.T10 := by kernel_rfl
theorem laws_FnHeadCut.bits10 : waitsOk laws_FnHeadCut.T10.2 laws_FnHeadCut.B10 = true := by kernel_rfl
set_option maxHeartbeats 8000000 in
set_option maxRecDepth 100000 in
theorem laws_FnHeadCut.calls (k : Nat) (A0 : Option Addr) (c0 : Nat) (l0 : List Int) (A1 : Option Addr) (c1 : Nat) (l1 : List Int) (r : Bool) (w : World) (hr0 : Kd.C (Kd.int .u8) w A0 l0.length l0) (hc0 : l0.length ≤ c0) (hr1 : Kd.C (Kd.int .u8) w A1 l1.length l1) (hc1 : l1.length ≤ c1) (h : laws_FnHeadCut.f k l0 l1 = some r) :
  Calls Try.prog 11 #[.slice A0 l0.length c0, .slice A1 l1.length c1] w fun e w' => e = .returned (.bool r) ∧ Below w.heap.size w w' := by
 have hu25 := Try.underlying25
 have HR0 := Aside0.mk hr0
 have HC0 := Aside0.mk hc0
 clear hr0 hc0
 have HR1 := Aside0.mk hr1
 have HC1 := Aside0.mk hc1
 clear hr1 hc1
 have HB := Aside0.mk (Below.refl w.heap.size w)
 have H : (if (l0.length : Int) > 1048576 then (laws_FnHeadCut.j0 k l0 l1 true) else (laws_FnHeadCut.j0 k l0 l1 (decide ((l1.length : Int) > 1048576)))) = some r := h
 clear h
 have HC3 := Aside0.mk H
 clear H
 go_enter Try.func11, Try.ntmps11
 go_upto_region 1 with (fail)
 go_cut [23] (fun v23 wc => ∃ (kq : Nat) (x23_2 : Bool), v23 = .bool x23_2 ∧ Aside0 (laws_FnHeadCut.j0 kq l0 l1 x23_2 = some r) ∧ Aside0 (kq ≤ k) ∧ Aside0 (Below w.heap.size w wc))
 case first =>
  have H := HC3.out
  clear HC3
  by_cases c4 : (l0.length : Int) > 1048576
  ·rw [if_pos c4] at H
   have c4b0 : decide (1048576 < (l0.length : Int)) = true := decide_eq_true c4
   have c4b1 : decide (1048576 < l0.length) = true := decide_eq_true (by omega)
   clear c4
   (first | rw [c4b0] | rw [c4b1] | (simp only [i64_w, i32_w]; rw [c4b0]) | skip)
   have H' := Aside0.mk H
   clear H
   go_wp2
   go_meet
   case rel => exact ⟨_, (true), zs, H', ⟨by first | omega | exact Nat.le_refl _⟩, ⟨zb HB⟩⟩
  ·rw [if_neg c4] at H
   have c4b0 : decide (1048576 < (l0.length : Int)) = false := decide_eq_false c4
   have c4b1 : decide (1048576 < l0.length) = false := decide_eq_false (by omega)
   clear c4
   (first | rw [c4b0] | rw [c4b1] | (simp only [i64_w, i32_w]; rw [c4b0]) | skip)
   have H' := Aside0.mk H
   clear H
   go_wp2
   go_meet
   case rel => exact ⟨_, (decide ((l1.length : Int) > 1048576)), zs, H', ⟨by first | omega | exact Nat.le_refl _⟩, ⟨zb HB⟩⟩
 case rest =>
  clear HC3
  try clear c1
  try clear p2
  try clear c4
  try clear c4b0
  try clear c4b1
  obtain ⟨kq, x23_2, rfl, HA, HJ2, HB⟩ := hcut
  cases kq with
  | zero => exact absurd HA.out (by simp [laws_FnHeadCut.j0])
  | succ kj2 =>
   have H := HA.out
   clear HA
   simp only [laws_FnHeadCut.j0] at H
   by_cases c5 : x23_2 = true
   ·subst c5
    have H1 : (some true) = some r := by rw [if_pos rfl] at H; exact H
    clear H
    have H := H1
    clear H1
    obtain rfl := Option.some.inj H
    go_wp2
    go_ret
    exact ⟨ze, zb HB⟩
   ·replace c5 := Bool.eq_false_iff.mpr c5
    subst c5
    have H1 : ((spec_DrawHeadWrite.f kj2 l0).bind fun bt490 => ((spec_HeadWrite.f kj2 bt490.1 bt490.2.1 bt490.2.2).bind fun bt498 => ((impl_HeadWrite.f kj2 bt490.1 bt490.2.1 bt490.2.2).bind fun bt504 => (if bt504.2.2.toList = bt498.2.2.toList then ((laws_lkTable.f kj2 bt504.1 bt504.2.1 bt498.1 bt498.2.1).bind fun t510 => (if t510 = true then ((spec_TableOk.f kj2 bt490.1 bt490.2.1).bind fun t511 => (if t511 = true then ((spec_HeadOk.f kj2 bt490.2.2).bind fun t512 => (laws_FnHeadCut.j1 kj2 l1 bt490.2.2 bt498.2.2 bt504.2.2 (!t512) bt490.1 bt490.2.1 bt498.1 bt498.2.1 bt504.1 bt504.2.1)) else (laws_FnHeadCut.j1 kj2 l1 bt490.2.2 bt498.2.2 bt504.2.2 true bt490.1 bt490.2.1 bt498.1 bt498.2.1 bt504.1 bt504.2.1))) else (laws_FnHeadCut.j1 kj2 l1 bt490.2.2 bt498.2.2 bt504.2.2 true bt490.1 bt490.2.1 bt498.1 bt498.2.1 bt504.1 bt504.2.1))) else (laws_FnHeadCut.j1 kj2 l1 bt490.2.2 bt498.2.2 bt504.2.2 true bt490.1 bt490.2.1 bt498.1 bt498.2.1 bt504.1 bt504.2.1))))) = some r := by rw [if_neg (show ¬ (false = true) by decide)] at H; exact H
    clear H
    have H := H1
    clear H1
    replace H := Option.bind_eq_some_iff.mp H
    obtain ⟨⟨t490, t493, t494⟩, A60, H⟩ := H
    replace H : ((spec_HeadWrite.f kj2 t490 t493 t494).bind fun bt498 => ((impl_HeadWrite.f kj2 t490 t493 t494).bind fun bt504 => (if bt504.2.2.toList = bt498.2.2.toList then ((laws_lkTable.f kj2 bt504.1 bt504.2.1 bt498.1 bt498.2.1).bind fun t510 => (if t510 = true then ((spec_TableOk.f kj2 t490 t493).bind fun t511 => (if t511 = true then ((spec_HeadOk.f kj2 t494).bind fun t512 => (laws_FnHeadCut.j1 kj2 l1 t494 bt498.2.2 bt504.2.2 (!t512) t490 t493 bt498.1 bt498.2.1 bt504.1 bt504.2.1)) else (laws_FnHeadCut.j1 kj2 l1 t494 bt498.2.2 bt504.2.2 true t490 t493 bt498.1 bt498.2.1 bt504.1 bt504.2.1))) else (laws_FnHeadCut.j1 kj2 l1 t494 bt498.2.2 bt504.2.2 true t490 t493 bt498.1 bt498.2.1 bt504.1 bt504.2.1))) else (laws_FnHeadCut.j1 kj2 l1 t494 bt498.2.2 bt504.2.2 true t490 t493 bt498.1 bt498.2.1 bt504.1 bt504.2.1)))) = some r := H
    have A6 := Aside0.mk A60
    clear A60
    replace H := Option.bind_eq_some_iff.mp H
    obtain ⟨⟨t498, t501, t502⟩, A70, H⟩ := H
    replace H : ((impl_HeadWrite.f kj2 t490 t493 t494).bind fun bt504 => (if bt504.2.2.toList = t502.toList then ((laws_lkTable.f kj2 bt504.1 bt504.2.1 t498 t501).bind fun t510 => (if t510 = true then ((spec_TableOk.f kj2 t490 t493).bind fun t511 => (if t511 = true then ((spec_HeadOk.f kj2 t494).bind fun t512 => (laws_FnHeadCut.j1 kj2 l1 t494 t502 bt504.2.2 (!t512) t490 t493 t498 t501 bt504.1 bt504.2.1)) else (laws_FnHeadCut.j1 kj2 l1 t494 t502 bt504.2.2 true t490 t493 t498 t501 bt504.1 bt504.2.1))) else (laws_FnHeadCut.j1 kj2 l1 t494 t502 bt504.2.2 true t490 t493 t498 t501 bt504.1 bt504.2.1))) else (laws_FnHeadCut.j1 kj2 l1 t494 t502 bt504.2.2 true t490 t493 t498 t501 bt504.1 bt504.2.1))) = some r := H
    have A7 := Aside0.mk A70
    clear A70
    replace H := Option.bind_eq_some_iff.mp H
    obtain ⟨⟨t504, t507, t508⟩, A80, H⟩ := H
    replace H : (if t508.toList = t502.toList then ((laws_lkTable.f kj2 t504 t507 t498 t501).bind fun t510 => (if t510 = true then ((spec_TableOk.f kj2 t490 t493).bind fun t511 => (if t511 = true then ((spec_HeadOk.f kj2 t494).bind fun t512 => (laws_FnHeadCut.j1 kj2 l1 t494 t502 t508 (!t512) t490 t493 t498 t501 t504 t507)) else (laws_FnHeadCut.j1 kj2 l1 t494 t502 t508 true t490 t493 t498 t501 t504 t507))) else (laws_FnHeadCut.j1 kj2 l1 t494 t502 t508 true t490 t493 t498 t501 t504 t507))) else (laws_FnHeadCut.j1 kj2 l1 t494 t502 t508 true t490 t493 t498 t501 t504 t507)) = some r := H
    have A8 := Aside0.mk A80
    clear A80
    have HC9 := Aside0.mk H
    clear H
    go_upto_region 6 with (first | ((with_reducible refine gq 37 rfl ?_); refine gl (some 26) Try.func37 #[.slice A0 l0.length c0] ?_; (with_reducible refine (spec_DrawHeadWrite.calls kj2 _ _ l0 t490 t493 t494 _ ?side1 ?side2 A6.out).mono ?_); (case side1 => exact zc (Kd.C_below HR0.out HB.out)); (case side2 => exact HC0.out); rintro e w10 ⟨v491, v495, rfl, ho0, ho1, hb⟩; refine ⟨_, rfl, ?_⟩; have HO492 := Aside0.mk (Kd.R_lower ho0 (below_size (zb HB))); have HO496 := Aside0.mk (Kd.R_lower ho1 (below_size (zb HB))); replace HB := Aside0.mk (below_step (zb HB) hb); (try clear hb); (try clear ho0); (try clear ho1)) | ((with_reducible refine gd 5 rfl ?_); (try (refine gate_guard (by rfl) ?_; dsimp only)); refine bx (N := 5) (cs := #[.slice none 0 0, .int .i64 0]) (t := 25) ?_; intro gb497 hg w11 hbox hb; replace HO492 := Aside0.mk (Kd.R_below (zr HO492) hb); replace HO496 := Aside0.mk (Kd.R_below (zr HO496) hb); have BK497 := Aside0.mk (hbox); have GW497 := Aside0.mk ((by rw [hg]; exact (below_size (zb HB)) : w.heap.size ≤ gb497)); have GE497 := Aside0.mk ((by rw [hg]; exact (below_size (zb HB)) : w.heap.size ≤ gb497)); replace HB := Aside0.mk (below_step (zb HB) hb); clear hb hbox hg; obtain ⟨Ao12, co12, eo12⟩ := Kd.R_slice HO492.out; subst eo12; have hcz13_0 : w11.cell? ⟨gb497, 0, none⟩ = some (.slice none 0 0) := (blk_cell BK497.out 0).trans rfl; have hcz13_1 : w11.cell? ⟨gb497, 1, none⟩ = some (.int .i64 0) := (blk_cell BK497.out 1).trans rfl; have hfz13_0 := blk_frozen BK497.out 0; have hfz13_1 := blk_frozen BK497.out 1; obtain ⟨Ao14, co14, eo14⟩ := Kd.R_slice HO496.out; subst eo14) | ((with_reducible refine gq 38 rfl ?_); refine gl (some 32) Try.func38 #[.agg #[.slice Ao12 t490.length co12, .int .i64 t493], .slice Ao14 t494.length co14] ?_; (with_reducible refine (spec_HeadWrite.calls kj2 _ _ t490 t493 _ _ t494 t498 t501 t502 _ ?side1 ?side2 ?side3 ?side4 A7.out).mono ?_); (case side1 => refine (Kd.R_reads' (e := 36) (base := w.heap.size) (ok := fun k_ => some k_ ≠ (.slice Ao14 t494.length co14 : Value).ownBlock) (n := t490.length) (c := co12) ?_).2.2; exact (by (with_reducible repeat (first | apply Kd.R_alloc | apply Kd.R_drewN | apply Kd.R_drew)); exact (Kd.R_mono (Kd.R_far (p := ⟨gb497, 1, none⟩) (Kd.R_far (p := ⟨gb497, 0, none⟩) (Kd.R_types HO492.out BK497.out (by decide)) (fun _ hk => hk.2) (.slice Ao12 t490.length co12)) (fun _ hk => hk.2) (.int .i64 t493)) (fun _ h_ => h_.1)))); (case side2 => exact (Kd.R_reads' HO492.out).2.1); (case side3 => refine (Kd.R_reads' (e := 36) (base := w.heap.size) (ok := fun k_ => some k_ ≠ (.slice Ao12 t490.length co12 : Value).ownBlock) (n := t494.length) (c := co14) ?_).2.2; exact (by (with_reducible repeat (first | apply Kd.R_alloc | apply Kd.R_drewN | apply Kd.R_drew)); exact (Kd.R_mono (Kd.R_far (p := ⟨gb497, 1, none⟩) (Kd.R_far (p := ⟨gb497, 0, none⟩) (Kd.R_types HO496.out BK497.out (by decide)) (fun _ hk => hk.2) (.slice Ao12 t490.length co12)) (fun _ hk => hk.2) (.int .i64 t493)) (fun _ h_ => h_.1)))); (case side4 => exact (Kd.R_reads' HO496.out).2.1); rintro e w15 ⟨v499, rfl, ho0, hb⟩; refine ⟨_, rfl, ?_⟩; have HO500 := Aside0.mk (Kd.R_lower (Kd.R_new' (Kd.R_new' ho0 (Kd.R_lt (by (with_reducible repeat (first | apply Kd.R_alloc | apply Kd.R_drewN | apply Kd.R_drew)); exact (Kd.R_mono (Kd.R_far (p := ⟨gb497, 1, none⟩) (Kd.R_far (p := ⟨gb497, 0, none⟩) (Kd.R_types HO492.out BK497.out (by decide)) (fun _ hk => hk.2) (.slice Ao12 t490.length co12)) (fun _ hk => hk.2) (.int .i64 t493)) (fun _ h_ => h_.1))))) (Kd.R_lt (by (with_reducible repeat (first | apply Kd.R_alloc | apply Kd.R_drewN | apply Kd.R_drew)); exact (Kd.R_mono (Kd.R_far (p := ⟨gb497, 1, none⟩) (Kd.R_far (p := ⟨gb497, 0, none⟩) (Kd.R_types HO496.out BK497.out (by decide)) (fun _ hk => hk.2) (.slice Ao12 t490.length co12)) (fun _ hk => hk.2) (.int .i64 t493)) (fun _ h_ => h_.1))))) (below_size (zb HB))); replace HO492 := Aside0.mk (Kd.R_elder' (by (with_reducible repeat (first | apply Kd.R_alloc | apply Kd.R_drewN | apply Kd.R_drew)); exact (Kd.R_mono (Kd.R_far (p := ⟨gb497, 1, none⟩) (Kd.R_far (p := ⟨gb497, 0, none⟩) (Kd.R_types HO492.out BK497.out (by decide)) (fun _ hk => hk.2) (.slice Ao12 t490.length co12)) (fun _ hk => hk.2) (.int .i64 t493)) (fun _ h_ => h_.1))) (Kd.R_base ho0) hb); replace HO496 := Aside0.mk (Kd.R_elder' (by (with_reducible repeat (first | apply Kd.R_alloc | apply Kd.R_drewN | apply Kd.R_drew)); exact (Kd.R_mono (Kd.R_far (p := ⟨gb497, 1, none⟩) (Kd.R_far (p := ⟨gb497, 0, none⟩) (Kd.R_types HO496.out BK497.out (by decide)) (fun _ hk => hk.2) (.slice Ao12 t490.length co12)) (fun _ hk => hk.2) (.int .i64 t493)) (fun _ h_ => h_.1))) (Kd.R_base ho0) hb); replace BK497 := Aside0.mk (blk_below (g := gb497) (o := .cells #[.slice Ao12 t490.length co12, .int .i64 t493] 25 (0, 0)) (by (with_reducible repeat (first | refine blk_drewN ?_ _ | refine blk_drew ?_ | refine blk_alloc ?_ _)); refine blk_put (cs := #[.slice Ao12 t490.length co12, .int .i64 0]) ?_ 1 _ rfl; (with_reducible repeat (first | refine blk_drewN ?_ _ | refine blk_drew ?_ | refine blk_alloc ?_ _)); refine blk_put (cs := #[.slice none 0 0, .int .i64 0]) ?_ 0 _ rfl; exact zk BK497) hb); replace HB := Aside0.mk (below_step (zb HB) hb); (try clear hb); (try clear hk); (try clear ho0)) | ((with_reducible refine gd 7 rfl ?_); (try (refine gate_guard (by rfl) ?_; dsimp only)); refine bx (N := 7) (cs := #[.slice none 0 0, .int .i64 0]) (t := 25) ?_; intro gb503 hg w16 hbox hb; replace HO492 := Aside0.mk (Kd.R_below (zr HO492) hb); replace HO496 := Aside0.mk (Kd.R_below (zr HO496) hb); replace HO500 := Aside0.mk (Kd.R_below (zr HO500) hb); have BK503 := Aside0.mk (hbox); have GW503 := Aside0.mk ((by rw [hg]; exact (below_size (zb HB)) : w.heap.size ≤ gb503)); have GE503 := Aside0.mk ((by rw [hg]; exact (below_size (zb HB)) : w.heap.size ≤ gb503)); replace HB := Aside0.mk (below_step (zb HB) hb); have NB497_503 := Aside0.mk ((by rw [hg]; exact Nat.ne_of_lt (blk_lt (g := gb497) (o := .cells #[.slice Ao12 t490.length co12, .int .i64 t493] 25 (0, 0)) (zk BK497)) : gb497 ≠ gb503)); have NB503_497 := Aside0.mk ((by rw [hg]; exact Nat.ne_of_gt (blk_lt (g := gb497) (o := .cells #[.slice Ao12 t490.length co12, .int .i64 t493] 25 (0, 0)) (zk BK497)) : gb503 ≠ gb497)); replace BK497 := Aside0.mk (blk_below (g := gb497) (o := .cells #[.slice Ao12 t490.length co12, .int .i64 t493] 25 (0, 0)) (zk BK497) hb); clear hb hbox hg; obtain ⟨Ao17, co17, eo17⟩ := Kd.R_slice HO500.out; subst eo17; have hnb18 := NB503_497.out; have hnc18 := NB497_503.out; have hcz19_0 : w16.cell? ⟨gb503, 0, none⟩ = some (.slice none 0 0) := (blk_cell BK503.out 0).trans rfl; have hcz19_1 : w16.cell? ⟨gb503, 1, none⟩ = some (.int .i64 0) := (blk_cell BK503.out 1).trans rfl; have hfz19_0 := blk_frozen BK503.out 0; have hfz19_1 := blk_frozen BK503.out 1; have hcz20_0 : w16.cell? ⟨gb497, 0, none⟩ = some (.slice Ao12 t490.length co12) := (blk_cell BK497.out 0).trans rfl; have hcz20_1 : w16.cell? ⟨gb497, 1, none⟩ = some (.int .i64 t493) := (blk_cell BK497.out 1).trans rfl; have hfz20_0 := blk_frozen BK497.out 0; have hfz20_1 := blk_frozen BK497.out 1) | ((with_reducible refine gq 39 rfl ?_); refine gl (some 38) Try.func39 #[.agg #[.slice Ao12 t490.length co12, .int .i64 t493], .slice Ao14 t494.length co14] ?_; (with_reducible refine (impl_HeadWrite.calls kj2 _ _ t490 t493 _ _ t494 t504 t507 t508 _ ?side1 ?side2 ?side3 ?side4 A8.out).mono ?_); (case side1 => refine (Kd.R_reads' (e := 36) (base := w.heap.size) (ok := fun k_ => (some k_ ≠ (.slice Ao14 t494.length co14 : Value).ownBlock ∧ some k_ ≠ (.slice Ao17 t498.length co17 : Value).ownBlock)) (n := t490.length) (c := co12) ?_).2.2; exact (by (with_reducible repeat (first | apply Kd.R_alloc | apply Kd.R_drewN | apply Kd.R_drew)); exact (Kd.R_mono (Kd.R_far (p := ⟨gb503, 1, none⟩) (Kd.R_far (p := ⟨gb503, 0, none⟩) (Kd.R_types HO492.out BK503.out (by decide)) (fun _ hk => hk.2) (.slice Ao17 t498.length co17)) (fun _ hk => hk.2) (.int .i64 t501)) (fun _ h_ => h_.1)))); (case side2 => exact (Kd.R_reads' HO492.out).2.1); (case side3 => refine (Kd.R_reads' (e := 36) (base := w.heap.size) (ok := fun k_ => (some k_ ≠ (.slice Ao12 t490.length co12 : Value).ownBlock ∧ some k_ ≠ (.slice Ao17 t498.length co17 : Value).ownBlock)) (n := t494.length) (c := co14) ?_).2.2; exact (by (with_reducible repeat (first | apply Kd.R_alloc | apply Kd.R_drewN | apply Kd.R_drew)); exact (Kd.R_mono (Kd.R_far (p := ⟨gb503, 1, none⟩) (Kd.R_far (p := ⟨gb503, 0, none⟩) (Kd.R_types HO496.out BK503.out (by decide)) (fun _ hk => hk.2) (.slice Ao17 t498.length co17)) (fun _ hk => hk.2) (.int .i64 t501)) (fun _ h_ => h_.1)))); (case side4 => exact (Kd.R_reads' HO496.out).2.1); rintro e w21 ⟨v505, rfl, ho0, hb⟩; refine ⟨_, rfl, ?_⟩; have HO506 := Aside0.mk (Kd.R_lower (Kd.R_new' (Kd.R_new' (Kd.R_new' ho0 (Kd.R_lt (by (with_reducible repeat (first | apply Kd.R_alloc | apply Kd.R_drewN | apply Kd.R_drew)); exact (Kd.R_mono (Kd.R_far (p := ⟨gb503, 1, none⟩) (Kd.R_far (p := ⟨gb503, 0, none⟩) (Kd.R_types HO492.out BK503.out (by decide)) (fun _ hk => hk.2) (.slice Ao17 t498.length co17)) (fun _ hk => hk.2) (.int .i64 t501)) (fun _ h_ => h_.1))))) (Kd.R_lt (by (with_reducible repeat (first | apply Kd.R_alloc | apply Kd.R_drewN | apply Kd.R_drew)); exact (Kd.R_mono (Kd.R_far (p := ⟨gb503, 1, none⟩) (Kd.R_far (p := ⟨gb503, 0, none⟩) (Kd.R_types HO496.out BK503.out (by decide)) (fun _ hk => hk.2) (.slice Ao17 t498.length co17)) (fun _ hk => hk.2) (.int .i64 t501)) (fun _ h_ => h_.1))))) (Kd.R_lt (by (with_reducible repeat (first | apply Kd.R_alloc | apply Kd.R_drewN | apply Kd.R_drew)); exact (Kd.R_mono (Kd.R_far (p := ⟨gb503, 1, none⟩) (Kd.R_far (p := ⟨gb503, 0, none⟩) (Kd.R_types HO500.out BK503.out (by decide)) (fun _ hk => hk.2) (.slice Ao17 t498.length co17)) (fun _ hk => hk.2) (.int .i64 t501)) (fun _ h_ => h_.1))))) (below_size (zb HB))); replace HO492 := Aside0.mk (Kd.R_elder' (by (with_reducible repeat (first | apply Kd.R_alloc | apply Kd.R_drewN | apply Kd.R_drew)); exact (Kd.R_mono (Kd.R_far (p := ⟨gb503, 1, none⟩) (Kd.R_far (p := ⟨gb503, 0, none⟩) (Kd.R_types HO492.out BK503.out (by decide)) (fun _ hk => hk.2) (.slice Ao17 t498.length co17)) (fun _ hk => hk.2) (.int .i64 t501)) (fun _ h_ => h_.1))) (Kd.R_base ho0) hb); replace HO496 := Aside0.mk (Kd.R_elder' (by (with_reducible repeat (first | apply Kd.R_alloc | apply Kd.R_drewN | apply Kd.R_drew)); exact (Kd.R_mono (Kd.R_far (p := ⟨gb503, 1, none⟩) (Kd.R_far (p := ⟨gb503, 0, none⟩) (Kd.R_types HO496.out BK503.out (by decide)) (fun _ hk => hk.2) (.slice Ao17 t498.length co17)) (fun _ hk => hk.2) (.int .i64 t501)) (fun _ h_ => h_.1))) (Kd.R_base ho0) hb); replace HO500 := Aside0.mk (Kd.R_elder' (by (with_reducible repeat (first | apply Kd.R_alloc | apply Kd.R_drewN | apply Kd.R_drew)); exact (Kd.R_mono (Kd.R_far (p := ⟨gb503, 1, none⟩) (Kd.R_far (p := ⟨gb503, 0, none⟩) (Kd.R_types HO500.out BK503.out (by decide)) (fun _ hk => hk.2) (.slice Ao17 t498.length co17)) (fun _ hk => hk.2) (.int .i64 t501)) (fun _ h_ => h_.1))) (Kd.R_base ho0) hb); replace BK497 := Aside0.mk (blk_below (g := gb497) (o := .cells #[.slice Ao12 t490.length co12, .int .i64 t493] 25 (0, 0)) (by (with_reducible repeat (first | refine blk_drewN ?_ _ | refine blk_drew ?_ | refine blk_alloc ?_ _)); refine blk_far ?_ NB497_503.out _; (with_reducible repeat (first | refine blk_drewN ?_ _ | refine blk_drew ?_ | refine blk_alloc ?_ _)); refine blk_far ?_ NB497_503.out _; exact zk BK497) hb); replace BK503 := Aside0.mk (blk_below (g := gb503) (o := .cells #[.slice Ao17 t498.length co17, .int .i64 t501] 25 (0, 0)) (by (with_reducible repeat (first | refine blk_drewN ?_ _ | refine blk_drew ?_ | refine blk_alloc ?_ _)); refine blk_put (cs := #[.slice Ao17 t498.length co17, .int .i64 0]) ?_ 1 _ rfl; (with_reducible repeat (first | refine blk_drewN ?_ _ | refine blk_drew ?_ | refine blk_alloc ?_ _)); refine blk_put (cs := #[.slice none 0 0, .int .i64 0]) ?_ 0 _ rfl; exact zk BK503) hb); replace HB := Aside0.mk (below_step (zb HB) hb); (try clear hb); (try clear hk); (try clear ho0)) | ((with_reducible refine gd 9 rfl ?_); (try (refine gate_guard (by rfl) ?_; dsimp only)); refine bx (N := 9) (cs := #[.slice none 0 0, .int .i64 0]) (t := 25) ?_; intro gb509 hg w22 hbox hb; replace HO492 := Aside0.mk (Kd.R_below (zr HO492) hb); replace HO496 := Aside0.mk (Kd.R_below (zr HO496) hb); replace HO500 := Aside0.mk (Kd.R_below (zr HO500) hb); replace HO506 := Aside0.mk (Kd.R_below (zr HO506) hb); have BK509 := Aside0.mk (hbox); have GW509 := Aside0.mk ((by rw [hg]; exact (below_size (zb HB)) : w.heap.size ≤ gb509)); have GE509 := Aside0.mk ((by rw [hg]; exact (below_size (zb HB)) : w.heap.size ≤ gb509)); replace HB := Aside0.mk (below_step (zb HB) hb); have NB497_509 := Aside0.mk ((by rw [hg]; exact Nat.ne_of_lt (blk_lt (g := gb497) (o := .cells #[.slice Ao12 t490.length co12, .int .i64 t493] 25 (0, 0)) (zk BK497)) : gb497 ≠ gb509)); have NB509_497 := Aside0.mk ((by rw [hg]; exact Nat.ne_of_gt (blk_lt (g := gb497) (o := .cells #[.slice Ao12 t490.length co12, .int .i64 t493] 25 (0, 0)) (zk BK497)) : gb509 ≠ gb497)); replace BK497 := Aside0.mk (blk_below (g := gb497) (o := .cells #[.slice Ao12 t490.length co12, .int .i64 t493] 25 (0, 0)) (zk BK497) hb); have NB503_509 := Aside0.mk ((by rw [hg]; exact Nat.ne_of_lt (blk_lt (g := gb503) (o := .cells #[.slice Ao17 t498.length co17, .int .i64 t501] 25 (0, 0)) (zk BK503)) : gb503 ≠ gb509)); have NB509_503 := Aside0.mk ((by rw [hg]; exact Nat.ne_of_gt (blk_lt (g := gb503) (o := .cells #[.slice Ao17 t498.length co17, .int .i64 t501] 25 (0, 0)) (zk BK503)) : gb509 ≠ gb503)); replace BK503 := Aside0.mk (blk_below (g := gb503) (o := .cells #[.slice Ao17 t498.length co17, .int .i64 t501] 25 (0, 0)) (zk BK503) hb); clear hb hbox hg; obtain ⟨Ao23, co23, eo23⟩ := Kd.R_slice HO506.out; subst eo23; have hnb24 := NB509_497.out; have hnc24 := NB497_509.out; have hnb25 := NB509_503.out; have hnc25 := NB503_509.out; have hcz26_0 : w22.cell? ⟨gb509, 0, none⟩ = some (.slice none 0 0) := (blk_cell BK509.out 0).trans rfl; have hcz26_1 : w22.cell? ⟨gb509, 1, none⟩ = some (.int .i64 0) := (blk_cell BK509.out 1).trans rfl; have hfz26_0 := blk_frozen BK509.out 0; have hfz26_1 := blk_frozen BK509.out 1))
    (try simp only [Act.put, s1, s2, s3])
    go_cut [59] (fun v59 wc => ∃ (kq : Nat) (x59_8 : Bool), v59 = .bool x59_8 ∧ Aside0 (laws_FnHeadCut.j1 kq l1 t494 t502 t508 x59_8 t490 t493 t498 t501 t504 t507 = some r) ∧ Aside0 (kq ≤ kj2) ∧ Aside0 (Kd.R k36 36 wc w.heap.size (fun k_ => some k_ ≠ ((.slice Ao12 t490.length co12) : Value).ownBlock ∧ some k_ ≠ ((.slice Ao17 t498.length co17) : Value).ownBlock ∧ some k_ ≠ ((.slice Ao23 t504.length co23) : Value).ownBlock) (.slice Ao14 t494.length co14) t494) ∧ Aside0 (Kd.R k36 36 wc w.heap.size (fun k_ => some k_ ≠ ((.slice Ao14 t494.length co14) : Value).ownBlock ∧ some k_ ≠ ((.slice Ao17 t498.length co17) : Value).ownBlock ∧ some k_ ≠ ((.slice Ao23 t504.length co23) : Value).ownBlock) (.slice Ao12 t490.length co12) t490) ∧ Aside0 (Kd.R k36 36 wc w.heap.size (fun k_ => some k_ ≠ ((.slice Ao14 t494.length co14) : Value).ownBlock ∧ some k_ ≠ ((.slice Ao12 t490.length co12) : Value).ownBlock ∧ some k_ ≠ ((.slice Ao23 t504.length co23) : Value).ownBlock) (.slice Ao17 t498.length co17) t498) ∧ Aside0 (Kd.R k36 36 wc w.heap.size (fun k_ => some k_ ≠ ((.slice Ao14 t494.length co14) : Value).ownBlock ∧ some k_ ≠ ((.slice Ao12 t490.length co12) : Value).ownBlock ∧ some k_ ≠ ((.slice Ao17 t498.length co17) : Value).ownBlock) (.slice Ao23 t504.length co23) t504) ∧ Aside0 (wc.heap[gb497]? = some (.cells #[(.slice Ao12 t490.length co12), .int .i64 t493] 25 (0, 0))) ∧ Aside0 (wc.heap[gb503]? = some (.cells #[(.slice Ao17 t498.length co17), .int .i64 t501] 25 (0, 0))) ∧ Aside0 (wc.heap[gb509]? = some (.cells #[(.slice Ao23 t504.length co23), .int .i64 t507] 25 (0, 0))) ∧ Aside0 (Below w.heap.size w wc))
    case first =>
     have H := HC9.out
     clear HC9
     by_cases c27 : t508.toList = t502.toList
     ·rw [if_pos c27] at H
      have c27b0 : (t508.toList == t502.toList) = true := beq_iff_eq.mpr c27
      have c27b1 : (t508.toList != t502.toList) = false := bne_eq_false_iff_eq.mpr c27
      clear c27
      (first | rw [c27b0] | rw [c27b1] | (simp only [i64_w, i32_w]; rw [c27b0]) | skip)
      replace H := Option.bind_eq_some_iff.mp H
      obtain ⟨t510, A280, H⟩ := H
      replace H : (if t510 = true then ((spec_TableOk.f kj2 t490 t493).bind fun t511 => (if t511 = true then ((spec_HeadOk.f kj2 t494).bind fun t512 => (laws_FnHeadCut.j1 kj2 l1 t494 t502 t508 (!t512) t490 t493 t498 t501 t504 t507)) else (laws_FnHeadCut.j1 kj2 l1 t494 t502 t508 true t490 t493 t498 t501 t504 t507))) else (laws_FnHeadCut.j1 kj2 l1 t494 t502 t508 true t490 t493 t498 t501 t504 t507)) = some r := H
      have A28 := Aside0.mk A280
      clear A280
      by_cases c29 : t510 = true
      ·subst c29
       have H1 : ((spec_TableOk.f kj2 t490 t493).bind fun t511 => (if t511 = true then ((spec_HeadOk.f kj2 t494).bind fun t512 => (laws_FnHeadCut.j1 kj2 l1 t494 t502 t508 (!t512) t490 t493 t498 t501 t504 t507)) else (laws_FnHeadCut.j1 kj2 l1 t494 t502 t508 true t490 t493 t498 t501 t504 t507))) = some r := by rw [if_pos rfl] at H; exact H
       clear H
       have H := H1
       clear H1
       replace H := Option.bind_eq_some_iff.mp H
       obtain ⟨t511, A300, H⟩ := H
       replace H : (if t511 = true then ((spec_HeadOk.f kj2 t494).bind fun t512 => (laws_FnHeadCut.j1 kj2 l1 t494 t502 t508 (!t512) t490 t493 t498 t501 t504 t507)) else (laws_FnHeadCut.j1 kj2 l1 t494 t502 t508 true t490 t493 t498 t501 t504 t507)) = some r := H
       have A30 := Aside0.mk A300
       clear A300
       by_cases c31 : t511 = true
       ·subst c31
        have H1 : ((spec_HeadOk.f kj2 t494).bind fun t512 => (laws_FnHeadCut.j1 kj2 l1 t494 t502 t508 (!t512) t490 t493 t498 t501 t504 t507)) = some r := by rw [if_pos rfl] at H; exact H
        clear H
        have H := H1
        clear H1
        replace H := Option.bind_eq_some_iff.mp H
        obtain ⟨t512, A320, H⟩ := H
        replace H : (laws_FnHeadCut.j1 kj2 l1 t494 t502 t508 (!t512) t490 t493 t498 t501 t504 t507) = some r := H
        have A32 := Aside0.mk A320
        clear A320
        have H' := Aside0.mk H
        clear H
        have hnb33 := NB509_497.out
        have hnc33 := NB497_509.out
        have hnb34 := NB509_503.out
        have hnc34 := NB503_509.out
        have hcz35_0 : w22.cell? ⟨gb509, 0, none⟩ = some (.slice none 0 0) := (blk_cell BK509.out 0).trans rfl
        have hcz35_1 : w22.cell? ⟨gb509, 1, none⟩ = some (.int .i64 0) := (blk_cell BK509.out 1).trans rfl
        have hfz35_0 := blk_frozen BK509.out 0
        have hfz35_1 := blk_frozen BK509.out 1
        have hnb36 := NB503_497.out
        have hnc36 := NB497_503.out
        have hcz37_0 : w22.cell? ⟨gb503, 0, none⟩ = some (.slice Ao17 t498.length co17) := (blk_cell BK503.out 0).trans rfl
        have hcz37_1 : w22.cell? ⟨gb503, 1, none⟩ = some (.int .i64 t501) := (blk_cell BK503.out 1).trans rfl
        have hfz37_0 := blk_frozen BK503.out 0
        have hfz37_1 := blk_frozen BK503.out 1
        go_wp2_with (first | (go_at_call 17; (with_reducible refine (laws_lkTable.calls kj2 _ _ t504 t507 _ _ t498 t501 true _ ?side1 ?side2 ?side3 ?side4 A28.out).mono ?_); (case side1 => refine (Kd.R_reads' (e := 36) (base := w.heap.size) (ok := fun k_ => (((True ∧ some k_ ≠ (.slice Ao12 t490.length co12 : Value).ownBlock) ∧ some k_ ≠ (.slice Ao14 t494.length co14 : Value).ownBlock) ∧ some k_ ≠ (.slice Ao17 t498.length co17 : Value).ownBlock)) (n := t504.length) (c := co23) ?_).2.2; exact (by (with_reducible repeat (first | apply Kd.R_alloc | apply Kd.R_drewN | apply Kd.R_drew)); exact (Kd.R_mono (Kd.R_far (p := ⟨gb509, 1, none⟩) (Kd.R_far (p := ⟨gb509, 0, none⟩) (Kd.R_types HO506.out BK509.out (by decide)) (fun _ hk => hk.2) (.slice Ao23 t504.length co23)) (fun _ hk => hk.2) (.int .i64 t507)) (fun _ h_ => h_.1)))); (case side2 => exact (Kd.R_reads' HO506.out).2.1); (case side3 => refine (Kd.R_reads' (e := 36) (base := w.heap.size) (ok := fun k_ => (((True ∧ some k_ ≠ (.slice Ao12 t490.length co12 : Value).ownBlock) ∧ some k_ ≠ (.slice Ao14 t494.length co14 : Value).ownBlock) ∧ some k_ ≠ (.slice Ao23 t504.length co23 : Value).ownBlock)) (n := t498.length) (c := co17) ?_).2.2; exact (by (with_reducible repeat (first | apply Kd.R_alloc | apply Kd.R_drewN | apply Kd.R_drew)); exact (Kd.R_mono (Kd.R_far (p := ⟨gb509, 1, none⟩) (Kd.R_far (p := ⟨gb509, 0, none⟩) (Kd.R_types HO500.out BK509.out (by decide)) (fun _ hk => hk.2) (.slice Ao23 t504.length co23)) (fun _ hk => hk.2) (.int .i64 t507)) (fun _ h_ => h_.1)))); (case side4 => exact (Kd.R_reads' HO500.out).2.1); rintro e w38 ⟨rfl, hb⟩; replace HO492 := Aside0.mk (Kd.R_below (by (with_reducible repeat (first | apply Kd.R_alloc | apply Kd.R_drewN | apply Kd.R_drew)); exact (Kd.R_mono (Kd.R_far (p := ⟨gb509, 1, none⟩) (Kd.R_far (p := ⟨gb509, 0, none⟩) (Kd.R_types HO492.out BK509.out (by decide)) (fun _ hk => hk.2) (.slice Ao23 t504.length co23)) (fun _ hk => hk.2) (.int .i64 t507)) (fun _ h_ => h_.1))) hb); replace HO496 := Aside0.mk (Kd.R_below (by (with_reducible repeat (first | apply Kd.R_alloc | apply Kd.R_drewN | apply Kd.R_drew)); exact (Kd.R_mono (Kd.R_far (p := ⟨gb509, 1, none⟩) (Kd.R_far (p := ⟨gb509, 0, none⟩) (Kd.R_types HO496.out BK509.out (by decide)) (fun _ hk => hk.2) (.slice Ao23 t504.length co23)) (fun _ hk => hk.2) (.int .i64 t507)) (fun _ h_ => h_.1))) hb); replace HO500 := Aside0.mk (Kd.R_below (by (with_reducible repeat (first | apply Kd.R_alloc | apply Kd.R_drewN | apply Kd.R_drew)); exact (Kd.R_mono (Kd.R_far (p := ⟨gb509, 1, none⟩) (Kd.R_far (p := ⟨gb509, 0, none⟩) (Kd.R_types HO500.out BK509.out (by decide)) (fun _ hk => hk.2) (.slice Ao23 t504.length co23)) (fun _ hk => hk.2) (.int .i64 t507)) (fun _ h_ => h_.1))) hb); replace HO506 := Aside0.mk (Kd.R_below (by (with_reducible repeat (first | apply Kd.R_alloc | apply Kd.R_drewN | apply Kd.R_drew)); exact (Kd.R_mono (Kd.R_far (p := ⟨gb509, 1, none⟩) (Kd.R_far (p := ⟨gb509, 0, none⟩) (Kd.R_types HO506.out BK509.out (by decide)) (fun _ hk => hk.2) (.slice Ao23 t504.length co23)) (fun _ hk => hk.2) (.int .i64 t507)) (fun _ h_ => h_.1))) hb); replace BK497 := Aside0.mk (blk_below (g := gb497) (o := .cells #[.slice Ao12 t490.length co12, .int .i64 t493] 25 (0, 0)) (by (with_reducible repeat (first | refine blk_drewN ?_ _ | refine blk_drew ?_ | refine blk_alloc ?_ _)); refine blk_far ?_ NB497_509.out _; (with_reducible repeat (first | refine blk_drewN ?_ _ | refine blk_drew ?_ | refine blk_alloc ?_ _)); refine blk_far ?_ NB497_509.out _; exact zk BK497) hb); replace BK503 := Aside0.mk (blk_below (g := gb503) (o := .cells #[.slice Ao17 t498.length co17, .int .i64 t501] 25 (0, 0)) (by (with_reducible repeat (first | refine blk_drewN ?_ _ | refine blk_drew ?_ | refine blk_alloc ?_ _)); refine blk_far ?_ NB503_509.out _; (with_reducible repeat (first | refine blk_drewN ?_ _ | refine blk_drew ?_ | refine blk_alloc ?_ _)); refine blk_far ?_ NB503_509.out _; exact zk BK503) hb); replace BK509 := Aside0.mk (blk_below (g := gb509) (o := .cells #[.slice Ao23 t504.length co23, .int .i64 t507] 25 (0, 0)) (by (with_reducible repeat (first | refine blk_drewN ?_ _ | refine blk_drew ?_ | refine blk_alloc ?_ _)); refine blk_put (cs := #[.slice Ao23 t504.length co23, .int .i64 0]) ?_ 1 _ rfl; (with_reducible repeat (first | refine blk_drewN ?_ _ | refine blk_drew ?_ | refine blk_alloc ?_ _)); refine blk_put (cs := #[.slice none 0 0, .int .i64 0]) ?_ 0 _ rfl; exact zk BK509) hb); replace HB := Aside0.mk (below_step (zb HB) hb); (try clear hb); (try clear hk); have hcz39_0 : w38.cell? ⟨gb497, 0, none⟩ = some (.slice Ao12 t490.length co12) := (blk_cell BK497.out 0).trans rfl; have hcz39_1 : w38.cell? ⟨gb497, 1, none⟩ = some (.int .i64 t493) := (blk_cell BK497.out 1).trans rfl; have hfz39_0 := blk_frozen BK497.out 0; have hfz39_1 := blk_frozen BK497.out 1) | (go_at_call 19; (with_reducible refine (spec_TableOk.calls kj2 _ _ t490 t493 true _ ?side1 ?side2 A30.out).mono ?_); (case side1 => exact zc (Kd.R_reads' HO492.out).2.2); (case side2 => exact (Kd.R_reads' HO492.out).2.1); rintro e w40 ⟨rfl, hb⟩; replace HO492 := Aside0.mk (Kd.R_below (zr HO492) hb); replace HO496 := Aside0.mk (Kd.R_below (zr HO496) hb); replace HO500 := Aside0.mk (Kd.R_below (zr HO500) hb); replace HO506 := Aside0.mk (Kd.R_below (zr HO506) hb); replace BK497 := Aside0.mk (blk_below (g := gb497) (o := .cells #[.slice Ao12 t490.length co12, .int .i64 t493] 25 (0, 0)) (zk BK497) hb); replace BK503 := Aside0.mk (blk_below (g := gb503) (o := .cells #[.slice Ao17 t498.length co17, .int .i64 t501] 25 (0, 0)) (zk BK503) hb); replace BK509 := Aside0.mk (blk_below (g := gb509) (o := .cells #[.slice Ao23 t504.length co23, .int .i64 t507] 25 (0, 0)) (zk BK509) hb); replace HB := Aside0.mk (below_step (zb HB) hb); (try clear hb)) | (go_at_call 40; (with_reducible refine (spec_HeadOk.calls kj2 _ _ t494 t512 _ ?side1 ?side2 A32.out).mono ?_); (case side1 => exact zc (Kd.R_reads' HO496.out).2.2); (case side2 => exact (Kd.R_reads' HO496.out).2.1); rintro e w41 ⟨rfl, hb⟩; replace HO492 := Aside0.mk (Kd.R_below (zr HO492) hb); replace HO496 := Aside0.mk (Kd.R_below (zr HO496) hb); replace HO500 := Aside0.mk (Kd.R_below (zr HO500) hb); replace HO506 := Aside0.mk (Kd.R_below (zr HO506) hb); replace BK497 := Aside0.mk (blk_below (g := gb497) (o := .cells #[.slice Ao12 t490.length co12, .int .i64 t493] 25 (0, 0)) (zk BK497) hb); replace BK503 := Aside0.mk (blk_below (g := gb503) (o := .cells #[.slice Ao17 t498.length co17, .int .i64 t501] 25 (0, 0)) (zk BK503) hb); replace BK509 := Aside0.mk (blk_below (g := gb509) (o := .cells #[.slice Ao23 t504.length co23, .int .i64 t507] 25 (0, 0)) (zk BK509) hb); replace HB := Aside0.mk (below_step (zb HB) hb); (try clear hb)))
        go_meet
        case rel => exact ⟨_, (!t512), zs, H', ⟨by have := HJ2.out; first | omega | exact Nat.le_refl _⟩, ⟨by (with_reducible repeat (first | apply Kd.R_alloc | apply Kd.R_drewN | apply Kd.R_drew)); exact Kd.R_mono HO496.out (fun _ hk => ⟨hk.1.1, ⟨hk.1.2, hk.2⟩⟩)⟩, ⟨by (with_reducible repeat (first | apply Kd.R_alloc | apply Kd.R_drewN | apply Kd.R_drew)); exact Kd.R_mono HO492.out (fun _ hk => ⟨hk.1.1, ⟨hk.1.2, hk.2⟩⟩)⟩, ⟨by (with_reducible repeat (first | apply Kd.R_alloc | apply Kd.R_drewN | apply Kd.R_drew)); exact Kd.R_mono HO500.out (fun _ hk => ⟨hk.1.2, ⟨hk.1.1.2, hk.2⟩⟩)⟩, ⟨by (with_reducible repeat (first | apply Kd.R_alloc | apply Kd.R_drewN | apply Kd.R_drew)); exact Kd.R_mono HO506.out (fun _ hk => ⟨hk.1.2, ⟨hk.1.1.2, hk.2⟩⟩)⟩, ⟨by exact zk BK497⟩, ⟨by exact zk BK503⟩, ⟨by exact zk BK509⟩, ⟨zb HB⟩⟩
       ·replace c31 := Bool.eq_false_iff.mpr c31
        subst c31
        have H1 : (laws_FnHeadCut.j1 kj2 l1 t494 t502 t508 true t490 t493 t498 t501 t504 t507) = some r := by rw [if_neg (show ¬ (false = true) by decide)] at H; exact H
        clear H
        have H := H1
        clear H1
        have H' := Aside0.mk H
        clear H
        have hnb42 := NB509_497.out
        have hnc42 := NB497_509.out
        have hnb43 := NB509_503.out
        have hnc43 := NB503_509.out
        have hcz44_0 : w22.cell? ⟨gb509, 0, none⟩ = some (.slice none 0 0) := (blk_cell BK509.out 0).trans rfl
        have hcz44_1 : w22.cell? ⟨gb509, 1, none⟩ = some (.int .i64 0) := (blk_cell BK509.out 1).trans rfl
        have hfz44_0 := blk_frozen BK509.out 0
        have hfz44_1 := blk_frozen BK509.out 1
        have hnb45 := NB503_497.out
        have hnc45 := NB497_503.out
        have hcz46_0 : w22.cell? ⟨gb503, 0, none⟩ = some (.slice Ao17 t498.length co17) := (blk_cell BK503.out 0).trans rfl
        have hcz46_1 : w22.cell? ⟨gb503, 1, none⟩ = some (.int .i64 t501) := (blk_cell BK503.out 1).trans rfl
        have hfz46_0 := blk_frozen BK503.out 0
        have hfz46_1 := blk_frozen BK503.out 1
        go_wp2_with (first | (go_at_call 17; (with_reducible refine (laws_lkTable.calls kj2 _ _ t504 t507 _ _ t498 t501 true _ ?side1 ?side2 ?side3 ?side4 A28.out).mono ?_); (case side1 => refine (Kd.R_reads' (e := 36) (base := w.heap.size) (ok := fun k_ => (((True ∧ some k_ ≠ (.slice Ao12 t490.length co12 : Value).ownBlock) ∧ some k_ ≠ (.slice Ao14 t494.length co14 : Value).ownBlock) ∧ some k_ ≠ (.slice Ao17 t498.length co17 : Value).ownBlock)) (n := t504.length) (c := co23) ?_).2.2; exact (by (with_reducible repeat (first | apply Kd.R_alloc | apply Kd.R_drewN | apply Kd.R_drew)); exact (Kd.R_mono (Kd.R_far (p := ⟨gb509, 1, none⟩) (Kd.R_far (p := ⟨gb509, 0, none⟩) (Kd.R_types HO506.out BK509.out (by decide)) (fun _ hk => hk.2) (.slice Ao23 t504.length co23)) (fun _ hk => hk.2) (.int .i64 t507)) (fun _ h_ => h_.1)))); (case side2 => exact (Kd.R_reads' HO506.out).2.1); (case side3 => refine (Kd.R_reads' (e := 36) (base := w.heap.size) (ok := fun k_ => (((True ∧ some k_ ≠ (.slice Ao12 t490.length co12 : Value).ownBlock) ∧ some k_ ≠ (.slice Ao14 t494.length co14 : Value).ownBlock) ∧ some k_ ≠ (.slice Ao23 t504.length co23 : Value).ownBlock)) (n := t498.length) (c := co17) ?_).2.2; exact (by (with_reducible repeat (first | apply Kd.R_alloc | apply Kd.R_drewN | apply Kd.R_drew)); exact (Kd.R_mono (Kd.R_far (p := ⟨gb509, 1, none⟩) (Kd.R_far (p := ⟨gb509, 0, none⟩) (Kd.R_types HO500.out BK509.out (by decide)) (fun _ hk => hk.2) (.slice Ao23 t504.length co23)) (fun _ hk => hk.2) (.int .i64 t507)) (fun _ h_ => h_.1)))); (case side4 => exact (Kd.R_reads' HO500.out).2.1); rintro e w47 ⟨rfl, hb⟩; replace HO492 := Aside0.mk (Kd.R_below (by (with_reducible repeat (first | apply Kd.R_alloc | apply Kd.R_drewN | apply Kd.R_drew)); exact (Kd.R_mono (Kd.R_far (p := ⟨gb509, 1, none⟩) (Kd.R_far (p := ⟨gb509, 0, none⟩) (Kd.R_types HO492.out BK509.out (by decide)) (fun _ hk => hk.2) (.slice Ao23 t504.length co23)) (fun _ hk => hk.2) (.int .i64 t507)) (fun _ h_ => h_.1))) hb); replace HO496 := Aside0.mk (Kd.R_below (by (with_reducible repeat (first | apply Kd.R_alloc | apply Kd.R_drewN | apply Kd.R_drew)); exact (Kd.R_mono (Kd.R_far (p := ⟨gb509, 1, none⟩) (Kd.R_far (p := ⟨gb509, 0, none⟩) (Kd.R_types HO496.out BK509.out (by decide)) (fun _ hk => hk.2) (.slice Ao23 t504.length co23)) (fun _ hk => hk.2) (.int .i64 t507)) (fun _ h_ => h_.1))) hb); replace HO500 := Aside0.mk (Kd.R_below (by (with_reducible repeat (first | apply Kd.R_alloc | apply Kd.R_drewN | apply Kd.R_drew)); exact (Kd.R_mono (Kd.R_far (p := ⟨gb509, 1, none⟩) (Kd.R_far (p := ⟨gb509, 0, none⟩) (Kd.R_types HO500.out BK509.out (by decide)) (fun _ hk => hk.2) (.slice Ao23 t504.length co23)) (fun _ hk => hk.2) (.int .i64 t507)) (fun _ h_ => h_.1))) hb); replace HO506 := Aside0.mk (Kd.R_below (by (with_reducible repeat (first | apply Kd.R_alloc | apply Kd.R_drewN | apply Kd.R_drew)); exact (Kd.R_mono (Kd.R_far (p := ⟨gb509, 1, none⟩) (Kd.R_far (p := ⟨gb509, 0, none⟩) (Kd.R_types HO506.out BK509.out (by decide)) (fun _ hk => hk.2) (.slice Ao23 t504.length co23)) (fun _ hk => hk.2) (.int .i64 t507)) (fun _ h_ => h_.1))) hb); replace BK497 := Aside0.mk (blk_below (g := gb497) (o := .cells #[.slice Ao12 t490.length co12, .int .i64 t493] 25 (0, 0)) (by (with_reducible repeat (first | refine blk_drewN ?_ _ | refine blk_drew ?_ | refine blk_alloc ?_ _)); refine blk_far ?_ NB497_509.out _; (with_reducible repeat (first | refine blk_drewN ?_ _ | refine blk_drew ?_ | refine blk_alloc ?_ _)); refine blk_far ?_ NB497_509.out _; exact zk BK497) hb); replace BK503 := Aside0.mk (blk_below (g := gb503) (o := .cells #[.slice Ao17 t498.length co17, .int .i64 t501] 25 (0, 0)) (by (with_reducible repeat (first | refine blk_drewN ?_ _ | refine blk_drew ?_ | refine blk_alloc ?_ _)); refine blk_far ?_ NB503_509.out _; (with_reducible repeat (first | refine blk_drewN ?_ _ | refine blk_drew ?_ | refine blk_alloc ?_ _)); refine blk_far ?_ NB503_509.out _; exact zk BK503) hb); replace BK509 := Aside0.mk (blk_below (g := gb509) (o := .cells #[.slice Ao23 t504.length co23, .int .i64 t507] 25 (0, 0)) (by (with_reducible repeat (first | refine blk_drewN ?_ _ | refine blk_drew ?_ | refine blk_alloc ?_ _)); refine blk_put (cs := #[.slice Ao23 t504.length co23, .int .i64 0]) ?_ 1 _ rfl; (with_reducible repeat (first | refine blk_drewN ?_ _ | refine blk_drew ?_ | refine blk_alloc ?_ _)); refine blk_put (cs := #[.slice none 0 0, .int .i64 0]) ?_ 0 _ rfl; exact zk BK509) hb); replace HB := Aside0.mk (below_step (zb HB) hb); (try clear hb); (try clear hk); have hcz48_0 : w47.cell? ⟨gb497, 0, none⟩ = some (.slice Ao12 t490.length co12) := (blk_cell BK497.out 0).trans rfl; have hcz48_1 : w47.cell? ⟨gb497, 1, none⟩ = some (.int .i64 t493) := (blk_cell BK497.out 1).trans rfl; have hfz48_0 := blk_frozen BK497.out 0; have hfz48_1 := blk_frozen BK497.out 1) | (go_at_call 19; (with_reducible refine (spec_TableOk.calls kj2 _ _ t490 t493 false _ ?side1 ?side2 A30.out).mono ?_); (case side1 => exact zc (Kd.R_reads' HO492.out).2.2); (case side2 => exact (Kd.R_reads' HO492.out).2.1); rintro e w49 ⟨rfl, hb⟩; replace HO492 := Aside0.mk (Kd.R_below (zr HO492) hb); replace HO496 := Aside0.mk (Kd.R_below (zr HO496) hb); replace HO500 := Aside0.mk (Kd.R_below (zr HO500) hb); replace HO506 := Aside0.mk (Kd.R_below (zr HO506) hb); replace BK497 := Aside0.mk (blk_below (g := gb497) (o := .cells #[.slice Ao12 t490.length co12, .int .i64 t493] 25 (0, 0)) (zk BK497) hb); replace BK503 := Aside0.mk (blk_below (g := gb503) (o := .cells #[.slice Ao17 t498.length co17, .int .i64 t501] 25 (0, 0)) (zk BK503) hb); replace BK509 := Aside0.mk (blk_below (g := gb509) (o := .cells #[.slice Ao23 t504.length co23, .int .i64 t507] 25 (0, 0)) (zk BK509) hb); replace HB := Aside0.mk (below_step (zb HB) hb); (try clear hb)))
        go_meet
        case rel => exact ⟨_, (true), zs, H', ⟨by have := HJ2.out; first | omega | exact Nat.le_refl _⟩, ⟨by (with_reducible repeat (first | apply Kd.R_alloc | apply Kd.R_drewN | apply Kd.R_drew)); exact Kd.R_mono HO496.out (fun _ hk => ⟨hk.1.1, ⟨hk.1.2, hk.2⟩⟩)⟩, ⟨by (with_reducible repeat (first | apply Kd.R_alloc | apply Kd.R_drewN | apply Kd.R_drew)); exact Kd.R_mono HO492.out (fun _ hk => ⟨hk.1.1, ⟨hk.1.2, hk.2⟩⟩)⟩, ⟨by (with_reducible repeat (first | apply Kd.R_alloc | apply Kd.R_drewN | apply Kd.R_drew)); exact Kd.R_mono HO500.out (fun _ hk => ⟨hk.1.2, ⟨hk.1.1.2, hk.2⟩⟩)⟩, ⟨by (with_reducible repeat (first | apply Kd.R_alloc | apply Kd.R_drewN | apply Kd.R_drew)); exact Kd.R_mono HO506.out (fun _ hk => ⟨hk.1.2, ⟨hk.1.1.2, hk.2⟩⟩)⟩, ⟨by exact zk BK497⟩, ⟨by exact zk BK503⟩, ⟨by exact zk BK509⟩, ⟨zb HB⟩⟩
      ·replace c29 := Bool.eq_false_iff.mpr c29
       subst c29
       have H1 : (laws_FnHeadCut.j1 kj2 l1 t494 t502 t508 true t490 t493 t498 t501 t504 t507) = some r := by rw [if_neg (show ¬ (false = true) by decide)] at H; exact H
       clear H
       have H := H1
       clear H1
       have H' := Aside0.mk H
       clear H
       have hnb50 := NB509_497.out
       have hnc50 := NB497_509.out
       have hnb51 := NB509_503.out
       have hnc51 := NB503_509.out
       have hcz52_0 : w22.cell? ⟨gb509, 0, none⟩ = some (.slice none 0 0) := (blk_cell BK509.out 0).trans rfl
       have hcz52_1 : w22.cell? ⟨gb509, 1, none⟩ = some (.int .i64 0) := (blk_cell BK509.out 1).trans rfl
       have hfz52_0 := blk_frozen BK509.out 0
       have hfz52_1 := blk_frozen BK509.out 1
       have hnb53 := NB503_497.out
       have hnc53 := NB497_503.out
       have hcz54_0 : w22.cell? ⟨gb503, 0, none⟩ = some (.slice Ao17 t498.length co17) := (blk_cell BK503.out 0).trans rfl
       have hcz54_1 : w22.cell? ⟨gb503, 1, none⟩ = some (.int .i64 t501) := (blk_cell BK503.out 1).trans rfl
       have hfz54_0 := blk_frozen BK503.out 0
       have hfz54_1 := blk_frozen BK503.out 1
       go_wp2_with (first | (go_at_call 17; (with_reducible refine (laws_lkTable.calls kj2 _ _ t504 t507 _ _ t498 t501 false _ ?side1 ?side2 ?side3 ?side4 A28.out).mono ?_); (case side1 => refine (Kd.R_reads' (e := 36) (base := w.heap.size) (ok := fun k_ => (((True ∧ some k_ ≠ (.slice Ao12 t490.length co12 : Value).ownBlock) ∧ some k_ ≠ (.slice Ao14 t494.length co14 : Value).ownBlock) ∧ some k_ ≠ (.slice Ao17 t498.length co17 : Value).ownBlock)) (n := t504.length) (c := co23) ?_).2.2; exact (by (with_reducible repeat (first | apply Kd.R_alloc | apply Kd.R_drewN | apply Kd.R_drew)); exact (Kd.R_mono (Kd.R_far (p := ⟨gb509, 1, none⟩) (Kd.R_far (p := ⟨gb509, 0, none⟩) (Kd.R_types HO506.out BK509.out (by decide)) (fun _ hk => hk.2) (.slice Ao23 t504.length co23)) (fun _ hk => hk.2) (.int .i64 t507)) (fun _ h_ => h_.1)))); (case side2 => exact (Kd.R_reads' HO506.out).2.1); (case side3 => refine (Kd.R_reads' (e := 36) (base := w.heap.size) (ok := fun k_ => (((True ∧ some k_ ≠ (.slice Ao12 t490.length co12 : Value).ownBlock) ∧ some k_ ≠ (.slice Ao14 t494.length co14 : Value).ownBlock) ∧ some k_ ≠ (.slice Ao23 t504.length co23 : Value).ownBlock)) (n := t498.length) (c := co17) ?_).2.2; exact (by (with_reducible repeat (first | apply Kd.R_alloc | apply Kd.R_drewN | apply Kd.R_drew)); exact (Kd.R_mono (Kd.R_far (p := ⟨gb509, 1, none⟩) (Kd.R_far (p := ⟨gb509, 0, none⟩) (Kd.R_types HO500.out BK509.out (by decide)) (fun _ hk => hk.2) (.slice Ao23 t504.length co23)) (fun _ hk => hk.2) (.int .i64 t507)) (fun _ h_ => h_.1)))); (case side4 => exact (Kd.R_reads' HO500.out).2.1); rintro e w55 ⟨rfl, hb⟩; replace HO492 := Aside0.mk (Kd.R_below (by (with_reducible repeat (first | apply Kd.R_alloc | apply Kd.R_drewN | apply Kd.R_drew)); exact (Kd.R_mono (Kd.R_far (p := ⟨gb509, 1, none⟩) (Kd.R_far (p := ⟨gb509, 0, none⟩) (Kd.R_types HO492.out BK509.out (by decide)) (fun _ hk => hk.2) (.slice Ao23 t504.length co23)) (fun _ hk => hk.2) (.int .i64 t507)) (fun _ h_ => h_.1))) hb); replace HO496 := Aside0.mk (Kd.R_below (by (with_reducible repeat (first | apply Kd.R_alloc | apply Kd.R_drewN | apply Kd.R_drew)); exact (Kd.R_mono (Kd.R_far (p := ⟨gb509, 1, none⟩) (Kd.R_far (p := ⟨gb509, 0, none⟩) (Kd.R_types HO496.out BK509.out (by decide)) (fun _ hk => hk.2) (.slice Ao23 t504.length co23)) (fun _ hk => hk.2) (.int .i64 t507)) (fun _ h_ => h_.1))) hb); replace HO500 := Aside0.mk (Kd.R_below (by (with_reducible repeat (first | apply Kd.R_alloc | apply Kd.R_drewN | apply Kd.R_drew)); exact (Kd.R_mono (Kd.R_far (p := ⟨gb509, 1, none⟩) (Kd.R_far (p := ⟨gb509, 0, none⟩) (Kd.R_types HO500.out BK509.out (by decide)) (fun _ hk => hk.2) (.slice Ao23 t504.length co23)) (fun _ hk => hk.2) (.int .i64 t507)) (fun _ h_ => h_.1))) hb); replace HO506 := Aside0.mk (Kd.R_below (by (with_reducible repeat (first | apply Kd.R_alloc | apply Kd.R_drewN | apply Kd.R_drew)); exact (Kd.R_mono (Kd.R_far (p := ⟨gb509, 1, none⟩) (Kd.R_far (p := ⟨gb509, 0, none⟩) (Kd.R_types HO506.out BK509.out (by decide)) (fun _ hk => hk.2) (.slice Ao23 t504.length co23)) (fun _ hk => hk.2) (.int .i64 t507)) (fun _ h_ => h_.1))) hb); replace BK497 := Aside0.mk (blk_below (g := gb497) (o := .cells #[.slice Ao12 t490.length co12, .int .i64 t493] 25 (0, 0)) (by (with_reducible repeat (first | refine blk_drewN ?_ _ | refine blk_drew ?_ | refine blk_alloc ?_ _)); refine blk_far ?_ NB497_509.out _; (with_reducible repeat (first | refine blk_drewN ?_ _ | refine blk_drew ?_ | refine blk_alloc ?_ _)); refine blk_far ?_ NB497_509.out _; exact zk BK497) hb); replace BK503 := Aside0.mk (blk_below (g := gb503) (o := .cells #[.slice Ao17 t498.length co17, .int .i64 t501] 25 (0, 0)) (by (with_reducible repeat (first | refine blk_drewN ?_ _ | refine blk_drew ?_ | refine blk_alloc ?_ _)); refine blk_far ?_ NB503_509.out _; (with_reducible repeat (first | refine blk_drewN ?_ _ | refine blk_drew ?_ | refine blk_alloc ?_ _)); refine blk_far ?_ NB503_509.out _; exact zk BK503) hb); replace BK509 := Aside0.mk (blk_below (g := gb509) (o := .cells #[.slice Ao23 t504.length co23, .int .i64 t507] 25 (0, 0)) (by (with_reducible repeat (first | refine blk_drewN ?_ _ | refine blk_drew ?_ | refine blk_alloc ?_ _)); refine blk_put (cs := #[.slice Ao23 t504.length co23, .int .i64 0]) ?_ 1 _ rfl; (with_reducible repeat (first | refine blk_drewN ?_ _ | refine blk_drew ?_ | refine blk_alloc ?_ _)); refine blk_put (cs := #[.slice none 0 0, .int .i64 0]) ?_ 0 _ rfl; exact zk BK509) hb); replace HB := Aside0.mk (below_step (zb HB) hb); (try clear hb); (try clear hk)))
       go_meet
       case rel => exact ⟨_, (true), zs, H', ⟨by have := HJ2.out; first | omega | exact Nat.le_refl _⟩, ⟨by (with_reducible repeat (first | apply Kd.R_alloc | apply Kd.R_drewN | apply Kd.R_drew)); exact Kd.R_mono HO496.out (fun _ hk => ⟨hk.1.1, ⟨hk.1.2, hk.2⟩⟩)⟩, ⟨by (with_reducible repeat (first | apply Kd.R_alloc | apply Kd.R_drewN | apply Kd.R_drew)); exact Kd.R_mono HO492.out (fun _ hk => ⟨hk.1.1, ⟨hk.1.2, hk.2⟩⟩)⟩, ⟨by (with_reducible repeat (first | apply Kd.R_alloc | apply Kd.R_drewN | apply Kd.R_drew)); exact Kd.R_mono HO500.out (fun _ hk => ⟨hk.1.2, ⟨hk.1.1.2, hk.2⟩⟩)⟩, ⟨by (with_reducible repeat (first | apply Kd.R_alloc | apply Kd.R_drewN | apply Kd.R_drew)); exact Kd.R_mono HO506.out (fun _ hk => ⟨hk.1.2, ⟨hk.1.1.2, hk.2⟩⟩)⟩, ⟨by exact zk BK497⟩, ⟨by exact zk BK503⟩, ⟨by exact zk BK509⟩, ⟨zb HB⟩⟩
     ·rw [if_neg c27] at H
      have c27b0 : (t508.toList == t502.toList) = false := beq_eq_false_iff_ne.mpr c27
      have c27b1 : (t508.toList != t502.toList) = true := bne_iff_ne.mpr c27
      (first | rw [c27b0] | rw [c27b1] | (simp only [i64_w, i32_w]; rw [c27b0]) | skip)
      have H' := Aside0.mk H
      clear H
      go_wp2
      go_meet
      case rel => exact ⟨_, (true), zs, H', ⟨by have := HJ2.out; first | omega | exact Nat.le_refl _⟩, ⟨by (with_reducible repeat (first | apply Kd.R_alloc | apply Kd.R_drewN | apply Kd.R_drew)); exact Kd.R_mono (Kd.R_far (p := ⟨gb509, 1, none⟩) (Kd.R_far (p := ⟨gb509, 0, none⟩) (Kd.R_types HO496.out BK509.out (by decide)) (fun _ hk => hk.2) (.slice Ao23 t504.length co23)) (fun _ hk => hk.2) (.int .i64 t507)) (fun _ hk => ⟨hk.1.1.1, ⟨hk.1.1.2, hk.1.2⟩⟩)⟩, ⟨by (with_reducible repeat (first | apply Kd.R_alloc | apply Kd.R_drewN | apply Kd.R_drew)); exact Kd.R_mono (Kd.R_far (p := ⟨gb509, 1, none⟩) (Kd.R_far (p := ⟨gb509, 0, none⟩) (Kd.R_types HO492.out BK509.out (by decide)) (fun _ hk => hk.2) (.slice Ao23 t504.length co23)) (fun _ hk => hk.2) (.int .i64 t507)) (fun _ hk => ⟨hk.1.1.1, ⟨hk.1.1.2, hk.1.2⟩⟩)⟩, ⟨by (with_reducible repeat (first | apply Kd.R_alloc | apply Kd.R_drewN | apply Kd.R_drew)); exact Kd.R_mono (Kd.R_far (p := ⟨gb509, 1, none⟩) (Kd.R_far (p := ⟨gb509, 0, none⟩) (Kd.R_types HO500.out BK509.out (by decide)) (fun _ hk => hk.2) (.slice Ao23 t504.length co23)) (fun _ hk => hk.2) (.int .i64 t507)) (fun _ hk => ⟨hk.1.1.2, ⟨hk.1.1.1.2, hk.1.2⟩⟩)⟩, ⟨by (with_reducible repeat (first | apply Kd.R_alloc | apply Kd.R_drewN | apply Kd.R_drew)); exact Kd.R_mono (Kd.R_far (p := ⟨gb509, 1, none⟩) (Kd.R_far (p := ⟨gb509, 0, none⟩) (Kd.R_types HO506.out BK509.out (by decide)) (fun _ hk => hk.2) (.slice Ao23 t504.length co23)) (fun _ hk => hk.2) (.int .i64 t507)) (fun _ hk => ⟨hk.1.1.2, ⟨hk.1.1.1.2, hk.1.2⟩⟩)⟩, ⟨by (with_reducible repeat (first | refine blk_drewN ?_ _ | refine blk_drew ?_ | refine blk_alloc ?_ _)); refine blk_far ?_ NB497_509.out _; (with_reducible repeat (first | refine blk_drewN ?_ _ | refine blk_drew ?_ | refine blk_alloc ?_ _)); refine blk_far ?_ NB497_509.out _; exact zk BK497⟩, ⟨by (with_reducible repeat (first | refine blk_drewN ?_ _ | refine blk_drew ?_ | refine blk_alloc ?_ _)); refine blk_far ?_ NB503_509.out _; (with_reducible repeat (first | refine blk_drewN ?_ _ | refine blk_drew ?_ | refine blk_alloc ?_ _)); refine blk_far ?_ NB503_509.out _; exact zk BK503⟩, ⟨by (with_reducible repeat (first | refine blk_drewN ?_ _ | refine blk_drew ?_ | refine blk_alloc ?_ _)); refine blk_put (cs := #[.slice Ao23 t504.length co23, .int .i64 0]) ?_ 1 _ rfl; (with_reducible repeat (first | refine blk_drewN ?_ _ | refine blk_drew ?_ | refine blk_alloc ?_ _)); refine blk_put (cs := #[.slice none 0 0, .int .i64 0]) ?_ 0 _ rfl; exact zk BK509⟩, ⟨zb HB⟩⟩
    case rest =>
     clear HC9
     try clear c1
     try clear c2
     try clear p2
     try clear c3
     try clear c4
     try clear c4b0
     try clear c4b1
     try clear c5
     try clear c11
     try clear c18
     try clear c24
     try clear c25
     try clear c27
     try clear c27b0
     try clear c27b1
     try clear c29
     try clear c31
     try clear c33
     try clear c34
     try clear c36
     try clear c37
     try clear c38
     try clear c39
     try clear c42
     try clear c43
     try clear c45
     try clear c50
     try clear c51
     try clear c53
     try clear hcz13_0
     try clear hcz13_1
     try clear hcz19_0
     try clear hcz19_1
     try clear hcz20_0
     try clear hcz20_1
     try clear hcz26_0
     try clear hcz26_1
     try clear hcz35_0
     try clear hcz35_1
     try clear hcz37_0
     try clear hcz37_1
     try clear hcz39_0
     try clear hcz39_1
     try clear hcz44_0
     try clear hcz44_1
     try clear hcz46_0
     try clear hcz46_1
     try clear hcz48_0
     try clear hcz48_1
     try clear hcz52_0
     try clear hcz52_1
     try clear hcz54_0
     try clear hcz54_1
     try clear hfz13_0
     try clear hfz13_1
     try clear hfz19_0
     try clear hfz19_1
     try clear hfz20_0
     try clear hfz20_1
     try clear hfz26_0
     try clear hfz26_1
     try clear hfz35_0
     try clear hfz35_1
     try clear hfz37_0
     try clear hfz37_1
     try clear hfz39_0
     try clear hfz39_1
     try clear hfz44_0
     try clear hfz44_1
     try clear hfz46_0
     try clear hfz46_1
     try clear hfz48_0
     try clear hfz48_1
     try clear hfz52_0
     try clear hfz52_1
     try clear hfz54_0
     try clear hfz54_1
     try clear p2
     obtain ⟨kq, x59_8, rfl, HA, HJ8, HO_6, HO_498000, HO_504000, HO_510000, BK497, BK503, BK509, HB⟩ := hcut
     cases kq with
     | zero => exact absurd HA.out (by simp [laws_FnHeadCut.j1])
     | succ kj8 =>
      have H := HA.out
      clear HA
      simp only [laws_FnHeadCut.j1] at H
      by_cases c56 : x59_8 = true
      ·subst c56
       have H1 : (if t508.toList = t502.toList then ((laws_lkTable.f kj8 t504 t507 t498 t501).bind fun t513 => (some t513)) else (some false)) = some r := by rw [if_pos rfl] at H; exact H
       clear H
       have H := H1
       clear H1
       by_cases c57 : t508.toList = t502.toList
       ·rw [if_pos c57] at H
        have c57b0 : (t508.toList == t502.toList) = true := beq_iff_eq.mpr c57
        have c57b1 : (t508.toList != t502.toList) = false := bne_eq_false_iff_eq.mpr c57
        clear c57
        replace H := Option.bind_eq_some_iff.mp H
        obtain ⟨t513, A580, H⟩ := H
        replace H : (some t513) = some r := H
        have A58 := Aside0.mk A580
        clear A580
        obtain rfl := Option.some.inj H
        have hnb59 := NB509_497.out
        have hnc59 := NB497_509.out
        have hnb60 := NB509_503.out
        have hnc60 := NB503_509.out
        have hcz61_0 : wc.cell? ⟨gb509, 0, none⟩ = some (.slice Ao23 t504.length co23) := (blk_cell BK509.out 0).trans rfl
        have hcz61_1 : wc.cell? ⟨gb509, 1, none⟩ = some (.int .i64 t507) := (blk_cell BK509.out 1).trans rfl
        have hfz61_0 := blk_frozen BK509.out 0
        have hfz61_1 := blk_frozen BK509.out 1
        have hnb62 := NB503_497.out
        have hnc62 := NB497_503.out
        have hcz63_0 : wc.cell? ⟨gb503, 0, none⟩ = some (.slice Ao17 t498.length co17) := (blk_cell BK503.out 0).trans rfl
        have hcz63_1 : wc.cell? ⟨gb503, 1, none⟩ = some (.int .i64 t501) := (blk_cell BK503.out 1).trans rfl
        have hfz63_0 := blk_frozen BK503.out 0
        have hfz63_1 := blk_frozen BK503.out 1
        go_wp2_with (first | (go_at_call 17; (with_reducible refine (laws_lkTable.calls kj8 _ _ t504 t507 _ _ t498 t501 t513 _ ?side1 ?side2 ?side3 ?side4 A58.out).mono ?_); (case side1 => exact zc (Kd.R_reads' HO_510000.out).2.2); (case side2 => exact (Kd.R_reads' HO_510000.out).2.1); (case side3 => exact zc (Kd.R_reads' HO_504000.out).2.2); (case side4 => exact (Kd.R_reads' HO_504000.out).2.1); rintro e w64 ⟨rfl, hb⟩; replace HO_6 := Aside0.mk (Kd.R_below (zr HO_6) hb); replace HO_498000 := Aside0.mk (Kd.R_below (zr HO_498000) hb); replace HO_504000 := Aside0.mk (Kd.R_below (zr HO_504000) hb); replace HO_510000 := Aside0.mk (Kd.R_below (zr HO_510000) hb); replace BK497 := Aside0.mk (blk_below (g := gb497) (o := .cells #[.slice Ao12 t490.length co12, .int .i64 t493] 25 (0, 0)) (zk BK497) hb); replace BK503 := Aside0.mk (blk_below (g := gb503) (o := .cells #[.slice Ao17 t498.length co17, .int .i64 t501] 25 (0, 0)) (zk BK503) hb); replace BK509 := Aside0.mk (blk_below (g := gb509) (o := .cells #[.slice Ao23 t504.length co23, .int .i64 t507] 25 (0, 0)) (zk BK509) hb); replace HB := Aside0.mk (below_step (zb HB) hb); (try clear hb)))
        go_ret
        exact ⟨ze, zb HB⟩
       ·rw [if_neg c57] at H
        have c57b0 : (t508.toList == t502.toList) = false := beq_eq_false_iff_ne.mpr c57
        have c57b1 : (t508.toList != t502.toList) = true := bne_iff_ne.mpr c57
        obtain rfl := Option.some.inj H
        go_wp2
        go_ret
        exact ⟨ze, zb HB⟩
      ·replace c56 := Bool.eq_false_iff.mpr c56
       subst c56
       have H1 : (if (wrap64 ((t494.length : Int) + 1)) = 0 then (none) else (if 0 ≤ ((l1.length : Int) % (wrap64 ((t494.length : Int) + 1))) then (if ((l1.length : Int) % (wrap64 ((t494.length : Int) + 1))) ≤ (t494.length : Int) then ((impl_HeadWrite.f kj8 t490 t493 (t494.take (((l1.length : Int) % (wrap64 ((t494.length : Int) + 1))) : Int).toNat)).bind fun bt518 => ((impl_HeadWrite.f kj8 bt518.1 bt518.2.1 (t494.drop (((l1.length : Int) % (wrap64 ((t494.length : Int) + 1))) : Int).toNat)).bind fun bt528 => (if bt518.2.2.size + bt528.2.2.size ≤ 9223372036854775807 then (if (bt518.2.2 ++ bt528.2.2).toList = t508.toList then ((laws_lkTable.f kj8 bt528.1 bt528.2.1 t504 t507).bind fun t534 => (some t534)) else (some false)) else (none)))) else (none)) else (none))) = some r := by rw [if_neg (show ¬ (false = true) by decide)] at H; exact H
       clear H
       have H := H1
       clear H1
       by_cases c65 : (wrap64 ((t494.length : Int) + 1)) = 0
       ·rw [if_pos c65] at H
        exact absurd H (by simp)
       ·rw [if_neg c65] at H
        have c65b0 : ((wrap64 ((t494.length : Int) + 1)) == 0) = false := beq_eq_false_iff_ne.mpr c65
        have c65b1 : ((wrap64 ((t494.length : Int) + 1)) != 0) = true := bne_iff_ne.mpr c65
        obtain ⟨ji66, hji66⟩ : ∃ j_ : Int, ((l1.length : Int) % (wrap64 ((t494.length : Int) + 1))) = j_ := ⟨_, rfl⟩
        replace H : (if 0 ≤ (ji66) then (if (ji66) ≤ (t494.length : Int) then ((impl_HeadWrite.f kj8 t490 t493 (t494.take ((ji66) : Int).toNat)).bind fun bt518 => ((impl_HeadWrite.f kj8 bt518.1 bt518.2.1 (t494.drop ((ji66) : Int).toNat)).bind fun bt528 => (if bt518.2.2.size + bt528.2.2.size ≤ 9223372036854775807 then (if (bt518.2.2 ++ bt528.2.2).toList = t508.toList then ((laws_lkTable.f kj8 bt528.1 bt528.2.1 t504 t507).bind fun t534 => (some t534)) else (some false)) else (none)))) else (none)) else (none)) = some r := by first | (rw [hji66] at H; exact H) | (simp only [hji66] at H ⊢; exact H)
        by_cases c67 : 0 ≤ (ji66)
        ·rw [if_pos c67] at H
         have c67b0 := eq_true c67
         have c67b1 : decide (0 ≤ (ji66)) = true := decide_eq_true c67
         clear c67
         by_cases c68 : (ji66) ≤ (t494.length : Int)
         ·rw [if_pos c68] at H
          have c68b0 := eq_true c68
          have c68b1 : decide ((ji66) ≤ (t494.length : Int)) = true := decide_eq_true c68
          clear c68
          obtain ⟨y514, hy514⟩ : ∃ y_ : List (S36), y_ = (t494.take ((ji66) : Int).toNat) := ⟨_, rfl⟩
          replace H : ((impl_HeadWrite.f kj8 t490 t493 y514).bind fun bt518 => ((impl_HeadWrite.f kj8 bt518.1 bt518.2.1 (t494.drop ((ji66) : Int).toNat)).bind fun bt528 => (if bt518.2.2.size + bt528.2.2.size ≤ 9223372036854775807 then (if (bt518.2.2 ++ bt528.2.2).toList = t508.toList then ((laws_lkTable.f kj8 bt528.1 bt528.2.1 t504 t507).bind fun t534 => (some t534)) else (some false)) else (none)))) = some r := by first | (rw [hy514]; with_reducible exact H) | (have H2_ := (Option.bind_some _ _).symm.trans H; rw [hy514]; with_reducible exact H2_) | (have H2_ := (Option.bind_some _ _).symm.trans H; with_reducible exact H2_) | with_reducible exact H | (rw [hy514]; exact H) | exact H
          have Ny514 := Aside0.mk hy514
          clear hy514
          replace H := Option.bind_eq_some_iff.mp H
          obtain ⟨⟨t518, t521, t522⟩, A690, H⟩ := H
          replace H : ((impl_HeadWrite.f kj8 t518 t521 (t494.drop ((ji66) : Int).toNat)).bind fun bt528 => (if t522.size + bt528.2.2.size ≤ 9223372036854775807 then (if (t522 ++ bt528.2.2).toList = t508.toList then ((laws_lkTable.f kj8 bt528.1 bt528.2.1 t504 t507).bind fun t534 => (some t534)) else (some false)) else (none))) = some r := H
          have A69 := Aside0.mk A690
          clear A690
          have c70b0 := eq_true (of_decide_eq_true za : 0 ≤ (ji66))
          have c71b0 := eq_true (of_decide_eq_true za : (ji66) ≤ (t494.length : Int))
          obtain ⟨y524, hy524⟩ : ∃ y_ : List (S36), y_ = (t494.drop ((ji66) : Int).toNat) := ⟨_, rfl⟩
          replace H : ((impl_HeadWrite.f kj8 t518 t521 y524).bind fun bt528 => (if t522.size + bt528.2.2.size ≤ 9223372036854775807 then (if (t522 ++ bt528.2.2).toList = t508.toList then ((laws_lkTable.f kj8 bt528.1 bt528.2.1 t504 t507).bind fun t534 => (some t534)) else (some false)) else (none))) = some r := by first | (rw [hy524]; with_reducible exact H) | (have H2_ := (Option.bind_some _ _).symm.trans H; rw [hy524]; with_reducible exact H2_) | (have H2_ := (Option.bind_some _ _).symm.trans H; with_reducible exact H2_) | with_reducible exact H | (rw [hy524]; exact H) | exact H
          have Ny524 := Aside0.mk hy524
          clear hy524
          replace H := Option.bind_eq_some_iff.mp H
          obtain ⟨⟨t528, t531, t532⟩, A720, H⟩ := H
          replace H : (if t522.size + t532.size ≤ 9223372036854775807 then (if (t522 ++ t532).toList = t508.toList then ((laws_lkTable.f kj8 t528 t531 t504 t507).bind fun t534 => (some t534)) else (some false)) else (none)) = some r := H
          have A72 := Aside0.mk A720
          clear A720
          by_cases c73 : t522.size + t532.size ≤ 9223372036854775807
          ·rw [if_pos c73] at H
           have c73b0 := eq_true c73
           have c73b1 : decide (t522.size + t532.size ≤ 9223372036854775807) = true := decide_eq_true c73
           try have c73b2 : (9223372036854775807 < t522.size + t532.size) = False := eq_false (Nat.not_lt.2 c73)
           by_cases c74 : (t522 ++ t532).toList = t508.toList
           ·rw [if_pos c74] at H
            have c74b0 : ((t522 ++ t532).toList == t508.toList) = true := beq_iff_eq.mpr c74
            have c74b1 : ((t522 ++ t532).toList != t508.toList) = false := bne_eq_false_iff_eq.mpr c74
            clear c74
            replace H := Option.bind_eq_some_iff.mp H
            obtain ⟨t534, A750, H⟩ := H
            replace H : (some t534) = some r := H
            have A75 := Aside0.mk A750
            clear A750
            obtain rfl := Option.some.inj H
            try go_wp2
            replace HO_6 := Aside0.mk (Kd.R_drew HO_6.out)
            replace HO_498000 := Aside0.mk (Kd.R_drew HO_498000.out)
            replace HO_504000 := Aside0.mk (Kd.R_drew HO_504000.out)
            replace HO_510000 := Aside0.mk (Kd.R_drew HO_510000.out)
            replace BK497 := Aside0.mk (blk_drew BK497.out)
            replace BK503 := Aside0.mk (blk_drew BK503.out)
            replace BK509 := Aside0.mk (blk_drew BK509.out)
            replace HB := Aside0.mk (below_drew1 HB.out)
            have q77 : ((ji66) : Int) ≤ ((t494.length : Int) : Int) := of_decide_eq_true za
            obtain ⟨i077, hi077, _, hsz77, _⟩ := info_parts info36
            have hroom77 : t494.length ≤ co14 := (Kd.R_reads' HO_6.out).2.1
            have hC77 : Kd.C k36 _ Ao14 t494.length t494 := (Kd.R_reads' HO_6.out).2.2
            have hcut77 := cut_to (P := Try.prog) 23 36 .i64 Try.underlying23 hi077 Ao14 t494.length co14 (ji66) (of_decide_eq_true za) q77 hroom77
            have hr77 := Kd.C_take (m := ((ji66) : Int).toNat) hC77 (by omega)
            have hy77 : y514.length = ((ji66) : Int).toNat := (by rw [Ny514.out, List.length_take]; omega)
            rw [← Ny514.out] at hr77
            rw [← hy77] at hcut77
            have HR517 := Aside0.mk hr77
            have HC517 := Aside0.mk (show y514.length ≤ co14 from by omega)
            clear hr77 hC77 hroom77 hi077 hsz77
            have KY77 := Aside0.mk hy77
            clear hy77
            have KL77 := Aside0.mk (show ((ji66) : Int).toNat ≤ t494.length from by omega)
            replace q77 := eq_true q77
            refine start_ (n := 11) (S := fun w' => w'.cell? ⟨gb497, 0, none⟩ = some (.slice Ao12 t490.length co12) ∧ w'.cell? ⟨gb497, 1, none⟩ = some (.int .i64 t493)) (ds := []) #[false, false, false, false, false, false, false, false, false, false, false] (by kernel_rfl) rfl rfl ⟨(blk_cell BK497.out 0).trans rfl, (blk_cell BK497.out 1).trans rfl⟩ (fun hHeld => ?_); refine with_tabW laws_FnHeadCut.tab9 laws_FnHeadCut.bits9 (fun HT_ HW_ => ?_)
            generalize wc.drew = w76 at HO_6 HO_498000 HO_504000 HO_510000 BK497 BK503 BK509 HB HR517 hHeld ⊢
            refine pu 1 (some 76) (bm 11 2) rfl rfl ?_
            refine pu 2 (some 77) (bm 11 6) rfl rfl ?_
            refine pu 3 (some 78) (bm 11 14) rfl rfl ?_
            refine tk2 0 (some 75) (bm 11 15) rfl rfl hHeld ?_
            refine join_ (σ := Value × Nat) 2 #[true, true, true, true, true, true, true, true, true, false, false] (fun s_ => [(79, .tuple #[.agg #[s_.1, .int .i64 t521], .string t522]), (12, .pointer (some ⟨s_.2, 0, none⟩)), (74, .tuple #[.agg #[s_.1, .int .i64 t521], .string t522]), (80, .agg #[s_.1, .int .i64 t521]), (81, .string t522)]) (fun s_ w' => (w'.cell? ⟨gb497, 0, none⟩ = some (.slice Ao12 t490.length co12) ∧ w'.cell? ⟨gb497, 1, none⟩ = some (.int .i64 t493)) ∧ (Kd.R k36 36 w' w.heap.size (fun k_ => some k_ ≠ (.slice Ao12 t490.length co12 : Value).ownBlock ∧ some k_ ≠ (.slice Ao17 t498.length co17 : Value).ownBlock ∧ some k_ ≠ (.slice Ao23 t504.length co23 : Value).ownBlock ∧ some k_ ≠ (.slice Ao14 t494.length co14 : Value).ownBlock) s_.1 t518) ∧ (Kd.R k36 36 w' w.heap.size (fun k_ => some k_ ≠ (s_.1 : Value).ownBlock ∧ some k_ ≠ (.slice Ao17 t498.length co17 : Value).ownBlock ∧ some k_ ≠ (.slice Ao23 t504.length co23 : Value).ownBlock ∧ some k_ ≠ (.slice Ao14 t494.length co14 : Value).ownBlock) (.slice Ao12 t490.length co12) t490) ∧ (Kd.R k36 36 w' w.heap.size (fun k_ => some k_ ≠ (s_.1 : Value).ownBlock ∧ some k_ ≠ (.slice Ao12 t490.length co12 : Value).ownBlock ∧ some k_ ≠ (.slice Ao23 t504.length co23 : Value).ownBlock ∧ some k_ ≠ (.slice Ao14 t494.length co14 : Value).ownBlock) (.slice Ao17 t498.length co17) t498) ∧ (Kd.R k36 36 w' w.heap.size (fun k_ => some k_ ≠ (s_.1 : Value).ownBlock ∧ some k_ ≠ (.slice Ao12 t490.length co12 : Value).ownBlock ∧ some k_ ≠ (.slice Ao17 t498.length co17 : Value).ownBlock ∧ some k_ ≠ (.slice Ao14 t494.length co14 : Value).ownBlock) (.slice Ao23 t504.length co23) t504) ∧ (Kd.R k36 36 w' w.heap.size (fun k_ => some k_ ≠ (s_.1 : Value).ownBlock ∧ some k_ ≠ (.slice Ao12 t490.length co12 : Value).ownBlock ∧ some k_ ≠ (.slice Ao17 t498.length co17 : Value).ownBlock ∧ some k_ ≠ (.slice Ao23 t504.length co23 : Value).ownBlock) (.slice Ao14 t494.length co14) t494) ∧ (w'.heap[gb497]? = some (.cells #[.slice Ao12 t490.length co12, .int .i64 t493] 25 (0, 0))) ∧ (w'.heap[gb503]? = some (.cells #[.slice Ao17 t498.length co17, .int .i64 t501] 25 (0, 0))) ∧ (w'.heap[gb509]? = some (.cells #[.slice Ao23 t504.length co23, .int .i64 t507] 25 (0, 0))) ∧ (w'.heap[s_.2]? = some (.cells #[.slice none 0 0, .int .i64 0] 25 (0, 0))) ∧ (w.heap.size ≤ s_.2) ∧ (w.heap.size ≤ s_.2) ∧ (gb497 ≠ s_.2) ∧ (s_.2 ≠ gb497) ∧ (gb503 ≠ s_.2) ∧ (s_.2 ≠ gb503) ∧ (gb509 ≠ s_.2) ∧ (s_.2 ≠ gb509) ∧ (Below w.heap.size w w')) ?_ ?_
            rotate_left
            ·intro hCont
             refine two_ (i := 4) (j := 8) (Ni := some 79) (Nj := some 12) #[true, true, true, true, true, false, false, false, false, false, false] #[true, true, true, true, false, false, false, false, true, false, false] rfl rfl rfl rfl (two_of HT_.out (by kernel_rfl)) (by decide) (by decide) (fun K hK => ?_) (fun K hK => ?_)
             ·skip
              refine gs Try.func39 #[.agg #[.slice Ao12 t490.length co12, .int .i64 t493], .slice Ao14 y514.length co14] ?_
              with_reducible refine (impl_HeadWrite.calls kj8 _ _ t490 t493 _ _ y514 t518 t521 t522 _ ?side1 ?side2 ?side3 ?side4 A69.out).mono ?_
              (case side1 => exact zc (Kd.R_reads' HO_498000.out).2.2)
              (case side2 => exact (Kd.R_reads' HO_498000.out).2.1)
              (case side3 => exact zc HR517.out)
              (case side4 => exact HC517.out)
              rintro e w78 ⟨v519, rfl, ho0, hb⟩
              refine ⟨_, rfl, ?_⟩
              have HO520 := Aside0.mk (Kd.R_lower (Kd.R_new' (Kd.R_new' (Kd.R_new' (Kd.R_new' ho0 (Kd.R_lt (zr HO_6))) (Kd.R_lt (zr HO_498000))) (Kd.R_lt (zr HO_504000))) (Kd.R_lt (zr HO_510000))) (below_size (zb HB)))
              replace HO_6 := Aside0.mk (Kd.R_elder' (zr HO_6) (Kd.R_base ho0) hb)
              replace HO_498000 := Aside0.mk (Kd.R_elder' (zr HO_498000) (Kd.R_base ho0) hb)
              replace HO_504000 := Aside0.mk (Kd.R_elder' (zr HO_504000) (Kd.R_base ho0) hb)
              replace HO_510000 := Aside0.mk (Kd.R_elder' (zr HO_510000) (Kd.R_base ho0) hb)
              replace BK497 := Aside0.mk (blk_below (g := gb497) (o := .cells #[.slice Ao12 t490.length co12, .int .i64 t493] 25 (0, 0)) (zk BK497) hb)
              replace BK503 := Aside0.mk (blk_below (g := gb503) (o := .cells #[.slice Ao17 t498.length co17, .int .i64 t501] 25 (0, 0)) (zk BK503) hb)
              replace BK509 := Aside0.mk (blk_below (g := gb509) (o := .cells #[.slice Ao23 t504.length co23, .int .i64 t507] 25 (0, 0)) (zk BK509) hb)
              replace HR517 := Aside0.mk (Kd.C_below (zc HR517.out) hb)
              replace HB := Aside0.mk (below_step (zb HB) hb)
              (try clear hb)
              (try clear ho0)
              refine hK.out _ _ ⟨(blk_cell BK497.out 0).trans rfl, (blk_cell BK497.out 1).trans rfl⟩ (fun hHeld => ?_)
              clear hK K
              refine nm ?_
              refine pu 5 (some 74) (bm 11 63) rfl rfl ?_
              refine pu 6 (some 80) (bm 11 127) rfl rfl ?_
              refine pu 7 (some 81) (bm 11 255) rfl rfl ?_
              refine one_ (i := 8) (N := some 12) (bm 11 511) rfl rfl (one_of HT_.out (by kernel_rfl)) (by decide) (fun K hK => ?_)
              refine box_step ?hg (N := 12) ?hd (cs := #[.slice none 0 0, .int .i64 0]) (t := 25) ?hr ?_; (case hd => rfl); (case hg => rfl); (case hr => first | (go_simp; done) | (go_simp; rfl))
              intro gb523 hg w79 hbox hb
              replace HO_6 := Aside0.mk (Kd.R_below (zr HO_6) hb)
              replace HO_498000 := Aside0.mk (Kd.R_below (zr HO_498000) hb)
              replace HO_504000 := Aside0.mk (Kd.R_below (zr HO_504000) hb)
              replace HO_510000 := Aside0.mk (Kd.R_below (zr HO_510000) hb)
              replace HO520 := Aside0.mk (Kd.R_below (zr HO520) hb)
              replace HR517 := Aside0.mk (Kd.C_below (zc HR517.out) hb)
              have BK523 := Aside0.mk (hbox)
              have GW523 := Aside0.mk ((by rw [hg]; exact (below_size (zb HB)) : w.heap.size ≤ gb523))
              have GE523 := Aside0.mk ((by rw [hg]; exact (below_size (zb HB)) : w.heap.size ≤ gb523))
              replace HB := Aside0.mk (below_step (zb HB) hb)
              have NB497_523 := Aside0.mk ((by rw [hg]; exact Nat.ne_of_lt (blk_lt (g := gb497) (o := .cells #[.slice Ao12 t490.length co12, .int .i64 t493] 25 (0, 0)) (zk BK497)) : gb497 ≠ gb523))
              have NB523_497 := Aside0.mk ((by rw [hg]; exact Nat.ne_of_gt (blk_lt (g := gb497) (o := .cells #[.slice Ao12 t490.length co12, .int .i64 t493] 25 (0, 0)) (zk BK497)) : gb523 ≠ gb497))
              replace BK497 := Aside0.mk (blk_below (g := gb497) (o := .cells #[.slice Ao12 t490.length co12, .int .i64 t493] 25 (0, 0)) (zk BK497) hb)
              have NB503_523 := Aside0.mk ((by rw [hg]; exact Nat.ne_of_lt (blk_lt (g := gb503) (o := .cells #[.slice Ao17 t498.length co17, .int .i64 t501] 25 (0, 0)) (zk BK503)) : gb503 ≠ gb523))
              have NB523_503 := Aside0.mk ((by rw [hg]; exact Nat.ne_of_gt (blk_lt (g := gb503) (o := .cells #[.slice Ao17 t498.length co17, .int .i64 t501] 25 (0, 0)) (zk BK503)) : gb523 ≠ gb503))
              replace BK503 := Aside0.mk (blk_below (g := gb503) (o := .cells #[.slice Ao17 t498.length co17, .int .i64 t501] 25 (0, 0)) (zk BK503) hb)
              have NB509_523 := Aside0.mk ((by rw [hg]; exact Nat.ne_of_lt (blk_lt (g := gb509) (o := .cells #[.slice Ao23 t504.length co23, .int .i64 t507] 25 (0, 0)) (zk BK509)) : gb509 ≠ gb523))
              have NB523_509 := Aside0.mk ((by rw [hg]; exact Nat.ne_of_gt (blk_lt (g := gb509) (o := .cells #[.slice Ao23 t504.length co23, .int .i64 t507] 25 (0, 0)) (zk BK509)) : gb523 ≠ gb509))
              replace BK509 := Aside0.mk (blk_below (g := gb509) (o := .cells #[.slice Ao23 t504.length co23, .int .i64 t507] 25 (0, 0)) (zk BK509) hb)
              clear hb hbox hg
              refine hK.out _ _ ⟨(blk_cell BK497.out 0).trans rfl, (blk_cell BK497.out 1).trans rfl⟩ (fun hHeld => ?_)
              clear hK K
              refine nm ?_
              exact norm_ (by simp only [putAll, Act.put, s1, s2, s3]) (hCont (v519, gb523) _ ⟨hHeld, (by (with_reducible repeat (first | apply Kd.R_alloc | apply Kd.R_drewN | apply Kd.R_drew)); exact Kd.R_mono HO520.out (fun _ hk => ⟨hk.1.1.2, ⟨hk.1.2, ⟨hk.2, hk.1.1.1.2⟩⟩⟩)), (by (with_reducible repeat (first | apply Kd.R_alloc | apply Kd.R_drewN | apply Kd.R_drew)); exact Kd.R_mono HO_498000.out (fun _ hk => ⟨hk.2, ⟨hk.1.2.1, ⟨hk.1.2.2, hk.1.1⟩⟩⟩)), (by (with_reducible repeat (first | apply Kd.R_alloc | apply Kd.R_drewN | apply Kd.R_drew)); exact Kd.R_mono HO_504000.out (fun _ hk => ⟨hk.2, ⟨hk.1.2.1, ⟨hk.1.2.2, hk.1.1⟩⟩⟩)), (by (with_reducible repeat (first | apply Kd.R_alloc | apply Kd.R_drewN | apply Kd.R_drew)); exact Kd.R_mono HO_510000.out (fun _ hk => ⟨hk.2, ⟨hk.1.2.1, ⟨hk.1.2.2, hk.1.1⟩⟩⟩)), (by (with_reducible repeat (first | apply Kd.R_alloc | apply Kd.R_drewN | apply Kd.R_drew)); exact Kd.R_mono HO_6.out (fun _ hk => ⟨hk.2, ⟨hk.1.1, ⟨hk.1.2.1, hk.1.2.2⟩⟩⟩)), (zk BK497), (zk BK503), (zk BK509), (zk BK523), GW523.out, GE523.out, NB497_523.out, NB523_497.out, NB503_523.out, NB523_503.out, NB509_523.out, NB523_509.out, (zb HB)⟩)
             ·skip
              refine box_step ?hg (N := 12) ?hd (cs := #[.slice none 0 0, .int .i64 0]) (t := 25) ?hr ?_; (case hd => rfl); (case hg => rfl); (case hr => first | (go_simp; done) | (go_simp; rfl))
              intro gb523 hg w78 hbox hb
              replace HO_6 := Aside0.mk (Kd.R_below (zr HO_6) hb)
              replace HO_498000 := Aside0.mk (Kd.R_below (zr HO_498000) hb)
              replace HO_504000 := Aside0.mk (Kd.R_below (zr HO_504000) hb)
              replace HO_510000 := Aside0.mk (Kd.R_below (zr HO_510000) hb)
              replace HR517 := Aside0.mk (Kd.C_below (zc HR517.out) hb)
              have BK523 := Aside0.mk (hbox)
              have GW523 := Aside0.mk ((by rw [hg]; exact (below_size (zb HB)) : w.heap.size ≤ gb523))
              have GE523 := Aside0.mk ((by rw [hg]; exact (below_size (zb HB)) : w.heap.size ≤ gb523))
              replace HB := Aside0.mk (below_step (zb HB) hb)
              have NB497_523 := Aside0.mk ((by rw [hg]; exact Nat.ne_of_lt (blk_lt (g := gb497) (o := .cells #[.slice Ao12 t490.length co12, .int .i64 t493] 25 (0, 0)) (zk BK497)) : gb497 ≠ gb523))
              have NB523_497 := Aside0.mk ((by rw [hg]; exact Nat.ne_of_gt (blk_lt (g := gb497) (o := .cells #[.slice Ao12 t490.length co12, .int .i64 t493] 25 (0, 0)) (zk BK497)) : gb523 ≠ gb497))
              replace BK497 := Aside0.mk (blk_below (g := gb497) (o := .cells #[.slice Ao12 t490.length co12, .int .i64 t493] 25 (0, 0)) (zk BK497) hb)
              have NB503_523 := Aside0.mk ((by rw [hg]; exact Nat.ne_of_lt (blk_lt (g := gb503) (o := .cells #[.slice Ao17 t498.length co17, .int .i64 t501] 25 (0, 0)) (zk BK503)) : gb503 ≠ gb523))
              have NB523_503 := Aside0.mk ((by rw [hg]; exact Nat.ne_of_gt (blk_lt (g := gb503) (o := .cells #[.slice Ao17 t498.length co17, .int .i64 t501] 25 (0, 0)) (zk BK503)) : gb523 ≠ gb503))
              replace BK503 := Aside0.mk (blk_below (g := gb503) (o := .cells #[.slice Ao17 t498.length co17, .int .i64 t501] 25 (0, 0)) (zk BK503) hb)
              have NB509_523 := Aside0.mk ((by rw [hg]; exact Nat.ne_of_lt (blk_lt (g := gb509) (o := .cells #[.slice Ao23 t504.length co23, .int .i64 t507] 25 (0, 0)) (zk BK509)) : gb509 ≠ gb523))
              have NB523_509 := Aside0.mk ((by rw [hg]; exact Nat.ne_of_gt (blk_lt (g := gb509) (o := .cells #[.slice Ao23 t504.length co23, .int .i64 t507] 25 (0, 0)) (zk BK509)) : gb523 ≠ gb509))
              replace BK509 := Aside0.mk (blk_below (g := gb509) (o := .cells #[.slice Ao23 t504.length co23, .int .i64 t507] 25 (0, 0)) (zk BK509) hb)
              clear hb hbox hg
              refine hK.out _ _ ⟨(blk_cell BK497.out 0).trans rfl, (blk_cell BK497.out 1).trans rfl⟩ (fun hHeld => ?_)
              clear hK K
              refine nm ?_
              refine one_ (i := 4) (N := some 79) (bm 11 287) rfl rfl (one_of HT_.out (by kernel_rfl)) (by decide) (fun K hK => ?_)
              refine gs Try.func39 #[.agg #[.slice Ao12 t490.length co12, .int .i64 t493], .slice Ao14 y514.length co14] ?_
              with_reducible refine (impl_HeadWrite.calls kj8 _ _ t490 t493 _ _ y514 t518 t521 t522 _ ?side1 ?side2 ?side3 ?side4 A69.out).mono ?_
              (case side1 => exact zc (Kd.R_reads' HO_498000.out).2.2)
              (case side2 => exact (Kd.R_reads' HO_498000.out).2.1)
              (case side3 => exact zc HR517.out)
              (case side4 => exact HC517.out)
              rintro e w79 ⟨v519, rfl, ho0, hb⟩
              refine ⟨_, rfl, ?_⟩
              have HO520 := Aside0.mk (Kd.R_lower (Kd.R_new' (Kd.R_new' (Kd.R_new' (Kd.R_new' ho0 (Kd.R_lt (zr HO_6))) (Kd.R_lt (zr HO_498000))) (Kd.R_lt (zr HO_504000))) (Kd.R_lt (zr HO_510000))) (below_size (zb HB)))
              replace HO_6 := Aside0.mk (Kd.R_elder' (zr HO_6) (Kd.R_base ho0) hb)
              replace HO_498000 := Aside0.mk (Kd.R_elder' (zr HO_498000) (Kd.R_base ho0) hb)
              replace HO_504000 := Aside0.mk (Kd.R_elder' (zr HO_504000) (Kd.R_base ho0) hb)
              replace HO_510000 := Aside0.mk (Kd.R_elder' (zr HO_510000) (Kd.R_base ho0) hb)
              replace BK497 := Aside0.mk (blk_below (g := gb497) (o := .cells #[.slice Ao12 t490.length co12, .int .i64 t493] 25 (0, 0)) (zk BK497) hb)
              replace BK503 := Aside0.mk (blk_below (g := gb503) (o := .cells #[.slice Ao17 t498.length co17, .int .i64 t501] 25 (0, 0)) (zk BK503) hb)
              replace BK509 := Aside0.mk (blk_below (g := gb509) (o := .cells #[.slice Ao23 t504.length co23, .int .i64 t507] 25 (0, 0)) (zk BK509) hb)
              replace HR517 := Aside0.mk (Kd.C_below (zc HR517.out) hb)
              replace BK523 := Aside0.mk (blk_below (g := gb523) (o := .cells #[.slice none 0 0, .int .i64 0] 25 (0, 0)) (zk BK523) hb)
              replace HB := Aside0.mk (below_step (zb HB) hb)
              (try clear hb)
              (try clear ho0)
              refine hK.out _ _ ⟨(blk_cell BK497.out 0).trans rfl, (blk_cell BK497.out 1).trans rfl⟩ (fun hHeld => ?_)
              clear hK K
              refine nm ?_
              refine pu 5 (some 74) (bm 11 319) rfl rfl ?_
              refine pu 6 (some 80) (bm 11 383) rfl rfl ?_
              refine pu 7 (some 81) (bm 11 511) rfl rfl ?_
              exact norm_ (by simp only [putAll, Act.put, s1, s2, s3]) (hCont (v519, gb523) _ ⟨hHeld, (by (with_reducible repeat (first | apply Kd.R_alloc | apply Kd.R_drewN | apply Kd.R_drew)); exact Kd.R_mono HO520.out (fun _ hk => ⟨hk.1.1.2, ⟨hk.1.2, ⟨hk.2, hk.1.1.1.2⟩⟩⟩)), (by (with_reducible repeat (first | apply Kd.R_alloc | apply Kd.R_drewN | apply Kd.R_drew)); exact Kd.R_mono HO_498000.out (fun _ hk => ⟨hk.2, ⟨hk.1.2.1, ⟨hk.1.2.2, hk.1.1⟩⟩⟩)), (by (with_reducible repeat (first | apply Kd.R_alloc | apply Kd.R_drewN | apply Kd.R_drew)); exact Kd.R_mono HO_504000.out (fun _ hk => ⟨hk.2, ⟨hk.1.2.1, ⟨hk.1.2.2, hk.1.1⟩⟩⟩)), (by (with_reducible repeat (first | apply Kd.R_alloc | apply Kd.R_drewN | apply Kd.R_drew)); exact Kd.R_mono HO_510000.out (fun _ hk => ⟨hk.2, ⟨hk.1.2.1, ⟨hk.1.2.2, hk.1.1⟩⟩⟩)), (by (with_reducible repeat (first | apply Kd.R_alloc | apply Kd.R_drewN | apply Kd.R_drew)); exact Kd.R_mono HO_6.out (fun _ hk => ⟨hk.2, ⟨hk.1.1, ⟨hk.1.2.1, hk.1.2.2⟩⟩⟩)), (zk BK497), (zk BK503), (zk BK509), (zk BK523), GW523.out, GE523.out, NB497_523.out, NB523_497.out, NB503_523.out, NB523_503.out, NB509_523.out, NB523_509.out, (zb HB)⟩)
            rintro ⟨v519, gb523⟩ w80 ⟨hS_, h0_, h1_, h2_, h3_, h4_, h5_, h6_, h7_, h8_, h9_, h10_, h11_, h12_, h13_, h14_, h15_, h16_, h17_⟩
            have n0_ : Aside0 (Kd.R k36 36 w80 w.heap.size (fun k_ => some k_ ≠ (.slice Ao12 t490.length co12 : Value).ownBlock ∧ some k_ ≠ (.slice Ao17 t498.length co17 : Value).ownBlock ∧ some k_ ≠ (.slice Ao23 t504.length co23 : Value).ownBlock ∧ some k_ ≠ (.slice Ao14 t494.length co14 : Value).ownBlock) v519 t518) := ⟨h0_⟩
            have n1_ : Aside0 (Kd.R k36 36 w80 w.heap.size (fun k_ => some k_ ≠ (v519 : Value).ownBlock ∧ some k_ ≠ (.slice Ao17 t498.length co17 : Value).ownBlock ∧ some k_ ≠ (.slice Ao23 t504.length co23 : Value).ownBlock ∧ some k_ ≠ (.slice Ao14 t494.length co14 : Value).ownBlock) (.slice Ao12 t490.length co12) t490) := ⟨h1_⟩
            have n2_ : Aside0 (Kd.R k36 36 w80 w.heap.size (fun k_ => some k_ ≠ (v519 : Value).ownBlock ∧ some k_ ≠ (.slice Ao12 t490.length co12 : Value).ownBlock ∧ some k_ ≠ (.slice Ao23 t504.length co23 : Value).ownBlock ∧ some k_ ≠ (.slice Ao14 t494.length co14 : Value).ownBlock) (.slice Ao17 t498.length co17) t498) := ⟨h2_⟩
            have n3_ : Aside0 (Kd.R k36 36 w80 w.heap.size (fun k_ => some k_ ≠ (v519 : Value).ownBlock ∧ some k_ ≠ (.slice Ao12 t490.length co12 : Value).ownBlock ∧ some k_ ≠ (.slice Ao17 t498.length co17 : Value).ownBlock ∧ some k_ ≠ (.slice Ao14 t494.length co14 : Value).ownBlock) (.slice Ao23 t504.length co23) t504) := ⟨h3_⟩
            have n4_ : Aside0 (Kd.R k36 36 w80 w.heap.size (fun k_ => some k_ ≠ (v519 : Value).ownBlock ∧ some k_ ≠ (.slice Ao12 t490.length co12 : Value).ownBlock ∧ some k_ ≠ (.slice Ao17 t498.length co17 : Value).ownBlock ∧ some k_ ≠ (.slice Ao23 t504.length co23 : Value).ownBlock) (.slice Ao14 t494.length co14) t494) := ⟨h4_⟩
            have n5_ : Aside0 (w80.heap[gb497]? = some (.cells #[.slice Ao12 t490.length co12, .int .i64 t493] 25 (0, 0))) := ⟨h5_⟩
            have n6_ : Aside0 (w80.heap[gb503]? = some (.cells #[.slice Ao17 t498.length co17, .int .i64 t501] 25 (0, 0))) := ⟨h6_⟩
            have n7_ : Aside0 (w80.heap[gb509]? = some (.cells #[.slice Ao23 t504.length co23, .int .i64 t507] 25 (0, 0))) := ⟨h7_⟩
            have n8_ : Aside0 (w80.heap[gb523]? = some (.cells #[.slice none 0 0, .int .i64 0] 25 (0, 0))) := ⟨h8_⟩
            have n9_ : Aside0 (w.heap.size ≤ gb523) := ⟨h9_⟩
            have n10_ : Aside0 (w.heap.size ≤ gb523) := ⟨h10_⟩
            have n11_ : Aside0 (gb497 ≠ gb523) := ⟨h11_⟩
            have n12_ : Aside0 (gb523 ≠ gb497) := ⟨h12_⟩
            have n13_ : Aside0 (gb503 ≠ gb523) := ⟨h13_⟩
            have n14_ : Aside0 (gb523 ≠ gb503) := ⟨h14_⟩
            have n15_ : Aside0 (gb509 ≠ gb523) := ⟨h15_⟩
            have n16_ : Aside0 (gb523 ≠ gb509) := ⟨h16_⟩
            have n17_ : Aside0 (Below w.heap.size w w80) := ⟨h17_⟩
            clear HO_6
            clear HO_498000
            clear HO_504000
            clear HO_510000
            clear BK497
            clear BK503
            clear BK509
            clear HB
            clear h0_ h1_ h2_ h3_ h4_ h5_ h6_ h7_ h8_ h9_ h10_ h11_ h12_ h13_ h14_ h15_ h16_ h17_
            have HO520 := n0_
            have HO_498000 := n1_
            have HO_504000 := n2_
            have HO_510000 := n3_
            have HO_6 := n4_
            have BK497 := n5_
            have BK503 := n6_
            have BK509 := n7_
            have BK523 := n8_
            have GW523 := n9_
            have GE523 := n10_
            have NB497_523 := n11_
            have NB523_497 := n12_
            have NB503_523 := n13_
            have NB523_503 := n14_
            have NB509_523 := n15_
            have NB523_509 := n16_
            have HB := n17_
            clear n0_ n1_ n2_ n3_ n4_ n5_ n6_ n7_ n8_ n9_ n10_ n11_ n12_ n13_ n14_ n15_ n16_ n17_
            have hHeld : w80.cell? ⟨gb497, 0, none⟩ = some (.slice Ao12 t490.length co12) ∧ w80.cell? ⟨gb497, 1, none⟩ = some (.int .i64 t493) := hS_
            obtain ⟨Ao81, co81, eo81⟩ := Kd.R_slice HO520.out
            (first | subst eo81 | (injection eo81 with f1_ f2_ f3_; have f4_ := f1_.symm; have f5_ := f3_.symm; clear f1_ f2_ f3_; subst f4_; subst f5_))
            refine norm_ (a' := ?_) ?_ ?_
            rotate_left
            ·simp only [putAll, Act.put, s1, s2, s3]
             rfl
            refine one_ (i := 9) (N := none) (bm 11 1023) rfl rfl (one_of HT_.out (by kernel_rfl)) (by decide) (fun K hK => ?_)
            have hs82 : w80.cell? ⟨gb523, 0, none⟩ = some (.slice none 0 0) := (blk_cell BK523.out 0).trans rfl
            have hfs82 := blk_frozen BK523.out 0
            have hns82_0 := NB497_523.out
            have hns82_1 := NB503_523.out
            have hns82_2 := NB509_523.out
            have hms82_0 := NB523_497.out
            have hms82_1 := NB523_503.out
            have hms82_2 := NB523_509.out
            have hs83 : w80.cell? ⟨gb523, 1, none⟩ = some (.int .i64 0) := (blk_cell BK523.out 1).trans rfl
            have hfs83 := blk_frozen BK523.out 1
            have hns83_0 := NB497_523.out
            have hns83_1 := NB503_523.out
            have hns83_2 := NB509_523.out
            have hms83_0 := NB523_497.out
            have hms83_1 := NB523_503.out
            have hms83_2 := NB523_509.out
            refine skip_ (w1 := ?_) (by rfl) rfl ?_ ?_
            rotate_left
            ·go_simp
             rfl
            refine hK.out _ _ ⟨((cell_far (p := ⟨gb523, _, none⟩) NB497_523.out _).trans (((cell_far (p := ⟨gb523, _, none⟩) NB497_523.out _).trans (hHeld.1)))), ((cell_far (p := ⟨gb523, _, none⟩) NB497_523.out _).trans (((cell_far (p := ⟨gb523, _, none⟩) NB497_523.out _).trans (hHeld.2))))⟩ (fun hHeld => ?_)
            clear hK K
            refine pu 10 (some 13) (bm 11 2047) rfl rfl ?_
            refine done_ (done_of HT_.out (by kernel_rfl)) ?_
            try go_wp2
            have n0_ : Aside0 (Kd.R k36 36 ((w80.setCell ⟨gb523, 0, none⟩ (.slice Ao81 t518.length co81)).setCell ⟨gb523, 1, none⟩ (.int .i64 t521)) w.heap.size (fun k_ => some k_ ≠ (.slice Ao12 t490.length co12 : Value).ownBlock ∧ some k_ ≠ (.slice Ao17 t498.length co17 : Value).ownBlock ∧ some k_ ≠ (.slice Ao23 t504.length co23 : Value).ownBlock ∧ some k_ ≠ (.slice Ao81 t518.length co81 : Value).ownBlock) (.slice Ao14 t494.length co14) t494) := ⟨by (with_reducible repeat (first | apply Kd.R_alloc | apply Kd.R_drewN | apply Kd.R_drew)); exact Kd.R_mono (Kd.R_far (p := ⟨gb523, 1, none⟩) (Kd.R_far (p := ⟨gb523, 0, none⟩) (Kd.R_types HO_6.out BK523.out (by decide)) (fun _ hk => hk.2) (.slice Ao81 t518.length co81)) (fun _ hk => hk.2) (.int .i64 t521)) (fun _ hk => ⟨hk.1.2.1, ⟨hk.1.2.2.1, ⟨hk.1.2.2.2, hk.1.1⟩⟩⟩)⟩
            have n1_ : Aside0 (Kd.R k36 36 ((w80.setCell ⟨gb523, 0, none⟩ (.slice Ao81 t518.length co81)).setCell ⟨gb523, 1, none⟩ (.int .i64 t521)) w.heap.size (fun k_ => some k_ ≠ (.slice Ao14 t494.length co14 : Value).ownBlock ∧ some k_ ≠ (.slice Ao17 t498.length co17 : Value).ownBlock ∧ some k_ ≠ (.slice Ao23 t504.length co23 : Value).ownBlock ∧ some k_ ≠ (.slice Ao81 t518.length co81 : Value).ownBlock) (.slice Ao12 t490.length co12) t490) := ⟨by (with_reducible repeat (first | apply Kd.R_alloc | apply Kd.R_drewN | apply Kd.R_drew)); exact Kd.R_mono (Kd.R_far (p := ⟨gb523, 1, none⟩) (Kd.R_far (p := ⟨gb523, 0, none⟩) (Kd.R_types HO_498000.out BK523.out (by decide)) (fun _ hk => hk.2) (.slice Ao81 t518.length co81)) (fun _ hk => hk.2) (.int .i64 t521)) (fun _ hk => ⟨hk.1.2.2.2, ⟨hk.1.2.1, ⟨hk.1.2.2.1, hk.1.1⟩⟩⟩)⟩
            have n2_ : Aside0 (Kd.R k36 36 ((w80.setCell ⟨gb523, 0, none⟩ (.slice Ao81 t518.length co81)).setCell ⟨gb523, 1, none⟩ (.int .i64 t521)) w.heap.size (fun k_ => some k_ ≠ (.slice Ao14 t494.length co14 : Value).ownBlock ∧ some k_ ≠ (.slice Ao12 t490.length co12 : Value).ownBlock ∧ some k_ ≠ (.slice Ao23 t504.length co23 : Value).ownBlock ∧ some k_ ≠ (.slice Ao81 t518.length co81 : Value).ownBlock) (.slice Ao17 t498.length co17) t498) := ⟨by (with_reducible repeat (first | apply Kd.R_alloc | apply Kd.R_drewN | apply Kd.R_drew)); exact Kd.R_mono (Kd.R_far (p := ⟨gb523, 1, none⟩) (Kd.R_far (p := ⟨gb523, 0, none⟩) (Kd.R_types HO_504000.out BK523.out (by decide)) (fun _ hk => hk.2) (.slice Ao81 t518.length co81)) (fun _ hk => hk.2) (.int .i64 t521)) (fun _ hk => ⟨hk.1.2.2.2, ⟨hk.1.2.1, ⟨hk.1.2.2.1, hk.1.1⟩⟩⟩)⟩
            have n3_ : Aside0 (Kd.R k36 36 ((w80.setCell ⟨gb523, 0, none⟩ (.slice Ao81 t518.length co81)).setCell ⟨gb523, 1, none⟩ (.int .i64 t521)) w.heap.size (fun k_ => some k_ ≠ (.slice Ao14 t494.length co14 : Value).ownBlock ∧ some k_ ≠ (.slice Ao12 t490.length co12 : Value).ownBlock ∧ some k_ ≠ (.slice Ao17 t498.length co17 : Value).ownBlock ∧ some k_ ≠ (.slice Ao81 t518.length co81 : Value).ownBlock) (.slice Ao23 t504.length co23) t504) := ⟨by (with_reducible repeat (first | apply Kd.R_alloc | apply Kd.R_drewN | apply Kd.R_drew)); exact Kd.R_mono (Kd.R_far (p := ⟨gb523, 1, none⟩) (Kd.R_far (p := ⟨gb523, 0, none⟩) (Kd.R_types HO_510000.out BK523.out (by decide)) (fun _ hk => hk.2) (.slice Ao81 t518.length co81)) (fun _ hk => hk.2) (.int .i64 t521)) (fun _ hk => ⟨hk.1.2.2.2, ⟨hk.1.2.1, ⟨hk.1.2.2.1, hk.1.1⟩⟩⟩)⟩
            have n4_ : Aside0 (Kd.R k36 36 ((w80.setCell ⟨gb523, 0, none⟩ (.slice Ao81 t518.length co81)).setCell ⟨gb523, 1, none⟩ (.int .i64 t521)) w.heap.size (fun k_ => some k_ ≠ (.slice Ao14 t494.length co14 : Value).ownBlock ∧ some k_ ≠ (.slice Ao12 t490.length co12 : Value).ownBlock ∧ some k_ ≠ (.slice Ao17 t498.length co17 : Value).ownBlock ∧ some k_ ≠ (.slice Ao23 t504.length co23 : Value).ownBlock) (.slice Ao81 t518.length co81) t518) := ⟨by (with_reducible repeat (first | apply Kd.R_alloc | apply Kd.R_drewN | apply Kd.R_drew)); exact Kd.R_mono (Kd.R_far (p := ⟨gb523, 1, none⟩) (Kd.R_far (p := ⟨gb523, 0, none⟩) (Kd.R_types HO520.out BK523.out (by decide)) (fun _ hk => hk.2) (.slice Ao81 t518.length co81)) (fun _ hk => hk.2) (.int .i64 t521)) (fun _ hk => ⟨hk.1.2.2.2, ⟨hk.1.1, ⟨hk.1.2.1, hk.1.2.2.1⟩⟩⟩)⟩
            have n5_ : Aside0 (((w80.setCell ⟨gb523, 0, none⟩ (.slice Ao81 t518.length co81)).setCell ⟨gb523, 1, none⟩ (.int .i64 t521)).heap[gb497]? = some (.cells #[.slice Ao12 t490.length co12, .int .i64 t493] 25 (0, 0))) := ⟨by (with_reducible repeat (first | refine blk_drewN ?_ _ | refine blk_drew ?_ | refine blk_alloc ?_ _)); refine blk_far ?_ NB497_523.out _; (with_reducible repeat (first | refine blk_drewN ?_ _ | refine blk_drew ?_ | refine blk_alloc ?_ _)); refine blk_far ?_ NB497_523.out _; exact zk BK497⟩
            have n6_ : Aside0 (((w80.setCell ⟨gb523, 0, none⟩ (.slice Ao81 t518.length co81)).setCell ⟨gb523, 1, none⟩ (.int .i64 t521)).heap[gb503]? = some (.cells #[.slice Ao17 t498.length co17, .int .i64 t501] 25 (0, 0))) := ⟨by (with_reducible repeat (first | refine blk_drewN ?_ _ | refine blk_drew ?_ | refine blk_alloc ?_ _)); refine blk_far ?_ NB503_523.out _; (with_reducible repeat (first | refine blk_drewN ?_ _ | refine blk_drew ?_ | refine blk_alloc ?_ _)); refine blk_far ?_ NB503_523.out _; exact zk BK503⟩
            have n7_ : Aside0 (((w80.setCell ⟨gb523, 0, none⟩ (.slice Ao81 t518.length co81)).setCell ⟨gb523, 1, none⟩ (.int .i64 t521)).heap[gb509]? = some (.cells #[.slice Ao23 t504.length co23, .int .i64 t507] 25 (0, 0))) := ⟨by (with_reducible repeat (first | refine blk_drewN ?_ _ | refine blk_drew ?_ | refine blk_alloc ?_ _)); refine blk_far ?_ NB509_523.out _; (with_reducible repeat (first | refine blk_drewN ?_ _ | refine blk_drew ?_ | refine blk_alloc ?_ _)); refine blk_far ?_ NB509_523.out _; exact zk BK509⟩
            have n8_ : Aside0 (((w80.setCell ⟨gb523, 0, none⟩ (.slice Ao81 t518.length co81)).setCell ⟨gb523, 1, none⟩ (.int .i64 t521)).heap[gb523]? = some (.cells #[.slice Ao81 t518.length co81, .int .i64 t521] 25 (0, 0))) := ⟨by (with_reducible repeat (first | refine blk_drewN ?_ _ | refine blk_drew ?_ | refine blk_alloc ?_ _)); refine blk_put (cs := #[.slice Ao81 t518.length co81, .int .i64 0]) ?_ 1 _ rfl; (with_reducible repeat (first | refine blk_drewN ?_ _ | refine blk_drew ?_ | refine blk_alloc ?_ _)); refine blk_put (cs := #[.slice none 0 0, .int .i64 0]) ?_ 0 _ rfl; exact zk BK523⟩
            have n9_ : Aside0 (Below w.heap.size w ((w80.setCell ⟨gb523, 0, none⟩ (.slice Ao81 t518.length co81)).setCell ⟨gb523, 1, none⟩ (.int .i64 t521))) := ⟨zb HB⟩
            (try clear HO_6)
            (try clear HO_498000)
            (try clear HO_504000)
            (try clear HO_510000)
            (try clear HO520)
            (try clear BK497)
            (try clear BK503)
            (try clear BK509)
            (try clear BK523)
            (try clear HB)
            generalize ((w80.setCell ⟨gb523, 0, none⟩ (.slice Ao81 t518.length co81)).setCell ⟨gb523, 1, none⟩ (.int .i64 t521)) = w84 at n0_ n1_ n2_ n3_ n4_ n5_ n6_ n7_ n8_ n9_ ⊢
            have HO_6 := n0_
            have HO_498000 := n1_
            have HO_504000 := n2_
            have HO_510000 := n3_
            have HO520 := n4_
            have BK497 := n5_
            have BK503 := n6_
            have BK509 := n7_
            have BK523 := n8_
            have HB := n9_
            clear n0_ n1_ n2_ n3_ n4_ n5_ n6_ n7_ n8_ n9_
            replace HO_6 := Aside0.mk (Kd.R_drew HO_6.out)
            replace HO_498000 := Aside0.mk (Kd.R_drew HO_498000.out)
            replace HO_504000 := Aside0.mk (Kd.R_drew HO_504000.out)
            replace HO_510000 := Aside0.mk (Kd.R_drew HO_510000.out)
            replace HO520 := Aside0.mk (Kd.R_drew HO520.out)
            replace BK497 := Aside0.mk (blk_drew BK497.out)
            replace BK503 := Aside0.mk (blk_drew BK503.out)
            replace BK509 := Aside0.mk (blk_drew BK509.out)
            replace BK523 := Aside0.mk (blk_drew BK523.out)
            replace HB := Aside0.mk (below_drew1 HB.out)
            have q86 : ((ji66) : Int) ≤ ((t494.length : Int) : Int) := of_decide_eq_true za
            obtain ⟨i086, hi086, _, hsz86, _⟩ := info_parts info36
            have hroom86 : t494.length ≤ co14 := (Kd.R_reads' HO_6.out).2.1
            have hC86 : Kd.C k36 _ Ao14 t494.length t494 := (Kd.R_reads' HO_6.out).2.2
            have q086 : (0 : Int) ≤ ((ji66) : Int) := of_decide_eq_true za
            have hcut86 := cut_from (P := Try.prog) 23 36 .i64 Try.underlying23 hi086 3 hsz86 Ao14 t494.length co14 (ji66) q086 q86
            have hr86 := Kd.C_drop (m := ((ji66) : Int).toNat) (c := co14) hC86 (by omega) hroom86
            obtain ⟨A86, hA86⟩ : ∃ A1, A1 = (if co14 = ((ji66) : Int).toNat then Ao14 else (Ao14 : Option Addr).map (·.add (((ji66) : Int).toNat * 3))) := ⟨_, rfl⟩
            obtain ⟨c86, hc86⟩ : ∃ c1, c1 = co14 - ((ji66) : Int).toNat := ⟨_, rfl⟩
            have hy86 : y524.length = t494.length - ((ji66) : Int).toNat := (by rw [Ny524.out, List.length_drop] <;> omega)
            rw [show (t494).drop ((ji66) : Int).toNat = y524 from Ny524.out.symm] at hr86
            replace hr86 : Kd.C k36 _ A86 y524.length y524 := (by rw [hA86]; exact hr86)
            rw [← hy86, ← hA86, ← hc86] at hcut86
            have HR527 := Aside0.mk hr86
            have HC527 := Aside0.mk (show y524.length ≤ c86 from by rw [hy86, hc86]; exact Nat.sub_le_sub_right hroom86 _)
            clear hr86 hC86 hroom86 hi086 hsz86 hc86
            have KY86 := Aside0.mk hy86
            have KA86 := Aside0.mk hA86
            clear hy86 hA86
            have KL86 := Aside0.mk (show ((ji66) : Int).toNat ≤ t494.length from by omega)
            replace q86 := eq_true q86
            refine start_ (n := 11) (S := fun w' => w'.cell? ⟨gb523, 0, none⟩ = some (.slice Ao81 t518.length co81) ∧ w'.cell? ⟨gb523, 1, none⟩ = some (.int .i64 t521)) (ds := []) #[false, false, false, false, false, false, false, false, false, false, false] (by kernel_rfl) rfl rfl ⟨(blk_cell BK523.out 0).trans rfl, (blk_cell BK523.out 1).trans rfl⟩ (fun hHeld => ?_); refine with_tabW laws_FnHeadCut.tab10 laws_FnHeadCut.bits10 (fun HT_ HW_ => ?_)
            generalize w84.drew = w85 at HO_6 HO_498000 HO_504000 HO_510000 HO520 BK497 BK503 BK509 BK523 HB HR527 hHeld ⊢
            refine pu 1 (some 84) (bm 11 2) rfl rfl ?_
            refine pu 2 (some 85) (bm 11 6) rfl rfl ?_
            refine pu 3 (some 86) (bm 11 14) rfl rfl ?_
            refine tk2 0 (some 83) (bm 11 15) rfl rfl hHeld ?_
            refine join_ (σ := Value × Nat) 2 #[true, true, true, true, true, true, true, true, true, false, false] (fun s_ => [(87, .tuple #[.agg #[s_.1, .int .i64 t531], .string t532]), (14, .pointer (some ⟨s_.2, 0, none⟩)), (82, .tuple #[.agg #[s_.1, .int .i64 t531], .string t532]), (88, .agg #[s_.1, .int .i64 t531]), (89, .string t532)]) (fun s_ w' => (w'.cell? ⟨gb523, 0, none⟩ = some (.slice Ao81 t518.length co81) ∧ w'.cell? ⟨gb523, 1, none⟩ = some (.int .i64 t521)) ∧ (Kd.R k36 36 w' w.heap.size (fun k_ => some k_ ≠ (s_.1 : Value).ownBlock ∧ some k_ ≠ (.slice Ao12 t490.length co12 : Value).ownBlock ∧ some k_ ≠ (.slice Ao17 t498.length co17 : Value).ownBlock ∧ some k_ ≠ (.slice Ao23 t504.length co23 : Value).ownBlock ∧ some k_ ≠ (.slice Ao14 t494.length co14 : Value).ownBlock) (.slice Ao81 t518.length co81) t518) ∧ (Kd.R k36 36 w' w.heap.size (fun k_ => some k_ ≠ (.slice Ao81 t518.length co81 : Value).ownBlock ∧ some k_ ≠ (.slice Ao12 t490.length co12 : Value).ownBlock ∧ some k_ ≠ (.slice Ao17 t498.length co17 : Value).ownBlock ∧ some k_ ≠ (.slice Ao23 t504.length co23 : Value).ownBlock ∧ some k_ ≠ (.slice Ao14 t494.length co14 : Value).ownBlock) s_.1 t528) ∧ (Kd.R k36 36 w' w.heap.size (fun k_ => some k_ ≠ (.slice Ao81 t518.length co81 : Value).ownBlock ∧ some k_ ≠ (s_.1 : Value).ownBlock ∧ some k_ ≠ (.slice Ao17 t498.length co17 : Value).ownBlock ∧ some k_ ≠ (.slice Ao23 t504.length co23 : Value).ownBlock ∧ some k_ ≠ (.slice Ao14 t494.length co14 : Value).ownBlock) (.slice Ao12 t490.length co12) t490) ∧ (Kd.R k36 36 w' w.heap.size (fun k_ => some k_ ≠ (.slice Ao81 t518.length co81 : Value).ownBlock ∧ some k_ ≠ (s_.1 : Value).ownBlock ∧ some k_ ≠ (.slice Ao12 t490.length co12 : Value).ownBlock ∧ some k_ ≠ (.slice Ao23 t504.length co23 : Value).ownBlock ∧ some k_ ≠ (.slice Ao14 t494.length co14 : Value).ownBlock) (.slice Ao17 t498.length co17) t498) ∧ (Kd.R k36 36 w' w.heap.size (fun k_ => some k_ ≠ (.slice Ao81 t518.length co81 : Value).ownBlock ∧ some k_ ≠ (s_.1 : Value).ownBlock ∧ some k_ ≠ (.slice Ao12 t490.length co12 : Value).ownBlock ∧ some k_ ≠ (.slice Ao17 t498.length co17 : Value).ownBlock ∧ some k_ ≠ (.slice Ao14 t494.length co14 : Value).ownBlock) (.slice Ao23 t504.length co23) t504) ∧ (Kd.R k36 36 w' w.heap.size (fun k_ => some k_ ≠ (.slice Ao81 t518.length co81 : Value).ownBlock ∧ some k_ ≠ (s_.1 : Value).ownBlock ∧ some k_ ≠ (.slice Ao12 t490.length co12 : Value).ownBlock ∧ some k_ ≠ (.slice Ao17 t498.length co17 : Value).ownBlock ∧ some k_ ≠ (.slice Ao23 t504.length co23 : Value).ownBlock) (.slice Ao14 t494.length co14) t494) ∧ (w'.heap[gb497]? = some (.cells #[.slice Ao12 t490.length co12, .int .i64 t493] 25 (0, 0))) ∧ (w'.heap[gb503]? = some (.cells #[.slice Ao17 t498.length co17, .int .i64 t501] 25 (0, 0))) ∧ (w'.heap[gb509]? = some (.cells #[.slice Ao23 t504.length co23, .int .i64 t507] 25 (0, 0))) ∧ (w'.heap[gb523]? = some (.cells #[.slice Ao81 t518.length co81, .int .i64 t521] 25 (0, 0))) ∧ (w'.heap[s_.2]? = some (.cells #[.slice none 0 0, .int .i64 0] 25 (0, 0))) ∧ (w.heap.size ≤ s_.2) ∧ (w.heap.size ≤ s_.2) ∧ (gb497 ≠ s_.2) ∧ (s_.2 ≠ gb497) ∧ (gb503 ≠ s_.2) ∧ (s_.2 ≠ gb503) ∧ (gb509 ≠ s_.2) ∧ (s_.2 ≠ gb509) ∧ (gb523 ≠ s_.2) ∧ (s_.2 ≠ gb523) ∧ (Below w.heap.size w w')) ?_ ?_
            rotate_left
            ·intro hCont
             refine two_ (i := 4) (j := 8) (Ni := some 87) (Nj := some 14) #[true, true, true, true, true, false, false, false, false, false, false] #[true, true, true, true, false, false, false, false, true, false, false] rfl rfl rfl rfl (two_of HT_.out (by kernel_rfl)) (by decide) (by decide) (fun K hK => ?_) (fun K hK => ?_)
             ·skip
              refine gs Try.func39 #[.agg #[.slice Ao81 t518.length co81, .int .i64 t521], .slice A86 y524.length c86] ?_
              with_reducible refine (impl_HeadWrite.calls kj8 _ _ t518 t521 _ _ y524 t528 t531 t532 _ ?side1 ?side2 ?side3 ?side4 A72.out).mono ?_
              (case side1 => exact zc (Kd.R_reads' HO520.out).2.2)
              (case side2 => exact (Kd.R_reads' HO520.out).2.1)
              (case side3 => exact zc HR527.out)
              (case side4 => exact HC527.out)
              rintro e w87 ⟨v529, rfl, ho0, hb⟩
              refine ⟨_, rfl, ?_⟩
              have HO530 := Aside0.mk (Kd.R_lower (Kd.R_new' (Kd.R_new' (Kd.R_new' (Kd.R_new' (Kd.R_new' ho0 (Kd.R_lt (zr HO_6))) (Kd.R_lt (zr HO_498000))) (Kd.R_lt (zr HO_504000))) (Kd.R_lt (zr HO_510000))) (Kd.R_lt (zr HO520))) (below_size (zb HB)))
              replace HO_6 := Aside0.mk (Kd.R_elder' (zr HO_6) (Kd.R_base ho0) hb)
              replace HO_498000 := Aside0.mk (Kd.R_elder' (zr HO_498000) (Kd.R_base ho0) hb)
              replace HO_504000 := Aside0.mk (Kd.R_elder' (zr HO_504000) (Kd.R_base ho0) hb)
              replace HO_510000 := Aside0.mk (Kd.R_elder' (zr HO_510000) (Kd.R_base ho0) hb)
              replace HO520 := Aside0.mk (Kd.R_elder' (zr HO520) (Kd.R_base ho0) hb)
              replace BK497 := Aside0.mk (blk_below (g := gb497) (o := .cells #[.slice Ao12 t490.length co12, .int .i64 t493] 25 (0, 0)) (zk BK497) hb)
              replace BK503 := Aside0.mk (blk_below (g := gb503) (o := .cells #[.slice Ao17 t498.length co17, .int .i64 t501] 25 (0, 0)) (zk BK503) hb)
              replace BK509 := Aside0.mk (blk_below (g := gb509) (o := .cells #[.slice Ao23 t504.length co23, .int .i64 t507] 25 (0, 0)) (zk BK509) hb)
              replace BK523 := Aside0.mk (blk_below (g := gb523) (o := .cells #[.slice Ao81 t518.length co81, .int .i64 t521] 25 (0, 0)) (zk BK523) hb)
              replace HR527 := Aside0.mk (Kd.C_below (zc HR527.out) hb)
              replace HB := Aside0.mk (below_step (zb HB) hb)
              (try clear hb)
              (try clear ho0)
              refine hK.out _ _ ⟨(blk_cell BK523.out 0).trans rfl, (blk_cell BK523.out 1).trans rfl⟩ (fun hHeld => ?_)
              clear hK K
              refine nm ?_
              refine pu 5 (some 82) (bm 11 63) rfl rfl ?_
              refine pu 6 (some 88) (bm 11 127) rfl rfl ?_
              refine pu 7 (some 89) (bm 11 255) rfl rfl ?_
              refine one_ (i := 8) (N := some 14) (bm 11 511) rfl rfl (one_of HT_.out (by kernel_rfl)) (by decide) (fun K hK => ?_)
              refine box_step ?hg (N := 14) ?hd (cs := #[.slice none 0 0, .int .i64 0]) (t := 25) ?hr ?_; (case hd => rfl); (case hg => rfl); (case hr => first | (go_simp; done) | (go_simp; rfl))
              intro gb533 hg w88 hbox hb
              replace HO_6 := Aside0.mk (Kd.R_below (zr HO_6) hb)
              replace HO_498000 := Aside0.mk (Kd.R_below (zr HO_498000) hb)
              replace HO_504000 := Aside0.mk (Kd.R_below (zr HO_504000) hb)
              replace HO_510000 := Aside0.mk (Kd.R_below (zr HO_510000) hb)
              replace HO520 := Aside0.mk (Kd.R_below (zr HO520) hb)
              replace HO530 := Aside0.mk (Kd.R_below (zr HO530) hb)
              replace HR527 := Aside0.mk (Kd.C_below (zc HR527.out) hb)
              have BK533 := Aside0.mk (hbox)
              have GW533 := Aside0.mk ((by rw [hg]; exact (below_size (zb HB)) : w.heap.size ≤ gb533))
              have GE533 := Aside0.mk ((by rw [hg]; exact (below_size (zb HB)) : w.heap.size ≤ gb533))
              replace HB := Aside0.mk (below_step (zb HB) hb)
              have NB497_533 := Aside0.mk ((by rw [hg]; exact Nat.ne_of_lt (blk_lt (g := gb497) (o := .cells #[.slice Ao12 t490.length co12, .int .i64 t493] 25 (0, 0)) (zk BK497)) : gb497 ≠ gb533))
              have NB533_497 := Aside0.mk ((by rw [hg]; exact Nat.ne_of_gt (blk_lt (g := gb497) (o := .cells #[.slice Ao12 t490.length co12, .int .i64 t493] 25 (0, 0)) (zk BK497)) : gb533 ≠ gb497))
              replace BK497 := Aside0.mk (blk_below (g := gb497) (o := .cells #[.slice Ao12 t490.length co12, .int .i64 t493] 25 (0, 0)) (zk BK497) hb)
              have NB503_533 := Aside0.mk ((by rw [hg]; exact Nat.ne_of_lt (blk_lt (g := gb503) (o := .cells #[.slice Ao17 t498.length co17, .int .i64 t501] 25 (0, 0)) (zk BK503)) : gb503 ≠ gb533))
              have NB533_503 := Aside0.mk ((by rw [hg]; exact Nat.ne_of_gt (blk_lt (g := gb503) (o := .cells #[.slice Ao17 t498.length co17, .int .i64 t501] 25 (0, 0)) (zk BK503)) : gb533 ≠ gb503))
              replace BK503 := Aside0.mk (blk_below (g := gb503) (o := .cells #[.slice Ao17 t498.length co17, .int .i64 t501] 25 (0, 0)) (zk BK503) hb)
              have NB509_533 := Aside0.mk ((by rw [hg]; exact Nat.ne_of_lt (blk_lt (g := gb509) (o := .cells #[.slice Ao23 t504.length co23, .int .i64 t507] 25 (0, 0)) (zk BK509)) : gb509 ≠ gb533))
              have NB533_509 := Aside0.mk ((by rw [hg]; exact Nat.ne_of_gt (blk_lt (g := gb509) (o := .cells #[.slice Ao23 t504.length co23, .int .i64 t507] 25 (0, 0)) (zk BK509)) : gb533 ≠ gb509))
              replace BK509 := Aside0.mk (blk_below (g := gb509) (o := .cells #[.slice Ao23 t504.length co23, .int .i64 t507] 25 (0, 0)) (zk BK509) hb)
              have NB523_533 := Aside0.mk ((by rw [hg]; exact Nat.ne_of_lt (blk_lt (g := gb523) (o := .cells #[.slice Ao81 t518.length co81, .int .i64 t521] 25 (0, 0)) (zk BK523)) : gb523 ≠ gb533))
              have NB533_523 := Aside0.mk ((by rw [hg]; exact Nat.ne_of_gt (blk_lt (g := gb523) (o := .cells #[.slice Ao81 t518.length co81, .int .i64 t521] 25 (0, 0)) (zk BK523)) : gb533 ≠ gb523))
              replace BK523 := Aside0.mk (blk_below (g := gb523) (o := .cells #[.slice Ao81 t518.length co81, .int .i64 t521] 25 (0, 0)) (zk BK523) hb)
              clear hb hbox hg
              refine hK.out _ _ ⟨(blk_cell BK523.out 0).trans rfl, (blk_cell BK523.out 1).trans rfl⟩ (fun hHeld => ?_)
              clear hK K
              refine nm ?_
              exact norm_ (by simp only [putAll, Act.put, s1, s2, s3]) (hCont (v529, gb533) _ ⟨hHeld, (by (with_reducible repeat (first | apply Kd.R_alloc | apply Kd.R_drewN | apply Kd.R_drew)); exact Kd.R_mono HO520.out (fun _ hk => ⟨hk.2, ⟨hk.1.2.1, ⟨hk.1.2.2.1, ⟨hk.1.2.2.2, hk.1.1⟩⟩⟩⟩)), (by (with_reducible repeat (first | apply Kd.R_alloc | apply Kd.R_drewN | apply Kd.R_drew)); exact Kd.R_mono HO530.out (fun _ hk => ⟨hk.2, ⟨hk.1.1.1.2, ⟨hk.1.1.2, ⟨hk.1.2, hk.1.1.1.1.2⟩⟩⟩⟩)), (by (with_reducible repeat (first | apply Kd.R_alloc | apply Kd.R_drewN | apply Kd.R_drew)); exact Kd.R_mono HO_498000.out (fun _ hk => ⟨hk.1.2.2.2, ⟨hk.2, ⟨hk.1.2.1, ⟨hk.1.2.2.1, hk.1.1⟩⟩⟩⟩)), (by (with_reducible repeat (first | apply Kd.R_alloc | apply Kd.R_drewN | apply Kd.R_drew)); exact Kd.R_mono HO_504000.out (fun _ hk => ⟨hk.1.2.2.2, ⟨hk.2, ⟨hk.1.2.1, ⟨hk.1.2.2.1, hk.1.1⟩⟩⟩⟩)), (by (with_reducible repeat (first | apply Kd.R_alloc | apply Kd.R_drewN | apply Kd.R_drew)); exact Kd.R_mono HO_510000.out (fun _ hk => ⟨hk.1.2.2.2, ⟨hk.2, ⟨hk.1.2.1, ⟨hk.1.2.2.1, hk.1.1⟩⟩⟩⟩)), (by (with_reducible repeat (first | apply Kd.R_alloc | apply Kd.R_drewN | apply Kd.R_drew)); exact Kd.R_mono HO_6.out (fun _ hk => ⟨hk.1.2.2.2, ⟨hk.2, ⟨hk.1.1, ⟨hk.1.2.1, hk.1.2.2.1⟩⟩⟩⟩)), (zk BK497), (zk BK503), (zk BK509), (zk BK523), (zk BK533), GW533.out, GE533.out, NB497_533.out, NB533_497.out, NB503_533.out, NB533_503.out, NB509_533.out, NB533_509.out, NB523_533.out, NB533_523.out, (zb HB)⟩)
             ·skip
              refine box_step ?hg (N := 14) ?hd (cs := #[.slice none 0 0, .int .i64 0]) (t := 25) ?hr ?_; (case hd => rfl); (case hg => rfl); (case hr => first | (go_simp; done) | (go_simp; rfl))
              intro gb533 hg w87 hbox hb
              replace HO_6 := Aside0.mk (Kd.R_below (zr HO_6) hb)
              replace HO_498000 := Aside0.mk (Kd.R_below (zr HO_498000) hb)
              replace HO_504000 := Aside0.mk (Kd.R_below (zr HO_504000) hb)
              replace HO_510000 := Aside0.mk (Kd.R_below (zr HO_510000) hb)
              replace HO520 := Aside0.mk (Kd.R_below (zr HO520) hb)
              replace HR527 := Aside0.mk (Kd.C_below (zc HR527.out) hb)
              have BK533 := Aside0.mk (hbox)
              have GW533 := Aside0.mk ((by rw [hg]; exact (below_size (zb HB)) : w.heap.size ≤ gb533))
              have GE533 := Aside0.mk ((by rw [hg]; exact (below_size (zb HB)) : w.heap.size ≤ gb533))
              replace HB := Aside0.mk (below_step (zb HB) hb)
              have NB497_533 := Aside0.mk ((by rw [hg]; exact Nat.ne_of_lt (blk_lt (g := gb497) (o := .cells #[.slice Ao12 t490.length co12, .int .i64 t493] 25 (0, 0)) (zk BK497)) : gb497 ≠ gb533))
              have NB533_497 := Aside0.mk ((by rw [hg]; exact Nat.ne_of_gt (blk_lt (g := gb497) (o := .cells #[.slice Ao12 t490.length co12, .int .i64 t493] 25 (0, 0)) (zk BK497)) : gb533 ≠ gb497))
              replace BK497 := Aside0.mk (blk_below (g := gb497) (o := .cells #[.slice Ao12 t490.length co12, .int .i64 t493] 25 (0, 0)) (zk BK497) hb)
              have NB503_533 := Aside0.mk ((by rw [hg]; exact Nat.ne_of_lt (blk_lt (g := gb503) (o := .cells #[.slice Ao17 t498.length co17, .int .i64 t501] 25 (0, 0)) (zk BK503)) : gb503 ≠ gb533))
              have NB533_503 := Aside0.mk ((by rw [hg]; exact Nat.ne_of_gt (blk_lt (g := gb503) (o := .cells #[.slice Ao17 t498.length co17, .int .i64 t501] 25 (0, 0)) (zk BK503)) : gb533 ≠ gb503))
              replace BK503 := Aside0.mk (blk_below (g := gb503) (o := .cells #[.slice Ao17 t498.length co17, .int .i64 t501] 25 (0, 0)) (zk BK503) hb)
              have NB509_533 := Aside0.mk ((by rw [hg]; exact Nat.ne_of_lt (blk_lt (g := gb509) (o := .cells #[.slice Ao23 t504.length co23, .int .i64 t507] 25 (0, 0)) (zk BK509)) : gb509 ≠ gb533))
              have NB533_509 := Aside0.mk ((by rw [hg]; exact Nat.ne_of_gt (blk_lt (g := gb509) (o := .cells #[.slice Ao23 t504.length co23, .int .i64 t507] 25 (0, 0)) (zk BK509)) : gb533 ≠ gb509))
              replace BK509 := Aside0.mk (blk_below (g := gb509) (o := .cells #[.slice Ao23 t504.length co23, .int .i64 t507] 25 (0, 0)) (zk BK509) hb)
              have NB523_533 := Aside0.mk ((by rw [hg]; exact Nat.ne_of_lt (blk_lt (g := gb523) (o := .cells #[.slice Ao81 t518.length co81, .int .i64 t521] 25 (0, 0)) (zk BK523)) : gb523 ≠ gb533))
              have NB533_523 := Aside0.mk ((by rw [hg]; exact Nat.ne_of_gt (blk_lt (g := gb523) (o := .cells #[.slice Ao81 t518.length co81, .int .i64 t521] 25 (0, 0)) (zk BK523)) : gb533 ≠ gb523))
              replace BK523 := Aside0.mk (blk_below (g := gb523) (o := .cells #[.slice Ao81 t518.length co81, .int .i64 t521] 25 (0, 0)) (zk BK523) hb)
              clear hb hbox hg
              refine hK.out _ _ ⟨(blk_cell BK523.out 0).trans rfl, (blk_cell BK523.out 1).trans rfl⟩ (fun hHeld => ?_)
              clear hK K
              refine nm ?_
              refine one_ (i := 4) (N := some 87) (bm 11 287) rfl rfl (one_of HT_.out (by kernel_rfl)) (by decide) (fun K hK => ?_)
              refine gs Try.func39 #[.agg #[.slice Ao81 t518.length co81, .int .i64 t521], .slice A86 y524.length c86] ?_
              with_reducible refine (impl_HeadWrite.calls kj8 _ _ t518 t521 _ _ y524 t528 t531 t532 _ ?side1 ?side2 ?side3 ?side4 A72.out).mono ?_
              (case side1 => exact zc (Kd.R_reads' HO520.out).2.2)
              (case side2 => exact (Kd.R_reads' HO520.out).2.1)
              (case side3 => exact zc HR527.out)
              (case side4 => exact HC527.out)
              rintro e w88 ⟨v529, rfl, ho0, hb⟩
              refine ⟨_, rfl, ?_⟩
              have HO530 := Aside0.mk (Kd.R_lower (Kd.R_new' (Kd.R_new' (Kd.R_new' (Kd.R_new' (Kd.R_new' ho0 (Kd.R_lt (zr HO_6))) (Kd.R_lt (zr HO_498000))) (Kd.R_lt (zr HO_504000))) (Kd.R_lt (zr HO_510000))) (Kd.R_lt (zr HO520))) (below_size (zb HB)))
              replace HO_6 := Aside0.mk (Kd.R_elder' (zr HO_6) (Kd.R_base ho0) hb)
              replace HO_498000 := Aside0.mk (Kd.R_elder' (zr HO_498000) (Kd.R_base ho0) hb)
              replace HO_504000 := Aside0.mk (Kd.R_elder' (zr HO_504000) (Kd.R_base ho0) hb)
              replace HO_510000 := Aside0.mk (Kd.R_elder' (zr HO_510000) (Kd.R_base ho0) hb)
              replace HO520 := Aside0.mk (Kd.R_elder' (zr HO520) (Kd.R_base ho0) hb)
              replace BK497 := Aside0.mk (blk_below (g := gb497) (o := .cells #[.slice Ao12 t490.length co12, .int .i64 t493] 25 (0, 0)) (zk BK497) hb)
              replace BK503 := Aside0.mk (blk_below (g := gb503) (o := .cells #[.slice Ao17 t498.length co17, .int .i64 t501] 25 (0, 0)) (zk BK503) hb)
              replace BK509 := Aside0.mk (blk_below (g := gb509) (o := .cells #[.slice Ao23 t504.length co23, .int .i64 t507] 25 (0, 0)) (zk BK509) hb)
              replace BK523 := Aside0.mk (blk_below (g := gb523) (o := .cells #[.slice Ao81 t518.length co81, .int .i64 t521] 25 (0, 0)) (zk BK523) hb)
              replace HR527 := Aside0.mk (Kd.C_below (zc HR527.out) hb)
              replace BK533 := Aside0.mk (blk_below (g := gb533) (o := .cells #[.slice none 0 0, .int .i64 0] 25 (0, 0)) (zk BK533) hb)
              replace HB := Aside0.mk (below_step (zb HB) hb)
              (try clear hb)
              (try clear ho0)
              refine hK.out _ _ ⟨(blk_cell BK523.out 0).trans rfl, (blk_cell BK523.out 1).trans rfl⟩ (fun hHeld => ?_)
              clear hK K
              refine nm ?_
              refine pu 5 (some 82) (bm 11 319) rfl rfl ?_
              refine pu 6 (some 88) (bm 11 383) rfl rfl ?_
              refine pu 7 (some 89) (bm 11 511) rfl rfl ?_
              exact norm_ (by simp only [putAll, Act.put, s1, s2, s3]) (hCont (v529, gb533) _ ⟨hHeld, (by (with_reducible repeat (first | apply Kd.R_alloc | apply Kd.R_drewN | apply Kd.R_drew)); exact Kd.R_mono HO520.out (fun _ hk => ⟨hk.2, ⟨hk.1.2.1, ⟨hk.1.2.2.1, ⟨hk.1.2.2.2, hk.1.1⟩⟩⟩⟩)), (by (with_reducible repeat (first | apply Kd.R_alloc | apply Kd.R_drewN | apply Kd.R_drew)); exact Kd.R_mono HO530.out (fun _ hk => ⟨hk.2, ⟨hk.1.1.1.2, ⟨hk.1.1.2, ⟨hk.1.2, hk.1.1.1.1.2⟩⟩⟩⟩)), (by (with_reducible repeat (first | apply Kd.R_alloc | apply Kd.R_drewN | apply Kd.R_drew)); exact Kd.R_mono HO_498000.out (fun _ hk => ⟨hk.1.2.2.2, ⟨hk.2, ⟨hk.1.2.1, ⟨hk.1.2.2.1, hk.1.1⟩⟩⟩⟩)), (by (with_reducible repeat (first | apply Kd.R_alloc | apply Kd.R_drewN | apply Kd.R_drew)); exact Kd.R_mono HO_504000.out (fun _ hk => ⟨hk.1.2.2.2, ⟨hk.2, ⟨hk.1.2.1, ⟨hk.1.2.2.1, hk.1.1⟩⟩⟩⟩)), (by (with_reducible repeat (first | apply Kd.R_alloc | apply Kd.R_drewN | apply Kd.R_drew)); exact Kd.R_mono HO_510000.out (fun _ hk => ⟨hk.1.2.2.2, ⟨hk.2, ⟨hk.1.2.1, ⟨hk.1.2.2.1, hk.1.1⟩⟩⟩⟩)), (by (with_reducible repeat (first | apply Kd.R_alloc | apply Kd.R_drewN | apply Kd.R_drew)); exact Kd.R_mono HO_6.out (fun _ hk => ⟨hk.1.2.2.2, ⟨hk.2, ⟨hk.1.1, ⟨hk.1.2.1, hk.1.2.2.1⟩⟩⟩⟩)), (zk BK497), (zk BK503), (zk BK509), (zk BK523), (zk BK533), GW533.out, GE533.out, NB497_533.out, NB533_497.out, NB503_533.out, NB533_503.out, NB509_533.out, NB533_509.out, NB523_533.out, NB533_523.out, (zb HB)⟩)
            rintro ⟨v529, gb533⟩ w89 ⟨hS_, h0_, h1_, h2_, h3_, h4_, h5_, h6_, h7_, h8_, h9_, h10_, h11_, h12_, h13_, h14_, h15_, h16_, h17_, h18_, h19_, h20_, h21_⟩
            have n0_ : Aside0 (Kd.R k36 36 w89 w.heap.size (fun k_ => some k_ ≠ (v529 : Value).ownBlock ∧ some k_ ≠ (.slice Ao12 t490.length co12 : Value).ownBlock ∧ some k_ ≠ (.slice Ao17 t498.length co17 : Value).ownBlock ∧ some k_ ≠ (.slice Ao23 t504.length co23 : Value).ownBlock ∧ some k_ ≠ (.slice Ao14 t494.length co14 : Value).ownBlock) (.slice Ao81 t518.length co81) t518) := ⟨h0_⟩
            have n1_ : Aside0 (Kd.R k36 36 w89 w.heap.size (fun k_ => some k_ ≠ (.slice Ao81 t518.length co81 : Value).ownBlock ∧ some k_ ≠ (.slice Ao12 t490.length co12 : Value).ownBlock ∧ some k_ ≠ (.slice Ao17 t498.length co17 : Value).ownBlock ∧ some k_ ≠ (.slice Ao23 t504.length co23 : Value).ownBlock ∧ some k_ ≠ (.slice Ao14 t494.length co14 : Value).ownBlock) v529 t528) := ⟨h1_⟩
            have n2_ : Aside0 (Kd.R k36 36 w89 w.heap.size (fun k_ => some k_ ≠ (.slice Ao81 t518.length co81 : Value).ownBlock ∧ some k_ ≠ (v529 : Value).ownBlock ∧ some k_ ≠ (.slice Ao17 t498.length co17 : Value).ownBlock ∧ some k_ ≠ (.slice Ao23 t504.length co23 : Value).ownBlock ∧ some k_ ≠ (.slice Ao14 t494.length co14 : Value).ownBlock) (.slice Ao12 t490.length co12) t490) := ⟨h2_⟩
            have n3_ : Aside0 (Kd.R k36 36 w89 w.heap.size (fun k_ => some k_ ≠ (.slice Ao81 t518.length co81 : Value).ownBlock ∧ some k_ ≠ (v529 : Value).ownBlock ∧ some k_ ≠ (.slice Ao12 t490.length co12 : Value).ownBlock ∧ some k_ ≠ (.slice Ao23 t504.length co23 : Value).ownBlock ∧ some k_ ≠ (.slice Ao14 t494.length co14 : Value).ownBlock) (.slice Ao17 t498.length co17) t498) := ⟨h3_⟩
            have n4_ : Aside0 (Kd.R k36 36 w89 w.heap.size (fun k_ => some k_ ≠ (.slice Ao81 t518.length co81 : Value).ownBlock ∧ some k_ ≠ (v529 : Value).ownBlock ∧ some k_ ≠ (.slice Ao12 t490.length co12 : Value).ownBlock ∧ some k_ ≠ (.slice Ao17 t498.length co17 : Value).ownBlock ∧ some k_ ≠ (.slice Ao14 t494.length co14 : Value).ownBlock) (.slice Ao23 t504.length co23) t504) := ⟨h4_⟩
            have n5_ : Aside0 (Kd.R k36 36 w89 w.heap.size (fun k_ => some k_ ≠ (.slice Ao81 t518.length co81 : Value).ownBlock ∧ some k_ ≠ (v529 : Value).ownBlock ∧ some k_ ≠ (.slice Ao12 t490.length co12 : Value).ownBlock ∧ some k_ ≠ (.slice Ao17 t498.length co17 : Value).ownBlock ∧ some k_ ≠ (.slice Ao23 t504.length co23 : Value).ownBlock) (.slice Ao14 t494.length co14) t494) := ⟨h5_⟩
            have n6_ : Aside0 (w89.heap[gb497]? = some (.cells #[.slice Ao12 t490.length co12, .int .i64 t493] 25 (0, 0))) := ⟨h6_⟩
            have n7_ : Aside0 (w89.heap[gb503]? = some (.cells #[.slice Ao17 t498.length co17, .int .i64 t501] 25 (0, 0))) := ⟨h7_⟩
            have n8_ : Aside0 (w89.heap[gb509]? = some (.cells #[.slice Ao23 t504.length co23, .int .i64 t507] 25 (0, 0))) := ⟨h8_⟩
            have n9_ : Aside0 (w89.heap[gb523]? = some (.cells #[.slice Ao81 t518.length co81, .int .i64 t521] 25 (0, 0))) := ⟨h9_⟩
            have n10_ : Aside0 (w89.heap[gb533]? = some (.cells #[.slice none 0 0, .int .i64 0] 25 (0, 0))) := ⟨h10_⟩
            have n11_ : Aside0 (w.heap.size ≤ gb533) := ⟨h11_⟩
            have n12_ : Aside0 (w.heap.size ≤ gb533) := ⟨h12_⟩
            have n13_ : Aside0 (gb497 ≠ gb533) := ⟨h13_⟩
            have n14_ : Aside0 (gb533 ≠ gb497) := ⟨h14_⟩
            have n15_ : Aside0 (gb503 ≠ gb533) := ⟨h15_⟩
            have n16_ : Aside0 (gb533 ≠ gb503) := ⟨h16_⟩
            have n17_ : Aside0 (gb509 ≠ gb533) := ⟨h17_⟩
            have n18_ : Aside0 (gb533 ≠ gb509) := ⟨h18_⟩
            have n19_ : Aside0 (gb523 ≠ gb533) := ⟨h19_⟩
            have n20_ : Aside0 (gb533 ≠ gb523) := ⟨h20_⟩
            have n21_ : Aside0 (Below w.heap.size w w89) := ⟨h21_⟩
            clear HO_6
            clear HO_498000
            clear HO_504000
            clear HO_510000
            clear HO520
            clear BK497
            clear BK503
            clear BK509
            clear BK523
            clear HB
            clear h0_ h1_ h2_ h3_ h4_ h5_ h6_ h7_ h8_ h9_ h10_ h11_ h12_ h13_ h14_ h15_ h16_ h17_ h18_ h19_ h20_ h21_
            have HO520 := n0_
            have HO530 := n1_
            have HO_498000 := n2_
            have HO_504000 := n3_
            have HO_510000 := n4_
            have HO_6 := n5_
            have BK497 := n6_
            have BK503 := n7_
            have BK509 := n8_
            have BK523 := n9_
            have BK533 := n10_
            have GW533 := n11_
            have GE533 := n12_
            have NB497_533 := n13_
            have NB533_497 := n14_
            have NB503_533 := n15_
            have NB533_503 := n16_
            have NB509_533 := n17_
            have NB533_509 := n18_
            have NB523_533 := n19_
            have NB533_523 := n20_
            have HB := n21_
            clear n0_ n1_ n2_ n3_ n4_ n5_ n6_ n7_ n8_ n9_ n10_ n11_ n12_ n13_ n14_ n15_ n16_ n17_ n18_ n19_ n20_ n21_
            have hHeld : w89.cell? ⟨gb523, 0, none⟩ = some (.slice Ao81 t518.length co81) ∧ w89.cell? ⟨gb523, 1, none⟩ = some (.int .i64 t521) := hS_
            obtain ⟨Ao90, co90, eo90⟩ := Kd.R_slice HO530.out
            (first | subst eo90 | (injection eo90 with f1_ f2_ f3_; have f4_ := f1_.symm; have f5_ := f3_.symm; clear f1_ f2_ f3_; subst f4_; subst f5_))
            refine norm_ (a' := ?_) ?_ ?_
            rotate_left
            ·simp only [putAll, Act.put, s1, s2, s3]
             rfl
            refine one_ (i := 9) (N := none) (bm 11 1023) rfl rfl (one_of HT_.out (by kernel_rfl)) (by decide) (fun K hK => ?_)
            have hs91 : w89.cell? ⟨gb533, 0, none⟩ = some (.slice none 0 0) := (blk_cell BK533.out 0).trans rfl
            have hfs91 := blk_frozen BK533.out 0
            have hns91_0 := NB497_533.out
            have hns91_1 := NB503_533.out
            have hns91_2 := NB509_533.out
            have hns91_3 := NB523_533.out
            have hms91_0 := NB533_497.out
            have hms91_1 := NB533_503.out
            have hms91_2 := NB533_509.out
            have hms91_3 := NB533_523.out
            have hs92 : w89.cell? ⟨gb533, 1, none⟩ = some (.int .i64 0) := (blk_cell BK533.out 1).trans rfl
            have hfs92 := blk_frozen BK533.out 1
            have hns92_0 := NB497_533.out
            have hns92_1 := NB503_533.out
            have hns92_2 := NB509_533.out
            have hns92_3 := NB523_533.out
            have hms92_0 := NB533_497.out
            have hms92_1 := NB533_503.out
            have hms92_2 := NB533_509.out
            have hms92_3 := NB533_523.out
            refine skip_ (w1 := ?_) (by rfl) rfl ?_ ?_
            rotate_left
            ·go_simp
             rfl
            refine hK.out _ _ ⟨((cell_far (p := ⟨gb533, _, none⟩) NB523_533.out _).trans (((cell_far (p := ⟨gb533, _, none⟩) NB523_533.out _).trans (hHeld.1)))), ((cell_far (p := ⟨gb533, _, none⟩) NB523_533.out _).trans (((cell_far (p := ⟨gb533, _, none⟩) NB523_533.out _).trans (hHeld.2))))⟩ (fun hHeld => ?_)
            clear hK K
            refine pu 10 (some 15) (bm 11 2047) rfl rfl ?_
            refine done_ (done_of HT_.out (by kernel_rfl)) ?_
            have hnb93 := NB533_497.out
            have hnc93 := NB497_533.out
            have hnb94 := NB533_503.out
            have hnc94 := NB503_533.out
            have hnb95 := NB533_509.out
            have hnc95 := NB509_533.out
            have hnb96 := NB533_523.out
            have hnc96 := NB523_533.out
            have hcz97_0 : w89.cell? ⟨gb533, 0, none⟩ = some (.slice none 0 0) := (blk_cell BK533.out 0).trans rfl
            have hcz97_1 : w89.cell? ⟨gb533, 1, none⟩ = some (.int .i64 0) := (blk_cell BK533.out 1).trans rfl
            have hfz97_0 := blk_frozen BK533.out 0
            have hfz97_1 := blk_frozen BK533.out 1
            have hnb98 := NB509_497.out
            have hnc98 := NB497_509.out
            have hnb99 := NB509_503.out
            have hnc99 := NB503_509.out
            have hnb100 := NB509_523.out
            have hnc100 := NB523_509.out
            have hcz101_0 : w89.cell? ⟨gb509, 0, none⟩ = some (.slice Ao23 t504.length co23) := (blk_cell BK509.out 0).trans rfl
            have hcz101_1 : w89.cell? ⟨gb509, 1, none⟩ = some (.int .i64 t507) := (blk_cell BK509.out 1).trans rfl
            have hfz101_0 := blk_frozen BK509.out 0
            have hfz101_1 := blk_frozen BK509.out 1
            try go_wp2_with (first | (go_at_call 17; (with_reducible refine (laws_lkTable.calls kj8 _ _ t528 t531 _ _ t504 t507 t534 _ ?side1 ?side2 ?side3 ?side4 A75.out).mono ?_); (case side1 => refine (Kd.R_reads' (e := 36) (base := w.heap.size) (ok := fun k_ => (some k_ ≠ (.slice Ao81 t518.length co81 : Value).ownBlock ∧ (some k_ ≠ (.slice Ao12 t490.length co12 : Value).ownBlock ∧ (some k_ ≠ (.slice Ao17 t498.length co17 : Value).ownBlock ∧ (some k_ ≠ (.slice Ao23 t504.length co23 : Value).ownBlock ∧ some k_ ≠ (.slice Ao14 t494.length co14 : Value).ownBlock))))) (n := t528.length) (c := co90) ?_).2.2; exact (by (with_reducible repeat (first | apply Kd.R_alloc | apply Kd.R_drewN | apply Kd.R_drew)); exact (Kd.R_mono (Kd.R_far (p := ⟨gb533, 1, none⟩) (Kd.R_far (p := ⟨gb533, 0, none⟩) (Kd.R_types HO530.out BK533.out (by decide)) (fun _ hk => hk.2) (.slice Ao90 t528.length co90)) (fun _ hk => hk.2) (.int .i64 t531)) (fun _ h_ => h_.1)))); (case side2 => exact (Kd.R_reads' HO530.out).2.1); (case side3 => refine (Kd.R_reads' (e := 36) (base := w.heap.size) (ok := fun k_ => (some k_ ≠ (.slice Ao81 t518.length co81 : Value).ownBlock ∧ (some k_ ≠ (.slice Ao90 t528.length co90 : Value).ownBlock ∧ (some k_ ≠ (.slice Ao12 t490.length co12 : Value).ownBlock ∧ (some k_ ≠ (.slice Ao17 t498.length co17 : Value).ownBlock ∧ some k_ ≠ (.slice Ao14 t494.length co14 : Value).ownBlock))))) (n := t504.length) (c := co23) ?_).2.2; exact (by (with_reducible repeat (first | apply Kd.R_alloc | apply Kd.R_drewN | apply Kd.R_drew)); exact (Kd.R_mono (Kd.R_far (p := ⟨gb533, 1, none⟩) (Kd.R_far (p := ⟨gb533, 0, none⟩) (Kd.R_types HO_510000.out BK533.out (by decide)) (fun _ hk => hk.2) (.slice Ao90 t528.length co90)) (fun _ hk => hk.2) (.int .i64 t531)) (fun _ h_ => h_.1)))); (case side4 => exact (Kd.R_reads' HO_510000.out).2.1); rintro e w102 ⟨rfl, hb⟩; replace HO_6 := Aside0.mk (Kd.R_below (by (with_reducible repeat (first | apply Kd.R_alloc | apply Kd.R_drewN | apply Kd.R_drew)); exact (Kd.R_mono (Kd.R_far (p := ⟨gb533, 1, none⟩) (Kd.R_far (p := ⟨gb533, 0, none⟩) (Kd.R_types HO_6.out BK533.out (by decide)) (fun _ hk => hk.2) (.slice Ao90 t528.length co90)) (fun _ hk => hk.2) (.int .i64 t531)) (fun _ h_ => h_.1))) hb); replace HO_498000 := Aside0.mk (Kd.R_below (by (with_reducible repeat (first | apply Kd.R_alloc | apply Kd.R_drewN | apply Kd.R_drew)); exact (Kd.R_mono (Kd.R_far (p := ⟨gb533, 1, none⟩) (Kd.R_far (p := ⟨gb533, 0, none⟩) (Kd.R_types HO_498000.out BK533.out (by decide)) (fun _ hk => hk.2) (.slice Ao90 t528.length co90)) (fun _ hk => hk.2) (.int .i64 t531)) (fun _ h_ => h_.1))) hb); replace HO_504000 := Aside0.mk (Kd.R_below (by (with_reducible repeat (first | apply Kd.R_alloc | apply Kd.R_drewN | apply Kd.R_drew)); exact (Kd.R_mono (Kd.R_far (p := ⟨gb533, 1, none⟩) (Kd.R_far (p := ⟨gb533, 0, none⟩) (Kd.R_types HO_504000.out BK533.out (by decide)) (fun _ hk => hk.2) (.slice Ao90 t528.length co90)) (fun _ hk => hk.2) (.int .i64 t531)) (fun _ h_ => h_.1))) hb); replace HO_510000 := Aside0.mk (Kd.R_below (by (with_reducible repeat (first | apply Kd.R_alloc | apply Kd.R_drewN | apply Kd.R_drew)); exact (Kd.R_mono (Kd.R_far (p := ⟨gb533, 1, none⟩) (Kd.R_far (p := ⟨gb533, 0, none⟩) (Kd.R_types HO_510000.out BK533.out (by decide)) (fun _ hk => hk.2) (.slice Ao90 t528.length co90)) (fun _ hk => hk.2) (.int .i64 t531)) (fun _ h_ => h_.1))) hb); replace HO520 := Aside0.mk (Kd.R_below (by (with_reducible repeat (first | apply Kd.R_alloc | apply Kd.R_drewN | apply Kd.R_drew)); exact (Kd.R_mono (Kd.R_far (p := ⟨gb533, 1, none⟩) (Kd.R_far (p := ⟨gb533, 0, none⟩) (Kd.R_types HO520.out BK533.out (by decide)) (fun _ hk => hk.2) (.slice Ao90 t528.length co90)) (fun _ hk => hk.2) (.int .i64 t531)) (fun _ h_ => h_.1))) hb); replace HO530 := Aside0.mk (Kd.R_below (by (with_reducible repeat (first | apply Kd.R_alloc | apply Kd.R_drewN | apply Kd.R_drew)); exact (Kd.R_mono (Kd.R_far (p := ⟨gb533, 1, none⟩) (Kd.R_far (p := ⟨gb533, 0, none⟩) (Kd.R_types HO530.out BK533.out (by decide)) (fun _ hk => hk.2) (.slice Ao90 t528.length co90)) (fun _ hk => hk.2) (.int .i64 t531)) (fun _ h_ => h_.1))) hb); replace BK497 := Aside0.mk (blk_below (g := gb497) (o := .cells #[.slice Ao12 t490.length co12, .int .i64 t493] 25 (0, 0)) (by (with_reducible repeat (first | refine blk_drewN ?_ _ | refine blk_drew ?_ | refine blk_alloc ?_ _)); refine blk_far ?_ NB497_533.out _; (with_reducible repeat (first | refine blk_drewN ?_ _ | refine blk_drew ?_ | refine blk_alloc ?_ _)); refine blk_far ?_ NB497_533.out _; exact zk BK497) hb); replace BK503 := Aside0.mk (blk_below (g := gb503) (o := .cells #[.slice Ao17 t498.length co17, .int .i64 t501] 25 (0, 0)) (by (with_reducible repeat (first | refine blk_drewN ?_ _ | refine blk_drew ?_ | refine blk_alloc ?_ _)); refine blk_far ?_ NB503_533.out _; (with_reducible repeat (first | refine blk_drewN ?_ _ | refine blk_drew ?_ | refine blk_alloc ?_ _)); refine blk_far ?_ NB503_533.out _; exact zk BK503) hb); replace BK509 := Aside0.mk (blk_below (g := gb509) (o := .cells #[.slice Ao23 t504.length co23, .int .i64 t507] 25 (0, 0)) (by (with_reducible repeat (first | refine blk_drewN ?_ _ | refine blk_drew ?_ | refine blk_alloc ?_ _)); refine blk_far ?_ NB509_533.out _; (with_reducible repeat (first | refine blk_drewN ?_ _ | refine blk_drew ?_ | refine blk_alloc ?_ _)); refine blk_far ?_ NB509_533.out _; exact zk BK509) hb); replace BK523 := Aside0.mk (blk_below (g := gb523) (o := .cells #[.slice Ao81 t518.length co81, .int .i64 t521] 25 (0, 0)) (by (with_reducible repeat (first | refine blk_drewN ?_ _ | refine blk_drew ?_ | refine blk_alloc ?_ _)); refine blk_far ?_ NB523_533.out _; (with_reducible repeat (first | refine blk_drewN ?_ _ | refine blk_drew ?_ | refine blk_alloc ?_ _)); refine blk_far ?_ NB523_533.out _; exact zk BK523) hb); replace BK533 := Aside0.mk (blk_below (g := gb533) (o := .cells #[.slice Ao90 t528.length co90, .int .i64 t531] 25 (0, 0)) (by (with_reducible repeat (first | refine blk_drewN ?_ _ | refine blk_drew ?_ | refine blk_alloc ?_ _)); refine blk_put (cs := #[.slice Ao90 t528.length co90, .int .i64 0]) ?_ 1 _ rfl; (with_reducible repeat (first | refine blk_drewN ?_ _ | refine blk_drew ?_ | refine blk_alloc ?_ _)); refine blk_put (cs := #[.slice none 0 0, .int .i64 0]) ?_ 0 _ rfl; exact zk BK533) hb); replace HB := Aside0.mk (below_step (zb HB) hb); (try clear hb); (try clear hk)))
            go_ret
            exact ⟨by first | rfl | (simp [errW_none, errW_some] <;> rfl) | (simp only [← hji66]; first | rfl | (simp [errW_none, errW_some] <;> rfl)) | (simp [*, errW_none, errW_some] <;> rfl) | (simp [errW_none, errW_some]; exact (by intro l_; cases l_ <;> rfl : ∀ l_ : List UInt8, l_.isEmpty = !(l_ != [])) _), zb HB⟩
           ·rw [if_neg c74] at H
            have c74b0 : ((t522 ++ t532).toList == t508.toList) = false := beq_eq_false_iff_ne.mpr c74
            have c74b1 : ((t522 ++ t532).toList != t508.toList) = true := bne_iff_ne.mpr c74
            obtain rfl := Option.some.inj H
            try go_wp2
            replace HO_6 := Aside0.mk (Kd.R_drew HO_6.out)
            replace HO_498000 := Aside0.mk (Kd.R_drew HO_498000.out)
            replace HO_504000 := Aside0.mk (Kd.R_drew HO_504000.out)
            replace HO_510000 := Aside0.mk (Kd.R_drew HO_510000.out)
            replace BK497 := Aside0.mk (blk_drew BK497.out)
            replace BK503 := Aside0.mk (blk_drew BK503.out)
            replace BK509 := Aside0.mk (blk_drew BK509.out)
            replace HB := Aside0.mk (below_drew1 HB.out)
            have q104 : ((ji66) : Int) ≤ ((t494.length : Int) : Int) := of_decide_eq_true za
            obtain ⟨i0104, hi0104, _, hsz104, _⟩ := info_parts info36
            have hroom104 : t494.length ≤ co14 := (Kd.R_reads' HO_6.out).2.1
            have hC104 : Kd.C k36 _ Ao14 t494.length t494 := (Kd.R_reads' HO_6.out).2.2
            have hcut104 := cut_to (P := Try.prog) 23 36 .i64 Try.underlying23 hi0104 Ao14 t494.length co14 (ji66) (of_decide_eq_true za) q104 hroom104
            have hr104 := Kd.C_take (m := ((ji66) : Int).toNat) hC104 (by omega)
            have hy104 : y514.length = ((ji66) : Int).toNat := (by rw [Ny514.out, List.length_take]; omega)
            rw [← Ny514.out] at hr104
            rw [← hy104] at hcut104
            have HR517 := Aside0.mk hr104
            have HC517 := Aside0.mk (show y514.length ≤ co14 from by omega)
            clear hr104 hC104 hroom104 hi0104 hsz104
            have KY104 := Aside0.mk hy104
            clear hy104
            have KL104 := Aside0.mk (show ((ji66) : Int).toNat ≤ t494.length from by omega)
            replace q104 := eq_true q104
            refine start_ (n := 11) (S := fun w' => w'.cell? ⟨gb497, 0, none⟩ = some (.slice Ao12 t490.length co12) ∧ w'.cell? ⟨gb497, 1, none⟩ = some (.int .i64 t493)) (ds := []) #[false, false, false, false, false, false, false, false, false, false, false] (by kernel_rfl) rfl rfl ⟨(blk_cell BK497.out 0).trans rfl, (blk_cell BK497.out 1).trans rfl⟩ (fun hHeld => ?_); refine with_tabW laws_FnHeadCut.tab9 laws_FnHeadCut.bits9 (fun HT_ HW_ => ?_)
            generalize wc.drew = w103 at HO_6 HO_498000 HO_504000 HO_510000 BK497 BK503 BK509 HB HR517 hHeld ⊢
            refine pu 1 (some 76) (bm 11 2) rfl rfl ?_
            refine pu 2 (some 77) (bm 11 6) rfl rfl ?_
            refine pu 3 (some 78) (bm 11 14) rfl rfl ?_
            refine tk2 0 (some 75) (bm 11 15) rfl rfl hHeld ?_
            refine join_ (σ := Value × Nat) 2 #[true, true, true, true, true, true, true, true, true, false, false] (fun s_ => [(79, .tuple #[.agg #[s_.1, .int .i64 t521], .string t522]), (12, .pointer (some ⟨s_.2, 0, none⟩)), (74, .tuple #[.agg #[s_.1, .int .i64 t521], .string t522]), (80, .agg #[s_.1, .int .i64 t521]), (81, .string t522)]) (fun s_ w' => (w'.cell? ⟨gb497, 0, none⟩ = some (.slice Ao12 t490.length co12) ∧ w'.cell? ⟨gb497, 1, none⟩ = some (.int .i64 t493)) ∧ (Kd.R k36 36 w' w.heap.size (fun k_ => some k_ ≠ (.slice Ao12 t490.length co12 : Value).ownBlock ∧ some k_ ≠ (.slice Ao17 t498.length co17 : Value).ownBlock ∧ some k_ ≠ (.slice Ao23 t504.length co23 : Value).ownBlock ∧ some k_ ≠ (.slice Ao14 t494.length co14 : Value).ownBlock) s_.1 t518) ∧ (Kd.R k36 36 w' w.heap.size (fun k_ => some k_ ≠ (s_.1 : Value).ownBlock ∧ some k_ ≠ (.slice Ao17 t498.length co17 : Value).ownBlock ∧ some k_ ≠ (.slice Ao23 t504.length co23 : Value).ownBlock ∧ some k_ ≠ (.slice Ao14 t494.length co14 : Value).ownBlock) (.slice Ao12 t490.length co12) t490) ∧ (Kd.R k36 36 w' w.heap.size (fun k_ => some k_ ≠ (s_.1 : Value).ownBlock ∧ some k_ ≠ (.slice Ao12 t490.length co12 : Value).ownBlock ∧ some k_ ≠ (.slice Ao23 t504.length co23 : Value).ownBlock ∧ some k_ ≠ (.slice Ao14 t494.length co14 : Value).ownBlock) (.slice Ao17 t498.length co17) t498) ∧ (Kd.R k36 36 w' w.heap.size (fun k_ => some k_ ≠ (s_.1 : Value).ownBlock ∧ some k_ ≠ (.slice Ao12 t490.length co12 : Value).ownBlock ∧ some k_ ≠ (.slice Ao17 t498.length co17 : Value).ownBlock ∧ some k_ ≠ (.slice Ao14 t494.length co14 : Value).ownBlock) (.slice Ao23 t504.length co23) t504) ∧ (Kd.R k36 36 w' w.heap.size (fun k_ => some k_ ≠ (s_.1 : Value).ownBlock ∧ some k_ ≠ (.slice Ao12 t490.length co12 : Value).ownBlock ∧ some k_ ≠ (.slice Ao17 t498.length co17 : Value).ownBlock ∧ some k_ ≠ (.slice Ao23 t504.length co23 : Value).ownBlock) (.slice Ao14 t494.length co14) t494) ∧ (w'.heap[gb497]? = some (.cells #[.slice Ao12 t490.length co12, .int .i64 t493] 25 (0, 0))) ∧ (w'.heap[gb503]? = some (.cells #[.slice Ao17 t498.length co17, .int .i64 t501] 25 (0, 0))) ∧ (w'.heap[gb509]? = some (.cells #[.slice Ao23 t504.length co23, .int .i64 t507] 25 (0, 0))) ∧ (w'.heap[s_.2]? = some (.cells #[.slice none 0 0, .int .i64 0] 25 (0, 0))) ∧ (w.heap.size ≤ s_.2) ∧ (w.heap.size ≤ s_.2) ∧ (gb497 ≠ s_.2) ∧ (s_.2 ≠ gb497) ∧ (gb503 ≠ s_.2) ∧ (s_.2 ≠ gb503) ∧ (gb509 ≠ s_.2) ∧ (s_.2 ≠ gb509) ∧ (Below w.heap.size w w')) ?_ ?_
            rotate_left
            ·intro hCont
             refine two_ (i := 4) (j := 8) (Ni := some 79) (Nj := some 12) #[true, true, true, true, true, false, false, false, false, false, false] #[true, true, true, true, false, false, false, false, true, false, false] rfl rfl rfl rfl (two_of HT_.out (by kernel_rfl)) (by decide) (by decide) (fun K hK => ?_) (fun K hK => ?_)
             ·skip
              refine gs Try.func39 #[.agg #[.slice Ao12 t490.length co12, .int .i64 t493], .slice Ao14 y514.length co14] ?_
              with_reducible refine (impl_HeadWrite.calls kj8 _ _ t490 t493 _ _ y514 t518 t521 t522 _ ?side1 ?side2 ?side3 ?side4 A69.out).mono ?_
              (case side1 => exact zc (Kd.R_reads' HO_498000.out).2.2)
              (case side2 => exact (Kd.R_reads' HO_498000.out).2.1)
              (case side3 => exact zc HR517.out)
              (case side4 => exact HC517.out)
              rintro e w105 ⟨v519, rfl, ho0, hb⟩
              refine ⟨_, rfl, ?_⟩
              have HO520 := Aside0.mk (Kd.R_lower (Kd.R_new' (Kd.R_new' (Kd.R_new' (Kd.R_new' ho0 (Kd.R_lt (zr HO_6))) (Kd.R_lt (zr HO_498000))) (Kd.R_lt (zr HO_504000))) (Kd.R_lt (zr HO_510000))) (below_size (zb HB)))
              replace HO_6 := Aside0.mk (Kd.R_elder' (zr HO_6) (Kd.R_base ho0) hb)
              replace HO_498000 := Aside0.mk (Kd.R_elder' (zr HO_498000) (Kd.R_base ho0) hb)
              replace HO_504000 := Aside0.mk (Kd.R_elder' (zr HO_504000) (Kd.R_base ho0) hb)
              replace HO_510000 := Aside0.mk (Kd.R_elder' (zr HO_510000) (Kd.R_base ho0) hb)
              replace BK497 := Aside0.mk (blk_below (g := gb497) (o := .cells #[.slice Ao12 t490.length co12, .int .i64 t493] 25 (0, 0)) (zk BK497) hb)
              replace BK503 := Aside0.mk (blk_below (g := gb503) (o := .cells #[.slice Ao17 t498.length co17, .int .i64 t501] 25 (0, 0)) (zk BK503) hb)
              replace BK509 := Aside0.mk (blk_below (g := gb509) (o := .cells #[.slice Ao23 t504.length co23, .int .i64 t507] 25 (0, 0)) (zk BK509) hb)
              replace HR517 := Aside0.mk (Kd.C_below (zc HR517.out) hb)
              replace HB := Aside0.mk (below_step (zb HB) hb)
              (try clear hb)
              (try clear ho0)
              refine hK.out _ _ ⟨(blk_cell BK497.out 0).trans rfl, (blk_cell BK497.out 1).trans rfl⟩ (fun hHeld => ?_)
              clear hK K
              refine nm ?_
              refine pu 5 (some 74) (bm 11 63) rfl rfl ?_
              refine pu 6 (some 80) (bm 11 127) rfl rfl ?_
              refine pu 7 (some 81) (bm 11 255) rfl rfl ?_
              refine one_ (i := 8) (N := some 12) (bm 11 511) rfl rfl (one_of HT_.out (by kernel_rfl)) (by decide) (fun K hK => ?_)
              refine box_step ?hg (N := 12) ?hd (cs := #[.slice none 0 0, .int .i64 0]) (t := 25) ?hr ?_; (case hd => rfl); (case hg => rfl); (case hr => first | (go_simp; done) | (go_simp; rfl))
              intro gb523 hg w106 hbox hb
              replace HO_6 := Aside0.mk (Kd.R_below (zr HO_6) hb)
              replace HO_498000 := Aside0.mk (Kd.R_below (zr HO_498000) hb)
              replace HO_504000 := Aside0.mk (Kd.R_below (zr HO_504000) hb)
              replace HO_510000 := Aside0.mk (Kd.R_below (zr HO_510000) hb)
              replace HO520 := Aside0.mk (Kd.R_below (zr HO520) hb)
              replace HR517 := Aside0.mk (Kd.C_below (zc HR517.out) hb)
              have BK523 := Aside0.mk (hbox)
              have GW523 := Aside0.mk ((by rw [hg]; exact (below_size (zb HB)) : w.heap.size ≤ gb523))
              have GE523 := Aside0.mk ((by rw [hg]; exact (below_size (zb HB)) : w.heap.size ≤ gb523))
              replace HB := Aside0.mk (below_step (zb HB) hb)
              have NB497_523 := Aside0.mk ((by rw [hg]; exact Nat.ne_of_lt (blk_lt (g := gb497) (o := .cells #[.slice Ao12 t490.length co12, .int .i64 t493] 25 (0, 0)) (zk BK497)) : gb497 ≠ gb523))
              have NB523_497 := Aside0.mk ((by rw [hg]; exact Nat.ne_of_gt (blk_lt (g := gb497) (o := .cells #[.slice Ao12 t490.length co12, .int .i64 t493] 25 (0, 0)) (zk BK497)) : gb523 ≠ gb497))
              replace BK497 := Aside0.mk (blk_below (g := gb497) (o := .cells #[.slice Ao12 t490.length co12, .int .i64 t493] 25 (0, 0)) (zk BK497) hb)
              have NB503_523 := Aside0.mk ((by rw [hg]; exact Nat.ne_of_lt (blk_lt (g := gb503) (o := .cells #[.slice Ao17 t498.length co17, .int .i64 t501] 25 (0, 0)) (zk BK503)) : gb503 ≠ gb523))
              have NB523_503 := Aside0.mk ((by rw [hg]; exact Nat.ne_of_gt (blk_lt (g := gb503) (o := .cells #[.slice Ao17 t498.length co17, .int .i64 t501] 25 (0, 0)) (zk BK503)) : gb523 ≠ gb503))
              replace BK503 := Aside0.mk (blk_below (g := gb503) (o := .cells #[.slice Ao17 t498.length co17, .int .i64 t501] 25 (0, 0)) (zk BK503) hb)
              have NB509_523 := Aside0.mk ((by rw [hg]; exact Nat.ne_of_lt (blk_lt (g := gb509) (o := .cells #[.slice Ao23 t504.length co23, .int .i64 t507] 25 (0, 0)) (zk BK509)) : gb509 ≠ gb523))
              have NB523_509 := Aside0.mk ((by rw [hg]; exact Nat.ne_of_gt (blk_lt (g := gb509) (o := .cells #[.slice Ao23 t504.length co23, .int .i64 t507] 25 (0, 0)) (zk BK509)) : gb523 ≠ gb509))
              replace BK509 := Aside0.mk (blk_below (g := gb509) (o := .cells #[.slice Ao23 t504.length co23, .int .i64 t507] 25 (0, 0)) (zk BK509) hb)
              clear hb hbox hg
              refine hK.out _ _ ⟨(blk_cell BK497.out 0).trans rfl, (blk_cell BK497.out 1).trans rfl⟩ (fun hHeld => ?_)
              clear hK K
              refine nm ?_
              exact norm_ (by simp only [putAll, Act.put, s1, s2, s3]) (hCont (v519, gb523) _ ⟨hHeld, (by (with_reducible repeat (first | apply Kd.R_alloc | apply Kd.R_drewN | apply Kd.R_drew)); exact Kd.R_mono HO520.out (fun _ hk => ⟨hk.1.1.2, ⟨hk.1.2, ⟨hk.2, hk.1.1.1.2⟩⟩⟩)), (by (with_reducible repeat (first | apply Kd.R_alloc | apply Kd.R_drewN | apply Kd.R_drew)); exact Kd.R_mono HO_498000.out (fun _ hk => ⟨hk.2, ⟨hk.1.2.1, ⟨hk.1.2.2, hk.1.1⟩⟩⟩)), (by (with_reducible repeat (first | apply Kd.R_alloc | apply Kd.R_drewN | apply Kd.R_drew)); exact Kd.R_mono HO_504000.out (fun _ hk => ⟨hk.2, ⟨hk.1.2.1, ⟨hk.1.2.2, hk.1.1⟩⟩⟩)), (by (with_reducible repeat (first | apply Kd.R_alloc | apply Kd.R_drewN | apply Kd.R_drew)); exact Kd.R_mono HO_510000.out (fun _ hk => ⟨hk.2, ⟨hk.1.2.1, ⟨hk.1.2.2, hk.1.1⟩⟩⟩)), (by (with_reducible repeat (first | apply Kd.R_alloc | apply Kd.R_drewN | apply Kd.R_drew)); exact Kd.R_mono HO_6.out (fun _ hk => ⟨hk.2, ⟨hk.1.1, ⟨hk.1.2.1, hk.1.2.2⟩⟩⟩)), (zk BK497), (zk BK503), (zk BK509), (zk BK523), GW523.out, GE523.out, NB497_523.out, NB523_497.out, NB503_523.out, NB523_503.out, NB509_523.out, NB523_509.out, (zb HB)⟩)
             ·skip
              refine box_step ?hg (N := 12) ?hd (cs := #[.slice none 0 0, .int .i64 0]) (t := 25) ?hr ?_; (case hd => rfl); (case hg => rfl); (case hr => first | (go_simp; done) | (go_simp; rfl))
              intro gb523 hg w105 hbox hb
              replace HO_6 := Aside0.mk (Kd.R_below (zr HO_6) hb)
              replace HO_498000 := Aside0.mk (Kd.R_below (zr HO_498000) hb)
              replace HO_504000 := Aside0.mk (Kd.R_below (zr HO_504000) hb)
              replace HO_510000 := Aside0.mk (Kd.R_below (zr HO_510000) hb)
              replace HR517 := Aside0.mk (Kd.C_below (zc HR517.out) hb)
              have BK523 := Aside0.mk (hbox)
              have GW523 := Aside0.mk ((by rw [hg]; exact (below_size (zb HB)) : w.heap.size ≤ gb523))
              have GE523 := Aside0.mk ((by rw [hg]; exact (below_size (zb HB)) : w.heap.size ≤ gb523))
              replace HB := Aside0.mk (below_step (zb HB) hb)
              have NB497_523 := Aside0.mk ((by rw [hg]; exact Nat.ne_of_lt (blk_lt (g := gb497) (o := .cells #[.slice Ao12 t490.length co12, .int .i64 t493] 25 (0, 0)) (zk BK497)) : gb497 ≠ gb523))
              have NB523_497 := Aside0.mk ((by rw [hg]; exact Nat.ne_of_gt (blk_lt (g := gb497) (o := .cells #[.slice Ao12 t490.length co12, .int .i64 t493] 25 (0, 0)) (zk BK497)) : gb523 ≠ gb497))
              replace BK497 := Aside0.mk (blk_below (g := gb497) (o := .cells #[.slice Ao12 t490.length co12, .int .i64 t493] 25 (0, 0)) (zk BK497) hb)
              have NB503_523 := Aside0.mk ((by rw [hg]; exact Nat.ne_of_lt (blk_lt (g := gb503) (o := .cells #[.slice Ao17 t498.length co17, .int .i64 t501] 25 (0, 0)) (zk BK503)) : gb503 ≠ gb523))
              have NB523_503 := Aside0.mk ((by rw [hg]; exact Nat.ne_of_gt (blk_lt (g := gb503) (o := .cells #[.slice Ao17 t498.length co17, .int .i64 t501] 25 (0, 0)) (zk BK503)) : gb523 ≠ gb503))
              replace BK503 := Aside0.mk (blk_below (g := gb503) (o := .cells #[.slice Ao17 t498.length co17, .int .i64 t501] 25 (0, 0)) (zk BK503) hb)
              have NB509_523 := Aside0.mk ((by rw [hg]; exact Nat.ne_of_lt (blk_lt (g := gb509) (o := .cells #[.slice Ao23 t504.length co23, .int .i64 t507] 25 (0, 0)) (zk BK509)) : gb509 ≠ gb523))
              have NB523_509 := Aside0.mk ((by rw [hg]; exact Nat.ne_of_gt (blk_lt (g := gb509) (o := .cells #[.slice Ao23 t504.length co23, .int .i64 t507] 25 (0, 0)) (zk BK509)) : gb523 ≠ gb509))
              replace BK509 := Aside0.mk (blk_below (g := gb509) (o := .cells #[.slice Ao23 t504.length co23, .int .i64 t507] 25 (0, 0)) (zk BK509) hb)
              clear hb hbox hg
              refine hK.out _ _ ⟨(blk_cell BK497.out 0).trans rfl, (blk_cell BK497.out 1).trans rfl⟩ (fun hHeld => ?_)
              clear hK K
              refine nm ?_
              refine one_ (i := 4) (N := some 79) (bm 11 287) rfl rfl (one_of HT_.out (by kernel_rfl)) (by decide) (fun K hK => ?_)
              refine gs Try.func39 #[.agg #[.slice Ao12 t490.length co12, .int .i64 t493], .slice Ao14 y514.length co14] ?_
              with_reducible refine (impl_HeadWrite.calls kj8 _ _ t490 t493 _ _ y514 t518 t521 t522 _ ?side1 ?side2 ?side3 ?side4 A69.out).mono ?_
              (case side1 => exact zc (Kd.R_reads' HO_498000.out).2.2)
              (case side2 => exact (Kd.R_reads' HO_498000.out).2.1)
              (case side3 => exact zc HR517.out)
              (case side4 => exact HC517.out)
              rintro e w106 ⟨v519, rfl, ho0, hb⟩
              refine ⟨_, rfl, ?_⟩
              have HO520 := Aside0.mk (Kd.R_lower (Kd.R_new' (Kd.R_new' (Kd.R_new' (Kd.R_new' ho0 (Kd.R_lt (zr HO_6))) (Kd.R_lt (zr HO_498000))) (Kd.R_lt (zr HO_504000))) (Kd.R_lt (zr HO_510000))) (below_size (zb HB)))
              replace HO_6 := Aside0.mk (Kd.R_elder' (zr HO_6) (Kd.R_base ho0) hb)
              replace HO_498000 := Aside0.mk (Kd.R_elder' (zr HO_498000) (Kd.R_base ho0) hb)
              replace HO_504000 := Aside0.mk (Kd.R_elder' (zr HO_504000) (Kd.R_base ho0) hb)
              replace HO_510000 := Aside0.mk (Kd.R_elder' (zr HO_510000) (Kd.R_base ho0) hb)
              replace BK497 := Aside0.mk (blk_below (g := gb497) (o := .cells #[.slice Ao12 t490.length co12, .int .i64 t493] 25 (0, 0)) (zk BK497) hb)
              replace BK503 := Aside0.mk (blk_below (g := gb503) (o := .cells #[.slice Ao17 t498.length co17, .int .i64 t501] 25 (0, 0)) (zk BK503) hb)
              replace BK509 := Aside0.mk (blk_below (g := gb509) (o := .cells #[.slice Ao23 t504.length co23, .int .i64 t507] 25 (0, 0)) (zk BK509) hb)
              replace HR517 := Aside0.mk (Kd.C_below (zc HR517.out) hb)
              replace BK523 := Aside0.mk (blk_below (g := gb523) (o := .cells #[.slice none 0 0, .int .i64 0] 25 (0, 0)) (zk BK523) hb)
              replace HB := Aside0.mk (below_step (zb HB) hb)
              (try clear hb)
              (try clear ho0)
              refine hK.out _ _ ⟨(blk_cell BK497.out 0).trans rfl, (blk_cell BK497.out 1).trans rfl⟩ (fun hHeld => ?_)
              clear hK K
              refine nm ?_
              refine pu 5 (some 74) (bm 11 319) rfl rfl ?_
              refine pu 6 (some 80) (bm 11 383) rfl rfl ?_
              refine pu 7 (some 81) (bm 11 511) rfl rfl ?_
              exact norm_ (by simp only [putAll, Act.put, s1, s2, s3]) (hCont (v519, gb523) _ ⟨hHeld, (by (with_reducible repeat (first | apply Kd.R_alloc | apply Kd.R_drewN | apply Kd.R_drew)); exact Kd.R_mono HO520.out (fun _ hk => ⟨hk.1.1.2, ⟨hk.1.2, ⟨hk.2, hk.1.1.1.2⟩⟩⟩)), (by (with_reducible repeat (first | apply Kd.R_alloc | apply Kd.R_drewN | apply Kd.R_drew)); exact Kd.R_mono HO_498000.out (fun _ hk => ⟨hk.2, ⟨hk.1.2.1, ⟨hk.1.2.2, hk.1.1⟩⟩⟩)), (by (with_reducible repeat (first | apply Kd.R_alloc | apply Kd.R_drewN | apply Kd.R_drew)); exact Kd.R_mono HO_504000.out (fun _ hk => ⟨hk.2, ⟨hk.1.2.1, ⟨hk.1.2.2, hk.1.1⟩⟩⟩)), (by (with_reducible repeat (first | apply Kd.R_alloc | apply Kd.R_drewN | apply Kd.R_drew)); exact Kd.R_mono HO_510000.out (fun _ hk => ⟨hk.2, ⟨hk.1.2.1, ⟨hk.1.2.2, hk.1.1⟩⟩⟩)), (by (with_reducible repeat (first | apply Kd.R_alloc | apply Kd.R_drewN | apply Kd.R_drew)); exact Kd.R_mono HO_6.out (fun _ hk => ⟨hk.2, ⟨hk.1.1, ⟨hk.1.2.1, hk.1.2.2⟩⟩⟩)), (zk BK497), (zk BK503), (zk BK509), (zk BK523), GW523.out, GE523.out, NB497_523.out, NB523_497.out, NB503_523.out, NB523_503.out, NB509_523.out, NB523_509.out, (zb HB)⟩)
            rintro ⟨v519, gb523⟩ w107 ⟨hS_, h0_, h1_, h2_, h3_, h4_, h5_, h6_, h7_, h8_, h9_, h10_, h11_, h12_, h13_, h14_, h15_, h16_, h17_⟩
            have n0_ : Aside0 (Kd.R k36 36 w107 w.heap.size (fun k_ => some k_ ≠ (.slice Ao12 t490.length co12 : Value).ownBlock ∧ some k_ ≠ (.slice Ao17 t498.length co17 : Value).ownBlock ∧ some k_ ≠ (.slice Ao23 t504.length co23 : Value).ownBlock ∧ some k_ ≠ (.slice Ao14 t494.length co14 : Value).ownBlock) v519 t518) := ⟨h0_⟩
            have n1_ : Aside0 (Kd.R k36 36 w107 w.heap.size (fun k_ => some k_ ≠ (v519 : Value).ownBlock ∧ some k_ ≠ (.slice Ao17 t498.length co17 : Value).ownBlock ∧ some k_ ≠ (.slice Ao23 t504.length co23 : Value).ownBlock ∧ some k_ ≠ (.slice Ao14 t494.length co14 : Value).ownBlock) (.slice Ao12 t490.length co12) t490) := ⟨h1_⟩
            have n2_ : Aside0 (Kd.R k36 36 w107 w.heap.size (fun k_ => some k_ ≠ (v519 : Value).ownBlock ∧ some k_ ≠ (.slice Ao12 t490.length co12 : Value).ownBlock ∧ some k_ ≠ (.slice Ao23 t504.length co23 : Value).ownBlock ∧ some k_ ≠ (.slice Ao14 t494.length co14 : Value).ownBlock) (.slice Ao17 t498.length co17) t498) := ⟨h2_⟩
            have n3_ : Aside0 (Kd.R k36 36 w107 w.heap.size (fun k_ => some k_ ≠ (v519 : Value).ownBlock ∧ some k_ ≠ (.slice Ao12 t490.length co12 : Value).ownBlock ∧ some k_ ≠ (.slice Ao17 t498.length co17 : Value).ownBlock ∧ some k_ ≠ (.slice Ao14 t494.length co14 : Value).ownBlock) (.slice Ao23 t504.length co23) t504) := ⟨h3_⟩
            have n4_ : Aside0 (Kd.R k36 36 w107 w.heap.size (fun k_ => some k_ ≠ (v519 : Value).ownBlock ∧ some k_ ≠ (.slice Ao12 t490.length co12 : Value).ownBlock ∧ some k_ ≠ (.slice Ao17 t498.length co17 : Value).ownBlock ∧ some k_ ≠ (.slice Ao23 t504.length co23 : Value).ownBlock) (.slice Ao14 t494.length co14) t494) := ⟨h4_⟩
            have n5_ : Aside0 (w107.heap[gb497]? = some (.cells #[.slice Ao12 t490.length co12, .int .i64 t493] 25 (0, 0))) := ⟨h5_⟩
            have n6_ : Aside0 (w107.heap[gb503]? = some (.cells #[.slice Ao17 t498.length co17, .int .i64 t501] 25 (0, 0))) := ⟨h6_⟩
            have n7_ : Aside0 (w107.heap[gb509]? = some (.cells #[.slice Ao23 t504.length co23, .int .i64 t507] 25 (0, 0))) := ⟨h7_⟩
            have n8_ : Aside0 (w107.heap[gb523]? = some (.cells #[.slice none 0 0, .int .i64 0] 25 (0, 0))) := ⟨h8_⟩
            have n9_ : Aside0 (w.heap.size ≤ gb523) := ⟨h9_⟩
            have n10_ : Aside0 (w.heap.size ≤ gb523) := ⟨h10_⟩
            have n11_ : Aside0 (gb497 ≠ gb523) := ⟨h11_⟩
            have n12_ : Aside0 (gb523 ≠ gb497) := ⟨h12_⟩
            have n13_ : Aside0 (gb503 ≠ gb523) := ⟨h13_⟩
            have n14_ : Aside0 (gb523 ≠ gb503) := ⟨h14_⟩
            have n15_ : Aside0 (gb509 ≠ gb523) := ⟨h15_⟩
            have n16_ : Aside0 (gb523 ≠ gb509) := ⟨h16_⟩
            have n17_ : Aside0 (Below w.heap.size w w107) := ⟨h17_⟩
            clear HO_6
            clear HO_498000
            clear HO_504000
            clear HO_510000
            clear BK497
            clear BK503
            clear BK509
            clear HB
            clear h0_ h1_ h2_ h3_ h4_ h5_ h6_ h7_ h8_ h9_ h10_ h11_ h12_ h13_ h14_ h15_ h16_ h17_
            have HO520 := n0_
            have HO_498000 := n1_
            have HO_504000 := n2_
            have HO_510000 := n3_
            have HO_6 := n4_
            have BK497 := n5_
            have BK503 := n6_
            have BK509 := n7_
            have BK523 := n8_
            have GW523 := n9_
            have GE523 := n10_
            have NB497_523 := n11_
            have NB523_497 := n12_
            have NB503_523 := n13_
            have NB523_503 := n14_
            have NB509_523 := n15_
            have NB523_509 := n16_
            have HB := n17_
            clear n0_ n1_ n2_ n3_ n4_ n5_ n6_ n7_ n8_ n9_ n10_ n11_ n12_ n13_ n14_ n15_ n16_ n17_
            have hHeld : w107.cell? ⟨gb497, 0, none⟩ = some (.slice Ao12 t490.length co12) ∧ w107.cell? ⟨gb497, 1, none⟩ = some (.int .i64 t493) := hS_
            obtain ⟨Ao108, co108, eo108⟩ := Kd.R_slice HO520.out
            (first | subst eo108 | (injection eo108 with f1_ f2_ f3_; have f4_ := f1_.symm; have f5_ := f3_.symm; clear f1_ f2_ f3_; subst f4_; subst f5_))
            refine norm_ (a' := ?_) ?_ ?_
            rotate_left
            ·simp only [putAll, Act.put, s1, s2, s3]
             rfl
            refine one_ (i := 9) (N := none) (bm 11 1023) rfl rfl (one_of HT_.out (by kernel_rfl)) (by decide) (fun K hK => ?_)
            have hs109 : w107.cell? ⟨gb523, 0, none⟩ = some (.slice none 0 0) := (blk_cell BK523.out 0).trans rfl
            have hfs109 := blk_frozen BK523.out 0
            have hns109_0 := NB497_523.out
            have hns109_1 := NB503_523.out
            have hns109_2 := NB509_523.out
            have hms109_0 := NB523_497.out
            have hms109_1 := NB523_503.out
            have hms109_2 := NB523_509.out
            have hs110 : w107.cell? ⟨gb523, 1, none⟩ = some (.int .i64 0) := (blk_cell BK523.out 1).trans rfl
            have hfs110 := blk_frozen BK523.out 1
            have hns110_0 := NB497_523.out
            have hns110_1 := NB503_523.out
            have hns110_2 := NB509_523.out
            have hms110_0 := NB523_497.out
            have hms110_1 := NB523_503.out
            have hms110_2 := NB523_509.out
            refine skip_ (w1 := ?_) (by rfl) rfl ?_ ?_
            rotate_left
            ·go_simp
             rfl
            refine hK.out _ _ ⟨((cell_far (p := ⟨gb523, _, none⟩) NB497_523.out _).trans (((cell_far (p := ⟨gb523, _, none⟩) NB497_523.out _).trans (hHeld.1)))), ((cell_far (p := ⟨gb523, _, none⟩) NB497_523.out _).trans (((cell_far (p := ⟨gb523, _, none⟩) NB497_523.out _).trans (hHeld.2))))⟩ (fun hHeld => ?_)
            clear hK K
            refine pu 10 (some 13) (bm 11 2047) rfl rfl ?_
            refine done_ (done_of HT_.out (by kernel_rfl)) ?_
            try go_wp2
            have n0_ : Aside0 (Kd.R k36 36 ((w107.setCell ⟨gb523, 0, none⟩ (.slice Ao108 t518.length co108)).setCell ⟨gb523, 1, none⟩ (.int .i64 t521)) w.heap.size (fun k_ => some k_ ≠ (.slice Ao12 t490.length co12 : Value).ownBlock ∧ some k_ ≠ (.slice Ao17 t498.length co17 : Value).ownBlock ∧ some k_ ≠ (.slice Ao23 t504.length co23 : Value).ownBlock ∧ some k_ ≠ (.slice Ao108 t518.length co108 : Value).ownBlock) (.slice Ao14 t494.length co14) t494) := ⟨by (with_reducible repeat (first | apply Kd.R_alloc | apply Kd.R_drewN | apply Kd.R_drew)); exact Kd.R_mono (Kd.R_far (p := ⟨gb523, 1, none⟩) (Kd.R_far (p := ⟨gb523, 0, none⟩) (Kd.R_types HO_6.out BK523.out (by decide)) (fun _ hk => hk.2) (.slice Ao108 t518.length co108)) (fun _ hk => hk.2) (.int .i64 t521)) (fun _ hk => ⟨hk.1.2.1, ⟨hk.1.2.2.1, ⟨hk.1.2.2.2, hk.1.1⟩⟩⟩)⟩
            have n1_ : Aside0 (Kd.R k36 36 ((w107.setCell ⟨gb523, 0, none⟩ (.slice Ao108 t518.length co108)).setCell ⟨gb523, 1, none⟩ (.int .i64 t521)) w.heap.size (fun k_ => some k_ ≠ (.slice Ao14 t494.length co14 : Value).ownBlock ∧ some k_ ≠ (.slice Ao17 t498.length co17 : Value).ownBlock ∧ some k_ ≠ (.slice Ao23 t504.length co23 : Value).ownBlock ∧ some k_ ≠ (.slice Ao108 t518.length co108 : Value).ownBlock) (.slice Ao12 t490.length co12) t490) := ⟨by (with_reducible repeat (first | apply Kd.R_alloc | apply Kd.R_drewN | apply Kd.R_drew)); exact Kd.R_mono (Kd.R_far (p := ⟨gb523, 1, none⟩) (Kd.R_far (p := ⟨gb523, 0, none⟩) (Kd.R_types HO_498000.out BK523.out (by decide)) (fun _ hk => hk.2) (.slice Ao108 t518.length co108)) (fun _ hk => hk.2) (.int .i64 t521)) (fun _ hk => ⟨hk.1.2.2.2, ⟨hk.1.2.1, ⟨hk.1.2.2.1, hk.1.1⟩⟩⟩)⟩
            have n2_ : Aside0 (Kd.R k36 36 ((w107.setCell ⟨gb523, 0, none⟩ (.slice Ao108 t518.length co108)).setCell ⟨gb523, 1, none⟩ (.int .i64 t521)) w.heap.size (fun k_ => some k_ ≠ (.slice Ao14 t494.length co14 : Value).ownBlock ∧ some k_ ≠ (.slice Ao12 t490.length co12 : Value).ownBlock ∧ some k_ ≠ (.slice Ao23 t504.length co23 : Value).ownBlock ∧ some k_ ≠ (.slice Ao108 t518.length co108 : Value).ownBlock) (.slice Ao17 t498.length co17) t498) := ⟨by (with_reducible repeat (first | apply Kd.R_alloc | apply Kd.R_drewN | apply Kd.R_drew)); exact Kd.R_mono (Kd.R_far (p := ⟨gb523, 1, none⟩) (Kd.R_far (p := ⟨gb523, 0, none⟩) (Kd.R_types HO_504000.out BK523.out (by decide)) (fun _ hk => hk.2) (.slice Ao108 t518.length co108)) (fun _ hk => hk.2) (.int .i64 t521)) (fun _ hk => ⟨hk.1.2.2.2, ⟨hk.1.2.1, ⟨hk.1.2.2.1, hk.1.1⟩⟩⟩)⟩
            have n3_ : Aside0 (Kd.R k36 36 ((w107.setCell ⟨gb523, 0, none⟩ (.slice Ao108 t518.length co108)).setCell ⟨gb523, 1, none⟩ (.int .i64 t521)) w.heap.size (fun k_ => some k_ ≠ (.slice Ao14 t494.length co14 : Value).ownBlock ∧ some k_ ≠ (.slice Ao12 t490.length co12 : Value).ownBlock ∧ some k_ ≠ (.slice Ao17 t498.length co17 : Value).ownBlock ∧ some k_ ≠ (.slice Ao108 t518.length co108 : Value).ownBlock) (.slice Ao23 t504.length co23) t504) := ⟨by (with_reducible repeat (first | apply Kd.R_alloc | apply Kd.R_drewN | apply Kd.R_drew)); exact Kd.R_mono (Kd.R_far (p := ⟨gb523, 1, none⟩) (Kd.R_far (p := ⟨gb523, 0, none⟩) (Kd.R_types HO_510000.out BK523.out (by decide)) (fun _ hk => hk.2) (.slice Ao108 t518.length co108)) (fun _ hk => hk.2) (.int .i64 t521)) (fun _ hk => ⟨hk.1.2.2.2, ⟨hk.1.2.1, ⟨hk.1.2.2.1, hk.1.1⟩⟩⟩)⟩
            have n4_ : Aside0 (Kd.R k36 36 ((w107.setCell ⟨gb523, 0, none⟩ (.slice Ao108 t518.length co108)).setCell ⟨gb523, 1, none⟩ (.int .i64 t521)) w.heap.size (fun k_ => some k_ ≠ (.slice Ao14 t494.length co14 : Value).ownBlock ∧ some k_ ≠ (.slice Ao12 t490.length co12 : Value).ownBlock ∧ some k_ ≠ (.slice Ao17 t498.length co17 : Value).ownBlock ∧ some k_ ≠ (.slice Ao23 t504.length co23 : Value).ownBlock) (.slice Ao108 t518.length co108) t518) := ⟨by (with_reducible repeat (first | apply Kd.R_alloc | apply Kd.R_drewN | apply Kd.R_drew)); exact Kd.R_mono (Kd.R_far (p := ⟨gb523, 1, none⟩) (Kd.R_far (p := ⟨gb523, 0, none⟩) (Kd.R_types HO520.out BK523.out (by decide)) (fun _ hk => hk.2) (.slice Ao108 t518.length co108)) (fun _ hk => hk.2) (.int .i64 t521)) (fun _ hk => ⟨hk.1.2.2.2, ⟨hk.1.1, ⟨hk.1.2.1, hk.1.2.2.1⟩⟩⟩)⟩
            have n5_ : Aside0 (((w107.setCell ⟨gb523, 0, none⟩ (.slice Ao108 t518.length co108)).setCell ⟨gb523, 1, none⟩ (.int .i64 t521)).heap[gb497]? = some (.cells #[.slice Ao12 t490.length co12, .int .i64 t493] 25 (0, 0))) := ⟨by (with_reducible repeat (first | refine blk_drewN ?_ _ | refine blk_drew ?_ | refine blk_alloc ?_ _)); refine blk_far ?_ NB497_523.out _; (with_reducible repeat (first | refine blk_drewN ?_ _ | refine blk_drew ?_ | refine blk_alloc ?_ _)); refine blk_far ?_ NB497_523.out _; exact zk BK497⟩
            have n6_ : Aside0 (((w107.setCell ⟨gb523, 0, none⟩ (.slice Ao108 t518.length co108)).setCell ⟨gb523, 1, none⟩ (.int .i64 t521)).heap[gb503]? = some (.cells #[.slice Ao17 t498.length co17, .int .i64 t501] 25 (0, 0))) := ⟨by (with_reducible repeat (first | refine blk_drewN ?_ _ | refine blk_drew ?_ | refine blk_alloc ?_ _)); refine blk_far ?_ NB503_523.out _; (with_reducible repeat (first | refine blk_drewN ?_ _ | refine blk_drew ?_ | refine blk_alloc ?_ _)); refine blk_far ?_ NB503_523.out _; exact zk BK503⟩
            have n7_ : Aside0 (((w107.setCell ⟨gb523, 0, none⟩ (.slice Ao108 t518.length co108)).setCell ⟨gb523, 1, none⟩ (.int .i64 t521)).heap[gb509]? = some (.cells #[.slice Ao23 t504.length co23, .int .i64 t507] 25 (0, 0))) := ⟨by (with_reducible repeat (first | refine blk_drewN ?_ _ | refine blk_drew ?_ | refine blk_alloc ?_ _)); refine blk_far ?_ NB509_523.out _; (with_reducible repeat (first | refine blk_drewN ?_ _ | refine blk_drew ?_ | refine blk_alloc ?_ _)); refine blk_far ?_ NB509_523.out _; exact zk BK509⟩
            have n8_ : Aside0 (((w107.setCell ⟨gb523, 0, none⟩ (.slice Ao108 t518.length co108)).setCell ⟨gb523, 1, none⟩ (.int .i64 t521)).heap[gb523]? = some (.cells #[.slice Ao108 t518.length co108, .int .i64 t521] 25 (0, 0))) := ⟨by (with_reducible repeat (first | refine blk_drewN ?_ _ | refine blk_drew ?_ | refine blk_alloc ?_ _)); refine blk_put (cs := #[.slice Ao108 t518.length co108, .int .i64 0]) ?_ 1 _ rfl; (with_reducible repeat (first | refine blk_drewN ?_ _ | refine blk_drew ?_ | refine blk_alloc ?_ _)); refine blk_put (cs := #[.slice none 0 0, .int .i64 0]) ?_ 0 _ rfl; exact zk BK523⟩
            have n9_ : Aside0 (Below w.heap.size w ((w107.setCell ⟨gb523, 0, none⟩ (.slice Ao108 t518.length co108)).setCell ⟨gb523, 1, none⟩ (.int .i64 t521))) := ⟨zb HB⟩
            (try clear HO_6)
            (try clear HO_498000)
            (try clear HO_504000)
            (try clear HO_510000)
            (try clear HO520)
            (try clear BK497)
            (try clear BK503)
            (try clear BK509)
            (try clear BK523)
            (try clear HB)
            generalize ((w107.setCell ⟨gb523, 0, none⟩ (.slice Ao108 t518.length co108)).setCell ⟨gb523, 1, none⟩ (.int .i64 t521)) = w111 at n0_ n1_ n2_ n3_ n4_ n5_ n6_ n7_ n8_ n9_ ⊢
            have HO_6 := n0_
            have HO_498000 := n1_
            have HO_504000 := n2_
            have HO_510000 := n3_
            have HO520 := n4_
            have BK497 := n5_
            have BK503 := n6_
            have BK509 := n7_
            have BK523 := n8_
            have HB := n9_
            clear n0_ n1_ n2_ n3_ n4_ n5_ n6_ n7_ n8_ n9_
            replace HO_6 := Aside0.mk (Kd.R_drew HO_6.out)
            replace HO_498000 := Aside0.mk (Kd.R_drew HO_498000.out)
            replace HO_504000 := Aside0.mk (Kd.R_drew HO_504000.out)
            replace HO_510000 := Aside0.mk (Kd.R_drew HO_510000.out)
            replace HO520 := Aside0.mk (Kd.R_drew HO520.out)
            replace BK497 := Aside0.mk (blk_drew BK497.out)
            replace BK503 := Aside0.mk (blk_drew BK503.out)
            replace BK509 := Aside0.mk (blk_drew BK509.out)
            replace BK523 := Aside0.mk (blk_drew BK523.out)
            replace HB := Aside0.mk (below_drew1 HB.out)
            have q113 : ((ji66) : Int) ≤ ((t494.length : Int) : Int) := of_decide_eq_true za
            obtain ⟨i0113, hi0113, _, hsz113, _⟩ := info_parts info36
            have hroom113 : t494.length ≤ co14 := (Kd.R_reads' HO_6.out).2.1
            have hC113 : Kd.C k36 _ Ao14 t494.length t494 := (Kd.R_reads' HO_6.out).2.2
            have q0113 : (0 : Int) ≤ ((ji66) : Int) := of_decide_eq_true za
            have hcut113 := cut_from (P := Try.prog) 23 36 .i64 Try.underlying23 hi0113 3 hsz113 Ao14 t494.length co14 (ji66) q0113 q113
            have hr113 := Kd.C_drop (m := ((ji66) : Int).toNat) (c := co14) hC113 (by omega) hroom113
            obtain ⟨A113, hA113⟩ : ∃ A1, A1 = (if co14 = ((ji66) : Int).toNat then Ao14 else (Ao14 : Option Addr).map (·.add (((ji66) : Int).toNat * 3))) := ⟨_, rfl⟩
            obtain ⟨c113, hc113⟩ : ∃ c1, c1 = co14 - ((ji66) : Int).toNat := ⟨_, rfl⟩
            have hy113 : y524.length = t494.length - ((ji66) : Int).toNat := (by rw [Ny524.out, List.length_drop] <;> omega)
            rw [show (t494).drop ((ji66) : Int).toNat = y524 from Ny524.out.symm] at hr113
            replace hr113 : Kd.C k36 _ A113 y524.length y524 := (by rw [hA113]; exact hr113)
            rw [← hy113, ← hA113, ← hc113] at hcut113
            have HR527 := Aside0.mk hr113
            have HC527 := Aside0.mk (show y524.length ≤ c113 from by rw [hy113, hc113]; exact Nat.sub_le_sub_right hroom113 _)
            clear hr113 hC113 hroom113 hi0113 hsz113 hc113
            have KY113 := Aside0.mk hy113
            have KA113 := Aside0.mk hA113
            clear hy113 hA113
            have KL113 := Aside0.mk (show ((ji66) : Int).toNat ≤ t494.length from by omega)
            replace q113 := eq_true q113
            refine start_ (n := 11) (S := fun w' => w'.cell? ⟨gb523, 0, none⟩ = some (.slice Ao108 t518.length co108) ∧ w'.cell? ⟨gb523, 1, none⟩ = some (.int .i64 t521)) (ds := []) #[false, false, false, false, false, false, false, false, false, false, false] (by kernel_rfl) rfl rfl ⟨(blk_cell BK523.out 0).trans rfl, (blk_cell BK523.out 1).trans rfl⟩ (fun hHeld => ?_); refine with_tabW laws_FnHeadCut.tab10 laws_FnHeadCut.bits10 (fun HT_ HW_ => ?_)
            generalize w111.drew = w112 at HO_6 HO_498000 HO_504000 HO_510000 HO520 BK497 BK503 BK509 BK523 HB HR527 hHeld ⊢
            refine pu 1 (some 84) (bm 11 2) rfl rfl ?_
            refine pu 2 (some 85) (bm 11 6) rfl rfl ?_
            refine pu 3 (some 86) (bm 11 14) rfl rfl ?_
            refine tk2 0 (some 83) (bm 11 15) rfl rfl hHeld ?_
            refine join_ (σ := Value × Nat) 2 #[true, true, true, true, true, true, true, true, true, false, false] (fun s_ => [(87, .tuple #[.agg #[s_.1, .int .i64 t531], .string t532]), (14, .pointer (some ⟨s_.2, 0, none⟩)), (82, .tuple #[.agg #[s_.1, .int .i64 t531], .string t532]), (88, .agg #[s_.1, .int .i64 t531]), (89, .string t532)]) (fun s_ w' => (w'.cell? ⟨gb523, 0, none⟩ = some (.slice Ao108 t518.length co108) ∧ w'.cell? ⟨gb523, 1, none⟩ = some (.int .i64 t521)) ∧ (Kd.R k36 36 w' w.heap.size (fun k_ => some k_ ≠ (s_.1 : Value).ownBlock ∧ some k_ ≠ (.slice Ao12 t490.length co12 : Value).ownBlock ∧ some k_ ≠ (.slice Ao17 t498.length co17 : Value).ownBlock ∧ some k_ ≠ (.slice Ao23 t504.length co23 : Value).ownBlock ∧ some k_ ≠ (.slice Ao14 t494.length co14 : Value).ownBlock) (.slice Ao108 t518.length co108) t518) ∧ (Kd.R k36 36 w' w.heap.size (fun k_ => some k_ ≠ (.slice Ao108 t518.length co108 : Value).ownBlock ∧ some k_ ≠ (.slice Ao12 t490.length co12 : Value).ownBlock ∧ some k_ ≠ (.slice Ao17 t498.length co17 : Value).ownBlock ∧ some k_ ≠ (.slice Ao23 t504.length co23 : Value).ownBlock ∧ some k_ ≠ (.slice Ao14 t494.length co14 : Value).ownBlock) s_.1 t528) ∧ (Kd.R k36 36 w' w.heap.size (fun k_ => some k_ ≠ (.slice Ao108 t518.length co108 : Value).ownBlock ∧ some k_ ≠ (s_.1 : Value).ownBlock ∧ some k_ ≠ (.slice Ao17 t498.length co17 : Value).ownBlock ∧ some k_ ≠ (.slice Ao23 t504.length co23 : Value).ownBlock ∧ some k_ ≠ (.slice Ao14 t494.length co14 : Value).ownBlock) (.slice Ao12 t490.length co12) t490) ∧ (Kd.R k36 36 w' w.heap.size (fun k_ => some k_ ≠ (.slice Ao108 t518.length co108 : Value).ownBlock ∧ some k_ ≠ (s_.1 : Value).ownBlock ∧ some k_ ≠ (.slice Ao12 t490.length co12 : Value).ownBlock ∧ some k_ ≠ (.slice Ao23 t504.length co23 : Value).ownBlock ∧ some k_ ≠ (.slice Ao14 t494.length co14 : Value).ownBlock) (.slice Ao17 t498.length co17) t498) ∧ (Kd.R k36 36 w' w.heap.size (fun k_ => some k_ ≠ (.slice Ao108 t518.length co108 : Value).ownBlock ∧ some k_ ≠ (s_.1 : Value).ownBlock ∧ some k_ ≠ (.slice Ao12 t490.length co12 : Value).ownBlock ∧ some k_ ≠ (.slice Ao17 t498.length co17 : Value).ownBlock ∧ some k_ ≠ (.slice Ao14 t494.length co14 : Value).ownBlock) (.slice Ao23 t504.length co23) t504) ∧ (Kd.R k36 36 w' w.heap.size (fun k_ => some k_ ≠ (.slice Ao108 t518.length co108 : Value).ownBlock ∧ some k_ ≠ (s_.1 : Value).ownBlock ∧ some k_ ≠ (.slice Ao12 t490.length co12 : Value).ownBlock ∧ some k_ ≠ (.slice Ao17 t498.length co17 : Value).ownBlock ∧ some k_ ≠ (.slice Ao23 t504.length co23 : Value).ownBlock) (.slice Ao14 t494.length co14) t494) ∧ (w'.heap[gb497]? = some (.cells #[.slice Ao12 t490.length co12, .int .i64 t493] 25 (0, 0))) ∧ (w'.heap[gb503]? = some (.cells #[.slice Ao17 t498.length co17, .int .i64 t501] 25 (0, 0))) ∧ (w'.heap[gb509]? = some (.cells #[.slice Ao23 t504.length co23, .int .i64 t507] 25 (0, 0))) ∧ (w'.heap[gb523]? = some (.cells #[.slice Ao108 t518.length co108, .int .i64 t521] 25 (0, 0))) ∧ (w'.heap[s_.2]? = some (.cells #[.slice none 0 0, .int .i64 0] 25 (0, 0))) ∧ (w.heap.size ≤ s_.2) ∧ (w.heap.size ≤ s_.2) ∧ (gb497 ≠ s_.2) ∧ (s_.2 ≠ gb497) ∧ (gb503 ≠ s_.2) ∧ (s_.2 ≠ gb503) ∧ (gb509 ≠ s_.2) ∧ (s_.2 ≠ gb509) ∧ (gb523 ≠ s_.2) ∧ (s_.2 ≠ gb523) ∧ (Below w.heap.size w w')) ?_ ?_
            rotate_left
            ·intro hCont
             refine two_ (i := 4) (j := 8) (Ni := some 87) (Nj := some 14) #[true, true, true, true, true, false, false, false, false, false, false] #[true, true, true, true, false, false, false, false, true, false, false] rfl rfl rfl rfl (two_of HT_.out (by kernel_rfl)) (by decide) (by decide) (fun K hK => ?_) (fun K hK => ?_)
             ·skip
              refine gs Try.func39 #[.agg #[.slice Ao108 t518.length co108, .int .i64 t521], .slice A113 y524.length c113] ?_
              with_reducible refine (impl_HeadWrite.calls kj8 _ _ t518 t521 _ _ y524 t528 t531 t532 _ ?side1 ?side2 ?side3 ?side4 A72.out).mono ?_
              (case side1 => exact zc (Kd.R_reads' HO520.out).2.2)
              (case side2 => exact (Kd.R_reads' HO520.out).2.1)
              (case side3 => exact zc HR527.out)
              (case side4 => exact HC527.out)
              rintro e w114 ⟨v529, rfl, ho0, hb⟩
              refine ⟨_, rfl, ?_⟩
              have HO530 := Aside0.mk (Kd.R_lower (Kd.R_new' (Kd.R_new' (Kd.R_new' (Kd.R_new' (Kd.R_new' ho0 (Kd.R_lt (zr HO_6))) (Kd.R_lt (zr HO_498000))) (Kd.R_lt (zr HO_504000))) (Kd.R_lt (zr HO_510000))) (Kd.R_lt (zr HO520))) (below_size (zb HB)))
              replace HO_6 := Aside0.mk (Kd.R_elder' (zr HO_6) (Kd.R_base ho0) hb)
              replace HO_498000 := Aside0.mk (Kd.R_elder' (zr HO_498000) (Kd.R_base ho0) hb)
              replace HO_504000 := Aside0.mk (Kd.R_elder' (zr HO_504000) (Kd.R_base ho0) hb)
              replace HO_510000 := Aside0.mk (Kd.R_elder' (zr HO_510000) (Kd.R_base ho0) hb)
              replace HO520 := Aside0.mk (Kd.R_elder' (zr HO520) (Kd.R_base ho0) hb)
              replace BK497 := Aside0.mk (blk_below (g := gb497) (o := .cells #[.slice Ao12 t490.length co12, .int .i64 t493] 25 (0, 0)) (zk BK497) hb)
              replace BK503 := Aside0.mk (blk_below (g := gb503) (o := .cells #[.slice Ao17 t498.length co17, .int .i64 t501] 25 (0, 0)) (zk BK503) hb)
              replace BK509 := Aside0.mk (blk_below (g := gb509) (o := .cells #[.slice Ao23 t504.length co23, .int .i64 t507] 25 (0, 0)) (zk BK509) hb)
              replace BK523 := Aside0.mk (blk_below (g := gb523) (o := .cells #[.slice Ao108 t518.length co108, .int .i64 t521] 25 (0, 0)) (zk BK523) hb)
              replace HR527 := Aside0.mk (Kd.C_below (zc HR527.out) hb)
              replace HB := Aside0.mk (below_step (zb HB) hb)
              (try clear hb)
              (try clear ho0)
              refine hK.out _ _ ⟨(blk_cell BK523.out 0).trans rfl, (blk_cell BK523.out 1).trans rfl⟩ (fun hHeld => ?_)
              clear hK K
              refine nm ?_
              refine pu 5 (some 82) (bm 11 63) rfl rfl ?_
              refine pu 6 (some 88) (bm 11 127) rfl rfl ?_
              refine pu 7 (some 89) (bm 11 255) rfl rfl ?_
              refine one_ (i := 8) (N := some 14) (bm 11 511) rfl rfl (one_of HT_.out (by kernel_rfl)) (by decide) (fun K hK => ?_)
              refine box_step ?hg (N := 14) ?hd (cs := #[.slice none 0 0, .int .i64 0]) (t := 25) ?hr ?_; (case hd => rfl); (case hg => rfl); (case hr => first | (go_simp; done) | (go_simp; rfl))
              intro gb533 hg w115 hbox hb
              replace HO_6 := Aside0.mk (Kd.R_below (zr HO_6) hb)
              replace HO_498000 := Aside0.mk (Kd.R_below (zr HO_498000) hb)
              replace HO_504000 := Aside0.mk (Kd.R_below (zr HO_504000) hb)
              replace HO_510000 := Aside0.mk (Kd.R_below (zr HO_510000) hb)
              replace HO520 := Aside0.mk (Kd.R_below (zr HO520) hb)
              replace HO530 := Aside0.mk (Kd.R_below (zr HO530) hb)
              replace HR527 := Aside0.mk (Kd.C_below (zc HR527.out) hb)
              have BK533 := Aside0.mk (hbox)
              have GW533 := Aside0.mk ((by rw [hg]; exact (below_size (zb HB)) : w.heap.size ≤ gb533))
              have GE533 := Aside0.mk ((by rw [hg]; exact (below_size (zb HB)) : w.heap.size ≤ gb533))
              replace HB := Aside0.mk (below_step (zb HB) hb)
              have NB497_533 := Aside0.mk ((by rw [hg]; exact Nat.ne_of_lt (blk_lt (g := gb497) (o := .cells #[.slice Ao12 t490.length co12, .int .i64 t493] 25 (0, 0)) (zk BK497)) : gb497 ≠ gb533))
              have NB533_497 := Aside0.mk ((by rw [hg]; exact Nat.ne_of_gt (blk_lt (g := gb497) (o := .cells #[.slice Ao12 t490.length co12, .int .i64 t493] 25 (0, 0)) (zk BK497)) : gb533 ≠ gb497))
              replace BK497 := Aside0.mk (blk_below (g := gb497) (o := .cells #[.slice Ao12 t490.length co12, .int .i64 t493] 25 (0, 0)) (zk BK497) hb)
              have NB503_533 := Aside0.mk ((by rw [hg]; exact Nat.ne_of_lt (blk_lt (g := gb503) (o := .cells #[.slice Ao17 t498.length co17, .int .i64 t501] 25 (0, 0)) (zk BK503)) : gb503 ≠ gb533))
              have NB533_503 := Aside0.mk ((by rw [hg]; exact Nat.ne_of_gt (blk_lt (g := gb503) (o := .cells #[.slice Ao17 t498.length co17, .int .i64 t501] 25 (0, 0)) (zk BK503)) : gb533 ≠ gb503))
              replace BK503 := Aside0.mk (blk_below (g := gb503) (o := .cells #[.slice Ao17 t498.length co17, .int .i64 t501] 25 (0, 0)) (zk BK503) hb)
              have NB509_533 := Aside0.mk ((by rw [hg]; exact Nat.ne_of_lt (blk_lt (g := gb509) (o := .cells #[.slice Ao23 t504.length co23, .int .i64 t507] 25 (0, 0)) (zk BK509)) : gb509 ≠ gb533))
              have NB533_509 := Aside0.mk ((by rw [hg]; exact Nat.ne_of_gt (blk_lt (g := gb509) (o := .cells #[.slice Ao23 t504.length co23, .int .i64 t507] 25 (0, 0)) (zk BK509)) : gb533 ≠ gb509))
              replace BK509 := Aside0.mk (blk_below (g := gb509) (o := .cells #[.slice Ao23 t504.length co23, .int .i64 t507] 25 (0, 0)) (zk BK509) hb)
              have NB523_533 := Aside0.mk ((by rw [hg]; exact Nat.ne_of_lt (blk_lt (g := gb523) (o := .cells #[.slice Ao108 t518.length co108, .int .i64 t521] 25 (0, 0)) (zk BK523)) : gb523 ≠ gb533))
              have NB533_523 := Aside0.mk ((by rw [hg]; exact Nat.ne_of_gt (blk_lt (g := gb523) (o := .cells #[.slice Ao108 t518.length co108, .int .i64 t521] 25 (0, 0)) (zk BK523)) : gb533 ≠ gb523))
              replace BK523 := Aside0.mk (blk_below (g := gb523) (o := .cells #[.slice Ao108 t518.length co108, .int .i64 t521] 25 (0, 0)) (zk BK523) hb)
              clear hb hbox hg
              refine hK.out _ _ ⟨(blk_cell BK523.out 0).trans rfl, (blk_cell BK523.out 1).trans rfl⟩ (fun hHeld => ?_)
              clear hK K
              refine nm ?_
              exact norm_ (by simp only [putAll, Act.put, s1, s2, s3]) (hCont (v529, gb533) _ ⟨hHeld, (by (with_reducible repeat (first | apply Kd.R_alloc | apply Kd.R_drewN | apply Kd.R_drew)); exact Kd.R_mono HO520.out (fun _ hk => ⟨hk.2, ⟨hk.1.2.1, ⟨hk.1.2.2.1, ⟨hk.1.2.2.2, hk.1.1⟩⟩⟩⟩)), (by (with_reducible repeat (first | apply Kd.R_alloc | apply Kd.R_drewN | apply Kd.R_drew)); exact Kd.R_mono HO530.out (fun _ hk => ⟨hk.2, ⟨hk.1.1.1.2, ⟨hk.1.1.2, ⟨hk.1.2, hk.1.1.1.1.2⟩⟩⟩⟩)), (by (with_reducible repeat (first | apply Kd.R_alloc | apply Kd.R_drewN | apply Kd.R_drew)); exact Kd.R_mono HO_498000.out (fun _ hk => ⟨hk.1.2.2.2, ⟨hk.2, ⟨hk.1.2.1, ⟨hk.1.2.2.1, hk.1.1⟩⟩⟩⟩)), (by (with_reducible repeat (first | apply Kd.R_alloc | apply Kd.R_drewN | apply Kd.R_drew)); exact Kd.R_mono HO_504000.out (fun _ hk => ⟨hk.1.2.2.2, ⟨hk.2, ⟨hk.1.2.1, ⟨hk.1.2.2.1, hk.1.1⟩⟩⟩⟩)), (by (with_reducible repeat (first | apply Kd.R_alloc | apply Kd.R_drewN | apply Kd.R_drew)); exact Kd.R_mono HO_510000.out (fun _ hk => ⟨hk.1.2.2.2, ⟨hk.2, ⟨hk.1.2.1, ⟨hk.1.2.2.1, hk.1.1⟩⟩⟩⟩)), (by (with_reducible repeat (first | apply Kd.R_alloc | apply Kd.R_drewN | apply Kd.R_drew)); exact Kd.R_mono HO_6.out (fun _ hk => ⟨hk.1.2.2.2, ⟨hk.2, ⟨hk.1.1, ⟨hk.1.2.1, hk.1.2.2.1⟩⟩⟩⟩)), (zk BK497), (zk BK503), (zk BK509), (zk BK523), (zk BK533), GW533.out, GE533.out, NB497_533.out, NB533_497.out, NB503_533.out, NB533_503.out, NB509_533.out, NB533_509.out, NB523_533.out, NB533_523.out, (zb HB)⟩)
             ·skip
              refine box_step ?hg (N := 14) ?hd (cs := #[.slice none 0 0, .int .i64 0]) (t := 25) ?hr ?_; (case hd => rfl); (case hg => rfl); (case hr => first | (go_simp; done) | (go_simp; rfl))
              intro gb533 hg w114 hbox hb
              replace HO_6 := Aside0.mk (Kd.R_below (zr HO_6) hb)
              replace HO_498000 := Aside0.mk (Kd.R_below (zr HO_498000) hb)
              replace HO_504000 := Aside0.mk (Kd.R_below (zr HO_504000) hb)
              replace HO_510000 := Aside0.mk (Kd.R_below (zr HO_510000) hb)
              replace HO520 := Aside0.mk (Kd.R_below (zr HO520) hb)
              replace HR527 := Aside0.mk (Kd.C_below (zc HR527.out) hb)
              have BK533 := Aside0.mk (hbox)
              have GW533 := Aside0.mk ((by rw [hg]; exact (below_size (zb HB)) : w.heap.size ≤ gb533))
              have GE533 := Aside0.mk ((by rw [hg]; exact (below_size (zb HB)) : w.heap.size ≤ gb533))
              replace HB := Aside0.mk (below_step (zb HB) hb)
              have NB497_533 := Aside0.mk ((by rw [hg]; exact Nat.ne_of_lt (blk_lt (g := gb497) (o := .cells #[.slice Ao12 t490.length co12, .int .i64 t493] 25 (0, 0)) (zk BK497)) : gb497 ≠ gb533))
              have NB533_497 := Aside0.mk ((by rw [hg]; exact Nat.ne_of_gt (blk_lt (g := gb497) (o := .cells #[.slice Ao12 t490.length co12, .int .i64 t493] 25 (0, 0)) (zk BK497)) : gb533 ≠ gb497))
              replace BK497 := Aside0.mk (blk_below (g := gb497) (o := .cells #[.slice Ao12 t490.length co12, .int .i64 t493] 25 (0, 0)) (zk BK497) hb)
              have NB503_533 := Aside0.mk ((by rw [hg]; exact Nat.ne_of_lt (blk_lt (g := gb503) (o := .cells #[.slice Ao17 t498.length co17, .int .i64 t501] 25 (0, 0)) (zk BK503)) : gb503 ≠ gb533))
              have NB533_503 := Aside0.mk ((by rw [hg]; exact Nat.ne_of_gt (blk_lt (g := gb503) (o := .cells #[.slice Ao17 t498.length co17, .int .i64 t501] 25 (0, 0)) (zk BK503)) : gb533 ≠ gb503))
              replace BK503 := Aside0.mk (blk_below (g := gb503) (o := .cells #[.slice Ao17 t498.length co17, .int .i64 t501] 25 (0, 0)) (zk BK503) hb)
              have NB509_533 := Aside0.mk ((by rw [hg]; exact Nat.ne_of_lt (blk_lt (g := gb509) (o := .cells #[.slice Ao23 t504.length co23, .int .i64 t507] 25 (0, 0)) (zk BK509)) : gb509 ≠ gb533))
              have NB533_509 := Aside0.mk ((by rw [hg]; exact Nat.ne_of_gt (blk_lt (g := gb509) (o := .cells #[.slice Ao23 t504.length co23, .int .i64 t507] 25 (0, 0)) (zk BK509)) : gb533 ≠ gb509))
              replace BK509 := Aside0.mk (blk_below (g := gb509) (o := .cells #[.slice Ao23 t504.length co23, .int .i64 t507] 25 (0, 0)) (zk BK509) hb)
              have NB523_533 := Aside0.mk ((by rw [hg]; exact Nat.ne_of_lt (blk_lt (g := gb523) (o := .cells #[.slice Ao108 t518.length co108, .int .i64 t521] 25 (0, 0)) (zk BK523)) : gb523 ≠ gb533))
              have NB533_523 := Aside0.mk ((by rw [hg]; exact Nat.ne_of_gt (blk_lt (g := gb523) (o := .cells #[.slice Ao108 t518.length co108, .int .i64 t521] 25 (0, 0)) (zk BK523)) : gb533 ≠ gb523))
              replace BK523 := Aside0.mk (blk_below (g := gb523) (o := .cells #[.slice Ao108 t518.length co108, .int .i64 t521] 25 (0, 0)) (zk BK523) hb)
              clear hb hbox hg
              refine hK.out _ _ ⟨(blk_cell BK523.out 0).trans rfl, (blk_cell BK523.out 1).trans rfl⟩ (fun hHeld => ?_)
              clear hK K
              refine nm ?_
              refine one_ (i := 4) (N := some 87) (bm 11 287) rfl rfl (one_of HT_.out (by kernel_rfl)) (by decide) (fun K hK => ?_)
              refine gs Try.func39 #[.agg #[.slice Ao108 t518.length co108, .int .i64 t521], .slice A113 y524.length c113] ?_
              with_reducible refine (impl_HeadWrite.calls kj8 _ _ t518 t521 _ _ y524 t528 t531 t532 _ ?side1 ?side2 ?side3 ?side4 A72.out).mono ?_
              (case side1 => exact zc (Kd.R_reads' HO520.out).2.2)
              (case side2 => exact (Kd.R_reads' HO520.out).2.1)
              (case side3 => exact zc HR527.out)
              (case side4 => exact HC527.out)
              rintro e w115 ⟨v529, rfl, ho0, hb⟩
              refine ⟨_, rfl, ?_⟩
              have HO530 := Aside0.mk (Kd.R_lower (Kd.R_new' (Kd.R_new' (Kd.R_new' (Kd.R_new' (Kd.R_new' ho0 (Kd.R_lt (zr HO_6))) (Kd.R_lt (zr HO_498000))) (Kd.R_lt (zr HO_504000))) (Kd.R_lt (zr HO_510000))) (Kd.R_lt (zr HO520))) (below_size (zb HB)))
              replace HO_6 := Aside0.mk (Kd.R_elder' (zr HO_6) (Kd.R_base ho0) hb)
              replace HO_498000 := Aside0.mk (Kd.R_elder' (zr HO_498000) (Kd.R_base ho0) hb)
              replace HO_504000 := Aside0.mk (Kd.R_elder' (zr HO_504000) (Kd.R_base ho0) hb)
              replace HO_510000 := Aside0.mk (Kd.R_elder' (zr HO_510000) (Kd.R_base ho0) hb)
              replace HO520 := Aside0.mk (Kd.R_elder' (zr HO520) (Kd.R_base ho0) hb)
              replace BK497 := Aside0.mk (blk_below (g := gb497) (o := .cells #[.slice Ao12 t490.length co12, .int .i64 t493] 25 (0, 0)) (zk BK497) hb)
              replace BK503 := Aside0.mk (blk_below (g := gb503) (o := .cells #[.slice Ao17 t498.length co17, .int .i64 t501] 25 (0, 0)) (zk BK503) hb)
              replace BK509 := Aside0.mk (blk_below (g := gb509) (o := .cells #[.slice Ao23 t504.length co23, .int .i64 t507] 25 (0, 0)) (zk BK509) hb)
              replace BK523 := Aside0.mk (blk_below (g := gb523) (o := .cells #[.slice Ao108 t518.length co108, .int .i64 t521] 25 (0, 0)) (zk BK523) hb)
              replace HR527 := Aside0.mk (Kd.C_below (zc HR527.out) hb)
              replace BK533 := Aside0.mk (blk_below (g := gb533) (o := .cells #[.slice none 0 0, .int .i64 0] 25 (0, 0)) (zk BK533) hb)
              replace HB := Aside0.mk (below_step (zb HB) hb)
              (try clear hb)
              (try clear ho0)
              refine hK.out _ _ ⟨(blk_cell BK523.out 0).trans rfl, (blk_cell BK523.out 1).trans rfl⟩ (fun hHeld => ?_)
              clear hK K
              refine nm ?_
              refine pu 5 (some 82) (bm 11 319) rfl rfl ?_
              refine pu 6 (some 88) (bm 11 383) rfl rfl ?_
              refine pu 7 (some 89) (bm 11 511) rfl rfl ?_
              exact norm_ (by simp only [putAll, Act.put, s1, s2, s3]) (hCont (v529, gb533) _ ⟨hHeld, (by (with_reducible repeat (first | apply Kd.R_alloc | apply Kd.R_drewN | apply Kd.R_drew)); exact Kd.R_mono HO520.out (fun _ hk => ⟨hk.2, ⟨hk.1.2.1, ⟨hk.1.2.2.1, ⟨hk.1.2.2.2, hk.1.1⟩⟩⟩⟩)), (by (with_reducible repeat (first | apply Kd.R_alloc | apply Kd.R_drewN | apply Kd.R_drew)); exact Kd.R_mono HO530.out (fun _ hk => ⟨hk.2, ⟨hk.1.1.1.2, ⟨hk.1.1.2, ⟨hk.1.2, hk.1.1.1.1.2⟩⟩⟩⟩)), (by (with_reducible repeat (first | apply Kd.R_alloc | apply Kd.R_drewN | apply Kd.R_drew)); exact Kd.R_mono HO_498000.out (fun _ hk => ⟨hk.1.2.2.2, ⟨hk.2, ⟨hk.1.2.1, ⟨hk.1.2.2.1, hk.1.1⟩⟩⟩⟩)), (by (with_reducible repeat (first | apply Kd.R_alloc | apply Kd.R_drewN | apply Kd.R_drew)); exact Kd.R_mono HO_504000.out (fun _ hk => ⟨hk.1.2.2.2, ⟨hk.2, ⟨hk.1.2.1, ⟨hk.1.2.2.1, hk.1.1⟩⟩⟩⟩)), (by (with_reducible repeat (first | apply Kd.R_alloc | apply Kd.R_drewN | apply Kd.R_drew)); exact Kd.R_mono HO_510000.out (fun _ hk => ⟨hk.1.2.2.2, ⟨hk.2, ⟨hk.1.2.1, ⟨hk.1.2.2.1, hk.1.1⟩⟩⟩⟩)), (by (with_reducible repeat (first | apply Kd.R_alloc | apply Kd.R_drewN | apply Kd.R_drew)); exact Kd.R_mono HO_6.out (fun _ hk => ⟨hk.1.2.2.2, ⟨hk.2, ⟨hk.1.1, ⟨hk.1.2.1, hk.1.2.2.1⟩⟩⟩⟩)), (zk BK497), (zk BK503), (zk BK509), (zk BK523), (zk BK533), GW533.out, GE533.out, NB497_533.out, NB533_497.out, NB503_533.out, NB533_503.out, NB509_533.out, NB533_509.out, NB523_533.out, NB533_523.out, (zb HB)⟩)
            rintro ⟨v529, gb533⟩ w116 ⟨hS_, h0_, h1_, h2_, h3_, h4_, h5_, h6_, h7_, h8_, h9_, h10_, h11_, h12_, h13_, h14_, h15_, h16_, h17_, h18_, h19_, h20_, h21_⟩
            have n0_ : Aside0 (Kd.R k36 36 w116 w.heap.size (fun k_ => some k_ ≠ (v529 : Value).ownBlock ∧ some k_ ≠ (.slice Ao12 t490.length co12 : Value).ownBlock ∧ some k_ ≠ (.slice Ao17 t498.length co17 : Value).ownBlock ∧ some k_ ≠ (.slice Ao23 t504.length co23 : Value).ownBlock ∧ some k_ ≠ (.slice Ao14 t494.length co14 : Value).ownBlock) (.slice Ao108 t518.length co108) t518) := ⟨h0_⟩
            have n1_ : Aside0 (Kd.R k36 36 w116 w.heap.size (fun k_ => some k_ ≠ (.slice Ao108 t518.length co108 : Value).ownBlock ∧ some k_ ≠ (.slice Ao12 t490.length co12 : Value).ownBlock ∧ some k_ ≠ (.slice Ao17 t498.length co17 : Value).ownBlock ∧ some k_ ≠ (.slice Ao23 t504.length co23 : Value).ownBlock ∧ some k_ ≠ (.slice Ao14 t494.length co14 : Value).ownBlock) v529 t528) := ⟨h1_⟩
            have n2_ : Aside0 (Kd.R k36 36 w116 w.heap.size (fun k_ => some k_ ≠ (.slice Ao108 t518.length co108 : Value).ownBlock ∧ some k_ ≠ (v529 : Value).ownBlock ∧ some k_ ≠ (.slice Ao17 t498.length co17 : Value).ownBlock ∧ some k_ ≠ (.slice Ao23 t504.length co23 : Value).ownBlock ∧ some k_ ≠ (.slice Ao14 t494.length co14 : Value).ownBlock) (.slice Ao12 t490.length co12) t490) := ⟨h2_⟩
            have n3_ : Aside0 (Kd.R k36 36 w116 w.heap.size (fun k_ => some k_ ≠ (.slice Ao108 t518.length co108 : Value).ownBlock ∧ some k_ ≠ (v529 : Value).ownBlock ∧ some k_ ≠ (.slice Ao12 t490.length co12 : Value).ownBlock ∧ some k_ ≠ (.slice Ao23 t504.length co23 : Value).ownBlock ∧ some k_ ≠ (.slice Ao14 t494.length co14 : Value).ownBlock) (.slice Ao17 t498.length co17) t498) := ⟨h3_⟩
            have n4_ : Aside0 (Kd.R k36 36 w116 w.heap.size (fun k_ => some k_ ≠ (.slice Ao108 t518.length co108 : Value).ownBlock ∧ some k_ ≠ (v529 : Value).ownBlock ∧ some k_ ≠ (.slice Ao12 t490.length co12 : Value).ownBlock ∧ some k_ ≠ (.slice Ao17 t498.length co17 : Value).ownBlock ∧ some k_ ≠ (.slice Ao14 t494.length co14 : Value).ownBlock) (.slice Ao23 t504.length co23) t504) := ⟨h4_⟩
            have n5_ : Aside0 (Kd.R k36 36 w116 w.heap.size (fun k_ => some k_ ≠ (.slice Ao108 t518.length co108 : Value).ownBlock ∧ some k_ ≠ (v529 : Value).ownBlock ∧ some k_ ≠ (.slice Ao12 t490.length co12 : Value).ownBlock ∧ some k_ ≠ (.slice Ao17 t498.length co17 : Value).ownBlock ∧ some k_ ≠ (.slice Ao23 t504.length co23 : Value).ownBlock) (.slice Ao14 t494.length co14) t494) := ⟨h5_⟩
            have n6_ : Aside0 (w116.heap[gb497]? = some (.cells #[.slice Ao12 t490.length co12, .int .i64 t493] 25 (0, 0))) := ⟨h6_⟩
            have n7_ : Aside0 (w116.heap[gb503]? = some (.cells #[.slice Ao17 t498.length co17, .int .i64 t501] 25 (0, 0))) := ⟨h7_⟩
            have n8_ : Aside0 (w116.heap[gb509]? = some (.cells #[.slice Ao23 t504.length co23, .int .i64 t507] 25 (0, 0))) := ⟨h8_⟩
            have n9_ : Aside0 (w116.heap[gb523]? = some (.cells #[.slice Ao108 t518.length co108, .int .i64 t521] 25 (0, 0))) := ⟨h9_⟩
            have n10_ : Aside0 (w116.heap[gb533]? = some (.cells #[.slice none 0 0, .int .i64 0] 25 (0, 0))) := ⟨h10_⟩
            have n11_ : Aside0 (w.heap.size ≤ gb533) := ⟨h11_⟩
            have n12_ : Aside0 (w.heap.size ≤ gb533) := ⟨h12_⟩
            have n13_ : Aside0 (gb497 ≠ gb533) := ⟨h13_⟩
            have n14_ : Aside0 (gb533 ≠ gb497) := ⟨h14_⟩
            have n15_ : Aside0 (gb503 ≠ gb533) := ⟨h15_⟩
            have n16_ : Aside0 (gb533 ≠ gb503) := ⟨h16_⟩
            have n17_ : Aside0 (gb509 ≠ gb533) := ⟨h17_⟩
            have n18_ : Aside0 (gb533 ≠ gb509) := ⟨h18_⟩
            have n19_ : Aside0 (gb523 ≠ gb533) := ⟨h19_⟩
            have n20_ : Aside0 (gb533 ≠ gb523) := ⟨h20_⟩
            have n21_ : Aside0 (Below w.heap.size w w116) := ⟨h21_⟩
            clear HO_6
            clear HO_498000
            clear HO_504000
            clear HO_510000
            clear HO520
            clear BK497
            clear BK503
            clear BK509
            clear BK523
            clear HB
            clear h0_ h1_ h2_ h3_ h4_ h5_ h6_ h7_ h8_ h9_ h10_ h11_ h12_ h13_ h14_ h15_ h16_ h17_ h18_ h19_ h20_ h21_
            have HO520 := n0_
            have HO530 := n1_
            have HO_498000 := n2_
            have HO_504000 := n3_
            have HO_510000 := n4_
            have HO_6 := n5_
            have BK497 := n6_
            have BK503 := n7_
            have BK509 := n8_
            have BK523 := n9_
            have BK533 := n10_
            have GW533 := n11_
            have GE533 := n12_
            have NB497_533 := n13_
            have NB533_497 := n14_
            have NB503_533 := n15_
            have NB533_503 := n16_
            have NB509_533 := n17_
            have NB533_509 := n18_
            have NB523_533 := n19_
            have NB533_523 := n20_
            have HB := n21_
            clear n0_ n1_ n2_ n3_ n4_ n5_ n6_ n7_ n8_ n9_ n10_ n11_ n12_ n13_ n14_ n15_ n16_ n17_ n18_ n19_ n20_ n21_
            have hHeld : w116.cell? ⟨gb523, 0, none⟩ = some (.slice Ao108 t518.length co108) ∧ w116.cell? ⟨gb523, 1, none⟩ = some (.int .i64 t521) := hS_
            obtain ⟨Ao117, co117, eo117⟩ := Kd.R_slice HO530.out
            (first | subst eo117 | (injection eo117 with f1_ f2_ f3_; have f4_ := f1_.symm; have f5_ := f3_.symm; clear f1_ f2_ f3_; subst f4_; subst f5_))
            refine norm_ (a' := ?_) ?_ ?_
            rotate_left
            ·simp only [putAll, Act.put, s1, s2, s3]
             rfl
            refine one_ (i := 9) (N := none) (bm 11 1023) rfl rfl (one_of HT_.out (by kernel_rfl)) (by decide) (fun K hK => ?_)
            have hs118 : w116.cell? ⟨gb533, 0, none⟩ = some (.slice none 0 0) := (blk_cell BK533.out 0).trans rfl
            have hfs118 := blk_frozen BK533.out 0
            have hns118_0 := NB497_533.out
            have hns118_1 := NB503_533.out
            have hns118_2 := NB509_533.out
            have hns118_3 := NB523_533.out
            have hms118_0 := NB533_497.out
            have hms118_1 := NB533_503.out
            have hms118_2 := NB533_509.out
            have hms118_3 := NB533_523.out
            have hs119 : w116.cell? ⟨gb533, 1, none⟩ = some (.int .i64 0) := (blk_cell BK533.out 1).trans rfl
            have hfs119 := blk_frozen BK533.out 1
            have hns119_0 := NB497_533.out
            have hns119_1 := NB503_533.out
            have hns119_2 := NB509_533.out
            have hns119_3 := NB523_533.out
            have hms119_0 := NB533_497.out
            have hms119_1 := NB533_503.out
            have hms119_2 := NB533_509.out
            have hms119_3 := NB533_523.out
            refine skip_ (w1 := ?_) (by rfl) rfl ?_ ?_
            rotate_left
            ·go_simp
             rfl
            refine hK.out _ _ ⟨((cell_far (p := ⟨gb533, _, none⟩) NB523_533.out _).trans (((cell_far (p := ⟨gb533, _, none⟩) NB523_533.out _).trans (hHeld.1)))), ((cell_far (p := ⟨gb533, _, none⟩) NB523_533.out _).trans (((cell_far (p := ⟨gb533, _, none⟩) NB523_533.out _).trans (hHeld.2))))⟩ (fun hHeld => ?_)
            clear hK K
            refine pu 10 (some 15) (bm 11 2047) rfl rfl ?_
            refine done_ (done_of HT_.out (by kernel_rfl)) ?_
            try go_wp2
            go_ret
            exact ⟨by first | rfl | (simp [errW_none, errW_some] <;> rfl) | (simp only [← hji66]; first | rfl | (simp [errW_none, errW_some] <;> rfl)) | (simp [*, errW_none, errW_some] <;> rfl) | (simp [errW_none, errW_some]; exact (by intro l_; cases l_ <;> rfl : ∀ l_ : List UInt8, l_.isEmpty = !(l_ != [])) _), zb HB⟩
          ·rw [if_neg c73] at H
           exact absurd H (by simp)
         ·rw [if_neg c68] at H
          exact absurd H (by simp)
        ·rw [if_neg c67] at H
         exact absurd H (by simp)

/-- THE ONE PURE STATEMENT of laws_FnHeadCut: yours. -/
def laws_FnHeadCut.Pure : Prop := ∀ (l0 : List Int) (l1 : List Int), l0.length ≤ maxLen → l0.length * 1 ≤ 140737488351232 → (∀ x ∈ l0, (Lit.int .u8 x).wf = true) → l1.length ≤ maxLen → l1.length * 1 ≤ 140737488351232 → (∀ x ∈ l1, (Lit.int .u8 x).wf = true) → ∃ k, laws_FnHeadCut.f k l0 l1 = some true
theorem laws_FnHeadCut.walk (P : laws_FnHeadCut.Pure) (a0 : Option Addr) (len0 cap0 : Nat) (z0 : List Int) (a1 : Option Addr) (len1 cap1 : Nat) (z1 : List Int) (w : World) (w0 : (a0 = none ∧ len0 = 0 ∧ cap0 = 0 ∧ z0 = []) ∨ ∃ x, a0 = some x ∧ len0 ≤ cap0 ∧ cap0 ≤ maxLen ∧ z0.length = cap0 ∧ (∀ i, i < z0.length → w.cell? (x.add i) = some (.int .u8 (z0.getD i 0))) ∧ ∀ n ∈ z0, (Lit.int .u8 n).wf = true) (y0 : len0 * 1 ≤ 140737488351232) (w1 : (a1 = none ∧ len1 = 0 ∧ cap1 = 0 ∧ z1 = []) ∨ ∃ x, a1 = some x ∧ len1 ≤ cap1 ∧ cap1 ≤ maxLen ∧ z1.length = cap1 ∧ (∀ i, i < z1.length → w.cell? (x.add i) = some (.int .u8 (z1.getD i 0))) ∧ ∀ n ∈ z1, (Lit.int .u8 n).wf = true) (y1 : len1 * 1 ≤ 140737488351232) :
  Calls Try.prog 11 #[.slice a0 len0 cap0, .slice a1 len1 cap1] w fun e w' => e = .returned (.bool true) ∧ Below w.heap.size w w' := by
 obtain ⟨l0, rfl, hr0, hm0, hw0, hc0⟩ := ReadsInt.ofRowC w0
 obtain ⟨l1, rfl, hr1, hm1, hw1, hc1⟩ := ReadsInt.ofRowC w1
 obtain ⟨k, h⟩ := P l0 l1 hm0 y0 hw0 hm1 y1 hw1
 refine (laws_FnHeadCut.calls k _ _ l0 _ _ l1 true w (Kd.C_of_reads (d := (0 : Int)) (h1 := fun _ => rfl) hr0) hc0 (Kd.C_of_reads (d := (0 : Int)) (h1 := fun _ => rfl) hr1) hc1 h).mono ?_
 rintro e w' ⟨rfl, hd⟩
 exact ⟨rfl, hd⟩

end Go.Proofs.Ytdhahifdcoinhaa.PFnHeadCut
