-- WRITTEN BY a turned print (wip/tools of the prover's repo)
import Derived.Test.YtdhahifdcoinhaaPFnExactHeadWritex0
import Derived.Test.YtdhahifdcoinhaaPFnExactHeadWritex1
import Derived.Test.YtdhahifdcoinhaaPFnExactHeadWritex2
import Derived.Test.YtdhahifdcoinhaaPFnExactHeadWritex6
import Derived.Test.YtdhahifdcoinhaaPFnExactHeadWritex10
namespace Go.Proofs.Ytdhahifdcoinhaa.PFnExactHeadWrite
open Go.RowKit Go.Proofs.YtdhahifdcoinhaaW.PrintWords Go.Proofs.YtdhahifdcoinhaaW.PrintLast Go.Proofs.YtdhahifdcoinhaaW.PrintMore Go.Proofs.Ytdhahifdcoinhaa.Lm
attribute [local go_sem] max2_int min2_int max_two min_two max_three min_three max_four min_four   -- for this text's walks alone
set_option linter.unusedVariables false
set_option linter.unusedSimpArgs false

/-! ### laws_FnExactHeadWrite: function 14 -/
-- thin
mutual
def laws_FnExactHeadWrite.j0 : Nat → List (S53) → ByteArray → List (S36) → ByteArray → Bool → List (S53) → Int → List (S36) → Int → List (S36) → Int → List (S36) → Int → Option (Bool)
 | 0, _, _, _, _, _, _, _, _, _, _, _, _, _ => none
 | k + 1, x1, x7, x9, x11, x53, x406000, x406001, x421000, x421001, x426000, x426001, x435000, x435001 => if x53 = true then (some false) else ((laws_toTable.f k x406000 x406001).bind fun bt436 => ((laws_eqTable.f k x426000 x426001 bt436.1 bt436.2).bind fun t440 => (if t440 = true then ((laws_toFieldS.f k x1).bind fun t441 => ((laws_eqFieldS.f k x9 t441).bind fun t444 => (if t444 = true then ((laws_markTable.f k x426000 x426001 1).bind fun bt445 => ((laws_markFieldS.f k x9 bt445.1).bind fun bt447 => (if bt447.1 < 0 then (laws_FnExactHeadWrite.j1 k x1 x7 true x406000 x406001 x421000 x421001 x435000 x435001) else ((laws_eqTable.f k x435000 x435001 x421000 x421001).bind fun t449 => (if t449 = true then (laws_FnExactHeadWrite.j1 k x1 x7 (x11.toList != x7.toList) x406000 x406001 x421000 x421001 x435000 x435001) else (laws_FnExactHeadWrite.j1 k x1 x7 true x406000 x406001 x421000 x421001 x435000 x435001)))))) else (some false)))) else (some false))))
def laws_FnExactHeadWrite.j1 : Nat → List (S53) → ByteArray → Bool → List (S53) → Int → List (S36) → Int → List (S36) → Int → Option (Bool)
 | 0, _, _, _, _, _, _, _, _, _ => none
 | k + 1, x1, x7, x82, x406000, x406001, x421000, x421001, x435000, x435001 => if x82 = true then (some false) else ((laws_markTable.f k x435000 x435001 1).bind fun bt450 => ((laws_heldTable.f k bt450.2 x435001 1).bind fun t452 => (if t452 < 0 then (some false) else (if t452 = bt450.1 then ((laws_toTable.f k x406000 x406001).bind fun bt453 => ((laws_toFieldS.f k x1).bind fun t457 => ((impl_HeadWrite.f k bt453.1 bt453.2 t457).bind fun bt460 => ((laws_eqTable.f k bt460.1 bt460.2.1 x421000 x421001).bind fun t466 => (if t466 = true then (laws_FnExactHeadWrite.j2 k bt450.1 (bt460.2.2.toList != x7.toList) bt450.2 x435001) else (laws_FnExactHeadWrite.j2 k bt450.1 true bt450.2 x435001)))))) else (some false)))))
def laws_FnExactHeadWrite.j2 : Nat → Int → Bool → List (S36) → Int → Option (Bool)
 | 0, _, _, _, _ => none
 | k + 1, x13, x110, x435000, x435001 => if x110 = true then (some false) else ((laws_heldTable.f k x435000 x435001 1).bind fun t467 => (if t467 < 0 then (some false) else (if t467 = x13 then (some true) else (some false))))
end
def laws_FnExactHeadWrite.f (k : Nat) (l0_0 : List (S53)) (a0_1 : Int) (l1 : List (S53)) : Option (Bool) := (laws_szTable.f k l0_0 a0_1 1048576).bind fun t406 => (if t406 < 0 then (some true) else ((laws_szFieldS.f k l1 t406).bind fun t407 => (if t407 < 0 then (some true) else ((laws_toTable.f k l0_0 a0_1).bind fun bt408 => ((laws_toFieldS.f k l1).bind fun t412 => ((spec_HeadWrite.f k bt408.1 bt408.2 t412).bind fun bt415 => ((laws_toTable.f k l0_0 a0_1).bind fun bt421 => ((laws_toFieldS.f k l1).bind fun t426 => ((impl_HeadWrite.f k bt421.1 bt421.2 t426).bind fun bt429 => ((laws_eqTable.f k bt429.1 bt429.2.1 bt415.1 bt415.2.1).bind fun t435 => (if t435 = true then (laws_FnExactHeadWrite.j0 k l1 bt415.2.2 t426 bt429.2.2 (bt429.2.2.toList != bt415.2.2.toList) l0_0 a0_1 bt415.1 bt415.2.1 bt421.1 bt421.2 bt429.1 bt429.2.1) else (laws_FnExactHeadWrite.j0 k l1 bt415.2.2 t426 bt429.2.2 true l0_0 a0_1 bt415.1 bt415.2.1 bt421.1 bt421.2 bt429.1 bt429.2.1))))))))))))
theorem laws_FnExactHeadWrite.mono_l : ∀ k, (∀ y0 y1 y2 y3 y4 y5 y6 y7 y8 y9 y10 y11 y12, LeO (laws_FnExactHeadWrite.j0 k y0 y1 y2 y3 y4 y5 y6 y7 y8 y9 y10 y11 y12) (laws_FnExactHeadWrite.j0 (k + 1) y0 y1 y2 y3 y4 y5 y6 y7 y8 y9 y10 y11 y12)) ∧ (∀ y0 y1 y2 y3 y4 y5 y6 y7 y8, LeO (laws_FnExactHeadWrite.j1 k y0 y1 y2 y3 y4 y5 y6 y7 y8) (laws_FnExactHeadWrite.j1 (k + 1) y0 y1 y2 y3 y4 y5 y6 y7 y8)) ∧ (∀ y0 y1 y2 y3, LeO (laws_FnExactHeadWrite.j2 k y0 y1 y2 y3) (laws_FnExactHeadWrite.j2 (k + 1) y0 y1 y2 y3))
 | 0 => ⟨fun _ _ _ _ _ _ _ _ _ _ _ _ _ r h => by simp [laws_FnExactHeadWrite.j0] at h, fun _ _ _ _ _ _ _ _ _ r h => by simp [laws_FnExactHeadWrite.j1] at h, fun _ _ _ _ r h => by simp [laws_FnExactHeadWrite.j2] at h⟩
 | k + 1 => by
  obtain ⟨ih0, ih1, ih2⟩ := laws_FnExactHeadWrite.mono_l k
  refine ⟨?_, ?_, ?_⟩
  ·intro y0 y1 y2 y3 y4 y5 y6 y7 y8 y9 y10 y11 y12
   unfold laws_FnExactHeadWrite.j0
   repeat' first
   | (with_reducible exact ih0 _ _ _ _ _ _ _ _ _ _ _ _ _)
   | (with_reducible exact ih1 _ _ _ _ _ _ _ _ _)
   | (with_reducible exact ih2 _ _ _ _)
   | (with_reducible exact impl_HeadWrite.mono _ _ _ _)
   | (with_reducible exact laws_eqFieldS.mono _ _ _)
   | (with_reducible exact laws_eqTable.mono _ _ _ _ _)
   | (with_reducible exact laws_heldTable.mono _ _ _ _)
   | (with_reducible exact laws_markFieldS.mono _ _ _)
   | (with_reducible exact laws_markTable.mono _ _ _ _)
   | (with_reducible exact laws_szFieldS.mono _ _ _)
   | (with_reducible exact laws_szTable.mono _ _ _ _)
   | (with_reducible exact laws_toFieldS.mono _ _)
   | (with_reducible exact laws_toTable.mono _ _ _)
   | (with_reducible exact spec_HeadWrite.mono _ _ _ _)
   | (with_reducible exact LeO.refl _)
   | (with_reducible exact LeO.none _)
   | (with_reducible refine LeO.ite ?_ ?_)
   | (with_reducible refine LeO.bind ?_ (fun _ => ?_))
   | exact ih0 _ _ _ _ _ _ _ _ _ _ _ _ _
   | exact ih1 _ _ _ _ _ _ _ _ _
   | exact ih2 _ _ _ _
   | exact impl_HeadWrite.mono _ _ _ _
   | exact laws_eqFieldS.mono _ _ _
   | exact laws_eqTable.mono _ _ _ _ _
   | exact laws_heldTable.mono _ _ _ _
   | exact laws_markFieldS.mono _ _ _
   | exact laws_markTable.mono _ _ _ _
   | exact laws_szFieldS.mono _ _ _
   | exact laws_szTable.mono _ _ _ _
   | exact laws_toFieldS.mono _ _
   | exact laws_toTable.mono _ _ _
   | exact spec_HeadWrite.mono _ _ _ _
   | exact LeO.none _
   | refine LeO.ite ?_ ?_
   | refine LeO.bind ?_ (fun _ => ?_)
  ·intro y0 y1 y2 y3 y4 y5 y6 y7 y8
   unfold laws_FnExactHeadWrite.j1
   repeat' first
   | (with_reducible exact ih0 _ _ _ _ _ _ _ _ _ _ _ _ _)
   | (with_reducible exact ih1 _ _ _ _ _ _ _ _ _)
   | (with_reducible exact ih2 _ _ _ _)
   | (with_reducible exact impl_HeadWrite.mono _ _ _ _)
   | (with_reducible exact laws_eqFieldS.mono _ _ _)
   | (with_reducible exact laws_eqTable.mono _ _ _ _ _)
   | (with_reducible exact laws_heldTable.mono _ _ _ _)
   | (with_reducible exact laws_markFieldS.mono _ _ _)
   | (with_reducible exact laws_markTable.mono _ _ _ _)
   | (with_reducible exact laws_szFieldS.mono _ _ _)
   | (with_reducible exact laws_szTable.mono _ _ _ _)
   | (with_reducible exact laws_toFieldS.mono _ _)
   | (with_reducible exact laws_toTable.mono _ _ _)
   | (with_reducible exact spec_HeadWrite.mono _ _ _ _)
   | (with_reducible exact LeO.refl _)
   | (with_reducible exact LeO.none _)
   | (with_reducible refine LeO.ite ?_ ?_)
   | (with_reducible refine LeO.bind ?_ (fun _ => ?_))
   | exact ih0 _ _ _ _ _ _ _ _ _ _ _ _ _
   | exact ih1 _ _ _ _ _ _ _ _ _
   | exact ih2 _ _ _ _
   | exact impl_HeadWrite.mono _ _ _ _
   | exact laws_eqFieldS.mono _ _ _
   | exact laws_eqTable.mono _ _ _ _ _
   | exact laws_heldTable.mono _ _ _ _
   | exact laws_markFieldS.mono _ _ _
   | exact laws_markTable.mono _ _ _ _
   | exact laws_szFieldS.mono _ _ _
   | exact laws_szTable.mono _ _ _ _
   | exact laws_toFieldS.mono _ _
   | exact laws_toTable.mono _ _ _
   | exact spec_HeadWrite.mono _ _ _ _
   | exact LeO.none _
   | refine LeO.ite ?_ ?_
   | refine LeO.bind ?_ (fun _ => ?_)
  ·intro y0 y1 y2 y3
   unfold laws_FnExactHeadWrite.j2
   repeat' first
   | (with_reducible exact ih0 _ _ _ _ _ _ _ _ _ _ _ _ _)
   | (with_reducible exact ih1 _ _ _ _ _ _ _ _ _)
   | (with_reducible exact ih2 _ _ _ _)
   | (with_reducible exact impl_HeadWrite.mono _ _ _ _)
   | (with_reducible exact laws_eqFieldS.mono _ _ _)
   | (with_reducible exact laws_eqTable.mono _ _ _ _ _)
   | (with_reducible exact laws_heldTable.mono _ _ _ _)
   | (with_reducible exact laws_markFieldS.mono _ _ _)
   | (with_reducible exact laws_markTable.mono _ _ _ _)
   | (with_reducible exact laws_szFieldS.mono _ _ _)
   | (with_reducible exact laws_szTable.mono _ _ _ _)
   | (with_reducible exact laws_toFieldS.mono _ _)
   | (with_reducible exact laws_toTable.mono _ _ _)
   | (with_reducible exact spec_HeadWrite.mono _ _ _ _)
   | (with_reducible exact LeO.refl _)
   | (with_reducible exact LeO.none _)
   | (with_reducible refine LeO.ite ?_ ?_)
   | (with_reducible refine LeO.bind ?_ (fun _ => ?_))
   | exact ih0 _ _ _ _ _ _ _ _ _ _ _ _ _
   | exact ih1 _ _ _ _ _ _ _ _ _
   | exact ih2 _ _ _ _
   | exact impl_HeadWrite.mono _ _ _ _
   | exact laws_eqFieldS.mono _ _ _
   | exact laws_eqTable.mono _ _ _ _ _
   | exact laws_heldTable.mono _ _ _ _
   | exact laws_markFieldS.mono _ _ _
   | exact laws_markTable.mono _ _ _ _
   | exact laws_szFieldS.mono _ _ _
   | exact laws_szTable.mono _ _ _ _
   | exact laws_toFieldS.mono _ _
   | exact laws_toTable.mono _ _ _
   | exact spec_HeadWrite.mono _ _ _ _
   | exact LeO.none _
   | refine LeO.ite ?_ ?_
   | refine LeO.bind ?_ (fun _ => ?_)
theorem laws_FnExactHeadWrite.mono : ∀ a0 a1 a2 k, LeO (laws_FnExactHeadWrite.f k a0 a1 a2) (laws_FnExactHeadWrite.f (k + 1) a0 a1 a2) := by
 intro a0 a1 a2 k
 obtain ⟨ih0, ih1, ih2⟩ := laws_FnExactHeadWrite.mono_l k
 unfold laws_FnExactHeadWrite.f
 repeat' first
   | (with_reducible exact ih0 _ _ _ _ _ _ _ _ _ _ _ _ _)
   | (with_reducible exact ih1 _ _ _ _ _ _ _ _ _)
   | (with_reducible exact ih2 _ _ _ _)
   | (with_reducible exact impl_HeadWrite.mono _ _ _ _)
   | (with_reducible exact laws_eqFieldS.mono _ _ _)
   | (with_reducible exact laws_eqTable.mono _ _ _ _ _)
   | (with_reducible exact laws_heldTable.mono _ _ _ _)
   | (with_reducible exact laws_markFieldS.mono _ _ _)
   | (with_reducible exact laws_markTable.mono _ _ _ _)
   | (with_reducible exact laws_szFieldS.mono _ _ _)
   | (with_reducible exact laws_szTable.mono _ _ _ _)
   | (with_reducible exact laws_toFieldS.mono _ _)
   | (with_reducible exact laws_toTable.mono _ _ _)
   | (with_reducible exact spec_HeadWrite.mono _ _ _ _)
   | (with_reducible exact LeO.refl _)
   | (with_reducible exact LeO.none _)
   | (with_reducible refine LeO.ite ?_ ?_)
   | (with_reducible refine LeO.bind ?_ (fun _ => ?_))
   | exact ih0 _ _ _ _ _ _ _ _ _ _ _ _ _
   | exact ih1 _ _ _ _ _ _ _ _ _
   | exact ih2 _ _ _ _
   | exact impl_HeadWrite.mono _ _ _ _
   | exact laws_eqFieldS.mono _ _ _
   | exact laws_eqTable.mono _ _ _ _ _
   | exact laws_heldTable.mono _ _ _ _
   | exact laws_markFieldS.mono _ _ _
   | exact laws_markTable.mono _ _ _ _
   | exact laws_szFieldS.mono _ _ _
   | exact laws_szTable.mono _ _ _ _
   | exact laws_toFieldS.mono _ _
   | exact laws_toTable.mono _ _ _
   | exact spec_HeadWrite.mono _ _ _ _
   | exact LeO.none _
   | refine LeO.ite ?_ ?_
   | refine LeO.bind ?_ (fun _ => ?_)
set_option maxHeartbeats 8000000 in
set_option maxRecDepth 100000 in
theorem laws_FnExactHeadWrite.calls (k : Nat) (A0_0 : Option Addr) (c0_0 : Nat) (l0_0 : List (S53)) (a0_1 : Int) (A1 : Option Addr) (c1 : Nat) (l1 : List (S53)) (r : Bool) (w : World) (hr0_0 : Kd.C k53 w A0_0 l0_0.length l0_0) (hc0_0 : l0_0.length ≤ c0_0) (hr1 : Kd.C k53 w A1 l1.length l1) (hc1 : l1.length ≤ c1) (h : laws_FnExactHeadWrite.f k l0_0 a0_1 l1 = some r) :
  Calls Try.prog 14 #[.agg #[.slice A0_0 l0_0.length c0_0, .int .i64 a0_1], .slice A1 l1.length c1] w fun e w' => e = .returned (.bool r) ∧ Below w.heap.size w w' := by
 have hu40 := Try.underlying40
 have hu25 := Try.underlying25
 have HR0_0 := Aside0.mk hr0_0
 have HC0_0 := Aside0.mk hc0_0
 clear hr0_0 hc0_0
 have HR1 := Aside0.mk hr1
 have HC1 := Aside0.mk hc1
 clear hr1 hc1
 have HB := Aside0.mk (Below.refl w.heap.size w)
 have H : ((laws_szTable.f k l0_0 a0_1 1048576).bind fun t406 => (if t406 < 0 then (some true) else ((laws_szFieldS.f k l1 t406).bind fun t407 => (if t407 < 0 then (some true) else ((laws_toTable.f k l0_0 a0_1).bind fun bt408 => ((laws_toFieldS.f k l1).bind fun t412 => ((spec_HeadWrite.f k bt408.1 bt408.2 t412).bind fun bt415 => ((laws_toTable.f k l0_0 a0_1).bind fun bt421 => ((laws_toFieldS.f k l1).bind fun t426 => ((impl_HeadWrite.f k bt421.1 bt421.2 t426).bind fun bt429 => ((laws_eqTable.f k bt429.1 bt429.2.1 bt415.1 bt415.2.1).bind fun t435 => (if t435 = true then (laws_FnExactHeadWrite.j0 k l1 bt415.2.2 t426 bt429.2.2 (bt429.2.2.toList != bt415.2.2.toList) l0_0 a0_1 bt415.1 bt415.2.1 bt421.1 bt421.2 bt429.1 bt429.2.1) else (laws_FnExactHeadWrite.j0 k l1 bt415.2.2 t426 bt429.2.2 true l0_0 a0_1 bt415.1 bt415.2.1 bt421.1 bt421.2 bt429.1 bt429.2.1))))))))))))) = some r := h
 clear h
 replace H := Option.bind_eq_some_iff.mp H
 obtain ⟨t406, A30, H⟩ := H
 replace H : (if t406 < 0 then (some true) else ((laws_szFieldS.f k l1 t406).bind fun t407 => (if t407 < 0 then (some true) else ((laws_toTable.f k l0_0 a0_1).bind fun bt408 => ((laws_toFieldS.f k l1).bind fun t412 => ((spec_HeadWrite.f k bt408.1 bt408.2 t412).bind fun bt415 => ((laws_toTable.f k l0_0 a0_1).bind fun bt421 => ((laws_toFieldS.f k l1).bind fun t426 => ((impl_HeadWrite.f k bt421.1 bt421.2 t426).bind fun bt429 => ((laws_eqTable.f k bt429.1 bt429.2.1 bt415.1 bt415.2.1).bind fun t435 => (if t435 = true then (laws_FnExactHeadWrite.j0 k l1 bt415.2.2 t426 bt429.2.2 (bt429.2.2.toList != bt415.2.2.toList) l0_0 a0_1 bt415.1 bt415.2.1 bt421.1 bt421.2 bt429.1 bt429.2.1) else (laws_FnExactHeadWrite.j0 k l1 bt415.2.2 t426 bt429.2.2 true l0_0 a0_1 bt415.1 bt415.2.1 bt421.1 bt421.2 bt429.1 bt429.2.1)))))))))))) = some r := H
 have A3 := Aside0.mk A30
 clear A30
 have HC4 := Aside0.mk H
 clear H
 go_enter Try.func14, Try.ntmps14
 go_upto_if 21 with (first | ((with_reducible refine gd 2 rfl ?_); refine bx (N := 2) (cs := #[.slice A0_0 l0_0.length c0_0, .int .i64 a0_1]) (t := 40) ?_; intro gb405 hg w5 hbox hb; have BK405 := Aside0.mk (hbox); have GW405 := Aside0.mk ((by rw [hg]; exact (below_size (zb HB)) : w.heap.size ≤ gb405)); have GE405 := Aside0.mk ((by rw [hg]; exact (below_size (zb HB)) : w.heap.size ≤ gb405)); replace HB := Aside0.mk (below_step (zb HB) hb); clear hb hbox hg; have hcz6_0 : w5.cell? ⟨gb405, 0, none⟩ = some (.slice A0_0 l0_0.length c0_0) := (blk_cell BK405.out 0).trans rfl; have hcz6_1 : w5.cell? ⟨gb405, 1, none⟩ = some (.int .i64 a0_1) := (blk_cell BK405.out 1).trans rfl; have hfz6_0 := blk_frozen BK405.out 0; have hfz6_1 := blk_frozen BK405.out 1) | ((with_reducible refine gq 24 rfl ?_); refine gl (some 19) Try.func24 #[.agg #[.slice A0_0 l0_0.length c0_0, .int .i64 a0_1], .int .i64 1048576] ?_; (with_reducible refine (laws_szTable.calls k _ _ l0_0 a0_1 1048576 t406 _ ?side1 ?side2 A3.out).mono ?_); (case side1 => exact zc (Kd.C_below HR0_0.out HB.out)); (case side2 => exact HC0_0.out); rintro e w7 ⟨rfl, hb⟩; refine ⟨_, rfl, ?_⟩; replace BK405 := Aside0.mk (blk_below (g := gb405) (o := .cells #[.slice A0_0 l0_0.length c0_0, .int .i64 a0_1] 40 (0, 0)) (zk BK405) hb); replace HB := Aside0.mk (below_step (zb HB) hb); (try clear hb)))
 (try simp only [Act.put, s1, s2, s3])
 have H := HC4.out
 clear HC4
 by_cases c8 : t406 < 0
 ·rw [if_pos c8] at H
  have c8b0 : decide (t406 < 0) = true := decide_eq_true c8
  clear c8
  (first | rw [c8b0] | rw [c8b1] | (simp only [i64_w, i32_w]; rw [c8b0]) | skip)
  obtain rfl := Option.some.inj H
  go_wp2
  go_ret
  exact ⟨ze, zb HB⟩
 ·rw [if_neg c8] at H
  have c8b0 : decide (t406 < 0) = false := decide_eq_false c8
  clear c8
  (first | rw [c8b0] | rw [c8b1] | (simp only [i64_w, i32_w]; rw [c8b0]) | skip)
  replace H := Option.bind_eq_some_iff.mp H
  obtain ⟨t407, A90, H⟩ := H
  replace H : (if t407 < 0 then (some true) else ((laws_toTable.f k l0_0 a0_1).bind fun bt408 => ((laws_toFieldS.f k l1).bind fun t412 => ((spec_HeadWrite.f k bt408.1 bt408.2 t412).bind fun bt415 => ((laws_toTable.f k l0_0 a0_1).bind fun bt421 => ((laws_toFieldS.f k l1).bind fun t426 => ((impl_HeadWrite.f k bt421.1 bt421.2 t426).bind fun bt429 => ((laws_eqTable.f k bt429.1 bt429.2.1 bt415.1 bt415.2.1).bind fun t435 => (if t435 = true then (laws_FnExactHeadWrite.j0 k l1 bt415.2.2 t426 bt429.2.2 (bt429.2.2.toList != bt415.2.2.toList) l0_0 a0_1 bt415.1 bt415.2.1 bt421.1 bt421.2 bt429.1 bt429.2.1) else (laws_FnExactHeadWrite.j0 k l1 bt415.2.2 t426 bt429.2.2 true l0_0 a0_1 bt415.1 bt415.2.1 bt421.1 bt421.2 bt429.1 bt429.2.1)))))))))) = some r := H
  have A9 := Aside0.mk A90
  clear A90
  by_cases c10 : t407 < 0
  ·rw [if_pos c10] at H
   have c10b0 : decide (t407 < 0) = true := decide_eq_true c10
   clear c10
   obtain rfl := Option.some.inj H
   go_wp2_with (first | ((with_reducible refine gq 41 rfl ?_); refine gl (some 24) Try.func41 #[.slice A1 l1.length c1, .int .i64 t406] ?_; (with_reducible refine (laws_szFieldS.calls k _ _ l1 t406 t407 _ ?side1 ?side2 A9.out).mono ?_); (case side1 => exact zc (Kd.C_below HR1.out HB.out)); (case side2 => exact HC1.out); rintro e w11 ⟨rfl, hb⟩; refine ⟨_, rfl, ?_⟩; replace BK405 := Aside0.mk (blk_below (g := gb405) (o := .cells #[.slice A0_0 l0_0.length c0_0, .int .i64 a0_1] 40 (0, 0)) (zk BK405) hb); replace HB := Aside0.mk (below_step (zb HB) hb); (try clear hb)))
   go_ret
   exact ⟨ze, zb HB⟩
  ·rw [if_neg c10] at H
   have c10b0 : decide (t407 < 0) = false := decide_eq_false c10
   clear c10
   replace H := Option.bind_eq_some_iff.mp H
   obtain ⟨⟨t408, t411⟩, A120, H⟩ := H
   replace H : ((laws_toFieldS.f k l1).bind fun t412 => ((spec_HeadWrite.f k t408 t411 t412).bind fun bt415 => ((laws_toTable.f k l0_0 a0_1).bind fun bt421 => ((laws_toFieldS.f k l1).bind fun t426 => ((impl_HeadWrite.f k bt421.1 bt421.2 t426).bind fun bt429 => ((laws_eqTable.f k bt429.1 bt429.2.1 bt415.1 bt415.2.1).bind fun t435 => (if t435 = true then (laws_FnExactHeadWrite.j0 k l1 bt415.2.2 t426 bt429.2.2 (bt429.2.2.toList != bt415.2.2.toList) l0_0 a0_1 bt415.1 bt415.2.1 bt421.1 bt421.2 bt429.1 bt429.2.1) else (laws_FnExactHeadWrite.j0 k l1 bt415.2.2 t426 bt429.2.2 true l0_0 a0_1 bt415.1 bt415.2.1 bt421.1 bt421.2 bt429.1 bt429.2.1)))))))) = some r := H
   have A12 := Aside0.mk A120
   clear A120
   replace H := Option.bind_eq_some_iff.mp H
   obtain ⟨t412, A130, H⟩ := H
   replace H : ((spec_HeadWrite.f k t408 t411 t412).bind fun bt415 => ((laws_toTable.f k l0_0 a0_1).bind fun bt421 => ((laws_toFieldS.f k l1).bind fun t426 => ((impl_HeadWrite.f k bt421.1 bt421.2 t426).bind fun bt429 => ((laws_eqTable.f k bt429.1 bt429.2.1 bt415.1 bt415.2.1).bind fun t435 => (if t435 = true then (laws_FnExactHeadWrite.j0 k l1 bt415.2.2 t426 bt429.2.2 (bt429.2.2.toList != bt415.2.2.toList) l0_0 a0_1 bt415.1 bt415.2.1 bt421.1 bt421.2 bt429.1 bt429.2.1) else (laws_FnExactHeadWrite.j0 k l1 bt415.2.2 t426 bt429.2.2 true l0_0 a0_1 bt415.1 bt415.2.1 bt421.1 bt421.2 bt429.1 bt429.2.1))))))) = some r := H
   have A13 := Aside0.mk A130
   clear A130
   replace H := Option.bind_eq_some_iff.mp H
   obtain ⟨⟨t415, t418, t419⟩, A140, H⟩ := H
   replace H : ((laws_toTable.f k l0_0 a0_1).bind fun bt421 => ((laws_toFieldS.f k l1).bind fun t426 => ((impl_HeadWrite.f k bt421.1 bt421.2 t426).bind fun bt429 => ((laws_eqTable.f k bt429.1 bt429.2.1 t415 t418).bind fun t435 => (if t435 = true then (laws_FnExactHeadWrite.j0 k l1 t419 t426 bt429.2.2 (bt429.2.2.toList != t419.toList) l0_0 a0_1 t415 t418 bt421.1 bt421.2 bt429.1 bt429.2.1) else (laws_FnExactHeadWrite.j0 k l1 t419 t426 bt429.2.2 true l0_0 a0_1 t415 t418 bt421.1 bt421.2 bt429.1 bt429.2.1)))))) = some r := H
   have A14 := Aside0.mk A140
   clear A140
   replace H := Option.bind_eq_some_iff.mp H
   obtain ⟨⟨t421, t424⟩, A150, H⟩ := H
   replace H : ((laws_toFieldS.f k l1).bind fun t426 => ((impl_HeadWrite.f k t421 t424 t426).bind fun bt429 => ((laws_eqTable.f k bt429.1 bt429.2.1 t415 t418).bind fun t435 => (if t435 = true then (laws_FnExactHeadWrite.j0 k l1 t419 t426 bt429.2.2 (bt429.2.2.toList != t419.toList) l0_0 a0_1 t415 t418 t421 t424 bt429.1 bt429.2.1) else (laws_FnExactHeadWrite.j0 k l1 t419 t426 bt429.2.2 true l0_0 a0_1 t415 t418 t421 t424 bt429.1 bt429.2.1))))) = some r := H
   have A15 := Aside0.mk A150
   clear A150
   replace H := Option.bind_eq_some_iff.mp H
   obtain ⟨t426, A160, H⟩ := H
   replace H : ((impl_HeadWrite.f k t421 t424 t426).bind fun bt429 => ((laws_eqTable.f k bt429.1 bt429.2.1 t415 t418).bind fun t435 => (if t435 = true then (laws_FnExactHeadWrite.j0 k l1 t419 t426 bt429.2.2 (bt429.2.2.toList != t419.toList) l0_0 a0_1 t415 t418 t421 t424 bt429.1 bt429.2.1) else (laws_FnExactHeadWrite.j0 k l1 t419 t426 bt429.2.2 true l0_0 a0_1 t415 t418 t421 t424 bt429.1 bt429.2.1)))) = some r := H
   have A16 := Aside0.mk A160
   clear A160
   replace H := Option.bind_eq_some_iff.mp H
   obtain ⟨⟨t429, t432, t433⟩, A170, H⟩ := H
   replace H : ((laws_eqTable.f k t429 t432 t415 t418).bind fun t435 => (if t435 = true then (laws_FnExactHeadWrite.j0 k l1 t419 t426 t433 (t433.toList != t419.toList) l0_0 a0_1 t415 t418 t421 t424 t429 t432) else (laws_FnExactHeadWrite.j0 k l1 t419 t426 t433 true l0_0 a0_1 t415 t418 t421 t424 t429 t432))) = some r := H
   have A17 := Aside0.mk A170
   clear A170
   have HC18 := Aside0.mk H
   clear H
   go_upto_region 12 with (first | ((with_reducible refine gq 41 rfl ?_); refine gl (some 24) Try.func41 #[.slice A1 l1.length c1, .int .i64 t406] ?_; (with_reducible refine (laws_szFieldS.calls k _ _ l1 t406 t407 _ ?side1 ?side2 A9.out).mono ?_); (case side1 => exact zc (Kd.C_below HR1.out HB.out)); (case side2 => exact HC1.out); rintro e w19 ⟨rfl, hb⟩; refine ⟨_, rfl, ?_⟩; replace BK405 := Aside0.mk (blk_below (g := gb405) (o := .cells #[.slice A0_0 l0_0.length c0_0, .int .i64 a0_1] 40 (0, 0)) (zk BK405) hb); replace HB := Aside0.mk (below_step (zb HB) hb); (try clear hb); have hcz20_0 : w19.cell? ⟨gb405, 0, none⟩ = some (.slice A0_0 l0_0.length c0_0) := (blk_cell BK405.out 0).trans rfl; have hcz20_1 : w19.cell? ⟨gb405, 1, none⟩ = some (.int .i64 a0_1) := (blk_cell BK405.out 1).trans rfl; have hfz20_0 := blk_frozen BK405.out 0; have hfz20_1 := blk_frozen BK405.out 1) | ((with_reducible refine gq 25 rfl ?_); refine gl (some 29) Try.func25 #[.agg #[.slice A0_0 l0_0.length c0_0, .int .i64 a0_1]] ?_; (with_reducible refine (laws_toTable.calls k _ _ l0_0 a0_1 t408 t411 _ ?side1 ?side2 A12.out).mono ?_); (case side1 => exact zc (Kd.C_below HR0_0.out HB.out)); (case side2 => exact HC0_0.out); rintro e w21 ⟨v409, rfl, ho0, hb⟩; refine ⟨_, rfl, ?_⟩; have HO410 := Aside0.mk (Kd.R_lower ho0 (below_size (zb HB))); replace BK405 := Aside0.mk (blk_below (g := gb405) (o := .cells #[.slice A0_0 l0_0.length c0_0, .int .i64 a0_1] 40 (0, 0)) (zk BK405) hb); replace HB := Aside0.mk (below_step (zb HB) hb); (try clear hb); (try clear ho0)) | ((with_reducible refine gq 42 rfl ?_); refine gl (some 31) Try.func42 #[.slice A1 l1.length c1] ?_; (with_reducible refine (laws_toFieldS.calls k _ _ l1 t412 _ ?side1 ?side2 A13.out).mono ?_); (case side1 => exact zc (Kd.C_below HR1.out HB.out)); (case side2 => exact HC1.out); rintro e w22 ⟨v413, rfl, ho0, hb⟩; refine ⟨_, rfl, ?_⟩; have HO414 := Aside0.mk (Kd.R_lower (Kd.R_new' ho0 (Kd.R_lt (zr HO410))) (below_size (zb HB))); replace HO410 := Aside0.mk (Kd.R_elder' (zr HO410) (Kd.R_base ho0) hb); replace BK405 := Aside0.mk (blk_below (g := gb405) (o := .cells #[.slice A0_0 l0_0.length c0_0, .int .i64 a0_1] 40 (0, 0)) (zk BK405) hb); replace HB := Aside0.mk (below_step (zb HB) hb); (try clear hb); (try clear ho0); obtain ⟨Ao23, co23, eo23⟩ := Kd.R_slice HO410.out; subst eo23; obtain ⟨Ao24, co24, eo24⟩ := Kd.R_slice HO414.out; subst eo24) | ((with_reducible refine gq 38 rfl ?_); refine gl (some 32) Try.func38 #[.agg #[.slice Ao23 t408.length co23, .int .i64 t411], .slice Ao24 t412.length co24] ?_; (with_reducible refine (spec_HeadWrite.calls k _ _ t408 t411 _ _ t412 t415 t418 t419 _ ?side1 ?side2 ?side3 ?side4 A14.out).mono ?_); (case side1 => exact zc (Kd.R_reads' HO410.out).2.2); (case side2 => exact (Kd.R_reads' HO410.out).2.1); (case side3 => exact zc (Kd.R_reads' HO414.out).2.2); (case side4 => exact (Kd.R_reads' HO414.out).2.1); rintro e w25 ⟨v416, rfl, ho0, hb⟩; refine ⟨_, rfl, ?_⟩; have HO417 := Aside0.mk (Kd.R_lower (Kd.R_new' (Kd.R_new' ho0 (Kd.R_lt (zr HO410))) (Kd.R_lt (zr HO414))) (below_size (zb HB))); replace HO410 := Aside0.mk (Kd.R_elder' (zr HO410) (Kd.R_base ho0) hb); replace HO414 := Aside0.mk (Kd.R_elder' (zr HO414) (Kd.R_base ho0) hb); replace BK405 := Aside0.mk (blk_below (g := gb405) (o := .cells #[.slice A0_0 l0_0.length c0_0, .int .i64 a0_1] 40 (0, 0)) (zk BK405) hb); replace HB := Aside0.mk (below_step (zb HB) hb); (try clear hb); (try clear ho0)) | ((with_reducible refine gd 6 rfl ?_); refine bx (N := 6) (cs := #[.slice none 0 0, .int .i64 0]) (t := 25) ?_; intro gb420 hg w26 hbox hb; replace HO410 := Aside0.mk (Kd.R_below (zr HO410) hb); replace HO414 := Aside0.mk (Kd.R_below (zr HO414) hb); replace HO417 := Aside0.mk (Kd.R_below (zr HO417) hb); have BK420 := Aside0.mk (hbox); have GW420 := Aside0.mk ((by rw [hg]; exact (below_size (zb HB)) : w.heap.size ≤ gb420)); have GE420 := Aside0.mk ((by rw [hg]; exact (below_size (zb HB)) : w.heap.size ≤ gb420)); replace HB := Aside0.mk (below_step (zb HB) hb); have NB405_420 := Aside0.mk ((by rw [hg]; exact Nat.ne_of_lt (blk_lt (g := gb405) (o := .cells #[.slice A0_0 l0_0.length c0_0, .int .i64 a0_1] 40 (0, 0)) (zk BK405)) : gb405 ≠ gb420)); have NB420_405 := Aside0.mk ((by rw [hg]; exact Nat.ne_of_gt (blk_lt (g := gb405) (o := .cells #[.slice A0_0 l0_0.length c0_0, .int .i64 a0_1] 40 (0, 0)) (zk BK405)) : gb420 ≠ gb405)); replace BK405 := Aside0.mk (blk_below (g := gb405) (o := .cells #[.slice A0_0 l0_0.length c0_0, .int .i64 a0_1] 40 (0, 0)) (zk BK405) hb); clear hb hbox hg; obtain ⟨Ao27, co27, eo27⟩ := Kd.R_slice HO417.out; subst eo27; have hnb28 := NB420_405.out; have hnc28 := NB405_420.out; have hcz29_0 : w26.cell? ⟨gb420, 0, none⟩ = some (.slice none 0 0) := (blk_cell BK420.out 0).trans rfl; have hcz29_1 : w26.cell? ⟨gb420, 1, none⟩ = some (.int .i64 0) := (blk_cell BK420.out 1).trans rfl; have hfz29_0 := blk_frozen BK420.out 0; have hfz29_1 := blk_frozen BK420.out 1; have hcz30_0 : w26.cell? ⟨gb405, 0, none⟩ = some (.slice A0_0 l0_0.length c0_0) := (blk_cell BK405.out 0).trans rfl; have hcz30_1 : w26.cell? ⟨gb405, 1, none⟩ = some (.int .i64 a0_1) := (blk_cell BK405.out 1).trans rfl; have hfz30_0 := blk_frozen BK405.out 0; have hfz30_1 := blk_frozen BK405.out 1) | ((with_reducible refine gq 25 rfl ?_); refine gl (some 36) Try.func25 #[.agg #[.slice A0_0 l0_0.length c0_0, .int .i64 a0_1]] ?_; (with_reducible refine (laws_toTable.calls k _ _ l0_0 a0_1 t421 t424 _ ?side1 ?side2 A15.out).mono ?_); (case side1 => exact Kd.C_below HR0_0.out (zb HB)); (case side2 => exact HC0_0.out); rintro e w31 ⟨v422, rfl, ho0, hb⟩; refine ⟨_, rfl, ?_⟩; have HO423 := Aside0.mk (Kd.R_lower (Kd.R_new' (Kd.R_new' (Kd.R_new' ho0 (Kd.R_lt (by (with_reducible repeat (first | apply Kd.R_alloc | apply Kd.R_drewN | apply Kd.R_drew)); exact (Kd.R_mono (Kd.R_far (p := ⟨gb420, 1, none⟩) (Kd.R_far (p := ⟨gb420, 0, none⟩) (Kd.R_types HO410.out BK420.out (by decide)) (fun _ hk => hk.2) (.slice Ao27 t415.length co27)) (fun _ hk => hk.2) (.int .i64 t418)) (fun _ h_ => h_.1))))) (Kd.R_lt (by (with_reducible repeat (first | apply Kd.R_alloc | apply Kd.R_drewN | apply Kd.R_drew)); exact (Kd.R_mono (Kd.R_far (p := ⟨gb420, 1, none⟩) (Kd.R_far (p := ⟨gb420, 0, none⟩) (Kd.R_types HO414.out BK420.out (by decide)) (fun _ hk => hk.2) (.slice Ao27 t415.length co27)) (fun _ hk => hk.2) (.int .i64 t418)) (fun _ h_ => h_.1))))) (Kd.R_lt (by (with_reducible repeat (first | apply Kd.R_alloc | apply Kd.R_drewN | apply Kd.R_drew)); exact (Kd.R_mono (Kd.R_far (p := ⟨gb420, 1, none⟩) (Kd.R_far (p := ⟨gb420, 0, none⟩) (Kd.R_types HO417.out BK420.out (by decide)) (fun _ hk => hk.2) (.slice Ao27 t415.length co27)) (fun _ hk => hk.2) (.int .i64 t418)) (fun _ h_ => h_.1))))) (below_size (zb HB))); replace HO410 := Aside0.mk (Kd.R_elder' (by (with_reducible repeat (first | apply Kd.R_alloc | apply Kd.R_drewN | apply Kd.R_drew)); exact (Kd.R_mono (Kd.R_far (p := ⟨gb420, 1, none⟩) (Kd.R_far (p := ⟨gb420, 0, none⟩) (Kd.R_types HO410.out BK420.out (by decide)) (fun _ hk => hk.2) (.slice Ao27 t415.length co27)) (fun _ hk => hk.2) (.int .i64 t418)) (fun _ h_ => h_.1))) (Kd.R_base ho0) hb); replace HO414 := Aside0.mk (Kd.R_elder' (by (with_reducible repeat (first | apply Kd.R_alloc | apply Kd.R_drewN | apply Kd.R_drew)); exact (Kd.R_mono (Kd.R_far (p := ⟨gb420, 1, none⟩) (Kd.R_far (p := ⟨gb420, 0, none⟩) (Kd.R_types HO414.out BK420.out (by decide)) (fun _ hk => hk.2) (.slice Ao27 t415.length co27)) (fun _ hk => hk.2) (.int .i64 t418)) (fun _ h_ => h_.1))) (Kd.R_base ho0) hb); replace HO417 := Aside0.mk (Kd.R_elder' (by (with_reducible repeat (first | apply Kd.R_alloc | apply Kd.R_drewN | apply Kd.R_drew)); exact (Kd.R_mono (Kd.R_far (p := ⟨gb420, 1, none⟩) (Kd.R_far (p := ⟨gb420, 0, none⟩) (Kd.R_types HO417.out BK420.out (by decide)) (fun _ hk => hk.2) (.slice Ao27 t415.length co27)) (fun _ hk => hk.2) (.int .i64 t418)) (fun _ h_ => h_.1))) (Kd.R_base ho0) hb); replace BK405 := Aside0.mk (blk_below (g := gb405) (o := .cells #[.slice A0_0 l0_0.length c0_0, .int .i64 a0_1] 40 (0, 0)) (by (with_reducible repeat (first | refine blk_drewN ?_ _ | refine blk_drew ?_ | refine blk_alloc ?_ _)); refine blk_far ?_ NB405_420.out _; (with_reducible repeat (first | refine blk_drewN ?_ _ | refine blk_drew ?_ | refine blk_alloc ?_ _)); refine blk_far ?_ NB405_420.out _; exact zk BK405) hb); replace BK420 := Aside0.mk (blk_below (g := gb420) (o := .cells #[.slice Ao27 t415.length co27, .int .i64 t418] 25 (0, 0)) (by (with_reducible repeat (first | refine blk_drewN ?_ _ | refine blk_drew ?_ | refine blk_alloc ?_ _)); refine blk_put (cs := #[.slice Ao27 t415.length co27, .int .i64 0]) ?_ 1 _ rfl; (with_reducible repeat (first | refine blk_drewN ?_ _ | refine blk_drew ?_ | refine blk_alloc ?_ _)); refine blk_put (cs := #[.slice none 0 0, .int .i64 0]) ?_ 0 _ rfl; exact zk BK420) hb); replace HB := Aside0.mk (below_step (zb HB) hb); (try clear hb); (try clear ho0)) | ((with_reducible refine gd 8 rfl ?_); refine bx (N := 8) (cs := #[.slice none 0 0, .int .i64 0]) (t := 25) ?_; intro gb425 hg w32 hbox hb; replace HO410 := Aside0.mk (Kd.R_below (zr HO410) hb); replace HO414 := Aside0.mk (Kd.R_below (zr HO414) hb); replace HO417 := Aside0.mk (Kd.R_below (zr HO417) hb); replace HO423 := Aside0.mk (Kd.R_below (zr HO423) hb); have BK425 := Aside0.mk (hbox); have GW425 := Aside0.mk ((by rw [hg]; exact (below_size (zb HB)) : w.heap.size ≤ gb425)); have GE425 := Aside0.mk ((by rw [hg]; exact (below_size (zb HB)) : w.heap.size ≤ gb425)); replace HB := Aside0.mk (below_step (zb HB) hb); have NB405_425 := Aside0.mk ((by rw [hg]; exact Nat.ne_of_lt (blk_lt (g := gb405) (o := .cells #[.slice A0_0 l0_0.length c0_0, .int .i64 a0_1] 40 (0, 0)) (zk BK405)) : gb405 ≠ gb425)); have NB425_405 := Aside0.mk ((by rw [hg]; exact Nat.ne_of_gt (blk_lt (g := gb405) (o := .cells #[.slice A0_0 l0_0.length c0_0, .int .i64 a0_1] 40 (0, 0)) (zk BK405)) : gb425 ≠ gb405)); replace BK405 := Aside0.mk (blk_below (g := gb405) (o := .cells #[.slice A0_0 l0_0.length c0_0, .int .i64 a0_1] 40 (0, 0)) (zk BK405) hb); have NB420_425 := Aside0.mk ((by rw [hg]; exact Nat.ne_of_lt (blk_lt (g := gb420) (o := .cells #[.slice Ao27 t415.length co27, .int .i64 t418] 25 (0, 0)) (zk BK420)) : gb420 ≠ gb425)); have NB425_420 := Aside0.mk ((by rw [hg]; exact Nat.ne_of_gt (blk_lt (g := gb420) (o := .cells #[.slice Ao27 t415.length co27, .int .i64 t418] 25 (0, 0)) (zk BK420)) : gb425 ≠ gb420)); replace BK420 := Aside0.mk (blk_below (g := gb420) (o := .cells #[.slice Ao27 t415.length co27, .int .i64 t418] 25 (0, 0)) (zk BK420) hb); clear hb hbox hg; obtain ⟨Ao33, co33, eo33⟩ := Kd.R_slice HO423.out; subst eo33; have hnb34 := NB425_405.out; have hnc34 := NB405_425.out; have hnb35 := NB425_420.out; have hnc35 := NB420_425.out; have hcz36_0 : w32.cell? ⟨gb425, 0, none⟩ = some (.slice none 0 0) := (blk_cell BK425.out 0).trans rfl; have hcz36_1 : w32.cell? ⟨gb425, 1, none⟩ = some (.int .i64 0) := (blk_cell BK425.out 1).trans rfl; have hfz36_0 := blk_frozen BK425.out 0; have hfz36_1 := blk_frozen BK425.out 1) | ((with_reducible refine gq 42 rfl ?_); refine gl (some 38) Try.func42 #[.slice A1 l1.length c1] ?_; (with_reducible refine (laws_toFieldS.calls k _ _ l1 t426 _ ?side1 ?side2 A16.out).mono ?_); (case side1 => exact Kd.C_below HR1.out (zb HB)); (case side2 => exact HC1.out); rintro e w37 ⟨v427, rfl, ho0, hb⟩; refine ⟨_, rfl, ?_⟩; have HO428 := Aside0.mk (Kd.R_lower (Kd.R_new' (Kd.R_new' (Kd.R_new' (Kd.R_new' ho0 (Kd.R_lt (by (with_reducible repeat (first | apply Kd.R_alloc | apply Kd.R_drewN | apply Kd.R_drew)); exact (Kd.R_mono (Kd.R_far (p := ⟨gb425, 1, none⟩) (Kd.R_far (p := ⟨gb425, 0, none⟩) (Kd.R_types HO410.out BK425.out (by decide)) (fun _ hk => hk.2) (.slice Ao33 t421.length co33)) (fun _ hk => hk.2) (.int .i64 t424)) (fun _ h_ => h_.1))))) (Kd.R_lt (by (with_reducible repeat (first | apply Kd.R_alloc | apply Kd.R_drewN | apply Kd.R_drew)); exact (Kd.R_mono (Kd.R_far (p := ⟨gb425, 1, none⟩) (Kd.R_far (p := ⟨gb425, 0, none⟩) (Kd.R_types HO414.out BK425.out (by decide)) (fun _ hk => hk.2) (.slice Ao33 t421.length co33)) (fun _ hk => hk.2) (.int .i64 t424)) (fun _ h_ => h_.1))))) (Kd.R_lt (by (with_reducible repeat (first | apply Kd.R_alloc | apply Kd.R_drewN | apply Kd.R_drew)); exact (Kd.R_mono (Kd.R_far (p := ⟨gb425, 1, none⟩) (Kd.R_far (p := ⟨gb425, 0, none⟩) (Kd.R_types HO417.out BK425.out (by decide)) (fun _ hk => hk.2) (.slice Ao33 t421.length co33)) (fun _ hk => hk.2) (.int .i64 t424)) (fun _ h_ => h_.1))))) (Kd.R_lt (by (with_reducible repeat (first | apply Kd.R_alloc | apply Kd.R_drewN | apply Kd.R_drew)); exact (Kd.R_mono (Kd.R_far (p := ⟨gb425, 1, none⟩) (Kd.R_far (p := ⟨gb425, 0, none⟩) (Kd.R_types HO423.out BK425.out (by decide)) (fun _ hk => hk.2) (.slice Ao33 t421.length co33)) (fun _ hk => hk.2) (.int .i64 t424)) (fun _ h_ => h_.1))))) (below_size (zb HB))); replace HO410 := Aside0.mk (Kd.R_elder' (by (with_reducible repeat (first | apply Kd.R_alloc | apply Kd.R_drewN | apply Kd.R_drew)); exact (Kd.R_mono (Kd.R_far (p := ⟨gb425, 1, none⟩) (Kd.R_far (p := ⟨gb425, 0, none⟩) (Kd.R_types HO410.out BK425.out (by decide)) (fun _ hk => hk.2) (.slice Ao33 t421.length co33)) (fun _ hk => hk.2) (.int .i64 t424)) (fun _ h_ => h_.1))) (Kd.R_base ho0) hb); replace HO414 := Aside0.mk (Kd.R_elder' (by (with_reducible repeat (first | apply Kd.R_alloc | apply Kd.R_drewN | apply Kd.R_drew)); exact (Kd.R_mono (Kd.R_far (p := ⟨gb425, 1, none⟩) (Kd.R_far (p := ⟨gb425, 0, none⟩) (Kd.R_types HO414.out BK425.out (by decide)) (fun _ hk => hk.2) (.slice Ao33 t421.length co33)) (fun _ hk => hk.2) (.int .i64 t424)) (fun _ h_ => h_.1))) (Kd.R_base ho0) hb); replace HO417 := Aside0.mk (Kd.R_elder' (by (with_reducible repeat (first | apply Kd.R_alloc | apply Kd.R_drewN | apply Kd.R_drew)); exact (Kd.R_mono (Kd.R_far (p := ⟨gb425, 1, none⟩) (Kd.R_far (p := ⟨gb425, 0, none⟩) (Kd.R_types HO417.out BK425.out (by decide)) (fun _ hk => hk.2) (.slice Ao33 t421.length co33)) (fun _ hk => hk.2) (.int .i64 t424)) (fun _ h_ => h_.1))) (Kd.R_base ho0) hb); replace HO423 := Aside0.mk (Kd.R_elder' (by (with_reducible repeat (first | apply Kd.R_alloc | apply Kd.R_drewN | apply Kd.R_drew)); exact (Kd.R_mono (Kd.R_far (p := ⟨gb425, 1, none⟩) (Kd.R_far (p := ⟨gb425, 0, none⟩) (Kd.R_types HO423.out BK425.out (by decide)) (fun _ hk => hk.2) (.slice Ao33 t421.length co33)) (fun _ hk => hk.2) (.int .i64 t424)) (fun _ h_ => h_.1))) (Kd.R_base ho0) hb); replace BK405 := Aside0.mk (blk_below (g := gb405) (o := .cells #[.slice A0_0 l0_0.length c0_0, .int .i64 a0_1] 40 (0, 0)) (by (with_reducible repeat (first | refine blk_drewN ?_ _ | refine blk_drew ?_ | refine blk_alloc ?_ _)); refine blk_far ?_ NB405_425.out _; (with_reducible repeat (first | refine blk_drewN ?_ _ | refine blk_drew ?_ | refine blk_alloc ?_ _)); refine blk_far ?_ NB405_425.out _; exact zk BK405) hb); replace BK420 := Aside0.mk (blk_below (g := gb420) (o := .cells #[.slice Ao27 t415.length co27, .int .i64 t418] 25 (0, 0)) (by (with_reducible repeat (first | refine blk_drewN ?_ _ | refine blk_drew ?_ | refine blk_alloc ?_ _)); refine blk_far ?_ NB420_425.out _; (with_reducible repeat (first | refine blk_drewN ?_ _ | refine blk_drew ?_ | refine blk_alloc ?_ _)); refine blk_far ?_ NB420_425.out _; exact zk BK420) hb); replace BK425 := Aside0.mk (blk_below (g := gb425) (o := .cells #[.slice Ao33 t421.length co33, .int .i64 t424] 25 (0, 0)) (by (with_reducible repeat (first | refine blk_drewN ?_ _ | refine blk_drew ?_ | refine blk_alloc ?_ _)); refine blk_put (cs := #[.slice Ao33 t421.length co33, .int .i64 0]) ?_ 1 _ rfl; (with_reducible repeat (first | refine blk_drewN ?_ _ | refine blk_drew ?_ | refine blk_alloc ?_ _)); refine blk_put (cs := #[.slice none 0 0, .int .i64 0]) ?_ 0 _ rfl; exact zk BK425) hb); replace HB := Aside0.mk (below_step (zb HB) hb); (try clear hb); (try clear ho0); have hcz38_0 : w37.cell? ⟨gb425, 0, none⟩ = some (.slice Ao33 t421.length co33) := (blk_cell BK425.out 0).trans rfl; have hcz38_1 : w37.cell? ⟨gb425, 1, none⟩ = some (.int .i64 t424) := (blk_cell BK425.out 1).trans rfl; have hfz38_0 := blk_frozen BK425.out 0; have hfz38_1 := blk_frozen BK425.out 1; obtain ⟨Ao39, co39, eo39⟩ := Kd.R_slice HO428.out; subst eo39) | ((with_reducible refine gq 39 rfl ?_); refine gl (some 42) Try.func39 #[.agg #[.slice Ao33 t421.length co33, .int .i64 t424], .slice Ao39 t426.length co39] ?_; (with_reducible refine (impl_HeadWrite.calls k _ _ t421 t424 _ _ t426 t429 t432 t433 _ ?side1 ?side2 ?side3 ?side4 A17.out).mono ?_); (case side1 => exact zc (Kd.R_reads' HO423.out).2.2); (case side2 => exact (Kd.R_reads' HO423.out).2.1); (case side3 => exact zc (Kd.R_reads' HO428.out).2.2); (case side4 => exact (Kd.R_reads' HO428.out).2.1); rintro e w40 ⟨v430, rfl, ho0, hb⟩; refine ⟨_, rfl, ?_⟩; have HO431 := Aside0.mk (Kd.R_lower (Kd.R_new' (Kd.R_new' (Kd.R_new' (Kd.R_new' (Kd.R_new' ho0 (Kd.R_lt (zr HO410))) (Kd.R_lt (zr HO414))) (Kd.R_lt (zr HO417))) (Kd.R_lt (zr HO423))) (Kd.R_lt (zr HO428))) (below_size (zb HB))); replace HO410 := Aside0.mk (Kd.R_elder' (zr HO410) (Kd.R_base ho0) hb); replace HO414 := Aside0.mk (Kd.R_elder' (zr HO414) (Kd.R_base ho0) hb); replace HO417 := Aside0.mk (Kd.R_elder' (zr HO417) (Kd.R_base ho0) hb); replace HO423 := Aside0.mk (Kd.R_elder' (zr HO423) (Kd.R_base ho0) hb); replace HO428 := Aside0.mk (Kd.R_elder' (zr HO428) (Kd.R_base ho0) hb); replace BK405 := Aside0.mk (blk_below (g := gb405) (o := .cells #[.slice A0_0 l0_0.length c0_0, .int .i64 a0_1] 40 (0, 0)) (zk BK405) hb); replace BK420 := Aside0.mk (blk_below (g := gb420) (o := .cells #[.slice Ao27 t415.length co27, .int .i64 t418] 25 (0, 0)) (zk BK420) hb); replace BK425 := Aside0.mk (blk_below (g := gb425) (o := .cells #[.slice Ao33 t421.length co33, .int .i64 t424] 25 (0, 0)) (zk BK425) hb); replace HB := Aside0.mk (below_step (zb HB) hb); (try clear hb); (try clear ho0)) | ((with_reducible refine gd 10 rfl ?_); refine bx (N := 10) (cs := #[.slice none 0 0, .int .i64 0]) (t := 25) ?_; intro gb434 hg w41 hbox hb; replace HO410 := Aside0.mk (Kd.R_below (zr HO410) hb); replace HO414 := Aside0.mk (Kd.R_below (zr HO414) hb); replace HO417 := Aside0.mk (Kd.R_below (zr HO417) hb); replace HO423 := Aside0.mk (Kd.R_below (zr HO423) hb); replace HO428 := Aside0.mk (Kd.R_below (zr HO428) hb); replace HO431 := Aside0.mk (Kd.R_below (zr HO431) hb); have BK434 := Aside0.mk (hbox); have GW434 := Aside0.mk ((by rw [hg]; exact (below_size (zb HB)) : w.heap.size ≤ gb434)); have GE434 := Aside0.mk ((by rw [hg]; exact (below_size (zb HB)) : w.heap.size ≤ gb434)); replace HB := Aside0.mk (below_step (zb HB) hb); have NB405_434 := Aside0.mk ((by rw [hg]; exact Nat.ne_of_lt (blk_lt (g := gb405) (o := .cells #[.slice A0_0 l0_0.length c0_0, .int .i64 a0_1] 40 (0, 0)) (zk BK405)) : gb405 ≠ gb434)); have NB434_405 := Aside0.mk ((by rw [hg]; exact Nat.ne_of_gt (blk_lt (g := gb405) (o := .cells #[.slice A0_0 l0_0.length c0_0, .int .i64 a0_1] 40 (0, 0)) (zk BK405)) : gb434 ≠ gb405)); replace BK405 := Aside0.mk (blk_below (g := gb405) (o := .cells #[.slice A0_0 l0_0.length c0_0, .int .i64 a0_1] 40 (0, 0)) (zk BK405) hb); have NB420_434 := Aside0.mk ((by rw [hg]; exact Nat.ne_of_lt (blk_lt (g := gb420) (o := .cells #[.slice Ao27 t415.length co27, .int .i64 t418] 25 (0, 0)) (zk BK420)) : gb420 ≠ gb434)); have NB434_420 := Aside0.mk ((by rw [hg]; exact Nat.ne_of_gt (blk_lt (g := gb420) (o := .cells #[.slice Ao27 t415.length co27, .int .i64 t418] 25 (0, 0)) (zk BK420)) : gb434 ≠ gb420)); replace BK420 := Aside0.mk (blk_below (g := gb420) (o := .cells #[.slice Ao27 t415.length co27, .int .i64 t418] 25 (0, 0)) (zk BK420) hb); have NB425_434 := Aside0.mk ((by rw [hg]; exact Nat.ne_of_lt (blk_lt (g := gb425) (o := .cells #[.slice Ao33 t421.length co33, .int .i64 t424] 25 (0, 0)) (zk BK425)) : gb425 ≠ gb434)); have NB434_425 := Aside0.mk ((by rw [hg]; exact Nat.ne_of_gt (blk_lt (g := gb425) (o := .cells #[.slice Ao33 t421.length co33, .int .i64 t424] 25 (0, 0)) (zk BK425)) : gb434 ≠ gb425)); replace BK425 := Aside0.mk (blk_below (g := gb425) (o := .cells #[.slice Ao33 t421.length co33, .int .i64 t424] 25 (0, 0)) (zk BK425) hb); clear hb hbox hg; obtain ⟨Ao42, co42, eo42⟩ := Kd.R_slice HO431.out; subst eo42; have hnb43 := NB434_405.out; have hnc43 := NB405_434.out; have hnb44 := NB434_420.out; have hnc44 := NB420_434.out; have hnb45 := NB434_425.out; have hnc45 := NB425_434.out; have hcz46_0 : w41.cell? ⟨gb434, 0, none⟩ = some (.slice none 0 0) := (blk_cell BK434.out 0).trans rfl; have hcz46_1 : w41.cell? ⟨gb434, 1, none⟩ = some (.int .i64 0) := (blk_cell BK434.out 1).trans rfl; have hfz46_0 := blk_frozen BK434.out 0; have hfz46_1 := blk_frozen BK434.out 1))
   (try simp only [Act.put, s1, s2, s3])
   go_cut [53] (fun v53 wc => ∃ (kq : Nat) (x53_17 : Bool), v53 = .bool x53_17 ∧ Aside0 (laws_FnExactHeadWrite.j0 kq l1 t419 t426 t433 x53_17 l0_0 a0_1 t415 t418 t421 t424 t429 t432 = some r) ∧ Aside0 (kq ≤ k) ∧ Aside0 (Kd.R k36 36 wc w.heap.size (fun k_ => some k_ ≠ ((.slice Ao27 t415.length co27) : Value).ownBlock ∧ some k_ ≠ ((.slice Ao33 t421.length co33) : Value).ownBlock ∧ some k_ ≠ ((.slice Ao42 t429.length co42) : Value).ownBlock) (.slice Ao39 t426.length co39) t426) ∧ Aside0 (Kd.R k36 36 wc w.heap.size (fun k_ => some k_ ≠ ((.slice Ao39 t426.length co39) : Value).ownBlock ∧ some k_ ≠ ((.slice Ao33 t421.length co33) : Value).ownBlock ∧ some k_ ≠ ((.slice Ao42 t429.length co42) : Value).ownBlock) (.slice Ao27 t415.length co27) t415) ∧ Aside0 (Kd.R k36 36 wc w.heap.size (fun k_ => some k_ ≠ ((.slice Ao39 t426.length co39) : Value).ownBlock ∧ some k_ ≠ ((.slice Ao27 t415.length co27) : Value).ownBlock ∧ some k_ ≠ ((.slice Ao42 t429.length co42) : Value).ownBlock) (.slice Ao33 t421.length co33) t421) ∧ Aside0 (Kd.R k36 36 wc w.heap.size (fun k_ => some k_ ≠ ((.slice Ao39 t426.length co39) : Value).ownBlock ∧ some k_ ≠ ((.slice Ao27 t415.length co27) : Value).ownBlock ∧ some k_ ≠ ((.slice Ao33 t421.length co33) : Value).ownBlock) (.slice Ao42 t429.length co42) t429) ∧ Aside0 (wc.heap[gb405]? = some (.cells #[(.slice A0_0 l0_0.length c0_0), .int .i64 a0_1] 40 (0, 0))) ∧ Aside0 (wc.heap[gb420]? = some (.cells #[(.slice Ao27 t415.length co27), .int .i64 t418] 25 (0, 0))) ∧ Aside0 (wc.heap[gb425]? = some (.cells #[(.slice Ao33 t421.length co33), .int .i64 t424] 25 (0, 0))) ∧ Aside0 (wc.heap[gb434]? = some (.cells #[(.slice Ao42 t429.length co42), .int .i64 t432] 25 (0, 0))) ∧ Aside0 (Below w.heap.size w wc))
   case first =>
    have H := HC18.out
    clear HC18
    replace H := Option.bind_eq_some_iff.mp H
    obtain ⟨t435, A470, H⟩ := H
    replace H : (if t435 = true then (laws_FnExactHeadWrite.j0 k l1 t419 t426 t433 (t433.toList != t419.toList) l0_0 a0_1 t415 t418 t421 t424 t429 t432) else (laws_FnExactHeadWrite.j0 k l1 t419 t426 t433 true l0_0 a0_1 t415 t418 t421 t424 t429 t432)) = some r := H
    have A47 := Aside0.mk A470
    clear A470
    by_cases c48 : t435 = true
    ·subst c48
     have H1 : (laws_FnExactHeadWrite.j0 k l1 t419 t426 t433 (t433.toList != t419.toList) l0_0 a0_1 t415 t418 t421 t424 t429 t432) = some r := by rw [if_pos rfl] at H; exact H
     clear H
     have H := H1
     clear H1
     have H' := Aside0.mk H
     clear H
     have hnb49 := NB434_405.out
     have hnc49 := NB405_434.out
     have hnb50 := NB434_420.out
     have hnc50 := NB420_434.out
     have hnb51 := NB434_425.out
     have hnc51 := NB425_434.out
     have hcz52_0 : w41.cell? ⟨gb434, 0, none⟩ = some (.slice none 0 0) := (blk_cell BK434.out 0).trans rfl
     have hcz52_1 : w41.cell? ⟨gb434, 1, none⟩ = some (.int .i64 0) := (blk_cell BK434.out 1).trans rfl
     have hfz52_0 := blk_frozen BK434.out 0
     have hfz52_1 := blk_frozen BK434.out 1
     have hnb53 := NB420_405.out
     have hnc53 := NB405_420.out
     have hnb54 := NB420_425.out
     have hnc54 := NB425_420.out
     have hcz55_0 : w41.cell? ⟨gb420, 0, none⟩ = some (.slice Ao27 t415.length co27) := (blk_cell BK420.out 0).trans rfl
     have hcz55_1 : w41.cell? ⟨gb420, 1, none⟩ = some (.int .i64 t418) := (blk_cell BK420.out 1).trans rfl
     have hfz55_0 := blk_frozen BK420.out 0
     have hfz55_1 := blk_frozen BK420.out 1
     go_wp2_with (first | ((with_reducible refine gq 26 rfl ?_); refine gl (some 47) Try.func26 #[.agg #[.slice Ao42 t429.length co42, .int .i64 t432], .agg #[.slice Ao27 t415.length co27, .int .i64 t418]] ?_; (with_reducible refine (laws_eqTable.calls k _ _ t429 t432 _ _ t415 t418 true _ ?side1 ?side2 ?side3 ?side4 A47.out).mono ?_); (case side1 => refine (Kd.R_reads' (e := 36) (base := w.heap.size) (ok := fun k_ => (((((True ∧ some k_ ≠ (.slice Ao23 t408.length co23 : Value).ownBlock) ∧ some k_ ≠ (.slice Ao24 t412.length co24 : Value).ownBlock) ∧ some k_ ≠ (.slice Ao27 t415.length co27 : Value).ownBlock) ∧ some k_ ≠ (.slice Ao33 t421.length co33 : Value).ownBlock) ∧ some k_ ≠ (.slice Ao39 t426.length co39 : Value).ownBlock)) (n := t429.length) (c := co42) ?_).2.2; exact (by (with_reducible repeat (first | apply Kd.R_alloc | apply Kd.R_drewN | apply Kd.R_drew)); exact (Kd.R_mono (Kd.R_far (p := ⟨gb434, 1, none⟩) (Kd.R_far (p := ⟨gb434, 0, none⟩) (Kd.R_types HO431.out BK434.out (by decide)) (fun _ hk => hk.2) (.slice Ao42 t429.length co42)) (fun _ hk => hk.2) (.int .i64 t432)) (fun _ h_ => h_.1)))); (case side2 => exact (Kd.R_reads' HO431.out).2.1); (case side3 => refine (Kd.R_reads' (e := 36) (base := w.heap.size) (ok := fun k_ => (((((True ∧ some k_ ≠ (.slice Ao23 t408.length co23 : Value).ownBlock) ∧ some k_ ≠ (.slice Ao24 t412.length co24 : Value).ownBlock) ∧ some k_ ≠ (.slice Ao33 t421.length co33 : Value).ownBlock) ∧ some k_ ≠ (.slice Ao39 t426.length co39 : Value).ownBlock) ∧ some k_ ≠ (.slice Ao42 t429.length co42 : Value).ownBlock)) (n := t415.length) (c := co27) ?_).2.2; exact (by (with_reducible repeat (first | apply Kd.R_alloc | apply Kd.R_drewN | apply Kd.R_drew)); exact (Kd.R_mono (Kd.R_far (p := ⟨gb434, 1, none⟩) (Kd.R_far (p := ⟨gb434, 0, none⟩) (Kd.R_types HO417.out BK434.out (by decide)) (fun _ hk => hk.2) (.slice Ao42 t429.length co42)) (fun _ hk => hk.2) (.int .i64 t432)) (fun _ h_ => h_.1)))); (case side4 => exact (Kd.R_reads' HO417.out).2.1); rintro e w56 ⟨rfl, hb⟩; refine ⟨_, rfl, ?_⟩; replace HO410 := Aside0.mk (Kd.R_below (by (with_reducible repeat (first | apply Kd.R_alloc | apply Kd.R_drewN | apply Kd.R_drew)); exact (Kd.R_mono (Kd.R_far (p := ⟨gb434, 1, none⟩) (Kd.R_far (p := ⟨gb434, 0, none⟩) (Kd.R_types HO410.out BK434.out (by decide)) (fun _ hk => hk.2) (.slice Ao42 t429.length co42)) (fun _ hk => hk.2) (.int .i64 t432)) (fun _ h_ => h_.1))) hb); replace HO414 := Aside0.mk (Kd.R_below (by (with_reducible repeat (first | apply Kd.R_alloc | apply Kd.R_drewN | apply Kd.R_drew)); exact (Kd.R_mono (Kd.R_far (p := ⟨gb434, 1, none⟩) (Kd.R_far (p := ⟨gb434, 0, none⟩) (Kd.R_types HO414.out BK434.out (by decide)) (fun _ hk => hk.2) (.slice Ao42 t429.length co42)) (fun _ hk => hk.2) (.int .i64 t432)) (fun _ h_ => h_.1))) hb); replace HO417 := Aside0.mk (Kd.R_below (by (with_reducible repeat (first | apply Kd.R_alloc | apply Kd.R_drewN | apply Kd.R_drew)); exact (Kd.R_mono (Kd.R_far (p := ⟨gb434, 1, none⟩) (Kd.R_far (p := ⟨gb434, 0, none⟩) (Kd.R_types HO417.out BK434.out (by decide)) (fun _ hk => hk.2) (.slice Ao42 t429.length co42)) (fun _ hk => hk.2) (.int .i64 t432)) (fun _ h_ => h_.1))) hb); replace HO423 := Aside0.mk (Kd.R_below (by (with_reducible repeat (first | apply Kd.R_alloc | apply Kd.R_drewN | apply Kd.R_drew)); exact (Kd.R_mono (Kd.R_far (p := ⟨gb434, 1, none⟩) (Kd.R_far (p := ⟨gb434, 0, none⟩) (Kd.R_types HO423.out BK434.out (by decide)) (fun _ hk => hk.2) (.slice Ao42 t429.length co42)) (fun _ hk => hk.2) (.int .i64 t432)) (fun _ h_ => h_.1))) hb); replace HO428 := Aside0.mk (Kd.R_below (by (with_reducible repeat (first | apply Kd.R_alloc | apply Kd.R_drewN | apply Kd.R_drew)); exact (Kd.R_mono (Kd.R_far (p := ⟨gb434, 1, none⟩) (Kd.R_far (p := ⟨gb434, 0, none⟩) (Kd.R_types HO428.out BK434.out (by decide)) (fun _ hk => hk.2) (.slice Ao42 t429.length co42)) (fun _ hk => hk.2) (.int .i64 t432)) (fun _ h_ => h_.1))) hb); replace HO431 := Aside0.mk (Kd.R_below (by (with_reducible repeat (first | apply Kd.R_alloc | apply Kd.R_drewN | apply Kd.R_drew)); exact (Kd.R_mono (Kd.R_far (p := ⟨gb434, 1, none⟩) (Kd.R_far (p := ⟨gb434, 0, none⟩) (Kd.R_types HO431.out BK434.out (by decide)) (fun _ hk => hk.2) (.slice Ao42 t429.length co42)) (fun _ hk => hk.2) (.int .i64 t432)) (fun _ h_ => h_.1))) hb); replace BK405 := Aside0.mk (blk_below (g := gb405) (o := .cells #[.slice A0_0 l0_0.length c0_0, .int .i64 a0_1] 40 (0, 0)) (by (with_reducible repeat (first | refine blk_drewN ?_ _ | refine blk_drew ?_ | refine blk_alloc ?_ _)); refine blk_far ?_ NB405_434.out _; (with_reducible repeat (first | refine blk_drewN ?_ _ | refine blk_drew ?_ | refine blk_alloc ?_ _)); refine blk_far ?_ NB405_434.out _; exact zk BK405) hb); replace BK420 := Aside0.mk (blk_below (g := gb420) (o := .cells #[.slice Ao27 t415.length co27, .int .i64 t418] 25 (0, 0)) (by (with_reducible repeat (first | refine blk_drewN ?_ _ | refine blk_drew ?_ | refine blk_alloc ?_ _)); refine blk_far ?_ NB420_434.out _; (with_reducible repeat (first | refine blk_drewN ?_ _ | refine blk_drew ?_ | refine blk_alloc ?_ _)); refine blk_far ?_ NB420_434.out _; exact zk BK420) hb); replace BK425 := Aside0.mk (blk_below (g := gb425) (o := .cells #[.slice Ao33 t421.length co33, .int .i64 t424] 25 (0, 0)) (by (with_reducible repeat (first | refine blk_drewN ?_ _ | refine blk_drew ?_ | refine blk_alloc ?_ _)); refine blk_far ?_ NB425_434.out _; (with_reducible repeat (first | refine blk_drewN ?_ _ | refine blk_drew ?_ | refine blk_alloc ?_ _)); refine blk_far ?_ NB425_434.out _; exact zk BK425) hb); replace BK434 := Aside0.mk (blk_below (g := gb434) (o := .cells #[.slice Ao42 t429.length co42, .int .i64 t432] 25 (0, 0)) (by (with_reducible repeat (first | refine blk_drewN ?_ _ | refine blk_drew ?_ | refine blk_alloc ?_ _)); refine blk_put (cs := #[.slice Ao42 t429.length co42, .int .i64 0]) ?_ 1 _ rfl; (with_reducible repeat (first | refine blk_drewN ?_ _ | refine blk_drew ?_ | refine blk_alloc ?_ _)); refine blk_put (cs := #[.slice none 0 0, .int .i64 0]) ?_ 0 _ rfl; exact zk BK434) hb); replace HB := Aside0.mk (below_step (zb HB) hb); (try clear hb); (try clear hk)))
     go_meet
     case rel => exact ⟨_, ((t433.toList != t419.toList)), zs, H', ⟨by first | omega | exact Nat.le_refl _⟩, ⟨by (with_reducible repeat (first | apply Kd.R_alloc | apply Kd.R_drewN | apply Kd.R_drew)); exact Kd.R_mono HO428.out (fun _ hk => ⟨hk.1.1.2, ⟨hk.1.2, hk.2⟩⟩)⟩, ⟨by (with_reducible repeat (first | apply Kd.R_alloc | apply Kd.R_drewN | apply Kd.R_drew)); exact Kd.R_mono HO417.out (fun _ hk => ⟨hk.1.2, ⟨hk.1.1.2, hk.2⟩⟩)⟩, ⟨by (with_reducible repeat (first | apply Kd.R_alloc | apply Kd.R_drewN | apply Kd.R_drew)); exact Kd.R_mono HO423.out (fun _ hk => ⟨hk.1.2, ⟨hk.1.1.2, hk.2⟩⟩)⟩, ⟨by (with_reducible repeat (first | apply Kd.R_alloc | apply Kd.R_drewN | apply Kd.R_drew)); exact Kd.R_mono HO431.out (fun _ hk => ⟨hk.2, ⟨hk.1.1.2, hk.1.2⟩⟩)⟩, ⟨by exact zk BK405⟩, ⟨by exact zk BK420⟩, ⟨by exact zk BK425⟩, ⟨by exact zk BK434⟩, ⟨zb HB⟩⟩
    ·replace c48 := Bool.eq_false_iff.mpr c48
     subst c48
     have H1 : (laws_FnExactHeadWrite.j0 k l1 t419 t426 t433 true l0_0 a0_1 t415 t418 t421 t424 t429 t432) = some r := by rw [if_neg (show ¬ (false = true) by decide)] at H; exact H
     clear H
     have H := H1
     clear H1
     have H' := Aside0.mk H
     clear H
     have hnb57 := NB434_405.out
     have hnc57 := NB405_434.out
     have hnb58 := NB434_420.out
     have hnc58 := NB420_434.out
     have hnb59 := NB434_425.out
     have hnc59 := NB425_434.out
     have hcz60_0 : w41.cell? ⟨gb434, 0, none⟩ = some (.slice none 0 0) := (blk_cell BK434.out 0).trans rfl
     have hcz60_1 : w41.cell? ⟨gb434, 1, none⟩ = some (.int .i64 0) := (blk_cell BK434.out 1).trans rfl
     have hfz60_0 := blk_frozen BK434.out 0
     have hfz60_1 := blk_frozen BK434.out 1
     have hnb61 := NB420_405.out
     have hnc61 := NB405_420.out
     have hnb62 := NB420_425.out
     have hnc62 := NB425_420.out
     have hcz63_0 : w41.cell? ⟨gb420, 0, none⟩ = some (.slice Ao27 t415.length co27) := (blk_cell BK420.out 0).trans rfl
     have hcz63_1 : w41.cell? ⟨gb420, 1, none⟩ = some (.int .i64 t418) := (blk_cell BK420.out 1).trans rfl
     have hfz63_0 := blk_frozen BK420.out 0
     have hfz63_1 := blk_frozen BK420.out 1
     go_wp2_with (first | ((with_reducible refine gq 26 rfl ?_); refine gl (some 47) Try.func26 #[.agg #[.slice Ao42 t429.length co42, .int .i64 t432], .agg #[.slice Ao27 t415.length co27, .int .i64 t418]] ?_; (with_reducible refine (laws_eqTable.calls k _ _ t429 t432 _ _ t415 t418 false _ ?side1 ?side2 ?side3 ?side4 A47.out).mono ?_); (case side1 => refine (Kd.R_reads' (e := 36) (base := w.heap.size) (ok := fun k_ => (((((True ∧ some k_ ≠ (.slice Ao23 t408.length co23 : Value).ownBlock) ∧ some k_ ≠ (.slice Ao24 t412.length co24 : Value).ownBlock) ∧ some k_ ≠ (.slice Ao27 t415.length co27 : Value).ownBlock) ∧ some k_ ≠ (.slice Ao33 t421.length co33 : Value).ownBlock) ∧ some k_ ≠ (.slice Ao39 t426.length co39 : Value).ownBlock)) (n := t429.length) (c := co42) ?_).2.2; exact (by (with_reducible repeat (first | apply Kd.R_alloc | apply Kd.R_drewN | apply Kd.R_drew)); exact (Kd.R_mono (Kd.R_far (p := ⟨gb434, 1, none⟩) (Kd.R_far (p := ⟨gb434, 0, none⟩) (Kd.R_types HO431.out BK434.out (by decide)) (fun _ hk => hk.2) (.slice Ao42 t429.length co42)) (fun _ hk => hk.2) (.int .i64 t432)) (fun _ h_ => h_.1)))); (case side2 => exact (Kd.R_reads' HO431.out).2.1); (case side3 => refine (Kd.R_reads' (e := 36) (base := w.heap.size) (ok := fun k_ => (((((True ∧ some k_ ≠ (.slice Ao23 t408.length co23 : Value).ownBlock) ∧ some k_ ≠ (.slice Ao24 t412.length co24 : Value).ownBlock) ∧ some k_ ≠ (.slice Ao33 t421.length co33 : Value).ownBlock) ∧ some k_ ≠ (.slice Ao39 t426.length co39 : Value).ownBlock) ∧ some k_ ≠ (.slice Ao42 t429.length co42 : Value).ownBlock)) (n := t415.length) (c := co27) ?_).2.2; exact (by (with_reducible repeat (first | apply Kd.R_alloc | apply Kd.R_drewN | apply Kd.R_drew)); exact (Kd.R_mono (Kd.R_far (p := ⟨gb434, 1, none⟩) (Kd.R_far (p := ⟨gb434, 0, none⟩) (Kd.R_types HO417.out BK434.out (by decide)) (fun _ hk => hk.2) (.slice Ao42 t429.length co42)) (fun _ hk => hk.2) (.int .i64 t432)) (fun _ h_ => h_.1)))); (case side4 => exact (Kd.R_reads' HO417.out).2.1); rintro e w64 ⟨rfl, hb⟩; refine ⟨_, rfl, ?_⟩; replace HO410 := Aside0.mk (Kd.R_below (by (with_reducible repeat (first | apply Kd.R_alloc | apply Kd.R_drewN | apply Kd.R_drew)); exact (Kd.R_mono (Kd.R_far (p := ⟨gb434, 1, none⟩) (Kd.R_far (p := ⟨gb434, 0, none⟩) (Kd.R_types HO410.out BK434.out (by decide)) (fun _ hk => hk.2) (.slice Ao42 t429.length co42)) (fun _ hk => hk.2) (.int .i64 t432)) (fun _ h_ => h_.1))) hb); replace HO414 := Aside0.mk (Kd.R_below (by (with_reducible repeat (first | apply Kd.R_alloc | apply Kd.R_drewN | apply Kd.R_drew)); exact (Kd.R_mono (Kd.R_far (p := ⟨gb434, 1, none⟩) (Kd.R_far (p := ⟨gb434, 0, none⟩) (Kd.R_types HO414.out BK434.out (by decide)) (fun _ hk => hk.2) (.slice Ao42 t429.length co42)) (fun _ hk => hk.2) (.int .i64 t432)) (fun _ h_ => h_.1))) hb); replace HO417 := Aside0.mk (Kd.R_below (by (with_reducible repeat (first | apply Kd.R_alloc | apply Kd.R_drewN | apply Kd.R_drew)); exact (Kd.R_mono (Kd.R_far (p := ⟨gb434, 1, none⟩) (Kd.R_far (p := ⟨gb434, 0, none⟩) (Kd.R_types HO417.out BK434.out (by decide)) (fun _ hk => hk.2) (.slice Ao42 t429.length co42)) (fun _ hk => hk.2) (.int .i64 t432)) (fun _ h_ => h_.1))) hb); replace HO423 := Aside0.mk (Kd.R_below (by (with_reducible repeat (first | apply Kd.R_alloc | apply Kd.R_drewN | apply Kd.R_drew)); exact (Kd.R_mono (Kd.R_far (p := ⟨gb434, 1, none⟩) (Kd.R_far (p := ⟨gb434, 0, none⟩) (Kd.R_types HO423.out BK434.out (by decide)) (fun _ hk => hk.2) (.slice Ao42 t429.length co42)) (fun _ hk => hk.2) (.int .i64 t432)) (fun _ h_ => h_.1))) hb); replace HO428 := Aside0.mk (Kd.R_below (by (with_reducible repeat (first | apply Kd.R_alloc | apply Kd.R_drewN | apply Kd.R_drew)); exact (Kd.R_mono (Kd.R_far (p := ⟨gb434, 1, none⟩) (Kd.R_far (p := ⟨gb434, 0, none⟩) (Kd.R_types HO428.out BK434.out (by decide)) (fun _ hk => hk.2) (.slice Ao42 t429.length co42)) (fun _ hk => hk.2) (.int .i64 t432)) (fun _ h_ => h_.1))) hb); replace HO431 := Aside0.mk (Kd.R_below (by (with_reducible repeat (first | apply Kd.R_alloc | apply Kd.R_drewN | apply Kd.R_drew)); exact (Kd.R_mono (Kd.R_far (p := ⟨gb434, 1, none⟩) (Kd.R_far (p := ⟨gb434, 0, none⟩) (Kd.R_types HO431.out BK434.out (by decide)) (fun _ hk => hk.2) (.slice Ao42 t429.length co42)) (fun _ hk => hk.2) (.int .i64 t432)) (fun _ h_ => h_.1))) hb); replace BK405 := Aside0.mk (blk_below (g := gb405) (o := .cells #[.slice A0_0 l0_0.length c0_0, .int .i64 a0_1] 40 (0, 0)) (by (with_reducible repeat (first | refine blk_drewN ?_ _ | refine blk_drew ?_ | refine blk_alloc ?_ _)); refine blk_far ?_ NB405_434.out _; (with_reducible repeat (first | refine blk_drewN ?_ _ | refine blk_drew ?_ | refine blk_alloc ?_ _)); refine blk_far ?_ NB405_434.out _; exact zk BK405) hb); replace BK420 := Aside0.mk (blk_below (g := gb420) (o := .cells #[.slice Ao27 t415.length co27, .int .i64 t418] 25 (0, 0)) (by (with_reducible repeat (first | refine blk_drewN ?_ _ | refine blk_drew ?_ | refine blk_alloc ?_ _)); refine blk_far ?_ NB420_434.out _; (with_reducible repeat (first | refine blk_drewN ?_ _ | refine blk_drew ?_ | refine blk_alloc ?_ _)); refine blk_far ?_ NB420_434.out _; exact zk BK420) hb); replace BK425 := Aside0.mk (blk_below (g := gb425) (o := .cells #[.slice Ao33 t421.length co33, .int .i64 t424] 25 (0, 0)) (by (with_reducible repeat (first | refine blk_drewN ?_ _ | refine blk_drew ?_ | refine blk_alloc ?_ _)); refine blk_far ?_ NB425_434.out _; (with_reducible repeat (first | refine blk_drewN ?_ _ | refine blk_drew ?_ | refine blk_alloc ?_ _)); refine blk_far ?_ NB425_434.out _; exact zk BK425) hb); replace BK434 := Aside0.mk (blk_below (g := gb434) (o := .cells #[.slice Ao42 t429.length co42, .int .i64 t432] 25 (0, 0)) (by (with_reducible repeat (first | refine blk_drewN ?_ _ | refine blk_drew ?_ | refine blk_alloc ?_ _)); refine blk_put (cs := #[.slice Ao42 t429.length co42, .int .i64 0]) ?_ 1 _ rfl; (with_reducible repeat (first | refine blk_drewN ?_ _ | refine blk_drew ?_ | refine blk_alloc ?_ _)); refine blk_put (cs := #[.slice none 0 0, .int .i64 0]) ?_ 0 _ rfl; exact zk BK434) hb); replace HB := Aside0.mk (below_step (zb HB) hb); (try clear hb); (try clear hk)))
     go_meet
     case rel => exact ⟨_, (true), zs, H', ⟨by first | omega | exact Nat.le_refl _⟩, ⟨by (with_reducible repeat (first | apply Kd.R_alloc | apply Kd.R_drewN | apply Kd.R_drew)); exact Kd.R_mono HO428.out (fun _ hk => ⟨hk.1.1.2, ⟨hk.1.2, hk.2⟩⟩)⟩, ⟨by (with_reducible repeat (first | apply Kd.R_alloc | apply Kd.R_drewN | apply Kd.R_drew)); exact Kd.R_mono HO417.out (fun _ hk => ⟨hk.1.2, ⟨hk.1.1.2, hk.2⟩⟩)⟩, ⟨by (with_reducible repeat (first | apply Kd.R_alloc | apply Kd.R_drewN | apply Kd.R_drew)); exact Kd.R_mono HO423.out (fun _ hk => ⟨hk.1.2, ⟨hk.1.1.2, hk.2⟩⟩)⟩, ⟨by (with_reducible repeat (first | apply Kd.R_alloc | apply Kd.R_drewN | apply Kd.R_drew)); exact Kd.R_mono HO431.out (fun _ hk => ⟨hk.2, ⟨hk.1.1.2, hk.1.2⟩⟩)⟩, ⟨by exact zk BK405⟩, ⟨by exact zk BK420⟩, ⟨by exact zk BK425⟩, ⟨by exact zk BK434⟩, ⟨zb HB⟩⟩
   case rest =>
    clear HC18
    try clear c1
    try clear c2
    try clear p2
    try clear c3
    try clear c4
    try clear c5
    try clear c6
    try clear c8
    try clear c8b0
    try clear c8b1
    try clear c10
    try clear c10b0
    try clear c14
    try clear c24
    try clear c25
    try clear c26
    try clear c28
    try clear c34
    try clear c35
    try clear c38
    try clear c39
    try clear c41
    try clear c42
    try clear c43
    try clear c44
    try clear c45
    try clear c48
    try clear c49
    try clear c50
    try clear c51
    try clear c53
    try clear c54
    try clear c57
    try clear c58
    try clear c59
    try clear c61
    try clear c62
    try clear hcz20_0
    try clear hcz20_1
    try clear hcz29_0
    try clear hcz29_1
    try clear hcz30_0
    try clear hcz30_1
    try clear hcz36_0
    try clear hcz36_1
    try clear hcz38_0
    try clear hcz38_1
    try clear hcz46_0
    try clear hcz46_1
    try clear hcz52_0
    try clear hcz52_1
    try clear hcz55_0
    try clear hcz55_1
    try clear hcz60_0
    try clear hcz60_1
    try clear hcz63_0
    try clear hcz63_1
    try clear hcz6_0
    try clear hcz6_1
    try clear hfz20_0
    try clear hfz20_1
    try clear hfz29_0
    try clear hfz29_1
    try clear hfz30_0
    try clear hfz30_1
    try clear hfz36_0
    try clear hfz36_1
    try clear hfz38_0
    try clear hfz38_1
    try clear hfz46_0
    try clear hfz46_1
    try clear hfz52_0
    try clear hfz52_1
    try clear hfz55_0
    try clear hfz55_1
    try clear hfz60_0
    try clear hfz60_1
    try clear hfz63_0
    try clear hfz63_1
    try clear hfz6_0
    try clear hfz6_1
    obtain ⟨kq, x53_17, rfl, HA, HJ17, HO_9, HO_421000, HO_426000, HO_435000, BK405, BK420, BK425, BK434, HB⟩ := hcut
    cases kq with
    | zero => exact absurd HA.out (by simp [laws_FnExactHeadWrite.j0])
    | succ kj17 =>
     have H := HA.out
     clear HA
     simp only [laws_FnExactHeadWrite.j0] at H
     by_cases c65 : x53_17 = true
     ·subst c65
      have H1 : (some false) = some r := by rw [if_pos rfl] at H; exact H
      clear H
      have H := H1
      clear H1
      obtain rfl := Option.some.inj H
      go_wp2
      go_ret
      exact ⟨ze, zb HB⟩
     ·replace c65 := Bool.eq_false_iff.mpr c65
      subst c65
      have H1 : ((laws_toTable.f kj17 l0_0 a0_1).bind fun bt436 => ((laws_eqTable.f kj17 t421 t424 bt436.1 bt436.2).bind fun t440 => (if t440 = true then ((laws_toFieldS.f kj17 l1).bind fun t441 => ((laws_eqFieldS.f kj17 t426 t441).bind fun t444 => (if t444 = true then ((laws_markTable.f kj17 t421 t424 1).bind fun bt445 => ((laws_markFieldS.f kj17 t426 bt445.1).bind fun bt447 => (if bt447.1 < 0 then (laws_FnExactHeadWrite.j1 kj17 l1 t419 true l0_0 a0_1 t415 t418 t429 t432) else ((laws_eqTable.f kj17 t429 t432 t415 t418).bind fun t449 => (if t449 = true then (laws_FnExactHeadWrite.j1 kj17 l1 t419 (t433.toList != t419.toList) l0_0 a0_1 t415 t418 t429 t432) else (laws_FnExactHeadWrite.j1 kj17 l1 t419 true l0_0 a0_1 t415 t418 t429 t432)))))) else (some false)))) else (some false)))) = some r := by rw [if_neg (show ¬ (false = true) by decide)] at H; exact H
      clear H
      have H := H1
      clear H1
      replace H := Option.bind_eq_some_iff.mp H
      obtain ⟨⟨t436, t439⟩, A660, H⟩ := H
      replace H : ((laws_eqTable.f kj17 t421 t424 t436 t439).bind fun t440 => (if t440 = true then ((laws_toFieldS.f kj17 l1).bind fun t441 => ((laws_eqFieldS.f kj17 t426 t441).bind fun t444 => (if t444 = true then ((laws_markTable.f kj17 t421 t424 1).bind fun bt445 => ((laws_markFieldS.f kj17 t426 bt445.1).bind fun bt447 => (if bt447.1 < 0 then (laws_FnExactHeadWrite.j1 kj17 l1 t419 true l0_0 a0_1 t415 t418 t429 t432) else ((laws_eqTable.f kj17 t429 t432 t415 t418).bind fun t449 => (if t449 = true then (laws_FnExactHeadWrite.j1 kj17 l1 t419 (t433.toList != t419.toList) l0_0 a0_1 t415 t418 t429 t432) else (laws_FnExactHeadWrite.j1 kj17 l1 t419 true l0_0 a0_1 t415 t418 t429 t432)))))) else (some false)))) else (some false))) = some r := H
      have A66 := Aside0.mk A660
      clear A660
      replace H := Option.bind_eq_some_iff.mp H
      obtain ⟨t440, A670, H⟩ := H
      replace H : (if t440 = true then ((laws_toFieldS.f kj17 l1).bind fun t441 => ((laws_eqFieldS.f kj17 t426 t441).bind fun t444 => (if t444 = true then ((laws_markTable.f kj17 t421 t424 1).bind fun bt445 => ((laws_markFieldS.f kj17 t426 bt445.1).bind fun bt447 => (if bt447.1 < 0 then (laws_FnExactHeadWrite.j1 kj17 l1 t419 true l0_0 a0_1 t415 t418 t429 t432) else ((laws_eqTable.f kj17 t429 t432 t415 t418).bind fun t449 => (if t449 = true then (laws_FnExactHeadWrite.j1 kj17 l1 t419 (t433.toList != t419.toList) l0_0 a0_1 t415 t418 t429 t432) else (laws_FnExactHeadWrite.j1 kj17 l1 t419 true l0_0 a0_1 t415 t418 t429 t432)))))) else (some false)))) else (some false)) = some r := H
      have A67 := Aside0.mk A670
      clear A670
      have HC68 := Aside0.mk H
      clear H
      try go_wp2
      replace HO_9 := Aside0.mk (Kd.R_drew HO_9.out)
      replace HO_421000 := Aside0.mk (Kd.R_drew HO_421000.out)
      replace HO_426000 := Aside0.mk (Kd.R_drew HO_426000.out)
      replace HO_435000 := Aside0.mk (Kd.R_drew HO_435000.out)
      replace BK405 := Aside0.mk (blk_drew BK405.out)
      replace BK420 := Aside0.mk (blk_drew BK420.out)
      replace BK425 := Aside0.mk (blk_drew BK425.out)
      replace BK434 := Aside0.mk (blk_drew BK434.out)
      replace HB := Aside0.mk (below_drew1 HB.out)
      refine start_ (n := 5) (S := fun w' => w'.cell? ⟨gb425, 0, none⟩ = some (.slice Ao33 t421.length co33) ∧ w'.cell? ⟨gb425, 1, none⟩ = some (.int .i64 t424) ∧ w'.cell? ⟨gb405, 0, none⟩ = some (.slice A0_0 l0_0.length c0_0) ∧ w'.cell? ⟨gb405, 1, none⟩ = some (.int .i64 a0_1)) (ds := []) #[false, false, false, false, false] (by kernel_rfl) rfl rfl ⟨(blk_cell BK425.out 0).trans rfl, (blk_cell BK425.out 1).trans rfl, (blk_cell BK405.out 0).trans rfl, (blk_cell BK405.out 1).trans rfl⟩ (fun hHeld => ?_)
      generalize wc.drew = w69 at HO_9 HO_421000 HO_426000 HO_435000 BK405 BK420 BK425 BK434 HB hHeld ⊢
      refine tk4 0 (some 54) (bm 5 1) rfl rfl hHeld ?_
      refine tk4 1 (some 55) (bm 5 3) rfl rfl hHeld ?_
      refine one_ (i := 2) (N := some 56) (bm 5 7) rfl rfl (by kernel_rfl) (by decide) (fun K hK => ?_)
      refine gs Try.func25 #[.agg #[.slice A0_0 l0_0.length c0_0, .int .i64 a0_1]] ?_
      with_reducible refine (laws_toTable.calls kj17 _ _ l0_0 a0_1 t436 t439 _ ?side1 ?side2 A66.out).mono ?_
      (case side1 => exact zc (Kd.C_below HR0_0.out HB.out))
      (case side2 => exact HC0_0.out)
      rintro e w70 ⟨v437, rfl, ho0, hb⟩
      refine ⟨_, rfl, ?_⟩
      have HO438 := Aside0.mk (Kd.R_lower (Kd.R_new' (Kd.R_new' (Kd.R_new' (Kd.R_new' ho0 (Kd.R_lt (zr HO_9))) (Kd.R_lt (zr HO_421000))) (Kd.R_lt (zr HO_426000))) (Kd.R_lt (zr HO_435000))) (below_size (zb HB)))
      replace HO_9 := Aside0.mk (Kd.R_elder' (zr HO_9) (Kd.R_base ho0) hb)
      replace HO_421000 := Aside0.mk (Kd.R_elder' (zr HO_421000) (Kd.R_base ho0) hb)
      replace HO_426000 := Aside0.mk (Kd.R_elder' (zr HO_426000) (Kd.R_base ho0) hb)
      replace HO_435000 := Aside0.mk (Kd.R_elder' (zr HO_435000) (Kd.R_base ho0) hb)
      replace BK405 := Aside0.mk (blk_below (g := gb405) (o := .cells #[.slice A0_0 l0_0.length c0_0, .int .i64 a0_1] 40 (0, 0)) (zk BK405) hb)
      replace BK420 := Aside0.mk (blk_below (g := gb420) (o := .cells #[.slice Ao27 t415.length co27, .int .i64 t418] 25 (0, 0)) (zk BK420) hb)
      replace BK425 := Aside0.mk (blk_below (g := gb425) (o := .cells #[.slice Ao33 t421.length co33, .int .i64 t424] 25 (0, 0)) (zk BK425) hb)
      replace BK434 := Aside0.mk (blk_below (g := gb434) (o := .cells #[.slice Ao42 t429.length co42, .int .i64 t432] 25 (0, 0)) (zk BK434) hb)
      replace HB := Aside0.mk (below_step (zb HB) hb)
      (try clear hb)
      (try clear ho0)
      obtain ⟨Ao71, co71, eo71⟩ := Kd.R_slice HO438.out
      (first | subst eo71 | (injection eo71 with f1_ f2_ f3_; have f4_ := f1_.symm; have f5_ := f3_.symm; clear f1_ f2_ f3_; subst f4_; subst f5_))
      refine hK.out _ _ ⟨(blk_cell BK425.out 0).trans rfl, (blk_cell BK425.out 1).trans rfl, (blk_cell BK405.out 0).trans rfl, (blk_cell BK405.out 1).trans rfl⟩ (fun hHeld => ?_)
      clear hK K
      refine nm ?_
      refine one_ (i := 3) (N := some 57) (bm 5 15) rfl rfl (by kernel_rfl) (by decide) (fun K hK => ?_)
      refine gs Try.func26 #[.agg #[.slice Ao33 t421.length co33, .int .i64 t424], .agg #[.slice Ao71 t436.length co71, .int .i64 t439]] ?_
      with_reducible refine (laws_eqTable.calls kj17 _ _ t421 t424 _ _ t436 t439 t440 _ ?side1 ?side2 ?side3 ?side4 A67.out).mono ?_
      (case side1 => exact zc (Kd.R_reads' HO_426000.out).2.2)
      (case side2 => exact (Kd.R_reads' HO_426000.out).2.1)
      (case side3 => exact zc (Kd.R_reads' HO438.out).2.2)
      (case side4 => exact (Kd.R_reads' HO438.out).2.1)
      rintro e w72 ⟨rfl, hb⟩
      refine ⟨_, rfl, ?_⟩
      replace HO_9 := Aside0.mk (Kd.R_below (zr HO_9) hb)
      replace HO_421000 := Aside0.mk (Kd.R_below (zr HO_421000) hb)
      replace HO_426000 := Aside0.mk (Kd.R_below (zr HO_426000) hb)
      replace HO_435000 := Aside0.mk (Kd.R_below (zr HO_435000) hb)
      replace HO438 := Aside0.mk (Kd.R_below (zr HO438) hb)
      replace BK405 := Aside0.mk (blk_below (g := gb405) (o := .cells #[.slice A0_0 l0_0.length c0_0, .int .i64 a0_1] 40 (0, 0)) (zk BK405) hb)
      replace BK420 := Aside0.mk (blk_below (g := gb420) (o := .cells #[.slice Ao27 t415.length co27, .int .i64 t418] 25 (0, 0)) (zk BK420) hb)
      replace BK425 := Aside0.mk (blk_below (g := gb425) (o := .cells #[.slice Ao33 t421.length co33, .int .i64 t424] 25 (0, 0)) (zk BK425) hb)
      replace BK434 := Aside0.mk (blk_below (g := gb434) (o := .cells #[.slice Ao42 t429.length co42, .int .i64 t432] 25 (0, 0)) (zk BK434) hb)
      replace HB := Aside0.mk (below_step (zb HB) hb)
      (try clear hb)
      refine hK.out _ _ ⟨(blk_cell BK425.out 0).trans rfl, (blk_cell BK425.out 1).trans rfl, (blk_cell BK405.out 0).trans rfl, (blk_cell BK405.out 1).trans rfl⟩ (fun hHeld => ?_)
      clear hK K
      refine nm ?_
      refine pu 4 (some 58) (bm 5 31) rfl rfl ?_
      refine done_ (by kernel_rfl) ?_
      go_upto_if 58 with (fail)
      have H := HC68.out
      clear HC68
      by_cases c73 : t440 = true
      ·subst c73
       have H1 : ((laws_toFieldS.f kj17 l1).bind fun t441 => ((laws_eqFieldS.f kj17 t426 t441).bind fun t444 => (if t444 = true then ((laws_markTable.f kj17 t421 t424 1).bind fun bt445 => ((laws_markFieldS.f kj17 t426 bt445.1).bind fun bt447 => (if bt447.1 < 0 then (laws_FnExactHeadWrite.j1 kj17 l1 t419 true l0_0 a0_1 t415 t418 t429 t432) else ((laws_eqTable.f kj17 t429 t432 t415 t418).bind fun t449 => (if t449 = true then (laws_FnExactHeadWrite.j1 kj17 l1 t419 (t433.toList != t419.toList) l0_0 a0_1 t415 t418 t429 t432) else (laws_FnExactHeadWrite.j1 kj17 l1 t419 true l0_0 a0_1 t415 t418 t429 t432)))))) else (some false)))) = some r := by rw [if_pos rfl] at H; exact H
       clear H
       have H := H1
       clear H1
       replace H := Option.bind_eq_some_iff.mp H
       obtain ⟨t441, A740, H⟩ := H
       replace H : ((laws_eqFieldS.f kj17 t426 t441).bind fun t444 => (if t444 = true then ((laws_markTable.f kj17 t421 t424 1).bind fun bt445 => ((laws_markFieldS.f kj17 t426 bt445.1).bind fun bt447 => (if bt447.1 < 0 then (laws_FnExactHeadWrite.j1 kj17 l1 t419 true l0_0 a0_1 t415 t418 t429 t432) else ((laws_eqTable.f kj17 t429 t432 t415 t418).bind fun t449 => (if t449 = true then (laws_FnExactHeadWrite.j1 kj17 l1 t419 (t433.toList != t419.toList) l0_0 a0_1 t415 t418 t429 t432) else (laws_FnExactHeadWrite.j1 kj17 l1 t419 true l0_0 a0_1 t415 t418 t429 t432)))))) else (some false))) = some r := H
       have A74 := Aside0.mk A740
       clear A740
       replace H := Option.bind_eq_some_iff.mp H
       obtain ⟨t444, A750, H⟩ := H
       replace H : (if t444 = true then ((laws_markTable.f kj17 t421 t424 1).bind fun bt445 => ((laws_markFieldS.f kj17 t426 bt445.1).bind fun bt447 => (if bt447.1 < 0 then (laws_FnExactHeadWrite.j1 kj17 l1 t419 true l0_0 a0_1 t415 t418 t429 t432) else ((laws_eqTable.f kj17 t429 t432 t415 t418).bind fun t449 => (if t449 = true then (laws_FnExactHeadWrite.j1 kj17 l1 t419 (t433.toList != t419.toList) l0_0 a0_1 t415 t418 t429 t432) else (laws_FnExactHeadWrite.j1 kj17 l1 t419 true l0_0 a0_1 t415 t418 t429 t432)))))) else (some false)) = some r := H
       have A75 := Aside0.mk A750
       clear A750
       have HC76 := Aside0.mk H
       clear H
       go_upto_if 63 with (first | ((with_reducible refine gq 42 rfl ?_); refine gl (some 61) Try.func42 #[.slice A1 l1.length c1] ?_; (with_reducible refine (laws_toFieldS.calls kj17 _ _ l1 t441 _ ?side1 ?side2 A74.out).mono ?_); (case side1 => exact zc (Kd.C_below HR1.out HB.out)); (case side2 => exact HC1.out); rintro e w77 ⟨v442, rfl, ho0, hb⟩; refine ⟨_, rfl, ?_⟩; have HO443 := Aside0.mk (Kd.R_lower (Kd.R_new' (Kd.R_new' (Kd.R_new' (Kd.R_new' (Kd.R_new' ho0 (Kd.R_lt (zr HO_9))) (Kd.R_lt (zr HO_421000))) (Kd.R_lt (zr HO_426000))) (Kd.R_lt (zr HO_435000))) (Kd.R_lt (zr HO438))) (below_size (zb HB))); replace HO_9 := Aside0.mk (Kd.R_elder' (zr HO_9) (Kd.R_base ho0) hb); replace HO_421000 := Aside0.mk (Kd.R_elder' (zr HO_421000) (Kd.R_base ho0) hb); replace HO_426000 := Aside0.mk (Kd.R_elder' (zr HO_426000) (Kd.R_base ho0) hb); replace HO_435000 := Aside0.mk (Kd.R_elder' (zr HO_435000) (Kd.R_base ho0) hb); replace HO438 := Aside0.mk (Kd.R_elder' (zr HO438) (Kd.R_base ho0) hb); replace BK405 := Aside0.mk (blk_below (g := gb405) (o := .cells #[.slice A0_0 l0_0.length c0_0, .int .i64 a0_1] 40 (0, 0)) (zk BK405) hb); replace BK420 := Aside0.mk (blk_below (g := gb420) (o := .cells #[.slice Ao27 t415.length co27, .int .i64 t418] 25 (0, 0)) (zk BK420) hb); replace BK425 := Aside0.mk (blk_below (g := gb425) (o := .cells #[.slice Ao33 t421.length co33, .int .i64 t424] 25 (0, 0)) (zk BK425) hb); replace BK434 := Aside0.mk (blk_below (g := gb434) (o := .cells #[.slice Ao42 t429.length co42, .int .i64 t432] 25 (0, 0)) (zk BK434) hb); replace HB := Aside0.mk (below_step (zb HB) hb); (try clear hb); (try clear ho0); obtain ⟨Ao78, co78, eo78⟩ := Kd.R_slice HO443.out; subst eo78) | ((with_reducible refine gq 43 rfl ?_); refine gl (some 62) Try.func43 #[.slice Ao39 t426.length co39, .slice Ao78 t441.length co78] ?_; (with_reducible refine (laws_eqFieldS.calls kj17 _ _ t426 _ _ t441 t444 _ ?side1 ?side2 ?side3 ?side4 A75.out).mono ?_); (case side1 => exact zc (Kd.R_reads' HO_9.out).2.2); (case side2 => exact (Kd.R_reads' HO_9.out).2.1); (case side3 => exact zc (Kd.R_reads' HO443.out).2.2); (case side4 => exact (Kd.R_reads' HO443.out).2.1); rintro e w79 ⟨rfl, hb⟩; refine ⟨_, rfl, ?_⟩; replace HO_9 := Aside0.mk (Kd.R_below (zr HO_9) hb); replace HO_421000 := Aside0.mk (Kd.R_below (zr HO_421000) hb); replace HO_426000 := Aside0.mk (Kd.R_below (zr HO_426000) hb); replace HO_435000 := Aside0.mk (Kd.R_below (zr HO_435000) hb); replace HO438 := Aside0.mk (Kd.R_below (zr HO438) hb); replace HO443 := Aside0.mk (Kd.R_below (zr HO443) hb); replace BK405 := Aside0.mk (blk_below (g := gb405) (o := .cells #[.slice A0_0 l0_0.length c0_0, .int .i64 a0_1] 40 (0, 0)) (zk BK405) hb); replace BK420 := Aside0.mk (blk_below (g := gb420) (o := .cells #[.slice Ao27 t415.length co27, .int .i64 t418] 25 (0, 0)) (zk BK420) hb); replace BK425 := Aside0.mk (blk_below (g := gb425) (o := .cells #[.slice Ao33 t421.length co33, .int .i64 t424] 25 (0, 0)) (zk BK425) hb); replace BK434 := Aside0.mk (blk_below (g := gb434) (o := .cells #[.slice Ao42 t429.length co42, .int .i64 t432] 25 (0, 0)) (zk BK434) hb); replace HB := Aside0.mk (below_step (zb HB) hb); (try clear hb)))
       (try simp only [Act.put, s1, s2, s3])
       have H := HC76.out
       clear HC76
       by_cases c80 : t444 = true
       ·subst c80
        have H1 : ((laws_markTable.f kj17 t421 t424 1).bind fun bt445 => ((laws_markFieldS.f kj17 t426 bt445.1).bind fun bt447 => (if bt447.1 < 0 then (laws_FnExactHeadWrite.j1 kj17 l1 t419 true l0_0 a0_1 t415 t418 t429 t432) else ((laws_eqTable.f kj17 t429 t432 t415 t418).bind fun t449 => (if t449 = true then (laws_FnExactHeadWrite.j1 kj17 l1 t419 (t433.toList != t419.toList) l0_0 a0_1 t415 t418 t429 t432) else (laws_FnExactHeadWrite.j1 kj17 l1 t419 true l0_0 a0_1 t415 t418 t429 t432)))))) = some r := by rw [if_pos rfl] at H; exact H
        clear H
        have H := H1
        clear H1
        replace H := Option.bind_eq_some_iff.mp H
        obtain ⟨⟨t445, t446⟩, A810, H⟩ := H
        replace H : ((laws_markFieldS.f kj17 t426 t445).bind fun bt447 => (if bt447.1 < 0 then (laws_FnExactHeadWrite.j1 kj17 l1 t419 true l0_0 a0_1 t415 t418 t429 t432) else ((laws_eqTable.f kj17 t429 t432 t415 t418).bind fun t449 => (if t449 = true then (laws_FnExactHeadWrite.j1 kj17 l1 t419 (t433.toList != t419.toList) l0_0 a0_1 t415 t418 t429 t432) else (laws_FnExactHeadWrite.j1 kj17 l1 t419 true l0_0 a0_1 t415 t418 t429 t432))))) = some r := H
        have A81 := Aside0.mk A810
        clear A810
        replace H := Option.bind_eq_some_iff.mp H
        obtain ⟨⟨t447, t448⟩, A820, H⟩ := H
        replace H : (if t447 < 0 then (laws_FnExactHeadWrite.j1 kj17 l1 t419 true l0_0 a0_1 t415 t418 t429 t432) else ((laws_eqTable.f kj17 t429 t432 t415 t418).bind fun t449 => (if t449 = true then (laws_FnExactHeadWrite.j1 kj17 l1 t419 (t433.toList != t419.toList) l0_0 a0_1 t415 t418 t429 t432) else (laws_FnExactHeadWrite.j1 kj17 l1 t419 true l0_0 a0_1 t415 t418 t429 t432)))) = some r := H
        have A82 := Aside0.mk A820
        clear A820
        have HC83 := Aside0.mk H
        clear H
        have hnb84 := NB425_405.out
        have hnc84 := NB405_425.out
        have hnb85 := NB425_420.out
        have hnc85 := NB420_425.out
        have hnb86 := NB425_434.out
        have hnc86 := NB434_425.out
        have hcz87_0 : w79.cell? ⟨gb425, 0, none⟩ = some (.slice Ao33 t421.length co33) := (blk_cell BK425.out 0).trans rfl
        have hcz87_1 : w79.cell? ⟨gb425, 1, none⟩ = some (.int .i64 t424) := (blk_cell BK425.out 1).trans rfl
        have hfz87_0 := blk_frozen BK425.out 0
        have hfz87_1 := blk_frozen BK425.out 1
        go_upto_region 21 with (first | ((with_reducible refine gq 27 rfl ?_); refine gl (some 66) Try.func27 #[.agg #[.slice Ao33 t421.length co33, .int .i64 t424], .int .i64 1] ?_; (with_reducible refine (laws_markTable.calls kj17 (fun k_ => some k_ = (.slice Ao33 t421.length co33 : Value).ownBlock) (.slice Ao33 t421.length co33) t421 t424 1 t445 t446 w _ ?side1 ?side2 A81.out).mono ?_); (case side1 => exact zb HB); (case side2 => exact Kd.R_tight rfl HO_426000.out); rintro e w88 ⟨rfl, hy0, hb, hkp⟩; refine ⟨_, rfl, ?_⟩; replace HO_9 := Aside0.mk (Kd.R_mono (ok' := fun k_ => some k_ ≠ (.slice Ao27 t415.length co27 : Value).ownBlock ∧ some k_ ≠ (.slice Ao33 t421.length co33 : Value).ownBlock ∧ some k_ ≠ (.slice Ao42 t429.length co42 : Value).ownBlock ∧ some k_ ≠ (.slice Ao71 t436.length co71 : Value).ownBlock ∧ some k_ ≠ (.slice Ao78 t441.length co78 : Value).ownBlock) (Kd.R_keptB (HO_9.out) hkp (fun k_ hk_ hs_ => (hk_.1.1.2.1) hs_)) (fun k_ hk_ => ⟨hk_.1.1.1.1, hk_.1.1.1.2.1, hk_.1.1.1.2.2, hk_.1.1.2, hk_.1.2⟩)); replace HO_421000 := Aside0.mk (Kd.R_mono (ok' := fun k_ => some k_ ≠ (.slice Ao39 t426.length co39 : Value).ownBlock ∧ some k_ ≠ (.slice Ao33 t421.length co33 : Value).ownBlock ∧ some k_ ≠ (.slice Ao42 t429.length co42 : Value).ownBlock ∧ some k_ ≠ (.slice Ao71 t436.length co71 : Value).ownBlock ∧ some k_ ≠ (.slice Ao78 t441.length co78 : Value).ownBlock) (Kd.R_keptB (HO_421000.out) hkp (fun k_ hk_ hs_ => (hk_.1.1.2.1) hs_)) (fun k_ hk_ => ⟨hk_.1.1.1.1, hk_.1.1.1.2.1, hk_.1.1.1.2.2, hk_.1.1.2, hk_.1.2⟩)); replace HO_435000 := Aside0.mk (Kd.R_mono (ok' := fun k_ => some k_ ≠ (.slice Ao39 t426.length co39 : Value).ownBlock ∧ some k_ ≠ (.slice Ao27 t415.length co27 : Value).ownBlock ∧ some k_ ≠ (.slice Ao33 t421.length co33 : Value).ownBlock ∧ some k_ ≠ (.slice Ao71 t436.length co71 : Value).ownBlock ∧ some k_ ≠ (.slice Ao78 t441.length co78 : Value).ownBlock) (Kd.R_keptB (HO_435000.out) hkp (fun k_ hk_ hs_ => (hk_.1.1.2.2) hs_)) (fun k_ hk_ => ⟨hk_.1.1.1.1, hk_.1.1.1.2.1, hk_.1.1.1.2.2, hk_.1.1.2, hk_.1.2⟩)); replace BK405 := Aside0.mk (blk_kept (zk BK405) hkp (fun hs_ => (fun e_ => (Kd.R_ne HO_426000.out BK405.out (by decide)) e_) hs_)); replace BK420 := Aside0.mk (blk_kept (zk BK420) hkp (fun hs_ => (fun e_ => (Kd.R_ne HO_426000.out BK420.out (by decide)) e_) hs_)); replace BK425 := Aside0.mk (blk_kept (zk BK425) hkp (fun hs_ => (fun e_ => (Kd.R_ne HO_426000.out BK425.out (by decide)) e_) hs_)); replace BK434 := Aside0.mk (blk_kept (zk BK434) hkp (fun hs_ => (fun e_ => (Kd.R_ne HO_426000.out BK434.out (by decide)) e_) hs_)); replace HO_426000 := Aside0.mk (Kd.R_reok rfl hy0 (fun k_ e_ => HO_426000.out.1 k_ e_)); replace HO438 := Aside0.mk (Kd.R_mono (ok' := fun k_ => some k_ ≠ (.slice Ao39 t426.length co39 : Value).ownBlock ∧ some k_ ≠ (.slice Ao27 t415.length co27 : Value).ownBlock ∧ some k_ ≠ (.slice Ao33 t421.length co33 : Value).ownBlock ∧ some k_ ≠ (.slice Ao42 t429.length co42 : Value).ownBlock ∧ some k_ ≠ (.slice Ao78 t441.length co78 : Value).ownBlock) (Kd.R_keptB (HO438.out) hkp (fun k_ hk_ hs_ => (hk_.1.1.2) hs_)) (fun k_ hk_ => ⟨hk_.1.1.1.1.1.2, hk_.1.1.1.1.2, hk_.1.1.1.2, hk_.1.1.2, hk_.1.2⟩)); replace HO443 := Aside0.mk (Kd.R_mono (ok' := fun k_ => some k_ ≠ (.slice Ao39 t426.length co39 : Value).ownBlock ∧ some k_ ≠ (.slice Ao27 t415.length co27 : Value).ownBlock ∧ some k_ ≠ (.slice Ao33 t421.length co33 : Value).ownBlock ∧ some k_ ≠ (.slice Ao42 t429.length co42 : Value).ownBlock ∧ some k_ ≠ (.slice Ao71 t436.length co71 : Value).ownBlock) (Kd.R_keptB (HO443.out) hkp (fun k_ hk_ hs_ => (hk_.1.1.2) hs_)) (fun k_ hk_ => ⟨hk_.1.1.1.1.1.2, hk_.1.1.1.1.2, hk_.1.1.1.2, hk_.1.1.2, hk_.1.2⟩)); replace HB := Aside0.mk (hb); (try clear hb); (try clear hkp); (try clear hy0)) | ((with_reducible refine gq 44 rfl ?_); refine gl (some 69) Try.func44 #[.slice Ao39 t426.length co39, .int .i64 t445] ?_; (with_reducible refine (laws_markFieldS.calls kj17 (fun k_ => some k_ = (.slice Ao39 t426.length co39 : Value).ownBlock) (.slice Ao39 t426.length co39) t426 t445 t447 t448 w _ ?side1 ?side2 A82.out).mono ?_); (case side1 => exact zb HB); (case side2 => exact Kd.R_tight rfl HO_9.out); rintro e w89 ⟨rfl, hy0, hb, hkp⟩; refine ⟨_, rfl, ?_⟩; replace HO_421000 := Aside0.mk (Kd.R_mono (ok' := fun k_ => some k_ ≠ (.slice Ao39 t426.length co39 : Value).ownBlock ∧ some k_ ≠ (.slice Ao33 t421.length co33 : Value).ownBlock ∧ some k_ ≠ (.slice Ao42 t429.length co42 : Value).ownBlock ∧ some k_ ≠ (.slice Ao71 t436.length co71 : Value).ownBlock ∧ some k_ ≠ (.slice Ao78 t441.length co78 : Value).ownBlock) (Kd.R_keptB (HO_421000.out) hkp (fun k_ hk_ hs_ => (hk_.1) hs_)) (fun k_ hk_ => ⟨hk_.1.1, hk_.1.2.1, hk_.1.2.2.1, hk_.1.2.2.2.1, hk_.1.2.2.2.2⟩)); replace HO_426000 := Aside0.mk (Kd.R_mono (ok' := fun k_ => some k_ ≠ (.slice Ao39 t426.length co39 : Value).ownBlock ∧ some k_ ≠ (.slice Ao27 t415.length co27 : Value).ownBlock ∧ some k_ ≠ (.slice Ao42 t429.length co42 : Value).ownBlock ∧ some k_ ≠ (.slice Ao71 t436.length co71 : Value).ownBlock ∧ some k_ ≠ (.slice Ao78 t441.length co78 : Value).ownBlock) (Kd.R_keptB (HO_426000.out) hkp (fun k_ hk_ hs_ => (hk_.1.1.1) hs_)) (fun k_ hk_ => ⟨hk_.1.1.1.1, hk_.1.1.1.2.1, hk_.1.1.1.2.2, hk_.1.1.2, hk_.1.2⟩)); replace HO_435000 := Aside0.mk (Kd.R_mono (ok' := fun k_ => some k_ ≠ (.slice Ao39 t426.length co39 : Value).ownBlock ∧ some k_ ≠ (.slice Ao27 t415.length co27 : Value).ownBlock ∧ some k_ ≠ (.slice Ao33 t421.length co33 : Value).ownBlock ∧ some k_ ≠ (.slice Ao71 t436.length co71 : Value).ownBlock ∧ some k_ ≠ (.slice Ao78 t441.length co78 : Value).ownBlock) (Kd.R_keptB (HO_435000.out) hkp (fun k_ hk_ hs_ => (hk_.1) hs_)) (fun k_ hk_ => ⟨hk_.1.1, hk_.1.2.1, hk_.1.2.2.1, hk_.1.2.2.2.1, hk_.1.2.2.2.2⟩)); replace BK405 := Aside0.mk (blk_kept (zk BK405) hkp (fun hs_ => (fun e_ => (Kd.R_ne HO_9.out BK405.out (by decide)) e_) hs_)); replace BK420 := Aside0.mk (blk_kept (zk BK420) hkp (fun hs_ => (fun e_ => (Kd.R_ne HO_9.out BK420.out (by decide)) e_) hs_)); replace BK425 := Aside0.mk (blk_kept (zk BK425) hkp (fun hs_ => (fun e_ => (Kd.R_ne HO_9.out BK425.out (by decide)) e_) hs_)); replace BK434 := Aside0.mk (blk_kept (zk BK434) hkp (fun hs_ => (fun e_ => (Kd.R_ne HO_9.out BK434.out (by decide)) e_) hs_)); replace HO_9 := Aside0.mk (Kd.R_reok rfl hy0 (fun k_ e_ => HO_9.out.1 k_ e_)); replace HO438 := Aside0.mk (Kd.R_mono (ok' := fun k_ => some k_ ≠ (.slice Ao39 t426.length co39 : Value).ownBlock ∧ some k_ ≠ (.slice Ao27 t415.length co27 : Value).ownBlock ∧ some k_ ≠ (.slice Ao33 t421.length co33 : Value).ownBlock ∧ some k_ ≠ (.slice Ao42 t429.length co42 : Value).ownBlock ∧ some k_ ≠ (.slice Ao78 t441.length co78 : Value).ownBlock) (Kd.R_keptB (HO438.out) hkp (fun k_ hk_ hs_ => (hk_.1) hs_)) (fun k_ hk_ => ⟨hk_.1.1, hk_.1.2.1, hk_.1.2.2.1, hk_.1.2.2.2.1, hk_.1.2.2.2.2⟩)); replace HO443 := Aside0.mk (Kd.R_mono (ok' := fun k_ => some k_ ≠ (.slice Ao39 t426.length co39 : Value).ownBlock ∧ some k_ ≠ (.slice Ao27 t415.length co27 : Value).ownBlock ∧ some k_ ≠ (.slice Ao33 t421.length co33 : Value).ownBlock ∧ some k_ ≠ (.slice Ao42 t429.length co42 : Value).ownBlock ∧ some k_ ≠ (.slice Ao71 t436.length co71 : Value).ownBlock) (Kd.R_keptB (HO443.out) hkp (fun k_ hk_ hs_ => (hk_.1) hs_)) (fun k_ hk_ => ⟨hk_.1.1, hk_.1.2.1, hk_.1.2.2.1, hk_.1.2.2.2.1, hk_.1.2.2.2.2⟩)); replace HB := Aside0.mk (hb); (try clear hb); (try clear hkp); (try clear hy0)))
        (try simp only [Act.put, s1, s2, s3])
        go_cut [82] (fun v82 wc => ∃ (kq : Nat) (x82_82 : Bool), v82 = .bool x82_82 ∧ Aside0 (laws_FnExactHeadWrite.j1 kq l1 t419 x82_82 l0_0 a0_1 t415 t418 t429 t432 = some r) ∧ Aside0 (kq ≤ kj17) ∧ Aside0 (Kd.R k36 36 wc w.heap.size (fun k_ => some k_ ≠ ((.slice Ao33 t421.length co33) : Value).ownBlock ∧ some k_ ≠ ((.slice Ao42 t429.length co42) : Value).ownBlock) (.slice Ao27 t415.length co27) t415) ∧ Aside0 (Kd.R k36 36 wc w.heap.size (fun k_ => some k_ ≠ ((.slice Ao27 t415.length co27) : Value).ownBlock ∧ some k_ ≠ ((.slice Ao42 t429.length co42) : Value).ownBlock) (.slice Ao33 t421.length co33) t446) ∧ Aside0 (Kd.R k36 36 wc w.heap.size (fun k_ => some k_ ≠ ((.slice Ao27 t415.length co27) : Value).ownBlock ∧ some k_ ≠ ((.slice Ao33 t421.length co33) : Value).ownBlock) (.slice Ao42 t429.length co42) t429) ∧ Aside0 (wc.heap[gb405]? = some (.cells #[(.slice A0_0 l0_0.length c0_0), .int .i64 a0_1] 40 (0, 0))) ∧ Aside0 (wc.heap[gb420]? = some (.cells #[(.slice Ao27 t415.length co27), .int .i64 t418] 25 (0, 0))) ∧ Aside0 (wc.heap[gb425]? = some (.cells #[(.slice Ao33 t421.length co33), .int .i64 t424] 25 (0, 0))) ∧ Aside0 (wc.heap[gb434]? = some (.cells #[(.slice Ao42 t429.length co42), .int .i64 t432] 25 (0, 0))) ∧ Aside0 (Below w.heap.size w wc))
        case first =>
         have H := HC83.out
         clear HC83
         by_cases c90 : t447 < 0
         ·rw [if_pos c90] at H
          have c90b0 : decide (t447 < 0) = true := decide_eq_true c90
          clear c90
          (first | rw [c90b0] | rw [c90b1] | (simp only [i64_w, i32_w]; rw [c90b0]) | skip)
          have H' := Aside0.mk H
          clear H
          go_wp2
          go_meet
          case rel => exact ⟨_, (true), zs, H', ⟨by have := HJ17.out; first | omega | exact Nat.le_refl _⟩, ⟨by (with_reducible repeat (first | apply Kd.R_alloc | apply Kd.R_drewN | apply Kd.R_drew)); exact Kd.R_mono HO_421000.out (fun _ hk => ⟨hk.2.1, hk.2.2.1⟩)⟩, ⟨by (with_reducible repeat (first | apply Kd.R_alloc | apply Kd.R_drewN | apply Kd.R_drew)); exact Kd.R_mono HO_426000.out (fun _ hk => ⟨hk.2.1, hk.2.2.1⟩)⟩, ⟨by (with_reducible repeat (first | apply Kd.R_alloc | apply Kd.R_drewN | apply Kd.R_drew)); exact Kd.R_mono HO_435000.out (fun _ hk => ⟨hk.2.1, hk.2.2.1⟩)⟩, ⟨by exact zk BK405⟩, ⟨by exact zk BK420⟩, ⟨by exact zk BK425⟩, ⟨by exact zk BK434⟩, ⟨zb HB⟩⟩
         ·rw [if_neg c90] at H
          have c90b0 : decide (t447 < 0) = false := decide_eq_false c90
          clear c90
          (first | rw [c90b0] | rw [c90b1] | (simp only [i64_w, i32_w]; rw [c90b0]) | skip)
          replace H := Option.bind_eq_some_iff.mp H
          obtain ⟨t449, A910, H⟩ := H
          replace H : (if t449 = true then (laws_FnExactHeadWrite.j1 kj17 l1 t419 (t433.toList != t419.toList) l0_0 a0_1 t415 t418 t429 t432) else (laws_FnExactHeadWrite.j1 kj17 l1 t419 true l0_0 a0_1 t415 t418 t429 t432)) = some r := H
          have A91 := Aside0.mk A910
          clear A910
          by_cases c92 : t449 = true
          ·subst c92
           have H1 : (laws_FnExactHeadWrite.j1 kj17 l1 t419 (t433.toList != t419.toList) l0_0 a0_1 t415 t418 t429 t432) = some r := by rw [if_pos rfl] at H; exact H
           clear H
           have H := H1
           clear H1
           have H' := Aside0.mk H
           clear H
           have hnb93 := NB434_405.out
           have hnc93 := NB405_434.out
           have hnb94 := NB434_420.out
           have hnc94 := NB420_434.out
           have hnb95 := NB434_425.out
           have hnc95 := NB425_434.out
           have hcz96_0 : w89.cell? ⟨gb434, 0, none⟩ = some (.slice Ao42 t429.length co42) := (blk_cell BK434.out 0).trans rfl
           have hcz96_1 : w89.cell? ⟨gb434, 1, none⟩ = some (.int .i64 t432) := (blk_cell BK434.out 1).trans rfl
           have hfz96_0 := blk_frozen BK434.out 0
           have hfz96_1 := blk_frozen BK434.out 1
           have hnb97 := NB420_405.out
           have hnc97 := NB405_420.out
           have hnb98 := NB420_425.out
           have hnc98 := NB425_420.out
           have hcz99_0 : w89.cell? ⟨gb420, 0, none⟩ = some (.slice Ao27 t415.length co27) := (blk_cell BK420.out 0).trans rfl
           have hcz99_1 : w89.cell? ⟨gb420, 1, none⟩ = some (.int .i64 t418) := (blk_cell BK420.out 1).trans rfl
           have hfz99_0 := blk_frozen BK420.out 0
           have hfz99_1 := blk_frozen BK420.out 1
           go_wp2_with (first | (go_at_call 26; (with_reducible refine (laws_eqTable.calls kj17 _ _ t429 t432 _ _ t415 t418 true _ ?side1 ?side2 ?side3 ?side4 A91.out).mono ?_); (case side1 => exact zc (Kd.R_reads' HO_435000.out).2.2); (case side2 => exact (Kd.R_reads' HO_435000.out).2.1); (case side3 => exact zc (Kd.R_reads' HO_421000.out).2.2); (case side4 => exact (Kd.R_reads' HO_421000.out).2.1); rintro e w100 ⟨rfl, hb⟩; replace HO_9 := Aside0.mk (Kd.R_below (zr HO_9) hb); replace HO_421000 := Aside0.mk (Kd.R_below (zr HO_421000) hb); replace HO_426000 := Aside0.mk (Kd.R_below (zr HO_426000) hb); replace HO_435000 := Aside0.mk (Kd.R_below (zr HO_435000) hb); replace HO438 := Aside0.mk (Kd.R_below (zr HO438) hb); replace HO443 := Aside0.mk (Kd.R_below (zr HO443) hb); replace BK405 := Aside0.mk (blk_below (g := gb405) (o := .cells #[.slice A0_0 l0_0.length c0_0, .int .i64 a0_1] 40 (0, 0)) (zk BK405) hb); replace BK420 := Aside0.mk (blk_below (g := gb420) (o := .cells #[.slice Ao27 t415.length co27, .int .i64 t418] 25 (0, 0)) (zk BK420) hb); replace BK425 := Aside0.mk (blk_below (g := gb425) (o := .cells #[.slice Ao33 t421.length co33, .int .i64 t424] 25 (0, 0)) (zk BK425) hb); replace BK434 := Aside0.mk (blk_below (g := gb434) (o := .cells #[.slice Ao42 t429.length co42, .int .i64 t432] 25 (0, 0)) (zk BK434) hb); replace HB := Aside0.mk (below_step (zb HB) hb); (try clear hb)))
           go_meet
           case rel => exact ⟨_, ((t433.toList != t419.toList)), zs, H', ⟨by have := HJ17.out; first | omega | exact Nat.le_refl _⟩, ⟨by (with_reducible repeat (first | apply Kd.R_alloc | apply Kd.R_drewN | apply Kd.R_drew)); exact Kd.R_mono HO_421000.out (fun _ hk => ⟨hk.2.1, hk.2.2.1⟩)⟩, ⟨by (with_reducible repeat (first | apply Kd.R_alloc | apply Kd.R_drewN | apply Kd.R_drew)); exact Kd.R_mono HO_426000.out (fun _ hk => ⟨hk.2.1, hk.2.2.1⟩)⟩, ⟨by (with_reducible repeat (first | apply Kd.R_alloc | apply Kd.R_drewN | apply Kd.R_drew)); exact Kd.R_mono HO_435000.out (fun _ hk => ⟨hk.2.1, hk.2.2.1⟩)⟩, ⟨by exact zk BK405⟩, ⟨by exact zk BK420⟩, ⟨by exact zk BK425⟩, ⟨by exact zk BK434⟩, ⟨zb HB⟩⟩
          ·replace c92 := Bool.eq_false_iff.mpr c92
           subst c92
           have H1 : (laws_FnExactHeadWrite.j1 kj17 l1 t419 true l0_0 a0_1 t415 t418 t429 t432) = some r := by rw [if_neg (show ¬ (false = true) by decide)] at H; exact H
           clear H
           have H := H1
           clear H1
           have H' := Aside0.mk H
           clear H
           have hnb101 := NB434_405.out
           have hnc101 := NB405_434.out
           have hnb102 := NB434_420.out
           have hnc102 := NB420_434.out
           have hnb103 := NB434_425.out
           have hnc103 := NB425_434.out
           have hcz104_0 : w89.cell? ⟨gb434, 0, none⟩ = some (.slice Ao42 t429.length co42) := (blk_cell BK434.out 0).trans rfl
           have hcz104_1 : w89.cell? ⟨gb434, 1, none⟩ = some (.int .i64 t432) := (blk_cell BK434.out 1).trans rfl
           have hfz104_0 := blk_frozen BK434.out 0
           have hfz104_1 := blk_frozen BK434.out 1
           have hnb105 := NB420_405.out
           have hnc105 := NB405_420.out
           have hnb106 := NB420_425.out
           have hnc106 := NB425_420.out
           have hcz107_0 : w89.cell? ⟨gb420, 0, none⟩ = some (.slice Ao27 t415.length co27) := (blk_cell BK420.out 0).trans rfl
           have hcz107_1 : w89.cell? ⟨gb420, 1, none⟩ = some (.int .i64 t418) := (blk_cell BK420.out 1).trans rfl
           have hfz107_0 := blk_frozen BK420.out 0
           have hfz107_1 := blk_frozen BK420.out 1
           go_wp2_with (first | (go_at_call 26; (with_reducible refine (laws_eqTable.calls kj17 _ _ t429 t432 _ _ t415 t418 false _ ?side1 ?side2 ?side3 ?side4 A91.out).mono ?_); (case side1 => exact zc (Kd.R_reads' HO_435000.out).2.2); (case side2 => exact (Kd.R_reads' HO_435000.out).2.1); (case side3 => exact zc (Kd.R_reads' HO_421000.out).2.2); (case side4 => exact (Kd.R_reads' HO_421000.out).2.1); rintro e w108 ⟨rfl, hb⟩; replace HO_9 := Aside0.mk (Kd.R_below (zr HO_9) hb); replace HO_421000 := Aside0.mk (Kd.R_below (zr HO_421000) hb); replace HO_426000 := Aside0.mk (Kd.R_below (zr HO_426000) hb); replace HO_435000 := Aside0.mk (Kd.R_below (zr HO_435000) hb); replace HO438 := Aside0.mk (Kd.R_below (zr HO438) hb); replace HO443 := Aside0.mk (Kd.R_below (zr HO443) hb); replace BK405 := Aside0.mk (blk_below (g := gb405) (o := .cells #[.slice A0_0 l0_0.length c0_0, .int .i64 a0_1] 40 (0, 0)) (zk BK405) hb); replace BK420 := Aside0.mk (blk_below (g := gb420) (o := .cells #[.slice Ao27 t415.length co27, .int .i64 t418] 25 (0, 0)) (zk BK420) hb); replace BK425 := Aside0.mk (blk_below (g := gb425) (o := .cells #[.slice Ao33 t421.length co33, .int .i64 t424] 25 (0, 0)) (zk BK425) hb); replace BK434 := Aside0.mk (blk_below (g := gb434) (o := .cells #[.slice Ao42 t429.length co42, .int .i64 t432] 25 (0, 0)) (zk BK434) hb); replace HB := Aside0.mk (below_step (zb HB) hb); (try clear hb)))
           go_meet
           case rel => exact ⟨_, (true), zs, H', ⟨by have := HJ17.out; first | omega | exact Nat.le_refl _⟩, ⟨by (with_reducible repeat (first | apply Kd.R_alloc | apply Kd.R_drewN | apply Kd.R_drew)); exact Kd.R_mono HO_421000.out (fun _ hk => ⟨hk.2.1, hk.2.2.1⟩)⟩, ⟨by (with_reducible repeat (first | apply Kd.R_alloc | apply Kd.R_drewN | apply Kd.R_drew)); exact Kd.R_mono HO_426000.out (fun _ hk => ⟨hk.2.1, hk.2.2.1⟩)⟩, ⟨by (with_reducible repeat (first | apply Kd.R_alloc | apply Kd.R_drewN | apply Kd.R_drew)); exact Kd.R_mono HO_435000.out (fun _ hk => ⟨hk.2.1, hk.2.2.1⟩)⟩, ⟨by exact zk BK405⟩, ⟨by exact zk BK420⟩, ⟨by exact zk BK425⟩, ⟨by exact zk BK434⟩, ⟨zb HB⟩⟩
        case rest =>
         clear HC83
         try clear c1
         try clear c2
         try clear p2
         try clear c3
         try clear c4
         try clear c5
         try clear c6
         try clear c7
         try clear c8
         try clear c8b0
         try clear c8b1
         try clear c9
         try clear c10
         try clear c10b0
         try clear c14
         try clear c24
         try clear c25
         try clear c26
         try clear c27
         try clear c28
         try clear c34
         try clear c35
         try clear c38
         try clear c39
         try clear c41
         try clear c42
         try clear c43
         try clear c44
         try clear c45
         try clear c48
         try clear c49
         try clear c50
         try clear c51
         try clear c53
         try clear c54
         try clear c57
         try clear c58
         try clear c59
         try clear c61
         try clear c62
         try clear c65
         try clear c73
         try clear c80
         try clear c84
         try clear c85
         try clear c86
         try clear c90
         try clear c90b0
         try clear c90b1
         try clear c92
         try clear c93
         try clear c94
         try clear c95
         try clear c97
         try clear c98
         try clear c101
         try clear c102
         try clear c103
         try clear c105
         try clear c106
         try clear hcz104_0
         try clear hcz104_1
         try clear hcz107_0
         try clear hcz107_1
         try clear hcz20_0
         try clear hcz20_1
         try clear hcz29_0
         try clear hcz29_1
         try clear hcz30_0
         try clear hcz30_1
         try clear hcz36_0
         try clear hcz36_1
         try clear hcz38_0
         try clear hcz38_1
         try clear hcz46_0
         try clear hcz46_1
         try clear hcz52_0
         try clear hcz52_1
         try clear hcz55_0
         try clear hcz55_1
         try clear hcz60_0
         try clear hcz60_1
         try clear hcz63_0
         try clear hcz63_1
         try clear hcz6_0
         try clear hcz6_1
         try clear hcz87_0
         try clear hcz87_1
         try clear hcz96_0
         try clear hcz96_1
         try clear hcz99_0
         try clear hcz99_1
         try clear hfz104_0
         try clear hfz104_1
         try clear hfz107_0
         try clear hfz107_1
         try clear hfz20_0
         try clear hfz20_1
         try clear hfz29_0
         try clear hfz29_1
         try clear hfz30_0
         try clear hfz30_1
         try clear hfz36_0
         try clear hfz36_1
         try clear hfz38_0
         try clear hfz38_1
         try clear hfz46_0
         try clear hfz46_1
         try clear hfz52_0
         try clear hfz52_1
         try clear hfz55_0
         try clear hfz55_1
         try clear hfz60_0
         try clear hfz60_1
         try clear hfz63_0
         try clear hfz63_1
         try clear hfz6_0
         try clear hfz6_1
         try clear hfz87_0
         try clear hfz87_1
         try clear hfz96_0
         try clear hfz96_1
         try clear hfz99_0
         try clear hfz99_1
         try clear p2
         obtain ⟨kq, x82_82, rfl, HA, HJ82, HO_421000, HO_426000, HO_435000, BK405, BK420, BK425, BK434, HB⟩ := hcut
         have hl426000_82 := (Kd.R_reads' HO_426000.out).1
         rw [hl426000_82] at HO_426000
         (try simp only [hl426000_82])
         (try simp only [hl426000_82] at BK405)
         (try simp only [hl426000_82] at BK420)
         (try simp only [hl426000_82] at BK425)
         (try simp only [hl426000_82] at BK434)
         (try simp only [hl426000_82] at HO_421000)
         (try simp only [hl426000_82] at HO_435000)
         cases kq with
         | zero => exact absurd HA.out (by simp [laws_FnExactHeadWrite.j1])
         | succ kj82 =>
          have H := HA.out
          clear HA
          simp only [laws_FnExactHeadWrite.j1] at H
          by_cases c109 : x82_82 = true
          ·subst c109
           have H1 : (some false) = some r := by rw [if_pos rfl] at H; exact H
           clear H
           have H := H1
           clear H1
           obtain rfl := Option.some.inj H
           go_wp2
           go_ret
           exact ⟨ze, zb HB⟩
          ·replace c109 := Bool.eq_false_iff.mpr c109
           subst c109
           have H1 : ((laws_markTable.f kj82 t429 t432 1).bind fun bt450 => ((laws_heldTable.f kj82 bt450.2 t432 1).bind fun t452 => (if t452 < 0 then (some false) else (if t452 = bt450.1 then ((laws_toTable.f kj82 l0_0 a0_1).bind fun bt453 => ((laws_toFieldS.f kj82 l1).bind fun t457 => ((impl_HeadWrite.f kj82 bt453.1 bt453.2 t457).bind fun bt460 => ((laws_eqTable.f kj82 bt460.1 bt460.2.1 t415 t418).bind fun t466 => (if t466 = true then (laws_FnExactHeadWrite.j2 kj82 bt450.1 (bt460.2.2.toList != t419.toList) bt450.2 t432) else (laws_FnExactHeadWrite.j2 kj82 bt450.1 true bt450.2 t432)))))) else (some false))))) = some r := by rw [if_neg (show ¬ (false = true) by decide)] at H; exact H
           clear H
           have H := H1
           clear H1
           replace H := Option.bind_eq_some_iff.mp H
           obtain ⟨⟨t450, t451⟩, A1100, H⟩ := H
           replace H : ((laws_heldTable.f kj82 t451 t432 1).bind fun t452 => (if t452 < 0 then (some false) else (if t452 = t450 then ((laws_toTable.f kj82 l0_0 a0_1).bind fun bt453 => ((laws_toFieldS.f kj82 l1).bind fun t457 => ((impl_HeadWrite.f kj82 bt453.1 bt453.2 t457).bind fun bt460 => ((laws_eqTable.f kj82 bt460.1 bt460.2.1 t415 t418).bind fun t466 => (if t466 = true then (laws_FnExactHeadWrite.j2 kj82 t450 (bt460.2.2.toList != t419.toList) t451 t432) else (laws_FnExactHeadWrite.j2 kj82 t450 true t451 t432)))))) else (some false)))) = some r := H
           have A110 := Aside0.mk A1100
           clear A1100
           replace H := Option.bind_eq_some_iff.mp H
           obtain ⟨t452, A1110, H⟩ := H
           replace H : (if t452 < 0 then (some false) else (if t452 = t450 then ((laws_toTable.f kj82 l0_0 a0_1).bind fun bt453 => ((laws_toFieldS.f kj82 l1).bind fun t457 => ((impl_HeadWrite.f kj82 bt453.1 bt453.2 t457).bind fun bt460 => ((laws_eqTable.f kj82 bt460.1 bt460.2.1 t415 t418).bind fun t466 => (if t466 = true then (laws_FnExactHeadWrite.j2 kj82 t450 (bt460.2.2.toList != t419.toList) t451 t432) else (laws_FnExactHeadWrite.j2 kj82 t450 true t451 t432)))))) else (some false))) = some r := H
           have A111 := Aside0.mk A1110
           clear A1110
           have HC112 := Aside0.mk H
           clear H
           have hnb113 := NB434_405.out
           have hnc113 := NB405_434.out
           have hnb114 := NB434_420.out
           have hnc114 := NB420_434.out
           have hnb115 := NB434_425.out
           have hnc115 := NB425_434.out
           have hcz116_0 : wc.cell? ⟨gb434, 0, none⟩ = some (.slice Ao42 t429.length co42) := (blk_cell BK434.out 0).trans rfl
           have hcz116_1 : wc.cell? ⟨gb434, 1, none⟩ = some (.int .i64 t432) := (blk_cell BK434.out 1).trans rfl
           have hfz116_0 := blk_frozen BK434.out 0
           have hfz116_1 := blk_frozen BK434.out 1
           go_upto_if 90 with (first | ((with_reducible refine gq 27 rfl ?_); refine gl (some 85) Try.func27 #[.agg #[.slice Ao42 t429.length co42, .int .i64 t432], .int .i64 1] ?_; (with_reducible refine (laws_markTable.calls kj82 (fun k_ => some k_ = (.slice Ao42 t429.length co42 : Value).ownBlock) (.slice Ao42 t429.length co42) t429 t432 1 t450 t451 w _ ?side1 ?side2 A110.out).mono ?_); (case side1 => exact zb HB); (case side2 => exact Kd.R_tight rfl HO_435000.out); rintro e w117 ⟨rfl, hy0, hb, hkp⟩; refine ⟨_, rfl, ?_⟩; replace HO_421000 := Aside0.mk (Kd.R_mono (ok' := fun k_ => some k_ ≠ (.slice Ao33 t446.length co33 : Value).ownBlock ∧ some k_ ≠ (.slice Ao42 t429.length co42 : Value).ownBlock) (Kd.R_keptB (HO_421000.out) hkp (fun k_ hk_ hs_ => (hk_.2) hs_)) (fun k_ hk_ => ⟨hk_.1.1, hk_.1.2⟩)); replace HO_426000 := Aside0.mk (Kd.R_mono (ok' := fun k_ => some k_ ≠ (.slice Ao27 t415.length co27 : Value).ownBlock ∧ some k_ ≠ (.slice Ao42 t429.length co42 : Value).ownBlock) (Kd.R_keptB (HO_426000.out) hkp (fun k_ hk_ hs_ => (hk_.2) hs_)) (fun k_ hk_ => ⟨hk_.1.1, hk_.1.2⟩)); replace BK405 := Aside0.mk (blk_kept (zk BK405) hkp (fun hs_ => (fun e_ => (Kd.R_ne HO_435000.out BK405.out (by decide)) e_) hs_)); replace BK420 := Aside0.mk (blk_kept (zk BK420) hkp (fun hs_ => (fun e_ => (Kd.R_ne HO_435000.out BK420.out (by decide)) e_) hs_)); replace BK425 := Aside0.mk (blk_kept (zk BK425) hkp (fun hs_ => (fun e_ => (Kd.R_ne HO_435000.out BK425.out (by decide)) e_) hs_)); replace BK434 := Aside0.mk (blk_kept (zk BK434) hkp (fun hs_ => (fun e_ => (Kd.R_ne HO_435000.out BK434.out (by decide)) e_) hs_)); replace HO_435000 := Aside0.mk (Kd.R_reok rfl hy0 (fun k_ e_ => HO_435000.out.1 k_ e_)); replace HB := Aside0.mk (hb); (try clear hb); (try clear hkp); (try clear hy0); have hcz118_0 : w117.cell? ⟨gb434, 0, none⟩ = some (.slice Ao42 t429.length co42) := (blk_cell BK434.out 0).trans rfl; have hcz118_1 : w117.cell? ⟨gb434, 1, none⟩ = some (.int .i64 t432) := (blk_cell BK434.out 1).trans rfl; have hfz118_0 := blk_frozen BK434.out 0; have hfz118_1 := blk_frozen BK434.out 1) | ((with_reducible refine gq 28 rfl ?_); refine goesL_ (some 88) rfl rfl Try.func28 (by kernel_rfl) rfl #[.agg #[.slice Ao42 t451.length co42, .int .i64 t432], .int .i64 1] rfl (by (try simp only [List.map_toArray, List.map_cons, List.map_nil]); first | done | (rw [show t451.length = t429.length from (Kd.R_reads' HO_435000.out).1.symm] <;> rfl) | rfl | (simp only [List.length_drop, List.length_take]; rfl)) ?_; (with_reducible refine (laws_heldTable.calls kj82 _ _ t451 t432 1 t452 _ ?side1 ?side2 A111.out).mono ?_); (case side1 => exact zc (Kd.R_reads' HO_435000.out).2.2); (case side2 => rw [show t451.length = t429.length from (Kd.R_reads' HO_435000.out).1.symm]; exact (Kd.R_reads' HO_435000.out).2.1); rintro e w119 ⟨rfl, hb⟩; refine ⟨_, rfl, ?_⟩; replace HO_421000 := Aside0.mk (Kd.R_below (zr HO_421000) hb); replace HO_426000 := Aside0.mk (Kd.R_below (zr HO_426000) hb); replace HO_435000 := Aside0.mk (Kd.R_below (zr HO_435000) hb); replace BK405 := Aside0.mk (blk_below (g := gb405) (o := .cells #[.slice A0_0 l0_0.length c0_0, .int .i64 a0_1] 40 (0, 0)) (zk BK405) hb); replace BK420 := Aside0.mk (blk_below (g := gb420) (o := .cells #[.slice Ao27 t415.length co27, .int .i64 t418] 25 (0, 0)) (zk BK420) hb); replace BK425 := Aside0.mk (blk_below (g := gb425) (o := .cells #[.slice Ao33 t446.length co33, .int .i64 t424] 25 (0, 0)) (zk BK425) hb); replace BK434 := Aside0.mk (blk_below (g := gb434) (o := .cells #[.slice Ao42 t429.length co42, .int .i64 t432] 25 (0, 0)) (zk BK434) hb); replace HB := Aside0.mk (below_step (zb HB) hb); (try clear hb)))
           (try simp only [Act.put, s1, s2, s3])
           have H := HC112.out
           clear HC112
           by_cases c120 : t452 < 0
           ·rw [if_pos c120] at H
            have c120b0 : decide (t452 < 0) = true := decide_eq_true c120
            clear c120
            (first | rw [c120b0] | rw [c120b1] | (simp only [i64_w, i32_w]; rw [c120b0]) | skip)
            obtain rfl := Option.some.inj H
            go_wp2
            go_ret
            exact ⟨ze, zb HB⟩
           ·rw [if_neg c120] at H
            have c120b0 : decide (t452 < 0) = false := decide_eq_false c120
            clear c120
            (first | rw [c120b0] | rw [c120b1] | (simp only [i64_w, i32_w]; rw [c120b0]) | skip)
            by_cases c121 : t452 = t450
            ·rw [if_pos c121] at H
             have c121b0 : (t452 == t450) = true := beq_iff_eq.mpr c121
             have c121b1 : (t452 != t450) = false := bne_eq_false_iff_eq.mpr c121
             clear c121
             replace H := Option.bind_eq_some_iff.mp H
             obtain ⟨⟨t453, t456⟩, A1220, H⟩ := H
             replace H : ((laws_toFieldS.f kj82 l1).bind fun t457 => ((impl_HeadWrite.f kj82 t453 t456 t457).bind fun bt460 => ((laws_eqTable.f kj82 bt460.1 bt460.2.1 t415 t418).bind fun t466 => (if t466 = true then (laws_FnExactHeadWrite.j2 kj82 t450 (bt460.2.2.toList != t419.toList) t451 t432) else (laws_FnExactHeadWrite.j2 kj82 t450 true t451 t432))))) = some r := H
             have A122 := Aside0.mk A1220
             clear A1220
             replace H := Option.bind_eq_some_iff.mp H
             obtain ⟨t457, A1230, H⟩ := H
             replace H : ((impl_HeadWrite.f kj82 t453 t456 t457).bind fun bt460 => ((laws_eqTable.f kj82 bt460.1 bt460.2.1 t415 t418).bind fun t466 => (if t466 = true then (laws_FnExactHeadWrite.j2 kj82 t450 (bt460.2.2.toList != t419.toList) t451 t432) else (laws_FnExactHeadWrite.j2 kj82 t450 true t451 t432)))) = some r := H
             have A123 := Aside0.mk A1230
             clear A1230
             replace H := Option.bind_eq_some_iff.mp H
             obtain ⟨⟨t460, t463, t464⟩, A1240, H⟩ := H
             replace H : ((laws_eqTable.f kj82 t460 t463 t415 t418).bind fun t466 => (if t466 = true then (laws_FnExactHeadWrite.j2 kj82 t450 (t464.toList != t419.toList) t451 t432) else (laws_FnExactHeadWrite.j2 kj82 t450 true t451 t432))) = some r := H
             have A124 := Aside0.mk A1240
             clear A1240
             have HC125 := Aside0.mk H
             clear H
             have hnb126 := NB405_420.out
             have hnc126 := NB420_405.out
             have hnb127 := NB405_425.out
             have hnc127 := NB425_405.out
             have hnb128 := NB405_434.out
             have hnc128 := NB434_405.out
             have hcz129_0 : w119.cell? ⟨gb405, 0, none⟩ = some (.slice A0_0 l0_0.length c0_0) := (blk_cell BK405.out 0).trans rfl
             have hcz129_1 : w119.cell? ⟨gb405, 1, none⟩ = some (.int .i64 a0_1) := (blk_cell BK405.out 1).trans rfl
             have hfz129_0 := blk_frozen BK405.out 0
             have hfz129_1 := blk_frozen BK405.out 1
             go_upto_region 32 with (first | ((with_reducible refine gq 25 rfl ?_); refine gl (some 96) Try.func25 #[.agg #[.slice A0_0 l0_0.length c0_0, .int .i64 a0_1]] ?_; (with_reducible refine (laws_toTable.calls kj82 _ _ l0_0 a0_1 t453 t456 _ ?side1 ?side2 A122.out).mono ?_); (case side1 => exact zc (Kd.C_below HR0_0.out HB.out)); (case side2 => exact HC0_0.out); rintro e w130 ⟨v454, rfl, ho0, hb⟩; refine ⟨_, rfl, ?_⟩; have HO455 := Aside0.mk (Kd.R_lower (Kd.R_new' (Kd.R_new' (Kd.R_new' ho0 (Kd.R_lt (zr HO_421000))) (Kd.R_lt (zr HO_426000))) (Kd.R_lt (zr HO_435000))) (below_size (zb HB))); replace HO_421000 := Aside0.mk (Kd.R_elder' (zr HO_421000) (Kd.R_base ho0) hb); replace HO_426000 := Aside0.mk (Kd.R_elder' (zr HO_426000) (Kd.R_base ho0) hb); replace HO_435000 := Aside0.mk (Kd.R_elder' (zr HO_435000) (Kd.R_base ho0) hb); replace BK405 := Aside0.mk (blk_below (g := gb405) (o := .cells #[.slice A0_0 l0_0.length c0_0, .int .i64 a0_1] 40 (0, 0)) (zk BK405) hb); replace BK420 := Aside0.mk (blk_below (g := gb420) (o := .cells #[.slice Ao27 t415.length co27, .int .i64 t418] 25 (0, 0)) (zk BK420) hb); replace BK425 := Aside0.mk (blk_below (g := gb425) (o := .cells #[.slice Ao33 t446.length co33, .int .i64 t424] 25 (0, 0)) (zk BK425) hb); replace BK434 := Aside0.mk (blk_below (g := gb434) (o := .cells #[.slice Ao42 t429.length co42, .int .i64 t432] 25 (0, 0)) (zk BK434) hb); replace HB := Aside0.mk (below_step (zb HB) hb); (try clear hb); (try clear ho0)) | ((with_reducible refine gq 42 rfl ?_); refine gl (some 98) Try.func42 #[.slice A1 l1.length c1] ?_; (with_reducible refine (laws_toFieldS.calls kj82 _ _ l1 t457 _ ?side1 ?side2 A123.out).mono ?_); (case side1 => exact zc (Kd.C_below HR1.out HB.out)); (case side2 => exact HC1.out); rintro e w131 ⟨v458, rfl, ho0, hb⟩; refine ⟨_, rfl, ?_⟩; have HO459 := Aside0.mk (Kd.R_lower (Kd.R_new' (Kd.R_new' (Kd.R_new' (Kd.R_new' ho0 (Kd.R_lt (zr HO_421000))) (Kd.R_lt (zr HO_426000))) (Kd.R_lt (zr HO_435000))) (Kd.R_lt (zr HO455))) (below_size (zb HB))); replace HO_421000 := Aside0.mk (Kd.R_elder' (zr HO_421000) (Kd.R_base ho0) hb); replace HO_426000 := Aside0.mk (Kd.R_elder' (zr HO_426000) (Kd.R_base ho0) hb); replace HO_435000 := Aside0.mk (Kd.R_elder' (zr HO_435000) (Kd.R_base ho0) hb); replace HO455 := Aside0.mk (Kd.R_elder' (zr HO455) (Kd.R_base ho0) hb); replace BK405 := Aside0.mk (blk_below (g := gb405) (o := .cells #[.slice A0_0 l0_0.length c0_0, .int .i64 a0_1] 40 (0, 0)) (zk BK405) hb); replace BK420 := Aside0.mk (blk_below (g := gb420) (o := .cells #[.slice Ao27 t415.length co27, .int .i64 t418] 25 (0, 0)) (zk BK420) hb); replace BK425 := Aside0.mk (blk_below (g := gb425) (o := .cells #[.slice Ao33 t446.length co33, .int .i64 t424] 25 (0, 0)) (zk BK425) hb); replace BK434 := Aside0.mk (blk_below (g := gb434) (o := .cells #[.slice Ao42 t429.length co42, .int .i64 t432] 25 (0, 0)) (zk BK434) hb); replace HB := Aside0.mk (below_step (zb HB) hb); (try clear hb); (try clear ho0); obtain ⟨Ao132, co132, eo132⟩ := Kd.R_slice HO455.out; subst eo132; obtain ⟨Ao133, co133, eo133⟩ := Kd.R_slice HO459.out; subst eo133) | ((with_reducible refine gq 39 rfl ?_); refine gl (some 99) Try.func39 #[.agg #[.slice Ao132 t453.length co132, .int .i64 t456], .slice Ao133 t457.length co133] ?_; (with_reducible refine (impl_HeadWrite.calls kj82 _ _ t453 t456 _ _ t457 t460 t463 t464 _ ?side1 ?side2 ?side3 ?side4 A124.out).mono ?_); (case side1 => exact zc (Kd.R_reads' HO455.out).2.2); (case side2 => exact (Kd.R_reads' HO455.out).2.1); (case side3 => exact zc (Kd.R_reads' HO459.out).2.2); (case side4 => exact (Kd.R_reads' HO459.out).2.1); rintro e w134 ⟨v461, rfl, ho0, hb⟩; refine ⟨_, rfl, ?_⟩; have HO462 := Aside0.mk (Kd.R_lower (Kd.R_new' (Kd.R_new' (Kd.R_new' (Kd.R_new' (Kd.R_new' ho0 (Kd.R_lt (zr HO_421000))) (Kd.R_lt (zr HO_426000))) (Kd.R_lt (zr HO_435000))) (Kd.R_lt (zr HO455))) (Kd.R_lt (zr HO459))) (below_size (zb HB))); replace HO_421000 := Aside0.mk (Kd.R_elder' (zr HO_421000) (Kd.R_base ho0) hb); replace HO_426000 := Aside0.mk (Kd.R_elder' (zr HO_426000) (Kd.R_base ho0) hb); replace HO_435000 := Aside0.mk (Kd.R_elder' (zr HO_435000) (Kd.R_base ho0) hb); replace HO455 := Aside0.mk (Kd.R_elder' (zr HO455) (Kd.R_base ho0) hb); replace HO459 := Aside0.mk (Kd.R_elder' (zr HO459) (Kd.R_base ho0) hb); replace BK405 := Aside0.mk (blk_below (g := gb405) (o := .cells #[.slice A0_0 l0_0.length c0_0, .int .i64 a0_1] 40 (0, 0)) (zk BK405) hb); replace BK420 := Aside0.mk (blk_below (g := gb420) (o := .cells #[.slice Ao27 t415.length co27, .int .i64 t418] 25 (0, 0)) (zk BK420) hb); replace BK425 := Aside0.mk (blk_below (g := gb425) (o := .cells #[.slice Ao33 t446.length co33, .int .i64 t424] 25 (0, 0)) (zk BK425) hb); replace BK434 := Aside0.mk (blk_below (g := gb434) (o := .cells #[.slice Ao42 t429.length co42, .int .i64 t432] 25 (0, 0)) (zk BK434) hb); replace HB := Aside0.mk (below_step (zb HB) hb); (try clear hb); (try clear ho0)) | ((with_reducible refine gd 15 rfl ?_); refine bx (N := 15) (cs := #[.slice none 0 0, .int .i64 0]) (t := 25) ?_; intro gb465 hg w135 hbox hb; replace HO_421000 := Aside0.mk (Kd.R_below (zr HO_421000) hb); replace HO_426000 := Aside0.mk (Kd.R_below (zr HO_426000) hb); replace HO_435000 := Aside0.mk (Kd.R_below (zr HO_435000) hb); replace HO455 := Aside0.mk (Kd.R_below (zr HO455) hb); replace HO459 := Aside0.mk (Kd.R_below (zr HO459) hb); replace HO462 := Aside0.mk (Kd.R_below (zr HO462) hb); have BK465 := Aside0.mk (hbox); have GW465 := Aside0.mk ((by rw [hg]; exact (below_size (zb HB)) : w.heap.size ≤ gb465)); have GE465 := Aside0.mk ((by rw [hg]; exact (below_size (zb HB)) : w.heap.size ≤ gb465)); replace HB := Aside0.mk (below_step (zb HB) hb); have NB405_465 := Aside0.mk ((by rw [hg]; exact Nat.ne_of_lt (blk_lt (g := gb405) (o := .cells #[.slice A0_0 l0_0.length c0_0, .int .i64 a0_1] 40 (0, 0)) (zk BK405)) : gb405 ≠ gb465)); have NB465_405 := Aside0.mk ((by rw [hg]; exact Nat.ne_of_gt (blk_lt (g := gb405) (o := .cells #[.slice A0_0 l0_0.length c0_0, .int .i64 a0_1] 40 (0, 0)) (zk BK405)) : gb465 ≠ gb405)); replace BK405 := Aside0.mk (blk_below (g := gb405) (o := .cells #[.slice A0_0 l0_0.length c0_0, .int .i64 a0_1] 40 (0, 0)) (zk BK405) hb); have NB420_465 := Aside0.mk ((by rw [hg]; exact Nat.ne_of_lt (blk_lt (g := gb420) (o := .cells #[.slice Ao27 t415.length co27, .int .i64 t418] 25 (0, 0)) (zk BK420)) : gb420 ≠ gb465)); have NB465_420 := Aside0.mk ((by rw [hg]; exact Nat.ne_of_gt (blk_lt (g := gb420) (o := .cells #[.slice Ao27 t415.length co27, .int .i64 t418] 25 (0, 0)) (zk BK420)) : gb465 ≠ gb420)); replace BK420 := Aside0.mk (blk_below (g := gb420) (o := .cells #[.slice Ao27 t415.length co27, .int .i64 t418] 25 (0, 0)) (zk BK420) hb); have NB425_465 := Aside0.mk ((by rw [hg]; exact Nat.ne_of_lt (blk_lt (g := gb425) (o := .cells #[.slice Ao33 t446.length co33, .int .i64 t424] 25 (0, 0)) (zk BK425)) : gb425 ≠ gb465)); have NB465_425 := Aside0.mk ((by rw [hg]; exact Nat.ne_of_gt (blk_lt (g := gb425) (o := .cells #[.slice Ao33 t446.length co33, .int .i64 t424] 25 (0, 0)) (zk BK425)) : gb465 ≠ gb425)); replace BK425 := Aside0.mk (blk_below (g := gb425) (o := .cells #[.slice Ao33 t446.length co33, .int .i64 t424] 25 (0, 0)) (zk BK425) hb); have NB434_465 := Aside0.mk ((by rw [hg]; exact Nat.ne_of_lt (blk_lt (g := gb434) (o := .cells #[.slice Ao42 t429.length co42, .int .i64 t432] 25 (0, 0)) (zk BK434)) : gb434 ≠ gb465)); have NB465_434 := Aside0.mk ((by rw [hg]; exact Nat.ne_of_gt (blk_lt (g := gb434) (o := .cells #[.slice Ao42 t429.length co42, .int .i64 t432] 25 (0, 0)) (zk BK434)) : gb465 ≠ gb434)); replace BK434 := Aside0.mk (blk_below (g := gb434) (o := .cells #[.slice Ao42 t429.length co42, .int .i64 t432] 25 (0, 0)) (zk BK434) hb); clear hb hbox hg; obtain ⟨Ao136, co136, eo136⟩ := Kd.R_slice HO462.out; subst eo136; have hnb137 := NB465_405.out; have hnc137 := NB405_465.out; have hnb138 := NB465_420.out; have hnc138 := NB420_465.out; have hnb139 := NB465_425.out; have hnc139 := NB425_465.out; have hnb140 := NB465_434.out; have hnc140 := NB434_465.out; have hcz141_0 : w135.cell? ⟨gb465, 0, none⟩ = some (.slice none 0 0) := (blk_cell BK465.out 0).trans rfl; have hcz141_1 : w135.cell? ⟨gb465, 1, none⟩ = some (.int .i64 0) := (blk_cell BK465.out 1).trans rfl; have hfz141_0 := blk_frozen BK465.out 0; have hfz141_1 := blk_frozen BK465.out 1))
             (try simp only [Act.put, s1, s2, s3])
             go_cut [110] (fun v110 wc => ∃ (kq : Nat) (x110_124 : Bool), v110 = .bool x110_124 ∧ Aside0 (laws_FnExactHeadWrite.j2 kq t450 x110_124 t451 t432 = some r) ∧ Aside0 (kq ≤ kj82) ∧ Aside0 (Kd.R k36 36 wc w.heap.size (fun k_ => some k_ ≠ ((.slice Ao33 t446.length co33) : Value).ownBlock ∧ some k_ ≠ ((.slice Ao42 t429.length co42) : Value).ownBlock ∧ some k_ ≠ ((.slice Ao136 t460.length co136) : Value).ownBlock) (.slice Ao27 t415.length co27) t415) ∧ Aside0 (Kd.R k36 36 wc w.heap.size (fun k_ => some k_ ≠ ((.slice Ao27 t415.length co27) : Value).ownBlock ∧ some k_ ≠ ((.slice Ao42 t429.length co42) : Value).ownBlock ∧ some k_ ≠ ((.slice Ao136 t460.length co136) : Value).ownBlock) (.slice Ao33 t446.length co33) t446) ∧ Aside0 (Kd.R k36 36 wc w.heap.size (fun k_ => some k_ ≠ ((.slice Ao27 t415.length co27) : Value).ownBlock ∧ some k_ ≠ ((.slice Ao33 t446.length co33) : Value).ownBlock ∧ some k_ ≠ ((.slice Ao136 t460.length co136) : Value).ownBlock) (.slice Ao42 t429.length co42) t451) ∧ Aside0 (Kd.R k36 36 wc w.heap.size (fun k_ => some k_ ≠ ((.slice Ao27 t415.length co27) : Value).ownBlock ∧ some k_ ≠ ((.slice Ao33 t446.length co33) : Value).ownBlock ∧ some k_ ≠ ((.slice Ao42 t429.length co42) : Value).ownBlock) (.slice Ao136 t460.length co136) t460) ∧ Aside0 (wc.heap[gb405]? = some (.cells #[(.slice A0_0 l0_0.length c0_0), .int .i64 a0_1] 40 (0, 0))) ∧ Aside0 (wc.heap[gb420]? = some (.cells #[(.slice Ao27 t415.length co27), .int .i64 t418] 25 (0, 0))) ∧ Aside0 (wc.heap[gb425]? = some (.cells #[(.slice Ao33 t446.length co33), .int .i64 t424] 25 (0, 0))) ∧ Aside0 (wc.heap[gb434]? = some (.cells #[(.slice Ao42 t429.length co42), .int .i64 t432] 25 (0, 0))) ∧ Aside0 (wc.heap[gb465]? = some (.cells #[(.slice Ao136 t460.length co136), .int .i64 t463] 25 (0, 0))) ∧ Aside0 (Below w.heap.size w wc))
             case first =>
              have H := HC125.out
              clear HC125
              replace H := Option.bind_eq_some_iff.mp H
              obtain ⟨t466, A1420, H⟩ := H
              replace H : (if t466 = true then (laws_FnExactHeadWrite.j2 kj82 t450 (t464.toList != t419.toList) t451 t432) else (laws_FnExactHeadWrite.j2 kj82 t450 true t451 t432)) = some r := H
              have A142 := Aside0.mk A1420
              clear A1420
              by_cases c143 : t466 = true
              ·subst c143
               have H1 : (laws_FnExactHeadWrite.j2 kj82 t450 (t464.toList != t419.toList) t451 t432) = some r := by rw [if_pos rfl] at H; exact H
               clear H
               have H := H1
               clear H1
               have H' := Aside0.mk H
               clear H
               have hnb144 := NB465_405.out
               have hnc144 := NB405_465.out
               have hnb145 := NB465_420.out
               have hnc145 := NB420_465.out
               have hnb146 := NB465_425.out
               have hnc146 := NB425_465.out
               have hnb147 := NB465_434.out
               have hnc147 := NB434_465.out
               have hcz148_0 : w135.cell? ⟨gb465, 0, none⟩ = some (.slice none 0 0) := (blk_cell BK465.out 0).trans rfl
               have hcz148_1 : w135.cell? ⟨gb465, 1, none⟩ = some (.int .i64 0) := (blk_cell BK465.out 1).trans rfl
               have hfz148_0 := blk_frozen BK465.out 0
               have hfz148_1 := blk_frozen BK465.out 1
               have hnb149 := NB420_405.out
               have hnc149 := NB405_420.out
               have hnb150 := NB420_425.out
               have hnc150 := NB425_420.out
               have hnb151 := NB420_434.out
               have hnc151 := NB434_420.out
               have hcz152_0 : w135.cell? ⟨gb420, 0, none⟩ = some (.slice Ao27 t415.length co27) := (blk_cell BK420.out 0).trans rfl
               have hcz152_1 : w135.cell? ⟨gb420, 1, none⟩ = some (.int .i64 t418) := (blk_cell BK420.out 1).trans rfl
               have hfz152_0 := blk_frozen BK420.out 0
               have hfz152_1 := blk_frozen BK420.out 1
               go_wp2_with (first | ((with_reducible refine gq 26 rfl ?_); refine gl (some 104) Try.func26 #[.agg #[.slice Ao136 t460.length co136, .int .i64 t463], .agg #[.slice Ao27 t415.length co27, .int .i64 t418]] ?_; (with_reducible refine (laws_eqTable.calls kj82 _ _ t460 t463 _ _ t415 t418 true _ ?side1 ?side2 ?side3 ?side4 A142.out).mono ?_); (case side1 => refine (Kd.R_reads' (e := 36) (base := w.heap.size) (ok := fun k_ => (((((True ∧ some k_ ≠ (.slice Ao27 t415.length co27 : Value).ownBlock) ∧ some k_ ≠ (.slice Ao33 t446.length co33 : Value).ownBlock) ∧ some k_ ≠ (.slice Ao42 t429.length co42 : Value).ownBlock) ∧ some k_ ≠ (.slice Ao132 t453.length co132 : Value).ownBlock) ∧ some k_ ≠ (.slice Ao133 t457.length co133 : Value).ownBlock)) (n := t460.length) (c := co136) ?_).2.2; exact (by (with_reducible repeat (first | apply Kd.R_alloc | apply Kd.R_drewN | apply Kd.R_drew)); exact (Kd.R_mono (Kd.R_far (p := ⟨gb465, 1, none⟩) (Kd.R_far (p := ⟨gb465, 0, none⟩) (Kd.R_types HO462.out BK465.out (by decide)) (fun _ hk => hk.2) (.slice Ao136 t460.length co136)) (fun _ hk => hk.2) (.int .i64 t463)) (fun _ h_ => h_.1)))); (case side2 => exact (Kd.R_reads' HO462.out).2.1); (case side3 => refine (Kd.R_reads' (e := 36) (base := w.heap.size) (ok := fun k_ => ((((some k_ ≠ (.slice Ao33 t446.length co33 : Value).ownBlock ∧ some k_ ≠ (.slice Ao42 t429.length co42 : Value).ownBlock) ∧ some k_ ≠ (.slice Ao132 t453.length co132 : Value).ownBlock) ∧ some k_ ≠ (.slice Ao133 t457.length co133 : Value).ownBlock) ∧ some k_ ≠ (.slice Ao136 t460.length co136 : Value).ownBlock)) (n := t415.length) (c := co27) ?_).2.2; exact (by (with_reducible repeat (first | apply Kd.R_alloc | apply Kd.R_drewN | apply Kd.R_drew)); exact (Kd.R_mono (Kd.R_far (p := ⟨gb465, 1, none⟩) (Kd.R_far (p := ⟨gb465, 0, none⟩) (Kd.R_types HO_421000.out BK465.out (by decide)) (fun _ hk => hk.2) (.slice Ao136 t460.length co136)) (fun _ hk => hk.2) (.int .i64 t463)) (fun _ h_ => h_.1)))); (case side4 => exact (Kd.R_reads' HO_421000.out).2.1); rintro e w153 ⟨rfl, hb⟩; refine ⟨_, rfl, ?_⟩; replace HO_421000 := Aside0.mk (Kd.R_below (by (with_reducible repeat (first | apply Kd.R_alloc | apply Kd.R_drewN | apply Kd.R_drew)); exact (Kd.R_mono (Kd.R_far (p := ⟨gb465, 1, none⟩) (Kd.R_far (p := ⟨gb465, 0, none⟩) (Kd.R_types HO_421000.out BK465.out (by decide)) (fun _ hk => hk.2) (.slice Ao136 t460.length co136)) (fun _ hk => hk.2) (.int .i64 t463)) (fun _ h_ => h_.1))) hb); replace HO_426000 := Aside0.mk (Kd.R_below (by (with_reducible repeat (first | apply Kd.R_alloc | apply Kd.R_drewN | apply Kd.R_drew)); exact (Kd.R_mono (Kd.R_far (p := ⟨gb465, 1, none⟩) (Kd.R_far (p := ⟨gb465, 0, none⟩) (Kd.R_types HO_426000.out BK465.out (by decide)) (fun _ hk => hk.2) (.slice Ao136 t460.length co136)) (fun _ hk => hk.2) (.int .i64 t463)) (fun _ h_ => h_.1))) hb); replace HO_435000 := Aside0.mk (Kd.R_below (by (with_reducible repeat (first | apply Kd.R_alloc | apply Kd.R_drewN | apply Kd.R_drew)); exact (Kd.R_mono (Kd.R_far (p := ⟨gb465, 1, none⟩) (Kd.R_far (p := ⟨gb465, 0, none⟩) (Kd.R_types HO_435000.out BK465.out (by decide)) (fun _ hk => hk.2) (.slice Ao136 t460.length co136)) (fun _ hk => hk.2) (.int .i64 t463)) (fun _ h_ => h_.1))) hb); replace HO455 := Aside0.mk (Kd.R_below (by (with_reducible repeat (first | apply Kd.R_alloc | apply Kd.R_drewN | apply Kd.R_drew)); exact (Kd.R_mono (Kd.R_far (p := ⟨gb465, 1, none⟩) (Kd.R_far (p := ⟨gb465, 0, none⟩) (Kd.R_types HO455.out BK465.out (by decide)) (fun _ hk => hk.2) (.slice Ao136 t460.length co136)) (fun _ hk => hk.2) (.int .i64 t463)) (fun _ h_ => h_.1))) hb); replace HO459 := Aside0.mk (Kd.R_below (by (with_reducible repeat (first | apply Kd.R_alloc | apply Kd.R_drewN | apply Kd.R_drew)); exact (Kd.R_mono (Kd.R_far (p := ⟨gb465, 1, none⟩) (Kd.R_far (p := ⟨gb465, 0, none⟩) (Kd.R_types HO459.out BK465.out (by decide)) (fun _ hk => hk.2) (.slice Ao136 t460.length co136)) (fun _ hk => hk.2) (.int .i64 t463)) (fun _ h_ => h_.1))) hb); replace HO462 := Aside0.mk (Kd.R_below (by (with_reducible repeat (first | apply Kd.R_alloc | apply Kd.R_drewN | apply Kd.R_drew)); exact (Kd.R_mono (Kd.R_far (p := ⟨gb465, 1, none⟩) (Kd.R_far (p := ⟨gb465, 0, none⟩) (Kd.R_types HO462.out BK465.out (by decide)) (fun _ hk => hk.2) (.slice Ao136 t460.length co136)) (fun _ hk => hk.2) (.int .i64 t463)) (fun _ h_ => h_.1))) hb); replace BK405 := Aside0.mk (blk_below (g := gb405) (o := .cells #[.slice A0_0 l0_0.length c0_0, .int .i64 a0_1] 40 (0, 0)) (by (with_reducible repeat (first | refine blk_drewN ?_ _ | refine blk_drew ?_ | refine blk_alloc ?_ _)); refine blk_far ?_ NB405_465.out _; (with_reducible repeat (first | refine blk_drewN ?_ _ | refine blk_drew ?_ | refine blk_alloc ?_ _)); refine blk_far ?_ NB405_465.out _; exact zk BK405) hb); replace BK420 := Aside0.mk (blk_below (g := gb420) (o := .cells #[.slice Ao27 t415.length co27, .int .i64 t418] 25 (0, 0)) (by (with_reducible repeat (first | refine blk_drewN ?_ _ | refine blk_drew ?_ | refine blk_alloc ?_ _)); refine blk_far ?_ NB420_465.out _; (with_reducible repeat (first | refine blk_drewN ?_ _ | refine blk_drew ?_ | refine blk_alloc ?_ _)); refine blk_far ?_ NB420_465.out _; exact zk BK420) hb); replace BK425 := Aside0.mk (blk_below (g := gb425) (o := .cells #[.slice Ao33 t446.length co33, .int .i64 t424] 25 (0, 0)) (by (with_reducible repeat (first | refine blk_drewN ?_ _ | refine blk_drew ?_ | refine blk_alloc ?_ _)); refine blk_far ?_ NB425_465.out _; (with_reducible repeat (first | refine blk_drewN ?_ _ | refine blk_drew ?_ | refine blk_alloc ?_ _)); refine blk_far ?_ NB425_465.out _; exact zk BK425) hb); replace BK434 := Aside0.mk (blk_below (g := gb434) (o := .cells #[.slice Ao42 t429.length co42, .int .i64 t432] 25 (0, 0)) (by (with_reducible repeat (first | refine blk_drewN ?_ _ | refine blk_drew ?_ | refine blk_alloc ?_ _)); refine blk_far ?_ NB434_465.out _; (with_reducible repeat (first | refine blk_drewN ?_ _ | refine blk_drew ?_ | refine blk_alloc ?_ _)); refine blk_far ?_ NB434_465.out _; exact zk BK434) hb); replace BK465 := Aside0.mk (blk_below (g := gb465) (o := .cells #[.slice Ao136 t460.length co136, .int .i64 t463] 25 (0, 0)) (by (with_reducible repeat (first | refine blk_drewN ?_ _ | refine blk_drew ?_ | refine blk_alloc ?_ _)); refine blk_put (cs := #[.slice Ao136 t460.length co136, .int .i64 0]) ?_ 1 _ rfl; (with_reducible repeat (first | refine blk_drewN ?_ _ | refine blk_drew ?_ | refine blk_alloc ?_ _)); refine blk_put (cs := #[.slice none 0 0, .int .i64 0]) ?_ 0 _ rfl; exact zk BK465) hb); replace HB := Aside0.mk (below_step (zb HB) hb); (try clear hb); (try clear hk)))
               go_meet
               case rel => exact ⟨_, ((t464.toList != t419.toList)), zs, H', ⟨by have := HJ17.out; have := HJ82.out; first | omega | exact Nat.le_refl _⟩, ⟨by (try simp only [hl426000_82]); (with_reducible repeat (first | apply Kd.R_alloc | apply Kd.R_drewN | apply Kd.R_drew)); exact Kd.R_mono HO_421000.out (fun _ hk => ⟨hk.1.1.1.1, ⟨hk.1.1.1.2, hk.2⟩⟩)⟩, ⟨by (try simp only [hl426000_82]); (with_reducible repeat (first | apply Kd.R_alloc | apply Kd.R_drewN | apply Kd.R_drew)); exact Kd.R_mono HO_426000.out (fun _ hk => ⟨hk.1.1.1.1, ⟨hk.1.1.1.2, hk.2⟩⟩)⟩, ⟨by (try simp only [hl426000_82]); (with_reducible repeat (first | apply Kd.R_alloc | apply Kd.R_drewN | apply Kd.R_drew)); exact Kd.R_mono HO_435000.out (fun _ hk => ⟨hk.1.1.1.1, ⟨hk.1.1.1.2, hk.2⟩⟩)⟩, ⟨by (try simp only [hl426000_82]); (with_reducible repeat (first | apply Kd.R_alloc | apply Kd.R_drewN | apply Kd.R_drew)); exact Kd.R_mono HO462.out (fun _ hk => ⟨hk.1.1.1.1.2, ⟨hk.1.1.1.2, hk.1.1.2⟩⟩)⟩, ⟨by (try simp only [hl426000_82]); exact zk BK405⟩, ⟨by (try simp only [hl426000_82]); exact zk BK420⟩, ⟨by (try simp only [hl426000_82]); exact zk BK425⟩, ⟨by (try simp only [hl426000_82]); exact zk BK434⟩, ⟨by (try simp only [hl426000_82]); exact zk BK465⟩, ⟨zb HB⟩⟩
              ·replace c143 := Bool.eq_false_iff.mpr c143
               subst c143
               have H1 : (laws_FnExactHeadWrite.j2 kj82 t450 true t451 t432) = some r := by rw [if_neg (show ¬ (false = true) by decide)] at H; exact H
               clear H
               have H := H1
               clear H1
               have H' := Aside0.mk H
               clear H
               have hnb154 := NB465_405.out
               have hnc154 := NB405_465.out
               have hnb155 := NB465_420.out
               have hnc155 := NB420_465.out
               have hnb156 := NB465_425.out
               have hnc156 := NB425_465.out
               have hnb157 := NB465_434.out
               have hnc157 := NB434_465.out
               have hcz158_0 : w135.cell? ⟨gb465, 0, none⟩ = some (.slice none 0 0) := (blk_cell BK465.out 0).trans rfl
               have hcz158_1 : w135.cell? ⟨gb465, 1, none⟩ = some (.int .i64 0) := (blk_cell BK465.out 1).trans rfl
               have hfz158_0 := blk_frozen BK465.out 0
               have hfz158_1 := blk_frozen BK465.out 1
               have hnb159 := NB420_405.out
               have hnc159 := NB405_420.out
               have hnb160 := NB420_425.out
               have hnc160 := NB425_420.out
               have hnb161 := NB420_434.out
               have hnc161 := NB434_420.out
               have hcz162_0 : w135.cell? ⟨gb420, 0, none⟩ = some (.slice Ao27 t415.length co27) := (blk_cell BK420.out 0).trans rfl
               have hcz162_1 : w135.cell? ⟨gb420, 1, none⟩ = some (.int .i64 t418) := (blk_cell BK420.out 1).trans rfl
               have hfz162_0 := blk_frozen BK420.out 0
               have hfz162_1 := blk_frozen BK420.out 1
               go_wp2_with (first | ((with_reducible refine gq 26 rfl ?_); refine gl (some 104) Try.func26 #[.agg #[.slice Ao136 t460.length co136, .int .i64 t463], .agg #[.slice Ao27 t415.length co27, .int .i64 t418]] ?_; (with_reducible refine (laws_eqTable.calls kj82 _ _ t460 t463 _ _ t415 t418 false _ ?side1 ?side2 ?side3 ?side4 A142.out).mono ?_); (case side1 => refine (Kd.R_reads' (e := 36) (base := w.heap.size) (ok := fun k_ => (((((True ∧ some k_ ≠ (.slice Ao27 t415.length co27 : Value).ownBlock) ∧ some k_ ≠ (.slice Ao33 t446.length co33 : Value).ownBlock) ∧ some k_ ≠ (.slice Ao42 t429.length co42 : Value).ownBlock) ∧ some k_ ≠ (.slice Ao132 t453.length co132 : Value).ownBlock) ∧ some k_ ≠ (.slice Ao133 t457.length co133 : Value).ownBlock)) (n := t460.length) (c := co136) ?_).2.2; exact (by (with_reducible repeat (first | apply Kd.R_alloc | apply Kd.R_drewN | apply Kd.R_drew)); exact (Kd.R_mono (Kd.R_far (p := ⟨gb465, 1, none⟩) (Kd.R_far (p := ⟨gb465, 0, none⟩) (Kd.R_types HO462.out BK465.out (by decide)) (fun _ hk => hk.2) (.slice Ao136 t460.length co136)) (fun _ hk => hk.2) (.int .i64 t463)) (fun _ h_ => h_.1)))); (case side2 => exact (Kd.R_reads' HO462.out).2.1); (case side3 => refine (Kd.R_reads' (e := 36) (base := w.heap.size) (ok := fun k_ => ((((some k_ ≠ (.slice Ao33 t446.length co33 : Value).ownBlock ∧ some k_ ≠ (.slice Ao42 t429.length co42 : Value).ownBlock) ∧ some k_ ≠ (.slice Ao132 t453.length co132 : Value).ownBlock) ∧ some k_ ≠ (.slice Ao133 t457.length co133 : Value).ownBlock) ∧ some k_ ≠ (.slice Ao136 t460.length co136 : Value).ownBlock)) (n := t415.length) (c := co27) ?_).2.2; exact (by (with_reducible repeat (first | apply Kd.R_alloc | apply Kd.R_drewN | apply Kd.R_drew)); exact (Kd.R_mono (Kd.R_far (p := ⟨gb465, 1, none⟩) (Kd.R_far (p := ⟨gb465, 0, none⟩) (Kd.R_types HO_421000.out BK465.out (by decide)) (fun _ hk => hk.2) (.slice Ao136 t460.length co136)) (fun _ hk => hk.2) (.int .i64 t463)) (fun _ h_ => h_.1)))); (case side4 => exact (Kd.R_reads' HO_421000.out).2.1); rintro e w163 ⟨rfl, hb⟩; refine ⟨_, rfl, ?_⟩; replace HO_421000 := Aside0.mk (Kd.R_below (by (with_reducible repeat (first | apply Kd.R_alloc | apply Kd.R_drewN | apply Kd.R_drew)); exact (Kd.R_mono (Kd.R_far (p := ⟨gb465, 1, none⟩) (Kd.R_far (p := ⟨gb465, 0, none⟩) (Kd.R_types HO_421000.out BK465.out (by decide)) (fun _ hk => hk.2) (.slice Ao136 t460.length co136)) (fun _ hk => hk.2) (.int .i64 t463)) (fun _ h_ => h_.1))) hb); replace HO_426000 := Aside0.mk (Kd.R_below (by (with_reducible repeat (first | apply Kd.R_alloc | apply Kd.R_drewN | apply Kd.R_drew)); exact (Kd.R_mono (Kd.R_far (p := ⟨gb465, 1, none⟩) (Kd.R_far (p := ⟨gb465, 0, none⟩) (Kd.R_types HO_426000.out BK465.out (by decide)) (fun _ hk => hk.2) (.slice Ao136 t460.length co136)) (fun _ hk => hk.2) (.int .i64 t463)) (fun _ h_ => h_.1))) hb); replace HO_435000 := Aside0.mk (Kd.R_below (by (with_reducible repeat (first | apply Kd.R_alloc | apply Kd.R_drewN | apply Kd.R_drew)); exact (Kd.R_mono (Kd.R_far (p := ⟨gb465, 1, none⟩) (Kd.R_far (p := ⟨gb465, 0, none⟩) (Kd.R_types HO_435000.out BK465.out (by decide)) (fun _ hk => hk.2) (.slice Ao136 t460.length co136)) (fun _ hk => hk.2) (.int .i64 t463)) (fun _ h_ => h_.1))) hb); replace HO455 := Aside0.mk (Kd.R_below (by (with_reducible repeat (first | apply Kd.R_alloc | apply Kd.R_drewN | apply Kd.R_drew)); exact (Kd.R_mono (Kd.R_far (p := ⟨gb465, 1, none⟩) (Kd.R_far (p := ⟨gb465, 0, none⟩) (Kd.R_types HO455.out BK465.out (by decide)) (fun _ hk => hk.2) (.slice Ao136 t460.length co136)) (fun _ hk => hk.2) (.int .i64 t463)) (fun _ h_ => h_.1))) hb); replace HO459 := Aside0.mk (Kd.R_below (by (with_reducible repeat (first | apply Kd.R_alloc | apply Kd.R_drewN | apply Kd.R_drew)); exact (Kd.R_mono (Kd.R_far (p := ⟨gb465, 1, none⟩) (Kd.R_far (p := ⟨gb465, 0, none⟩) (Kd.R_types HO459.out BK465.out (by decide)) (fun _ hk => hk.2) (.slice Ao136 t460.length co136)) (fun _ hk => hk.2) (.int .i64 t463)) (fun _ h_ => h_.1))) hb); replace HO462 := Aside0.mk (Kd.R_below (by (with_reducible repeat (first | apply Kd.R_alloc | apply Kd.R_drewN | apply Kd.R_drew)); exact (Kd.R_mono (Kd.R_far (p := ⟨gb465, 1, none⟩) (Kd.R_far (p := ⟨gb465, 0, none⟩) (Kd.R_types HO462.out BK465.out (by decide)) (fun _ hk => hk.2) (.slice Ao136 t460.length co136)) (fun _ hk => hk.2) (.int .i64 t463)) (fun _ h_ => h_.1))) hb); replace BK405 := Aside0.mk (blk_below (g := gb405) (o := .cells #[.slice A0_0 l0_0.length c0_0, .int .i64 a0_1] 40 (0, 0)) (by (with_reducible repeat (first | refine blk_drewN ?_ _ | refine blk_drew ?_ | refine blk_alloc ?_ _)); refine blk_far ?_ NB405_465.out _; (with_reducible repeat (first | refine blk_drewN ?_ _ | refine blk_drew ?_ | refine blk_alloc ?_ _)); refine blk_far ?_ NB405_465.out _; exact zk BK405) hb); replace BK420 := Aside0.mk (blk_below (g := gb420) (o := .cells #[.slice Ao27 t415.length co27, .int .i64 t418] 25 (0, 0)) (by (with_reducible repeat (first | refine blk_drewN ?_ _ | refine blk_drew ?_ | refine blk_alloc ?_ _)); refine blk_far ?_ NB420_465.out _; (with_reducible repeat (first | refine blk_drewN ?_ _ | refine blk_drew ?_ | refine blk_alloc ?_ _)); refine blk_far ?_ NB420_465.out _; exact zk BK420) hb); replace BK425 := Aside0.mk (blk_below (g := gb425) (o := .cells #[.slice Ao33 t446.length co33, .int .i64 t424] 25 (0, 0)) (by (with_reducible repeat (first | refine blk_drewN ?_ _ | refine blk_drew ?_ | refine blk_alloc ?_ _)); refine blk_far ?_ NB425_465.out _; (with_reducible repeat (first | refine blk_drewN ?_ _ | refine blk_drew ?_ | refine blk_alloc ?_ _)); refine blk_far ?_ NB425_465.out _; exact zk BK425) hb); replace BK434 := Aside0.mk (blk_below (g := gb434) (o := .cells #[.slice Ao42 t429.length co42, .int .i64 t432] 25 (0, 0)) (by (with_reducible repeat (first | refine blk_drewN ?_ _ | refine blk_drew ?_ | refine blk_alloc ?_ _)); refine blk_far ?_ NB434_465.out _; (with_reducible repeat (first | refine blk_drewN ?_ _ | refine blk_drew ?_ | refine blk_alloc ?_ _)); refine blk_far ?_ NB434_465.out _; exact zk BK434) hb); replace BK465 := Aside0.mk (blk_below (g := gb465) (o := .cells #[.slice Ao136 t460.length co136, .int .i64 t463] 25 (0, 0)) (by (with_reducible repeat (first | refine blk_drewN ?_ _ | refine blk_drew ?_ | refine blk_alloc ?_ _)); refine blk_put (cs := #[.slice Ao136 t460.length co136, .int .i64 0]) ?_ 1 _ rfl; (with_reducible repeat (first | refine blk_drewN ?_ _ | refine blk_drew ?_ | refine blk_alloc ?_ _)); refine blk_put (cs := #[.slice none 0 0, .int .i64 0]) ?_ 0 _ rfl; exact zk BK465) hb); replace HB := Aside0.mk (below_step (zb HB) hb); (try clear hb); (try clear hk)))
               go_meet
               case rel => exact ⟨_, (true), zs, H', ⟨by have := HJ17.out; have := HJ82.out; first | omega | exact Nat.le_refl _⟩, ⟨by (try simp only [hl426000_82]); (with_reducible repeat (first | apply Kd.R_alloc | apply Kd.R_drewN | apply Kd.R_drew)); exact Kd.R_mono HO_421000.out (fun _ hk => ⟨hk.1.1.1.1, ⟨hk.1.1.1.2, hk.2⟩⟩)⟩, ⟨by (try simp only [hl426000_82]); (with_reducible repeat (first | apply Kd.R_alloc | apply Kd.R_drewN | apply Kd.R_drew)); exact Kd.R_mono HO_426000.out (fun _ hk => ⟨hk.1.1.1.1, ⟨hk.1.1.1.2, hk.2⟩⟩)⟩, ⟨by (try simp only [hl426000_82]); (with_reducible repeat (first | apply Kd.R_alloc | apply Kd.R_drewN | apply Kd.R_drew)); exact Kd.R_mono HO_435000.out (fun _ hk => ⟨hk.1.1.1.1, ⟨hk.1.1.1.2, hk.2⟩⟩)⟩, ⟨by (try simp only [hl426000_82]); (with_reducible repeat (first | apply Kd.R_alloc | apply Kd.R_drewN | apply Kd.R_drew)); exact Kd.R_mono HO462.out (fun _ hk => ⟨hk.1.1.1.1.2, ⟨hk.1.1.1.2, hk.1.1.2⟩⟩)⟩, ⟨by (try simp only [hl426000_82]); exact zk BK405⟩, ⟨by (try simp only [hl426000_82]); exact zk BK420⟩, ⟨by (try simp only [hl426000_82]); exact zk BK425⟩, ⟨by (try simp only [hl426000_82]); exact zk BK434⟩, ⟨by (try simp only [hl426000_82]); exact zk BK465⟩, ⟨zb HB⟩⟩
             case rest =>
              clear HC125
              try clear c1
              try clear c2
              try clear p2
              try clear c3
              try clear c4
              try clear c5
              try clear c6
              try clear c7
              try clear c8
              try clear c8b0
              try clear c8b1
              try clear c9
              try clear c10
              try clear c10b0
              try clear c11
              try clear c12
              try clear c13
              try clear c14
              try clear c15
              try clear c16
              try clear c24
              try clear c25
              try clear c26
              try clear c27
              try clear c28
              try clear c34
              try clear c35
              try clear c38
              try clear c39
              try clear c41
              try clear c42
              try clear c43
              try clear c44
              try clear c45
              try clear c48
              try clear c49
              try clear c50
              try clear c51
              try clear c53
              try clear c54
              try clear c57
              try clear c58
              try clear c59
              try clear c61
              try clear c62
              try clear c65
              try clear c73
              try clear c80
              try clear c84
              try clear c85
              try clear c86
              try clear c90
              try clear c90b0
              try clear c90b1
              try clear c92
              try clear c93
              try clear c94
              try clear c95
              try clear c97
              try clear c98
              try clear c101
              try clear c102
              try clear c103
              try clear c105
              try clear c106
              try clear c109
              try clear c113
              try clear c114
              try clear c115
              try clear c120
              try clear c120b0
              try clear c120b1
              try clear c121
              try clear c121b0
              try clear c121b1
              try clear c126
              try clear c127
              try clear c128
              try clear c137
              try clear c138
              try clear c139
              try clear c140
              try clear c143
              try clear c144
              try clear c145
              try clear c146
              try clear c147
              try clear c149
              try clear c150
              try clear c151
              try clear c154
              try clear c155
              try clear c156
              try clear c157
              try clear c159
              try clear c160
              try clear c161
              try clear hcz104_0
              try clear hcz104_1
              try clear hcz107_0
              try clear hcz107_1
              try clear hcz116_0
              try clear hcz116_1
              try clear hcz118_0
              try clear hcz118_1
              try clear hcz129_0
              try clear hcz129_1
              try clear hcz141_0
              try clear hcz141_1
              try clear hcz148_0
              try clear hcz148_1
              try clear hcz152_0
              try clear hcz152_1
              try clear hcz158_0
              try clear hcz158_1
              try clear hcz162_0
              try clear hcz162_1
              try clear hcz20_0
              try clear hcz20_1
              try clear hcz29_0
              try clear hcz29_1
              try clear hcz30_0
              try clear hcz30_1
              try clear hcz36_0
              try clear hcz36_1
              try clear hcz38_0
              try clear hcz38_1
              try clear hcz46_0
              try clear hcz46_1
              try clear hcz52_0
              try clear hcz52_1
              try clear hcz55_0
              try clear hcz55_1
              try clear hcz60_0
              try clear hcz60_1
              try clear hcz63_0
              try clear hcz63_1
              try clear hcz6_0
              try clear hcz6_1
              try clear hcz87_0
              try clear hcz87_1
              try clear hcz96_0
              try clear hcz96_1
              try clear hcz99_0
              try clear hcz99_1
              try clear hfz104_0
              try clear hfz104_1
              try clear hfz107_0
              try clear hfz107_1
              try clear hfz116_0
              try clear hfz116_1
              try clear hfz118_0
              try clear hfz118_1
              try clear hfz129_0
              try clear hfz129_1
              try clear hfz141_0
              try clear hfz141_1
              try clear hfz148_0
              try clear hfz148_1
              try clear hfz152_0
              try clear hfz152_1
              try clear hfz158_0
              try clear hfz158_1
              try clear hfz162_0
              try clear hfz162_1
              try clear hfz20_0
              try clear hfz20_1
              try clear hfz29_0
              try clear hfz29_1
              try clear hfz30_0
              try clear hfz30_1
              try clear hfz36_0
              try clear hfz36_1
              try clear hfz38_0
              try clear hfz38_1
              try clear hfz46_0
              try clear hfz46_1
              try clear hfz52_0
              try clear hfz52_1
              try clear hfz55_0
              try clear hfz55_1
              try clear hfz60_0
              try clear hfz60_1
              try clear hfz63_0
              try clear hfz63_1
              try clear hfz6_0
              try clear hfz6_1
              try clear hfz87_0
              try clear hfz87_1
              try clear hfz96_0
              try clear hfz96_1
              try clear hfz99_0
              try clear hfz99_1
              try clear p2
              obtain ⟨kq, x110_124, rfl, HA, HJ124, HO_421000, HO_426000, HO_435000, HO_466000, BK405, BK420, BK425, BK434, BK465, HB⟩ := hcut
              have hl435000_124 := (Kd.R_reads' HO_435000.out).1
              rw [hl435000_124] at HO_435000
              (try simp only [hl435000_124])
              (try simp only [hl435000_124] at BK405)
              (try simp only [hl435000_124] at BK420)
              (try simp only [hl435000_124] at BK425)
              (try simp only [hl435000_124] at BK434)
              (try simp only [hl435000_124] at BK465)
              (try simp only [hl435000_124] at HO_421000)
              (try simp only [hl435000_124] at HO_426000)
              (try simp only [hl435000_124] at HO_466000)
              cases kq with
              | zero => exact absurd HA.out (by simp [laws_FnExactHeadWrite.j2])
              | succ kj124 =>
               have H := HA.out
               clear HA
               simp only [laws_FnExactHeadWrite.j2] at H
               by_cases c164 : x110_124 = true
               ·subst c164
                have H1 : (some false) = some r := by rw [if_pos rfl] at H; exact H
                clear H
                have H := H1
                clear H1
                obtain rfl := Option.some.inj H
                go_wp2
                go_ret
                exact ⟨ze, zb HB⟩
               ·replace c164 := Bool.eq_false_iff.mpr c164
                subst c164
                have H1 : ((laws_heldTable.f kj124 t451 t432 1).bind fun t467 => (if t467 < 0 then (some false) else (if t467 = t450 then (some true) else (some false)))) = some r := by rw [if_neg (show ¬ (false = true) by decide)] at H; exact H
                clear H
                have H := H1
                clear H1
                replace H := Option.bind_eq_some_iff.mp H
                obtain ⟨t467, A1650, H⟩ := H
                replace H : (if t467 < 0 then (some false) else (if t467 = t450 then (some true) else (some false))) = some r := H
                have A165 := Aside0.mk A1650
                clear A1650
                by_cases c166 : t467 < 0
                ·rw [if_pos c166] at H
                 have c166b0 : decide (t467 < 0) = true := decide_eq_true c166
                 clear c166
                 obtain rfl := Option.some.inj H
                 have hnb167 := NB434_405.out
                 have hnc167 := NB405_434.out
                 have hnb168 := NB434_420.out
                 have hnc168 := NB420_434.out
                 have hnb169 := NB434_425.out
                 have hnc169 := NB425_434.out
                 have hnb170 := NB434_465.out
                 have hnc170 := NB465_434.out
                 have hcz171_0 : wc.cell? ⟨gb434, 0, none⟩ = some (.slice Ao42 t451.length co42) := (blk_cell BK434.out 0).trans rfl
                 have hcz171_1 : wc.cell? ⟨gb434, 1, none⟩ = some (.int .i64 t432) := (blk_cell BK434.out 1).trans rfl
                 have hfz171_0 := blk_frozen BK434.out 0
                 have hfz171_1 := blk_frozen BK434.out 1
                 go_wp2_with (first | ((with_reducible refine gq 28 rfl ?_); refine gl (some 113) Try.func28 #[.agg #[.slice Ao42 t451.length co42, .int .i64 t432], .int .i64 1] ?_; (with_reducible refine (laws_heldTable.calls kj124 _ _ t451 t432 1 t467 _ ?side1 ?side2 A165.out).mono ?_); (case side1 => exact zc (Kd.R_reads' HO_435000.out).2.2); (case side2 => exact (Kd.R_reads' HO_435000.out).2.1); rintro e w172 ⟨rfl, hb⟩; refine ⟨_, rfl, ?_⟩; replace HO_421000 := Aside0.mk (Kd.R_below (zr HO_421000) hb); replace HO_426000 := Aside0.mk (Kd.R_below (zr HO_426000) hb); replace HO_435000 := Aside0.mk (Kd.R_below (zr HO_435000) hb); replace HO_466000 := Aside0.mk (Kd.R_below (zr HO_466000) hb); replace BK405 := Aside0.mk (blk_below (g := gb405) (o := .cells #[.slice A0_0 l0_0.length c0_0, .int .i64 a0_1] 40 (0, 0)) (zk BK405) hb); replace BK420 := Aside0.mk (blk_below (g := gb420) (o := .cells #[.slice Ao27 t415.length co27, .int .i64 t418] 25 (0, 0)) (zk BK420) hb); replace BK425 := Aside0.mk (blk_below (g := gb425) (o := .cells #[.slice Ao33 t446.length co33, .int .i64 t424] 25 (0, 0)) (zk BK425) hb); replace BK434 := Aside0.mk (blk_below (g := gb434) (o := .cells #[.slice Ao42 t451.length co42, .int .i64 t432] 25 (0, 0)) (zk BK434) hb); replace BK465 := Aside0.mk (blk_below (g := gb465) (o := .cells #[.slice Ao136 t460.length co136, .int .i64 t463] 25 (0, 0)) (zk BK465) hb); replace HB := Aside0.mk (below_step (zb HB) hb); (try clear hb)))
                 go_ret
                 exact ⟨ze, zb HB⟩
                ·rw [if_neg c166] at H
                 have c166b0 : decide (t467 < 0) = false := decide_eq_false c166
                 clear c166
                 by_cases c173 : t467 = t450
                 ·rw [if_pos c173] at H
                  have c173b0 : (t467 == t450) = true := beq_iff_eq.mpr c173
                  have c173b1 : (t467 != t450) = false := bne_eq_false_iff_eq.mpr c173
                  clear c173
                  obtain rfl := Option.some.inj H
                  have hnb174 := NB434_405.out
                  have hnc174 := NB405_434.out
                  have hnb175 := NB434_420.out
                  have hnc175 := NB420_434.out
                  have hnb176 := NB434_425.out
                  have hnc176 := NB425_434.out
                  have hnb177 := NB434_465.out
                  have hnc177 := NB465_434.out
                  have hcz178_0 : wc.cell? ⟨gb434, 0, none⟩ = some (.slice Ao42 t451.length co42) := (blk_cell BK434.out 0).trans rfl
                  have hcz178_1 : wc.cell? ⟨gb434, 1, none⟩ = some (.int .i64 t432) := (blk_cell BK434.out 1).trans rfl
                  have hfz178_0 := blk_frozen BK434.out 0
                  have hfz178_1 := blk_frozen BK434.out 1
                  go_wp2_with (first | ((with_reducible refine gq 28 rfl ?_); refine gl (some 113) Try.func28 #[.agg #[.slice Ao42 t451.length co42, .int .i64 t432], .int .i64 1] ?_; (with_reducible refine (laws_heldTable.calls kj124 _ _ t451 t432 1 t467 _ ?side1 ?side2 A165.out).mono ?_); (case side1 => exact zc (Kd.R_reads' HO_435000.out).2.2); (case side2 => exact (Kd.R_reads' HO_435000.out).2.1); rintro e w179 ⟨rfl, hb⟩; refine ⟨_, rfl, ?_⟩; replace HO_421000 := Aside0.mk (Kd.R_below (zr HO_421000) hb); replace HO_426000 := Aside0.mk (Kd.R_below (zr HO_426000) hb); replace HO_435000 := Aside0.mk (Kd.R_below (zr HO_435000) hb); replace HO_466000 := Aside0.mk (Kd.R_below (zr HO_466000) hb); replace BK405 := Aside0.mk (blk_below (g := gb405) (o := .cells #[.slice A0_0 l0_0.length c0_0, .int .i64 a0_1] 40 (0, 0)) (zk BK405) hb); replace BK420 := Aside0.mk (blk_below (g := gb420) (o := .cells #[.slice Ao27 t415.length co27, .int .i64 t418] 25 (0, 0)) (zk BK420) hb); replace BK425 := Aside0.mk (blk_below (g := gb425) (o := .cells #[.slice Ao33 t446.length co33, .int .i64 t424] 25 (0, 0)) (zk BK425) hb); replace BK434 := Aside0.mk (blk_below (g := gb434) (o := .cells #[.slice Ao42 t451.length co42, .int .i64 t432] 25 (0, 0)) (zk BK434) hb); replace BK465 := Aside0.mk (blk_below (g := gb465) (o := .cells #[.slice Ao136 t460.length co136, .int .i64 t463] 25 (0, 0)) (zk BK465) hb); replace HB := Aside0.mk (below_step (zb HB) hb); (try clear hb)))
                  go_ret
                  exact ⟨ze, zb HB⟩
                 ·rw [if_neg c173] at H
                  have c173b0 : (t467 == t450) = false := beq_eq_false_iff_ne.mpr c173
                  have c173b1 : (t467 != t450) = true := bne_iff_ne.mpr c173
                  obtain rfl := Option.some.inj H
                  have hnb180 := NB434_405.out
                  have hnc180 := NB405_434.out
                  have hnb181 := NB434_420.out
                  have hnc181 := NB420_434.out
                  have hnb182 := NB434_425.out
                  have hnc182 := NB425_434.out
                  have hnb183 := NB434_465.out
                  have hnc183 := NB465_434.out
                  have hcz184_0 : wc.cell? ⟨gb434, 0, none⟩ = some (.slice Ao42 t451.length co42) := (blk_cell BK434.out 0).trans rfl
                  have hcz184_1 : wc.cell? ⟨gb434, 1, none⟩ = some (.int .i64 t432) := (blk_cell BK434.out 1).trans rfl
                  have hfz184_0 := blk_frozen BK434.out 0
                  have hfz184_1 := blk_frozen BK434.out 1
                  go_wp2_with (first | ((with_reducible refine gq 28 rfl ?_); refine gl (some 113) Try.func28 #[.agg #[.slice Ao42 t451.length co42, .int .i64 t432], .int .i64 1] ?_; (with_reducible refine (laws_heldTable.calls kj124 _ _ t451 t432 1 t467 _ ?side1 ?side2 A165.out).mono ?_); (case side1 => exact zc (Kd.R_reads' HO_435000.out).2.2); (case side2 => exact (Kd.R_reads' HO_435000.out).2.1); rintro e w185 ⟨rfl, hb⟩; refine ⟨_, rfl, ?_⟩; replace HO_421000 := Aside0.mk (Kd.R_below (zr HO_421000) hb); replace HO_426000 := Aside0.mk (Kd.R_below (zr HO_426000) hb); replace HO_435000 := Aside0.mk (Kd.R_below (zr HO_435000) hb); replace HO_466000 := Aside0.mk (Kd.R_below (zr HO_466000) hb); replace BK405 := Aside0.mk (blk_below (g := gb405) (o := .cells #[.slice A0_0 l0_0.length c0_0, .int .i64 a0_1] 40 (0, 0)) (zk BK405) hb); replace BK420 := Aside0.mk (blk_below (g := gb420) (o := .cells #[.slice Ao27 t415.length co27, .int .i64 t418] 25 (0, 0)) (zk BK420) hb); replace BK425 := Aside0.mk (blk_below (g := gb425) (o := .cells #[.slice Ao33 t446.length co33, .int .i64 t424] 25 (0, 0)) (zk BK425) hb); replace BK434 := Aside0.mk (blk_below (g := gb434) (o := .cells #[.slice Ao42 t451.length co42, .int .i64 t432] 25 (0, 0)) (zk BK434) hb); replace BK465 := Aside0.mk (blk_below (g := gb465) (o := .cells #[.slice Ao136 t460.length co136, .int .i64 t463] 25 (0, 0)) (zk BK465) hb); replace HB := Aside0.mk (below_step (zb HB) hb); (try clear hb)))
                  go_ret
                  exact ⟨ze, zb HB⟩
            ·rw [if_neg c121] at H
             have c121b0 : (t452 == t450) = false := beq_eq_false_iff_ne.mpr c121
             have c121b1 : (t452 != t450) = true := bne_iff_ne.mpr c121
             obtain rfl := Option.some.inj H
             go_wp2
             go_ret
             exact ⟨ze, zb HB⟩
       ·replace c80 := Bool.eq_false_iff.mpr c80
        subst c80
        have H1 : (some false) = some r := by rw [if_neg (show ¬ (false = true) by decide)] at H; exact H
        clear H
        have H := H1
        clear H1
        obtain rfl := Option.some.inj H
        go_wp2
        go_ret
        exact ⟨ze, zb HB⟩
      ·replace c73 := Bool.eq_false_iff.mpr c73
       subst c73
       have H1 : (some false) = some r := by rw [if_neg (show ¬ (false = true) by decide)] at H; exact H
       clear H
       have H := H1
       clear H1
       obtain rfl := Option.some.inj H
       go_wp2
       go_ret
       exact ⟨ze, zb HB⟩

end Go.Proofs.Ytdhahifdcoinhaa.PFnExactHeadWrite
