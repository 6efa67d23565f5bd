-- WRITTEN BY a turned print (wip/tools of the prover's repo)
import Derived.Test.YtdhahifdcoinhaaPFnExactTableAddx0
import Derived.Test.YtdhahifdcoinhaaPFnExactTableAddx1
import Derived.Test.YtdhahifdcoinhaaPFnExactTableAddx2
import Derived.Test.YtdhahifdcoinhaaPFnExactTableAddx4
import Derived.Test.YtdhahifdcoinhaaPFnExactTableAddx5
namespace Go.Proofs.Ytdhahifdcoinhaa.PFnExactTableAdd
open Go.RowKit Go.Proofs.YtdhahifdcoinhaaW.PrintWords Go.Proofs.YtdhahifdcoinhaaW.PrintLast Go.Proofs.YtdhahifdcoinhaaW.PrintMore Go.Proofs.Ytdhahifdcoinhaa.Lm
attribute [local go_sem] max2_int min2_int max_two min_two max_three min_three max_four min_four   -- for this text's walks alone
set_option linter.unusedVariables false
set_option linter.unusedSimpArgs false

/-! ### laws_FnExactTableAdd: function 10 -/
-- thin
def laws_FnExactTableAdd.j0 : Nat → Bool → List (S53) → Int → ByteArray → ByteArray → Bool → List (S36) → Int → List (S36) → Int → Option (Bool)
 | 0, _, _, _, _, _, _, _, _, _, _ => none
 | k + 1, x53, x257000, x257001, x258000, x258001, x258002, x272000, x272001, x285000, x285001 => if x53 = true then (some false) else ((laws_markTable.f k x285000 x285001 1).bind fun bt294 => ((laws_heldTable.f k bt294.2 x285001 1).bind fun t296 => (if t296 < 0 then (some false) else (if t296 = bt294.1 then ((laws_toTable.f k x257000 x257001).bind fun bt297 => ((laws_toField.f x258000 x258001 x258002).bind fun bt301 => ((impl_TableAdd.f k bt297.1 bt297.2 bt301.1 bt301.2.1 bt301.2.2).bind fun bt304 => ((laws_eqTable.f k bt304.1 bt304.2 x272000 x272001).bind fun t309 => (if t309 = true then ((laws_heldTable.f k bt294.2 x285001 1).bind fun t310 => (if t310 < 0 then (some false) else (if t310 = bt294.1 then (some true) else (some false)))) else (some false)))))) else (some false)))))
def laws_FnExactTableAdd.f (k : Nat) (l0_0 : List (S53)) (a0_1 : Int) (a1_0 : ByteArray) (a1_1 : ByteArray) (a1_2 : Bool) : Option (Bool) := (laws_szTable.f k l0_0 a0_1 1048576).bind fun t258 => (if t258 < 0 then (some true) else ((laws_szField.f a1_0 a1_1 a1_2 t258).bind fun t259 => (if t259 < 0 then (some true) else ((laws_toTable.f k l0_0 a0_1).bind fun bt260 => ((laws_toField.f a1_0 a1_1 a1_2).bind fun bt264 => ((spec_TableAdd.f k bt260.1 bt260.2 bt264.1 bt264.2.1 bt264.2.2).bind fun bt267 => ((laws_toTable.f k l0_0 a0_1).bind fun bt272 => ((laws_toField.f a1_0 a1_1 a1_2).bind fun bt277 => ((impl_TableAdd.f k bt272.1 bt272.2 bt277.1 bt277.2.1 bt277.2.2).bind fun bt280 => ((laws_eqTable.f k bt280.1 bt280.2 bt267.1 bt267.2).bind fun t285 => (if t285 = true then ((laws_toTable.f k l0_0 a0_1).bind fun bt286 => ((laws_eqTable.f k bt272.1 bt272.2 bt286.1 bt286.2).bind fun t290 => (if t290 = true then ((laws_markTable.f k bt272.1 bt272.2 1).bind fun bt291 => (if bt291.1 < 0 then (laws_FnExactTableAdd.j0 k true l0_0 a0_1 a1_0 a1_1 a1_2 bt267.1 bt267.2 bt280.1 bt280.2) else ((laws_eqTable.f k bt280.1 bt280.2 bt267.1 bt267.2).bind fun t293 => (laws_FnExactTableAdd.j0 k (!t293) l0_0 a0_1 a1_0 a1_1 a1_2 bt267.1 bt267.2 bt280.1 bt280.2)))) else (some false)))) else (some false))))))))))))
theorem laws_FnExactTableAdd.mono_l : ∀ k, (∀ y0 y1 y2 y3 y4 y5 y6 y7 y8 y9, LeO (laws_FnExactTableAdd.j0 k y0 y1 y2 y3 y4 y5 y6 y7 y8 y9) (laws_FnExactTableAdd.j0 (k + 1) y0 y1 y2 y3 y4 y5 y6 y7 y8 y9))
 | 0 => fun _ _ _ _ _ _ _ _ _ _ r h => by simp [laws_FnExactTableAdd.j0] at h
 | k + 1 => by
  have ih0 := laws_FnExactTableAdd.mono_l k
  ·intro y0 y1 y2 y3 y4 y5 y6 y7 y8 y9
   unfold laws_FnExactTableAdd.j0
   repeat' first
   | (with_reducible exact ih0 _ _ _ _ _ _ _ _ _ _)
   | (with_reducible exact impl_TableAdd.mono _ _ _ _ _ _)
   | (with_reducible exact laws_eqTable.mono _ _ _ _ _)
   | (with_reducible exact laws_heldTable.mono _ _ _ _)
   | (with_reducible exact laws_markTable.mono _ _ _ _)
   | (with_reducible exact laws_szTable.mono _ _ _ _)
   | (with_reducible exact laws_toTable.mono _ _ _)
   | (with_reducible exact spec_TableAdd.mono _ _ _ _ _ _)
   | (with_reducible exact LeO.refl _)
   | (with_reducible exact LeO.none _)
   | (with_reducible refine LeO.ite ?_ ?_)
   | (with_reducible refine LeO.bind ?_ (fun _ => ?_))
   | exact ih0 _ _ _ _ _ _ _ _ _ _
   | exact impl_TableAdd.mono _ _ _ _ _ _
   | exact laws_eqTable.mono _ _ _ _ _
   | exact laws_heldTable.mono _ _ _ _
   | exact laws_markTable.mono _ _ _ _
   | exact laws_szTable.mono _ _ _ _
   | exact laws_toTable.mono _ _ _
   | exact spec_TableAdd.mono _ _ _ _ _ _
   | exact LeO.none _
   | refine LeO.ite ?_ ?_
   | refine LeO.bind ?_ (fun _ => ?_)
theorem laws_FnExactTableAdd.mono : ∀ a0 a1 a2 a3 a4 k, LeO (laws_FnExactTableAdd.f k a0 a1 a2 a3 a4) (laws_FnExactTableAdd.f (k + 1) a0 a1 a2 a3 a4) := by
 intro a0 a1 a2 a3 a4 k
 have ih0 := laws_FnExactTableAdd.mono_l k
 unfold laws_FnExactTableAdd.f
 repeat' first
   | (with_reducible exact ih0 _ _ _ _ _ _ _ _ _ _)
   | (with_reducible exact impl_TableAdd.mono _ _ _ _ _ _)
   | (with_reducible exact laws_eqTable.mono _ _ _ _ _)
   | (with_reducible exact laws_heldTable.mono _ _ _ _)
   | (with_reducible exact laws_markTable.mono _ _ _ _)
   | (with_reducible exact laws_szTable.mono _ _ _ _)
   | (with_reducible exact laws_toTable.mono _ _ _)
   | (with_reducible exact spec_TableAdd.mono _ _ _ _ _ _)
   | (with_reducible exact LeO.refl _)
   | (with_reducible exact LeO.none _)
   | (with_reducible refine LeO.ite ?_ ?_)
   | (with_reducible refine LeO.bind ?_ (fun _ => ?_))
   | exact ih0 _ _ _ _ _ _ _ _ _ _
   | exact impl_TableAdd.mono _ _ _ _ _ _
   | exact laws_eqTable.mono _ _ _ _ _
   | exact laws_heldTable.mono _ _ _ _
   | exact laws_markTable.mono _ _ _ _
   | exact laws_szTable.mono _ _ _ _
   | exact laws_toTable.mono _ _ _
   | exact spec_TableAdd.mono _ _ _ _ _ _
   | exact LeO.none _
   | refine LeO.ite ?_ ?_
   | refine LeO.bind ?_ (fun _ => ?_)
set_option maxHeartbeats 8000000 in
set_option maxRecDepth 100000 in
theorem laws_FnExactTableAdd.calls (k : Nat) (A0_0 : Option Addr) (c0_0 : Nat) (l0_0 : List (S53)) (a0_1 : Int) (a1_0 : ByteArray) (a1_1 : ByteArray) (a1_2 : Bool) (r : Bool) (w : World) (hr0_0 : Kd.C k53 w A0_0 l0_0.length l0_0) (hc0_0 : l0_0.length ≤ c0_0) (h : laws_FnExactTableAdd.f k l0_0 a0_1 a1_0 a1_1 a1_2 = some r) :
  Calls Try.prog 10 #[.agg #[.slice A0_0 l0_0.length c0_0, .int .i64 a0_1], .agg #[.string a1_0, .string a1_1, .bool a1_2]] w fun e w' => e = .returned (.bool r) ∧ Below w.heap.size w w' := by
 have hu40 := Try.underlying40
 have hu53 := Try.underlying53
 have hu25 := Try.underlying25
 have HR0_0 := Aside0.mk hr0_0
 have HC0_0 := Aside0.mk hc0_0
 clear hr0_0 hc0_0
 have HB := Aside0.mk (Below.refl w.heap.size w)
 have H : ((laws_szTable.f k l0_0 a0_1 1048576).bind fun t258 => (if t258 < 0 then (some true) else ((laws_szField.f a1_0 a1_1 a1_2 t258).bind fun t259 => (if t259 < 0 then (some true) else ((laws_toTable.f k l0_0 a0_1).bind fun bt260 => ((laws_toField.f a1_0 a1_1 a1_2).bind fun bt264 => ((spec_TableAdd.f k bt260.1 bt260.2 bt264.1 bt264.2.1 bt264.2.2).bind fun bt267 => ((laws_toTable.f k l0_0 a0_1).bind fun bt272 => ((laws_toField.f a1_0 a1_1 a1_2).bind fun bt277 => ((impl_TableAdd.f k bt272.1 bt272.2 bt277.1 bt277.2.1 bt277.2.2).bind fun bt280 => ((laws_eqTable.f k bt280.1 bt280.2 bt267.1 bt267.2).bind fun t285 => (if t285 = true then ((laws_toTable.f k l0_0 a0_1).bind fun bt286 => ((laws_eqTable.f k bt272.1 bt272.2 bt286.1 bt286.2).bind fun t290 => (if t290 = true then ((laws_markTable.f k bt272.1 bt272.2 1).bind fun bt291 => (if bt291.1 < 0 then (laws_FnExactTableAdd.j0 k true l0_0 a0_1 a1_0 a1_1 a1_2 bt267.1 bt267.2 bt280.1 bt280.2) else ((laws_eqTable.f k bt280.1 bt280.2 bt267.1 bt267.2).bind fun t293 => (laws_FnExactTableAdd.j0 k (!t293) l0_0 a0_1 a1_0 a1_1 a1_2 bt267.1 bt267.2 bt280.1 bt280.2)))) else (some false)))) else (some false))))))))))))) = some r := h
 clear h
 replace H := Option.bind_eq_some_iff.mp H
 obtain ⟨t258, A30, H⟩ := H
 replace H : (if t258 < 0 then (some true) else ((laws_szField.f a1_0 a1_1 a1_2 t258).bind fun t259 => (if t259 < 0 then (some true) else ((laws_toTable.f k l0_0 a0_1).bind fun bt260 => ((laws_toField.f a1_0 a1_1 a1_2).bind fun bt264 => ((spec_TableAdd.f k bt260.1 bt260.2 bt264.1 bt264.2.1 bt264.2.2).bind fun bt267 => ((laws_toTable.f k l0_0 a0_1).bind fun bt272 => ((laws_toField.f a1_0 a1_1 a1_2).bind fun bt277 => ((impl_TableAdd.f k bt272.1 bt272.2 bt277.1 bt277.2.1 bt277.2.2).bind fun bt280 => ((laws_eqTable.f k bt280.1 bt280.2 bt267.1 bt267.2).bind fun t285 => (if t285 = true then ((laws_toTable.f k l0_0 a0_1).bind fun bt286 => ((laws_eqTable.f k bt272.1 bt272.2 bt286.1 bt286.2).bind fun t290 => (if t290 = true then ((laws_markTable.f k bt272.1 bt272.2 1).bind fun bt291 => (if bt291.1 < 0 then (laws_FnExactTableAdd.j0 k true l0_0 a0_1 a1_0 a1_1 a1_2 bt267.1 bt267.2 bt280.1 bt280.2) else ((laws_eqTable.f k bt280.1 bt280.2 bt267.1 bt267.2).bind fun t293 => (laws_FnExactTableAdd.j0 k (!t293) l0_0 a0_1 a1_0 a1_1 a1_2 bt267.1 bt267.2 bt280.1 bt280.2)))) else (some false)))) else (some false)))))))))))) = some r := H
 have A3 := Aside0.mk A30
 clear A30
 have HC4 := Aside0.mk H
 clear H
 go_enter Try.func10, Try.ntmps10
 go_upto_if 17 with (first | ((with_reducible refine gd 2 rfl ?_); refine bx (N := 2) (cs := #[.slice A0_0 l0_0.length c0_0, .int .i64 a0_1]) (t := 40) ?_; intro gb256 hg w5 hbox hb; have BK256 := Aside0.mk (hbox); have GW256 := Aside0.mk ((by rw [hg]; exact (below_size (zb HB)) : w.heap.size ≤ gb256)); have GE256 := Aside0.mk ((by rw [hg]; exact (below_size (zb HB)) : w.heap.size ≤ gb256)); replace HB := Aside0.mk (below_step (zb HB) hb); clear hb hbox hg) | ((with_reducible refine gd 3 rfl ?_); refine bx (N := 3) (cs := #[.string a1_0, .string a1_1, .bool a1_2]) (t := 53) ?_; intro gb257 hg w6 hbox hb; have BK257 := Aside0.mk (hbox); have GW257 := Aside0.mk ((by rw [hg]; exact (below_size (zb HB)) : w.heap.size ≤ gb257)); have GE257 := Aside0.mk ((by rw [hg]; exact (below_size (zb HB)) : w.heap.size ≤ gb257)); replace HB := Aside0.mk (below_step (zb HB) hb); have NB256_257 := Aside0.mk ((by rw [hg]; exact Nat.ne_of_lt (blk_lt (g := gb256) (o := .cells #[.slice A0_0 l0_0.length c0_0, .int .i64 a0_1] 40 (0, 0)) (zk BK256)) : gb256 ≠ gb257)); have NB257_256 := Aside0.mk ((by rw [hg]; exact Nat.ne_of_gt (blk_lt (g := gb256) (o := .cells #[.slice A0_0 l0_0.length c0_0, .int .i64 a0_1] 40 (0, 0)) (zk BK256)) : gb257 ≠ gb256)); replace BK256 := Aside0.mk (blk_below (g := gb256) (o := .cells #[.slice A0_0 l0_0.length c0_0, .int .i64 a0_1] 40 (0, 0)) (zk BK256) hb); clear hb hbox hg; have hnb7 := NB256_257.out; have hnc7 := NB257_256.out; have hcz8_0 : w6.cell? ⟨gb256, 0, none⟩ = some (.slice A0_0 l0_0.length c0_0) := (blk_cell BK256.out 0).trans rfl; have hcz8_1 : w6.cell? ⟨gb256, 1, none⟩ = some (.int .i64 a0_1) := (blk_cell BK256.out 1).trans rfl; have hfz8_0 := blk_frozen BK256.out 0; have hfz8_1 := blk_frozen BK256.out 1) | ((with_reducible refine gq 24 rfl ?_); refine gl (some 15) Try.func24 #[.agg #[.slice A0_0 l0_0.length c0_0, .int .i64 a0_1], .int .i64 1048576] ?_; (with_reducible refine (laws_szTable.calls k _ _ l0_0 a0_1 1048576 t258 _ ?side1 ?side2 A3.out).mono ?_); (case side1 => exact zc (Kd.C_below HR0_0.out HB.out)); (case side2 => exact HC0_0.out); rintro e w9 ⟨rfl, hb⟩; refine ⟨_, rfl, ?_⟩; replace BK256 := Aside0.mk (blk_below (g := gb256) (o := .cells #[.slice A0_0 l0_0.length c0_0, .int .i64 a0_1] 40 (0, 0)) (zk BK256) hb); replace BK257 := Aside0.mk (blk_below (g := gb257) (o := .cells #[.string a1_0, .string a1_1, .bool a1_2] 53 (0, 0)) (zk BK257) hb); replace HB := Aside0.mk (below_step (zb HB) hb); (try clear hb)))
 (try simp only [Act.put, s1, s2, s3])
 have H := HC4.out
 clear HC4
 by_cases c10 : t258 < 0
 ·rw [if_pos c10] at H
  have c10b0 : decide (t258 < 0) = true := decide_eq_true c10
  clear c10
  (first | rw [c10b0] | (simp only [i64_w, i32_w]; rw [c10b0]) | skip)
  obtain rfl := Option.some.inj H
  go_wp2
  go_ret
  exact ⟨ze, zb HB⟩
 ·rw [if_neg c10] at H
  have c10b0 : decide (t258 < 0) = false := decide_eq_false c10
  clear c10
  (first | rw [c10b0] | (simp only [i64_w, i32_w]; rw [c10b0]) | skip)
  replace H := Option.bind_eq_some_iff.mp H
  obtain ⟨t259, A110, H⟩ := H
  replace H : (if t259 < 0 then (some true) else ((laws_toTable.f k l0_0 a0_1).bind fun bt260 => ((laws_toField.f a1_0 a1_1 a1_2).bind fun bt264 => ((spec_TableAdd.f k bt260.1 bt260.2 bt264.1 bt264.2.1 bt264.2.2).bind fun bt267 => ((laws_toTable.f k l0_0 a0_1).bind fun bt272 => ((laws_toField.f a1_0 a1_1 a1_2).bind fun bt277 => ((impl_TableAdd.f k bt272.1 bt272.2 bt277.1 bt277.2.1 bt277.2.2).bind fun bt280 => ((laws_eqTable.f k bt280.1 bt280.2 bt267.1 bt267.2).bind fun t285 => (if t285 = true then ((laws_toTable.f k l0_0 a0_1).bind fun bt286 => ((laws_eqTable.f k bt272.1 bt272.2 bt286.1 bt286.2).bind fun t290 => (if t290 = true then ((laws_markTable.f k bt272.1 bt272.2 1).bind fun bt291 => (if bt291.1 < 0 then (laws_FnExactTableAdd.j0 k true l0_0 a0_1 a1_0 a1_1 a1_2 bt267.1 bt267.2 bt280.1 bt280.2) else ((laws_eqTable.f k bt280.1 bt280.2 bt267.1 bt267.2).bind fun t293 => (laws_FnExactTableAdd.j0 k (!t293) l0_0 a0_1 a1_0 a1_1 a1_2 bt267.1 bt267.2 bt280.1 bt280.2)))) else (some false)))) else (some false)))))))))) = some r := H
  have A11 := Aside0.mk A110
  clear A110
  by_cases c12 : t259 < 0
  ·rw [if_pos c12] at H
   have c12b0 : decide (t259 < 0) = true := decide_eq_true c12
   clear c12
   obtain rfl := Option.some.inj H
   have hnb13 := NB257_256.out
   have hnc13 := NB256_257.out
   have hcz14_0 : w9.cell? ⟨gb257, 0, none⟩ = some (.string a1_0) := (blk_cell BK257.out 0).trans rfl
   have hcz14_1 : w9.cell? ⟨gb257, 1, none⟩ = some (.string a1_1) := (blk_cell BK257.out 1).trans rfl
   have hcz14_2 : w9.cell? ⟨gb257, 2, none⟩ = some (.bool a1_2) := (blk_cell BK257.out 2).trans rfl
   have hfz14_0 := blk_frozen BK257.out 0
   have hfz14_1 := blk_frozen BK257.out 1
   have hfz14_2 := blk_frozen BK257.out 2
   go_wp2_with (first | ((with_reducible refine gq 35 rfl ?_); refine gl (some 20) Try.func35 #[.agg #[.string a1_0, .string a1_1, .bool a1_2], .int .i64 t258] ?_; (with_reducible refine (laws_szField.calls a1_0 a1_1 a1_2 t258 t259 _ A11.out).mono ?_); rintro e w15 ⟨rfl, hb⟩; refine ⟨_, rfl, ?_⟩; replace BK256 := Aside0.mk (blk_below (g := gb256) (o := .cells #[.slice A0_0 l0_0.length c0_0, .int .i64 a0_1] 40 (0, 0)) (zk BK256) hb); replace BK257 := Aside0.mk (blk_below (g := gb257) (o := .cells #[.string a1_0, .string a1_1, .bool a1_2] 53 (0, 0)) (zk BK257) hb); replace HB := Aside0.mk (below_step (zb HB) hb); (try clear hb)))
   go_ret
   exact ⟨ze, zb HB⟩
  ·rw [if_neg c12] at H
   have c12b0 : decide (t259 < 0) = false := decide_eq_false c12
   clear c12
   replace H := Option.bind_eq_some_iff.mp H
   obtain ⟨⟨t260, t263⟩, A160, H⟩ := H
   replace H : ((laws_toField.f a1_0 a1_1 a1_2).bind fun bt264 => ((spec_TableAdd.f k t260 t263 bt264.1 bt264.2.1 bt264.2.2).bind fun bt267 => ((laws_toTable.f k l0_0 a0_1).bind fun bt272 => ((laws_toField.f a1_0 a1_1 a1_2).bind fun bt277 => ((impl_TableAdd.f k bt272.1 bt272.2 bt277.1 bt277.2.1 bt277.2.2).bind fun bt280 => ((laws_eqTable.f k bt280.1 bt280.2 bt267.1 bt267.2).bind fun t285 => (if t285 = true then ((laws_toTable.f k l0_0 a0_1).bind fun bt286 => ((laws_eqTable.f k bt272.1 bt272.2 bt286.1 bt286.2).bind fun t290 => (if t290 = true then ((laws_markTable.f k bt272.1 bt272.2 1).bind fun bt291 => (if bt291.1 < 0 then (laws_FnExactTableAdd.j0 k true l0_0 a0_1 a1_0 a1_1 a1_2 bt267.1 bt267.2 bt280.1 bt280.2) else ((laws_eqTable.f k bt280.1 bt280.2 bt267.1 bt267.2).bind fun t293 => (laws_FnExactTableAdd.j0 k (!t293) l0_0 a0_1 a1_0 a1_1 a1_2 bt267.1 bt267.2 bt280.1 bt280.2)))) else (some false)))) else (some false)))))))) = some r := H
   have A16 := Aside0.mk A160
   clear A160
   replace H := Option.bind_eq_some_iff.mp H
   obtain ⟨⟨t264, t265, t266⟩, A170, H⟩ := H
   replace H : ((spec_TableAdd.f k t260 t263 t264 t265 t266).bind fun bt267 => ((laws_toTable.f k l0_0 a0_1).bind fun bt272 => ((laws_toField.f a1_0 a1_1 a1_2).bind fun bt277 => ((impl_TableAdd.f k bt272.1 bt272.2 bt277.1 bt277.2.1 bt277.2.2).bind fun bt280 => ((laws_eqTable.f k bt280.1 bt280.2 bt267.1 bt267.2).bind fun t285 => (if t285 = true then ((laws_toTable.f k l0_0 a0_1).bind fun bt286 => ((laws_eqTable.f k bt272.1 bt272.2 bt286.1 bt286.2).bind fun t290 => (if t290 = true then ((laws_markTable.f k bt272.1 bt272.2 1).bind fun bt291 => (if bt291.1 < 0 then (laws_FnExactTableAdd.j0 k true l0_0 a0_1 a1_0 a1_1 a1_2 bt267.1 bt267.2 bt280.1 bt280.2) else ((laws_eqTable.f k bt280.1 bt280.2 bt267.1 bt267.2).bind fun t293 => (laws_FnExactTableAdd.j0 k (!t293) l0_0 a0_1 a1_0 a1_1 a1_2 bt267.1 bt267.2 bt280.1 bt280.2)))) else (some false)))) else (some false))))))) = some r := H
   have A17 := Aside0.mk A170
   clear A170
   replace H := Option.bind_eq_some_iff.mp H
   obtain ⟨⟨t267, t270⟩, A180, H⟩ := H
   replace H : ((laws_toTable.f k l0_0 a0_1).bind fun bt272 => ((laws_toField.f a1_0 a1_1 a1_2).bind fun bt277 => ((impl_TableAdd.f k bt272.1 bt272.2 bt277.1 bt277.2.1 bt277.2.2).bind fun bt280 => ((laws_eqTable.f k bt280.1 bt280.2 t267 t270).bind fun t285 => (if t285 = true then ((laws_toTable.f k l0_0 a0_1).bind fun bt286 => ((laws_eqTable.f k bt272.1 bt272.2 bt286.1 bt286.2).bind fun t290 => (if t290 = true then ((laws_markTable.f k bt272.1 bt272.2 1).bind fun bt291 => (if bt291.1 < 0 then (laws_FnExactTableAdd.j0 k true l0_0 a0_1 a1_0 a1_1 a1_2 t267 t270 bt280.1 bt280.2) else ((laws_eqTable.f k bt280.1 bt280.2 t267 t270).bind fun t293 => (laws_FnExactTableAdd.j0 k (!t293) l0_0 a0_1 a1_0 a1_1 a1_2 t267 t270 bt280.1 bt280.2)))) else (some false)))) else (some false)))))) = some r := H
   have A18 := Aside0.mk A180
   clear A180
   replace H := Option.bind_eq_some_iff.mp H
   obtain ⟨⟨t272, t275⟩, A190, H⟩ := H
   replace H : ((laws_toField.f a1_0 a1_1 a1_2).bind fun bt277 => ((impl_TableAdd.f k t272 t275 bt277.1 bt277.2.1 bt277.2.2).bind fun bt280 => ((laws_eqTable.f k bt280.1 bt280.2 t267 t270).bind fun t285 => (if t285 = true then ((laws_toTable.f k l0_0 a0_1).bind fun bt286 => ((laws_eqTable.f k t272 t275 bt286.1 bt286.2).bind fun t290 => (if t290 = true then ((laws_markTable.f k t272 t275 1).bind fun bt291 => (if bt291.1 < 0 then (laws_FnExactTableAdd.j0 k true l0_0 a0_1 a1_0 a1_1 a1_2 t267 t270 bt280.1 bt280.2) else ((laws_eqTable.f k bt280.1 bt280.2 t267 t270).bind fun t293 => (laws_FnExactTableAdd.j0 k (!t293) l0_0 a0_1 a1_0 a1_1 a1_2 t267 t270 bt280.1 bt280.2)))) else (some false)))) else (some false))))) = some r := H
   have A19 := Aside0.mk A190
   clear A190
   replace H := Option.bind_eq_some_iff.mp H
   obtain ⟨⟨t277, t278, t279⟩, A200, H⟩ := H
   replace H : ((impl_TableAdd.f k t272 t275 t277 t278 t279).bind fun bt280 => ((laws_eqTable.f k bt280.1 bt280.2 t267 t270).bind fun t285 => (if t285 = true then ((laws_toTable.f k l0_0 a0_1).bind fun bt286 => ((laws_eqTable.f k t272 t275 bt286.1 bt286.2).bind fun t290 => (if t290 = true then ((laws_markTable.f k t272 t275 1).bind fun bt291 => (if bt291.1 < 0 then (laws_FnExactTableAdd.j0 k true l0_0 a0_1 a1_0 a1_1 a1_2 t267 t270 bt280.1 bt280.2) else ((laws_eqTable.f k bt280.1 bt280.2 t267 t270).bind fun t293 => (laws_FnExactTableAdd.j0 k (!t293) l0_0 a0_1 a1_0 a1_1 a1_2 t267 t270 bt280.1 bt280.2)))) else (some false)))) else (some false)))) = some r := H
   have A20 := Aside0.mk A200
   clear A200
   replace H := Option.bind_eq_some_iff.mp H
   obtain ⟨⟨t280, t283⟩, A210, H⟩ := H
   replace H : ((laws_eqTable.f k t280 t283 t267 t270).bind fun t285 => (if t285 = true then ((laws_toTable.f k l0_0 a0_1).bind fun bt286 => ((laws_eqTable.f k t272 t275 bt286.1 bt286.2).bind fun t290 => (if t290 = true then ((laws_markTable.f k t272 t275 1).bind fun bt291 => (if bt291.1 < 0 then (laws_FnExactTableAdd.j0 k true l0_0 a0_1 a1_0 a1_1 a1_2 t267 t270 t280 t283) else ((laws_eqTable.f k t280 t283 t267 t270).bind fun t293 => (laws_FnExactTableAdd.j0 k (!t293) l0_0 a0_1 a1_0 a1_1 a1_2 t267 t270 t280 t283)))) else (some false)))) else (some false))) = some r := H
   have A21 := Aside0.mk A210
   clear A210
   replace H := Option.bind_eq_some_iff.mp H
   obtain ⟨t285, A220, H⟩ := H
   replace H : (if t285 = true then ((laws_toTable.f k l0_0 a0_1).bind fun bt286 => ((laws_eqTable.f k t272 t275 bt286.1 bt286.2).bind fun t290 => (if t290 = true then ((laws_markTable.f k t272 t275 1).bind fun bt291 => (if bt291.1 < 0 then (laws_FnExactTableAdd.j0 k true l0_0 a0_1 a1_0 a1_1 a1_2 t267 t270 t280 t283) else ((laws_eqTable.f k t280 t283 t267 t270).bind fun t293 => (laws_FnExactTableAdd.j0 k (!t293) l0_0 a0_1 a1_0 a1_1 a1_2 t267 t270 t280 t283)))) else (some false)))) else (some false)) = some r := H
   have A22 := Aside0.mk A220
   clear A220
   have HC23 := Aside0.mk H
   clear H
   have hnb24 := NB257_256.out
   have hnc24 := NB256_257.out
   have hcz25_0 : w9.cell? ⟨gb257, 0, none⟩ = some (.string a1_0) := (blk_cell BK257.out 0).trans rfl
   have hcz25_1 : w9.cell? ⟨gb257, 1, none⟩ = some (.string a1_1) := (blk_cell BK257.out 1).trans rfl
   have hcz25_2 : w9.cell? ⟨gb257, 2, none⟩ = some (.bool a1_2) := (blk_cell BK257.out 2).trans rfl
   have hfz25_0 := blk_frozen BK257.out 0
   have hfz25_1 := blk_frozen BK257.out 1
   have hfz25_2 := blk_frozen BK257.out 2
   try go_wp2_with (first | ((with_reducible refine gq 35 rfl ?_); refine gl (some 20) Try.func35 #[.agg #[.string a1_0, .string a1_1, .bool a1_2], .int .i64 t258] ?_; (with_reducible refine (laws_szField.calls a1_0 a1_1 a1_2 t258 t259 _ A11.out).mono ?_); rintro e w26 ⟨rfl, hb⟩; refine ⟨_, rfl, ?_⟩; replace BK256 := Aside0.mk (blk_below (g := gb256) (o := .cells #[.slice A0_0 l0_0.length c0_0, .int .i64 a0_1] 40 (0, 0)) (zk BK256) hb); replace BK257 := Aside0.mk (blk_below (g := gb257) (o := .cells #[.string a1_0, .string a1_1, .bool a1_2] 53 (0, 0)) (zk BK257) hb); replace HB := Aside0.mk (below_step (zb HB) hb); (try clear hb)))
   replace BK256 := Aside0.mk (blk_drew BK256.out)
   replace BK257 := Aside0.mk (blk_drew BK257.out)
   replace HB := Aside0.mk (below_drew1 HB.out)
   refine start_ (n := 7) (S := fun w' => w'.cell? ⟨gb256, 0, none⟩ = some (.slice A0_0 l0_0.length c0_0) ∧ w'.cell? ⟨gb256, 1, none⟩ = some (.int .i64 a0_1) ∧ w'.cell? ⟨gb257, 0, none⟩ = some (.string a1_0) ∧ w'.cell? ⟨gb257, 1, none⟩ = some (.string a1_1) ∧ w'.cell? ⟨gb257, 2, none⟩ = some (.bool a1_2)) (ds := []) #[false, false, false, false, false, false, false] (by kernel_rfl) rfl rfl ⟨(blk_cell BK256.out 0).trans rfl, (blk_cell BK256.out 1).trans rfl, (blk_cell BK257.out 0).trans rfl, (blk_cell BK257.out 1).trans rfl, (blk_cell BK257.out 2).trans rfl⟩ (fun hHeld => ?_)
   generalize w26.drew = w27 at BK256 BK257 HB hHeld ⊢
   refine tk5 0 (some 23) (bm 7 1) rfl rfl hHeld ?_
   refine tk5 2 (some 25) (bm 7 5) rfl rfl hHeld ?_
   refine join_ (σ := Value × Value × Nat) 1 #[true, true, true, true, true, true, false] (fun s_ => [(24, .agg #[s_.1, .int .i64 t263]), (26, .agg #[.string t264, .string t265, .bool t266]), (27, .agg #[s_.2.1, .int .i64 t270]), (6, .pointer (some ⟨s_.2.2, 0, none⟩))]) (fun s_ w' => (w'.cell? ⟨gb256, 0, none⟩ = some (.slice A0_0 l0_0.length c0_0) ∧ w'.cell? ⟨gb256, 1, none⟩ = some (.int .i64 a0_1) ∧ w'.cell? ⟨gb257, 0, none⟩ = some (.string a1_0) ∧ w'.cell? ⟨gb257, 1, none⟩ = some (.string a1_1) ∧ w'.cell? ⟨gb257, 2, none⟩ = some (.bool a1_2)) ∧ (Kd.R k36 36 w' w.heap.size (fun k_ => some k_ ≠ (s_.2.1 : Value).ownBlock) s_.1 t260) ∧ (Kd.R k36 36 w' w.heap.size (fun k_ => some k_ ≠ (s_.1 : Value).ownBlock) s_.2.1 t267) ∧ (w'.heap[gb256]? = some (.cells #[.slice A0_0 l0_0.length c0_0, .int .i64 a0_1] 40 (0, 0))) ∧ (w'.heap[gb257]? = some (.cells #[.string a1_0, .string a1_1, .bool a1_2] 53 (0, 0))) ∧ (w'.heap[s_.2.2]? = some (.cells #[.slice none 0 0, .int .i64 0] 25 (0, 0))) ∧ (w.heap.size ≤ s_.2.2) ∧ (w.heap.size ≤ s_.2.2) ∧ (gb256 ≠ s_.2.2) ∧ (s_.2.2 ≠ gb256) ∧ (gb257 ≠ s_.2.2) ∧ (s_.2.2 ≠ gb257) ∧ (Below w.heap.size w w')) ?_ ?_
   rotate_left
   ·intro hCont
    refine two_ (i := 1) (j := 5) (Ni := some 24) (Nj := some 6) #[true, true, true, false, false, false, false] #[true, false, true, false, false, true, false] rfl rfl rfl rfl (by kernel_rfl) (by decide) (by decide) (fun K hK => ?_) (fun K hK => ?_)
    ·skip
     refine gs Try.func25 #[.agg #[.slice A0_0 l0_0.length c0_0, .int .i64 a0_1]] ?_
     with_reducible refine (laws_toTable.calls k _ _ l0_0 a0_1 t260 t263 _ ?side1 ?side2 A16.out).mono ?_
     (case side1 => exact zc (Kd.C_below HR0_0.out HB.out))
     (case side2 => exact HC0_0.out)
     rintro e w28 ⟨v261, rfl, ho0, hb⟩
     refine ⟨_, rfl, ?_⟩
     have HO262 := Aside0.mk (Kd.R_lower ho0 (below_size (zb HB)))
     replace BK256 := Aside0.mk (blk_below (g := gb256) (o := .cells #[.slice A0_0 l0_0.length c0_0, .int .i64 a0_1] 40 (0, 0)) (zk BK256) hb)
     replace BK257 := Aside0.mk (blk_below (g := gb257) (o := .cells #[.string a1_0, .string a1_1, .bool a1_2] 53 (0, 0)) (zk BK257) hb)
     replace HB := Aside0.mk (below_step (zb HB) hb)
     (try clear hb)
     (try clear ho0)
     refine hK.out _ _ ⟨(blk_cell BK256.out 0).trans rfl, (blk_cell BK256.out 1).trans rfl, (blk_cell BK257.out 0).trans rfl, (blk_cell BK257.out 1).trans rfl, (blk_cell BK257.out 2).trans rfl⟩ (fun hHeld => ?_)
     clear hK K
     refine nm ?_
     refine two_ (i := 3) (j := 5) (Ni := some 26) (Nj := some 6) #[true, true, true, true, false, false, false] #[true, true, true, false, false, true, false] rfl rfl rfl rfl (by kernel_rfl) (by decide) (by decide) (fun K hK => ?_) (fun K hK => ?_)
     ·skip
      refine gs Try.func36 #[.agg #[.string a1_0, .string a1_1, .bool a1_2]] ?_
      with_reducible refine (laws_toField.calls a1_0 a1_1 a1_2 t264 t265 t266 _ A17.out).mono ?_
      rintro e w29 ⟨rfl, hb⟩
      refine ⟨_, rfl, ?_⟩
      replace HO262 := Aside0.mk (Kd.R_below (zr HO262) hb)
      replace BK256 := Aside0.mk (blk_below (g := gb256) (o := .cells #[.slice A0_0 l0_0.length c0_0, .int .i64 a0_1] 40 (0, 0)) (zk BK256) hb)
      replace BK257 := Aside0.mk (blk_below (g := gb257) (o := .cells #[.string a1_0, .string a1_1, .bool a1_2] 53 (0, 0)) (zk BK257) hb)
      replace HB := Aside0.mk (below_step (zb HB) hb)
      (try clear hb)
      obtain ⟨Ao30, co30, eo30⟩ := Kd.R_slice HO262.out
      (first | subst eo30 | (injection eo30 with f1_ f2_ f3_; have f4_ := f1_.symm; have f5_ := f3_.symm; clear f1_ f2_ f3_; subst f4_; subst f5_))
      refine hK.out _ _ ⟨(blk_cell BK256.out 0).trans rfl, (blk_cell BK256.out 1).trans rfl, (blk_cell BK257.out 0).trans rfl, (blk_cell BK257.out 1).trans rfl, (blk_cell BK257.out 2).trans rfl⟩ (fun hHeld => ?_)
      clear hK K
      refine nm ?_
      refine two_ (i := 4) (j := 5) (Ni := some 27) (Nj := some 6) #[true, true, true, true, true, false, false] #[true, true, true, true, false, true, false] rfl rfl rfl rfl (by kernel_rfl) (by decide) (by decide) (fun K hK => ?_) (fun K hK => ?_)
      ·skip
       refine gs Try.func31 #[.agg #[.slice Ao30 t260.length co30, .int .i64 t263], .agg #[.string t264, .string t265, .bool t266]] ?_
       with_reducible refine (spec_TableAdd.calls k _ _ t260 t263 t264 t265 t266 t267 t270 _ ?side1 ?side2 A18.out).mono ?_
       (case side1 => exact zc (Kd.R_reads' HO262.out).2.2)
       (case side2 => exact (Kd.R_reads' HO262.out).2.1)
       rintro e w31 ⟨v268, rfl, ho0, hb⟩
       refine ⟨_, rfl, ?_⟩
       have HO269 := Aside0.mk (Kd.R_lower (Kd.R_new' ho0 (Kd.R_lt (zr HO262))) (below_size (zb HB)))
       replace HO262 := Aside0.mk (Kd.R_elder' (zr HO262) (Kd.R_base ho0) hb)
       replace BK256 := Aside0.mk (blk_below (g := gb256) (o := .cells #[.slice A0_0 l0_0.length c0_0, .int .i64 a0_1] 40 (0, 0)) (zk BK256) hb)
       replace BK257 := Aside0.mk (blk_below (g := gb257) (o := .cells #[.string a1_0, .string a1_1, .bool a1_2] 53 (0, 0)) (zk BK257) hb)
       replace HB := Aside0.mk (below_step (zb HB) hb)
       (try clear hb)
       (try clear ho0)
       refine hK.out _ _ ⟨(blk_cell BK256.out 0).trans rfl, (blk_cell BK256.out 1).trans rfl, (blk_cell BK257.out 0).trans rfl, (blk_cell BK257.out 1).trans rfl, (blk_cell BK257.out 2).trans rfl⟩ (fun hHeld => ?_)
       clear hK K
       refine nm ?_
       refine one_ (i := 5) (N := some 6) (bm 7 63) rfl rfl (by kernel_rfl) (by decide) (fun K hK => ?_)
       refine box_step ?hg (N := 6) ?hd (cs := #[.slice none 0 0, .int .i64 0]) (t := 25) ?hr ?_; (case hd => rfl); (case hg => rfl); (case hr => first | (go_simp; done) | (go_simp; rfl))
       intro gb271 hg w32 hbox hb
       replace HO262 := Aside0.mk (Kd.R_below (zr HO262) hb)
       replace HO269 := Aside0.mk (Kd.R_below (zr HO269) hb)
       have BK271 := Aside0.mk (hbox)
       have GW271 := Aside0.mk ((by rw [hg]; exact (below_size (zb HB)) : w.heap.size ≤ gb271))
       have GE271 := Aside0.mk ((by rw [hg]; exact (below_size (zb HB)) : w.heap.size ≤ gb271))
       replace HB := Aside0.mk (below_step (zb HB) hb)
       have NB256_271 := Aside0.mk ((by rw [hg]; exact Nat.ne_of_lt (blk_lt (g := gb256) (o := .cells #[.slice A0_0 l0_0.length c0_0, .int .i64 a0_1] 40 (0, 0)) (zk BK256)) : gb256 ≠ gb271))
       have NB271_256 := Aside0.mk ((by rw [hg]; exact Nat.ne_of_gt (blk_lt (g := gb256) (o := .cells #[.slice A0_0 l0_0.length c0_0, .int .i64 a0_1] 40 (0, 0)) (zk BK256)) : gb271 ≠ gb256))
       replace BK256 := Aside0.mk (blk_below (g := gb256) (o := .cells #[.slice A0_0 l0_0.length c0_0, .int .i64 a0_1] 40 (0, 0)) (zk BK256) hb)
       have NB257_271 := Aside0.mk ((by rw [hg]; exact Nat.ne_of_lt (blk_lt (g := gb257) (o := .cells #[.string a1_0, .string a1_1, .bool a1_2] 53 (0, 0)) (zk BK257)) : gb257 ≠ gb271))
       have NB271_257 := Aside0.mk ((by rw [hg]; exact Nat.ne_of_gt (blk_lt (g := gb257) (o := .cells #[.string a1_0, .string a1_1, .bool a1_2] 53 (0, 0)) (zk BK257)) : gb271 ≠ gb257))
       replace BK257 := Aside0.mk (blk_below (g := gb257) (o := .cells #[.string a1_0, .string a1_1, .bool a1_2] 53 (0, 0)) (zk BK257) hb)
       clear hb hbox hg
       refine hK.out _ _ ⟨(blk_cell BK256.out 0).trans rfl, (blk_cell BK256.out 1).trans rfl, (blk_cell BK257.out 0).trans rfl, (blk_cell BK257.out 1).trans rfl, (blk_cell BK257.out 2).trans rfl⟩ (fun hHeld => ?_)
       clear hK K
       refine nm ?_
       exact norm_ (by simp only [putAll, Act.put, s1, s2, s3]) (hCont (.slice Ao30 t260.length co30, v268, gb271) _ ⟨hHeld, (by (with_reducible repeat (first | apply Kd.R_alloc | apply Kd.R_drewN | apply Kd.R_drew)); exact Kd.R_mono HO262.out (fun _ hk => hk.2)), (by (with_reducible repeat (first | apply Kd.R_alloc | apply Kd.R_drewN | apply Kd.R_drew)); exact Kd.R_mono HO269.out (fun _ hk => hk.2)), (zk BK256), (zk BK257), (zk BK271), GW271.out, GE271.out, NB256_271.out, NB271_256.out, NB257_271.out, NB271_257.out, (zb HB)⟩)
      ·skip
       refine box_step ?hg (N := 6) ?hd (cs := #[.slice none 0 0, .int .i64 0]) (t := 25) ?hr ?_; (case hd => rfl); (case hg => rfl); (case hr => first | (go_simp; done) | (go_simp; rfl))
       intro gb271 hg w30 hbox hb
       replace HO262 := Aside0.mk (Kd.R_below (zr HO262) hb)
       have BK271 := Aside0.mk (hbox)
       have GW271 := Aside0.mk ((by rw [hg]; exact (below_size (zb HB)) : w.heap.size ≤ gb271))
       have GE271 := Aside0.mk ((by rw [hg]; exact (below_size (zb HB)) : w.heap.size ≤ gb271))
       replace HB := Aside0.mk (below_step (zb HB) hb)
       have NB256_271 := Aside0.mk ((by rw [hg]; exact Nat.ne_of_lt (blk_lt (g := gb256) (o := .cells #[.slice A0_0 l0_0.length c0_0, .int .i64 a0_1] 40 (0, 0)) (zk BK256)) : gb256 ≠ gb271))
       have NB271_256 := Aside0.mk ((by rw [hg]; exact Nat.ne_of_gt (blk_lt (g := gb256) (o := .cells #[.slice A0_0 l0_0.length c0_0, .int .i64 a0_1] 40 (0, 0)) (zk BK256)) : gb271 ≠ gb256))
       replace BK256 := Aside0.mk (blk_below (g := gb256) (o := .cells #[.slice A0_0 l0_0.length c0_0, .int .i64 a0_1] 40 (0, 0)) (zk BK256) hb)
       have NB257_271 := Aside0.mk ((by rw [hg]; exact Nat.ne_of_lt (blk_lt (g := gb257) (o := .cells #[.string a1_0, .string a1_1, .bool a1_2] 53 (0, 0)) (zk BK257)) : gb257 ≠ gb271))
       have NB271_257 := Aside0.mk ((by rw [hg]; exact Nat.ne_of_gt (blk_lt (g := gb257) (o := .cells #[.string a1_0, .string a1_1, .bool a1_2] 53 (0, 0)) (zk BK257)) : gb271 ≠ gb257))
       replace BK257 := Aside0.mk (blk_below (g := gb257) (o := .cells #[.string a1_0, .string a1_1, .bool a1_2] 53 (0, 0)) (zk BK257) hb)
       clear hb hbox hg
       obtain ⟨Ao31, co31, eo31⟩ := Kd.R_slice HO262.out
       (first | subst eo31 | (injection eo31 with f1_ f2_ f3_; have f4_ := f1_.symm; have f5_ := f3_.symm; clear f1_ f2_ f3_; subst f4_; subst f5_))
       refine hK.out _ _ ⟨(blk_cell BK256.out 0).trans rfl, (blk_cell BK256.out 1).trans rfl, (blk_cell BK257.out 0).trans rfl, (blk_cell BK257.out 1).trans rfl, (blk_cell BK257.out 2).trans rfl⟩ (fun hHeld => ?_)
       clear hK K
       refine nm ?_
       refine one_ (i := 4) (N := some 27) (bm 7 63) rfl rfl (by kernel_rfl) (by decide) (fun K hK => ?_)
       refine gs Try.func31 #[.agg #[.slice Ao31 t260.length co31, .int .i64 t263], .agg #[.string t264, .string t265, .bool t266]] ?_
       with_reducible refine (spec_TableAdd.calls k _ _ t260 t263 t264 t265 t266 t267 t270 _ ?side1 ?side2 A18.out).mono ?_
       (case side1 => exact zc (Kd.R_reads' HO262.out).2.2)
       (case side2 => exact (Kd.R_reads' HO262.out).2.1)
       rintro e w32 ⟨v268, rfl, ho0, hb⟩
       refine ⟨_, rfl, ?_⟩
       have HO269 := Aside0.mk (Kd.R_lower (Kd.R_new' ho0 (Kd.R_lt (zr HO262))) (below_size (zb HB)))
       replace HO262 := Aside0.mk (Kd.R_elder' (zr HO262) (Kd.R_base ho0) hb)
       replace BK256 := Aside0.mk (blk_below (g := gb256) (o := .cells #[.slice A0_0 l0_0.length c0_0, .int .i64 a0_1] 40 (0, 0)) (zk BK256) hb)
       replace BK257 := Aside0.mk (blk_below (g := gb257) (o := .cells #[.string a1_0, .string a1_1, .bool a1_2] 53 (0, 0)) (zk BK257) hb)
       replace BK271 := Aside0.mk (blk_below (g := gb271) (o := .cells #[.slice none 0 0, .int .i64 0] 25 (0, 0)) (zk BK271) hb)
       replace HB := Aside0.mk (below_step (zb HB) hb)
       (try clear hb)
       (try clear ho0)
       refine hK.out _ _ ⟨(blk_cell BK256.out 0).trans rfl, (blk_cell BK256.out 1).trans rfl, (blk_cell BK257.out 0).trans rfl, (blk_cell BK257.out 1).trans rfl, (blk_cell BK257.out 2).trans rfl⟩ (fun hHeld => ?_)
       clear hK K
       refine nm ?_
       exact norm_ (by simp only [putAll, Act.put, s1, s2, s3]) (hCont (.slice Ao31 t260.length co31, v268, gb271) _ ⟨hHeld, (by (with_reducible repeat (first | apply Kd.R_alloc | apply Kd.R_drewN | apply Kd.R_drew)); exact Kd.R_mono HO262.out (fun _ hk => hk.2)), (by (with_reducible repeat (first | apply Kd.R_alloc | apply Kd.R_drewN | apply Kd.R_drew)); exact Kd.R_mono HO269.out (fun _ hk => hk.2)), (zk BK256), (zk BK257), (zk BK271), GW271.out, GE271.out, NB256_271.out, NB271_256.out, NB257_271.out, NB271_257.out, (zb HB)⟩)
     ·skip
      refine box_step ?hg (N := 6) ?hd (cs := #[.slice none 0 0, .int .i64 0]) (t := 25) ?hr ?_; (case hd => rfl); (case hg => rfl); (case hr => first | (go_simp; done) | (go_simp; rfl))
      intro gb271 hg w29 hbox hb
      replace HO262 := Aside0.mk (Kd.R_below (zr HO262) hb)
      have BK271 := Aside0.mk (hbox)
      have GW271 := Aside0.mk ((by rw [hg]; exact (below_size (zb HB)) : w.heap.size ≤ gb271))
      have GE271 := Aside0.mk ((by rw [hg]; exact (below_size (zb HB)) : w.heap.size ≤ gb271))
      replace HB := Aside0.mk (below_step (zb HB) hb)
      have NB256_271 := Aside0.mk ((by rw [hg]; exact Nat.ne_of_lt (blk_lt (g := gb256) (o := .cells #[.slice A0_0 l0_0.length c0_0, .int .i64 a0_1] 40 (0, 0)) (zk BK256)) : gb256 ≠ gb271))
      have NB271_256 := Aside0.mk ((by rw [hg]; exact Nat.ne_of_gt (blk_lt (g := gb256) (o := .cells #[.slice A0_0 l0_0.length c0_0, .int .i64 a0_1] 40 (0, 0)) (zk BK256)) : gb271 ≠ gb256))
      replace BK256 := Aside0.mk (blk_below (g := gb256) (o := .cells #[.slice A0_0 l0_0.length c0_0, .int .i64 a0_1] 40 (0, 0)) (zk BK256) hb)
      have NB257_271 := Aside0.mk ((by rw [hg]; exact Nat.ne_of_lt (blk_lt (g := gb257) (o := .cells #[.string a1_0, .string a1_1, .bool a1_2] 53 (0, 0)) (zk BK257)) : gb257 ≠ gb271))
      have NB271_257 := Aside0.mk ((by rw [hg]; exact Nat.ne_of_gt (blk_lt (g := gb257) (o := .cells #[.string a1_0, .string a1_1, .bool a1_2] 53 (0, 0)) (zk BK257)) : gb271 ≠ gb257))
      replace BK257 := Aside0.mk (blk_below (g := gb257) (o := .cells #[.string a1_0, .string a1_1, .bool a1_2] 53 (0, 0)) (zk BK257) hb)
      clear hb hbox hg
      refine hK.out _ _ ⟨(blk_cell BK256.out 0).trans rfl, (blk_cell BK256.out 1).trans rfl, (blk_cell BK257.out 0).trans rfl, (blk_cell BK257.out 1).trans rfl, (blk_cell BK257.out 2).trans rfl⟩ (fun hHeld => ?_)
      clear hK K
      refine nm ?_
      refine one_ (i := 3) (N := some 26) (bm 7 47) rfl rfl (by kernel_rfl) (by decide) (fun K hK => ?_)
      refine gs Try.func36 #[.agg #[.string a1_0, .string a1_1, .bool a1_2]] ?_
      with_reducible refine (laws_toField.calls a1_0 a1_1 a1_2 t264 t265 t266 _ A17.out).mono ?_
      rintro e w30 ⟨rfl, hb⟩
      refine ⟨_, rfl, ?_⟩
      replace HO262 := Aside0.mk (Kd.R_below (zr HO262) hb)
      replace BK256 := Aside0.mk (blk_below (g := gb256) (o := .cells #[.slice A0_0 l0_0.length c0_0, .int .i64 a0_1] 40 (0, 0)) (zk BK256) hb)
      replace BK257 := Aside0.mk (blk_below (g := gb257) (o := .cells #[.string a1_0, .string a1_1, .bool a1_2] 53 (0, 0)) (zk BK257) hb)
      replace BK271 := Aside0.mk (blk_below (g := gb271) (o := .cells #[.slice none 0 0, .int .i64 0] 25 (0, 0)) (zk BK271) hb)
      replace HB := Aside0.mk (below_step (zb HB) hb)
      (try clear hb)
      obtain ⟨Ao31, co31, eo31⟩ := Kd.R_slice HO262.out
      (first | subst eo31 | (injection eo31 with f1_ f2_ f3_; have f4_ := f1_.symm; have f5_ := f3_.symm; clear f1_ f2_ f3_; subst f4_; subst f5_))
      refine hK.out _ _ ⟨(blk_cell BK256.out 0).trans rfl, (blk_cell BK256.out 1).trans rfl, (blk_cell BK257.out 0).trans rfl, (blk_cell BK257.out 1).trans rfl, (blk_cell BK257.out 2).trans rfl⟩ (fun hHeld => ?_)
      clear hK K
      refine nm ?_
      refine one_ (i := 4) (N := some 27) (bm 7 63) rfl rfl (by kernel_rfl) (by decide) (fun K hK => ?_)
      refine gs Try.func31 #[.agg #[.slice Ao31 t260.length co31, .int .i64 t263], .agg #[.string t264, .string t265, .bool t266]] ?_
      with_reducible refine (spec_TableAdd.calls k _ _ t260 t263 t264 t265 t266 t267 t270 _ ?side1 ?side2 A18.out).mono ?_
      (case side1 => exact zc (Kd.R_reads' HO262.out).2.2)
      (case side2 => exact (Kd.R_reads' HO262.out).2.1)
      rintro e w32 ⟨v268, rfl, ho0, hb⟩
      refine ⟨_, rfl, ?_⟩
      have HO269 := Aside0.mk (Kd.R_lower (Kd.R_new' ho0 (Kd.R_lt (zr HO262))) (below_size (zb HB)))
      replace HO262 := Aside0.mk (Kd.R_elder' (zr HO262) (Kd.R_base ho0) hb)
      replace BK256 := Aside0.mk (blk_below (g := gb256) (o := .cells #[.slice A0_0 l0_0.length c0_0, .int .i64 a0_1] 40 (0, 0)) (zk BK256) hb)
      replace BK257 := Aside0.mk (blk_below (g := gb257) (o := .cells #[.string a1_0, .string a1_1, .bool a1_2] 53 (0, 0)) (zk BK257) hb)
      replace BK271 := Aside0.mk (blk_below (g := gb271) (o := .cells #[.slice none 0 0, .int .i64 0] 25 (0, 0)) (zk BK271) hb)
      replace HB := Aside0.mk (below_step (zb HB) hb)
      (try clear hb)
      (try clear ho0)
      refine hK.out _ _ ⟨(blk_cell BK256.out 0).trans rfl, (blk_cell BK256.out 1).trans rfl, (blk_cell BK257.out 0).trans rfl, (blk_cell BK257.out 1).trans rfl, (blk_cell BK257.out 2).trans rfl⟩ (fun hHeld => ?_)
      clear hK K
      refine nm ?_
      exact norm_ (by simp only [putAll, Act.put, s1, s2, s3]) (hCont (.slice Ao31 t260.length co31, v268, gb271) _ ⟨hHeld, (by (with_reducible repeat (first | apply Kd.R_alloc | apply Kd.R_drewN | apply Kd.R_drew)); exact Kd.R_mono HO262.out (fun _ hk => hk.2)), (by (with_reducible repeat (first | apply Kd.R_alloc | apply Kd.R_drewN | apply Kd.R_drew)); exact Kd.R_mono HO269.out (fun _ hk => hk.2)), (zk BK256), (zk BK257), (zk BK271), GW271.out, GE271.out, NB256_271.out, NB271_256.out, NB257_271.out, NB271_257.out, (zb HB)⟩)
    ·skip
     refine box_step ?hg (N := 6) ?hd (cs := #[.slice none 0 0, .int .i64 0]) (t := 25) ?hr ?_; (case hd => rfl); (case hg => rfl); (case hr => first | (go_simp; done) | (go_simp; rfl))
     intro gb271 hg w28 hbox hb
     have BK271 := Aside0.mk (hbox)
     have GW271 := Aside0.mk ((by rw [hg]; exact (below_size (zb HB)) : w.heap.size ≤ gb271))
     have GE271 := Aside0.mk ((by rw [hg]; exact (below_size (zb HB)) : w.heap.size ≤ gb271))
     replace HB := Aside0.mk (below_step (zb HB) hb)
     have NB256_271 := Aside0.mk ((by rw [hg]; exact Nat.ne_of_lt (blk_lt (g := gb256) (o := .cells #[.slice A0_0 l0_0.length c0_0, .int .i64 a0_1] 40 (0, 0)) (zk BK256)) : gb256 ≠ gb271))
     have NB271_256 := Aside0.mk ((by rw [hg]; exact Nat.ne_of_gt (blk_lt (g := gb256) (o := .cells #[.slice A0_0 l0_0.length c0_0, .int .i64 a0_1] 40 (0, 0)) (zk BK256)) : gb271 ≠ gb256))
     replace BK256 := Aside0.mk (blk_below (g := gb256) (o := .cells #[.slice A0_0 l0_0.length c0_0, .int .i64 a0_1] 40 (0, 0)) (zk BK256) hb)
     have NB257_271 := Aside0.mk ((by rw [hg]; exact Nat.ne_of_lt (blk_lt (g := gb257) (o := .cells #[.string a1_0, .string a1_1, .bool a1_2] 53 (0, 0)) (zk BK257)) : gb257 ≠ gb271))
     have NB271_257 := Aside0.mk ((by rw [hg]; exact Nat.ne_of_gt (blk_lt (g := gb257) (o := .cells #[.string a1_0, .string a1_1, .bool a1_2] 53 (0, 0)) (zk BK257)) : gb271 ≠ gb257))
     replace BK257 := Aside0.mk (blk_below (g := gb257) (o := .cells #[.string a1_0, .string a1_1, .bool a1_2] 53 (0, 0)) (zk BK257) hb)
     clear hb hbox hg
     refine hK.out _ _ ⟨(blk_cell BK256.out 0).trans rfl, (blk_cell BK256.out 1).trans rfl, (blk_cell BK257.out 0).trans rfl, (blk_cell BK257.out 1).trans rfl, (blk_cell BK257.out 2).trans rfl⟩ (fun hHeld => ?_)
     clear hK K
     refine nm ?_
     refine one_ (i := 1) (N := some 24) (bm 7 39) rfl rfl (by kernel_rfl) (by decide) (fun K hK => ?_)
     refine gs Try.func25 #[.agg #[.slice A0_0 l0_0.length c0_0, .int .i64 a0_1]] ?_
     with_reducible refine (laws_toTable.calls k _ _ l0_0 a0_1 t260 t263 _ ?side1 ?side2 A16.out).mono ?_
     (case side1 => exact zc (Kd.C_below HR0_0.out HB.out))
     (case side2 => exact HC0_0.out)
     rintro e w29 ⟨v261, rfl, ho0, hb⟩
     refine ⟨_, rfl, ?_⟩
     have HO262 := Aside0.mk (Kd.R_lower ho0 (below_size (zb HB)))
     replace BK256 := Aside0.mk (blk_below (g := gb256) (o := .cells #[.slice A0_0 l0_0.length c0_0, .int .i64 a0_1] 40 (0, 0)) (zk BK256) hb)
     replace BK257 := Aside0.mk (blk_below (g := gb257) (o := .cells #[.string a1_0, .string a1_1, .bool a1_2] 53 (0, 0)) (zk BK257) hb)
     replace BK271 := Aside0.mk (blk_below (g := gb271) (o := .cells #[.slice none 0 0, .int .i64 0] 25 (0, 0)) (zk BK271) hb)
     replace HB := Aside0.mk (below_step (zb HB) hb)
     (try clear hb)
     (try clear ho0)
     refine hK.out _ _ ⟨(blk_cell BK256.out 0).trans rfl, (blk_cell BK256.out 1).trans rfl, (blk_cell BK257.out 0).trans rfl, (blk_cell BK257.out 1).trans rfl, (blk_cell BK257.out 2).trans rfl⟩ (fun hHeld => ?_)
     clear hK K
     refine nm ?_
     refine one_ (i := 3) (N := some 26) (bm 7 47) rfl rfl (by kernel_rfl) (by decide) (fun K hK => ?_)
     refine gs Try.func36 #[.agg #[.string a1_0, .string a1_1, .bool a1_2]] ?_
     with_reducible refine (laws_toField.calls a1_0 a1_1 a1_2 t264 t265 t266 _ A17.out).mono ?_
     rintro e w30 ⟨rfl, hb⟩
     refine ⟨_, rfl, ?_⟩
     replace HO262 := Aside0.mk (Kd.R_below (zr HO262) hb)
     replace BK256 := Aside0.mk (blk_below (g := gb256) (o := .cells #[.slice A0_0 l0_0.length c0_0, .int .i64 a0_1] 40 (0, 0)) (zk BK256) hb)
     replace BK257 := Aside0.mk (blk_below (g := gb257) (o := .cells #[.string a1_0, .string a1_1, .bool a1_2] 53 (0, 0)) (zk BK257) hb)
     replace BK271 := Aside0.mk (blk_below (g := gb271) (o := .cells #[.slice none 0 0, .int .i64 0] 25 (0, 0)) (zk BK271) hb)
     replace HB := Aside0.mk (below_step (zb HB) hb)
     (try clear hb)
     obtain ⟨Ao31, co31, eo31⟩ := Kd.R_slice HO262.out
     (first | subst eo31 | (injection eo31 with f1_ f2_ f3_; have f4_ := f1_.symm; have f5_ := f3_.symm; clear f1_ f2_ f3_; subst f4_; subst f5_))
     refine hK.out _ _ ⟨(blk_cell BK256.out 0).trans rfl, (blk_cell BK256.out 1).trans rfl, (blk_cell BK257.out 0).trans rfl, (blk_cell BK257.out 1).trans rfl, (blk_cell BK257.out 2).trans rfl⟩ (fun hHeld => ?_)
     clear hK K
     refine nm ?_
     refine one_ (i := 4) (N := some 27) (bm 7 63) rfl rfl (by kernel_rfl) (by decide) (fun K hK => ?_)
     refine gs Try.func31 #[.agg #[.slice Ao31 t260.length co31, .int .i64 t263], .agg #[.string t264, .string t265, .bool t266]] ?_
     with_reducible refine (spec_TableAdd.calls k _ _ t260 t263 t264 t265 t266 t267 t270 _ ?side1 ?side2 A18.out).mono ?_
     (case side1 => exact zc (Kd.R_reads' HO262.out).2.2)
     (case side2 => exact (Kd.R_reads' HO262.out).2.1)
     rintro e w32 ⟨v268, rfl, ho0, hb⟩
     refine ⟨_, rfl, ?_⟩
     have HO269 := Aside0.mk (Kd.R_lower (Kd.R_new' ho0 (Kd.R_lt (zr HO262))) (below_size (zb HB)))
     replace HO262 := Aside0.mk (Kd.R_elder' (zr HO262) (Kd.R_base ho0) hb)
     replace BK256 := Aside0.mk (blk_below (g := gb256) (o := .cells #[.slice A0_0 l0_0.length c0_0, .int .i64 a0_1] 40 (0, 0)) (zk BK256) hb)
     replace BK257 := Aside0.mk (blk_below (g := gb257) (o := .cells #[.string a1_0, .string a1_1, .bool a1_2] 53 (0, 0)) (zk BK257) hb)
     replace BK271 := Aside0.mk (blk_below (g := gb271) (o := .cells #[.slice none 0 0, .int .i64 0] 25 (0, 0)) (zk BK271) hb)
     replace HB := Aside0.mk (below_step (zb HB) hb)
     (try clear hb)
     (try clear ho0)
     refine hK.out _ _ ⟨(blk_cell BK256.out 0).trans rfl, (blk_cell BK256.out 1).trans rfl, (blk_cell BK257.out 0).trans rfl, (blk_cell BK257.out 1).trans rfl, (blk_cell BK257.out 2).trans rfl⟩ (fun hHeld => ?_)
     clear hK K
     refine nm ?_
     exact norm_ (by simp only [putAll, Act.put, s1, s2, s3]) (hCont (.slice Ao31 t260.length co31, v268, gb271) _ ⟨hHeld, (by (with_reducible repeat (first | apply Kd.R_alloc | apply Kd.R_drewN | apply Kd.R_drew)); exact Kd.R_mono HO262.out (fun _ hk => hk.2)), (by (with_reducible repeat (first | apply Kd.R_alloc | apply Kd.R_drewN | apply Kd.R_drew)); exact Kd.R_mono HO269.out (fun _ hk => hk.2)), (zk BK256), (zk BK257), (zk BK271), GW271.out, GE271.out, NB256_271.out, NB271_256.out, NB257_271.out, NB271_257.out, (zb HB)⟩)
   rintro ⟨v261, v268, gb271⟩ w33 ⟨hS_, h0_, h1_, h2_, h3_, h4_, h5_, h6_, h7_, h8_, h9_, h10_, h11_⟩
   have n0_ : Aside0 (Kd.R k36 36 w33 w.heap.size (fun k_ => some k_ ≠ (v268 : Value).ownBlock) v261 t260) := ⟨h0_⟩
   have n1_ : Aside0 (Kd.R k36 36 w33 w.heap.size (fun k_ => some k_ ≠ (v261 : Value).ownBlock) v268 t267) := ⟨h1_⟩
   have n2_ : Aside0 (w33.heap[gb256]? = some (.cells #[.slice A0_0 l0_0.length c0_0, .int .i64 a0_1] 40 (0, 0))) := ⟨h2_⟩
   have n3_ : Aside0 (w33.heap[gb257]? = some (.cells #[.string a1_0, .string a1_1, .bool a1_2] 53 (0, 0))) := ⟨h3_⟩
   have n4_ : Aside0 (w33.heap[gb271]? = some (.cells #[.slice none 0 0, .int .i64 0] 25 (0, 0))) := ⟨h4_⟩
   have n5_ : Aside0 (w.heap.size ≤ gb271) := ⟨h5_⟩
   have n6_ : Aside0 (w.heap.size ≤ gb271) := ⟨h6_⟩
   have n7_ : Aside0 (gb256 ≠ gb271) := ⟨h7_⟩
   have n8_ : Aside0 (gb271 ≠ gb256) := ⟨h8_⟩
   have n9_ : Aside0 (gb257 ≠ gb271) := ⟨h9_⟩
   have n10_ : Aside0 (gb271 ≠ gb257) := ⟨h10_⟩
   have n11_ : Aside0 (Below w.heap.size w w33) := ⟨h11_⟩
   clear BK256
   clear BK257
   clear HB
   clear h0_ h1_ h2_ h3_ h4_ h5_ h6_ h7_ h8_ h9_ h10_ h11_
   have HO262 := n0_
   have HO269 := n1_
   have BK256 := n2_
   have BK257 := n3_
   have BK271 := n4_
   have GW271 := n5_
   have GE271 := n6_
   have NB256_271 := n7_
   have NB271_256 := n8_
   have NB257_271 := n9_
   have NB271_257 := n10_
   have HB := n11_
   clear n0_ n1_ n2_ n3_ n4_ n5_ n6_ n7_ n8_ n9_ n10_ n11_
   have hHeld : w33.cell? ⟨gb256, 0, none⟩ = some (.slice A0_0 l0_0.length c0_0) ∧ w33.cell? ⟨gb256, 1, none⟩ = some (.int .i64 a0_1) ∧ w33.cell? ⟨gb257, 0, none⟩ = some (.string a1_0) ∧ w33.cell? ⟨gb257, 1, none⟩ = some (.string a1_1) ∧ w33.cell? ⟨gb257, 2, none⟩ = some (.bool a1_2) := hS_
   obtain ⟨Ao34, co34, eo34⟩ := Kd.R_slice HO269.out
   (first | subst eo34 | (injection eo34 with f1_ f2_ f3_; have f4_ := f1_.symm; have f5_ := f3_.symm; clear f1_ f2_ f3_; subst f4_; subst f5_))
   refine norm_ (a' := ?_) ?_ ?_
   rotate_left
   ·simp only [putAll, Act.put, s1, s2, s3]
    rfl
   refine one_ (i := 6) (N := none) (bm 7 127) rfl rfl (by kernel_rfl) (by decide) (fun K hK => ?_)
   have hs35 : w33.cell? ⟨gb271, 0, none⟩ = some (.slice none 0 0) := (blk_cell BK271.out 0).trans rfl
   have hfs35 := blk_frozen BK271.out 0
   have hns35_0 := NB256_271.out
   have hns35_1 := NB257_271.out
   have hms35_0 := NB271_256.out
   have hms35_1 := NB271_257.out
   have hs36 : w33.cell? ⟨gb271, 1, none⟩ = some (.int .i64 0) := (blk_cell BK271.out 1).trans rfl
   have hfs36 := blk_frozen BK271.out 1
   have hns36_0 := NB256_271.out
   have hns36_1 := NB257_271.out
   have hms36_0 := NB271_256.out
   have hms36_1 := NB271_257.out
   refine skip_ (w1 := ?_) (by rfl) rfl ?_ ?_
   rotate_left
   ·go_simp
    rfl
   refine hK.out _ _ ⟨((cell_far (p := ⟨gb271, _, none⟩) NB256_271.out _).trans (((cell_far (p := ⟨gb271, _, none⟩) NB256_271.out _).trans (hHeld.1)))), ((cell_far (p := ⟨gb271, _, none⟩) NB256_271.out _).trans (((cell_far (p := ⟨gb271, _, none⟩) NB256_271.out _).trans (hHeld.2.1)))), ((cell_far (p := ⟨gb271, _, none⟩) NB257_271.out _).trans (((cell_far (p := ⟨gb271, _, none⟩) NB257_271.out _).trans (hHeld.2.2.1)))), ((cell_far (p := ⟨gb271, _, none⟩) NB257_271.out _).trans (((cell_far (p := ⟨gb271, _, none⟩) NB257_271.out _).trans (hHeld.2.2.2.1)))), ((cell_far (p := ⟨gb271, _, none⟩) NB257_271.out _).trans (((cell_far (p := ⟨gb271, _, none⟩) NB257_271.out _).trans (hHeld.2.2.2.2))))⟩ (fun hHeld => ?_)
   clear hK K
   refine done_ (by kernel_rfl) ?_
   have hnb37 := NB256_271.out
   have hnc37 := NB271_256.out
   have hcz38_0 : w33.cell? ⟨gb256, 0, none⟩ = some (.slice A0_0 l0_0.length c0_0) := (blk_cell BK256.out 0).trans rfl
   have hcz38_1 : w33.cell? ⟨gb256, 1, none⟩ = some (.int .i64 a0_1) := (blk_cell BK256.out 1).trans rfl
   have hfz38_0 := blk_frozen BK256.out 0
   have hfz38_1 := blk_frozen BK256.out 1
   try go_wp2_with (first | ((with_reducible refine gq 25 rfl ?_); refine gl (some 29) Try.func25 #[.agg #[.slice A0_0 l0_0.length c0_0, .int .i64 a0_1]] ?_; (with_reducible refine (laws_toTable.calls k _ _ l0_0 a0_1 t272 t275 _ ?side1 ?side2 A19.out).mono ?_); (case side1 => exact Kd.C_below HR0_0.out (zb HB)); (case side2 => exact HC0_0.out); rintro e w39 ⟨v273, rfl, ho0, hb⟩; refine ⟨_, rfl, ?_⟩; have HO274 := Aside0.mk (Kd.R_lower (Kd.R_new' (Kd.R_new' ho0 (Kd.R_lt (by (with_reducible repeat (first | apply Kd.R_alloc | apply Kd.R_drewN | apply Kd.R_drew)); exact (Kd.R_mono (Kd.R_far (p := ⟨gb271, 1, none⟩) (Kd.R_far (p := ⟨gb271, 0, none⟩) (Kd.R_types HO262.out BK271.out (by decide)) (fun _ hk => hk.2) (.slice Ao34 t267.length co34)) (fun _ hk => hk.2) (.int .i64 t270)) (fun _ h_ => h_.1))))) (Kd.R_lt (by (with_reducible repeat (first | apply Kd.R_alloc | apply Kd.R_drewN | apply Kd.R_drew)); exact (Kd.R_mono (Kd.R_far (p := ⟨gb271, 1, none⟩) (Kd.R_far (p := ⟨gb271, 0, none⟩) (Kd.R_types HO269.out BK271.out (by decide)) (fun _ hk => hk.2) (.slice Ao34 t267.length co34)) (fun _ hk => hk.2) (.int .i64 t270)) (fun _ h_ => h_.1))))) (below_size (zb HB))); replace HO262 := Aside0.mk (Kd.R_elder' (by (with_reducible repeat (first | apply Kd.R_alloc | apply Kd.R_drewN | apply Kd.R_drew)); exact (Kd.R_mono (Kd.R_far (p := ⟨gb271, 1, none⟩) (Kd.R_far (p := ⟨gb271, 0, none⟩) (Kd.R_types HO262.out BK271.out (by decide)) (fun _ hk => hk.2) (.slice Ao34 t267.length co34)) (fun _ hk => hk.2) (.int .i64 t270)) (fun _ h_ => h_.1))) (Kd.R_base ho0) hb); replace HO269 := Aside0.mk (Kd.R_elder' (by (with_reducible repeat (first | apply Kd.R_alloc | apply Kd.R_drewN | apply Kd.R_drew)); exact (Kd.R_mono (Kd.R_far (p := ⟨gb271, 1, none⟩) (Kd.R_far (p := ⟨gb271, 0, none⟩) (Kd.R_types HO269.out BK271.out (by decide)) (fun _ hk => hk.2) (.slice Ao34 t267.length co34)) (fun _ hk => hk.2) (.int .i64 t270)) (fun _ h_ => h_.1))) (Kd.R_base ho0) hb); replace BK256 := Aside0.mk (blk_below (g := gb256) (o := .cells #[.slice A0_0 l0_0.length c0_0, .int .i64 a0_1] 40 (0, 0)) (by (with_reducible repeat (first | refine blk_drewN ?_ _ | refine blk_drew ?_ | refine blk_alloc ?_ _)); refine blk_far ?_ NB256_271.out _; (with_reducible repeat (first | refine blk_drewN ?_ _ | refine blk_drew ?_ | refine blk_alloc ?_ _)); refine blk_far ?_ NB256_271.out _; exact zk BK256) hb); replace BK257 := Aside0.mk (blk_below (g := gb257) (o := .cells #[.string a1_0, .string a1_1, .bool a1_2] 53 (0, 0)) (by (with_reducible repeat (first | refine blk_drewN ?_ _ | refine blk_drew ?_ | refine blk_alloc ?_ _)); refine blk_far ?_ NB257_271.out _; (with_reducible repeat (first | refine blk_drewN ?_ _ | refine blk_drew ?_ | refine blk_alloc ?_ _)); refine blk_far ?_ NB257_271.out _; exact zk BK257) hb); replace BK271 := Aside0.mk (blk_below (g := gb271) (o := .cells #[.slice Ao34 t267.length co34, .int .i64 t270] 25 (0, 0)) (by (with_reducible repeat (first | refine blk_drewN ?_ _ | refine blk_drew ?_ | refine blk_alloc ?_ _)); refine blk_put (cs := #[.slice Ao34 t267.length co34, .int .i64 0]) ?_ 1 _ rfl; (with_reducible repeat (first | refine blk_drewN ?_ _ | refine blk_drew ?_ | refine blk_alloc ?_ _)); refine blk_put (cs := #[.slice none 0 0, .int .i64 0]) ?_ 0 _ rfl; exact zk BK271) hb); replace HB := Aside0.mk (below_step (zb HB) hb); (try clear hb); (try clear ho0)) | ((with_reducible refine gd 7 rfl ?_); refine bx (N := 7) (cs := #[.slice none 0 0, .int .i64 0]) (t := 25) ?_; intro gb276 hg w40 hbox hb; replace HO262 := Aside0.mk (Kd.R_below (zr HO262) hb); replace HO269 := Aside0.mk (Kd.R_below (zr HO269) hb); replace HO274 := Aside0.mk (Kd.R_below (zr HO274) hb); have BK276 := Aside0.mk (hbox); have GW276 := Aside0.mk ((by rw [hg]; exact (below_size (zb HB)) : w.heap.size ≤ gb276)); have GE276 := Aside0.mk ((by rw [hg]; exact (below_size (zb HB)) : w.heap.size ≤ gb276)); replace HB := Aside0.mk (below_step (zb HB) hb); have NB256_276 := Aside0.mk ((by rw [hg]; exact Nat.ne_of_lt (blk_lt (g := gb256) (o := .cells #[.slice A0_0 l0_0.length c0_0, .int .i64 a0_1] 40 (0, 0)) (zk BK256)) : gb256 ≠ gb276)); have NB276_256 := Aside0.mk ((by rw [hg]; exact Nat.ne_of_gt (blk_lt (g := gb256) (o := .cells #[.slice A0_0 l0_0.length c0_0, .int .i64 a0_1] 40 (0, 0)) (zk BK256)) : gb276 ≠ gb256)); replace BK256 := Aside0.mk (blk_below (g := gb256) (o := .cells #[.slice A0_0 l0_0.length c0_0, .int .i64 a0_1] 40 (0, 0)) (zk BK256) hb); have NB257_276 := Aside0.mk ((by rw [hg]; exact Nat.ne_of_lt (blk_lt (g := gb257) (o := .cells #[.string a1_0, .string a1_1, .bool a1_2] 53 (0, 0)) (zk BK257)) : gb257 ≠ gb276)); have NB276_257 := Aside0.mk ((by rw [hg]; exact Nat.ne_of_gt (blk_lt (g := gb257) (o := .cells #[.string a1_0, .string a1_1, .bool a1_2] 53 (0, 0)) (zk BK257)) : gb276 ≠ gb257)); replace BK257 := Aside0.mk (blk_below (g := gb257) (o := .cells #[.string a1_0, .string a1_1, .bool a1_2] 53 (0, 0)) (zk BK257) hb); have NB271_276 := Aside0.mk ((by rw [hg]; exact Nat.ne_of_lt (blk_lt (g := gb271) (o := .cells #[.slice Ao34 t267.length co34, .int .i64 t270] 25 (0, 0)) (zk BK271)) : gb271 ≠ gb276)); have NB276_271 := Aside0.mk ((by rw [hg]; exact Nat.ne_of_gt (blk_lt (g := gb271) (o := .cells #[.slice Ao34 t267.length co34, .int .i64 t270] 25 (0, 0)) (zk BK271)) : gb276 ≠ gb271)); replace BK271 := Aside0.mk (blk_below (g := gb271) (o := .cells #[.slice Ao34 t267.length co34, .int .i64 t270] 25 (0, 0)) (zk BK271) hb); clear hb hbox hg; obtain ⟨Ao41, co41, eo41⟩ := Kd.R_slice HO274.out; subst eo41; have hnb42 := NB276_256.out; have hnc42 := NB256_276.out; have hnb43 := NB276_257.out; have hnc43 := NB257_276.out; have hnb44 := NB276_271.out; have hnc44 := NB271_276.out; have hcz45_0 : w40.cell? ⟨gb276, 0, none⟩ = some (.slice none 0 0) := (blk_cell BK276.out 0).trans rfl; have hcz45_1 : w40.cell? ⟨gb276, 1, none⟩ = some (.int .i64 0) := (blk_cell BK276.out 1).trans rfl; have hfz45_0 := blk_frozen BK276.out 0; have hfz45_1 := blk_frozen BK276.out 1))
   have n0_ : Aside0 (Kd.R k36 36 ((w40.setCell ⟨gb276, 0, none⟩ (.slice Ao41 t272.length co41)).setCell ⟨gb276, 1, none⟩ (.int .i64 t275)) w.heap.size (fun k_ => some k_ ≠ (.slice Ao34 t267.length co34 : Value).ownBlock ∧ some k_ ≠ (.slice Ao41 t272.length co41 : Value).ownBlock) v261 t260) := ⟨by (with_reducible repeat (first | apply Kd.R_alloc | apply Kd.R_drewN | apply Kd.R_drew)); exact Kd.R_mono (Kd.R_far (p := ⟨gb276, 1, none⟩) (Kd.R_far (p := ⟨gb276, 0, none⟩) (Kd.R_types HO262.out BK276.out (by decide)) (fun _ hk => hk.2) (.slice Ao41 t272.length co41)) (fun _ hk => hk.2) (.int .i64 t275)) (fun _ hk => ⟨hk.1.1, hk.1.2⟩)⟩
   have n1_ : Aside0 (Kd.R k36 36 ((w40.setCell ⟨gb276, 0, none⟩ (.slice Ao41 t272.length co41)).setCell ⟨gb276, 1, none⟩ (.int .i64 t275)) w.heap.size (fun k_ => some k_ ≠ (v261 : Value).ownBlock ∧ some k_ ≠ (.slice Ao41 t272.length co41 : Value).ownBlock) (.slice Ao34 t267.length co34) t267) := ⟨by (with_reducible repeat (first | apply Kd.R_alloc | apply Kd.R_drewN | apply Kd.R_drew)); exact Kd.R_mono (Kd.R_far (p := ⟨gb276, 1, none⟩) (Kd.R_far (p := ⟨gb276, 0, none⟩) (Kd.R_types HO269.out BK276.out (by decide)) (fun _ hk => hk.2) (.slice Ao41 t272.length co41)) (fun _ hk => hk.2) (.int .i64 t275)) (fun _ hk => ⟨hk.1.1, hk.1.2⟩)⟩
   have n2_ : Aside0 (Kd.R k36 36 ((w40.setCell ⟨gb276, 0, none⟩ (.slice Ao41 t272.length co41)).setCell ⟨gb276, 1, none⟩ (.int .i64 t275)) w.heap.size (fun k_ => some k_ ≠ (v261 : Value).ownBlock ∧ some k_ ≠ (.slice Ao34 t267.length co34 : Value).ownBlock) (.slice Ao41 t272.length co41) t272) := ⟨by (with_reducible repeat (first | apply Kd.R_alloc | apply Kd.R_drewN | apply Kd.R_drew)); exact Kd.R_mono (Kd.R_far (p := ⟨gb276, 1, none⟩) (Kd.R_far (p := ⟨gb276, 0, none⟩) (Kd.R_types HO274.out BK276.out (by decide)) (fun _ hk => hk.2) (.slice Ao41 t272.length co41)) (fun _ hk => hk.2) (.int .i64 t275)) (fun _ hk => ⟨hk.1.1.2, hk.1.2⟩)⟩
   have n3_ : Aside0 (((w40.setCell ⟨gb276, 0, none⟩ (.slice Ao41 t272.length co41)).setCell ⟨gb276, 1, none⟩ (.int .i64 t275)).heap[gb256]? = some (.cells #[.slice A0_0 l0_0.length c0_0, .int .i64 a0_1] 40 (0, 0))) := ⟨by (with_reducible repeat (first | refine blk_drewN ?_ _ | refine blk_drew ?_ | refine blk_alloc ?_ _)); refine blk_far ?_ NB256_276.out _; (with_reducible repeat (first | refine blk_drewN ?_ _ | refine blk_drew ?_ | refine blk_alloc ?_ _)); refine blk_far ?_ NB256_276.out _; exact zk BK256⟩
   have n4_ : Aside0 (((w40.setCell ⟨gb276, 0, none⟩ (.slice Ao41 t272.length co41)).setCell ⟨gb276, 1, none⟩ (.int .i64 t275)).heap[gb257]? = some (.cells #[.string a1_0, .string a1_1, .bool a1_2] 53 (0, 0))) := ⟨by (with_reducible repeat (first | refine blk_drewN ?_ _ | refine blk_drew ?_ | refine blk_alloc ?_ _)); refine blk_far ?_ NB257_276.out _; (with_reducible repeat (first | refine blk_drewN ?_ _ | refine blk_drew ?_ | refine blk_alloc ?_ _)); refine blk_far ?_ NB257_276.out _; exact zk BK257⟩
   have n5_ : Aside0 (((w40.setCell ⟨gb276, 0, none⟩ (.slice Ao41 t272.length co41)).setCell ⟨gb276, 1, none⟩ (.int .i64 t275)).heap[gb271]? = some (.cells #[.slice Ao34 t267.length co34, .int .i64 t270] 25 (0, 0))) := ⟨by (with_reducible repeat (first | refine blk_drewN ?_ _ | refine blk_drew ?_ | refine blk_alloc ?_ _)); refine blk_far ?_ NB271_276.out _; (with_reducible repeat (first | refine blk_drewN ?_ _ | refine blk_drew ?_ | refine blk_alloc ?_ _)); refine blk_far ?_ NB271_276.out _; exact zk BK271⟩
   have n6_ : Aside0 (((w40.setCell ⟨gb276, 0, none⟩ (.slice Ao41 t272.length co41)).setCell ⟨gb276, 1, none⟩ (.int .i64 t275)).heap[gb276]? = some (.cells #[.slice Ao41 t272.length co41, .int .i64 t275] 25 (0, 0))) := ⟨by (with_reducible repeat (first | refine blk_drewN ?_ _ | refine blk_drew ?_ | refine blk_alloc ?_ _)); refine blk_put (cs := #[.slice Ao41 t272.length co41, .int .i64 0]) ?_ 1 _ rfl; (with_reducible repeat (first | refine blk_drewN ?_ _ | refine blk_drew ?_ | refine blk_alloc ?_ _)); refine blk_put (cs := #[.slice none 0 0, .int .i64 0]) ?_ 0 _ rfl; exact zk BK276⟩
   have n7_ : Aside0 (Below w.heap.size w ((w40.setCell ⟨gb276, 0, none⟩ (.slice Ao41 t272.length co41)).setCell ⟨gb276, 1, none⟩ (.int .i64 t275))) := ⟨zb HB⟩
   (try clear HO262)
   (try clear HO269)
   (try clear HO274)
   (try clear BK256)
   (try clear BK257)
   (try clear BK271)
   (try clear BK276)
   (try clear HB)
   generalize ((w40.setCell ⟨gb276, 0, none⟩ (.slice Ao41 t272.length co41)).setCell ⟨gb276, 1, none⟩ (.int .i64 t275)) = w46 at n0_ n1_ n2_ n3_ n4_ n5_ n6_ n7_ ⊢
   have HO262 := n0_
   have HO269 := n1_
   have HO274 := n2_
   have BK256 := n3_
   have BK257 := n4_
   have BK271 := n5_
   have BK276 := n6_
   have HB := n7_
   clear n0_ n1_ n2_ n3_ n4_ n5_ n6_ n7_
   replace HO262 := Aside0.mk (Kd.R_drew HO262.out)
   replace HO269 := Aside0.mk (Kd.R_drew HO269.out)
   replace HO274 := Aside0.mk (Kd.R_drew HO274.out)
   replace BK256 := Aside0.mk (blk_drew BK256.out)
   replace BK257 := Aside0.mk (blk_drew BK257.out)
   replace BK271 := Aside0.mk (blk_drew BK271.out)
   replace BK276 := Aside0.mk (blk_drew BK276.out)
   replace HB := Aside0.mk (below_drew1 HB.out)
   refine start_ (n := 6) (S := fun w' => w'.cell? ⟨gb276, 0, none⟩ = some (.slice Ao41 t272.length co41) ∧ w'.cell? ⟨gb276, 1, none⟩ = some (.int .i64 t275) ∧ w'.cell? ⟨gb257, 0, none⟩ = some (.string a1_0) ∧ w'.cell? ⟨gb257, 1, none⟩ = some (.string a1_1) ∧ w'.cell? ⟨gb257, 2, none⟩ = some (.bool a1_2)) (ds := []) #[false, false, false, false, false, false] (by kernel_rfl) rfl rfl ⟨(blk_cell BK276.out 0).trans rfl, (blk_cell BK276.out 1).trans rfl, (blk_cell BK257.out 0).trans rfl, (blk_cell BK257.out 1).trans rfl, (blk_cell BK257.out 2).trans rfl⟩ (fun hHeld => ?_)
   generalize w46.drew = w47 at HO262 HO269 HO274 BK256 BK257 BK271 BK276 HB hHeld ⊢
   refine tk5 0 (some 30) (bm 6 1) rfl rfl hHeld ?_
   refine tk5 1 (some 31) (bm 6 3) rfl rfl hHeld ?_
   refine join_ (σ := Value × Nat) 1 #[true, true, true, true, true, false] (fun s_ => [(32, .agg #[.string t277, .string t278, .bool t279]), (33, .agg #[s_.1, .int .i64 t283]), (8, .pointer (some ⟨s_.2, 0, none⟩))]) (fun s_ w' => (w'.cell? ⟨gb276, 0, none⟩ = some (.slice Ao41 t272.length co41) ∧ w'.cell? ⟨gb276, 1, none⟩ = some (.int .i64 t275) ∧ w'.cell? ⟨gb257, 0, none⟩ = some (.string a1_0) ∧ w'.cell? ⟨gb257, 1, none⟩ = some (.string a1_1) ∧ w'.cell? ⟨gb257, 2, none⟩ = some (.bool a1_2)) ∧ (Kd.R k36 36 w' w.heap.size (fun k_ => some k_ ≠ (.slice Ao34 t267.length co34 : Value).ownBlock ∧ some k_ ≠ (.slice Ao41 t272.length co41 : Value).ownBlock ∧ some k_ ≠ (s_.1 : Value).ownBlock) v261 t260) ∧ (Kd.R k36 36 w' w.heap.size (fun k_ => some k_ ≠ (v261 : Value).ownBlock ∧ some k_ ≠ (.slice Ao41 t272.length co41 : Value).ownBlock ∧ some k_ ≠ (s_.1 : Value).ownBlock) (.slice Ao34 t267.length co34) t267) ∧ (Kd.R k36 36 w' w.heap.size (fun k_ => some k_ ≠ (v261 : Value).ownBlock ∧ some k_ ≠ (.slice Ao34 t267.length co34 : Value).ownBlock ∧ some k_ ≠ (s_.1 : Value).ownBlock) (.slice Ao41 t272.length co41) t272) ∧ (Kd.R k36 36 w' w.heap.size (fun k_ => some k_ ≠ (v261 : Value).ownBlock ∧ some k_ ≠ (.slice Ao34 t267.length co34 : Value).ownBlock ∧ some k_ ≠ (.slice Ao41 t272.length co41 : Value).ownBlock) s_.1 t280) ∧ (w'.heap[gb256]? = some (.cells #[.slice A0_0 l0_0.length c0_0, .int .i64 a0_1] 40 (0, 0))) ∧ (w'.heap[gb257]? = some (.cells #[.string a1_0, .string a1_1, .bool a1_2] 53 (0, 0))) ∧ (w'.heap[gb271]? = some (.cells #[.slice Ao34 t267.length co34, .int .i64 t270] 25 (0, 0))) ∧ (w'.heap[gb276]? = some (.cells #[.slice Ao41 t272.length co41, .int .i64 t275] 25 (0, 0))) ∧ (w'.heap[s_.2]? = some (.cells #[.slice none 0 0, .int .i64 0] 25 (0, 0))) ∧ (w.heap.size ≤ s_.2) ∧ (w.heap.size ≤ s_.2) ∧ (gb256 ≠ s_.2) ∧ (s_.2 ≠ gb256) ∧ (gb257 ≠ s_.2) ∧ (s_.2 ≠ gb257) ∧ (gb271 ≠ s_.2) ∧ (s_.2 ≠ gb271) ∧ (gb276 ≠ s_.2) ∧ (s_.2 ≠ gb276) ∧ (Below w.heap.size w w')) ?_ ?_
   rotate_left
   ·intro hCont
    refine two_ (i := 2) (j := 4) (Ni := some 32) (Nj := some 8) #[true, true, true, false, false, false] #[true, true, false, false, true, false] rfl rfl rfl rfl (by kernel_rfl) (by decide) (by decide) (fun K hK => ?_) (fun K hK => ?_)
    ·skip
     refine gs Try.func36 #[.agg #[.string a1_0, .string a1_1, .bool a1_2]] ?_
     with_reducible refine (laws_toField.calls a1_0 a1_1 a1_2 t277 t278 t279 _ A20.out).mono ?_
     rintro e w48 ⟨rfl, hb⟩
     refine ⟨_, rfl, ?_⟩
     replace HO262 := Aside0.mk (Kd.R_below (zr HO262) hb)
     replace HO269 := Aside0.mk (Kd.R_below (zr HO269) hb)
     replace HO274 := Aside0.mk (Kd.R_below (zr HO274) hb)
     replace BK256 := Aside0.mk (blk_below (g := gb256) (o := .cells #[.slice A0_0 l0_0.length c0_0, .int .i64 a0_1] 40 (0, 0)) (zk BK256) hb)
     replace BK257 := Aside0.mk (blk_below (g := gb257) (o := .cells #[.string a1_0, .string a1_1, .bool a1_2] 53 (0, 0)) (zk BK257) hb)
     replace BK271 := Aside0.mk (blk_below (g := gb271) (o := .cells #[.slice Ao34 t267.length co34, .int .i64 t270] 25 (0, 0)) (zk BK271) hb)
     replace BK276 := Aside0.mk (blk_below (g := gb276) (o := .cells #[.slice Ao41 t272.length co41, .int .i64 t275] 25 (0, 0)) (zk BK276) hb)
     replace HB := Aside0.mk (below_step (zb HB) hb)
     (try clear hb)
     refine hK.out _ _ ⟨(blk_cell BK276.out 0).trans rfl, (blk_cell BK276.out 1).trans rfl, (blk_cell BK257.out 0).trans rfl, (blk_cell BK257.out 1).trans rfl, (blk_cell BK257.out 2).trans rfl⟩ (fun hHeld => ?_)
     clear hK K
     refine nm ?_
     refine two_ (i := 3) (j := 4) (Ni := some 33) (Nj := some 8) #[true, true, true, true, false, false] #[true, true, true, false, true, false] rfl rfl rfl rfl (by kernel_rfl) (by decide) (by decide) (fun K hK => ?_) (fun K hK => ?_)
     ·skip
      refine gs Try.func30 #[.agg #[.slice Ao41 t272.length co41, .int .i64 t275], .agg #[.string t277, .string t278, .bool t279]] ?_
      with_reducible refine (impl_TableAdd.calls k _ _ t272 t275 t277 t278 t279 t280 t283 _ ?side1 ?side2 A21.out).mono ?_
      (case side1 => exact zc (Kd.R_reads' HO274.out).2.2)
      (case side2 => exact (Kd.R_reads' HO274.out).2.1)
      rintro e w49 ⟨v281, rfl, ho0, hb⟩
      refine ⟨_, rfl, ?_⟩
      have HO282 := Aside0.mk (Kd.R_lower (Kd.R_new' (Kd.R_new' (Kd.R_new' ho0 (Kd.R_lt (zr HO262))) (Kd.R_lt (zr HO269))) (Kd.R_lt (zr HO274))) (below_size (zb HB)))
      replace HO262 := Aside0.mk (Kd.R_elder' (zr HO262) (Kd.R_base ho0) hb)
      replace HO269 := Aside0.mk (Kd.R_elder' (zr HO269) (Kd.R_base ho0) hb)
      replace HO274 := Aside0.mk (Kd.R_elder' (zr HO274) (Kd.R_base ho0) hb)
      replace BK256 := Aside0.mk (blk_below (g := gb256) (o := .cells #[.slice A0_0 l0_0.length c0_0, .int .i64 a0_1] 40 (0, 0)) (zk BK256) hb)
      replace BK257 := Aside0.mk (blk_below (g := gb257) (o := .cells #[.string a1_0, .string a1_1, .bool a1_2] 53 (0, 0)) (zk BK257) hb)
      replace BK271 := Aside0.mk (blk_below (g := gb271) (o := .cells #[.slice Ao34 t267.length co34, .int .i64 t270] 25 (0, 0)) (zk BK271) hb)
      replace BK276 := Aside0.mk (blk_below (g := gb276) (o := .cells #[.slice Ao41 t272.length co41, .int .i64 t275] 25 (0, 0)) (zk BK276) hb)
      replace HB := Aside0.mk (below_step (zb HB) hb)
      (try clear hb)
      (try clear ho0)
      refine hK.out _ _ ⟨(blk_cell BK276.out 0).trans rfl, (blk_cell BK276.out 1).trans rfl, (blk_cell BK257.out 0).trans rfl, (blk_cell BK257.out 1).trans rfl, (blk_cell BK257.out 2).trans rfl⟩ (fun hHeld => ?_)
      clear hK K
      refine nm ?_
      refine one_ (i := 4) (N := some 8) (bm 6 31) rfl rfl (by kernel_rfl) (by decide) (fun K hK => ?_)
      refine box_step ?hg (N := 8) ?hd (cs := #[.slice none 0 0, .int .i64 0]) (t := 25) ?hr ?_; (case hd => rfl); (case hg => rfl); (case hr => first | (go_simp; done) | (go_simp; rfl))
      intro gb284 hg w50 hbox hb
      replace HO262 := Aside0.mk (Kd.R_below (zr HO262) hb)
      replace HO269 := Aside0.mk (Kd.R_below (zr HO269) hb)
      replace HO274 := Aside0.mk (Kd.R_below (zr HO274) hb)
      replace HO282 := Aside0.mk (Kd.R_below (zr HO282) hb)
      have BK284 := Aside0.mk (hbox)
      have GW284 := Aside0.mk ((by rw [hg]; exact (below_size (zb HB)) : w.heap.size ≤ gb284))
      have GE284 := Aside0.mk ((by rw [hg]; exact (below_size (zb HB)) : w.heap.size ≤ gb284))
      replace HB := Aside0.mk (below_step (zb HB) hb)
      have NB256_284 := Aside0.mk ((by rw [hg]; exact Nat.ne_of_lt (blk_lt (g := gb256) (o := .cells #[.slice A0_0 l0_0.length c0_0, .int .i64 a0_1] 40 (0, 0)) (zk BK256)) : gb256 ≠ gb284))
      have NB284_256 := Aside0.mk ((by rw [hg]; exact Nat.ne_of_gt (blk_lt (g := gb256) (o := .cells #[.slice A0_0 l0_0.length c0_0, .int .i64 a0_1] 40 (0, 0)) (zk BK256)) : gb284 ≠ gb256))
      replace BK256 := Aside0.mk (blk_below (g := gb256) (o := .cells #[.slice A0_0 l0_0.length c0_0, .int .i64 a0_1] 40 (0, 0)) (zk BK256) hb)
      have NB257_284 := Aside0.mk ((by rw [hg]; exact Nat.ne_of_lt (blk_lt (g := gb257) (o := .cells #[.string a1_0, .string a1_1, .bool a1_2] 53 (0, 0)) (zk BK257)) : gb257 ≠ gb284))
      have NB284_257 := Aside0.mk ((by rw [hg]; exact Nat.ne_of_gt (blk_lt (g := gb257) (o := .cells #[.string a1_0, .string a1_1, .bool a1_2] 53 (0, 0)) (zk BK257)) : gb284 ≠ gb257))
      replace BK257 := Aside0.mk (blk_below (g := gb257) (o := .cells #[.string a1_0, .string a1_1, .bool a1_2] 53 (0, 0)) (zk BK257) hb)
      have NB271_284 := Aside0.mk ((by rw [hg]; exact Nat.ne_of_lt (blk_lt (g := gb271) (o := .cells #[.slice Ao34 t267.length co34, .int .i64 t270] 25 (0, 0)) (zk BK271)) : gb271 ≠ gb284))
      have NB284_271 := Aside0.mk ((by rw [hg]; exact Nat.ne_of_gt (blk_lt (g := gb271) (o := .cells #[.slice Ao34 t267.length co34, .int .i64 t270] 25 (0, 0)) (zk BK271)) : gb284 ≠ gb271))
      replace BK271 := Aside0.mk (blk_below (g := gb271) (o := .cells #[.slice Ao34 t267.length co34, .int .i64 t270] 25 (0, 0)) (zk BK271) hb)
      have NB276_284 := Aside0.mk ((by rw [hg]; exact Nat.ne_of_lt (blk_lt (g := gb276) (o := .cells #[.slice Ao41 t272.length co41, .int .i64 t275] 25 (0, 0)) (zk BK276)) : gb276 ≠ gb284))
      have NB284_276 := Aside0.mk ((by rw [hg]; exact Nat.ne_of_gt (blk_lt (g := gb276) (o := .cells #[.slice Ao41 t272.length co41, .int .i64 t275] 25 (0, 0)) (zk BK276)) : gb284 ≠ gb276))
      replace BK276 := Aside0.mk (blk_below (g := gb276) (o := .cells #[.slice Ao41 t272.length co41, .int .i64 t275] 25 (0, 0)) (zk BK276) hb)
      clear hb hbox hg
      refine hK.out _ _ ⟨(blk_cell BK276.out 0).trans rfl, (blk_cell BK276.out 1).trans rfl, (blk_cell BK257.out 0).trans rfl, (blk_cell BK257.out 1).trans rfl, (blk_cell BK257.out 2).trans rfl⟩ (fun hHeld => ?_)
      clear hK K
      refine nm ?_
      exact norm_ (by simp only [putAll, Act.put, s1, s2, s3]) (hCont (v281, gb284) _ ⟨hHeld, (by (with_reducible repeat (first | apply Kd.R_alloc | apply Kd.R_drewN | apply Kd.R_drew)); exact Kd.R_mono HO262.out (fun _ hk => ⟨hk.1.1, ⟨hk.1.2, hk.2⟩⟩)), (by (with_reducible repeat (first | apply Kd.R_alloc | apply Kd.R_drewN | apply Kd.R_drew)); exact Kd.R_mono HO269.out (fun _ hk => ⟨hk.1.1, ⟨hk.1.2, hk.2⟩⟩)), (by (with_reducible repeat (first | apply Kd.R_alloc | apply Kd.R_drewN | apply Kd.R_drew)); exact Kd.R_mono HO274.out (fun _ hk => ⟨hk.1.1, ⟨hk.1.2, hk.2⟩⟩)), (by (with_reducible repeat (first | apply Kd.R_alloc | apply Kd.R_drewN | apply Kd.R_drew)); exact Kd.R_mono HO282.out (fun _ hk => ⟨hk.1.1.2, ⟨hk.1.2, hk.2⟩⟩)), (zk BK256), (zk BK257), (zk BK271), (zk BK276), (zk BK284), GW284.out, GE284.out, NB256_284.out, NB284_256.out, NB257_284.out, NB284_257.out, NB271_284.out, NB284_271.out, NB276_284.out, NB284_276.out, (zb HB)⟩)
     ·skip
      refine box_step ?hg (N := 8) ?hd (cs := #[.slice none 0 0, .int .i64 0]) (t := 25) ?hr ?_; (case hd => rfl); (case hg => rfl); (case hr => first | (go_simp; done) | (go_simp; rfl))
      intro gb284 hg w49 hbox hb
      replace HO262 := Aside0.mk (Kd.R_below (zr HO262) hb)
      replace HO269 := Aside0.mk (Kd.R_below (zr HO269) hb)
      replace HO274 := Aside0.mk (Kd.R_below (zr HO274) hb)
      have BK284 := Aside0.mk (hbox)
      have GW284 := Aside0.mk ((by rw [hg]; exact (below_size (zb HB)) : w.heap.size ≤ gb284))
      have GE284 := Aside0.mk ((by rw [hg]; exact (below_size (zb HB)) : w.heap.size ≤ gb284))
      replace HB := Aside0.mk (below_step (zb HB) hb)
      have NB256_284 := Aside0.mk ((by rw [hg]; exact Nat.ne_of_lt (blk_lt (g := gb256) (o := .cells #[.slice A0_0 l0_0.length c0_0, .int .i64 a0_1] 40 (0, 0)) (zk BK256)) : gb256 ≠ gb284))
      have NB284_256 := Aside0.mk ((by rw [hg]; exact Nat.ne_of_gt (blk_lt (g := gb256) (o := .cells #[.slice A0_0 l0_0.length c0_0, .int .i64 a0_1] 40 (0, 0)) (zk BK256)) : gb284 ≠ gb256))
      replace BK256 := Aside0.mk (blk_below (g := gb256) (o := .cells #[.slice A0_0 l0_0.length c0_0, .int .i64 a0_1] 40 (0, 0)) (zk BK256) hb)
      have NB257_284 := Aside0.mk ((by rw [hg]; exact Nat.ne_of_lt (blk_lt (g := gb257) (o := .cells #[.string a1_0, .string a1_1, .bool a1_2] 53 (0, 0)) (zk BK257)) : gb257 ≠ gb284))
      have NB284_257 := Aside0.mk ((by rw [hg]; exact Nat.ne_of_gt (blk_lt (g := gb257) (o := .cells #[.string a1_0, .string a1_1, .bool a1_2] 53 (0, 0)) (zk BK257)) : gb284 ≠ gb257))
      replace BK257 := Aside0.mk (blk_below (g := gb257) (o := .cells #[.string a1_0, .string a1_1, .bool a1_2] 53 (0, 0)) (zk BK257) hb)
      have NB271_284 := Aside0.mk ((by rw [hg]; exact Nat.ne_of_lt (blk_lt (g := gb271) (o := .cells #[.slice Ao34 t267.length co34, .int .i64 t270] 25 (0, 0)) (zk BK271)) : gb271 ≠ gb284))
      have NB284_271 := Aside0.mk ((by rw [hg]; exact Nat.ne_of_gt (blk_lt (g := gb271) (o := .cells #[.slice Ao34 t267.length co34, .int .i64 t270] 25 (0, 0)) (zk BK271)) : gb284 ≠ gb271))
      replace BK271 := Aside0.mk (blk_below (g := gb271) (o := .cells #[.slice Ao34 t267.length co34, .int .i64 t270] 25 (0, 0)) (zk BK271) hb)
      have NB276_284 := Aside0.mk ((by rw [hg]; exact Nat.ne_of_lt (blk_lt (g := gb276) (o := .cells #[.slice Ao41 t272.length co41, .int .i64 t275] 25 (0, 0)) (zk BK276)) : gb276 ≠ gb284))
      have NB284_276 := Aside0.mk ((by rw [hg]; exact Nat.ne_of_gt (blk_lt (g := gb276) (o := .cells #[.slice Ao41 t272.length co41, .int .i64 t275] 25 (0, 0)) (zk BK276)) : gb284 ≠ gb276))
      replace BK276 := Aside0.mk (blk_below (g := gb276) (o := .cells #[.slice Ao41 t272.length co41, .int .i64 t275] 25 (0, 0)) (zk BK276) hb)
      clear hb hbox hg
      refine hK.out _ _ ⟨(blk_cell BK276.out 0).trans rfl, (blk_cell BK276.out 1).trans rfl, (blk_cell BK257.out 0).trans rfl, (blk_cell BK257.out 1).trans rfl, (blk_cell BK257.out 2).trans rfl⟩ (fun hHeld => ?_)
      clear hK K
      refine nm ?_
      refine one_ (i := 3) (N := some 33) (bm 6 31) rfl rfl (by kernel_rfl) (by decide) (fun K hK => ?_)
      refine gs Try.func30 #[.agg #[.slice Ao41 t272.length co41, .int .i64 t275], .agg #[.string t277, .string t278, .bool t279]] ?_
      with_reducible refine (impl_TableAdd.calls k _ _ t272 t275 t277 t278 t279 t280 t283 _ ?side1 ?side2 A21.out).mono ?_
      (case side1 => exact zc (Kd.R_reads' HO274.out).2.2)
      (case side2 => exact (Kd.R_reads' HO274.out).2.1)
      rintro e w50 ⟨v281, rfl, ho0, hb⟩
      refine ⟨_, rfl, ?_⟩
      have HO282 := Aside0.mk (Kd.R_lower (Kd.R_new' (Kd.R_new' (Kd.R_new' ho0 (Kd.R_lt (zr HO262))) (Kd.R_lt (zr HO269))) (Kd.R_lt (zr HO274))) (below_size (zb HB)))
      replace HO262 := Aside0.mk (Kd.R_elder' (zr HO262) (Kd.R_base ho0) hb)
      replace HO269 := Aside0.mk (Kd.R_elder' (zr HO269) (Kd.R_base ho0) hb)
      replace HO274 := Aside0.mk (Kd.R_elder' (zr HO274) (Kd.R_base ho0) hb)
      replace BK256 := Aside0.mk (blk_below (g := gb256) (o := .cells #[.slice A0_0 l0_0.length c0_0, .int .i64 a0_1] 40 (0, 0)) (zk BK256) hb)
      replace BK257 := Aside0.mk (blk_below (g := gb257) (o := .cells #[.string a1_0, .string a1_1, .bool a1_2] 53 (0, 0)) (zk BK257) hb)
      replace BK271 := Aside0.mk (blk_below (g := gb271) (o := .cells #[.slice Ao34 t267.length co34, .int .i64 t270] 25 (0, 0)) (zk BK271) hb)
      replace BK276 := Aside0.mk (blk_below (g := gb276) (o := .cells #[.slice Ao41 t272.length co41, .int .i64 t275] 25 (0, 0)) (zk BK276) hb)
      replace BK284 := Aside0.mk (blk_below (g := gb284) (o := .cells #[.slice none 0 0, .int .i64 0] 25 (0, 0)) (zk BK284) hb)
      replace HB := Aside0.mk (below_step (zb HB) hb)
      (try clear hb)
      (try clear ho0)
      refine hK.out _ _ ⟨(blk_cell BK276.out 0).trans rfl, (blk_cell BK276.out 1).trans rfl, (blk_cell BK257.out 0).trans rfl, (blk_cell BK257.out 1).trans rfl, (blk_cell BK257.out 2).trans rfl⟩ (fun hHeld => ?_)
      clear hK K
      refine nm ?_
      exact norm_ (by simp only [putAll, Act.put, s1, s2, s3]) (hCont (v281, gb284) _ ⟨hHeld, (by (with_reducible repeat (first | apply Kd.R_alloc | apply Kd.R_drewN | apply Kd.R_drew)); exact Kd.R_mono HO262.out (fun _ hk => ⟨hk.1.1, ⟨hk.1.2, hk.2⟩⟩)), (by (with_reducible repeat (first | apply Kd.R_alloc | apply Kd.R_drewN | apply Kd.R_drew)); exact Kd.R_mono HO269.out (fun _ hk => ⟨hk.1.1, ⟨hk.1.2, hk.2⟩⟩)), (by (with_reducible repeat (first | apply Kd.R_alloc | apply Kd.R_drewN | apply Kd.R_drew)); exact Kd.R_mono HO274.out (fun _ hk => ⟨hk.1.1, ⟨hk.1.2, hk.2⟩⟩)), (by (with_reducible repeat (first | apply Kd.R_alloc | apply Kd.R_drewN | apply Kd.R_drew)); exact Kd.R_mono HO282.out (fun _ hk => ⟨hk.1.1.2, ⟨hk.1.2, hk.2⟩⟩)), (zk BK256), (zk BK257), (zk BK271), (zk BK276), (zk BK284), GW284.out, GE284.out, NB256_284.out, NB284_256.out, NB257_284.out, NB284_257.out, NB271_284.out, NB284_271.out, NB276_284.out, NB284_276.out, (zb HB)⟩)
    ·skip
     refine box_step ?hg (N := 8) ?hd (cs := #[.slice none 0 0, .int .i64 0]) (t := 25) ?hr ?_; (case hd => rfl); (case hg => rfl); (case hr => first | (go_simp; done) | (go_simp; rfl))
     intro gb284 hg w48 hbox hb
     replace HO262 := Aside0.mk (Kd.R_below (zr HO262) hb)
     replace HO269 := Aside0.mk (Kd.R_below (zr HO269) hb)
     replace HO274 := Aside0.mk (Kd.R_below (zr HO274) hb)
     have BK284 := Aside0.mk (hbox)
     have GW284 := Aside0.mk ((by rw [hg]; exact (below_size (zb HB)) : w.heap.size ≤ gb284))
     have GE284 := Aside0.mk ((by rw [hg]; exact (below_size (zb HB)) : w.heap.size ≤ gb284))
     replace HB := Aside0.mk (below_step (zb HB) hb)
     have NB256_284 := Aside0.mk ((by rw [hg]; exact Nat.ne_of_lt (blk_lt (g := gb256) (o := .cells #[.slice A0_0 l0_0.length c0_0, .int .i64 a0_1] 40 (0, 0)) (zk BK256)) : gb256 ≠ gb284))
     have NB284_256 := Aside0.mk ((by rw [hg]; exact Nat.ne_of_gt (blk_lt (g := gb256) (o := .cells #[.slice A0_0 l0_0.length c0_0, .int .i64 a0_1] 40 (0, 0)) (zk BK256)) : gb284 ≠ gb256))
     replace BK256 := Aside0.mk (blk_below (g := gb256) (o := .cells #[.slice A0_0 l0_0.length c0_0, .int .i64 a0_1] 40 (0, 0)) (zk BK256) hb)
     have NB257_284 := Aside0.mk ((by rw [hg]; exact Nat.ne_of_lt (blk_lt (g := gb257) (o := .cells #[.string a1_0, .string a1_1, .bool a1_2] 53 (0, 0)) (zk BK257)) : gb257 ≠ gb284))
     have NB284_257 := Aside0.mk ((by rw [hg]; exact Nat.ne_of_gt (blk_lt (g := gb257) (o := .cells #[.string a1_0, .string a1_1, .bool a1_2] 53 (0, 0)) (zk BK257)) : gb284 ≠ gb257))
     replace BK257 := Aside0.mk (blk_below (g := gb257) (o := .cells #[.string a1_0, .string a1_1, .bool a1_2] 53 (0, 0)) (zk BK257) hb)
     have NB271_284 := Aside0.mk ((by rw [hg]; exact Nat.ne_of_lt (blk_lt (g := gb271) (o := .cells #[.slice Ao34 t267.length co34, .int .i64 t270] 25 (0, 0)) (zk BK271)) : gb271 ≠ gb284))
     have NB284_271 := Aside0.mk ((by rw [hg]; exact Nat.ne_of_gt (blk_lt (g := gb271) (o := .cells #[.slice Ao34 t267.length co34, .int .i64 t270] 25 (0, 0)) (zk BK271)) : gb284 ≠ gb271))
     replace BK271 := Aside0.mk (blk_below (g := gb271) (o := .cells #[.slice Ao34 t267.length co34, .int .i64 t270] 25 (0, 0)) (zk BK271) hb)
     have NB276_284 := Aside0.mk ((by rw [hg]; exact Nat.ne_of_lt (blk_lt (g := gb276) (o := .cells #[.slice Ao41 t272.length co41, .int .i64 t275] 25 (0, 0)) (zk BK276)) : gb276 ≠ gb284))
     have NB284_276 := Aside0.mk ((by rw [hg]; exact Nat.ne_of_gt (blk_lt (g := gb276) (o := .cells #[.slice Ao41 t272.length co41, .int .i64 t275] 25 (0, 0)) (zk BK276)) : gb284 ≠ gb276))
     replace BK276 := Aside0.mk (blk_below (g := gb276) (o := .cells #[.slice Ao41 t272.length co41, .int .i64 t275] 25 (0, 0)) (zk BK276) hb)
     clear hb hbox hg
     refine hK.out _ _ ⟨(blk_cell BK276.out 0).trans rfl, (blk_cell BK276.out 1).trans rfl, (blk_cell BK257.out 0).trans rfl, (blk_cell BK257.out 1).trans rfl, (blk_cell BK257.out 2).trans rfl⟩ (fun hHeld => ?_)
     clear hK K
     refine nm ?_
     refine one_ (i := 2) (N := some 32) (bm 6 23) rfl rfl (by kernel_rfl) (by decide) (fun K hK => ?_)
     refine gs Try.func36 #[.agg #[.string a1_0, .string a1_1, .bool a1_2]] ?_
     with_reducible refine (laws_toField.calls a1_0 a1_1 a1_2 t277 t278 t279 _ A20.out).mono ?_
     rintro e w49 ⟨rfl, hb⟩
     refine ⟨_, rfl, ?_⟩
     replace HO262 := Aside0.mk (Kd.R_below (zr HO262) hb)
     replace HO269 := Aside0.mk (Kd.R_below (zr HO269) hb)
     replace HO274 := Aside0.mk (Kd.R_below (zr HO274) hb)
     replace BK256 := Aside0.mk (blk_below (g := gb256) (o := .cells #[.slice A0_0 l0_0.length c0_0, .int .i64 a0_1] 40 (0, 0)) (zk BK256) hb)
     replace BK257 := Aside0.mk (blk_below (g := gb257) (o := .cells #[.string a1_0, .string a1_1, .bool a1_2] 53 (0, 0)) (zk BK257) hb)
     replace BK271 := Aside0.mk (blk_below (g := gb271) (o := .cells #[.slice Ao34 t267.length co34, .int .i64 t270] 25 (0, 0)) (zk BK271) hb)
     replace BK276 := Aside0.mk (blk_below (g := gb276) (o := .cells #[.slice Ao41 t272.length co41, .int .i64 t275] 25 (0, 0)) (zk BK276) hb)
     replace BK284 := Aside0.mk (blk_below (g := gb284) (o := .cells #[.slice none 0 0, .int .i64 0] 25 (0, 0)) (zk BK284) hb)
     replace HB := Aside0.mk (below_step (zb HB) hb)
     (try clear hb)
     refine hK.out _ _ ⟨(blk_cell BK276.out 0).trans rfl, (blk_cell BK276.out 1).trans rfl, (blk_cell BK257.out 0).trans rfl, (blk_cell BK257.out 1).trans rfl, (blk_cell BK257.out 2).trans rfl⟩ (fun hHeld => ?_)
     clear hK K
     refine nm ?_
     refine one_ (i := 3) (N := some 33) (bm 6 31) rfl rfl (by kernel_rfl) (by decide) (fun K hK => ?_)
     refine gs Try.func30 #[.agg #[.slice Ao41 t272.length co41, .int .i64 t275], .agg #[.string t277, .string t278, .bool t279]] ?_
     with_reducible refine (impl_TableAdd.calls k _ _ t272 t275 t277 t278 t279 t280 t283 _ ?side1 ?side2 A21.out).mono ?_
     (case side1 => exact zc (Kd.R_reads' HO274.out).2.2)
     (case side2 => exact (Kd.R_reads' HO274.out).2.1)
     rintro e w50 ⟨v281, rfl, ho0, hb⟩
     refine ⟨_, rfl, ?_⟩
     have HO282 := Aside0.mk (Kd.R_lower (Kd.R_new' (Kd.R_new' (Kd.R_new' ho0 (Kd.R_lt (zr HO262))) (Kd.R_lt (zr HO269))) (Kd.R_lt (zr HO274))) (below_size (zb HB)))
     replace HO262 := Aside0.mk (Kd.R_elder' (zr HO262) (Kd.R_base ho0) hb)
     replace HO269 := Aside0.mk (Kd.R_elder' (zr HO269) (Kd.R_base ho0) hb)
     replace HO274 := Aside0.mk (Kd.R_elder' (zr HO274) (Kd.R_base ho0) hb)
     replace BK256 := Aside0.mk (blk_below (g := gb256) (o := .cells #[.slice A0_0 l0_0.length c0_0, .int .i64 a0_1] 40 (0, 0)) (zk BK256) hb)
     replace BK257 := Aside0.mk (blk_below (g := gb257) (o := .cells #[.string a1_0, .string a1_1, .bool a1_2] 53 (0, 0)) (zk BK257) hb)
     replace BK271 := Aside0.mk (blk_below (g := gb271) (o := .cells #[.slice Ao34 t267.length co34, .int .i64 t270] 25 (0, 0)) (zk BK271) hb)
     replace BK276 := Aside0.mk (blk_below (g := gb276) (o := .cells #[.slice Ao41 t272.length co41, .int .i64 t275] 25 (0, 0)) (zk BK276) hb)
     replace BK284 := Aside0.mk (blk_below (g := gb284) (o := .cells #[.slice none 0 0, .int .i64 0] 25 (0, 0)) (zk BK284) hb)
     replace HB := Aside0.mk (below_step (zb HB) hb)
     (try clear hb)
     (try clear ho0)
     refine hK.out _ _ ⟨(blk_cell BK276.out 0).trans rfl, (blk_cell BK276.out 1).trans rfl, (blk_cell BK257.out 0).trans rfl, (blk_cell BK257.out 1).trans rfl, (blk_cell BK257.out 2).trans rfl⟩ (fun hHeld => ?_)
     clear hK K
     refine nm ?_
     exact norm_ (by simp only [putAll, Act.put, s1, s2, s3]) (hCont (v281, gb284) _ ⟨hHeld, (by (with_reducible repeat (first | apply Kd.R_alloc | apply Kd.R_drewN | apply Kd.R_drew)); exact Kd.R_mono HO262.out (fun _ hk => ⟨hk.1.1, ⟨hk.1.2, hk.2⟩⟩)), (by (with_reducible repeat (first | apply Kd.R_alloc | apply Kd.R_drewN | apply Kd.R_drew)); exact Kd.R_mono HO269.out (fun _ hk => ⟨hk.1.1, ⟨hk.1.2, hk.2⟩⟩)), (by (with_reducible repeat (first | apply Kd.R_alloc | apply Kd.R_drewN | apply Kd.R_drew)); exact Kd.R_mono HO274.out (fun _ hk => ⟨hk.1.1, ⟨hk.1.2, hk.2⟩⟩)), (by (with_reducible repeat (first | apply Kd.R_alloc | apply Kd.R_drewN | apply Kd.R_drew)); exact Kd.R_mono HO282.out (fun _ hk => ⟨hk.1.1.2, ⟨hk.1.2, hk.2⟩⟩)), (zk BK256), (zk BK257), (zk BK271), (zk BK276), (zk BK284), GW284.out, GE284.out, NB256_284.out, NB284_256.out, NB257_284.out, NB284_257.out, NB271_284.out, NB284_271.out, NB276_284.out, NB284_276.out, (zb HB)⟩)
   rintro ⟨v281, gb284⟩ w51 ⟨hS_, h0_, h1_, h2_, h3_, h4_, h5_, h6_, h7_, h8_, h9_, h10_, h11_, h12_, h13_, h14_, h15_, h16_, h17_, h18_, h19_⟩
   have n0_ : Aside0 (Kd.R k36 36 w51 w.heap.size (fun k_ => some k_ ≠ (.slice Ao34 t267.length co34 : Value).ownBlock ∧ some k_ ≠ (.slice Ao41 t272.length co41 : Value).ownBlock ∧ some k_ ≠ (v281 : Value).ownBlock) v261 t260) := ⟨h0_⟩
   have n1_ : Aside0 (Kd.R k36 36 w51 w.heap.size (fun k_ => some k_ ≠ (v261 : Value).ownBlock ∧ some k_ ≠ (.slice Ao41 t272.length co41 : Value).ownBlock ∧ some k_ ≠ (v281 : Value).ownBlock) (.slice Ao34 t267.length co34) t267) := ⟨h1_⟩
   have n2_ : Aside0 (Kd.R k36 36 w51 w.heap.size (fun k_ => some k_ ≠ (v261 : Value).ownBlock ∧ some k_ ≠ (.slice Ao34 t267.length co34 : Value).ownBlock ∧ some k_ ≠ (v281 : Value).ownBlock) (.slice Ao41 t272.length co41) t272) := ⟨h2_⟩
   have n3_ : Aside0 (Kd.R k36 36 w51 w.heap.size (fun k_ => some k_ ≠ (v261 : Value).ownBlock ∧ some k_ ≠ (.slice Ao34 t267.length co34 : Value).ownBlock ∧ some k_ ≠ (.slice Ao41 t272.length co41 : Value).ownBlock) v281 t280) := ⟨h3_⟩
   have n4_ : Aside0 (w51.heap[gb256]? = some (.cells #[.slice A0_0 l0_0.length c0_0, .int .i64 a0_1] 40 (0, 0))) := ⟨h4_⟩
   have n5_ : Aside0 (w51.heap[gb257]? = some (.cells #[.string a1_0, .string a1_1, .bool a1_2] 53 (0, 0))) := ⟨h5_⟩
   have n6_ : Aside0 (w51.heap[gb271]? = some (.cells #[.slice Ao34 t267.length co34, .int .i64 t270] 25 (0, 0))) := ⟨h6_⟩
   have n7_ : Aside0 (w51.heap[gb276]? = some (.cells #[.slice Ao41 t272.length co41, .int .i64 t275] 25 (0, 0))) := ⟨h7_⟩
   have n8_ : Aside0 (w51.heap[gb284]? = some (.cells #[.slice none 0 0, .int .i64 0] 25 (0, 0))) := ⟨h8_⟩
   have n9_ : Aside0 (w.heap.size ≤ gb284) := ⟨h9_⟩
   have n10_ : Aside0 (w.heap.size ≤ gb284) := ⟨h10_⟩
   have n11_ : Aside0 (gb256 ≠ gb284) := ⟨h11_⟩
   have n12_ : Aside0 (gb284 ≠ gb256) := ⟨h12_⟩
   have n13_ : Aside0 (gb257 ≠ gb284) := ⟨h13_⟩
   have n14_ : Aside0 (gb284 ≠ gb257) := ⟨h14_⟩
   have n15_ : Aside0 (gb271 ≠ gb284) := ⟨h15_⟩
   have n16_ : Aside0 (gb284 ≠ gb271) := ⟨h16_⟩
   have n17_ : Aside0 (gb276 ≠ gb284) := ⟨h17_⟩
   have n18_ : Aside0 (gb284 ≠ gb276) := ⟨h18_⟩
   have n19_ : Aside0 (Below w.heap.size w w51) := ⟨h19_⟩
   clear HO262
   clear HO269
   clear HO274
   clear BK256
   clear BK257
   clear BK271
   clear BK276
   clear HB
   clear h0_ h1_ h2_ h3_ h4_ h5_ h6_ h7_ h8_ h9_ h10_ h11_ h12_ h13_ h14_ h15_ h16_ h17_ h18_ h19_
   have HO262 := n0_
   have HO269 := n1_
   have HO274 := n2_
   have HO282 := n3_
   have BK256 := n4_
   have BK257 := n5_
   have BK271 := n6_
   have BK276 := n7_
   have BK284 := n8_
   have GW284 := n9_
   have GE284 := n10_
   have NB256_284 := n11_
   have NB284_256 := n12_
   have NB257_284 := n13_
   have NB284_257 := n14_
   have NB271_284 := n15_
   have NB284_271 := n16_
   have NB276_284 := n17_
   have NB284_276 := n18_
   have HB := n19_
   clear n0_ n1_ n2_ n3_ n4_ n5_ n6_ n7_ n8_ n9_ n10_ n11_ n12_ n13_ n14_ n15_ n16_ n17_ n18_ n19_
   have hHeld : w51.cell? ⟨gb276, 0, none⟩ = some (.slice Ao41 t272.length co41) ∧ w51.cell? ⟨gb276, 1, none⟩ = some (.int .i64 t275) ∧ w51.cell? ⟨gb257, 0, none⟩ = some (.string a1_0) ∧ w51.cell? ⟨gb257, 1, none⟩ = some (.string a1_1) ∧ w51.cell? ⟨gb257, 2, none⟩ = some (.bool a1_2) := hS_
   obtain ⟨Ao52, co52, eo52⟩ := Kd.R_slice HO282.out
   (first | subst eo52 | (injection eo52 with f1_ f2_ f3_; have f4_ := f1_.symm; have f5_ := f3_.symm; clear f1_ f2_ f3_; subst f4_; subst f5_))
   refine norm_ (a' := ?_) ?_ ?_
   rotate_left
   ·simp only [putAll, Act.put, s1, s2, s3]
    rfl
   refine one_ (i := 5) (N := none) (bm 6 63) rfl rfl (by kernel_rfl) (by decide) (fun K hK => ?_)
   have hs53 : w51.cell? ⟨gb284, 0, none⟩ = some (.slice none 0 0) := (blk_cell BK284.out 0).trans rfl
   have hfs53 := blk_frozen BK284.out 0
   have hns53_0 := NB256_284.out
   have hns53_1 := NB257_284.out
   have hns53_2 := NB271_284.out
   have hns53_3 := NB276_284.out
   have hms53_0 := NB284_256.out
   have hms53_1 := NB284_257.out
   have hms53_2 := NB284_271.out
   have hms53_3 := NB284_276.out
   have hs54 : w51.cell? ⟨gb284, 1, none⟩ = some (.int .i64 0) := (blk_cell BK284.out 1).trans rfl
   have hfs54 := blk_frozen BK284.out 1
   have hns54_0 := NB256_284.out
   have hns54_1 := NB257_284.out
   have hns54_2 := NB271_284.out
   have hns54_3 := NB276_284.out
   have hms54_0 := NB284_256.out
   have hms54_1 := NB284_257.out
   have hms54_2 := NB284_271.out
   have hms54_3 := NB284_276.out
   refine skip_ (w1 := ?_) (by rfl) rfl ?_ ?_
   rotate_left
   ·go_simp
    rfl
   refine hK.out _ _ ⟨((cell_far (p := ⟨gb284, _, none⟩) NB276_284.out _).trans (((cell_far (p := ⟨gb284, _, none⟩) NB276_284.out _).trans (hHeld.1)))), ((cell_far (p := ⟨gb284, _, none⟩) NB276_284.out _).trans (((cell_far (p := ⟨gb284, _, none⟩) NB276_284.out _).trans (hHeld.2.1)))), ((cell_far (p := ⟨gb284, _, none⟩) NB257_284.out _).trans (((cell_far (p := ⟨gb284, _, none⟩) NB257_284.out _).trans (hHeld.2.2.1)))), ((cell_far (p := ⟨gb284, _, none⟩) NB257_284.out _).trans (((cell_far (p := ⟨gb284, _, none⟩) NB257_284.out _).trans (hHeld.2.2.2.1)))), ((cell_far (p := ⟨gb284, _, none⟩) NB257_284.out _).trans (((cell_far (p := ⟨gb284, _, none⟩) NB257_284.out _).trans (hHeld.2.2.2.2))))⟩ (fun hHeld => ?_)
   clear hK K
   refine done_ (by kernel_rfl) ?_
   have hnb55 := NB284_256.out
   have hnc55 := NB256_284.out
   have hnb56 := NB284_257.out
   have hnc56 := NB257_284.out
   have hnb57 := NB284_271.out
   have hnc57 := NB271_284.out
   have hnb58 := NB284_276.out
   have hnc58 := NB276_284.out
   have hcz59_0 : w51.cell? ⟨gb284, 0, none⟩ = some (.slice none 0 0) := (blk_cell BK284.out 0).trans rfl
   have hcz59_1 : w51.cell? ⟨gb284, 1, none⟩ = some (.int .i64 0) := (blk_cell BK284.out 1).trans rfl
   have hfz59_0 := blk_frozen BK284.out 0
   have hfz59_1 := blk_frozen BK284.out 1
   have hnb60 := NB271_257.out
   have hnc60 := NB257_271.out
   have hcz61_0 : w51.cell? ⟨gb271, 0, none⟩ = some (.slice Ao34 t267.length co34) := (blk_cell BK271.out 0).trans rfl
   have hcz61_1 : w51.cell? ⟨gb271, 1, none⟩ = some (.int .i64 t270) := (blk_cell BK271.out 1).trans rfl
   have hfz61_0 := blk_frozen BK271.out 0
   have hfz61_1 := blk_frozen BK271.out 1
   go_upto_if 37 with (first | ((with_reducible refine gq 26 rfl ?_); refine gl (some 36) Try.func26 #[.agg #[.slice Ao52 t280.length co52, .int .i64 t283], .agg #[.slice Ao34 t267.length co34, .int .i64 t270]] ?_; (with_reducible refine (laws_eqTable.calls k _ _ t280 t283 _ _ t267 t270 t285 _ ?side1 ?side2 ?side3 ?side4 A22.out).mono ?_); (case side1 => refine (Kd.R_reads' (e := 36) (base := w.heap.size) (ok := fun k_ => (some k_ ≠ (v261 : Value).ownBlock ∧ (some k_ ≠ (.slice Ao34 t267.length co34 : Value).ownBlock ∧ some k_ ≠ (.slice Ao41 t272.length co41 : Value).ownBlock))) (n := t280.length) (c := co52) ?_).2.2; exact (by (with_reducible repeat (first | apply Kd.R_alloc | apply Kd.R_drewN | apply Kd.R_drew)); exact (Kd.R_mono (Kd.R_far (p := ⟨gb284, 1, none⟩) (Kd.R_far (p := ⟨gb284, 0, none⟩) (Kd.R_types HO282.out BK284.out (by decide)) (fun _ hk => hk.2) (.slice Ao52 t280.length co52)) (fun _ hk => hk.2) (.int .i64 t283)) (fun _ h_ => h_.1)))); (case side2 => exact (Kd.R_reads' HO282.out).2.1); (case side3 => refine (Kd.R_reads' (e := 36) (base := w.heap.size) (ok := fun k_ => (some k_ ≠ (v261 : Value).ownBlock ∧ (some k_ ≠ (.slice Ao41 t272.length co41 : Value).ownBlock ∧ some k_ ≠ (.slice Ao52 t280.length co52 : Value).ownBlock))) (n := t267.length) (c := co34) ?_).2.2; exact (by (with_reducible repeat (first | apply Kd.R_alloc | apply Kd.R_drewN | apply Kd.R_drew)); exact (Kd.R_mono (Kd.R_far (p := ⟨gb284, 1, none⟩) (Kd.R_far (p := ⟨gb284, 0, none⟩) (Kd.R_types HO269.out BK284.out (by decide)) (fun _ hk => hk.2) (.slice Ao52 t280.length co52)) (fun _ hk => hk.2) (.int .i64 t283)) (fun _ h_ => h_.1)))); (case side4 => exact (Kd.R_reads' HO269.out).2.1); rintro e w62 ⟨rfl, hb⟩; refine ⟨_, rfl, ?_⟩; replace HO262 := Aside0.mk (Kd.R_below (by (with_reducible repeat (first | apply Kd.R_alloc | apply Kd.R_drewN | apply Kd.R_drew)); exact (Kd.R_mono (Kd.R_far (p := ⟨gb284, 1, none⟩) (Kd.R_far (p := ⟨gb284, 0, none⟩) (Kd.R_types HO262.out BK284.out (by decide)) (fun _ hk => hk.2) (.slice Ao52 t280.length co52)) (fun _ hk => hk.2) (.int .i64 t283)) (fun _ h_ => h_.1))) hb); replace HO269 := Aside0.mk (Kd.R_below (by (with_reducible repeat (first | apply Kd.R_alloc | apply Kd.R_drewN | apply Kd.R_drew)); exact (Kd.R_mono (Kd.R_far (p := ⟨gb284, 1, none⟩) (Kd.R_far (p := ⟨gb284, 0, none⟩) (Kd.R_types HO269.out BK284.out (by decide)) (fun _ hk => hk.2) (.slice Ao52 t280.length co52)) (fun _ hk => hk.2) (.int .i64 t283)) (fun _ h_ => h_.1))) hb); replace HO274 := Aside0.mk (Kd.R_below (by (with_reducible repeat (first | apply Kd.R_alloc | apply Kd.R_drewN | apply Kd.R_drew)); exact (Kd.R_mono (Kd.R_far (p := ⟨gb284, 1, none⟩) (Kd.R_far (p := ⟨gb284, 0, none⟩) (Kd.R_types HO274.out BK284.out (by decide)) (fun _ hk => hk.2) (.slice Ao52 t280.length co52)) (fun _ hk => hk.2) (.int .i64 t283)) (fun _ h_ => h_.1))) hb); replace HO282 := Aside0.mk (Kd.R_below (by (with_reducible repeat (first | apply Kd.R_alloc | apply Kd.R_drewN | apply Kd.R_drew)); exact (Kd.R_mono (Kd.R_far (p := ⟨gb284, 1, none⟩) (Kd.R_far (p := ⟨gb284, 0, none⟩) (Kd.R_types HO282.out BK284.out (by decide)) (fun _ hk => hk.2) (.slice Ao52 t280.length co52)) (fun _ hk => hk.2) (.int .i64 t283)) (fun _ h_ => h_.1))) hb); replace BK256 := Aside0.mk (blk_below (g := gb256) (o := .cells #[.slice A0_0 l0_0.length c0_0, .int .i64 a0_1] 40 (0, 0)) (by (with_reducible repeat (first | refine blk_drewN ?_ _ | refine blk_drew ?_ | refine blk_alloc ?_ _)); refine blk_far ?_ NB256_284.out _; (with_reducible repeat (first | refine blk_drewN ?_ _ | refine blk_drew ?_ | refine blk_alloc ?_ _)); refine blk_far ?_ NB256_284.out _; exact zk BK256) hb); replace BK257 := Aside0.mk (blk_below (g := gb257) (o := .cells #[.string a1_0, .string a1_1, .bool a1_2] 53 (0, 0)) (by (with_reducible repeat (first | refine blk_drewN ?_ _ | refine blk_drew ?_ | refine blk_alloc ?_ _)); refine blk_far ?_ NB257_284.out _; (with_reducible repeat (first | refine blk_drewN ?_ _ | refine blk_drew ?_ | refine blk_alloc ?_ _)); refine blk_far ?_ NB257_284.out _; exact zk BK257) hb); replace BK271 := Aside0.mk (blk_below (g := gb271) (o := .cells #[.slice Ao34 t267.length co34, .int .i64 t270] 25 (0, 0)) (by (with_reducible repeat (first | refine blk_drewN ?_ _ | refine blk_drew ?_ | refine blk_alloc ?_ _)); refine blk_far ?_ NB271_284.out _; (with_reducible repeat (first | refine blk_drewN ?_ _ | refine blk_drew ?_ | refine blk_alloc ?_ _)); refine blk_far ?_ NB271_284.out _; exact zk BK271) hb); replace BK276 := Aside0.mk (blk_below (g := gb276) (o := .cells #[.slice Ao41 t272.length co41, .int .i64 t275] 25 (0, 0)) (by (with_reducible repeat (first | refine blk_drewN ?_ _ | refine blk_drew ?_ | refine blk_alloc ?_ _)); refine blk_far ?_ NB276_284.out _; (with_reducible repeat (first | refine blk_drewN ?_ _ | refine blk_drew ?_ | refine blk_alloc ?_ _)); refine blk_far ?_ NB276_284.out _; exact zk BK276) hb); replace BK284 := Aside0.mk (blk_below (g := gb284) (o := .cells #[.slice Ao52 t280.length co52, .int .i64 t283] 25 (0, 0)) (by (with_reducible repeat (first | refine blk_drewN ?_ _ | refine blk_drew ?_ | refine blk_alloc ?_ _)); refine blk_put (cs := #[.slice Ao52 t280.length co52, .int .i64 0]) ?_ 1 _ rfl; (with_reducible repeat (first | refine blk_drewN ?_ _ | refine blk_drew ?_ | refine blk_alloc ?_ _)); refine blk_put (cs := #[.slice none 0 0, .int .i64 0]) ?_ 0 _ rfl; exact zk BK284) hb); replace HB := Aside0.mk (below_step (zb HB) hb); (try clear hb); (try clear hk)))
   (try simp only [Act.put, s1, s2, s3])
   have H := HC23.out
   clear HC23
   by_cases c63 : t285 = true
   ·subst c63
    have H1 : ((laws_toTable.f k l0_0 a0_1).bind fun bt286 => ((laws_eqTable.f k t272 t275 bt286.1 bt286.2).bind fun t290 => (if t290 = true then ((laws_markTable.f k t272 t275 1).bind fun bt291 => (if bt291.1 < 0 then (laws_FnExactTableAdd.j0 k true l0_0 a0_1 a1_0 a1_1 a1_2 t267 t270 t280 t283) else ((laws_eqTable.f k t280 t283 t267 t270).bind fun t293 => (laws_FnExactTableAdd.j0 k (!t293) l0_0 a0_1 a1_0 a1_1 a1_2 t267 t270 t280 t283)))) else (some false)))) = some r := by rw [if_pos rfl] at H; exact H
    clear H
    have H := H1
    clear H1
    replace H := Option.bind_eq_some_iff.mp H
    obtain ⟨⟨t286, t289⟩, A640, H⟩ := H
    replace H : ((laws_eqTable.f k t272 t275 t286 t289).bind fun t290 => (if t290 = true then ((laws_markTable.f k t272 t275 1).bind fun bt291 => (if bt291.1 < 0 then (laws_FnExactTableAdd.j0 k true l0_0 a0_1 a1_0 a1_1 a1_2 t267 t270 t280 t283) else ((laws_eqTable.f k t280 t283 t267 t270).bind fun t293 => (laws_FnExactTableAdd.j0 k (!t293) l0_0 a0_1 a1_0 a1_1 a1_2 t267 t270 t280 t283)))) else (some false))) = some r := H
    have A64 := Aside0.mk A640
    clear A640
    replace H := Option.bind_eq_some_iff.mp H
    obtain ⟨t290, A650, H⟩ := H
    replace H : (if t290 = true then ((laws_markTable.f k t272 t275 1).bind fun bt291 => (if bt291.1 < 0 then (laws_FnExactTableAdd.j0 k true l0_0 a0_1 a1_0 a1_1 a1_2 t267 t270 t280 t283) else ((laws_eqTable.f k t280 t283 t267 t270).bind fun t293 => (laws_FnExactTableAdd.j0 k (!t293) l0_0 a0_1 a1_0 a1_1 a1_2 t267 t270 t280 t283)))) else (some false)) = some r := H
    have A65 := Aside0.mk A650
    clear A650
    have HC66 := Aside0.mk H
    clear H
    try go_wp2
    replace HO262 := Aside0.mk (Kd.R_drew HO262.out)
    replace HO269 := Aside0.mk (Kd.R_drew HO269.out)
    replace HO274 := Aside0.mk (Kd.R_drew HO274.out)
    replace HO282 := Aside0.mk (Kd.R_drew HO282.out)
    replace BK256 := Aside0.mk (blk_drew BK256.out)
    replace BK257 := Aside0.mk (blk_drew BK257.out)
    replace BK271 := Aside0.mk (blk_drew BK271.out)
    replace BK276 := Aside0.mk (blk_drew BK276.out)
    replace BK284 := Aside0.mk (blk_drew BK284.out)
    replace HB := Aside0.mk (below_drew1 HB.out)
    refine start_ (n := 5) (S := fun w' => w'.cell? ⟨gb276, 0, none⟩ = some (.slice Ao41 t272.length co41) ∧ w'.cell? ⟨gb276, 1, none⟩ = some (.int .i64 t275) ∧ w'.cell? ⟨gb256, 0, none⟩ = some (.slice A0_0 l0_0.length c0_0) ∧ w'.cell? ⟨gb256, 1, none⟩ = some (.int .i64 a0_1)) (ds := []) #[false, false, false, false, false] (by kernel_rfl) rfl rfl ⟨(blk_cell BK276.out 0).trans rfl, (blk_cell BK276.out 1).trans rfl, (blk_cell BK256.out 0).trans rfl, (blk_cell BK256.out 1).trans rfl⟩ (fun hHeld => ?_)
    generalize w62.drew = w67 at HO262 HO269 HO274 HO282 BK256 BK257 BK271 BK276 BK284 HB hHeld ⊢
    refine tk4 0 (some 38) (bm 5 1) rfl rfl hHeld ?_
    refine tk4 1 (some 39) (bm 5 3) rfl rfl hHeld ?_
    refine one_ (i := 2) (N := some 40) (bm 5 7) rfl rfl (by kernel_rfl) (by decide) (fun K hK => ?_)
    refine gs Try.func25 #[.agg #[.slice A0_0 l0_0.length c0_0, .int .i64 a0_1]] ?_
    with_reducible refine (laws_toTable.calls k _ _ l0_0 a0_1 t286 t289 _ ?side1 ?side2 A64.out).mono ?_
    (case side1 => exact zc (Kd.C_below HR0_0.out HB.out))
    (case side2 => exact HC0_0.out)
    rintro e w68 ⟨v287, rfl, ho0, hb⟩
    refine ⟨_, rfl, ?_⟩
    have HO288 := Aside0.mk (Kd.R_lower (Kd.R_new' (Kd.R_new' (Kd.R_new' (Kd.R_new' ho0 (Kd.R_lt (zr HO262))) (Kd.R_lt (zr HO269))) (Kd.R_lt (zr HO274))) (Kd.R_lt (zr HO282))) (below_size (zb HB)))
    replace HO262 := Aside0.mk (Kd.R_elder' (zr HO262) (Kd.R_base ho0) hb)
    replace HO269 := Aside0.mk (Kd.R_elder' (zr HO269) (Kd.R_base ho0) hb)
    replace HO274 := Aside0.mk (Kd.R_elder' (zr HO274) (Kd.R_base ho0) hb)
    replace HO282 := Aside0.mk (Kd.R_elder' (zr HO282) (Kd.R_base ho0) hb)
    replace BK256 := Aside0.mk (blk_below (g := gb256) (o := .cells #[.slice A0_0 l0_0.length c0_0, .int .i64 a0_1] 40 (0, 0)) (zk BK256) hb)
    replace BK257 := Aside0.mk (blk_below (g := gb257) (o := .cells #[.string a1_0, .string a1_1, .bool a1_2] 53 (0, 0)) (zk BK257) hb)
    replace BK271 := Aside0.mk (blk_below (g := gb271) (o := .cells #[.slice Ao34 t267.length co34, .int .i64 t270] 25 (0, 0)) (zk BK271) hb)
    replace BK276 := Aside0.mk (blk_below (g := gb276) (o := .cells #[.slice Ao41 t272.length co41, .int .i64 t275] 25 (0, 0)) (zk BK276) hb)
    replace BK284 := Aside0.mk (blk_below (g := gb284) (o := .cells #[.slice Ao52 t280.length co52, .int .i64 t283] 25 (0, 0)) (zk BK284) hb)
    replace HB := Aside0.mk (below_step (zb HB) hb)
    (try clear hb)
    (try clear ho0)
    obtain ⟨Ao69, co69, eo69⟩ := Kd.R_slice HO288.out
    (first | subst eo69 | (injection eo69 with f1_ f2_ f3_; have f4_ := f1_.symm; have f5_ := f3_.symm; clear f1_ f2_ f3_; subst f4_; subst f5_))
    refine hK.out _ _ ⟨(blk_cell BK276.out 0).trans rfl, (blk_cell BK276.out 1).trans rfl, (blk_cell BK256.out 0).trans rfl, (blk_cell BK256.out 1).trans rfl⟩ (fun hHeld => ?_)
    clear hK K
    refine nm ?_
    refine one_ (i := 3) (N := some 41) (bm 5 15) rfl rfl (by kernel_rfl) (by decide) (fun K hK => ?_)
    refine gs Try.func26 #[.agg #[.slice Ao41 t272.length co41, .int .i64 t275], .agg #[.slice Ao69 t286.length co69, .int .i64 t289]] ?_
    with_reducible refine (laws_eqTable.calls k _ _ t272 t275 _ _ t286 t289 t290 _ ?side1 ?side2 ?side3 ?side4 A65.out).mono ?_
    (case side1 => exact zc (Kd.R_reads' HO274.out).2.2)
    (case side2 => exact (Kd.R_reads' HO274.out).2.1)
    (case side3 => exact zc (Kd.R_reads' HO288.out).2.2)
    (case side4 => exact (Kd.R_reads' HO288.out).2.1)
    rintro e w70 ⟨rfl, hb⟩
    refine ⟨_, rfl, ?_⟩
    replace HO262 := Aside0.mk (Kd.R_below (zr HO262) hb)
    replace HO269 := Aside0.mk (Kd.R_below (zr HO269) hb)
    replace HO274 := Aside0.mk (Kd.R_below (zr HO274) hb)
    replace HO282 := Aside0.mk (Kd.R_below (zr HO282) hb)
    replace HO288 := Aside0.mk (Kd.R_below (zr HO288) hb)
    replace BK256 := Aside0.mk (blk_below (g := gb256) (o := .cells #[.slice A0_0 l0_0.length c0_0, .int .i64 a0_1] 40 (0, 0)) (zk BK256) hb)
    replace BK257 := Aside0.mk (blk_below (g := gb257) (o := .cells #[.string a1_0, .string a1_1, .bool a1_2] 53 (0, 0)) (zk BK257) hb)
    replace BK271 := Aside0.mk (blk_below (g := gb271) (o := .cells #[.slice Ao34 t267.length co34, .int .i64 t270] 25 (0, 0)) (zk BK271) hb)
    replace BK276 := Aside0.mk (blk_below (g := gb276) (o := .cells #[.slice Ao41 t272.length co41, .int .i64 t275] 25 (0, 0)) (zk BK276) hb)
    replace BK284 := Aside0.mk (blk_below (g := gb284) (o := .cells #[.slice Ao52 t280.length co52, .int .i64 t283] 25 (0, 0)) (zk BK284) hb)
    replace HB := Aside0.mk (below_step (zb HB) hb)
    (try clear hb)
    refine hK.out _ _ ⟨(blk_cell BK276.out 0).trans rfl, (blk_cell BK276.out 1).trans rfl, (blk_cell BK256.out 0).trans rfl, (blk_cell BK256.out 1).trans rfl⟩ (fun hHeld => ?_)
    clear hK K
    refine nm ?_
    refine pu 4 (some 42) (bm 5 31) rfl rfl ?_
    refine done_ (by kernel_rfl) ?_
    go_upto_if 42 with (fail)
    have H := HC66.out
    clear HC66
    by_cases c71 : t290 = true
    ·subst c71
     have H1 : ((laws_markTable.f k t272 t275 1).bind fun bt291 => (if bt291.1 < 0 then (laws_FnExactTableAdd.j0 k true l0_0 a0_1 a1_0 a1_1 a1_2 t267 t270 t280 t283) else ((laws_eqTable.f k t280 t283 t267 t270).bind fun t293 => (laws_FnExactTableAdd.j0 k (!t293) l0_0 a0_1 a1_0 a1_1 a1_2 t267 t270 t280 t283)))) = some r := by rw [if_pos rfl] at H; exact H
     clear H
     have H := H1
     clear H1
     replace H := Option.bind_eq_some_iff.mp H
     obtain ⟨⟨t291, t292⟩, A720, H⟩ := H
     replace H : (if t291 < 0 then (laws_FnExactTableAdd.j0 k true l0_0 a0_1 a1_0 a1_1 a1_2 t267 t270 t280 t283) else ((laws_eqTable.f k t280 t283 t267 t270).bind fun t293 => (laws_FnExactTableAdd.j0 k (!t293) l0_0 a0_1 a1_0 a1_1 a1_2 t267 t270 t280 t283))) = some r := H
     have A72 := Aside0.mk A720
     clear A720
     have HC73 := Aside0.mk H
     clear H
     have hnb74 := NB276_256.out
     have hnc74 := NB256_276.out
     have hnb75 := NB276_257.out
     have hnc75 := NB257_276.out
     have hnb76 := NB276_271.out
     have hnc76 := NB271_276.out
     have hnb77 := NB276_284.out
     have hnc77 := NB284_276.out
     have hcz78_0 : w70.cell? ⟨gb276, 0, none⟩ = some (.slice Ao41 t272.length co41) := (blk_cell BK276.out 0).trans rfl
     have hcz78_1 : w70.cell? ⟨gb276, 1, none⟩ = some (.int .i64 t275) := (blk_cell BK276.out 1).trans rfl
     have hfz78_0 := blk_frozen BK276.out 0
     have hfz78_1 := blk_frozen BK276.out 1
     go_upto_region 17 with (first | ((with_reducible refine gq 27 rfl ?_); refine gl (some 45) Try.func27 #[.agg #[.slice Ao41 t272.length co41, .int .i64 t275], .int .i64 1] ?_; (with_reducible refine (laws_markTable.calls k (fun k_ => some k_ = (.slice Ao41 t272.length co41 : Value).ownBlock) (.slice Ao41 t272.length co41) t272 t275 1 t291 t292 w _ ?side1 ?side2 A72.out).mono ?_); (case side1 => exact zb HB); (case side2 => exact Kd.R_tight rfl HO274.out); rintro e w79 ⟨rfl, hy0, hb, hkp⟩; refine ⟨_, rfl, ?_⟩; replace BK256 := Aside0.mk (blk_kept (zk BK256) hkp (fun hs_ => (fun e_ => (Kd.R_ne HO274.out BK256.out (by decide)) e_) hs_)); replace BK257 := Aside0.mk (blk_kept (zk BK257) hkp (fun hs_ => (fun e_ => (Kd.R_ne HO274.out BK257.out (by decide)) e_) hs_)); replace HO262 := Aside0.mk (Kd.R_mono (ok' := fun k_ => some k_ ≠ (.slice Ao34 t267.length co34 : Value).ownBlock ∧ some k_ ≠ (.slice Ao41 t272.length co41 : Value).ownBlock ∧ some k_ ≠ (.slice Ao52 t280.length co52 : Value).ownBlock ∧ some k_ ≠ (.slice Ao69 t286.length co69 : Value).ownBlock) (Kd.R_keptB (HO262.out) hkp (fun k_ hk_ hs_ => (hk_.1.2.1) hs_)) (fun k_ hk_ => ⟨hk_.1.1.1, hk_.1.1.2.1, hk_.1.1.2.2, hk_.1.2⟩)); replace HO269 := Aside0.mk (Kd.R_mono (ok' := fun k_ => some k_ ≠ (v261 : Value).ownBlock ∧ some k_ ≠ (.slice Ao41 t272.length co41 : Value).ownBlock ∧ some k_ ≠ (.slice Ao52 t280.length co52 : Value).ownBlock ∧ some k_ ≠ (.slice Ao69 t286.length co69 : Value).ownBlock) (Kd.R_keptB (HO269.out) hkp (fun k_ hk_ hs_ => (hk_.1.2.1) hs_)) (fun k_ hk_ => ⟨hk_.1.1.1, hk_.1.1.2.1, hk_.1.1.2.2, hk_.1.2⟩)); replace BK271 := Aside0.mk (blk_kept (zk BK271) hkp (fun hs_ => (fun e_ => (Kd.R_ne HO274.out BK271.out (by decide)) e_) hs_)); replace BK276 := Aside0.mk (blk_kept (zk BK276) hkp (fun hs_ => (fun e_ => (Kd.R_ne HO274.out BK276.out (by decide)) e_) hs_)); replace HO282 := Aside0.mk (Kd.R_mono (ok' := fun k_ => some k_ ≠ (v261 : Value).ownBlock ∧ some k_ ≠ (.slice Ao34 t267.length co34 : Value).ownBlock ∧ some k_ ≠ (.slice Ao41 t272.length co41 : Value).ownBlock ∧ some k_ ≠ (.slice Ao69 t286.length co69 : Value).ownBlock) (Kd.R_keptB (HO282.out) hkp (fun k_ hk_ hs_ => (hk_.1.2.2) hs_)) (fun k_ hk_ => ⟨hk_.1.1.1, hk_.1.1.2.1, hk_.1.1.2.2, hk_.1.2⟩)); replace BK284 := Aside0.mk (blk_kept (zk BK284) hkp (fun hs_ => (fun e_ => (Kd.R_ne HO274.out BK284.out (by decide)) e_) hs_)); replace HO274 := Aside0.mk (Kd.R_reok rfl hy0 (fun k_ e_ => HO274.out.1 k_ e_)); replace HO288 := Aside0.mk (Kd.R_mono (ok' := fun k_ => some k_ ≠ (v261 : Value).ownBlock ∧ some k_ ≠ (.slice Ao34 t267.length co34 : Value).ownBlock ∧ some k_ ≠ (.slice Ao41 t272.length co41 : Value).ownBlock ∧ some k_ ≠ (.slice Ao52 t280.length co52 : Value).ownBlock) (Kd.R_keptB (HO288.out) hkp (fun k_ hk_ hs_ => (hk_.1.2) hs_)) (fun k_ hk_ => ⟨hk_.1.1.1.1.2, hk_.1.1.1.2, hk_.1.1.2, hk_.1.2⟩)); replace HB := Aside0.mk (hb); (try clear hb); (try clear hkp); (try clear hy0)))
     (try simp only [Act.put, s1, s2, s3])
     go_cut [53] (fun v53 wc => ∃ (kq : Nat) (x53_72 : Bool), v53 = .bool x53_72 ∧ Aside0 (laws_FnExactTableAdd.j0 kq x53_72 l0_0 a0_1 a1_0 a1_1 a1_2 t267 t270 t280 t283 = some r) ∧ Aside0 (kq ≤ k) ∧ Aside0 (Kd.R k36 36 wc w.heap.size (fun k_ => some k_ ≠ ((.slice Ao41 t272.length co41) : Value).ownBlock ∧ some k_ ≠ ((.slice Ao52 t280.length co52) : Value).ownBlock) (.slice Ao34 t267.length co34) t267) ∧ Aside0 (Kd.R k36 36 wc w.heap.size (fun k_ => some k_ ≠ ((.slice Ao34 t267.length co34) : Value).ownBlock ∧ some k_ ≠ ((.slice Ao52 t280.length co52) : Value).ownBlock) (.slice Ao41 t272.length co41) t292) ∧ Aside0 (Kd.R k36 36 wc w.heap.size (fun k_ => some k_ ≠ ((.slice Ao34 t267.length co34) : Value).ownBlock ∧ some k_ ≠ ((.slice Ao41 t272.length co41) : Value).ownBlock) (.slice Ao52 t280.length co52) t280) ∧ Aside0 (wc.heap[gb256]? = some (.cells #[(.slice A0_0 l0_0.length c0_0), .int .i64 a0_1] 40 (0, 0))) ∧ Aside0 (wc.heap[gb257]? = some (.cells #[.string a1_0, .string a1_1, .bool a1_2] 53 (0, 0))) ∧ Aside0 (wc.heap[gb271]? = some (.cells #[(.slice Ao34 t267.length co34), .int .i64 t270] 25 (0, 0))) ∧ Aside0 (wc.heap[gb276]? = some (.cells #[(.slice Ao41 t272.length co41), .int .i64 t275] 25 (0, 0))) ∧ Aside0 (wc.heap[gb284]? = some (.cells #[(.slice Ao52 t280.length co52), .int .i64 t283] 25 (0, 0))) ∧ Aside0 (Below w.heap.size w wc))
     case first =>
      have H := HC73.out
      clear HC73
      by_cases c80 : t291 < 0
      ·rw [if_pos c80] at H
       have c80b0 : decide (t291 < 0) = true := decide_eq_true c80
       clear c80
       (first | rw [c80b0] | (simp only [i64_w, i32_w]; rw [c80b0]) | skip)
       have H' := Aside0.mk H
       clear H
       go_wp2
       go_meet
       case rel => exact ⟨_, (true), zs, H', ⟨by first | omega | exact Nat.le_refl _⟩, ⟨by (with_reducible repeat (first | apply Kd.R_alloc | apply Kd.R_drewN | apply Kd.R_drew)); exact Kd.R_mono HO269.out (fun _ hk => ⟨hk.2.1, hk.2.2.1⟩)⟩, ⟨by (with_reducible repeat (first | apply Kd.R_alloc | apply Kd.R_drewN | apply Kd.R_drew)); exact Kd.R_mono HO274.out (fun _ hk => ⟨hk.1.2.1, hk.1.2.2⟩)⟩, ⟨by (with_reducible repeat (first | apply Kd.R_alloc | apply Kd.R_drewN | apply Kd.R_drew)); exact Kd.R_mono HO282.out (fun _ hk => ⟨hk.2.1, hk.2.2.1⟩)⟩, ⟨by exact zk BK256⟩, ⟨by exact zk BK257⟩, ⟨by exact zk BK271⟩, ⟨by exact zk BK276⟩, ⟨by exact zk BK284⟩, ⟨zb HB⟩⟩
      ·rw [if_neg c80] at H
       have c80b0 : decide (t291 < 0) = false := decide_eq_false c80
       clear c80
       (first | rw [c80b0] | (simp only [i64_w, i32_w]; rw [c80b0]) | skip)
       replace H := Option.bind_eq_some_iff.mp H
       obtain ⟨t293, A810, H⟩ := H
       replace H : (laws_FnExactTableAdd.j0 k (!t293) l0_0 a0_1 a1_0 a1_1 a1_2 t267 t270 t280 t283) = some r := H
       have A81 := Aside0.mk A810
       clear A810
       have H' := Aside0.mk H
       clear H
       have hnb82 := NB284_256.out
       have hnc82 := NB256_284.out
       have hnb83 := NB284_257.out
       have hnc83 := NB257_284.out
       have hnb84 := NB284_271.out
       have hnc84 := NB271_284.out
       have hnb85 := NB284_276.out
       have hnc85 := NB276_284.out
       have hcz86_0 : w79.cell? ⟨gb284, 0, none⟩ = some (.slice Ao52 t280.length co52) := (blk_cell BK284.out 0).trans rfl
       have hcz86_1 : w79.cell? ⟨gb284, 1, none⟩ = some (.int .i64 t283) := (blk_cell BK284.out 1).trans rfl
       have hfz86_0 := blk_frozen BK284.out 0
       have hfz86_1 := blk_frozen BK284.out 1
       have hnb87 := NB271_256.out
       have hnc87 := NB256_271.out
       have hnb88 := NB271_257.out
       have hnc88 := NB257_271.out
       have hnb89 := NB271_276.out
       have hnc89 := NB276_271.out
       have hcz90_0 : w79.cell? ⟨gb271, 0, none⟩ = some (.slice Ao34 t267.length co34) := (blk_cell BK271.out 0).trans rfl
       have hcz90_1 : w79.cell? ⟨gb271, 1, none⟩ = some (.int .i64 t270) := (blk_cell BK271.out 1).trans rfl
       have hfz90_0 := blk_frozen BK271.out 0
       have hfz90_1 := blk_frozen BK271.out 1
       go_wp2_with (first | (go_at_call 26; (with_reducible refine (laws_eqTable.calls k _ _ t280 t283 _ _ t267 t270 t293 _ ?side1 ?side2 ?side3 ?side4 A81.out).mono ?_); (case side1 => exact zc (Kd.R_reads' HO282.out).2.2); (case side2 => exact (Kd.R_reads' HO282.out).2.1); (case side3 => exact zc (Kd.R_reads' HO269.out).2.2); (case side4 => exact (Kd.R_reads' HO269.out).2.1); rintro e w91 ⟨rfl, hb⟩; replace HO262 := Aside0.mk (Kd.R_below (zr HO262) hb); replace HO269 := Aside0.mk (Kd.R_below (zr HO269) hb); replace HO274 := Aside0.mk (Kd.R_below (zr HO274) hb); replace HO282 := Aside0.mk (Kd.R_below (zr HO282) hb); replace HO288 := Aside0.mk (Kd.R_below (zr HO288) hb); replace BK256 := Aside0.mk (blk_below (g := gb256) (o := .cells #[.slice A0_0 l0_0.length c0_0, .int .i64 a0_1] 40 (0, 0)) (zk BK256) hb); replace BK257 := Aside0.mk (blk_below (g := gb257) (o := .cells #[.string a1_0, .string a1_1, .bool a1_2] 53 (0, 0)) (zk BK257) hb); replace BK271 := Aside0.mk (blk_below (g := gb271) (o := .cells #[.slice Ao34 t267.length co34, .int .i64 t270] 25 (0, 0)) (zk BK271) hb); replace BK276 := Aside0.mk (blk_below (g := gb276) (o := .cells #[.slice Ao41 t272.length co41, .int .i64 t275] 25 (0, 0)) (zk BK276) hb); replace BK284 := Aside0.mk (blk_below (g := gb284) (o := .cells #[.slice Ao52 t280.length co52, .int .i64 t283] 25 (0, 0)) (zk BK284) hb); replace HB := Aside0.mk (below_step (zb HB) hb); (try clear hb)))
       go_meet
       case rel => exact ⟨_, (!t293), zs, H', ⟨by first | omega | exact Nat.le_refl _⟩, ⟨by (with_reducible repeat (first | apply Kd.R_alloc | apply Kd.R_drewN | apply Kd.R_drew)); exact Kd.R_mono HO269.out (fun _ hk => ⟨hk.2.1, hk.2.2.1⟩)⟩, ⟨by (with_reducible repeat (first | apply Kd.R_alloc | apply Kd.R_drewN | apply Kd.R_drew)); exact Kd.R_mono HO274.out (fun _ hk => ⟨hk.1.2.1, hk.1.2.2⟩)⟩, ⟨by (with_reducible repeat (first | apply Kd.R_alloc | apply Kd.R_drewN | apply Kd.R_drew)); exact Kd.R_mono HO282.out (fun _ hk => ⟨hk.2.1, hk.2.2.1⟩)⟩, ⟨by exact zk BK256⟩, ⟨by exact zk BK257⟩, ⟨by exact zk BK271⟩, ⟨by exact zk BK276⟩, ⟨by exact zk BK284⟩, ⟨zb HB⟩⟩
     case rest =>
      clear HC73
      try clear c2
      try clear p2
      try clear c3
      try clear c5
      try clear c6
      try clear c7
      try clear c8
      try clear c25
      try clear c26
      try clear c27
      try clear c30
      try clear c36
      try clear c55
      try clear c56
      try clear c57
      try clear c58
      try clear c60
      try clear c63
      try clear c71
      try clear c74
      try clear c75
      try clear c76
      try clear c77
      try clear c80
      try clear c80b0
      try clear c82
      try clear c83
      try clear c84
      try clear c85
      try clear c87
      try clear c88
      try clear c89
      try clear hcz59_0
      try clear hcz59_1
      try clear hcz61_0
      try clear hcz61_1
      try clear hcz78_0
      try clear hcz78_1
      try clear hcz86_0
      try clear hcz86_1
      try clear hcz90_0
      try clear hcz90_1
      try clear hfz59_0
      try clear hfz59_1
      try clear hfz61_0
      try clear hfz61_1
      try clear hfz78_0
      try clear hfz78_1
      try clear hfz86_0
      try clear hfz86_1
      try clear hfz90_0
      try clear hfz90_1
      obtain ⟨kq, x53_72, rfl, HA, HJ72, HO_272000, HO_277000, HO_285000, BK256, BK257, BK271, BK276, BK284, HB⟩ := hcut
      have hl277000_72 := (Kd.R_reads' HO_277000.out).1
      rw [hl277000_72] at HO_277000
      (try simp only [hl277000_72])
      (try simp only [hl277000_72] at BK256)
      (try simp only [hl277000_72] at BK257)
      (try simp only [hl277000_72] at BK271)
      (try simp only [hl277000_72] at BK276)
      (try simp only [hl277000_72] at BK284)
      (try simp only [hl277000_72] at HO_272000)
      (try simp only [hl277000_72] at HO_285000)
      cases kq with
      | zero => exact absurd HA.out (by simp [laws_FnExactTableAdd.j0])
      | succ kj72 =>
       have H := HA.out
       clear HA
       simp only [laws_FnExactTableAdd.j0] at H
       by_cases c92 : x53_72 = true
       ·subst c92
        have H1 : (some false) = some r := by rw [if_pos rfl] at H; exact H
        clear H
        have H := H1
        clear H1
        obtain rfl := Option.some.inj H
        go_wp2
        go_ret
        exact ⟨ze, zb HB⟩
       ·replace c92 := Bool.eq_false_iff.mpr c92
        subst c92
        have H1 : ((laws_markTable.f kj72 t280 t283 1).bind fun bt294 => ((laws_heldTable.f kj72 bt294.2 t283 1).bind fun t296 => (if t296 < 0 then (some false) else (if t296 = bt294.1 then ((laws_toTable.f kj72 l0_0 a0_1).bind fun bt297 => ((laws_toField.f a1_0 a1_1 a1_2).bind fun bt301 => ((impl_TableAdd.f kj72 bt297.1 bt297.2 bt301.1 bt301.2.1 bt301.2.2).bind fun bt304 => ((laws_eqTable.f kj72 bt304.1 bt304.2 t267 t270).bind fun t309 => (if t309 = true then ((laws_heldTable.f kj72 bt294.2 t283 1).bind fun t310 => (if t310 < 0 then (some false) else (if t310 = bt294.1 then (some true) else (some false)))) else (some false)))))) else (some false))))) = some r := by rw [if_neg (show ¬ (false = true) by decide)] at H; exact H
        clear H
        have H := H1
        clear H1
        replace H := Option.bind_eq_some_iff.mp H
        obtain ⟨⟨t294, t295⟩, A930, H⟩ := H
        replace H : ((laws_heldTable.f kj72 t295 t283 1).bind fun t296 => (if t296 < 0 then (some false) else (if t296 = t294 then ((laws_toTable.f kj72 l0_0 a0_1).bind fun bt297 => ((laws_toField.f a1_0 a1_1 a1_2).bind fun bt301 => ((impl_TableAdd.f kj72 bt297.1 bt297.2 bt301.1 bt301.2.1 bt301.2.2).bind fun bt304 => ((laws_eqTable.f kj72 bt304.1 bt304.2 t267 t270).bind fun t309 => (if t309 = true then ((laws_heldTable.f kj72 t295 t283 1).bind fun t310 => (if t310 < 0 then (some false) else (if t310 = t294 then (some true) else (some false)))) else (some false)))))) else (some false)))) = some r := H
        have A93 := Aside0.mk A930
        clear A930
        replace H := Option.bind_eq_some_iff.mp H
        obtain ⟨t296, A940, H⟩ := H
        replace H : (if t296 < 0 then (some false) else (if t296 = t294 then ((laws_toTable.f kj72 l0_0 a0_1).bind fun bt297 => ((laws_toField.f a1_0 a1_1 a1_2).bind fun bt301 => ((impl_TableAdd.f kj72 bt297.1 bt297.2 bt301.1 bt301.2.1 bt301.2.2).bind fun bt304 => ((laws_eqTable.f kj72 bt304.1 bt304.2 t267 t270).bind fun t309 => (if t309 = true then ((laws_heldTable.f kj72 t295 t283 1).bind fun t310 => (if t310 < 0 then (some false) else (if t310 = t294 then (some true) else (some false)))) else (some false)))))) else (some false))) = some r := H
        have A94 := Aside0.mk A940
        clear A940
        have HC95 := Aside0.mk H
        clear H
        have hnb96 := NB284_256.out
        have hnc96 := NB256_284.out
        have hnb97 := NB284_257.out
        have hnc97 := NB257_284.out
        have hnb98 := NB284_271.out
        have hnc98 := NB271_284.out
        have hnb99 := NB284_276.out
        have hnc99 := NB276_284.out
        have hcz100_0 : wc.cell? ⟨gb284, 0, none⟩ = some (.slice Ao52 t280.length co52) := (blk_cell BK284.out 0).trans rfl
        have hcz100_1 : wc.cell? ⟨gb284, 1, none⟩ = some (.int .i64 t283) := (blk_cell BK284.out 1).trans rfl
        have hfz100_0 := blk_frozen BK284.out 0
        have hfz100_1 := blk_frozen BK284.out 1
        go_upto_if 61 with (first | ((with_reducible refine gq 27 rfl ?_); refine gl (some 56) Try.func27 #[.agg #[.slice Ao52 t280.length co52, .int .i64 t283], .int .i64 1] ?_; (with_reducible refine (laws_markTable.calls kj72 (fun k_ => some k_ = (.slice Ao52 t280.length co52 : Value).ownBlock) (.slice Ao52 t280.length co52) t280 t283 1 t294 t295 w _ ?side1 ?side2 A93.out).mono ?_); (case side1 => exact zb HB); (case side2 => exact Kd.R_tight rfl HO_285000.out); rintro e w101 ⟨rfl, hy0, hb, hkp⟩; refine ⟨_, rfl, ?_⟩; replace HO_272000 := Aside0.mk (Kd.R_mono (ok' := fun k_ => some k_ ≠ (.slice Ao41 t292.length co41 : Value).ownBlock ∧ some k_ ≠ (.slice Ao52 t280.length co52 : Value).ownBlock) (Kd.R_keptB (HO_272000.out) hkp (fun k_ hk_ hs_ => (hk_.2) hs_)) (fun k_ hk_ => ⟨hk_.1.1, hk_.1.2⟩)); replace HO_277000 := Aside0.mk (Kd.R_mono (ok' := fun k_ => some k_ ≠ (.slice Ao34 t267.length co34 : Value).ownBlock ∧ some k_ ≠ (.slice Ao52 t280.length co52 : Value).ownBlock) (Kd.R_keptB (HO_277000.out) hkp (fun k_ hk_ hs_ => (hk_.2) hs_)) (fun k_ hk_ => ⟨hk_.1.1, hk_.1.2⟩)); replace BK256 := Aside0.mk (blk_kept (zk BK256) hkp (fun hs_ => (fun e_ => (Kd.R_ne HO_285000.out BK256.out (by decide)) e_) hs_)); replace BK257 := Aside0.mk (blk_kept (zk BK257) hkp (fun hs_ => (fun e_ => (Kd.R_ne HO_285000.out BK257.out (by decide)) e_) hs_)); replace BK271 := Aside0.mk (blk_kept (zk BK271) hkp (fun hs_ => (fun e_ => (Kd.R_ne HO_285000.out BK271.out (by decide)) e_) hs_)); replace BK276 := Aside0.mk (blk_kept (zk BK276) hkp (fun hs_ => (fun e_ => (Kd.R_ne HO_285000.out BK276.out (by decide)) e_) hs_)); replace BK284 := Aside0.mk (blk_kept (zk BK284) hkp (fun hs_ => (fun e_ => (Kd.R_ne HO_285000.out BK284.out (by decide)) e_) hs_)); replace HO_285000 := Aside0.mk (Kd.R_reok rfl hy0 (fun k_ e_ => HO_285000.out.1 k_ e_)); replace HB := Aside0.mk (hb); (try clear hb); (try clear hkp); (try clear hy0); have hcz102_0 : w101.cell? ⟨gb284, 0, none⟩ = some (.slice Ao52 t280.length co52) := (blk_cell BK284.out 0).trans rfl; have hcz102_1 : w101.cell? ⟨gb284, 1, none⟩ = some (.int .i64 t283) := (blk_cell BK284.out 1).trans rfl; have hfz102_0 := blk_frozen BK284.out 0; have hfz102_1 := blk_frozen BK284.out 1) | ((with_reducible refine gq 28 rfl ?_); refine goesL_ (some 59) rfl rfl Try.func28 (by kernel_rfl) rfl #[.agg #[.slice Ao52 t295.length co52, .int .i64 t283], .int .i64 1] rfl (by (try simp only [List.map_toArray, List.map_cons, List.map_nil]); first | done | (rw [show t295.length = t280.length from (Kd.R_reads' HO_285000.out).1.symm] <;> rfl) | rfl | (simp only [List.length_drop, List.length_take]; rfl)) ?_; (with_reducible refine (laws_heldTable.calls kj72 _ _ t295 t283 1 t296 _ ?side1 ?side2 A94.out).mono ?_); (case side1 => exact zc (Kd.R_reads' HO_285000.out).2.2); (case side2 => rw [show t295.length = t280.length from (Kd.R_reads' HO_285000.out).1.symm]; exact (Kd.R_reads' HO_285000.out).2.1); rintro e w103 ⟨rfl, hb⟩; refine ⟨_, rfl, ?_⟩; replace HO_272000 := Aside0.mk (Kd.R_below (zr HO_272000) hb); replace HO_277000 := Aside0.mk (Kd.R_below (zr HO_277000) hb); replace HO_285000 := Aside0.mk (Kd.R_below (zr HO_285000) hb); replace BK256 := Aside0.mk (blk_below (g := gb256) (o := .cells #[.slice A0_0 l0_0.length c0_0, .int .i64 a0_1] 40 (0, 0)) (zk BK256) hb); replace BK257 := Aside0.mk (blk_below (g := gb257) (o := .cells #[.string a1_0, .string a1_1, .bool a1_2] 53 (0, 0)) (zk BK257) hb); replace BK271 := Aside0.mk (blk_below (g := gb271) (o := .cells #[.slice Ao34 t267.length co34, .int .i64 t270] 25 (0, 0)) (zk BK271) hb); replace BK276 := Aside0.mk (blk_below (g := gb276) (o := .cells #[.slice Ao41 t292.length co41, .int .i64 t275] 25 (0, 0)) (zk BK276) hb); replace BK284 := Aside0.mk (blk_below (g := gb284) (o := .cells #[.slice Ao52 t280.length co52, .int .i64 t283] 25 (0, 0)) (zk BK284) hb); replace HB := Aside0.mk (below_step (zb HB) hb); (try clear hb)))
        (try simp only [Act.put, s1, s2, s3])
        have H := HC95.out
        clear HC95
        by_cases c104 : t296 < 0
        ·rw [if_pos c104] at H
         have c104b0 : decide (t296 < 0) = true := decide_eq_true c104
         clear c104
         (first | rw [c104b0] | (simp only [i64_w, i32_w]; rw [c104b0]) | skip)
         obtain rfl := Option.some.inj H
         go_wp2
         go_ret
         exact ⟨ze, zb HB⟩
        ·rw [if_neg c104] at H
         have c104b0 : decide (t296 < 0) = false := decide_eq_false c104
         clear c104
         (first | rw [c104b0] | (simp only [i64_w, i32_w]; rw [c104b0]) | skip)
         by_cases c105 : t296 = t294
         ·rw [if_pos c105] at H
          have c105b0 : (t296 == t294) = true := beq_iff_eq.mpr c105
          have c105b1 : (t296 != t294) = false := bne_eq_false_iff_eq.mpr c105
          clear c105
          replace H := Option.bind_eq_some_iff.mp H
          obtain ⟨⟨t297, t300⟩, A1060, H⟩ := H
          replace H : ((laws_toField.f a1_0 a1_1 a1_2).bind fun bt301 => ((impl_TableAdd.f kj72 t297 t300 bt301.1 bt301.2.1 bt301.2.2).bind fun bt304 => ((laws_eqTable.f kj72 bt304.1 bt304.2 t267 t270).bind fun t309 => (if t309 = true then ((laws_heldTable.f kj72 t295 t283 1).bind fun t310 => (if t310 < 0 then (some false) else (if t310 = t294 then (some true) else (some false)))) else (some false))))) = some r := H
          have A106 := Aside0.mk A1060
          clear A1060
          replace H := Option.bind_eq_some_iff.mp H
          obtain ⟨⟨t301, t302, t303⟩, A1070, H⟩ := H
          replace H : ((impl_TableAdd.f kj72 t297 t300 t301 t302 t303).bind fun bt304 => ((laws_eqTable.f kj72 bt304.1 bt304.2 t267 t270).bind fun t309 => (if t309 = true then ((laws_heldTable.f kj72 t295 t283 1).bind fun t310 => (if t310 < 0 then (some false) else (if t310 = t294 then (some true) else (some false)))) else (some false)))) = some r := H
          have A107 := Aside0.mk A1070
          clear A1070
          replace H := Option.bind_eq_some_iff.mp H
          obtain ⟨⟨t304, t307⟩, A1080, H⟩ := H
          replace H : ((laws_eqTable.f kj72 t304 t307 t267 t270).bind fun t309 => (if t309 = true then ((laws_heldTable.f kj72 t295 t283 1).bind fun t310 => (if t310 < 0 then (some false) else (if t310 = t294 then (some true) else (some false)))) else (some false))) = some r := H
          have A108 := Aside0.mk A1080
          clear A1080
          replace H := Option.bind_eq_some_iff.mp H
          obtain ⟨t309, A1090, H⟩ := H
          replace H : (if t309 = true then ((laws_heldTable.f kj72 t295 t283 1).bind fun t310 => (if t310 < 0 then (some false) else (if t310 = t294 then (some true) else (some false)))) else (some false)) = some r := H
          have A109 := Aside0.mk A1090
          clear A1090
          have HC110 := Aside0.mk H
          clear H
          try go_wp2
          replace HO_272000 := Aside0.mk (Kd.R_drew HO_272000.out)
          replace HO_277000 := Aside0.mk (Kd.R_drew HO_277000.out)
          replace HO_285000 := Aside0.mk (Kd.R_drew HO_285000.out)
          replace BK256 := Aside0.mk (blk_drew BK256.out)
          replace BK257 := Aside0.mk (blk_drew BK257.out)
          replace BK271 := Aside0.mk (blk_drew BK271.out)
          replace BK276 := Aside0.mk (blk_drew BK276.out)
          replace BK284 := Aside0.mk (blk_drew BK284.out)
          replace HB := Aside0.mk (below_drew1 HB.out)
          refine start_ (n := 7) (S := fun w' => w'.cell? ⟨gb256, 0, none⟩ = some (.slice A0_0 l0_0.length c0_0) ∧ w'.cell? ⟨gb256, 1, none⟩ = some (.int .i64 a0_1) ∧ w'.cell? ⟨gb257, 0, none⟩ = some (.string a1_0) ∧ w'.cell? ⟨gb257, 1, none⟩ = some (.string a1_1) ∧ w'.cell? ⟨gb257, 2, none⟩ = some (.bool a1_2)) (ds := []) #[false, false, false, false, false, false, false] (by kernel_rfl) rfl rfl ⟨(blk_cell BK256.out 0).trans rfl, (blk_cell BK256.out 1).trans rfl, (blk_cell BK257.out 0).trans rfl, (blk_cell BK257.out 1).trans rfl, (blk_cell BK257.out 2).trans rfl⟩ (fun hHeld => ?_)
          generalize w103.drew = w111 at HO_272000 HO_277000 HO_285000 BK256 BK257 BK271 BK276 BK284 HB hHeld ⊢
          refine tk5 0 (some 65) (bm 7 1) rfl rfl hHeld ?_
          refine tk5 2 (some 67) (bm 7 5) rfl rfl hHeld ?_
          refine join_ (σ := Value × Value × Nat) 1 #[true, true, true, true, true, true, false] (fun s_ => [(66, .agg #[s_.1, .int .i64 t300]), (68, .agg #[.string t301, .string t302, .bool t303]), (69, .agg #[s_.2.1, .int .i64 t307]), (12, .pointer (some ⟨s_.2.2, 0, none⟩))]) (fun s_ w' => (w'.cell? ⟨gb256, 0, none⟩ = some (.slice A0_0 l0_0.length c0_0) ∧ w'.cell? ⟨gb256, 1, none⟩ = some (.int .i64 a0_1) ∧ w'.cell? ⟨gb257, 0, none⟩ = some (.string a1_0) ∧ w'.cell? ⟨gb257, 1, none⟩ = some (.string a1_1) ∧ w'.cell? ⟨gb257, 2, none⟩ = some (.bool a1_2)) ∧ (Kd.R k36 36 w' w.heap.size (fun k_ => some k_ ≠ (s_.2.1 : Value).ownBlock ∧ some k_ ≠ (.slice Ao34 t267.length co34 : Value).ownBlock ∧ some k_ ≠ (.slice Ao41 t292.length co41 : Value).ownBlock ∧ some k_ ≠ (.slice Ao52 t280.length co52 : Value).ownBlock) s_.1 t297) ∧ (Kd.R k36 36 w' w.heap.size (fun k_ => some k_ ≠ (s_.1 : Value).ownBlock ∧ some k_ ≠ (.slice Ao34 t267.length co34 : Value).ownBlock ∧ some k_ ≠ (.slice Ao41 t292.length co41 : Value).ownBlock ∧ some k_ ≠ (.slice Ao52 t280.length co52 : Value).ownBlock) s_.2.1 t304) ∧ (Kd.R k36 36 w' w.heap.size (fun k_ => some k_ ≠ (s_.1 : Value).ownBlock ∧ some k_ ≠ (s_.2.1 : Value).ownBlock ∧ some k_ ≠ (.slice Ao41 t292.length co41 : Value).ownBlock ∧ some k_ ≠ (.slice Ao52 t280.length co52 : Value).ownBlock) (.slice Ao34 t267.length co34) t267) ∧ (Kd.R k36 36 w' w.heap.size (fun k_ => some k_ ≠ (s_.1 : Value).ownBlock ∧ some k_ ≠ (s_.2.1 : Value).ownBlock ∧ some k_ ≠ (.slice Ao34 t267.length co34 : Value).ownBlock ∧ some k_ ≠ (.slice Ao52 t280.length co52 : Value).ownBlock) (.slice Ao41 t292.length co41) t292) ∧ (Kd.R k36 36 w' w.heap.size (fun k_ => some k_ ≠ (s_.1 : Value).ownBlock ∧ some k_ ≠ (s_.2.1 : Value).ownBlock ∧ some k_ ≠ (.slice Ao34 t267.length co34 : Value).ownBlock ∧ some k_ ≠ (.slice Ao41 t292.length co41 : Value).ownBlock) (.slice Ao52 t280.length co52) t295) ∧ (w'.heap[gb256]? = some (.cells #[.slice A0_0 l0_0.length c0_0, .int .i64 a0_1] 40 (0, 0))) ∧ (w'.heap[gb257]? = some (.cells #[.string a1_0, .string a1_1, .bool a1_2] 53 (0, 0))) ∧ (w'.heap[gb271]? = some (.cells #[.slice Ao34 t267.length co34, .int .i64 t270] 25 (0, 0))) ∧ (w'.heap[gb276]? = some (.cells #[.slice Ao41 t292.length co41, .int .i64 t275] 25 (0, 0))) ∧ (w'.heap[gb284]? = some (.cells #[.slice Ao52 t280.length co52, .int .i64 t283] 25 (0, 0))) ∧ (w'.heap[s_.2.2]? = some (.cells #[.slice none 0 0, .int .i64 0] 25 (0, 0))) ∧ (w.heap.size ≤ s_.2.2) ∧ (w.heap.size ≤ s_.2.2) ∧ (gb256 ≠ s_.2.2) ∧ (s_.2.2 ≠ gb256) ∧ (gb257 ≠ s_.2.2) ∧ (s_.2.2 ≠ gb257) ∧ (gb271 ≠ s_.2.2) ∧ (s_.2.2 ≠ gb271) ∧ (gb276 ≠ s_.2.2) ∧ (s_.2.2 ≠ gb276) ∧ (gb284 ≠ s_.2.2) ∧ (s_.2.2 ≠ gb284) ∧ (Below w.heap.size w w')) ?_ ?_
          rotate_left
          ·intro hCont
           refine two_ (i := 1) (j := 5) (Ni := some 66) (Nj := some 12) #[true, true, true, false, false, false, false] #[true, false, true, false, false, true, false] rfl rfl rfl rfl (by kernel_rfl) (by decide) (by decide) (fun K hK => ?_) (fun K hK => ?_)
           ·skip
            refine gs Try.func25 #[.agg #[.slice A0_0 l0_0.length c0_0, .int .i64 a0_1]] ?_
            with_reducible refine (laws_toTable.calls kj72 _ _ l0_0 a0_1 t297 t300 _ ?side1 ?side2 A106.out).mono ?_
            (case side1 => exact zc (Kd.C_below HR0_0.out HB.out))
            (case side2 => exact HC0_0.out)
            rintro e w112 ⟨v298, rfl, ho0, hb⟩
            refine ⟨_, rfl, ?_⟩
            have HO299 := Aside0.mk (Kd.R_lower (Kd.R_new' (Kd.R_new' (Kd.R_new' ho0 (Kd.R_lt (zr HO_272000))) (Kd.R_lt (zr HO_277000))) (Kd.R_lt (zr HO_285000))) (below_size (zb HB)))
            replace HO_272000 := Aside0.mk (Kd.R_elder' (zr HO_272000) (Kd.R_base ho0) hb)
            replace HO_277000 := Aside0.mk (Kd.R_elder' (zr HO_277000) (Kd.R_base ho0) hb)
            replace HO_285000 := Aside0.mk (Kd.R_elder' (zr HO_285000) (Kd.R_base ho0) hb)
            replace BK256 := Aside0.mk (blk_below (g := gb256) (o := .cells #[.slice A0_0 l0_0.length c0_0, .int .i64 a0_1] 40 (0, 0)) (zk BK256) hb)
            replace BK257 := Aside0.mk (blk_below (g := gb257) (o := .cells #[.string a1_0, .string a1_1, .bool a1_2] 53 (0, 0)) (zk BK257) hb)
            replace BK271 := Aside0.mk (blk_below (g := gb271) (o := .cells #[.slice Ao34 t267.length co34, .int .i64 t270] 25 (0, 0)) (zk BK271) hb)
            replace BK276 := Aside0.mk (blk_below (g := gb276) (o := .cells #[.slice Ao41 t292.length co41, .int .i64 t275] 25 (0, 0)) (zk BK276) hb)
            replace BK284 := Aside0.mk (blk_below (g := gb284) (o := .cells #[.slice Ao52 t280.length co52, .int .i64 t283] 25 (0, 0)) (zk BK284) hb)
            replace HB := Aside0.mk (below_step (zb HB) hb)
            (try clear hb)
            (try clear ho0)
            refine hK.out _ _ ⟨(blk_cell BK256.out 0).trans rfl, (blk_cell BK256.out 1).trans rfl, (blk_cell BK257.out 0).trans rfl, (blk_cell BK257.out 1).trans rfl, (blk_cell BK257.out 2).trans rfl⟩ (fun hHeld => ?_)
            clear hK K
            refine nm ?_
            refine two_ (i := 3) (j := 5) (Ni := some 68) (Nj := some 12) #[true, true, true, true, false, false, false] #[true, true, true, false, false, true, false] rfl rfl rfl rfl (by kernel_rfl) (by decide) (by decide) (fun K hK => ?_) (fun K hK => ?_)
            ·skip
             refine gs Try.func36 #[.agg #[.string a1_0, .string a1_1, .bool a1_2]] ?_
             with_reducible refine (laws_toField.calls a1_0 a1_1 a1_2 t301 t302 t303 _ A107.out).mono ?_
             rintro e w113 ⟨rfl, hb⟩
             refine ⟨_, rfl, ?_⟩
             replace HO_272000 := Aside0.mk (Kd.R_below (zr HO_272000) hb)
             replace HO_277000 := Aside0.mk (Kd.R_below (zr HO_277000) hb)
             replace HO_285000 := Aside0.mk (Kd.R_below (zr HO_285000) hb)
             replace HO299 := Aside0.mk (Kd.R_below (zr HO299) hb)
             replace BK256 := Aside0.mk (blk_below (g := gb256) (o := .cells #[.slice A0_0 l0_0.length c0_0, .int .i64 a0_1] 40 (0, 0)) (zk BK256) hb)
             replace BK257 := Aside0.mk (blk_below (g := gb257) (o := .cells #[.string a1_0, .string a1_1, .bool a1_2] 53 (0, 0)) (zk BK257) hb)
             replace BK271 := Aside0.mk (blk_below (g := gb271) (o := .cells #[.slice Ao34 t267.length co34, .int .i64 t270] 25 (0, 0)) (zk BK271) hb)
             replace BK276 := Aside0.mk (blk_below (g := gb276) (o := .cells #[.slice Ao41 t292.length co41, .int .i64 t275] 25 (0, 0)) (zk BK276) hb)
             replace BK284 := Aside0.mk (blk_below (g := gb284) (o := .cells #[.slice Ao52 t280.length co52, .int .i64 t283] 25 (0, 0)) (zk BK284) hb)
             replace HB := Aside0.mk (below_step (zb HB) hb)
             (try clear hb)
             obtain ⟨Ao114, co114, eo114⟩ := Kd.R_slice HO299.out
             (first | subst eo114 | (injection eo114 with f1_ f2_ f3_; have f4_ := f1_.symm; have f5_ := f3_.symm; clear f1_ f2_ f3_; subst f4_; subst f5_))
             refine hK.out _ _ ⟨(blk_cell BK256.out 0).trans rfl, (blk_cell BK256.out 1).trans rfl, (blk_cell BK257.out 0).trans rfl, (blk_cell BK257.out 1).trans rfl, (blk_cell BK257.out 2).trans rfl⟩ (fun hHeld => ?_)
             clear hK K
             refine nm ?_
             refine two_ (i := 4) (j := 5) (Ni := some 69) (Nj := some 12) #[true, true, true, true, true, false, false] #[true, true, true, true, false, true, false] rfl rfl rfl rfl (by kernel_rfl) (by decide) (by decide) (fun K hK => ?_) (fun K hK => ?_)
             ·skip
              refine gs Try.func30 #[.agg #[.slice Ao114 t297.length co114, .int .i64 t300], .agg #[.string t301, .string t302, .bool t303]] ?_
              with_reducible refine (impl_TableAdd.calls kj72 _ _ t297 t300 t301 t302 t303 t304 t307 _ ?side1 ?side2 A108.out).mono ?_
              (case side1 => exact zc (Kd.R_reads' HO299.out).2.2)
              (case side2 => exact (Kd.R_reads' HO299.out).2.1)
              rintro e w115 ⟨v305, rfl, ho0, hb⟩
              refine ⟨_, rfl, ?_⟩
              have HO306 := Aside0.mk (Kd.R_lower (Kd.R_new' (Kd.R_new' (Kd.R_new' (Kd.R_new' ho0 (Kd.R_lt (zr HO_272000))) (Kd.R_lt (zr HO_277000))) (Kd.R_lt (zr HO_285000))) (Kd.R_lt (zr HO299))) (below_size (zb HB)))
              replace HO_272000 := Aside0.mk (Kd.R_elder' (zr HO_272000) (Kd.R_base ho0) hb)
              replace HO_277000 := Aside0.mk (Kd.R_elder' (zr HO_277000) (Kd.R_base ho0) hb)
              replace HO_285000 := Aside0.mk (Kd.R_elder' (zr HO_285000) (Kd.R_base ho0) hb)
              replace HO299 := Aside0.mk (Kd.R_elder' (zr HO299) (Kd.R_base ho0) hb)
              replace BK256 := Aside0.mk (blk_below (g := gb256) (o := .cells #[.slice A0_0 l0_0.length c0_0, .int .i64 a0_1] 40 (0, 0)) (zk BK256) hb)
              replace BK257 := Aside0.mk (blk_below (g := gb257) (o := .cells #[.string a1_0, .string a1_1, .bool a1_2] 53 (0, 0)) (zk BK257) hb)
              replace BK271 := Aside0.mk (blk_below (g := gb271) (o := .cells #[.slice Ao34 t267.length co34, .int .i64 t270] 25 (0, 0)) (zk BK271) hb)
              replace BK276 := Aside0.mk (blk_below (g := gb276) (o := .cells #[.slice Ao41 t292.length co41, .int .i64 t275] 25 (0, 0)) (zk BK276) hb)
              replace BK284 := Aside0.mk (blk_below (g := gb284) (o := .cells #[.slice Ao52 t280.length co52, .int .i64 t283] 25 (0, 0)) (zk BK284) hb)
              replace HB := Aside0.mk (below_step (zb HB) hb)
              (try clear hb)
              (try clear ho0)
              refine hK.out _ _ ⟨(blk_cell BK256.out 0).trans rfl, (blk_cell BK256.out 1).trans rfl, (blk_cell BK257.out 0).trans rfl, (blk_cell BK257.out 1).trans rfl, (blk_cell BK257.out 2).trans rfl⟩ (fun hHeld => ?_)
              clear hK K
              refine nm ?_
              refine one_ (i := 5) (N := some 12) (bm 7 63) rfl rfl (by kernel_rfl) (by decide) (fun K hK => ?_)
              refine box_step ?hg (N := 12) ?hd (cs := #[.slice none 0 0, .int .i64 0]) (t := 25) ?hr ?_; (case hd => rfl); (case hg => rfl); (case hr => first | (go_simp; done) | (go_simp; rfl))
              intro gb308 hg w116 hbox hb
              replace HO_272000 := Aside0.mk (Kd.R_below (zr HO_272000) hb)
              replace HO_277000 := Aside0.mk (Kd.R_below (zr HO_277000) hb)
              replace HO_285000 := Aside0.mk (Kd.R_below (zr HO_285000) hb)
              replace HO299 := Aside0.mk (Kd.R_below (zr HO299) hb)
              replace HO306 := Aside0.mk (Kd.R_below (zr HO306) hb)
              have BK308 := Aside0.mk (hbox)
              have GW308 := Aside0.mk ((by rw [hg]; exact (below_size (zb HB)) : w.heap.size ≤ gb308))
              have GE308 := Aside0.mk ((by rw [hg]; exact (below_size (zb HB)) : w.heap.size ≤ gb308))
              replace HB := Aside0.mk (below_step (zb HB) hb)
              have NB256_308 := Aside0.mk ((by rw [hg]; exact Nat.ne_of_lt (blk_lt (g := gb256) (o := .cells #[.slice A0_0 l0_0.length c0_0, .int .i64 a0_1] 40 (0, 0)) (zk BK256)) : gb256 ≠ gb308))
              have NB308_256 := Aside0.mk ((by rw [hg]; exact Nat.ne_of_gt (blk_lt (g := gb256) (o := .cells #[.slice A0_0 l0_0.length c0_0, .int .i64 a0_1] 40 (0, 0)) (zk BK256)) : gb308 ≠ gb256))
              replace BK256 := Aside0.mk (blk_below (g := gb256) (o := .cells #[.slice A0_0 l0_0.length c0_0, .int .i64 a0_1] 40 (0, 0)) (zk BK256) hb)
              have NB257_308 := Aside0.mk ((by rw [hg]; exact Nat.ne_of_lt (blk_lt (g := gb257) (o := .cells #[.string a1_0, .string a1_1, .bool a1_2] 53 (0, 0)) (zk BK257)) : gb257 ≠ gb308))
              have NB308_257 := Aside0.mk ((by rw [hg]; exact Nat.ne_of_gt (blk_lt (g := gb257) (o := .cells #[.string a1_0, .string a1_1, .bool a1_2] 53 (0, 0)) (zk BK257)) : gb308 ≠ gb257))
              replace BK257 := Aside0.mk (blk_below (g := gb257) (o := .cells #[.string a1_0, .string a1_1, .bool a1_2] 53 (0, 0)) (zk BK257) hb)
              have NB271_308 := Aside0.mk ((by rw [hg]; exact Nat.ne_of_lt (blk_lt (g := gb271) (o := .cells #[.slice Ao34 t267.length co34, .int .i64 t270] 25 (0, 0)) (zk BK271)) : gb271 ≠ gb308))
              have NB308_271 := Aside0.mk ((by rw [hg]; exact Nat.ne_of_gt (blk_lt (g := gb271) (o := .cells #[.slice Ao34 t267.length co34, .int .i64 t270] 25 (0, 0)) (zk BK271)) : gb308 ≠ gb271))
              replace BK271 := Aside0.mk (blk_below (g := gb271) (o := .cells #[.slice Ao34 t267.length co34, .int .i64 t270] 25 (0, 0)) (zk BK271) hb)
              have NB276_308 := Aside0.mk ((by rw [hg]; exact Nat.ne_of_lt (blk_lt (g := gb276) (o := .cells #[.slice Ao41 t292.length co41, .int .i64 t275] 25 (0, 0)) (zk BK276)) : gb276 ≠ gb308))
              have NB308_276 := Aside0.mk ((by rw [hg]; exact Nat.ne_of_gt (blk_lt (g := gb276) (o := .cells #[.slice Ao41 t292.length co41, .int .i64 t275] 25 (0, 0)) (zk BK276)) : gb308 ≠ gb276))
              replace BK276 := Aside0.mk (blk_below (g := gb276) (o := .cells #[.slice Ao41 t292.length co41, .int .i64 t275] 25 (0, 0)) (zk BK276) hb)
              have NB284_308 := Aside0.mk ((by rw [hg]; exact Nat.ne_of_lt (blk_lt (g := gb284) (o := .cells #[.slice Ao52 t280.length co52, .int .i64 t283] 25 (0, 0)) (zk BK284)) : gb284 ≠ gb308))
              have NB308_284 := Aside0.mk ((by rw [hg]; exact Nat.ne_of_gt (blk_lt (g := gb284) (o := .cells #[.slice Ao52 t280.length co52, .int .i64 t283] 25 (0, 0)) (zk BK284)) : gb308 ≠ gb284))
              replace BK284 := Aside0.mk (blk_below (g := gb284) (o := .cells #[.slice Ao52 t280.length co52, .int .i64 t283] 25 (0, 0)) (zk BK284) hb)
              clear hb hbox hg
              refine hK.out _ _ ⟨(blk_cell BK256.out 0).trans rfl, (blk_cell BK256.out 1).trans rfl, (blk_cell BK257.out 0).trans rfl, (blk_cell BK257.out 1).trans rfl, (blk_cell BK257.out 2).trans rfl⟩ (fun hHeld => ?_)
              clear hK K
              refine nm ?_
              exact norm_ (by simp only [putAll, Act.put, s1, s2, s3]) (hCont (.slice Ao114 t297.length co114, v305, gb308) _ ⟨hHeld, (by (with_reducible repeat (first | apply Kd.R_alloc | apply Kd.R_drewN | apply Kd.R_drew)); exact Kd.R_mono HO299.out (fun _ hk => ⟨hk.2, ⟨hk.1.1.1.2, ⟨hk.1.1.2, hk.1.2⟩⟩⟩)), (by (with_reducible repeat (first | apply Kd.R_alloc | apply Kd.R_drewN | apply Kd.R_drew)); exact Kd.R_mono HO306.out (fun _ hk => ⟨hk.2, ⟨hk.1.1.1.2, ⟨hk.1.1.2, hk.1.2⟩⟩⟩)), (by (with_reducible repeat (first | apply Kd.R_alloc | apply Kd.R_drewN | apply Kd.R_drew)); exact Kd.R_mono HO_272000.out (fun _ hk => ⟨hk.1.2, ⟨hk.2, ⟨hk.1.1.1, hk.1.1.2⟩⟩⟩)), (by (with_reducible repeat (first | apply Kd.R_alloc | apply Kd.R_drewN | apply Kd.R_drew)); exact Kd.R_mono HO_277000.out (fun _ hk => ⟨hk.1.2, ⟨hk.2, ⟨hk.1.1.1, hk.1.1.2⟩⟩⟩)), (by (with_reducible repeat (first | apply Kd.R_alloc | apply Kd.R_drewN | apply Kd.R_drew)); exact Kd.R_mono HO_285000.out (fun _ hk => ⟨hk.1.2, ⟨hk.2, ⟨hk.1.1.1, hk.1.1.2⟩⟩⟩)), (zk BK256), (zk BK257), (zk BK271), (zk BK276), (zk BK284), (zk BK308), GW308.out, GE308.out, NB256_308.out, NB308_256.out, NB257_308.out, NB308_257.out, NB271_308.out, NB308_271.out, NB276_308.out, NB308_276.out, NB284_308.out, NB308_284.out, (zb HB)⟩)
             ·skip
              refine box_step ?hg (N := 12) ?hd (cs := #[.slice none 0 0, .int .i64 0]) (t := 25) ?hr ?_; (case hd => rfl); (case hg => rfl); (case hr => first | (go_simp; done) | (go_simp; rfl))
              intro gb308 hg w114 hbox hb
              replace HO_272000 := Aside0.mk (Kd.R_below (zr HO_272000) hb)
              replace HO_277000 := Aside0.mk (Kd.R_below (zr HO_277000) hb)
              replace HO_285000 := Aside0.mk (Kd.R_below (zr HO_285000) hb)
              replace HO299 := Aside0.mk (Kd.R_below (zr HO299) hb)
              have BK308 := Aside0.mk (hbox)
              have GW308 := Aside0.mk ((by rw [hg]; exact (below_size (zb HB)) : w.heap.size ≤ gb308))
              have GE308 := Aside0.mk ((by rw [hg]; exact (below_size (zb HB)) : w.heap.size ≤ gb308))
              replace HB := Aside0.mk (below_step (zb HB) hb)
              have NB256_308 := Aside0.mk ((by rw [hg]; exact Nat.ne_of_lt (blk_lt (g := gb256) (o := .cells #[.slice A0_0 l0_0.length c0_0, .int .i64 a0_1] 40 (0, 0)) (zk BK256)) : gb256 ≠ gb308))
              have NB308_256 := Aside0.mk ((by rw [hg]; exact Nat.ne_of_gt (blk_lt (g := gb256) (o := .cells #[.slice A0_0 l0_0.length c0_0, .int .i64 a0_1] 40 (0, 0)) (zk BK256)) : gb308 ≠ gb256))
              replace BK256 := Aside0.mk (blk_below (g := gb256) (o := .cells #[.slice A0_0 l0_0.length c0_0, .int .i64 a0_1] 40 (0, 0)) (zk BK256) hb)
              have NB257_308 := Aside0.mk ((by rw [hg]; exact Nat.ne_of_lt (blk_lt (g := gb257) (o := .cells #[.string a1_0, .string a1_1, .bool a1_2] 53 (0, 0)) (zk BK257)) : gb257 ≠ gb308))
              have NB308_257 := Aside0.mk ((by rw [hg]; exact Nat.ne_of_gt (blk_lt (g := gb257) (o := .cells #[.string a1_0, .string a1_1, .bool a1_2] 53 (0, 0)) (zk BK257)) : gb308 ≠ gb257))
              replace BK257 := Aside0.mk (blk_below (g := gb257) (o := .cells #[.string a1_0, .string a1_1, .bool a1_2] 53 (0, 0)) (zk BK257) hb)
              have NB271_308 := Aside0.mk ((by rw [hg]; exact Nat.ne_of_lt (blk_lt (g := gb271) (o := .cells #[.slice Ao34 t267.length co34, .int .i64 t270] 25 (0, 0)) (zk BK271)) : gb271 ≠ gb308))
              have NB308_271 := Aside0.mk ((by rw [hg]; exact Nat.ne_of_gt (blk_lt (g := gb271) (o := .cells #[.slice Ao34 t267.length co34, .int .i64 t270] 25 (0, 0)) (zk BK271)) : gb308 ≠ gb271))
              replace BK271 := Aside0.mk (blk_below (g := gb271) (o := .cells #[.slice Ao34 t267.length co34, .int .i64 t270] 25 (0, 0)) (zk BK271) hb)
              have NB276_308 := Aside0.mk ((by rw [hg]; exact Nat.ne_of_lt (blk_lt (g := gb276) (o := .cells #[.slice Ao41 t292.length co41, .int .i64 t275] 25 (0, 0)) (zk BK276)) : gb276 ≠ gb308))
              have NB308_276 := Aside0.mk ((by rw [hg]; exact Nat.ne_of_gt (blk_lt (g := gb276) (o := .cells #[.slice Ao41 t292.length co41, .int .i64 t275] 25 (0, 0)) (zk BK276)) : gb308 ≠ gb276))
              replace BK276 := Aside0.mk (blk_below (g := gb276) (o := .cells #[.slice Ao41 t292.length co41, .int .i64 t275] 25 (0, 0)) (zk BK276) hb)
              have NB284_308 := Aside0.mk ((by rw [hg]; exact Nat.ne_of_lt (blk_lt (g := gb284) (o := .cells #[.slice Ao52 t280.length co52, .int .i64 t283] 25 (0, 0)) (zk BK284)) : gb284 ≠ gb308))
              have NB308_284 := Aside0.mk ((by rw [hg]; exact Nat.ne_of_gt (blk_lt (g := gb284) (o := .cells #[.slice Ao52 t280.length co52, .int .i64 t283] 25 (0, 0)) (zk BK284)) : gb308 ≠ gb284))
              replace BK284 := Aside0.mk (blk_below (g := gb284) (o := .cells #[.slice Ao52 t280.length co52, .int .i64 t283] 25 (0, 0)) (zk BK284) hb)
              clear hb hbox hg
              obtain ⟨Ao115, co115, eo115⟩ := Kd.R_slice HO299.out
              (first | subst eo115 | (injection eo115 with f1_ f2_ f3_; have f4_ := f1_.symm; have f5_ := f3_.symm; clear f1_ f2_ f3_; subst f4_; subst f5_))
              refine hK.out _ _ ⟨(blk_cell BK256.out 0).trans rfl, (blk_cell BK256.out 1).trans rfl, (blk_cell BK257.out 0).trans rfl, (blk_cell BK257.out 1).trans rfl, (blk_cell BK257.out 2).trans rfl⟩ (fun hHeld => ?_)
              clear hK K
              refine nm ?_
              refine one_ (i := 4) (N := some 69) (bm 7 63) rfl rfl (by kernel_rfl) (by decide) (fun K hK => ?_)
              refine gs Try.func30 #[.agg #[.slice Ao115 t297.length co115, .int .i64 t300], .agg #[.string t301, .string t302, .bool t303]] ?_
              with_reducible refine (impl_TableAdd.calls kj72 _ _ t297 t300 t301 t302 t303 t304 t307 _ ?side1 ?side2 A108.out).mono ?_
              (case side1 => exact zc (Kd.R_reads' HO299.out).2.2)
              (case side2 => exact (Kd.R_reads' HO299.out).2.1)
              rintro e w116 ⟨v305, rfl, ho0, hb⟩
              refine ⟨_, rfl, ?_⟩
              have HO306 := Aside0.mk (Kd.R_lower (Kd.R_new' (Kd.R_new' (Kd.R_new' (Kd.R_new' ho0 (Kd.R_lt (zr HO_272000))) (Kd.R_lt (zr HO_277000))) (Kd.R_lt (zr HO_285000))) (Kd.R_lt (zr HO299))) (below_size (zb HB)))
              replace HO_272000 := Aside0.mk (Kd.R_elder' (zr HO_272000) (Kd.R_base ho0) hb)
              replace HO_277000 := Aside0.mk (Kd.R_elder' (zr HO_277000) (Kd.R_base ho0) hb)
              replace HO_285000 := Aside0.mk (Kd.R_elder' (zr HO_285000) (Kd.R_base ho0) hb)
              replace HO299 := Aside0.mk (Kd.R_elder' (zr HO299) (Kd.R_base ho0) hb)
              replace BK256 := Aside0.mk (blk_below (g := gb256) (o := .cells #[.slice A0_0 l0_0.length c0_0, .int .i64 a0_1] 40 (0, 0)) (zk BK256) hb)
              replace BK257 := Aside0.mk (blk_below (g := gb257) (o := .cells #[.string a1_0, .string a1_1, .bool a1_2] 53 (0, 0)) (zk BK257) hb)
              replace BK271 := Aside0.mk (blk_below (g := gb271) (o := .cells #[.slice Ao34 t267.length co34, .int .i64 t270] 25 (0, 0)) (zk BK271) hb)
              replace BK276 := Aside0.mk (blk_below (g := gb276) (o := .cells #[.slice Ao41 t292.length co41, .int .i64 t275] 25 (0, 0)) (zk BK276) hb)
              replace BK284 := Aside0.mk (blk_below (g := gb284) (o := .cells #[.slice Ao52 t280.length co52, .int .i64 t283] 25 (0, 0)) (zk BK284) hb)
              replace BK308 := Aside0.mk (blk_below (g := gb308) (o := .cells #[.slice none 0 0, .int .i64 0] 25 (0, 0)) (zk BK308) hb)
              replace HB := Aside0.mk (below_step (zb HB) hb)
              (try clear hb)
              (try clear ho0)
              refine hK.out _ _ ⟨(blk_cell BK256.out 0).trans rfl, (blk_cell BK256.out 1).trans rfl, (blk_cell BK257.out 0).trans rfl, (blk_cell BK257.out 1).trans rfl, (blk_cell BK257.out 2).trans rfl⟩ (fun hHeld => ?_)
              clear hK K
              refine nm ?_
              exact norm_ (by simp only [putAll, Act.put, s1, s2, s3]) (hCont (.slice Ao115 t297.length co115, v305, gb308) _ ⟨hHeld, (by (with_reducible repeat (first | apply Kd.R_alloc | apply Kd.R_drewN | apply Kd.R_drew)); exact Kd.R_mono HO299.out (fun _ hk => ⟨hk.2, ⟨hk.1.1.1.2, ⟨hk.1.1.2, hk.1.2⟩⟩⟩)), (by (with_reducible repeat (first | apply Kd.R_alloc | apply Kd.R_drewN | apply Kd.R_drew)); exact Kd.R_mono HO306.out (fun _ hk => ⟨hk.2, ⟨hk.1.1.1.2, ⟨hk.1.1.2, hk.1.2⟩⟩⟩)), (by (with_reducible repeat (first | apply Kd.R_alloc | apply Kd.R_drewN | apply Kd.R_drew)); exact Kd.R_mono HO_272000.out (fun _ hk => ⟨hk.1.2, ⟨hk.2, ⟨hk.1.1.1, hk.1.1.2⟩⟩⟩)), (by (with_reducible repeat (first | apply Kd.R_alloc | apply Kd.R_drewN | apply Kd.R_drew)); exact Kd.R_mono HO_277000.out (fun _ hk => ⟨hk.1.2, ⟨hk.2, ⟨hk.1.1.1, hk.1.1.2⟩⟩⟩)), (by (with_reducible repeat (first | apply Kd.R_alloc | apply Kd.R_drewN | apply Kd.R_drew)); exact Kd.R_mono HO_285000.out (fun _ hk => ⟨hk.1.2, ⟨hk.2, ⟨hk.1.1.1, hk.1.1.2⟩⟩⟩)), (zk BK256), (zk BK257), (zk BK271), (zk BK276), (zk BK284), (zk BK308), GW308.out, GE308.out, NB256_308.out, NB308_256.out, NB257_308.out, NB308_257.out, NB271_308.out, NB308_271.out, NB276_308.out, NB308_276.out, NB284_308.out, NB308_284.out, (zb HB)⟩)
            ·skip
             refine box_step ?hg (N := 12) ?hd (cs := #[.slice none 0 0, .int .i64 0]) (t := 25) ?hr ?_; (case hd => rfl); (case hg => rfl); (case hr => first | (go_simp; done) | (go_simp; rfl))
             intro gb308 hg w113 hbox hb
             replace HO_272000 := Aside0.mk (Kd.R_below (zr HO_272000) hb)
             replace HO_277000 := Aside0.mk (Kd.R_below (zr HO_277000) hb)
             replace HO_285000 := Aside0.mk (Kd.R_below (zr HO_285000) hb)
             replace HO299 := Aside0.mk (Kd.R_below (zr HO299) hb)
             have BK308 := Aside0.mk (hbox)
             have GW308 := Aside0.mk ((by rw [hg]; exact (below_size (zb HB)) : w.heap.size ≤ gb308))
             have GE308 := Aside0.mk ((by rw [hg]; exact (below_size (zb HB)) : w.heap.size ≤ gb308))
             replace HB := Aside0.mk (below_step (zb HB) hb)
             have NB256_308 := Aside0.mk ((by rw [hg]; exact Nat.ne_of_lt (blk_lt (g := gb256) (o := .cells #[.slice A0_0 l0_0.length c0_0, .int .i64 a0_1] 40 (0, 0)) (zk BK256)) : gb256 ≠ gb308))
             have NB308_256 := Aside0.mk ((by rw [hg]; exact Nat.ne_of_gt (blk_lt (g := gb256) (o := .cells #[.slice A0_0 l0_0.length c0_0, .int .i64 a0_1] 40 (0, 0)) (zk BK256)) : gb308 ≠ gb256))
             replace BK256 := Aside0.mk (blk_below (g := gb256) (o := .cells #[.slice A0_0 l0_0.length c0_0, .int .i64 a0_1] 40 (0, 0)) (zk BK256) hb)
             have NB257_308 := Aside0.mk ((by rw [hg]; exact Nat.ne_of_lt (blk_lt (g := gb257) (o := .cells #[.string a1_0, .string a1_1, .bool a1_2] 53 (0, 0)) (zk BK257)) : gb257 ≠ gb308))
             have NB308_257 := Aside0.mk ((by rw [hg]; exact Nat.ne_of_gt (blk_lt (g := gb257) (o := .cells #[.string a1_0, .string a1_1, .bool a1_2] 53 (0, 0)) (zk BK257)) : gb308 ≠ gb257))
             replace BK257 := Aside0.mk (blk_below (g := gb257) (o := .cells #[.string a1_0, .string a1_1, .bool a1_2] 53 (0, 0)) (zk BK257) hb)
             have NB271_308 := Aside0.mk ((by rw [hg]; exact Nat.ne_of_lt (blk_lt (g := gb271) (o := .cells #[.slice Ao34 t267.length co34, .int .i64 t270] 25 (0, 0)) (zk BK271)) : gb271 ≠ gb308))
             have NB308_271 := Aside0.mk ((by rw [hg]; exact Nat.ne_of_gt (blk_lt (g := gb271) (o := .cells #[.slice Ao34 t267.length co34, .int .i64 t270] 25 (0, 0)) (zk BK271)) : gb308 ≠ gb271))
             replace BK271 := Aside0.mk (blk_below (g := gb271) (o := .cells #[.slice Ao34 t267.length co34, .int .i64 t270] 25 (0, 0)) (zk BK271) hb)
             have NB276_308 := Aside0.mk ((by rw [hg]; exact Nat.ne_of_lt (blk_lt (g := gb276) (o := .cells #[.slice Ao41 t292.length co41, .int .i64 t275] 25 (0, 0)) (zk BK276)) : gb276 ≠ gb308))
             have NB308_276 := Aside0.mk ((by rw [hg]; exact Nat.ne_of_gt (blk_lt (g := gb276) (o := .cells #[.slice Ao41 t292.length co41, .int .i64 t275] 25 (0, 0)) (zk BK276)) : gb308 ≠ gb276))
             replace BK276 := Aside0.mk (blk_below (g := gb276) (o := .cells #[.slice Ao41 t292.length co41, .int .i64 t275] 25 (0, 0)) (zk BK276) hb)
             have NB284_308 := Aside0.mk ((by rw [hg]; exact Nat.ne_of_lt (blk_lt (g := gb284) (o := .cells #[.slice Ao52 t280.length co52, .int .i64 t283] 25 (0, 0)) (zk BK284)) : gb284 ≠ gb308))
             have NB308_284 := Aside0.mk ((by rw [hg]; exact Nat.ne_of_gt (blk_lt (g := gb284) (o := .cells #[.slice Ao52 t280.length co52, .int .i64 t283] 25 (0, 0)) (zk BK284)) : gb308 ≠ gb284))
             replace BK284 := Aside0.mk (blk_below (g := gb284) (o := .cells #[.slice Ao52 t280.length co52, .int .i64 t283] 25 (0, 0)) (zk BK284) hb)
             clear hb hbox hg
             refine hK.out _ _ ⟨(blk_cell BK256.out 0).trans rfl, (blk_cell BK256.out 1).trans rfl, (blk_cell BK257.out 0).trans rfl, (blk_cell BK257.out 1).trans rfl, (blk_cell BK257.out 2).trans rfl⟩ (fun hHeld => ?_)
             clear hK K
             refine nm ?_
             refine one_ (i := 3) (N := some 68) (bm 7 47) rfl rfl (by kernel_rfl) (by decide) (fun K hK => ?_)
             refine gs Try.func36 #[.agg #[.string a1_0, .string a1_1, .bool a1_2]] ?_
             with_reducible refine (laws_toField.calls a1_0 a1_1 a1_2 t301 t302 t303 _ A107.out).mono ?_
             rintro e w114 ⟨rfl, hb⟩
             refine ⟨_, rfl, ?_⟩
             replace HO_272000 := Aside0.mk (Kd.R_below (zr HO_272000) hb)
             replace HO_277000 := Aside0.mk (Kd.R_below (zr HO_277000) hb)
             replace HO_285000 := Aside0.mk (Kd.R_below (zr HO_285000) hb)
             replace HO299 := Aside0.mk (Kd.R_below (zr HO299) hb)
             replace BK256 := Aside0.mk (blk_below (g := gb256) (o := .cells #[.slice A0_0 l0_0.length c0_0, .int .i64 a0_1] 40 (0, 0)) (zk BK256) hb)
             replace BK257 := Aside0.mk (blk_below (g := gb257) (o := .cells #[.string a1_0, .string a1_1, .bool a1_2] 53 (0, 0)) (zk BK257) hb)
             replace BK271 := Aside0.mk (blk_below (g := gb271) (o := .cells #[.slice Ao34 t267.length co34, .int .i64 t270] 25 (0, 0)) (zk BK271) hb)
             replace BK276 := Aside0.mk (blk_below (g := gb276) (o := .cells #[.slice Ao41 t292.length co41, .int .i64 t275] 25 (0, 0)) (zk BK276) hb)
             replace BK284 := Aside0.mk (blk_below (g := gb284) (o := .cells #[.slice Ao52 t280.length co52, .int .i64 t283] 25 (0, 0)) (zk BK284) hb)
             replace BK308 := Aside0.mk (blk_below (g := gb308) (o := .cells #[.slice none 0 0, .int .i64 0] 25 (0, 0)) (zk BK308) hb)
             replace HB := Aside0.mk (below_step (zb HB) hb)
             (try clear hb)
             obtain ⟨Ao115, co115, eo115⟩ := Kd.R_slice HO299.out
             (first | subst eo115 | (injection eo115 with f1_ f2_ f3_; have f4_ := f1_.symm; have f5_ := f3_.symm; clear f1_ f2_ f3_; subst f4_; subst f5_))
             refine hK.out _ _ ⟨(blk_cell BK256.out 0).trans rfl, (blk_cell BK256.out 1).trans rfl, (blk_cell BK257.out 0).trans rfl, (blk_cell BK257.out 1).trans rfl, (blk_cell BK257.out 2).trans rfl⟩ (fun hHeld => ?_)
             clear hK K
             refine nm ?_
             refine one_ (i := 4) (N := some 69) (bm 7 63) rfl rfl (by kernel_rfl) (by decide) (fun K hK => ?_)
             refine gs Try.func30 #[.agg #[.slice Ao115 t297.length co115, .int .i64 t300], .agg #[.string t301, .string t302, .bool t303]] ?_
             with_reducible refine (impl_TableAdd.calls kj72 _ _ t297 t300 t301 t302 t303 t304 t307 _ ?side1 ?side2 A108.out).mono ?_
             (case side1 => exact zc (Kd.R_reads' HO299.out).2.2)
             (case side2 => exact (Kd.R_reads' HO299.out).2.1)
             rintro e w116 ⟨v305, rfl, ho0, hb⟩
             refine ⟨_, rfl, ?_⟩
             have HO306 := Aside0.mk (Kd.R_lower (Kd.R_new' (Kd.R_new' (Kd.R_new' (Kd.R_new' ho0 (Kd.R_lt (zr HO_272000))) (Kd.R_lt (zr HO_277000))) (Kd.R_lt (zr HO_285000))) (Kd.R_lt (zr HO299))) (below_size (zb HB)))
             replace HO_272000 := Aside0.mk (Kd.R_elder' (zr HO_272000) (Kd.R_base ho0) hb)
             replace HO_277000 := Aside0.mk (Kd.R_elder' (zr HO_277000) (Kd.R_base ho0) hb)
             replace HO_285000 := Aside0.mk (Kd.R_elder' (zr HO_285000) (Kd.R_base ho0) hb)
             replace HO299 := Aside0.mk (Kd.R_elder' (zr HO299) (Kd.R_base ho0) hb)
             replace BK256 := Aside0.mk (blk_below (g := gb256) (o := .cells #[.slice A0_0 l0_0.length c0_0, .int .i64 a0_1] 40 (0, 0)) (zk BK256) hb)
             replace BK257 := Aside0.mk (blk_below (g := gb257) (o := .cells #[.string a1_0, .string a1_1, .bool a1_2] 53 (0, 0)) (zk BK257) hb)
             replace BK271 := Aside0.mk (blk_below (g := gb271) (o := .cells #[.slice Ao34 t267.length co34, .int .i64 t270] 25 (0, 0)) (zk BK271) hb)
             replace BK276 := Aside0.mk (blk_below (g := gb276) (o := .cells #[.slice Ao41 t292.length co41, .int .i64 t275] 25 (0, 0)) (zk BK276) hb)
             replace BK284 := Aside0.mk (blk_below (g := gb284) (o := .cells #[.slice Ao52 t280.length co52, .int .i64 t283] 25 (0, 0)) (zk BK284) hb)
             replace BK308 := Aside0.mk (blk_below (g := gb308) (o := .cells #[.slice none 0 0, .int .i64 0] 25 (0, 0)) (zk BK308) hb)
             replace HB := Aside0.mk (below_step (zb HB) hb)
             (try clear hb)
             (try clear ho0)
             refine hK.out _ _ ⟨(blk_cell BK256.out 0).trans rfl, (blk_cell BK256.out 1).trans rfl, (blk_cell BK257.out 0).trans rfl, (blk_cell BK257.out 1).trans rfl, (blk_cell BK257.out 2).trans rfl⟩ (fun hHeld => ?_)
             clear hK K
             refine nm ?_
             exact norm_ (by simp only [putAll, Act.put, s1, s2, s3]) (hCont (.slice Ao115 t297.length co115, v305, gb308) _ ⟨hHeld, (by (with_reducible repeat (first | apply Kd.R_alloc | apply Kd.R_drewN | apply Kd.R_drew)); exact Kd.R_mono HO299.out (fun _ hk => ⟨hk.2, ⟨hk.1.1.1.2, ⟨hk.1.1.2, hk.1.2⟩⟩⟩)), (by (with_reducible repeat (first | apply Kd.R_alloc | apply Kd.R_drewN | apply Kd.R_drew)); exact Kd.R_mono HO306.out (fun _ hk => ⟨hk.2, ⟨hk.1.1.1.2, ⟨hk.1.1.2, hk.1.2⟩⟩⟩)), (by (with_reducible repeat (first | apply Kd.R_alloc | apply Kd.R_drewN | apply Kd.R_drew)); exact Kd.R_mono HO_272000.out (fun _ hk => ⟨hk.1.2, ⟨hk.2, ⟨hk.1.1.1, hk.1.1.2⟩⟩⟩)), (by (with_reducible repeat (first | apply Kd.R_alloc | apply Kd.R_drewN | apply Kd.R_drew)); exact Kd.R_mono HO_277000.out (fun _ hk => ⟨hk.1.2, ⟨hk.2, ⟨hk.1.1.1, hk.1.1.2⟩⟩⟩)), (by (with_reducible repeat (first | apply Kd.R_alloc | apply Kd.R_drewN | apply Kd.R_drew)); exact Kd.R_mono HO_285000.out (fun _ hk => ⟨hk.1.2, ⟨hk.2, ⟨hk.1.1.1, hk.1.1.2⟩⟩⟩)), (zk BK256), (zk BK257), (zk BK271), (zk BK276), (zk BK284), (zk BK308), GW308.out, GE308.out, NB256_308.out, NB308_256.out, NB257_308.out, NB308_257.out, NB271_308.out, NB308_271.out, NB276_308.out, NB308_276.out, NB284_308.out, NB308_284.out, (zb HB)⟩)
           ·skip
            refine box_step ?hg (N := 12) ?hd (cs := #[.slice none 0 0, .int .i64 0]) (t := 25) ?hr ?_; (case hd => rfl); (case hg => rfl); (case hr => first | (go_simp; done) | (go_simp; rfl))
            intro gb308 hg w112 hbox hb
            replace HO_272000 := Aside0.mk (Kd.R_below (zr HO_272000) hb)
            replace HO_277000 := Aside0.mk (Kd.R_below (zr HO_277000) hb)
            replace HO_285000 := Aside0.mk (Kd.R_below (zr HO_285000) hb)
            have BK308 := Aside0.mk (hbox)
            have GW308 := Aside0.mk ((by rw [hg]; exact (below_size (zb HB)) : w.heap.size ≤ gb308))
            have GE308 := Aside0.mk ((by rw [hg]; exact (below_size (zb HB)) : w.heap.size ≤ gb308))
            replace HB := Aside0.mk (below_step (zb HB) hb)
            have NB256_308 := Aside0.mk ((by rw [hg]; exact Nat.ne_of_lt (blk_lt (g := gb256) (o := .cells #[.slice A0_0 l0_0.length c0_0, .int .i64 a0_1] 40 (0, 0)) (zk BK256)) : gb256 ≠ gb308))
            have NB308_256 := Aside0.mk ((by rw [hg]; exact Nat.ne_of_gt (blk_lt (g := gb256) (o := .cells #[.slice A0_0 l0_0.length c0_0, .int .i64 a0_1] 40 (0, 0)) (zk BK256)) : gb308 ≠ gb256))
            replace BK256 := Aside0.mk (blk_below (g := gb256) (o := .cells #[.slice A0_0 l0_0.length c0_0, .int .i64 a0_1] 40 (0, 0)) (zk BK256) hb)
            have NB257_308 := Aside0.mk ((by rw [hg]; exact Nat.ne_of_lt (blk_lt (g := gb257) (o := .cells #[.string a1_0, .string a1_1, .bool a1_2] 53 (0, 0)) (zk BK257)) : gb257 ≠ gb308))
            have NB308_257 := Aside0.mk ((by rw [hg]; exact Nat.ne_of_gt (blk_lt (g := gb257) (o := .cells #[.string a1_0, .string a1_1, .bool a1_2] 53 (0, 0)) (zk BK257)) : gb308 ≠ gb257))
            replace BK257 := Aside0.mk (blk_below (g := gb257) (o := .cells #[.string a1_0, .string a1_1, .bool a1_2] 53 (0, 0)) (zk BK257) hb)
            have NB271_308 := Aside0.mk ((by rw [hg]; exact Nat.ne_of_lt (blk_lt (g := gb271) (o := .cells #[.slice Ao34 t267.length co34, .int .i64 t270] 25 (0, 0)) (zk BK271)) : gb271 ≠ gb308))
            have NB308_271 := Aside0.mk ((by rw [hg]; exact Nat.ne_of_gt (blk_lt (g := gb271) (o := .cells #[.slice Ao34 t267.length co34, .int .i64 t270] 25 (0, 0)) (zk BK271)) : gb308 ≠ gb271))
            replace BK271 := Aside0.mk (blk_below (g := gb271) (o := .cells #[.slice Ao34 t267.length co34, .int .i64 t270] 25 (0, 0)) (zk BK271) hb)
            have NB276_308 := Aside0.mk ((by rw [hg]; exact Nat.ne_of_lt (blk_lt (g := gb276) (o := .cells #[.slice Ao41 t292.length co41, .int .i64 t275] 25 (0, 0)) (zk BK276)) : gb276 ≠ gb308))
            have NB308_276 := Aside0.mk ((by rw [hg]; exact Nat.ne_of_gt (blk_lt (g := gb276) (o := .cells #[.slice Ao41 t292.length co41, .int .i64 t275] 25 (0, 0)) (zk BK276)) : gb308 ≠ gb276))
            replace BK276 := Aside0.mk (blk_below (g := gb276) (o := .cells #[.slice Ao41 t292.length co41, .int .i64 t275] 25 (0, 0)) (zk BK276) hb)
            have NB284_308 := Aside0.mk ((by rw [hg]; exact Nat.ne_of_lt (blk_lt (g := gb284) (o := .cells #[.slice Ao52 t280.length co52, .int .i64 t283] 25 (0, 0)) (zk BK284)) : gb284 ≠ gb308))
            have NB308_284 := Aside0.mk ((by rw [hg]; exact Nat.ne_of_gt (blk_lt (g := gb284) (o := .cells #[.slice Ao52 t280.length co52, .int .i64 t283] 25 (0, 0)) (zk BK284)) : gb308 ≠ gb284))
            replace BK284 := Aside0.mk (blk_below (g := gb284) (o := .cells #[.slice Ao52 t280.length co52, .int .i64 t283] 25 (0, 0)) (zk BK284) hb)
            clear hb hbox hg
            refine hK.out _ _ ⟨(blk_cell BK256.out 0).trans rfl, (blk_cell BK256.out 1).trans rfl, (blk_cell BK257.out 0).trans rfl, (blk_cell BK257.out 1).trans rfl, (blk_cell BK257.out 2).trans rfl⟩ (fun hHeld => ?_)
            clear hK K
            refine nm ?_
            refine one_ (i := 1) (N := some 66) (bm 7 39) rfl rfl (by kernel_rfl) (by decide) (fun K hK => ?_)
            refine gs Try.func25 #[.agg #[.slice A0_0 l0_0.length c0_0, .int .i64 a0_1]] ?_
            with_reducible refine (laws_toTable.calls kj72 _ _ l0_0 a0_1 t297 t300 _ ?side1 ?side2 A106.out).mono ?_
            (case side1 => exact zc (Kd.C_below HR0_0.out HB.out))
            (case side2 => exact HC0_0.out)
            rintro e w113 ⟨v298, rfl, ho0, hb⟩
            refine ⟨_, rfl, ?_⟩
            have HO299 := Aside0.mk (Kd.R_lower (Kd.R_new' (Kd.R_new' (Kd.R_new' ho0 (Kd.R_lt (zr HO_272000))) (Kd.R_lt (zr HO_277000))) (Kd.R_lt (zr HO_285000))) (below_size (zb HB)))
            replace HO_272000 := Aside0.mk (Kd.R_elder' (zr HO_272000) (Kd.R_base ho0) hb)
            replace HO_277000 := Aside0.mk (Kd.R_elder' (zr HO_277000) (Kd.R_base ho0) hb)
            replace HO_285000 := Aside0.mk (Kd.R_elder' (zr HO_285000) (Kd.R_base ho0) hb)
            replace BK256 := Aside0.mk (blk_below (g := gb256) (o := .cells #[.slice A0_0 l0_0.length c0_0, .int .i64 a0_1] 40 (0, 0)) (zk BK256) hb)
            replace BK257 := Aside0.mk (blk_below (g := gb257) (o := .cells #[.string a1_0, .string a1_1, .bool a1_2] 53 (0, 0)) (zk BK257) hb)
            replace BK271 := Aside0.mk (blk_below (g := gb271) (o := .cells #[.slice Ao34 t267.length co34, .int .i64 t270] 25 (0, 0)) (zk BK271) hb)
            replace BK276 := Aside0.mk (blk_below (g := gb276) (o := .cells #[.slice Ao41 t292.length co41, .int .i64 t275] 25 (0, 0)) (zk BK276) hb)
            replace BK284 := Aside0.mk (blk_below (g := gb284) (o := .cells #[.slice Ao52 t280.length co52, .int .i64 t283] 25 (0, 0)) (zk BK284) hb)
            replace BK308 := Aside0.mk (blk_below (g := gb308) (o := .cells #[.slice none 0 0, .int .i64 0] 25 (0, 0)) (zk BK308) hb)
            replace HB := Aside0.mk (below_step (zb HB) hb)
            (try clear hb)
            (try clear ho0)
            refine hK.out _ _ ⟨(blk_cell BK256.out 0).trans rfl, (blk_cell BK256.out 1).trans rfl, (blk_cell BK257.out 0).trans rfl, (blk_cell BK257.out 1).trans rfl, (blk_cell BK257.out 2).trans rfl⟩ (fun hHeld => ?_)
            clear hK K
            refine nm ?_
            refine one_ (i := 3) (N := some 68) (bm 7 47) rfl rfl (by kernel_rfl) (by decide) (fun K hK => ?_)
            refine gs Try.func36 #[.agg #[.string a1_0, .string a1_1, .bool a1_2]] ?_
            with_reducible refine (laws_toField.calls a1_0 a1_1 a1_2 t301 t302 t303 _ A107.out).mono ?_
            rintro e w114 ⟨rfl, hb⟩
            refine ⟨_, rfl, ?_⟩
            replace HO_272000 := Aside0.mk (Kd.R_below (zr HO_272000) hb)
            replace HO_277000 := Aside0.mk (Kd.R_below (zr HO_277000) hb)
            replace HO_285000 := Aside0.mk (Kd.R_below (zr HO_285000) hb)
            replace HO299 := Aside0.mk (Kd.R_below (zr HO299) hb)
            replace BK256 := Aside0.mk (blk_below (g := gb256) (o := .cells #[.slice A0_0 l0_0.length c0_0, .int .i64 a0_1] 40 (0, 0)) (zk BK256) hb)
            replace BK257 := Aside0.mk (blk_below (g := gb257) (o := .cells #[.string a1_0, .string a1_1, .bool a1_2] 53 (0, 0)) (zk BK257) hb)
            replace BK271 := Aside0.mk (blk_below (g := gb271) (o := .cells #[.slice Ao34 t267.length co34, .int .i64 t270] 25 (0, 0)) (zk BK271) hb)
            replace BK276 := Aside0.mk (blk_below (g := gb276) (o := .cells #[.slice Ao41 t292.length co41, .int .i64 t275] 25 (0, 0)) (zk BK276) hb)
            replace BK284 := Aside0.mk (blk_below (g := gb284) (o := .cells #[.slice Ao52 t280.length co52, .int .i64 t283] 25 (0, 0)) (zk BK284) hb)
            replace BK308 := Aside0.mk (blk_below (g := gb308) (o := .cells #[.slice none 0 0, .int .i64 0] 25 (0, 0)) (zk BK308) hb)
            replace HB := Aside0.mk (below_step (zb HB) hb)
            (try clear hb)
            obtain ⟨Ao115, co115, eo115⟩ := Kd.R_slice HO299.out
            (first | subst eo115 | (injection eo115 with f1_ f2_ f3_; have f4_ := f1_.symm; have f5_ := f3_.symm; clear f1_ f2_ f3_; subst f4_; subst f5_))
            refine hK.out _ _ ⟨(blk_cell BK256.out 0).trans rfl, (blk_cell BK256.out 1).trans rfl, (blk_cell BK257.out 0).trans rfl, (blk_cell BK257.out 1).trans rfl, (blk_cell BK257.out 2).trans rfl⟩ (fun hHeld => ?_)
            clear hK K
            refine nm ?_
            refine one_ (i := 4) (N := some 69) (bm 7 63) rfl rfl (by kernel_rfl) (by decide) (fun K hK => ?_)
            refine gs Try.func30 #[.agg #[.slice Ao115 t297.length co115, .int .i64 t300], .agg #[.string t301, .string t302, .bool t303]] ?_
            with_reducible refine (impl_TableAdd.calls kj72 _ _ t297 t300 t301 t302 t303 t304 t307 _ ?side1 ?side2 A108.out).mono ?_
            (case side1 => exact zc (Kd.R_reads' HO299.out).2.2)
            (case side2 => exact (Kd.R_reads' HO299.out).2.1)
            rintro e w116 ⟨v305, rfl, ho0, hb⟩
            refine ⟨_, rfl, ?_⟩
            have HO306 := Aside0.mk (Kd.R_lower (Kd.R_new' (Kd.R_new' (Kd.R_new' (Kd.R_new' ho0 (Kd.R_lt (zr HO_272000))) (Kd.R_lt (zr HO_277000))) (Kd.R_lt (zr HO_285000))) (Kd.R_lt (zr HO299))) (below_size (zb HB)))
            replace HO_272000 := Aside0.mk (Kd.R_elder' (zr HO_272000) (Kd.R_base ho0) hb)
            replace HO_277000 := Aside0.mk (Kd.R_elder' (zr HO_277000) (Kd.R_base ho0) hb)
            replace HO_285000 := Aside0.mk (Kd.R_elder' (zr HO_285000) (Kd.R_base ho0) hb)
            replace HO299 := Aside0.mk (Kd.R_elder' (zr HO299) (Kd.R_base ho0) hb)
            replace BK256 := Aside0.mk (blk_below (g := gb256) (o := .cells #[.slice A0_0 l0_0.length c0_0, .int .i64 a0_1] 40 (0, 0)) (zk BK256) hb)
            replace BK257 := Aside0.mk (blk_below (g := gb257) (o := .cells #[.string a1_0, .string a1_1, .bool a1_2] 53 (0, 0)) (zk BK257) hb)
            replace BK271 := Aside0.mk (blk_below (g := gb271) (o := .cells #[.slice Ao34 t267.length co34, .int .i64 t270] 25 (0, 0)) (zk BK271) hb)
            replace BK276 := Aside0.mk (blk_below (g := gb276) (o := .cells #[.slice Ao41 t292.length co41, .int .i64 t275] 25 (0, 0)) (zk BK276) hb)
            replace BK284 := Aside0.mk (blk_below (g := gb284) (o := .cells #[.slice Ao52 t280.length co52, .int .i64 t283] 25 (0, 0)) (zk BK284) hb)
            replace BK308 := Aside0.mk (blk_below (g := gb308) (o := .cells #[.slice none 0 0, .int .i64 0] 25 (0, 0)) (zk BK308) hb)
            replace HB := Aside0.mk (below_step (zb HB) hb)
            (try clear hb)
            (try clear ho0)
            refine hK.out _ _ ⟨(blk_cell BK256.out 0).trans rfl, (blk_cell BK256.out 1).trans rfl, (blk_cell BK257.out 0).trans rfl, (blk_cell BK257.out 1).trans rfl, (blk_cell BK257.out 2).trans rfl⟩ (fun hHeld => ?_)
            clear hK K
            refine nm ?_
            exact norm_ (by simp only [putAll, Act.put, s1, s2, s3]) (hCont (.slice Ao115 t297.length co115, v305, gb308) _ ⟨hHeld, (by (with_reducible repeat (first | apply Kd.R_alloc | apply Kd.R_drewN | apply Kd.R_drew)); exact Kd.R_mono HO299.out (fun _ hk => ⟨hk.2, ⟨hk.1.1.1.2, ⟨hk.1.1.2, hk.1.2⟩⟩⟩)), (by (with_reducible repeat (first | apply Kd.R_alloc | apply Kd.R_drewN | apply Kd.R_drew)); exact Kd.R_mono HO306.out (fun _ hk => ⟨hk.2, ⟨hk.1.1.1.2, ⟨hk.1.1.2, hk.1.2⟩⟩⟩)), (by (with_reducible repeat (first | apply Kd.R_alloc | apply Kd.R_drewN | apply Kd.R_drew)); exact Kd.R_mono HO_272000.out (fun _ hk => ⟨hk.1.2, ⟨hk.2, ⟨hk.1.1.1, hk.1.1.2⟩⟩⟩)), (by (with_reducible repeat (first | apply Kd.R_alloc | apply Kd.R_drewN | apply Kd.R_drew)); exact Kd.R_mono HO_277000.out (fun _ hk => ⟨hk.1.2, ⟨hk.2, ⟨hk.1.1.1, hk.1.1.2⟩⟩⟩)), (by (with_reducible repeat (first | apply Kd.R_alloc | apply Kd.R_drewN | apply Kd.R_drew)); exact Kd.R_mono HO_285000.out (fun _ hk => ⟨hk.1.2, ⟨hk.2, ⟨hk.1.1.1, hk.1.1.2⟩⟩⟩)), (zk BK256), (zk BK257), (zk BK271), (zk BK276), (zk BK284), (zk BK308), GW308.out, GE308.out, NB256_308.out, NB308_256.out, NB257_308.out, NB308_257.out, NB271_308.out, NB308_271.out, NB276_308.out, NB308_276.out, NB284_308.out, NB308_284.out, (zb HB)⟩)
          rintro ⟨v298, v305, gb308⟩ w117 ⟨hS_, h0_, h1_, h2_, h3_, h4_, h5_, h6_, h7_, h8_, h9_, h10_, h11_, h12_, h13_, h14_, h15_, h16_, h17_, h18_, h19_, h20_, h21_, h22_, h23_⟩
          have n0_ : Aside0 (Kd.R k36 36 w117 w.heap.size (fun k_ => some k_ ≠ (v305 : Value).ownBlock ∧ some k_ ≠ (.slice Ao34 t267.length co34 : Value).ownBlock ∧ some k_ ≠ (.slice Ao41 t292.length co41 : Value).ownBlock ∧ some k_ ≠ (.slice Ao52 t280.length co52 : Value).ownBlock) v298 t297) := ⟨h0_⟩
          have n1_ : Aside0 (Kd.R k36 36 w117 w.heap.size (fun k_ => some k_ ≠ (v298 : Value).ownBlock ∧ some k_ ≠ (.slice Ao34 t267.length co34 : Value).ownBlock ∧ some k_ ≠ (.slice Ao41 t292.length co41 : Value).ownBlock ∧ some k_ ≠ (.slice Ao52 t280.length co52 : Value).ownBlock) v305 t304) := ⟨h1_⟩
          have n2_ : Aside0 (Kd.R k36 36 w117 w.heap.size (fun k_ => some k_ ≠ (v298 : Value).ownBlock ∧ some k_ ≠ (v305 : Value).ownBlock ∧ some k_ ≠ (.slice Ao41 t292.length co41 : Value).ownBlock ∧ some k_ ≠ (.slice Ao52 t280.length co52 : Value).ownBlock) (.slice Ao34 t267.length co34) t267) := ⟨h2_⟩
          have n3_ : Aside0 (Kd.R k36 36 w117 w.heap.size (fun k_ => some k_ ≠ (v298 : Value).ownBlock ∧ some k_ ≠ (v305 : Value).ownBlock ∧ some k_ ≠ (.slice Ao34 t267.length co34 : Value).ownBlock ∧ some k_ ≠ (.slice Ao52 t280.length co52 : Value).ownBlock) (.slice Ao41 t292.length co41) t292) := ⟨h3_⟩
          have n4_ : Aside0 (Kd.R k36 36 w117 w.heap.size (fun k_ => some k_ ≠ (v298 : Value).ownBlock ∧ some k_ ≠ (v305 : Value).ownBlock ∧ some k_ ≠ (.slice Ao34 t267.length co34 : Value).ownBlock ∧ some k_ ≠ (.slice Ao41 t292.length co41 : Value).ownBlock) (.slice Ao52 t280.length co52) t295) := ⟨h4_⟩
          have n5_ : Aside0 (w117.heap[gb256]? = some (.cells #[.slice A0_0 l0_0.length c0_0, .int .i64 a0_1] 40 (0, 0))) := ⟨h5_⟩
          have n6_ : Aside0 (w117.heap[gb257]? = some (.cells #[.string a1_0, .string a1_1, .bool a1_2] 53 (0, 0))) := ⟨h6_⟩
          have n7_ : Aside0 (w117.heap[gb271]? = some (.cells #[.slice Ao34 t267.length co34, .int .i64 t270] 25 (0, 0))) := ⟨h7_⟩
          have n8_ : Aside0 (w117.heap[gb276]? = some (.cells #[.slice Ao41 t292.length co41, .int .i64 t275] 25 (0, 0))) := ⟨h8_⟩
          have n9_ : Aside0 (w117.heap[gb284]? = some (.cells #[.slice Ao52 t280.length co52, .int .i64 t283] 25 (0, 0))) := ⟨h9_⟩
          have n10_ : Aside0 (w117.heap[gb308]? = some (.cells #[.slice none 0 0, .int .i64 0] 25 (0, 0))) := ⟨h10_⟩
          have n11_ : Aside0 (w.heap.size ≤ gb308) := ⟨h11_⟩
          have n12_ : Aside0 (w.heap.size ≤ gb308) := ⟨h12_⟩
          have n13_ : Aside0 (gb256 ≠ gb308) := ⟨h13_⟩
          have n14_ : Aside0 (gb308 ≠ gb256) := ⟨h14_⟩
          have n15_ : Aside0 (gb257 ≠ gb308) := ⟨h15_⟩
          have n16_ : Aside0 (gb308 ≠ gb257) := ⟨h16_⟩
          have n17_ : Aside0 (gb271 ≠ gb308) := ⟨h17_⟩
          have n18_ : Aside0 (gb308 ≠ gb271) := ⟨h18_⟩
          have n19_ : Aside0 (gb276 ≠ gb308) := ⟨h19_⟩
          have n20_ : Aside0 (gb308 ≠ gb276) := ⟨h20_⟩
          have n21_ : Aside0 (gb284 ≠ gb308) := ⟨h21_⟩
          have n22_ : Aside0 (gb308 ≠ gb284) := ⟨h22_⟩
          have n23_ : Aside0 (Below w.heap.size w w117) := ⟨h23_⟩
          clear HO_272000
          clear HO_277000
          clear HO_285000
          clear BK256
          clear BK257
          clear BK271
          clear BK276
          clear BK284
          clear HB
          clear h0_ h1_ h2_ h3_ h4_ h5_ h6_ h7_ h8_ h9_ h10_ h11_ h12_ h13_ h14_ h15_ h16_ h17_ h18_ h19_ h20_ h21_ h22_ h23_
          have HO299 := n0_
          have HO306 := n1_
          have HO_272000 := n2_
          have HO_277000 := n3_
          have HO_285000 := n4_
          have BK256 := n5_
          have BK257 := n6_
          have BK271 := n7_
          have BK276 := n8_
          have BK284 := n9_
          have BK308 := n10_
          have GW308 := n11_
          have GE308 := n12_
          have NB256_308 := n13_
          have NB308_256 := n14_
          have NB257_308 := n15_
          have NB308_257 := n16_
          have NB271_308 := n17_
          have NB308_271 := n18_
          have NB276_308 := n19_
          have NB308_276 := n20_
          have NB284_308 := n21_
          have NB308_284 := n22_
          have HB := n23_
          clear n0_ n1_ n2_ n3_ n4_ n5_ n6_ n7_ n8_ n9_ n10_ n11_ n12_ n13_ n14_ n15_ n16_ n17_ n18_ n19_ n20_ n21_ n22_ n23_
          have hHeld : w117.cell? ⟨gb256, 0, none⟩ = some (.slice A0_0 l0_0.length c0_0) ∧ w117.cell? ⟨gb256, 1, none⟩ = some (.int .i64 a0_1) ∧ w117.cell? ⟨gb257, 0, none⟩ = some (.string a1_0) ∧ w117.cell? ⟨gb257, 1, none⟩ = some (.string a1_1) ∧ w117.cell? ⟨gb257, 2, none⟩ = some (.bool a1_2) := hS_
          obtain ⟨Ao118, co118, eo118⟩ := Kd.R_slice HO306.out
          (first | subst eo118 | (injection eo118 with f1_ f2_ f3_; have f4_ := f1_.symm; have f5_ := f3_.symm; clear f1_ f2_ f3_; subst f4_; subst f5_))
          refine norm_ (a' := ?_) ?_ ?_
          rotate_left
          ·simp only [putAll, Act.put, s1, s2, s3]
           rfl
          refine one_ (i := 6) (N := none) (bm 7 127) rfl rfl (by kernel_rfl) (by decide) (fun K hK => ?_)
          have hs119 : w117.cell? ⟨gb308, 0, none⟩ = some (.slice none 0 0) := (blk_cell BK308.out 0).trans rfl
          have hfs119 := blk_frozen BK308.out 0
          have hns119_0 := NB256_308.out
          have hns119_1 := NB257_308.out
          have hns119_2 := NB271_308.out
          have hns119_3 := NB276_308.out
          have hns119_4 := NB284_308.out
          have hms119_0 := NB308_256.out
          have hms119_1 := NB308_257.out
          have hms119_2 := NB308_271.out
          have hms119_3 := NB308_276.out
          have hms119_4 := NB308_284.out
          have hs120 : w117.cell? ⟨gb308, 1, none⟩ = some (.int .i64 0) := (blk_cell BK308.out 1).trans rfl
          have hfs120 := blk_frozen BK308.out 1
          have hns120_0 := NB256_308.out
          have hns120_1 := NB257_308.out
          have hns120_2 := NB271_308.out
          have hns120_3 := NB276_308.out
          have hns120_4 := NB284_308.out
          have hms120_0 := NB308_256.out
          have hms120_1 := NB308_257.out
          have hms120_2 := NB308_271.out
          have hms120_3 := NB308_276.out
          have hms120_4 := NB308_284.out
          refine skip_ (w1 := ?_) (by rfl) rfl ?_ ?_
          rotate_left
          ·go_simp
           rfl
          refine hK.out _ _ ⟨((cell_far (p := ⟨gb308, _, none⟩) NB256_308.out _).trans (((cell_far (p := ⟨gb308, _, none⟩) NB256_308.out _).trans (hHeld.1)))), ((cell_far (p := ⟨gb308, _, none⟩) NB256_308.out _).trans (((cell_far (p := ⟨gb308, _, none⟩) NB256_308.out _).trans (hHeld.2.1)))), ((cell_far (p := ⟨gb308, _, none⟩) NB257_308.out _).trans (((cell_far (p := ⟨gb308, _, none⟩) NB257_308.out _).trans (hHeld.2.2.1)))), ((cell_far (p := ⟨gb308, _, none⟩) NB257_308.out _).trans (((cell_far (p := ⟨gb308, _, none⟩) NB257_308.out _).trans (hHeld.2.2.2.1)))), ((cell_far (p := ⟨gb308, _, none⟩) NB257_308.out _).trans (((cell_far (p := ⟨gb308, _, none⟩) NB257_308.out _).trans (hHeld.2.2.2.2))))⟩ (fun hHeld => ?_)
          clear hK K
          refine done_ (by kernel_rfl) ?_
          have hnb121 := NB308_256.out
          have hnc121 := NB256_308.out
          have hnb122 := NB308_257.out
          have hnc122 := NB257_308.out
          have hnb123 := NB308_271.out
          have hnc123 := NB271_308.out
          have hnb124 := NB308_276.out
          have hnc124 := NB276_308.out
          have hnb125 := NB308_284.out
          have hnc125 := NB284_308.out
          have hcz126_0 : w117.cell? ⟨gb308, 0, none⟩ = some (.slice none 0 0) := (blk_cell BK308.out 0).trans rfl
          have hcz126_1 : w117.cell? ⟨gb308, 1, none⟩ = some (.int .i64 0) := (blk_cell BK308.out 1).trans rfl
          have hfz126_0 := blk_frozen BK308.out 0
          have hfz126_1 := blk_frozen BK308.out 1
          have hnb127 := NB271_256.out
          have hnc127 := NB256_271.out
          have hnb128 := NB271_257.out
          have hnc128 := NB257_271.out
          have hnb129 := NB271_276.out
          have hnc129 := NB276_271.out
          have hnb130 := NB271_284.out
          have hnc130 := NB284_271.out
          have hcz131_0 : w117.cell? ⟨gb271, 0, none⟩ = some (.slice Ao34 t267.length co34) := (blk_cell BK271.out 0).trans rfl
          have hcz131_1 : w117.cell? ⟨gb271, 1, none⟩ = some (.int .i64 t270) := (blk_cell BK271.out 1).trans rfl
          have hfz131_0 := blk_frozen BK271.out 0
          have hfz131_1 := blk_frozen BK271.out 1
          go_upto_if 73 with (first | ((with_reducible refine gq 26 rfl ?_); refine gl (some 72) Try.func26 #[.agg #[.slice Ao118 t304.length co118, .int .i64 t307], .agg #[.slice Ao34 t267.length co34, .int .i64 t270]] ?_; (with_reducible refine (laws_eqTable.calls kj72 _ _ t304 t307 _ _ t267 t270 t309 _ ?side1 ?side2 ?side3 ?side4 A109.out).mono ?_); (case side1 => refine (Kd.R_reads' (e := 36) (base := w.heap.size) (ok := fun k_ => (some k_ ≠ (v298 : Value).ownBlock ∧ (some k_ ≠ (.slice Ao34 t267.length co34 : Value).ownBlock ∧ (some k_ ≠ (.slice Ao41 t292.length co41 : Value).ownBlock ∧ some k_ ≠ (.slice Ao52 t280.length co52 : Value).ownBlock)))) (n := t304.length) (c := co118) ?_).2.2; exact (by (with_reducible repeat (first | apply Kd.R_alloc | apply Kd.R_drewN | apply Kd.R_drew)); exact (Kd.R_mono (Kd.R_far (p := ⟨gb308, 1, none⟩) (Kd.R_far (p := ⟨gb308, 0, none⟩) (Kd.R_types HO306.out BK308.out (by decide)) (fun _ hk => hk.2) (.slice Ao118 t304.length co118)) (fun _ hk => hk.2) (.int .i64 t307)) (fun _ h_ => h_.1)))); (case side2 => exact (Kd.R_reads' HO306.out).2.1); (case side3 => refine (Kd.R_reads' (e := 36) (base := w.heap.size) (ok := fun k_ => (some k_ ≠ (v298 : Value).ownBlock ∧ (some k_ ≠ (.slice Ao118 t304.length co118 : Value).ownBlock ∧ (some k_ ≠ (.slice Ao41 t292.length co41 : Value).ownBlock ∧ some k_ ≠ (.slice Ao52 t280.length co52 : Value).ownBlock)))) (n := t267.length) (c := co34) ?_).2.2; exact (by (with_reducible repeat (first | apply Kd.R_alloc | apply Kd.R_drewN | apply Kd.R_drew)); exact (Kd.R_mono (Kd.R_far (p := ⟨gb308, 1, none⟩) (Kd.R_far (p := ⟨gb308, 0, none⟩) (Kd.R_types HO_272000.out BK308.out (by decide)) (fun _ hk => hk.2) (.slice Ao118 t304.length co118)) (fun _ hk => hk.2) (.int .i64 t307)) (fun _ h_ => h_.1)))); (case side4 => exact (Kd.R_reads' HO_272000.out).2.1); rintro e w132 ⟨rfl, hb⟩; refine ⟨_, rfl, ?_⟩; replace HO_272000 := Aside0.mk (Kd.R_below (by (with_reducible repeat (first | apply Kd.R_alloc | apply Kd.R_drewN | apply Kd.R_drew)); exact (Kd.R_mono (Kd.R_far (p := ⟨gb308, 1, none⟩) (Kd.R_far (p := ⟨gb308, 0, none⟩) (Kd.R_types HO_272000.out BK308.out (by decide)) (fun _ hk => hk.2) (.slice Ao118 t304.length co118)) (fun _ hk => hk.2) (.int .i64 t307)) (fun _ h_ => h_.1))) hb); replace HO_277000 := Aside0.mk (Kd.R_below (by (with_reducible repeat (first | apply Kd.R_alloc | apply Kd.R_drewN | apply Kd.R_drew)); exact (Kd.R_mono (Kd.R_far (p := ⟨gb308, 1, none⟩) (Kd.R_far (p := ⟨gb308, 0, none⟩) (Kd.R_types HO_277000.out BK308.out (by decide)) (fun _ hk => hk.2) (.slice Ao118 t304.length co118)) (fun _ hk => hk.2) (.int .i64 t307)) (fun _ h_ => h_.1))) hb); replace HO_285000 := Aside0.mk (Kd.R_below (by (with_reducible repeat (first | apply Kd.R_alloc | apply Kd.R_drewN | apply Kd.R_drew)); exact (Kd.R_mono (Kd.R_far (p := ⟨gb308, 1, none⟩) (Kd.R_far (p := ⟨gb308, 0, none⟩) (Kd.R_types HO_285000.out BK308.out (by decide)) (fun _ hk => hk.2) (.slice Ao118 t304.length co118)) (fun _ hk => hk.2) (.int .i64 t307)) (fun _ h_ => h_.1))) hb); replace HO299 := Aside0.mk (Kd.R_below (by (with_reducible repeat (first | apply Kd.R_alloc | apply Kd.R_drewN | apply Kd.R_drew)); exact (Kd.R_mono (Kd.R_far (p := ⟨gb308, 1, none⟩) (Kd.R_far (p := ⟨gb308, 0, none⟩) (Kd.R_types HO299.out BK308.out (by decide)) (fun _ hk => hk.2) (.slice Ao118 t304.length co118)) (fun _ hk => hk.2) (.int .i64 t307)) (fun _ h_ => h_.1))) hb); replace HO306 := Aside0.mk (Kd.R_below (by (with_reducible repeat (first | apply Kd.R_alloc | apply Kd.R_drewN | apply Kd.R_drew)); exact (Kd.R_mono (Kd.R_far (p := ⟨gb308, 1, none⟩) (Kd.R_far (p := ⟨gb308, 0, none⟩) (Kd.R_types HO306.out BK308.out (by decide)) (fun _ hk => hk.2) (.slice Ao118 t304.length co118)) (fun _ hk => hk.2) (.int .i64 t307)) (fun _ h_ => h_.1))) hb); replace BK256 := Aside0.mk (blk_below (g := gb256) (o := .cells #[.slice A0_0 l0_0.length c0_0, .int .i64 a0_1] 40 (0, 0)) (by (with_reducible repeat (first | refine blk_drewN ?_ _ | refine blk_drew ?_ | refine blk_alloc ?_ _)); refine blk_far ?_ NB256_308.out _; (with_reducible repeat (first | refine blk_drewN ?_ _ | refine blk_drew ?_ | refine blk_alloc ?_ _)); refine blk_far ?_ NB256_308.out _; exact zk BK256) hb); replace BK257 := Aside0.mk (blk_below (g := gb257) (o := .cells #[.string a1_0, .string a1_1, .bool a1_2] 53 (0, 0)) (by (with_reducible repeat (first | refine blk_drewN ?_ _ | refine blk_drew ?_ | refine blk_alloc ?_ _)); refine blk_far ?_ NB257_308.out _; (with_reducible repeat (first | refine blk_drewN ?_ _ | refine blk_drew ?_ | refine blk_alloc ?_ _)); refine blk_far ?_ NB257_308.out _; exact zk BK257) hb); replace BK271 := Aside0.mk (blk_below (g := gb271) (o := .cells #[.slice Ao34 t267.length co34, .int .i64 t270] 25 (0, 0)) (by (with_reducible repeat (first | refine blk_drewN ?_ _ | refine blk_drew ?_ | refine blk_alloc ?_ _)); refine blk_far ?_ NB271_308.out _; (with_reducible repeat (first | refine blk_drewN ?_ _ | refine blk_drew ?_ | refine blk_alloc ?_ _)); refine blk_far ?_ NB271_308.out _; exact zk BK271) hb); replace BK276 := Aside0.mk (blk_below (g := gb276) (o := .cells #[.slice Ao41 t292.length co41, .int .i64 t275] 25 (0, 0)) (by (with_reducible repeat (first | refine blk_drewN ?_ _ | refine blk_drew ?_ | refine blk_alloc ?_ _)); refine blk_far ?_ NB276_308.out _; (with_reducible repeat (first | refine blk_drewN ?_ _ | refine blk_drew ?_ | refine blk_alloc ?_ _)); refine blk_far ?_ NB276_308.out _; exact zk BK276) hb); replace BK284 := Aside0.mk (blk_below (g := gb284) (o := .cells #[.slice Ao52 t280.length co52, .int .i64 t283] 25 (0, 0)) (by (with_reducible repeat (first | refine blk_drewN ?_ _ | refine blk_drew ?_ | refine blk_alloc ?_ _)); refine blk_far ?_ NB284_308.out _; (with_reducible repeat (first | refine blk_drewN ?_ _ | refine blk_drew ?_ | refine blk_alloc ?_ _)); refine blk_far ?_ NB284_308.out _; exact zk BK284) hb); replace BK308 := Aside0.mk (blk_below (g := gb308) (o := .cells #[.slice Ao118 t304.length co118, .int .i64 t307] 25 (0, 0)) (by (with_reducible repeat (first | refine blk_drewN ?_ _ | refine blk_drew ?_ | refine blk_alloc ?_ _)); refine blk_put (cs := #[.slice Ao118 t304.length co118, .int .i64 0]) ?_ 1 _ rfl; (with_reducible repeat (first | refine blk_drewN ?_ _ | refine blk_drew ?_ | refine blk_alloc ?_ _)); refine blk_put (cs := #[.slice none 0 0, .int .i64 0]) ?_ 0 _ rfl; exact zk BK308) hb); replace HB := Aside0.mk (below_step (zb HB) hb); (try clear hb); (try clear hk)))
          (try simp only [Act.put, s1, s2, s3])
          have H := HC110.out
          clear HC110
          by_cases c133 : t309 = true
          ·subst c133
           have H1 : ((laws_heldTable.f kj72 t295 t283 1).bind fun t310 => (if t310 < 0 then (some false) else (if t310 = t294 then (some true) else (some false)))) = some r := by rw [if_pos rfl] at H; exact H
           clear H
           have H := H1
           clear H1
           replace H := Option.bind_eq_some_iff.mp H
           obtain ⟨t310, A1340, H⟩ := H
           replace H : (if t310 < 0 then (some false) else (if t310 = t294 then (some true) else (some false))) = some r := H
           have A134 := Aside0.mk A1340
           clear A1340
           by_cases c135 : t310 < 0
           ·rw [if_pos c135] at H
            have c135b0 : decide (t310 < 0) = true := decide_eq_true c135
            clear c135
            (first | rw [c135b0] | (simp only [i64_w, i32_w]; rw [c135b0]) | skip)
            obtain rfl := Option.some.inj H
            have hnb136 := NB284_256.out
            have hnc136 := NB256_284.out
            have hnb137 := NB284_257.out
            have hnc137 := NB257_284.out
            have hnb138 := NB284_271.out
            have hnc138 := NB271_284.out
            have hnb139 := NB284_276.out
            have hnc139 := NB276_284.out
            have hnb140 := NB284_308.out
            have hnc140 := NB308_284.out
            have hcz141_0 : w132.cell? ⟨gb284, 0, none⟩ = some (.slice Ao52 t280.length co52) := (blk_cell BK284.out 0).trans rfl
            have hcz141_1 : w132.cell? ⟨gb284, 1, none⟩ = some (.int .i64 t283) := (blk_cell BK284.out 1).trans rfl
            have hfz141_0 := blk_frozen BK284.out 0
            have hfz141_1 := blk_frozen BK284.out 1
            go_wp2_with (first | ((with_reducible refine gq 28 rfl ?_); refine goesL_ (some 76) rfl rfl Try.func28 (by kernel_rfl) rfl #[.agg #[.slice Ao52 t295.length co52, .int .i64 t283], .int .i64 1] rfl (by (try simp only [List.map_toArray, List.map_cons, List.map_nil]); first | done | (rw [show t295.length = t280.length from (Kd.R_reads' HO_285000.out).1.symm] <;> rfl) | rfl | (simp only [List.length_drop, List.length_take]; rfl)) ?_; (with_reducible refine (laws_heldTable.calls kj72 _ _ t295 t283 1 t310 _ ?side1 ?side2 A134.out).mono ?_); (case side1 => exact zc (Kd.R_reads' HO_285000.out).2.2); (case side2 => rw [show t295.length = t280.length from (Kd.R_reads' HO_285000.out).1.symm]; exact (Kd.R_reads' HO_285000.out).2.1); rintro e w142 ⟨rfl, hb⟩; refine ⟨_, rfl, ?_⟩; replace HO_272000 := Aside0.mk (Kd.R_below (zr HO_272000) hb); replace HO_277000 := Aside0.mk (Kd.R_below (zr HO_277000) hb); replace HO_285000 := Aside0.mk (Kd.R_below (zr HO_285000) hb); replace HO299 := Aside0.mk (Kd.R_below (zr HO299) hb); replace HO306 := Aside0.mk (Kd.R_below (zr HO306) hb); replace BK256 := Aside0.mk (blk_below (g := gb256) (o := .cells #[.slice A0_0 l0_0.length c0_0, .int .i64 a0_1] 40 (0, 0)) (zk BK256) hb); replace BK257 := Aside0.mk (blk_below (g := gb257) (o := .cells #[.string a1_0, .string a1_1, .bool a1_2] 53 (0, 0)) (zk BK257) hb); replace BK271 := Aside0.mk (blk_below (g := gb271) (o := .cells #[.slice Ao34 t267.length co34, .int .i64 t270] 25 (0, 0)) (zk BK271) hb); replace BK276 := Aside0.mk (blk_below (g := gb276) (o := .cells #[.slice Ao41 t292.length co41, .int .i64 t275] 25 (0, 0)) (zk BK276) hb); replace BK284 := Aside0.mk (blk_below (g := gb284) (o := .cells #[.slice Ao52 t280.length co52, .int .i64 t283] 25 (0, 0)) (zk BK284) hb); replace BK308 := Aside0.mk (blk_below (g := gb308) (o := .cells #[.slice Ao118 t304.length co118, .int .i64 t307] 25 (0, 0)) (zk BK308) hb); replace HB := Aside0.mk (below_step (zb HB) hb); (try clear hb)))
            go_ret
            exact ⟨ze, zb HB⟩
           ·rw [if_neg c135] at H
            have c135b0 : decide (t310 < 0) = false := decide_eq_false c135
            clear c135
            (first | rw [c135b0] | (simp only [i64_w, i32_w]; rw [c135b0]) | skip)
            by_cases c143 : t310 = t294
            ·rw [if_pos c143] at H
             have c143b0 : (t310 == t294) = true := beq_iff_eq.mpr c143
             have c143b1 : (t310 != t294) = false := bne_eq_false_iff_eq.mpr c143
             clear c143
             obtain rfl := Option.some.inj H
             have hnb144 := NB284_256.out
             have hnc144 := NB256_284.out
             have hnb145 := NB284_257.out
             have hnc145 := NB257_284.out
             have hnb146 := NB284_271.out
             have hnc146 := NB271_284.out
             have hnb147 := NB284_276.out
             have hnc147 := NB276_284.out
             have hnb148 := NB284_308.out
             have hnc148 := NB308_284.out
             have hcz149_0 : w132.cell? ⟨gb284, 0, none⟩ = some (.slice Ao52 t280.length co52) := (blk_cell BK284.out 0).trans rfl
             have hcz149_1 : w132.cell? ⟨gb284, 1, none⟩ = some (.int .i64 t283) := (blk_cell BK284.out 1).trans rfl
             have hfz149_0 := blk_frozen BK284.out 0
             have hfz149_1 := blk_frozen BK284.out 1
             go_wp2_with (first | ((with_reducible refine gq 28 rfl ?_); refine goesL_ (some 76) rfl rfl Try.func28 (by kernel_rfl) rfl #[.agg #[.slice Ao52 t295.length co52, .int .i64 t283], .int .i64 1] rfl (by (try simp only [List.map_toArray, List.map_cons, List.map_nil]); first | done | (rw [show t295.length = t280.length from (Kd.R_reads' HO_285000.out).1.symm] <;> rfl) | rfl | (simp only [List.length_drop, List.length_take]; rfl)) ?_; (with_reducible refine (laws_heldTable.calls kj72 _ _ t295 t283 1 t310 _ ?side1 ?side2 A134.out).mono ?_); (case side1 => exact zc (Kd.R_reads' HO_285000.out).2.2); (case side2 => rw [show t295.length = t280.length from (Kd.R_reads' HO_285000.out).1.symm]; exact (Kd.R_reads' HO_285000.out).2.1); rintro e w150 ⟨rfl, hb⟩; refine ⟨_, rfl, ?_⟩; replace HO_272000 := Aside0.mk (Kd.R_below (zr HO_272000) hb); replace HO_277000 := Aside0.mk (Kd.R_below (zr HO_277000) hb); replace HO_285000 := Aside0.mk (Kd.R_below (zr HO_285000) hb); replace HO299 := Aside0.mk (Kd.R_below (zr HO299) hb); replace HO306 := Aside0.mk (Kd.R_below (zr HO306) hb); replace BK256 := Aside0.mk (blk_below (g := gb256) (o := .cells #[.slice A0_0 l0_0.length c0_0, .int .i64 a0_1] 40 (0, 0)) (zk BK256) hb); replace BK257 := Aside0.mk (blk_below (g := gb257) (o := .cells #[.string a1_0, .string a1_1, .bool a1_2] 53 (0, 0)) (zk BK257) hb); replace BK271 := Aside0.mk (blk_below (g := gb271) (o := .cells #[.slice Ao34 t267.length co34, .int .i64 t270] 25 (0, 0)) (zk BK271) hb); replace BK276 := Aside0.mk (blk_below (g := gb276) (o := .cells #[.slice Ao41 t292.length co41, .int .i64 t275] 25 (0, 0)) (zk BK276) hb); replace BK284 := Aside0.mk (blk_below (g := gb284) (o := .cells #[.slice Ao52 t280.length co52, .int .i64 t283] 25 (0, 0)) (zk BK284) hb); replace BK308 := Aside0.mk (blk_below (g := gb308) (o := .cells #[.slice Ao118 t304.length co118, .int .i64 t307] 25 (0, 0)) (zk BK308) hb); replace HB := Aside0.mk (below_step (zb HB) hb); (try clear hb)))
             go_ret
             exact ⟨ze, zb HB⟩
            ·rw [if_neg c143] at H
             have c143b0 : (t310 == t294) = false := beq_eq_false_iff_ne.mpr c143
             have c143b1 : (t310 != t294) = true := bne_iff_ne.mpr c143
             obtain rfl := Option.some.inj H
             have hnb151 := NB284_256.out
             have hnc151 := NB256_284.out
             have hnb152 := NB284_257.out
             have hnc152 := NB257_284.out
             have hnb153 := NB284_271.out
             have hnc153 := NB271_284.out
             have hnb154 := NB284_276.out
             have hnc154 := NB276_284.out
             have hnb155 := NB284_308.out
             have hnc155 := NB308_284.out
             have hcz156_0 : w132.cell? ⟨gb284, 0, none⟩ = some (.slice Ao52 t280.length co52) := (blk_cell BK284.out 0).trans rfl
             have hcz156_1 : w132.cell? ⟨gb284, 1, none⟩ = some (.int .i64 t283) := (blk_cell BK284.out 1).trans rfl
             have hfz156_0 := blk_frozen BK284.out 0
             have hfz156_1 := blk_frozen BK284.out 1
             go_wp2_with (first | ((with_reducible refine gq 28 rfl ?_); refine goesL_ (some 76) rfl rfl Try.func28 (by kernel_rfl) rfl #[.agg #[.slice Ao52 t295.length co52, .int .i64 t283], .int .i64 1] rfl (by (try simp only [List.map_toArray, List.map_cons, List.map_nil]); first | done | (rw [show t295.length = t280.length from (Kd.R_reads' HO_285000.out).1.symm] <;> rfl) | rfl | (simp only [List.length_drop, List.length_take]; rfl)) ?_; (with_reducible refine (laws_heldTable.calls kj72 _ _ t295 t283 1 t310 _ ?side1 ?side2 A134.out).mono ?_); (case side1 => exact zc (Kd.R_reads' HO_285000.out).2.2); (case side2 => rw [show t295.length = t280.length from (Kd.R_reads' HO_285000.out).1.symm]; exact (Kd.R_reads' HO_285000.out).2.1); rintro e w157 ⟨rfl, hb⟩; refine ⟨_, rfl, ?_⟩; replace HO_272000 := Aside0.mk (Kd.R_below (zr HO_272000) hb); replace HO_277000 := Aside0.mk (Kd.R_below (zr HO_277000) hb); replace HO_285000 := Aside0.mk (Kd.R_below (zr HO_285000) hb); replace HO299 := Aside0.mk (Kd.R_below (zr HO299) hb); replace HO306 := Aside0.mk (Kd.R_below (zr HO306) hb); replace BK256 := Aside0.mk (blk_below (g := gb256) (o := .cells #[.slice A0_0 l0_0.length c0_0, .int .i64 a0_1] 40 (0, 0)) (zk BK256) hb); replace BK257 := Aside0.mk (blk_below (g := gb257) (o := .cells #[.string a1_0, .string a1_1, .bool a1_2] 53 (0, 0)) (zk BK257) hb); replace BK271 := Aside0.mk (blk_below (g := gb271) (o := .cells #[.slice Ao34 t267.length co34, .int .i64 t270] 25 (0, 0)) (zk BK271) hb); replace BK276 := Aside0.mk (blk_below (g := gb276) (o := .cells #[.slice Ao41 t292.length co41, .int .i64 t275] 25 (0, 0)) (zk BK276) hb); replace BK284 := Aside0.mk (blk_below (g := gb284) (o := .cells #[.slice Ao52 t280.length co52, .int .i64 t283] 25 (0, 0)) (zk BK284) hb); replace BK308 := Aside0.mk (blk_below (g := gb308) (o := .cells #[.slice Ao118 t304.length co118, .int .i64 t307] 25 (0, 0)) (zk BK308) hb); replace HB := Aside0.mk (below_step (zb HB) hb); (try clear hb)))
             go_ret
             exact ⟨ze, zb HB⟩
          ·replace c133 := Bool.eq_false_iff.mpr c133
           subst c133
           have H1 : (some false) = some r := by rw [if_neg (show ¬ (false = true) by decide)] at H; exact H
           clear H
           have H := H1
           clear H1
           obtain rfl := Option.some.inj H
           go_wp2
           go_ret
           exact ⟨ze, zb HB⟩
         ·rw [if_neg c105] at H
          have c105b0 : (t296 == t294) = false := beq_eq_false_iff_ne.mpr c105
          have c105b1 : (t296 != t294) = true := bne_iff_ne.mpr c105
          obtain rfl := Option.some.inj H
          go_wp2
          go_ret
          exact ⟨ze, zb HB⟩
    ·replace c71 := Bool.eq_false_iff.mpr c71
     subst c71
     have H1 : (some false) = some r := by rw [if_neg (show ¬ (false = true) by decide)] at H; exact H
     clear H
     have H := H1
     clear H1
     obtain rfl := Option.some.inj H
     go_wp2
     go_ret
     exact ⟨ze, zb HB⟩
   ·replace c63 := Bool.eq_false_iff.mpr c63
    subst c63
    have H1 : (some false) = some r := by rw [if_neg (show ¬ (false = true) by decide)] at H; exact H
    clear H
    have H := H1
    clear H1
    obtain rfl := Option.some.inj H
    go_wp2
    go_ret
    exact ⟨ze, zb HB⟩

end Go.Proofs.Ytdhahifdcoinhaa.PFnExactTableAdd
