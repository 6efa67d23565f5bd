-- WRITTEN BY a turned print (wip/tools of the prover's repo)
import Derived.Test.YtdhahifdcoinhaaPFnAddFindx0
import Derived.Test.YtdhahifdcoinhaaPFnAddFindx2
import Derived.Test.YtdhahifdcoinhaaPFnAddFindx4
import Derived.Test.YtdhahifdcoinhaaPFnAddFindx5
import Derived.Test.YtdhahifdcoinhaaPFnAddFindx6
namespace Go.Proofs.Ytdhahifdcoinhaa.PFnAddFind
open Go.RowKit Go.Proofs.YtdhahifdcoinhaaW.PrintWords Go.Proofs.YtdhahifdcoinhaaW.PrintLast Go.Proofs.YtdhahifdcoinhaaW.PrintMore Go.Proofs.Ytdhahifdcoinhaa.Lm
attribute [local go_sem] max2_int min2_int max_two min_two max_three min_three max_four min_four   -- for this text's walks alone
set_option linter.unusedVariables false
set_option linter.unusedSimpArgs false

/-! ### impl_Table_add: function 59 -/
-- thin
def impl_Table_add.f (k : Nat) (l0_0 : List (S36)) (a0_1 : Int) (a1_0 : ByteArray) (a1_1 : ByteArray) (a1_2 : Bool) : Option ((List (S36)) × Int) := (Concat_Field.f (([(([(⟨a1_0, a1_1, a1_2⟩ : S36)] : List (S36))), l0_0] : List (List (S36))))).bind fun t304 => ((impl_Table_fit.f k t304 a0_1).bind fun bt307 => (some (bt307.1, bt307.2)))
theorem impl_Table_add.mono : ∀ a0 a1 a2 a3 a4 k, LeO (impl_Table_add.f k a0 a1 a2 a3 a4) (impl_Table_add.f (k + 1) a0 a1 a2 a3 a4) := by
 intro a0 a1 a2 a3 a4 k
 unfold impl_Table_add.f
 repeat' first
   | (with_reducible exact impl_Table_fit.mono _ _ _)
   | (with_reducible exact LeO.refl _)
   | (with_reducible exact LeO.none _)
   | (with_reducible refine LeO.ite ?_ ?_)
   | (with_reducible refine LeO.bind ?_ (fun _ => ?_))
   | exact impl_Table_fit.mono _ _ _
   | exact LeO.none _
   | refine LeO.ite ?_ ?_
   | refine LeO.bind ?_ (fun _ => ?_)
def impl_Table_add.T1 : Bool × List (List Nat × List Nat) := (true, [([], []), ([0], [0]), ([], []), ([2], [2]), ([1, 3], [1, 3]), ([4], [4]), ([], []), ([6], [6]), ([5, 7], [5, 7]), ([8, 5], [8]), ([9, 9, 0, 1, 2, 3, 4, 5, 6, 7, 8, 9], [9])])
def impl_Table_add.B1 : List Nat := [0, 1, 0, 4, 15, 31, 0, 64, 255, 511, 1023]
theorem impl_Table_add.tab1 : rtab .any (opsOf Try.f59 1) = impl_Table_add.T1 := by kernel_rfl
theorem impl_Table_add.bits1 : waitsOk impl_Table_add.T1.2 impl_Table_add.B1 = true := by kernel_rfl
set_option maxHeartbeats 8000000 in
set_option maxRecDepth 100000 in
theorem impl_Table_add.calls (k : Nat) (P0_0_ : Nat → Prop) (A0_0 : Option Addr) (c0_0 : Nat) (l0_0 : List (S36)) (a0_1 : Int) (a1_0 : ByteArray) (a1_1 : ByteArray) (a1_2 : Bool) (r1 : List (S36)) (r2 : Int) (w : World) (hs0_0 : Kd.V k36 36 w w.heap.size (fun k_ => P0_0_ k_) (.slice A0_0 l0_0.length c0_0) l0_0) (h : impl_Table_add.f k l0_0 a0_1 a1_0 a1_1 a1_2 = some (r1, r2)) :
  Calls Try.prog 59 #[.agg #[.slice A0_0 l0_0.length c0_0, .int .i64 a0_1], .agg #[.string a1_0, .string a1_1, .bool a1_2]] w fun e w' => ∃ v0_ : Value, e = .returned (.agg #[v0_, .int .i64 r2]) ∧ Kd.R k36 36 w' w.heap.size (fun k_ => (w.heap.size ≤ k_)) v0_ r1 ∧ Below w.heap.size w w' := by
 have hu25 := Try.underlying25
 have hu36 := Try.underlying36
 have HO0_0 := Aside0.mk (show Kd.V k36 36 w w.heap.size (fun k_ => (P0_0_ k_ ∨ w.heap.size ≤ k_)) (.slice A0_0 l0_0.length c0_0) l0_0 from Kd.V_mono hs0_0 (fun k_ hk => .inl hk))
 have HB := Aside0.mk (Below.refl w.heap.size w)
 have H : ((Concat_Field.f (([(([(⟨a1_0, a1_1, a1_2⟩ : S36)] : List (S36))), l0_0] : List (List (S36))))).bind fun t304 => ((impl_Table_fit.f k t304 a0_1).bind fun bt307 => (some (bt307.1, bt307.2)))) = some (r1, r2) := h
 clear h
 obtain ⟨y298, hy298⟩ : ∃ y_ : List (S36), y_ = (([(⟨a1_0, a1_1, a1_2⟩ : S36)] : List (S36))) := ⟨_, rfl⟩
 replace H : ((Concat_Field.f (([y298, l0_0] : List (List (S36))))).bind fun t304 => ((impl_Table_fit.f k t304 a0_1).bind fun bt307 => (some (bt307.1, bt307.2)))) = some (r1, r2) := by first | (rw [hy298]; with_reducible exact H) | (have H2_ := (Option.bind_some _ _).symm.trans H; rw [hy298]; with_reducible exact H2_) | (have H2_ := (Option.bind_some _ _).symm.trans H; with_reducible exact H2_) | with_reducible exact H | (rw [hy298]; exact H) | exact H
 have Ny298 := Aside0.mk hy298
 clear hy298
 obtain ⟨y301, hy301⟩ : ∃ y_ : List (List (S36)), y_ = (([y298, l0_0] : List (List (S36)))) := ⟨_, rfl⟩
 replace H : ((Concat_Field.f y301).bind fun t304 => ((impl_Table_fit.f k t304 a0_1).bind fun bt307 => (some (bt307.1, bt307.2)))) = some (r1, r2) := by first | (rw [hy301]; with_reducible exact H) | (have H2_ := (Option.bind_some _ _).symm.trans H; rw [hy301]; with_reducible exact H2_) | (have H2_ := (Option.bind_some _ _).symm.trans H; with_reducible exact H2_) | with_reducible exact H | (rw [hy301]; exact H) | exact H
 have Ny301 := Aside0.mk hy301
 clear hy301
 replace H := Option.bind_eq_some_iff.mp H
 obtain ⟨t304, A30, H⟩ := H
 replace H : ((impl_Table_fit.f k t304 a0_1).bind fun bt307 => (some (bt307.1, bt307.2))) = some (r1, r2) := H
 have A3 := Aside0.mk A30
 clear A30
 replace H := Option.bind_eq_some_iff.mp H
 obtain ⟨⟨t307, t310⟩, A40, H⟩ := H
 replace H : (some (t307, t310)) = some (r1, r2) := H
 have A4 := Aside0.mk A40
 clear A40
 simp only [Option.some.injEq, Prod.mk.injEq] at H
 obtain ⟨rfl, rfl⟩ := H
 go_enter Try.func59, Try.ntmps59
 try go_wp2_with (first | ((with_reducible refine gd 2 rfl ?_); refine bx (N := 2) (cs := #[.slice A0_0 l0_0.length c0_0, .int .i64 a0_1]) (t := 25) ?_; intro gb295 hg w5 hbox hb; replace HO0_0 := Aside0.mk (Kd.V_below (Kd.V_elderB (by (with_reducible repeat (first | apply Kd.V_alloc | apply Kd.V_drewN | apply Kd.V_drew)); exact HO0_0.out) gb295 (Nat.le_of_eq hg.symm)) hb); have BK295 := Aside0.mk (hbox); have GW295 := Aside0.mk ((by rw [hg]; exact (below_size (zb HB)) : w.heap.size ≤ gb295)); have GE295 := Aside0.mk ((by rw [hg]; exact (below_size (zb HB)) : w.heap.size ≤ gb295)); replace HB := Aside0.mk (below_step (zb HB) hb); clear hb hbox hg) | ((with_reducible refine gd 3 rfl ?_); refine bx (N := 3) (cs := #[.string a1_0, .string a1_1, .bool a1_2]) (t := 36) ?_; intro gb296 hg w6 hbox hb; replace HO0_0 := Aside0.mk (Kd.V_below (Kd.V_elderB (by (with_reducible repeat (first | apply Kd.V_alloc | apply Kd.V_drewN | apply Kd.V_drew)); exact HO0_0.out) gb296 (Nat.le_of_eq hg.symm)) hb); have BK296 := Aside0.mk (hbox); have GW296 := Aside0.mk ((by rw [hg]; exact (below_size (zb HB)) : w.heap.size ≤ gb296)); have GE296 := Aside0.mk ((by rw [hg]; exact (below_size (zb HB)) : w.heap.size ≤ gb296)); replace HB := Aside0.mk (below_step (zb HB) hb); have NB295_296 := Aside0.mk ((by rw [hg]; exact Nat.ne_of_lt (blk_lt (g := gb295) (o := .cells #[.slice A0_0 l0_0.length c0_0, .int .i64 a0_1] 25 (0, 0)) (zk BK295)) : gb295 ≠ gb296)); have NB296_295 := Aside0.mk ((by rw [hg]; exact Nat.ne_of_gt (blk_lt (g := gb295) (o := .cells #[.slice A0_0 l0_0.length c0_0, .int .i64 a0_1] 25 (0, 0)) (zk BK295)) : gb296 ≠ gb295)); replace BK295 := Aside0.mk (blk_below (g := gb295) (o := .cells #[.slice A0_0 l0_0.length c0_0, .int .i64 a0_1] 25 (0, 0)) (zk BK295) hb); clear hb hbox hg) | ((with_reducible refine gd 4 rfl ?_); refine bx (N := 4) (cs := #[.slice none 0 0, .int .i64 0]) (t := 25) ?_; intro gb297 hg w7 hbox hb; replace HO0_0 := Aside0.mk (Kd.V_below (Kd.V_elderB (by (with_reducible repeat (first | apply Kd.V_alloc | apply Kd.V_drewN | apply Kd.V_drew)); exact HO0_0.out) gb297 (Nat.le_of_eq hg.symm)) hb); have BK297 := Aside0.mk (hbox); have GW297 := Aside0.mk ((by rw [hg]; exact (below_size (zb HB)) : w.heap.size ≤ gb297)); have GE297 := Aside0.mk ((by rw [hg]; exact (below_size (zb HB)) : w.heap.size ≤ gb297)); replace HB := Aside0.mk (below_step (zb HB) hb); have NB295_297 := Aside0.mk ((by rw [hg]; exact Nat.ne_of_lt (blk_lt (g := gb295) (o := .cells #[.slice A0_0 l0_0.length c0_0, .int .i64 a0_1] 25 (0, 0)) (zk BK295)) : gb295 ≠ gb297)); have NB297_295 := Aside0.mk ((by rw [hg]; exact Nat.ne_of_gt (blk_lt (g := gb295) (o := .cells #[.slice A0_0 l0_0.length c0_0, .int .i64 a0_1] 25 (0, 0)) (zk BK295)) : gb297 ≠ gb295)); replace BK295 := Aside0.mk (blk_below (g := gb295) (o := .cells #[.slice A0_0 l0_0.length c0_0, .int .i64 a0_1] 25 (0, 0)) (zk BK295) hb); have NB296_297 := Aside0.mk ((by rw [hg]; exact Nat.ne_of_lt (blk_lt (g := gb296) (o := .cells #[.string a1_0, .string a1_1, .bool a1_2] 36 (0, 0)) (zk BK296)) : gb296 ≠ gb297)); have NB297_296 := Aside0.mk ((by rw [hg]; exact Nat.ne_of_gt (blk_lt (g := gb296) (o := .cells #[.string a1_0, .string a1_1, .bool a1_2] 36 (0, 0)) (zk BK296)) : gb297 ≠ gb296)); replace BK296 := Aside0.mk (blk_below (g := gb296) (o := .cells #[.string a1_0, .string a1_1, .bool a1_2] 36 (0, 0)) (zk BK296) hb); clear hb hbox hg))
 replace HO0_0 := Aside0.mk (Kd.V_drew HO0_0.out)
 replace BK295 := Aside0.mk (blk_drew BK295.out)
 replace BK296 := Aside0.mk (blk_drew BK296.out)
 replace BK297 := Aside0.mk (blk_drew BK297.out)
 replace HB := Aside0.mk (below_drew1 HB.out)
 refine start_ (n := 11) (S := fun w' => w'.cell? ⟨gb296, 0, none⟩ = some (.string a1_0) ∧ w'.cell? ⟨gb296, 1, none⟩ = some (.string a1_1) ∧ w'.cell? ⟨gb296, 2, none⟩ = some (.bool a1_2) ∧ w'.cell? ⟨gb295, 0, none⟩ = some (.slice A0_0 l0_0.length c0_0) ∧ w'.cell? ⟨gb295, 1, none⟩ = some (.int .i64 a0_1)) (ds := []) #[false, false, false, false, false, false, false, false, false, false, false] (by kernel_rfl) rfl rfl ⟨(blk_cell BK296.out 0).trans rfl, (blk_cell BK296.out 1).trans rfl, (blk_cell BK296.out 2).trans rfl, (blk_cell BK295.out 0).trans rfl, (blk_cell BK295.out 1).trans rfl⟩ (fun hHeld => ?_); refine with_tabW impl_Table_add.tab1 impl_Table_add.bits1 (fun HT_ HW_ => ?_)
 generalize w7.drew = w8 at HO0_0 BK295 BK296 BK297 HB hHeld ⊢
 refine pu 2 (some 7) (bm 11 4) rfl rfl ?_
 refine pu 6 (some 11) (bm 11 68) rfl rfl ?_
 refine tk5 0 (some 5) (bm 11 69) rfl rfl hHeld ?_
 refine tk5 3 (some 8) (bm 11 77) rfl rfl hHeld ?_
 refine tk5 7 (some 12) (bm 11 205) rfl rfl hHeld ?_
 refine one_ (i := 1) (N := some 6) (bm 11 207) rfl rfl (one_of HT_.out (by kernel_rfl)) (by decide) (fun K hK => ?_)
 refine Kd.R_lit_step k36 _ 36 ?hg (N := 6) ?hd (xs := ([(⟨a1_0, a1_1, a1_2⟩ : S36)] : List (S36))) (inner := [.string a1_0, .string a1_1, .bool a1_2]) (ok := fun _ => True) (okp := fun _ => True) ?hr ?hp (fun _ hk => hk) trivial (Below.refl _ _) (Nat.le_refl _) (by simp) ?_; (case hd => rfl); (case hg => rfl); (case hr => first | (go_simp; done) | (go_simp; rfl)); (case hp => exact (Reps.c3 (show Kd.M k36 _ _ _ (⟨a1_0, a1_1, a1_2⟩ : S36) [.string a1_0, .string a1_1, .bool a1_2] from (k36_mkM _ _ _ (⟨a1_0, a1_1, a1_2⟩ : S36) )) (Reps.none _ _)))
 intro v299 w9 ho10 hb hg_ hnew_
 clear hg_ hnew_
 (first | rw [← Ny298.out] at ho10 | (simp only [Int.reduceToNat] at ho10; rw [← Ny298.out] at ho10))
 replace HO0_0 := Aside0.mk (Kd.V_elder' (by (with_reducible repeat (first | apply Kd.V_alloc | apply Kd.V_drewN | apply Kd.V_drew)); exact HO0_0.out) (Kd.R_base ho10) hb)
 have HO300 := Aside0.mk (Kd.R_lower (Kd.R_newB (Kd.R_newM (M := fun k_ => (w.heap.size ≤ k_)) ho10 (below_size (zb HB)) (fun k_ h_ => h_)) (g := gb296) (o := .cells #[.string a1_0, .string a1_1, .bool a1_2] 36 (0, 0)) (zk BK296)) (below_size (zb HB)))
 replace BK295 := Aside0.mk (blk_below (g := gb295) (o := .cells #[.slice A0_0 l0_0.length c0_0, .int .i64 a0_1] 25 (0, 0)) (zk BK295) hb)
 replace BK296 := Aside0.mk (blk_below (g := gb296) (o := .cells #[.string a1_0, .string a1_1, .bool a1_2] 36 (0, 0)) (zk BK296) hb)
 replace BK297 := Aside0.mk (blk_below (g := gb297) (o := .cells #[.slice none 0 0, .int .i64 0] 25 (0, 0)) (zk BK297) hb)
 replace HB := Aside0.mk (below_step (zb HB) hb)
 clear hb ho10
 obtain ⟨Ao11, co11, eo11⟩ := Kd.R_slice HO300.out
 (first | subst eo11 | (injection eo11 with f1_ f2_ f3_; have f4_ := f1_.symm; have f5_ := f3_.symm; clear f1_ f2_ f3_; subst f4_; subst f5_))
 refine hK.out _ _ ⟨(blk_cell BK296.out 0).trans rfl, (blk_cell BK296.out 1).trans rfl, (blk_cell BK296.out 2).trans rfl, (blk_cell BK295.out 0).trans rfl, (blk_cell BK295.out 1).trans rfl⟩ (fun hHeld => ?_)
 clear hK K
 refine nm ?_
 refine one_ (i := 4) (N := some 9) (bm 11 223) rfl rfl (one_of HT_.out (by kernel_rfl)) (by decide) (fun K hK => ?_)
 refine Kd.N_lit_step (Kd.slice 36 k36) _ 23 ?hg (N' := 9) ?hd (xs := ([y298, l0_0] : List (List (S36)))) (inner := [.slice Ao11 y298.length co11, .slice A0_0 l0_0.length c0_0]) (ok := (fun k_ => (P0_0_ k_ ∨ w.heap.size ≤ k_) ∧ k_ ≠ gb295 ∧ k_ ≠ gb296 ∧ k_ ≠ gb297)) (okp := (fun k_ => (P0_0_ k_ ∨ w.heap.size ≤ k_) ∧ k_ ≠ gb295 ∧ k_ ≠ gb296 ∧ k_ ≠ gb297)) ?hr ?hp (fun _ hk => hk) ((show ∀ k_, w9.heap.size ≤ k_ → (fun k_ => (P0_0_ k_ ∨ w.heap.size ≤ k_) ∧ k_ ≠ gb295 ∧ k_ ≠ gb296 ∧ k_ ≠ gb297) k_ from fun k_ hk => ⟨(.inr (Nat.le_trans (below_size (zb HB)) hk)), Kd.freshB (g := gb295) (o := .cells #[.slice A0_0 l0_0.length c0_0, .int .i64 a0_1] 25 (0, 0)) (zk BK295) k_ hk, Kd.freshB (g := gb296) (o := .cells #[.string a1_0, .string a1_1, .bool a1_2] 36 (0, 0)) (zk BK296) k_ hk, Kd.freshB (g := gb297) (o := .cells #[.slice none 0 0, .int .i64 0] 25 (0, 0)) (zk BK297) k_ hk⟩) _ (Nat.le_refl _)) (Below.refl _ _) (Nat.le_refl _) (by simp) ?_; (case hd => rfl); (case hg => rfl); (case hr => first | (go_simp; done) | (go_simp; rfl)); (case hp => exact (Reps.one (show Kd.FK (Kd.slice 36 k36) _ _ y298 [.slice Ao11 y298.length co11] from (Kd.FK_slice_mk (Kd.R_reads' (Kd.R_mono (ok' := (fun k_ => (P0_0_ k_ ∨ w.heap.size ≤ k_) ∧ k_ ≠ gb295 ∧ k_ ≠ gb296 ∧ k_ ≠ gb297)) (Kd.R_types (Kd.R_types (HO300.out) BK295.out (by decide)) BK297.out (by decide)) (fun k_ hk => ⟨(.inr (hk.1.1.1.1)), ⟨hk.1.2, ⟨hk.1.1.2, hk.2⟩⟩⟩))).2.1 (Kd.R_F (Kd.R_mono (ok' := (fun k_ => (P0_0_ k_ ∨ w.heap.size ≤ k_) ∧ k_ ≠ gb295 ∧ k_ ≠ gb296 ∧ k_ ≠ gb297)) (Kd.R_types (Kd.R_types (HO300.out) BK295.out (by decide)) BK297.out (by decide)) (fun k_ hk => ⟨(.inr (hk.1.1.1.1)), ⟨hk.1.2, ⟨hk.1.1.2, hk.2⟩⟩⟩))))) (Reps.one (show Kd.FK (Kd.slice 36 k36) _ _ l0_0 [.slice A0_0 l0_0.length c0_0] from (Kd.FK_slice_mk (Kd.V_reads' (Kd.V_mono (ok' := (fun k_ => (P0_0_ k_ ∨ w.heap.size ≤ k_) ∧ k_ ≠ gb295 ∧ k_ ≠ gb296 ∧ k_ ≠ gb297)) (HO0_0.out) (fun k_ hk => ⟨hk.1.1.1.1, ⟨hk.1.1.1.2, ⟨hk.1.1.2, hk.1.2⟩⟩⟩))).2.1 (Kd.V_F (Kd.V_mono (ok' := (fun k_ => (P0_0_ k_ ∨ w.heap.size ≤ k_) ∧ k_ ≠ gb295 ∧ k_ ≠ gb296 ∧ k_ ≠ gb297)) (HO0_0.out) (fun k_ hk => ⟨hk.1.1.1.1, ⟨hk.1.1.1.2, ⟨hk.1.1.2, hk.1.2⟩⟩⟩))))) (Reps.none _ _))))
 intro v302 w12 ho13 hb hg_ hnew_
 clear hg_ hnew_
 (first | rw [← Ny301.out] at ho13 | (simp only [Int.reduceToNat] at ho13; rw [← Ny301.out] at ho13))
 replace HO0_0 := Aside0.mk (Kd.V_elder' (by (with_reducible repeat (first | apply Kd.V_alloc | apply Kd.V_drewN | apply Kd.V_drew)); exact HO0_0.out) (Kd.N_base ho13) hb)
 have HO303 := Aside0.mk (Kd.N_lower ho13 (below_size (zb HB)))
 replace BK295 := Aside0.mk (blk_below (g := gb295) (o := .cells #[.slice A0_0 l0_0.length c0_0, .int .i64 a0_1] 25 (0, 0)) (zk BK295) hb)
 replace BK296 := Aside0.mk (blk_below (g := gb296) (o := .cells #[.string a1_0, .string a1_1, .bool a1_2] 36 (0, 0)) (zk BK296) hb)
 replace BK297 := Aside0.mk (blk_below (g := gb297) (o := .cells #[.slice none 0 0, .int .i64 0] 25 (0, 0)) (zk BK297) hb)
 replace HB := Aside0.mk (below_step (zb HB) hb)
 clear HO300
 clear hb ho13
 obtain ⟨Ao14, co14, eo14⟩ := Kd.N_slice HO303.out
 (first | subst eo14 | (injection eo14 with f1_ f2_ f3_; have f4_ := f1_.symm; have f5_ := f3_.symm; clear f1_ f2_ f3_; subst f4_; subst f5_))
 refine hK.out _ _ ⟨(blk_cell BK296.out 0).trans rfl, (blk_cell BK296.out 1).trans rfl, (blk_cell BK296.out 2).trans rfl, (blk_cell BK295.out 0).trans rfl, (blk_cell BK295.out 1).trans rfl⟩ (fun hHeld => ?_)
 clear hK K
 refine nm ?_
 refine one_ (i := 5) (N := some 10) (bm 11 255) rfl rfl (one_of HT_.out (by kernel_rfl)) (by decide) (fun K hK => ?_)
 refine gs Try.func75 #[.slice Ao14 y301.length co14] ?_
 with_reducible refine (Concat_Field.calls _ _ y301 t304 _ ?side1 ?side2 A3.out).mono ?_
 (case side1 => exact zc (Kd.N_reads' HO303.out).2.2)
 (case side2 => exact (Kd.N_reads' HO303.out).2.1)
 rintro e w15 ⟨v305, rfl, ho0, hb⟩
 refine ⟨_, rfl, ?_⟩
 replace HO0_0 := Aside0.mk (Kd.V_elder' (by (with_reducible repeat (first | apply Kd.V_alloc | apply Kd.V_drewN | apply Kd.V_drew)); exact HO0_0.out) (Kd.R_base ho0) hb)
 replace HO303 := Aside0.mk (Kd.N_elder' (by (with_reducible repeat (first | apply Kd.N_alloc | apply Kd.N_drewN | apply Kd.N_drew)); exact HO303.out) (Kd.R_base ho0) hb)
 have HO306 := Aside0.mk (Kd.R_lower (Kd.R_newB (Kd.R_newM (M := fun k_ => (w.heap.size ≤ k_)) ho0 (below_size (zb HB)) (fun k_ h_ => h_)) (g := gb296) (o := .cells #[.string a1_0, .string a1_1, .bool a1_2] 36 (0, 0)) (zk BK296)) (below_size (zb HB)))
 replace BK295 := Aside0.mk (blk_below (g := gb295) (o := .cells #[.slice A0_0 l0_0.length c0_0, .int .i64 a0_1] 25 (0, 0)) (zk BK295) hb)
 replace BK296 := Aside0.mk (blk_below (g := gb296) (o := .cells #[.string a1_0, .string a1_1, .bool a1_2] 36 (0, 0)) (zk BK296) hb)
 replace BK297 := Aside0.mk (blk_below (g := gb297) (o := .cells #[.slice none 0 0, .int .i64 0] 25 (0, 0)) (zk BK297) hb)
 replace HB := Aside0.mk (below_step (zb HB) hb)
 (try clear hb)
 (try clear ho0)
 obtain ⟨Ao16, co16, eo16⟩ := Kd.R_slice HO306.out
 (first | subst eo16 | (injection eo16 with f1_ f2_ f3_; have f4_ := f1_.symm; have f5_ := f3_.symm; clear f1_ f2_ f3_; subst f4_; subst f5_))
 refine hK.out _ _ ⟨(blk_cell BK296.out 0).trans rfl, (blk_cell BK296.out 1).trans rfl, (blk_cell BK296.out 2).trans rfl, (blk_cell BK295.out 0).trans rfl, (blk_cell BK295.out 1).trans rfl⟩ (fun hHeld => ?_)
 clear hK K
 refine nm ?_
 refine pu 8 (some 13) (bm 11 511) rfl rfl ?_
 refine one_ (i := 9) (N := some 14) (bm 11 1023) rfl rfl (one_of HT_.out (by kernel_rfl)) (by decide) (fun K hK => ?_)
 refine gs Try.func49 #[.agg #[.slice Ao16 t304.length co16, .int .i64 a0_1]] ?_
 with_reducible refine (impl_Table_fit.calls k _ _ t304 a0_1 t307 t310 _ ?side1 ?side2 A4.out).mono ?_
 (case side1 => exact zc (Kd.R_reads' HO306.out).2.2)
 (case side2 => exact (Kd.R_reads' HO306.out).2.1)
 rintro e w17 ⟨v308, rfl, ho0, hb⟩
 refine ⟨_, rfl, ?_⟩
 replace HO0_0 := Aside0.mk (Kd.V_elder' (by (with_reducible repeat (first | apply Kd.V_alloc | apply Kd.V_drewN | apply Kd.V_drew)); exact HO0_0.out) (Kd.R_base ho0) hb)
 replace HO303 := Aside0.mk (Kd.N_elder' (by (with_reducible repeat (first | apply Kd.N_alloc | apply Kd.N_drewN | apply Kd.N_drew)); exact HO303.out) (Kd.R_base ho0) hb)
 have HO309 := Aside0.mk (Kd.R_lower (Kd.R_newB (Kd.R_new' (Kd.R_newM (M := fun k_ => (w.heap.size ≤ k_)) ho0 (below_size (zb HB)) (fun k_ h_ => h_)) (Kd.R_lt (zr HO306))) (g := gb296) (o := .cells #[.string a1_0, .string a1_1, .bool a1_2] 36 (0, 0)) (zk BK296)) (below_size (zb HB)))
 replace HO306 := Aside0.mk (Kd.R_elder' (zr HO306) (Kd.R_base ho0) hb)
 replace BK295 := Aside0.mk (blk_below (g := gb295) (o := .cells #[.slice A0_0 l0_0.length c0_0, .int .i64 a0_1] 25 (0, 0)) (zk BK295) hb)
 replace BK296 := Aside0.mk (blk_below (g := gb296) (o := .cells #[.string a1_0, .string a1_1, .bool a1_2] 36 (0, 0)) (zk BK296) hb)
 replace BK297 := Aside0.mk (blk_below (g := gb297) (o := .cells #[.slice none 0 0, .int .i64 0] 25 (0, 0)) (zk BK297) hb)
 replace HB := Aside0.mk (below_step (zb HB) hb)
 (try clear hb)
 (try clear ho0)
 obtain ⟨Ao18, co18, eo18⟩ := Kd.R_slice HO309.out
 (first | subst eo18 | (injection eo18 with f1_ f2_ f3_; have f4_ := f1_.symm; have f5_ := f3_.symm; clear f1_ f2_ f3_; subst f4_; subst f5_))
 refine hK.out _ _ ⟨(blk_cell BK296.out 0).trans rfl, (blk_cell BK296.out 1).trans rfl, (blk_cell BK296.out 2).trans rfl, (blk_cell BK295.out 0).trans rfl, (blk_cell BK295.out 1).trans rfl⟩ (fun hHeld => ?_)
 clear hK K
 refine nm ?_
 refine one_ (i := 10) (N := none) (bm 11 2047) rfl rfl (one_of HT_.out (by kernel_rfl)) (by decide) (fun K hK => ?_)
 have hs19 : w17.cell? ⟨gb297, 0, none⟩ = some (.slice none 0 0) := (blk_cell BK297.out 0).trans rfl
 have hfs19 := blk_frozen BK297.out 0
 have hns19_0 := NB295_297.out
 have hns19_1 := NB296_297.out
 have hms19_0 := NB297_295.out
 have hms19_1 := NB297_296.out
 have hs20 : w17.cell? ⟨gb297, 1, none⟩ = some (.int .i64 0) := (blk_cell BK297.out 1).trans rfl
 have hfs20 := blk_frozen BK297.out 1
 have hns20_0 := NB295_297.out
 have hns20_1 := NB296_297.out
 have hms20_0 := NB297_295.out
 have hms20_1 := NB297_296.out
 refine skip_ (w1 := ?_) (by rfl) rfl ?_ ?_
 rotate_left
 ·go_simp
  rfl
 refine hK.out _ _ ⟨((cell_far (p := ⟨gb297, _, none⟩) NB296_297.out _).trans (((cell_far (p := ⟨gb297, _, none⟩) NB296_297.out _).trans (hHeld.1)))), ((cell_far (p := ⟨gb297, _, none⟩) NB296_297.out _).trans (((cell_far (p := ⟨gb297, _, none⟩) NB296_297.out _).trans (hHeld.2.1)))), ((cell_far (p := ⟨gb297, _, none⟩) NB296_297.out _).trans (((cell_far (p := ⟨gb297, _, none⟩) NB296_297.out _).trans (hHeld.2.2.1)))), ((cell_far (p := ⟨gb297, _, none⟩) NB295_297.out _).trans (((cell_far (p := ⟨gb297, _, none⟩) NB295_297.out _).trans (hHeld.2.2.2.1)))), ((cell_far (p := ⟨gb297, _, none⟩) NB295_297.out _).trans (((cell_far (p := ⟨gb297, _, none⟩) NB295_297.out _).trans (hHeld.2.2.2.2))))⟩ (fun hHeld => ?_)
 clear hK K
 refine done_ (done_of HT_.out (by kernel_rfl)) ?_
 try go_wp2
 refine bodyPost_ret (results_cell_row rfl _ _ gb297 25 #[.slice Ao18 t307.length co18, .int .i64 t310] (0, 0) _ rfl (by (with_reducible repeat (first | refine blk_drewN ?_ _ | refine blk_drew ?_ | refine blk_alloc ?_ _)); refine blk_put (cs := #[.slice Ao18 t307.length co18, .int .i64 0]) ?_ 1 _ rfl; (with_reducible repeat (first | refine blk_drewN ?_ _ | refine blk_drew ?_ | refine blk_alloc ?_ _)); refine blk_put (cs := #[.slice none 0 0, .int .i64 0]) ?_ 0 _ rfl; exact zk BK297) Try.underlying25 rfl (by kernel_rfl)) rfl ?_
 exact ⟨_, ze, by (with_reducible repeat (first | apply Kd.R_alloc | apply Kd.R_drewN | apply Kd.R_drew)); exact Kd.R_mono (Kd.R_far (p := ⟨gb297, 1, none⟩) (Kd.R_far (p := ⟨gb297, 0, none⟩) (Kd.R_types HO309.out BK297.out (by decide)) (fun _ hk => hk.2) (.slice Ao18 t307.length co18)) (fun _ hk => hk.2) (.int .i64 t310)) (fun _ hk => hk.1.1.1.1), zb HB⟩

/-! ### impl_TableAdd: function 30 -/
-- thin
def impl_TableAdd.f (k : Nat) (l0_0 : List (S36)) (a0_1 : Int) (a1_0 : ByteArray) (a1_1 : ByteArray) (a1_2 : Bool) : Option ((List (S36)) × Int) := (impl_TableOk.f k l0_0 a0_1).bind fun t314 => (if t314 = true then ((impl_FieldOk.f k a1_0 a1_1 a1_2).bind fun t315 => (if t315 = true then ((impl_Table_add.f k l0_0 a0_1 a1_0 a1_1 false).bind fun bt316 => (some (bt316.1, bt316.2))) else (some (([] : List (S36)), 0)))) else (some (([] : List (S36)), 0)))
theorem impl_TableAdd.mono : ∀ a0 a1 a2 a3 a4 k, LeO (impl_TableAdd.f k a0 a1 a2 a3 a4) (impl_TableAdd.f (k + 1) a0 a1 a2 a3 a4) := by
 intro a0 a1 a2 a3 a4 k
 unfold impl_TableAdd.f
 repeat' first
   | (with_reducible exact impl_FieldOk.mono _ _ _ _)
   | (with_reducible exact impl_TableOk.mono _ _ _)
   | (with_reducible exact impl_Table_add.mono _ _ _ _ _ _)
   | (with_reducible exact LeO.refl _)
   | (with_reducible exact LeO.none _)
   | (with_reducible refine LeO.ite ?_ ?_)
   | (with_reducible refine LeO.bind ?_ (fun _ => ?_))
   | exact impl_FieldOk.mono _ _ _ _
   | exact impl_TableOk.mono _ _ _
   | exact impl_Table_add.mono _ _ _ _ _ _
   | exact LeO.none _
   | refine LeO.ite ?_ ?_
   | refine LeO.bind ?_ (fun _ => ?_)
set_option maxHeartbeats 8000000 in
set_option maxRecDepth 100000 in
theorem impl_TableAdd.calls (k : Nat) (A0_0 : Option Addr) (c0_0 : Nat) (l0_0 : List (S36)) (a0_1 : Int) (a1_0 : ByteArray) (a1_1 : ByteArray) (a1_2 : Bool) (r1 : List (S36)) (r2 : Int) (w : World) (hr0_0 : Kd.C k36 w A0_0 l0_0.length l0_0) (hc0_0 : l0_0.length ≤ c0_0) (h : impl_TableAdd.f k l0_0 a0_1 a1_0 a1_1 a1_2 = some (r1, r2)) :
  Calls Try.prog 30 #[.agg #[.slice A0_0 l0_0.length c0_0, .int .i64 a0_1], .agg #[.string a1_0, .string a1_1, .bool a1_2]] w fun e w' => ∃ v0_ : Value, e = .returned (.agg #[v0_, .int .i64 r2]) ∧ Kd.R k36 36 w' w.heap.size (fun _ => True) v0_ r1 ∧ Below w.heap.size w w' := by
 have hu25 := Try.underlying25
 have hu36 := Try.underlying36
 have HR0_0 := Aside0.mk hr0_0
 have HC0_0 := Aside0.mk hc0_0
 clear hr0_0 hc0_0
 have HB := Aside0.mk (Below.refl w.heap.size w)
 have H : ((impl_TableOk.f k l0_0 a0_1).bind fun t314 => (if t314 = true then ((impl_FieldOk.f k a1_0 a1_1 a1_2).bind fun t315 => (if t315 = true then ((impl_Table_add.f k l0_0 a0_1 a1_0 a1_1 false).bind fun bt316 => (some (bt316.1, bt316.2))) else (some (([] : List (S36)), 0)))) else (some (([] : List (S36)), 0)))) = some (r1, r2) := h
 clear h
 replace H := Option.bind_eq_some_iff.mp H
 obtain ⟨t314, A30, H⟩ := H
 replace H : (if t314 = true then ((impl_FieldOk.f k a1_0 a1_1 a1_2).bind fun t315 => (if t315 = true then ((impl_Table_add.f k l0_0 a0_1 a1_0 a1_1 false).bind fun bt316 => (some (bt316.1, bt316.2))) else (some (([] : List (S36)), 0)))) else (some (([] : List (S36)), 0))) = some (r1, r2) := H
 have A3 := Aside0.mk A30
 clear A30
 by_cases c4 : t314 = true
 ·subst c4
  have H1 : ((impl_FieldOk.f k a1_0 a1_1 a1_2).bind fun t315 => (if t315 = true then ((impl_Table_add.f k l0_0 a0_1 a1_0 a1_1 false).bind fun bt316 => (some (bt316.1, bt316.2))) else (some (([] : List (S36)), 0)))) = some (r1, r2) := by rw [if_pos rfl] at H; exact H
  clear H
  have H := H1
  clear H1
  replace H := Option.bind_eq_some_iff.mp H
  obtain ⟨t315, A50, H⟩ := H
  replace H : (if t315 = true then ((impl_Table_add.f k l0_0 a0_1 a1_0 a1_1 false).bind fun bt316 => (some (bt316.1, bt316.2))) else (some (([] : List (S36)), 0))) = some (r1, r2) := H
  have A5 := Aside0.mk A50
  clear A50
  have HC6 := Aside0.mk H
  clear H
  go_enter Try.func30, Try.ntmps30
  go_upto_if 12 with (first | ((with_reducible refine gd 2 rfl ?_); refine bx (N := 2) (cs := #[.slice A0_0 l0_0.length c0_0, .int .i64 a0_1]) (t := 25) ?_; intro gb311 hg w7 hbox hb; have BK311 := Aside0.mk (hbox); have GW311 := Aside0.mk ((by rw [hg]; exact (below_size (zb HB)) : w.heap.size ≤ gb311)); have GE311 := Aside0.mk ((by rw [hg]; exact (below_size (zb HB)) : w.heap.size ≤ gb311)); replace HB := Aside0.mk (below_step (zb HB) hb); clear hb hbox hg) | ((with_reducible refine gd 3 rfl ?_); refine bx (N := 3) (cs := #[.string a1_0, .string a1_1, .bool a1_2]) (t := 36) ?_; intro gb312 hg w8 hbox hb; have BK312 := Aside0.mk (hbox); have GW312 := Aside0.mk ((by rw [hg]; exact (below_size (zb HB)) : w.heap.size ≤ gb312)); have GE312 := Aside0.mk ((by rw [hg]; exact (below_size (zb HB)) : w.heap.size ≤ gb312)); replace HB := Aside0.mk (below_step (zb HB) hb); have NB311_312 := Aside0.mk ((by rw [hg]; exact Nat.ne_of_lt (blk_lt (g := gb311) (o := .cells #[.slice A0_0 l0_0.length c0_0, .int .i64 a0_1] 25 (0, 0)) (zk BK311)) : gb311 ≠ gb312)); have NB312_311 := Aside0.mk ((by rw [hg]; exact Nat.ne_of_gt (blk_lt (g := gb311) (o := .cells #[.slice A0_0 l0_0.length c0_0, .int .i64 a0_1] 25 (0, 0)) (zk BK311)) : gb312 ≠ gb311)); replace BK311 := Aside0.mk (blk_below (g := gb311) (o := .cells #[.slice A0_0 l0_0.length c0_0, .int .i64 a0_1] 25 (0, 0)) (zk BK311) hb); clear hb hbox hg) | ((with_reducible refine gd 4 rfl ?_); refine bx (N := 4) (cs := #[.slice none 0 0, .int .i64 0]) (t := 25) ?_; intro gb313 hg w9 hbox hb; have BK313 := Aside0.mk (hbox); have GW313 := Aside0.mk ((by rw [hg]; exact (below_size (zb HB)) : w.heap.size ≤ gb313)); have GE313 := Aside0.mk ((by rw [hg]; exact (below_size (zb HB)) : w.heap.size ≤ gb313)); replace HB := Aside0.mk (below_step (zb HB) hb); have NB311_313 := Aside0.mk ((by rw [hg]; exact Nat.ne_of_lt (blk_lt (g := gb311) (o := .cells #[.slice A0_0 l0_0.length c0_0, .int .i64 a0_1] 25 (0, 0)) (zk BK311)) : gb311 ≠ gb313)); have NB313_311 := Aside0.mk ((by rw [hg]; exact Nat.ne_of_gt (blk_lt (g := gb311) (o := .cells #[.slice A0_0 l0_0.length c0_0, .int .i64 a0_1] 25 (0, 0)) (zk BK311)) : gb313 ≠ gb311)); replace BK311 := Aside0.mk (blk_below (g := gb311) (o := .cells #[.slice A0_0 l0_0.length c0_0, .int .i64 a0_1] 25 (0, 0)) (zk BK311) hb); have NB312_313 := Aside0.mk ((by rw [hg]; exact Nat.ne_of_lt (blk_lt (g := gb312) (o := .cells #[.string a1_0, .string a1_1, .bool a1_2] 36 (0, 0)) (zk BK312)) : gb312 ≠ gb313)); have NB313_312 := Aside0.mk ((by rw [hg]; exact Nat.ne_of_gt (blk_lt (g := gb312) (o := .cells #[.string a1_0, .string a1_1, .bool a1_2] 36 (0, 0)) (zk BK312)) : gb313 ≠ gb312)); replace BK312 := Aside0.mk (blk_below (g := gb312) (o := .cells #[.string a1_0, .string a1_1, .bool a1_2] 36 (0, 0)) (zk BK312) hb); clear hb hbox hg; have hnb10 := NB311_312.out; have hnc10 := NB312_311.out; have hnb11 := NB311_313.out; have hnc11 := NB313_311.out; have hcz12_0 : w9.cell? ⟨gb311, 0, none⟩ = some (.slice A0_0 l0_0.length c0_0) := (blk_cell BK311.out 0).trans rfl; have hcz12_1 : w9.cell? ⟨gb311, 1, none⟩ = some (.int .i64 a0_1) := (blk_cell BK311.out 1).trans rfl; have hfz12_0 := blk_frozen BK311.out 0; have hfz12_1 := blk_frozen BK311.out 1) | ((with_reducible refine gq 21 rfl ?_); refine gl (some 6) Try.func21 #[.agg #[.slice A0_0 l0_0.length c0_0, .int .i64 a0_1]] ?_; (with_reducible refine (impl_TableOk.calls k _ _ l0_0 a0_1 true _ ?side1 ?side2 A3.out).mono ?_); (case side1 => exact zc (Kd.C_below HR0_0.out HB.out)); (case side2 => exact HC0_0.out); rintro e w13 ⟨rfl, hb⟩; refine ⟨_, rfl, ?_⟩; replace BK311 := Aside0.mk (blk_below (g := gb311) (o := .cells #[.slice A0_0 l0_0.length c0_0, .int .i64 a0_1] 25 (0, 0)) (zk BK311) hb); replace BK312 := Aside0.mk (blk_below (g := gb312) (o := .cells #[.string a1_0, .string a1_1, .bool a1_2] 36 (0, 0)) (zk BK312) hb); replace BK313 := Aside0.mk (blk_below (g := gb313) (o := .cells #[.slice none 0 0, .int .i64 0] 25 (0, 0)) (zk BK313) hb); replace HB := Aside0.mk (below_step (zb HB) hb); (try clear hb); have hnb14 := NB312_313.out; have hnc14 := NB313_312.out; have hcz15_0 : w13.cell? ⟨gb312, 0, none⟩ = some (.string a1_0) := (blk_cell BK312.out 0).trans rfl; have hcz15_1 : w13.cell? ⟨gb312, 1, none⟩ = some (.string a1_1) := (blk_cell BK312.out 1).trans rfl; have hcz15_2 : w13.cell? ⟨gb312, 2, none⟩ = some (.bool a1_2) := (blk_cell BK312.out 2).trans rfl; have hfz15_0 := blk_frozen BK312.out 0; have hfz15_1 := blk_frozen BK312.out 1; have hfz15_2 := blk_frozen BK312.out 2) | (go_at_call 55; (with_reducible refine (impl_FieldOk.calls k a1_0 a1_1 a1_2 t315 _ A5.out).mono ?_); rintro e w16 ⟨rfl, hb⟩; replace BK311 := Aside0.mk (blk_below (g := gb311) (o := .cells #[.slice A0_0 l0_0.length c0_0, .int .i64 a0_1] 25 (0, 0)) (zk BK311) hb); replace BK312 := Aside0.mk (blk_below (g := gb312) (o := .cells #[.string a1_0, .string a1_1, .bool a1_2] 36 (0, 0)) (zk BK312) hb); replace BK313 := Aside0.mk (blk_below (g := gb313) (o := .cells #[.slice none 0 0, .int .i64 0] 25 (0, 0)) (zk BK313) hb); replace HB := Aside0.mk (below_step (zb HB) hb); (try clear hb)))
  (try simp only [Act.put, s1, s2, s3])
  have H := HC6.out
  clear HC6
  by_cases c17 : t315 = true
  ·subst c17
   have H1 : ((impl_Table_add.f k l0_0 a0_1 a1_0 a1_1 false).bind fun bt316 => (some (bt316.1, bt316.2))) = some (r1, r2) := by rw [if_pos rfl] at H; exact H
   clear H
   have H := H1
   clear H1
   replace H := Option.bind_eq_some_iff.mp H
   obtain ⟨⟨t316, t319⟩, A180, H⟩ := H
   replace H : (some (t316, t319)) = some (r1, r2) := H
   have A18 := Aside0.mk A180
   clear A180
   simp only [Option.some.injEq, Prod.mk.injEq] at H
   obtain ⟨rfl, rfl⟩ := H
   have hnb19 := NB312_311.out
   have hnc19 := NB311_312.out
   have hnb20 := NB312_313.out
   have hnc20 := NB313_312.out
   have hcz21_0 : w16.cell? ⟨gb312, 0, none⟩ = some (.string a1_0) := (blk_cell BK312.out 0).trans rfl
   have hcz21_1 : w16.cell? ⟨gb312, 1, none⟩ = some (.string a1_1) := (blk_cell BK312.out 1).trans rfl
   have hcz21_2 : w16.cell? ⟨gb312, 2, none⟩ = some (.bool a1_2) := (blk_cell BK312.out 2).trans rfl
   have hfz21_0 := blk_frozen BK312.out 0
   have hfz21_1 := blk_frozen BK312.out 1
   have hfz21_2 := blk_frozen BK312.out 2
   go_wp2_with (first | ((with_reducible refine gate_store (t := 4) (p := 14) rfl ?_); refine store_event (t := 4) (p := 14) (v := ?vo_w22) (w1 := (w16.setCell ⟨gb312, 2, none⟩ (.bool false))) ?hg ?ho ?hn ?hr ?_; (case ho => rfl); (case hg => rfl); (case hn => rfl); (case hr => first | (go_simp; done) | (go_simp; rfl)); intro w22 hw; replace BK311 : Aside0 (w22.heap[gb311]? = some (.cells #[.slice A0_0 l0_0.length c0_0, .int .i64 a0_1] 25 (0, 0))) := ⟨(by rw [hw]; exact (by (with_reducible repeat (first | refine blk_drewN ?_ _ | refine blk_drew ?_ | refine blk_alloc ?_ _)); refine blk_far ?_ NB311_312.out _; exact zk BK311))⟩; replace BK312 : Aside0 (w22.heap[gb312]? = some (.cells #[.string a1_0, .string a1_1, .bool false] 36 (0, 0))) := ⟨(by rw [hw]; exact (by (with_reducible repeat (first | refine blk_drewN ?_ _ | refine blk_drew ?_ | refine blk_alloc ?_ _)); refine blk_put (cs := #[.string a1_0, .string a1_1, .bool a1_2]) ?_ 2 _ rfl; exact zk BK312))⟩; replace BK313 : Aside0 (w22.heap[gb313]? = some (.cells #[.slice none 0 0, .int .i64 0] 25 (0, 0))) := ⟨(by rw [hw]; exact (by (with_reducible repeat (first | refine blk_drewN ?_ _ | refine blk_drew ?_ | refine blk_alloc ?_ _)); refine blk_far ?_ NB313_312.out _; exact zk BK313))⟩; replace HB : Aside0 (Below w.heap.size w w22) := ⟨(by rw [hw]; exact (zb HB))⟩; clear hw; have hnb23 := NB311_313.out; have hnc23 := NB313_311.out; have hcz24_0 : w22.cell? ⟨gb311, 0, none⟩ = some (.slice A0_0 l0_0.length c0_0) := (blk_cell BK311.out 0).trans rfl; have hcz24_1 : w22.cell? ⟨gb311, 1, none⟩ = some (.int .i64 a0_1) := (blk_cell BK311.out 1).trans rfl; have hfz24_0 := blk_frozen BK311.out 0; have hfz24_1 := blk_frozen BK311.out 1; have hcz25_0 : w22.cell? ⟨gb312, 0, none⟩ = some (.string a1_0) := (blk_cell BK312.out 0).trans rfl; have hcz25_1 : w22.cell? ⟨gb312, 1, none⟩ = some (.string a1_1) := (blk_cell BK312.out 1).trans rfl; have hcz25_2 : w22.cell? ⟨gb312, 2, none⟩ = some (.bool false) := (blk_cell BK312.out 2).trans rfl; have hfz25_0 := blk_frozen BK312.out 0; have hfz25_1 := blk_frozen BK312.out 1; have hfz25_2 := blk_frozen BK312.out 2) | ((with_reducible refine gq 59 rfl ?_); refine gl (some 17) Try.func59 #[.agg #[.slice A0_0 l0_0.length c0_0, .int .i64 a0_1], .agg #[.string a1_0, .string a1_1, .bool false]] ?_; (with_reducible refine (impl_Table_add.calls k (fun k_ => k_ < w.heap.size) _ _ l0_0 a0_1 a1_0 a1_1 false t316 t319 _ ?side1 A18.out).mono ?_); (case side1 => exact Kd.V_mk HC0_0.out (Kd.F_below (Kd.C_F k36_heap HR0_0.out) (zb HB))); rintro e w26 ⟨v317, rfl, ho0, hb⟩; refine ⟨_, rfl, ?_⟩; have HO318 := Aside0.mk (Kd.R_lower (Kd.R_newB (Kd.R_mono (ok' := fun k_ => True) ho0 (fun _ hk_ => trivial)) (g := gb312) (o := .cells #[.string a1_0, .string a1_1, .bool false] 36 (0, 0)) (zk BK312)) (below_size (zb HB))); replace BK311 := Aside0.mk (blk_below (g := gb311) (o := .cells #[.slice A0_0 l0_0.length c0_0, .int .i64 a0_1] 25 (0, 0)) (zk BK311) hb); replace BK312 := Aside0.mk (blk_below (g := gb312) (o := .cells #[.string a1_0, .string a1_1, .bool false] 36 (0, 0)) (zk BK312) hb); replace BK313 := Aside0.mk (blk_below (g := gb313) (o := .cells #[.slice none 0 0, .int .i64 0] 25 (0, 0)) (zk BK313) hb); replace HB := Aside0.mk (below_step (zb HB) hb); (try clear hb); (try clear ho0); obtain ⟨Ao27, co27, eo27⟩ := Kd.R_slice HO318.out; subst eo27; have hcz28_0 : w26.cell? ⟨gb313, 0, none⟩ = some (.slice none 0 0) := (blk_cell BK313.out 0).trans rfl; have hcz28_1 : w26.cell? ⟨gb313, 1, none⟩ = some (.int .i64 0) := (blk_cell BK313.out 1).trans rfl; have hfz28_0 := blk_frozen BK313.out 0; have hfz28_1 := blk_frozen BK313.out 1))
   refine bodyPost_ret (results_cell_row rfl _ _ gb313 25 #[.slice Ao27 t316.length co27, .int .i64 t319] (0, 0) _ rfl (by (with_reducible repeat (first | refine blk_drewN ?_ _ | refine blk_drew ?_ | refine blk_alloc ?_ _)); refine blk_put (cs := #[.slice Ao27 t316.length co27, .int .i64 0]) ?_ 1 _ rfl; (with_reducible repeat (first | refine blk_drewN ?_ _ | refine blk_drew ?_ | refine blk_alloc ?_ _)); refine blk_put (cs := #[.slice none 0 0, .int .i64 0]) ?_ 0 _ rfl; exact zk BK313) Try.underlying25 rfl (by kernel_rfl)) rfl ?_
   exact ⟨_, ze, by (with_reducible repeat (first | apply Kd.R_alloc | apply Kd.R_drewN | apply Kd.R_drew)); exact Kd.R_mono (Kd.R_far (p := ⟨gb313, 1, none⟩) (Kd.R_far (p := ⟨gb313, 0, none⟩) (Kd.R_types HO318.out BK313.out (by decide)) (fun _ hk => hk.2) (.slice Ao27 t316.length co27)) (fun _ hk => hk.2) (.int .i64 t319)) (fun _ hk => trivial), zb HB⟩
  ·replace c17 := Bool.eq_false_iff.mpr c17
   subst c17
   have H1 : (some (([] : List (S36)), 0)) = some (r1, r2) := by rw [if_neg (show ¬ (false = true) by decide)] at H; exact H
   clear H
   have H := H1
   clear H1
   simp only [Option.some.injEq, Prod.mk.injEq] at H
   obtain ⟨rfl, rfl⟩ := H
   have hnb29 := NB313_311.out
   have hnc29 := NB311_313.out
   have hnb30 := NB313_312.out
   have hnc30 := NB312_313.out
   have hcz31_0 : w16.cell? ⟨gb313, 0, none⟩ = some (.slice none 0 0) := (blk_cell BK313.out 0).trans rfl
   have hcz31_1 : w16.cell? ⟨gb313, 1, none⟩ = some (.int .i64 0) := (blk_cell BK313.out 1).trans rfl
   have hfz31_0 := blk_frozen BK313.out 0
   have hfz31_1 := blk_frozen BK313.out 1
   go_wp2
   refine bodyPost_ret (results_cell_row rfl _ _ gb313 25 #[.slice none 0 0, .int .i64 0] (0, 0) _ rfl (by (with_reducible repeat (first | refine blk_drewN ?_ _ | refine blk_drew ?_ | refine blk_alloc ?_ _)); refine blk_put (cs := #[.slice none 0 0, .int .i64 0]) ?_ 1 _ rfl; (with_reducible repeat (first | refine blk_drewN ?_ _ | refine blk_drew ?_ | refine blk_alloc ?_ _)); refine blk_put (cs := #[.slice none 0 0, .int .i64 0]) ?_ 0 _ rfl; exact zk BK313) Try.underlying25 rfl (by kernel_rfl)) rfl ?_
   exact ⟨_, ze, by first | exact Kd.R_nil _ _ _ _ _ | exact Kd.N_nil _ _ _ _ _ | exact Kd.V_nil _ _ _ _ _ | exact Kd.Q_nil _ _ _ _ _ | exact Kd.S_nil _ _ _ _ _, zb HB⟩
 ·replace c4 := Bool.eq_false_iff.mpr c4
  subst c4
  have H1 : (some (([] : List (S36)), 0)) = some (r1, r2) := by rw [if_neg (show ¬ (false = true) by decide)] at H; exact H
  clear H
  have H := H1
  clear H1
  simp only [Option.some.injEq, Prod.mk.injEq] at H
  obtain ⟨rfl, rfl⟩ := H
  go_enter Try.func30, Try.ntmps30
  go_wp2_with (first | ((with_reducible refine gd 2 rfl ?_); refine bx (N := 2) (cs := #[.slice A0_0 l0_0.length c0_0, .int .i64 a0_1]) (t := 25) ?_; intro gb311 hg w32 hbox hb; have BK311 := Aside0.mk (hbox); have GW311 := Aside0.mk ((by rw [hg]; exact (below_size (zb HB)) : w.heap.size ≤ gb311)); have GE311 := Aside0.mk ((by rw [hg]; exact (below_size (zb HB)) : w.heap.size ≤ gb311)); replace HB := Aside0.mk (below_step (zb HB) hb); clear hb hbox hg) | ((with_reducible refine gd 3 rfl ?_); refine bx (N := 3) (cs := #[.string a1_0, .string a1_1, .bool a1_2]) (t := 36) ?_; intro gb312 hg w33 hbox hb; have BK312 := Aside0.mk (hbox); have GW312 := Aside0.mk ((by rw [hg]; exact (below_size (zb HB)) : w.heap.size ≤ gb312)); have GE312 := Aside0.mk ((by rw [hg]; exact (below_size (zb HB)) : w.heap.size ≤ gb312)); replace HB := Aside0.mk (below_step (zb HB) hb); have NB311_312 := Aside0.mk ((by rw [hg]; exact Nat.ne_of_lt (blk_lt (g := gb311) (o := .cells #[.slice A0_0 l0_0.length c0_0, .int .i64 a0_1] 25 (0, 0)) (zk BK311)) : gb311 ≠ gb312)); have NB312_311 := Aside0.mk ((by rw [hg]; exact Nat.ne_of_gt (blk_lt (g := gb311) (o := .cells #[.slice A0_0 l0_0.length c0_0, .int .i64 a0_1] 25 (0, 0)) (zk BK311)) : gb312 ≠ gb311)); replace BK311 := Aside0.mk (blk_below (g := gb311) (o := .cells #[.slice A0_0 l0_0.length c0_0, .int .i64 a0_1] 25 (0, 0)) (zk BK311) hb); clear hb hbox hg) | ((with_reducible refine gd 4 rfl ?_); refine bx (N := 4) (cs := #[.slice none 0 0, .int .i64 0]) (t := 25) ?_; intro gb313 hg w34 hbox hb; have BK313 := Aside0.mk (hbox); have GW313 := Aside0.mk ((by rw [hg]; exact (below_size (zb HB)) : w.heap.size ≤ gb313)); have GE313 := Aside0.mk ((by rw [hg]; exact (below_size (zb HB)) : w.heap.size ≤ gb313)); replace HB := Aside0.mk (below_step (zb HB) hb); have NB311_313 := Aside0.mk ((by rw [hg]; exact Nat.ne_of_lt (blk_lt (g := gb311) (o := .cells #[.slice A0_0 l0_0.length c0_0, .int .i64 a0_1] 25 (0, 0)) (zk BK311)) : gb311 ≠ gb313)); have NB313_311 := Aside0.mk ((by rw [hg]; exact Nat.ne_of_gt (blk_lt (g := gb311) (o := .cells #[.slice A0_0 l0_0.length c0_0, .int .i64 a0_1] 25 (0, 0)) (zk BK311)) : gb313 ≠ gb311)); replace BK311 := Aside0.mk (blk_below (g := gb311) (o := .cells #[.slice A0_0 l0_0.length c0_0, .int .i64 a0_1] 25 (0, 0)) (zk BK311) hb); have NB312_313 := Aside0.mk ((by rw [hg]; exact Nat.ne_of_lt (blk_lt (g := gb312) (o := .cells #[.string a1_0, .string a1_1, .bool a1_2] 36 (0, 0)) (zk BK312)) : gb312 ≠ gb313)); have NB313_312 := Aside0.mk ((by rw [hg]; exact Nat.ne_of_gt (blk_lt (g := gb312) (o := .cells #[.string a1_0, .string a1_1, .bool a1_2] 36 (0, 0)) (zk BK312)) : gb313 ≠ gb312)); replace BK312 := Aside0.mk (blk_below (g := gb312) (o := .cells #[.string a1_0, .string a1_1, .bool a1_2] 36 (0, 0)) (zk BK312) hb); clear hb hbox hg; have hnb35 := NB311_312.out; have hnc35 := NB312_311.out; have hnb36 := NB311_313.out; have hnc36 := NB313_311.out; have hcz37_0 : w34.cell? ⟨gb311, 0, none⟩ = some (.slice A0_0 l0_0.length c0_0) := (blk_cell BK311.out 0).trans rfl; have hcz37_1 : w34.cell? ⟨gb311, 1, none⟩ = some (.int .i64 a0_1) := (blk_cell BK311.out 1).trans rfl; have hfz37_0 := blk_frozen BK311.out 0; have hfz37_1 := blk_frozen BK311.out 1) | ((with_reducible refine gq 21 rfl ?_); refine gl (some 6) Try.func21 #[.agg #[.slice A0_0 l0_0.length c0_0, .int .i64 a0_1]] ?_; (with_reducible refine (impl_TableOk.calls k _ _ l0_0 a0_1 false _ ?side1 ?side2 A3.out).mono ?_); (case side1 => exact zc (Kd.C_below HR0_0.out HB.out)); (case side2 => exact HC0_0.out); rintro e w38 ⟨rfl, hb⟩; refine ⟨_, rfl, ?_⟩; replace BK311 := Aside0.mk (blk_below (g := gb311) (o := .cells #[.slice A0_0 l0_0.length c0_0, .int .i64 a0_1] 25 (0, 0)) (zk BK311) hb); replace BK312 := Aside0.mk (blk_below (g := gb312) (o := .cells #[.string a1_0, .string a1_1, .bool a1_2] 36 (0, 0)) (zk BK312) hb); replace BK313 := Aside0.mk (blk_below (g := gb313) (o := .cells #[.slice none 0 0, .int .i64 0] 25 (0, 0)) (zk BK313) hb); replace HB := Aside0.mk (below_step (zb HB) hb); (try clear hb); have hnb39 := NB313_312.out; have hnc39 := NB312_313.out; have hcz40_0 : w38.cell? ⟨gb313, 0, none⟩ = some (.slice none 0 0) := (blk_cell BK313.out 0).trans rfl; have hcz40_1 : w38.cell? ⟨gb313, 1, none⟩ = some (.int .i64 0) := (blk_cell BK313.out 1).trans rfl; have hfz40_0 := blk_frozen BK313.out 0; have hfz40_1 := blk_frozen BK313.out 1))
  refine bodyPost_ret (results_cell_row rfl _ _ gb313 25 #[.slice none 0 0, .int .i64 0] (0, 0) _ rfl (by (with_reducible repeat (first | refine blk_drewN ?_ _ | refine blk_drew ?_ | refine blk_alloc ?_ _)); refine blk_put (cs := #[.slice none 0 0, .int .i64 0]) ?_ 1 _ rfl; (with_reducible repeat (first | refine blk_drewN ?_ _ | refine blk_drew ?_ | refine blk_alloc ?_ _)); refine blk_put (cs := #[.slice none 0 0, .int .i64 0]) ?_ 0 _ rfl; exact zk BK313) Try.underlying25 rfl (by kernel_rfl)) rfl ?_
  exact ⟨_, ze, by first | exact Kd.R_nil _ _ _ _ _ | exact Kd.N_nil _ _ _ _ _ | exact Kd.V_nil _ _ _ _ _ | exact Kd.Q_nil _ _ _ _ _ | exact Kd.S_nil _ _ _ _ _, zb HB⟩

/-! ### spec_TableAdd: function 31 -/
-- thin
def spec_TableAdd.f (k : Nat) (l0_0 : List (S36)) (a0_1 : Int) (a1_0 : ByteArray) (a1_1 : ByteArray) (a1_2 : Bool) : Option ((List (S36)) × Int) := (spec_TableOk.f k l0_0 a0_1).bind fun t323 => (if t323 = true then ((spec_FieldOk.f k a1_0 a1_1 a1_2).bind fun t324 => (if t324 = true then ((spec_l3Add.f k l0_0 a0_1 a1_0 a1_1 a1_2).bind fun bt325 => (some (bt325.1, bt325.2))) else (some (([] : List (S36)), 0)))) else (some (([] : List (S36)), 0)))
theorem spec_TableAdd.mono : ∀ a0 a1 a2 a3 a4 k, LeO (spec_TableAdd.f k a0 a1 a2 a3 a4) (spec_TableAdd.f (k + 1) a0 a1 a2 a3 a4) := by
 intro a0 a1 a2 a3 a4 k
 unfold spec_TableAdd.f
 repeat' first
   | (with_reducible exact spec_FieldOk.mono _ _ _ _)
   | (with_reducible exact spec_TableOk.mono _ _ _)
   | (with_reducible exact spec_l3Add.mono _ _ _ _ _ _)
   | (with_reducible exact LeO.refl _)
   | (with_reducible exact LeO.none _)
   | (with_reducible refine LeO.ite ?_ ?_)
   | (with_reducible refine LeO.bind ?_ (fun _ => ?_))
   | exact spec_FieldOk.mono _ _ _ _
   | exact spec_TableOk.mono _ _ _
   | exact spec_l3Add.mono _ _ _ _ _ _
   | exact LeO.none _
   | refine LeO.ite ?_ ?_
   | refine LeO.bind ?_ (fun _ => ?_)
set_option maxHeartbeats 8000000 in
set_option maxRecDepth 100000 in
theorem spec_TableAdd.calls (k : Nat) (A0_0 : Option Addr) (c0_0 : Nat) (l0_0 : List (S36)) (a0_1 : Int) (a1_0 : ByteArray) (a1_1 : ByteArray) (a1_2 : Bool) (r1 : List (S36)) (r2 : Int) (w : World) (hr0_0 : Kd.C k36 w A0_0 l0_0.length l0_0) (hc0_0 : l0_0.length ≤ c0_0) (h : spec_TableAdd.f k l0_0 a0_1 a1_0 a1_1 a1_2 = some (r1, r2)) :
  Calls Try.prog 31 #[.agg #[.slice A0_0 l0_0.length c0_0, .int .i64 a0_1], .agg #[.string a1_0, .string a1_1, .bool a1_2]] w fun e w' => ∃ v0_ : Value, e = .returned (.agg #[v0_, .int .i64 r2]) ∧ Kd.R k36 36 w' w.heap.size (fun _ => True) v0_ r1 ∧ Below w.heap.size w w' := by
 have hu25 := Try.underlying25
 have hu36 := Try.underlying36
 have HR0_0 := Aside0.mk hr0_0
 have HC0_0 := Aside0.mk hc0_0
 clear hr0_0 hc0_0
 have HB := Aside0.mk (Below.refl w.heap.size w)
 have H : ((spec_TableOk.f k l0_0 a0_1).bind fun t323 => (if t323 = true then ((spec_FieldOk.f k a1_0 a1_1 a1_2).bind fun t324 => (if t324 = true then ((spec_l3Add.f k l0_0 a0_1 a1_0 a1_1 a1_2).bind fun bt325 => (some (bt325.1, bt325.2))) else (some (([] : List (S36)), 0)))) else (some (([] : List (S36)), 0)))) = some (r1, r2) := h
 clear h
 replace H := Option.bind_eq_some_iff.mp H
 obtain ⟨t323, A30, H⟩ := H
 replace H : (if t323 = true then ((spec_FieldOk.f k a1_0 a1_1 a1_2).bind fun t324 => (if t324 = true then ((spec_l3Add.f k l0_0 a0_1 a1_0 a1_1 a1_2).bind fun bt325 => (some (bt325.1, bt325.2))) else (some (([] : List (S36)), 0)))) else (some (([] : List (S36)), 0))) = some (r1, r2) := H
 have A3 := Aside0.mk A30
 clear A30
 by_cases c4 : t323 = true
 ·subst c4
  have H1 : ((spec_FieldOk.f k a1_0 a1_1 a1_2).bind fun t324 => (if t324 = true then ((spec_l3Add.f k l0_0 a0_1 a1_0 a1_1 a1_2).bind fun bt325 => (some (bt325.1, bt325.2))) else (some (([] : List (S36)), 0)))) = some (r1, r2) := by rw [if_pos rfl] at H; exact H
  clear H
  have H := H1
  clear H1
  replace H := Option.bind_eq_some_iff.mp H
  obtain ⟨t324, A50, H⟩ := H
  replace H : (if t324 = true then ((spec_l3Add.f k l0_0 a0_1 a1_0 a1_1 a1_2).bind fun bt325 => (some (bt325.1, bt325.2))) else (some (([] : List (S36)), 0))) = some (r1, r2) := H
  have A5 := Aside0.mk A50
  clear A50
  have HC6 := Aside0.mk H
  clear H
  go_enter Try.func31, Try.ntmps31
  go_upto_if 12 with (first | ((with_reducible refine gd 2 rfl ?_); refine bx (N := 2) (cs := #[.slice A0_0 l0_0.length c0_0, .int .i64 a0_1]) (t := 25) ?_; intro gb320 hg w7 hbox hb; have BK320 := Aside0.mk (hbox); have GW320 := Aside0.mk ((by rw [hg]; exact (below_size (zb HB)) : w.heap.size ≤ gb320)); have GE320 := Aside0.mk ((by rw [hg]; exact (below_size (zb HB)) : w.heap.size ≤ gb320)); replace HB := Aside0.mk (below_step (zb HB) hb); clear hb hbox hg) | ((with_reducible refine gd 3 rfl ?_); refine bx (N := 3) (cs := #[.string a1_0, .string a1_1, .bool a1_2]) (t := 36) ?_; intro gb321 hg w8 hbox hb; have BK321 := Aside0.mk (hbox); have GW321 := Aside0.mk ((by rw [hg]; exact (below_size (zb HB)) : w.heap.size ≤ gb321)); have GE321 := Aside0.mk ((by rw [hg]; exact (below_size (zb HB)) : w.heap.size ≤ gb321)); replace HB := Aside0.mk (below_step (zb HB) hb); have NB320_321 := Aside0.mk ((by rw [hg]; exact Nat.ne_of_lt (blk_lt (g := gb320) (o := .cells #[.slice A0_0 l0_0.length c0_0, .int .i64 a0_1] 25 (0, 0)) (zk BK320)) : gb320 ≠ gb321)); have NB321_320 := Aside0.mk ((by rw [hg]; exact Nat.ne_of_gt (blk_lt (g := gb320) (o := .cells #[.slice A0_0 l0_0.length c0_0, .int .i64 a0_1] 25 (0, 0)) (zk BK320)) : gb321 ≠ gb320)); replace BK320 := Aside0.mk (blk_below (g := gb320) (o := .cells #[.slice A0_0 l0_0.length c0_0, .int .i64 a0_1] 25 (0, 0)) (zk BK320) hb); clear hb hbox hg) | ((with_reducible refine gd 4 rfl ?_); refine bx (N := 4) (cs := #[.slice none 0 0, .int .i64 0]) (t := 25) ?_; intro gb322 hg w9 hbox hb; have BK322 := Aside0.mk (hbox); have GW322 := Aside0.mk ((by rw [hg]; exact (below_size (zb HB)) : w.heap.size ≤ gb322)); have GE322 := Aside0.mk ((by rw [hg]; exact (below_size (zb HB)) : w.heap.size ≤ gb322)); replace HB := Aside0.mk (below_step (zb HB) hb); have NB320_322 := Aside0.mk ((by rw [hg]; exact Nat.ne_of_lt (blk_lt (g := gb320) (o := .cells #[.slice A0_0 l0_0.length c0_0, .int .i64 a0_1] 25 (0, 0)) (zk BK320)) : gb320 ≠ gb322)); have NB322_320 := Aside0.mk ((by rw [hg]; exact Nat.ne_of_gt (blk_lt (g := gb320) (o := .cells #[.slice A0_0 l0_0.length c0_0, .int .i64 a0_1] 25 (0, 0)) (zk BK320)) : gb322 ≠ gb320)); replace BK320 := Aside0.mk (blk_below (g := gb320) (o := .cells #[.slice A0_0 l0_0.length c0_0, .int .i64 a0_1] 25 (0, 0)) (zk BK320) hb); have NB321_322 := Aside0.mk ((by rw [hg]; exact Nat.ne_of_lt (blk_lt (g := gb321) (o := .cells #[.string a1_0, .string a1_1, .bool a1_2] 36 (0, 0)) (zk BK321)) : gb321 ≠ gb322)); have NB322_321 := Aside0.mk ((by rw [hg]; exact Nat.ne_of_gt (blk_lt (g := gb321) (o := .cells #[.string a1_0, .string a1_1, .bool a1_2] 36 (0, 0)) (zk BK321)) : gb322 ≠ gb321)); replace BK321 := Aside0.mk (blk_below (g := gb321) (o := .cells #[.string a1_0, .string a1_1, .bool a1_2] 36 (0, 0)) (zk BK321) hb); clear hb hbox hg; have hnb10 := NB320_321.out; have hnc10 := NB321_320.out; have hnb11 := NB320_322.out; have hnc11 := NB322_320.out; have hcz12_0 : w9.cell? ⟨gb320, 0, none⟩ = some (.slice A0_0 l0_0.length c0_0) := (blk_cell BK320.out 0).trans rfl; have hcz12_1 : w9.cell? ⟨gb320, 1, none⟩ = some (.int .i64 a0_1) := (blk_cell BK320.out 1).trans rfl; have hfz12_0 := blk_frozen BK320.out 0; have hfz12_1 := blk_frozen BK320.out 1) | ((with_reducible refine gq 19 rfl ?_); refine gl (some 6) Try.func19 #[.agg #[.slice A0_0 l0_0.length c0_0, .int .i64 a0_1]] ?_; (with_reducible refine (spec_TableOk.calls k _ _ l0_0 a0_1 true _ ?side1 ?side2 A3.out).mono ?_); (case side1 => exact zc (Kd.C_below HR0_0.out HB.out)); (case side2 => exact HC0_0.out); rintro e w13 ⟨rfl, hb⟩; refine ⟨_, rfl, ?_⟩; replace BK320 := Aside0.mk (blk_below (g := gb320) (o := .cells #[.slice A0_0 l0_0.length c0_0, .int .i64 a0_1] 25 (0, 0)) (zk BK320) hb); replace BK321 := Aside0.mk (blk_below (g := gb321) (o := .cells #[.string a1_0, .string a1_1, .bool a1_2] 36 (0, 0)) (zk BK321) hb); replace BK322 := Aside0.mk (blk_below (g := gb322) (o := .cells #[.slice none 0 0, .int .i64 0] 25 (0, 0)) (zk BK322) hb); replace HB := Aside0.mk (below_step (zb HB) hb); (try clear hb); have hnb14 := NB321_322.out; have hnc14 := NB322_321.out; have hcz15_0 : w13.cell? ⟨gb321, 0, none⟩ = some (.string a1_0) := (blk_cell BK321.out 0).trans rfl; have hcz15_1 : w13.cell? ⟨gb321, 1, none⟩ = some (.string a1_1) := (blk_cell BK321.out 1).trans rfl; have hcz15_2 : w13.cell? ⟨gb321, 2, none⟩ = some (.bool a1_2) := (blk_cell BK321.out 2).trans rfl; have hfz15_0 := blk_frozen BK321.out 0; have hfz15_1 := blk_frozen BK321.out 1; have hfz15_2 := blk_frozen BK321.out 2) | (go_at_call 32; (with_reducible refine (spec_FieldOk.calls k a1_0 a1_1 a1_2 t324 _ A5.out).mono ?_); rintro e w16 ⟨rfl, hb⟩; replace BK320 := Aside0.mk (blk_below (g := gb320) (o := .cells #[.slice A0_0 l0_0.length c0_0, .int .i64 a0_1] 25 (0, 0)) (zk BK320) hb); replace BK321 := Aside0.mk (blk_below (g := gb321) (o := .cells #[.string a1_0, .string a1_1, .bool a1_2] 36 (0, 0)) (zk BK321) hb); replace BK322 := Aside0.mk (blk_below (g := gb322) (o := .cells #[.slice none 0 0, .int .i64 0] 25 (0, 0)) (zk BK322) hb); replace HB := Aside0.mk (below_step (zb HB) hb); (try clear hb)))
  (try simp only [Act.put, s1, s2, s3])
  have H := HC6.out
  clear HC6
  by_cases c17 : t324 = true
  ·subst c17
   have H1 : ((spec_l3Add.f k l0_0 a0_1 a1_0 a1_1 a1_2).bind fun bt325 => (some (bt325.1, bt325.2))) = some (r1, r2) := by rw [if_pos rfl] at H; exact H
   clear H
   have H := H1
   clear H1
   replace H := Option.bind_eq_some_iff.mp H
   obtain ⟨⟨t325, t328⟩, A180, H⟩ := H
   replace H : (some (t325, t328)) = some (r1, r2) := H
   have A18 := Aside0.mk A180
   clear A180
   simp only [Option.some.injEq, Prod.mk.injEq] at H
   obtain ⟨rfl, rfl⟩ := H
   have hnb19 := NB320_321.out
   have hnc19 := NB321_320.out
   have hnb20 := NB320_322.out
   have hnc20 := NB322_320.out
   have hcz21_0 : w16.cell? ⟨gb320, 0, none⟩ = some (.slice A0_0 l0_0.length c0_0) := (blk_cell BK320.out 0).trans rfl
   have hcz21_1 : w16.cell? ⟨gb320, 1, none⟩ = some (.int .i64 a0_1) := (blk_cell BK320.out 1).trans rfl
   have hfz21_0 := blk_frozen BK320.out 0
   have hfz21_1 := blk_frozen BK320.out 1
   have hnb22 := NB321_322.out
   have hnc22 := NB322_321.out
   have hcz23_0 : w16.cell? ⟨gb321, 0, none⟩ = some (.string a1_0) := (blk_cell BK321.out 0).trans rfl
   have hcz23_1 : w16.cell? ⟨gb321, 1, none⟩ = some (.string a1_1) := (blk_cell BK321.out 1).trans rfl
   have hcz23_2 : w16.cell? ⟨gb321, 2, none⟩ = some (.bool a1_2) := (blk_cell BK321.out 2).trans rfl
   have hfz23_0 := blk_frozen BK321.out 0
   have hfz23_1 := blk_frozen BK321.out 1
   have hfz23_2 := blk_frozen BK321.out 2
   go_wp2_with (first | ((with_reducible refine gq 60 rfl ?_); refine gl (some 16) Try.func60 #[.agg #[.slice A0_0 l0_0.length c0_0, .int .i64 a0_1], .agg #[.string a1_0, .string a1_1, .bool a1_2]] ?_; (with_reducible refine (spec_l3Add.calls k _ _ l0_0 a0_1 a1_0 a1_1 a1_2 t325 t328 _ ?side1 ?side2 A18.out).mono ?_); (case side1 => exact zc (Kd.C_below HR0_0.out HB.out)); (case side2 => exact HC0_0.out); rintro e w24 ⟨v326, rfl, ho0, hb⟩; refine ⟨_, rfl, ?_⟩; have HO327 := Aside0.mk (Kd.R_lower (Kd.R_newB ho0 (g := gb321) (o := .cells #[.string a1_0, .string a1_1, .bool a1_2] 36 (0, 0)) (zk BK321)) (below_size (zb HB))); replace BK320 := Aside0.mk (blk_below (g := gb320) (o := .cells #[.slice A0_0 l0_0.length c0_0, .int .i64 a0_1] 25 (0, 0)) (zk BK320) hb); replace BK321 := Aside0.mk (blk_below (g := gb321) (o := .cells #[.string a1_0, .string a1_1, .bool a1_2] 36 (0, 0)) (zk BK321) hb); replace BK322 := Aside0.mk (blk_below (g := gb322) (o := .cells #[.slice none 0 0, .int .i64 0] 25 (0, 0)) (zk BK322) hb); replace HB := Aside0.mk (below_step (zb HB) hb); (try clear hb); (try clear ho0); obtain ⟨Ao25, co25, eo25⟩ := Kd.R_slice HO327.out; subst eo25; have hcz26_0 : w24.cell? ⟨gb322, 0, none⟩ = some (.slice none 0 0) := (blk_cell BK322.out 0).trans rfl; have hcz26_1 : w24.cell? ⟨gb322, 1, none⟩ = some (.int .i64 0) := (blk_cell BK322.out 1).trans rfl; have hfz26_0 := blk_frozen BK322.out 0; have hfz26_1 := blk_frozen BK322.out 1))
   refine bodyPost_ret (results_cell_row rfl _ _ gb322 25 #[.slice Ao25 t325.length co25, .int .i64 t328] (0, 0) _ rfl (by (with_reducible repeat (first | refine blk_drewN ?_ _ | refine blk_drew ?_ | refine blk_alloc ?_ _)); refine blk_put (cs := #[.slice Ao25 t325.length co25, .int .i64 0]) ?_ 1 _ rfl; (with_reducible repeat (first | refine blk_drewN ?_ _ | refine blk_drew ?_ | refine blk_alloc ?_ _)); refine blk_put (cs := #[.slice none 0 0, .int .i64 0]) ?_ 0 _ rfl; exact zk BK322) Try.underlying25 rfl (by kernel_rfl)) rfl ?_
   exact ⟨_, ze, by (with_reducible repeat (first | apply Kd.R_alloc | apply Kd.R_drewN | apply Kd.R_drew)); exact Kd.R_mono (Kd.R_far (p := ⟨gb322, 1, none⟩) (Kd.R_far (p := ⟨gb322, 0, none⟩) (Kd.R_types HO327.out BK322.out (by decide)) (fun _ hk => hk.2) (.slice Ao25 t325.length co25)) (fun _ hk => hk.2) (.int .i64 t328)) (fun _ hk => trivial), zb HB⟩
  ·replace c17 := Bool.eq_false_iff.mpr c17
   subst c17
   have H1 : (some (([] : List (S36)), 0)) = some (r1, r2) := by rw [if_neg (show ¬ (false = true) by decide)] at H; exact H
   clear H
   have H := H1
   clear H1
   simp only [Option.some.injEq, Prod.mk.injEq] at H
   obtain ⟨rfl, rfl⟩ := H
   have hnb27 := NB322_320.out
   have hnc27 := NB320_322.out
   have hnb28 := NB322_321.out
   have hnc28 := NB321_322.out
   have hcz29_0 : w16.cell? ⟨gb322, 0, none⟩ = some (.slice none 0 0) := (blk_cell BK322.out 0).trans rfl
   have hcz29_1 : w16.cell? ⟨gb322, 1, none⟩ = some (.int .i64 0) := (blk_cell BK322.out 1).trans rfl
   have hfz29_0 := blk_frozen BK322.out 0
   have hfz29_1 := blk_frozen BK322.out 1
   go_wp2
   refine bodyPost_ret (results_cell_row rfl _ _ gb322 25 #[.slice none 0 0, .int .i64 0] (0, 0) _ rfl (by (with_reducible repeat (first | refine blk_drewN ?_ _ | refine blk_drew ?_ | refine blk_alloc ?_ _)); refine blk_put (cs := #[.slice none 0 0, .int .i64 0]) ?_ 1 _ rfl; (with_reducible repeat (first | refine blk_drewN ?_ _ | refine blk_drew ?_ | refine blk_alloc ?_ _)); refine blk_put (cs := #[.slice none 0 0, .int .i64 0]) ?_ 0 _ rfl; exact zk BK322) Try.underlying25 rfl (by kernel_rfl)) rfl ?_
   exact ⟨_, ze, by first | exact Kd.R_nil _ _ _ _ _ | exact Kd.N_nil _ _ _ _ _ | exact Kd.V_nil _ _ _ _ _ | exact Kd.Q_nil _ _ _ _ _ | exact Kd.S_nil _ _ _ _ _, zb HB⟩
 ·replace c4 := Bool.eq_false_iff.mpr c4
  subst c4
  have H1 : (some (([] : List (S36)), 0)) = some (r1, r2) := by rw [if_neg (show ¬ (false = true) by decide)] at H; exact H
  clear H
  have H := H1
  clear H1
  simp only [Option.some.injEq, Prod.mk.injEq] at H
  obtain ⟨rfl, rfl⟩ := H
  go_enter Try.func31, Try.ntmps31
  go_wp2_with (first | ((with_reducible refine gd 2 rfl ?_); refine bx (N := 2) (cs := #[.slice A0_0 l0_0.length c0_0, .int .i64 a0_1]) (t := 25) ?_; intro gb320 hg w30 hbox hb; have BK320 := Aside0.mk (hbox); have GW320 := Aside0.mk ((by rw [hg]; exact (below_size (zb HB)) : w.heap.size ≤ gb320)); have GE320 := Aside0.mk ((by rw [hg]; exact (below_size (zb HB)) : w.heap.size ≤ gb320)); replace HB := Aside0.mk (below_step (zb HB) hb); clear hb hbox hg) | ((with_reducible refine gd 3 rfl ?_); refine bx (N := 3) (cs := #[.string a1_0, .string a1_1, .bool a1_2]) (t := 36) ?_; intro gb321 hg w31 hbox hb; have BK321 := Aside0.mk (hbox); have GW321 := Aside0.mk ((by rw [hg]; exact (below_size (zb HB)) : w.heap.size ≤ gb321)); have GE321 := Aside0.mk ((by rw [hg]; exact (below_size (zb HB)) : w.heap.size ≤ gb321)); replace HB := Aside0.mk (below_step (zb HB) hb); have NB320_321 := Aside0.mk ((by rw [hg]; exact Nat.ne_of_lt (blk_lt (g := gb320) (o := .cells #[.slice A0_0 l0_0.length c0_0, .int .i64 a0_1] 25 (0, 0)) (zk BK320)) : gb320 ≠ gb321)); have NB321_320 := Aside0.mk ((by rw [hg]; exact Nat.ne_of_gt (blk_lt (g := gb320) (o := .cells #[.slice A0_0 l0_0.length c0_0, .int .i64 a0_1] 25 (0, 0)) (zk BK320)) : gb321 ≠ gb320)); replace BK320 := Aside0.mk (blk_below (g := gb320) (o := .cells #[.slice A0_0 l0_0.length c0_0, .int .i64 a0_1] 25 (0, 0)) (zk BK320) hb); clear hb hbox hg) | ((with_reducible refine gd 4 rfl ?_); refine bx (N := 4) (cs := #[.slice none 0 0, .int .i64 0]) (t := 25) ?_; intro gb322 hg w32 hbox hb; have BK322 := Aside0.mk (hbox); have GW322 := Aside0.mk ((by rw [hg]; exact (below_size (zb HB)) : w.heap.size ≤ gb322)); have GE322 := Aside0.mk ((by rw [hg]; exact (below_size (zb HB)) : w.heap.size ≤ gb322)); replace HB := Aside0.mk (below_step (zb HB) hb); have NB320_322 := Aside0.mk ((by rw [hg]; exact Nat.ne_of_lt (blk_lt (g := gb320) (o := .cells #[.slice A0_0 l0_0.length c0_0, .int .i64 a0_1] 25 (0, 0)) (zk BK320)) : gb320 ≠ gb322)); have NB322_320 := Aside0.mk ((by rw [hg]; exact Nat.ne_of_gt (blk_lt (g := gb320) (o := .cells #[.slice A0_0 l0_0.length c0_0, .int .i64 a0_1] 25 (0, 0)) (zk BK320)) : gb322 ≠ gb320)); replace BK320 := Aside0.mk (blk_below (g := gb320) (o := .cells #[.slice A0_0 l0_0.length c0_0, .int .i64 a0_1] 25 (0, 0)) (zk BK320) hb); have NB321_322 := Aside0.mk ((by rw [hg]; exact Nat.ne_of_lt (blk_lt (g := gb321) (o := .cells #[.string a1_0, .string a1_1, .bool a1_2] 36 (0, 0)) (zk BK321)) : gb321 ≠ gb322)); have NB322_321 := Aside0.mk ((by rw [hg]; exact Nat.ne_of_gt (blk_lt (g := gb321) (o := .cells #[.string a1_0, .string a1_1, .bool a1_2] 36 (0, 0)) (zk BK321)) : gb322 ≠ gb321)); replace BK321 := Aside0.mk (blk_below (g := gb321) (o := .cells #[.string a1_0, .string a1_1, .bool a1_2] 36 (0, 0)) (zk BK321) hb); clear hb hbox hg; have hnb33 := NB320_321.out; have hnc33 := NB321_320.out; have hnb34 := NB320_322.out; have hnc34 := NB322_320.out; have hcz35_0 : w32.cell? ⟨gb320, 0, none⟩ = some (.slice A0_0 l0_0.length c0_0) := (blk_cell BK320.out 0).trans rfl; have hcz35_1 : w32.cell? ⟨gb320, 1, none⟩ = some (.int .i64 a0_1) := (blk_cell BK320.out 1).trans rfl; have hfz35_0 := blk_frozen BK320.out 0; have hfz35_1 := blk_frozen BK320.out 1) | ((with_reducible refine gq 19 rfl ?_); refine gl (some 6) Try.func19 #[.agg #[.slice A0_0 l0_0.length c0_0, .int .i64 a0_1]] ?_; (with_reducible refine (spec_TableOk.calls k _ _ l0_0 a0_1 false _ ?side1 ?side2 A3.out).mono ?_); (case side1 => exact zc (Kd.C_below HR0_0.out HB.out)); (case side2 => exact HC0_0.out); rintro e w36 ⟨rfl, hb⟩; refine ⟨_, rfl, ?_⟩; replace BK320 := Aside0.mk (blk_below (g := gb320) (o := .cells #[.slice A0_0 l0_0.length c0_0, .int .i64 a0_1] 25 (0, 0)) (zk BK320) hb); replace BK321 := Aside0.mk (blk_below (g := gb321) (o := .cells #[.string a1_0, .string a1_1, .bool a1_2] 36 (0, 0)) (zk BK321) hb); replace BK322 := Aside0.mk (blk_below (g := gb322) (o := .cells #[.slice none 0 0, .int .i64 0] 25 (0, 0)) (zk BK322) hb); replace HB := Aside0.mk (below_step (zb HB) hb); (try clear hb); have hnb37 := NB322_321.out; have hnc37 := NB321_322.out; have hcz38_0 : w36.cell? ⟨gb322, 0, none⟩ = some (.slice none 0 0) := (blk_cell BK322.out 0).trans rfl; have hcz38_1 : w36.cell? ⟨gb322, 1, none⟩ = some (.int .i64 0) := (blk_cell BK322.out 1).trans rfl; have hfz38_0 := blk_frozen BK322.out 0; have hfz38_1 := blk_frozen BK322.out 1))
  refine bodyPost_ret (results_cell_row rfl _ _ gb322 25 #[.slice none 0 0, .int .i64 0] (0, 0) _ rfl (by (with_reducible repeat (first | refine blk_drewN ?_ _ | refine blk_drew ?_ | refine blk_alloc ?_ _)); refine blk_put (cs := #[.slice none 0 0, .int .i64 0]) ?_ 1 _ rfl; (with_reducible repeat (first | refine blk_drewN ?_ _ | refine blk_drew ?_ | refine blk_alloc ?_ _)); refine blk_put (cs := #[.slice none 0 0, .int .i64 0]) ?_ 0 _ rfl; exact zk BK322) Try.underlying25 rfl (by kernel_rfl)) rfl ?_
  exact ⟨_, ze, by first | exact Kd.R_nil _ _ _ _ _ | exact Kd.N_nil _ _ _ _ _ | exact Kd.V_nil _ _ _ _ _ | exact Kd.Q_nil _ _ _ _ _ | exact Kd.S_nil _ _ _ _ _, zb HB⟩

/-! ### impl_TableFixed: function 34 -/
-- thin
def impl_TableFixed.f  : Option ((List (S36))) := some (([(⟨(⟨#[58, 112, 97, 116, 104]⟩ : ByteArray), (⟨#[]⟩ : ByteArray), false⟩ : S36), (⟨(⟨#[58, 115, 116, 97, 116, 117, 115]⟩ : ByteArray), (⟨#[48]⟩ : ByteArray), false⟩ : S36), (⟨(⟨#[58, 115, 116, 97, 116, 117, 115]⟩ : ByteArray), (⟨#[49, 50]⟩ : ByteArray), false⟩ : S36), (⟨(⟨#[107, 105, 110, 100]⟩ : ByteArray), (⟨#[116, 101, 120, 116]⟩ : ByteArray), false⟩ : S36), (⟨(⟨#[115, 105, 122, 101]⟩ : ByteArray), (⟨#[]⟩ : ByteArray), false⟩ : S36), (⟨(⟨#[116, 101]⟩ : ByteArray), (⟨#[116, 114, 97, 105, 108, 101, 114, 115]⟩ : ByteArray), false⟩ : S36)] : List (S36)))
set_option maxHeartbeats 8000000 in
set_option maxRecDepth 100000 in
theorem impl_TableFixed.calls  (r : List (S36)) (w : World) (h : impl_TableFixed.f  = some r) :
  Calls Try.prog 34 #[] w fun e w' => ∃ v0_ : Value, e = .returned (v0_) ∧ Kd.R k36 36 w' w.heap.size (fun _ => True) v0_ r ∧ Below w.heap.size w w' := by
 have hu36 := Try.underlying36
 have HB := Aside0.mk (Below.refl w.heap.size w)
 have H : (some (([(⟨(⟨#[58, 112, 97, 116, 104]⟩ : ByteArray), (⟨#[]⟩ : ByteArray), false⟩ : S36), (⟨(⟨#[58, 115, 116, 97, 116, 117, 115]⟩ : ByteArray), (⟨#[48]⟩ : ByteArray), false⟩ : S36), (⟨(⟨#[58, 115, 116, 97, 116, 117, 115]⟩ : ByteArray), (⟨#[49, 50]⟩ : ByteArray), false⟩ : S36), (⟨(⟨#[107, 105, 110, 100]⟩ : ByteArray), (⟨#[116, 101, 120, 116]⟩ : ByteArray), false⟩ : S36), (⟨(⟨#[115, 105, 122, 101]⟩ : ByteArray), (⟨#[]⟩ : ByteArray), false⟩ : S36), (⟨(⟨#[116, 101]⟩ : ByteArray), (⟨#[116, 114, 97, 105, 108, 101, 114, 115]⟩ : ByteArray), false⟩ : S36)] : List (S36)))) = some r := h
 clear h
 obtain ⟨y329, hy329⟩ : ∃ y_ : List (S36), y_ = (([(⟨(⟨#[58, 112, 97, 116, 104]⟩ : ByteArray), (⟨#[]⟩ : ByteArray), false⟩ : S36), (⟨(⟨#[58, 115, 116, 97, 116, 117, 115]⟩ : ByteArray), (⟨#[48]⟩ : ByteArray), false⟩ : S36), (⟨(⟨#[58, 115, 116, 97, 116, 117, 115]⟩ : ByteArray), (⟨#[49, 50]⟩ : ByteArray), false⟩ : S36), (⟨(⟨#[107, 105, 110, 100]⟩ : ByteArray), (⟨#[116, 101, 120, 116]⟩ : ByteArray), false⟩ : S36), (⟨(⟨#[115, 105, 122, 101]⟩ : ByteArray), (⟨#[]⟩ : ByteArray), false⟩ : S36), (⟨(⟨#[116, 101]⟩ : ByteArray), (⟨#[116, 114, 97, 105, 108, 101, 114, 115]⟩ : ByteArray), false⟩ : S36)] : List (S36))) := ⟨_, rfl⟩
 replace H : (some y329) = some r := by first | (rw [hy329]; with_reducible exact H) | (have H2_ := (Option.bind_some _ _).symm.trans H; rw [hy329]; with_reducible exact H2_) | (have H2_ := (Option.bind_some _ _).symm.trans H; with_reducible exact H2_) | with_reducible exact H | (rw [hy329]; exact H) | exact H
 have Ny329 := Aside0.mk hy329
 clear hy329
 obtain rfl := Option.some.inj H
 go_enter Try.func34, Try.ntmps34
 go_wp2_with (first | ((with_reducible refine gd 7 rfl ?_); refine Kd.R_lit k36 _ 36 ?hg (N := 7) ?hd (xs := ([(⟨(⟨#[58, 112, 97, 116, 104]⟩ : ByteArray), (⟨#[]⟩ : ByteArray), false⟩ : S36), (⟨(⟨#[58, 115, 116, 97, 116, 117, 115]⟩ : ByteArray), (⟨#[48]⟩ : ByteArray), false⟩ : S36), (⟨(⟨#[58, 115, 116, 97, 116, 117, 115]⟩ : ByteArray), (⟨#[49, 50]⟩ : ByteArray), false⟩ : S36), (⟨(⟨#[107, 105, 110, 100]⟩ : ByteArray), (⟨#[116, 101, 120, 116]⟩ : ByteArray), false⟩ : S36), (⟨(⟨#[115, 105, 122, 101]⟩ : ByteArray), (⟨#[]⟩ : ByteArray), false⟩ : S36), (⟨(⟨#[116, 101]⟩ : ByteArray), (⟨#[116, 114, 97, 105, 108, 101, 114, 115]⟩ : ByteArray), false⟩ : S36)] : List (S36))) (inner := [.string (⟨#[58, 112, 97, 116, 104]⟩ : ByteArray), .string (⟨#[]⟩ : ByteArray), .bool false, .string (⟨#[58, 115, 116, 97, 116, 117, 115]⟩ : ByteArray), .string (⟨#[48]⟩ : ByteArray), .bool false, .string (⟨#[58, 115, 116, 97, 116, 117, 115]⟩ : ByteArray), .string (⟨#[49, 50]⟩ : ByteArray), .bool false, .string (⟨#[107, 105, 110, 100]⟩ : ByteArray), .string (⟨#[116, 101, 120, 116]⟩ : ByteArray), .bool false, .string (⟨#[115, 105, 122, 101]⟩ : ByteArray), .string (⟨#[]⟩ : ByteArray), .bool false, .string (⟨#[116, 101]⟩ : ByteArray), .string (⟨#[116, 114, 97, 105, 108, 101, 114, 115]⟩ : ByteArray), .bool false]) (ok := fun _ => True) (okp := fun _ => True) ?hr ?hp (fun _ hk => hk) trivial (Below.refl _ _) (Nat.le_refl _) (by simp) ?_; (case hd => rfl); (case hg => rfl); (case hr => first | (go_simp; done) | (go_simp; rfl)); (case hp => exact (Reps.c3 (show Kd.M k36 _ _ _ (⟨(⟨#[58, 112, 97, 116, 104]⟩ : ByteArray), (⟨#[]⟩ : ByteArray), false⟩ : S36) [.string (⟨#[58, 112, 97, 116, 104]⟩ : ByteArray), .string (⟨#[]⟩ : ByteArray), .bool false] from (k36_mkM _ _ _ (⟨(⟨#[58, 112, 97, 116, 104]⟩ : ByteArray), (⟨#[]⟩ : ByteArray), false⟩ : S36) )) (Reps.c3 (show Kd.M k36 _ _ _ (⟨(⟨#[58, 115, 116, 97, 116, 117, 115]⟩ : ByteArray), (⟨#[48]⟩ : ByteArray), false⟩ : S36) [.string (⟨#[58, 115, 116, 97, 116, 117, 115]⟩ : ByteArray), .string (⟨#[48]⟩ : ByteArray), .bool false] from (k36_mkM _ _ _ (⟨(⟨#[58, 115, 116, 97, 116, 117, 115]⟩ : ByteArray), (⟨#[48]⟩ : ByteArray), false⟩ : S36) )) (Reps.c3 (show Kd.M k36 _ _ _ (⟨(⟨#[58, 115, 116, 97, 116, 117, 115]⟩ : ByteArray), (⟨#[49, 50]⟩ : ByteArray), false⟩ : S36) [.string (⟨#[58, 115, 116, 97, 116, 117, 115]⟩ : ByteArray), .string (⟨#[49, 50]⟩ : ByteArray), .bool false] from (k36_mkM _ _ _ (⟨(⟨#[58, 115, 116, 97, 116, 117, 115]⟩ : ByteArray), (⟨#[49, 50]⟩ : ByteArray), false⟩ : S36) )) (Reps.c3 (show Kd.M k36 _ _ _ (⟨(⟨#[107, 105, 110, 100]⟩ : ByteArray), (⟨#[116, 101, 120, 116]⟩ : ByteArray), false⟩ : S36) [.string (⟨#[107, 105, 110, 100]⟩ : ByteArray), .string (⟨#[116, 101, 120, 116]⟩ : ByteArray), .bool false] from (k36_mkM _ _ _ (⟨(⟨#[107, 105, 110, 100]⟩ : ByteArray), (⟨#[116, 101, 120, 116]⟩ : ByteArray), false⟩ : S36) )) (Reps.c3 (show Kd.M k36 _ _ _ (⟨(⟨#[115, 105, 122, 101]⟩ : ByteArray), (⟨#[]⟩ : ByteArray), false⟩ : S36) [.string (⟨#[115, 105, 122, 101]⟩ : ByteArray), .string (⟨#[]⟩ : ByteArray), .bool false] from (k36_mkM _ _ _ (⟨(⟨#[115, 105, 122, 101]⟩ : ByteArray), (⟨#[]⟩ : ByteArray), false⟩ : S36) )) (Reps.c3 (show Kd.M k36 _ _ _ (⟨(⟨#[116, 101]⟩ : ByteArray), (⟨#[116, 114, 97, 105, 108, 101, 114, 115]⟩ : ByteArray), false⟩ : S36) [.string (⟨#[116, 101]⟩ : ByteArray), .string (⟨#[116, 114, 97, 105, 108, 101, 114, 115]⟩ : ByteArray), .bool false] from (k36_mkM _ _ _ (⟨(⟨#[116, 101]⟩ : ByteArray), (⟨#[116, 114, 97, 105, 108, 101, 114, 115]⟩ : ByteArray), false⟩ : S36) )) (Reps.none _ _)))))))); intro v330 w1 ho2 hb hg_ hnew_; clear hg_ hnew_; (first | rw [← Ny329.out] at ho2 | (simp only [Int.reduceToNat] at ho2; rw [← Ny329.out] at ho2)); have HO331 := Aside0.mk (Kd.R_lower ho2 (below_size (zb HB))); replace HB := Aside0.mk (below_step (zb HB) hb); clear hb ho2))
 go_ret
 exact ⟨_, ze, by (with_reducible repeat (first | apply Kd.R_alloc | apply Kd.R_drewN | apply Kd.R_drew)); exact HO331.out, zb HB⟩

/-! ### impl_Table_all: function 77 -/
-- thin
def impl_Table_all.f (l0_0 : List (S36)) (a0_1 : Int) : Option ((List (S36))) := (impl_TableFixed.f).bind fun t333 => ((Concat_Field.f (([t333, l0_0] : List (List (S36))))).bind fun t339 => (some t339))
set_option maxHeartbeats 8000000 in
set_option maxRecDepth 100000 in
theorem impl_Table_all.calls (P0_0_ : Nat → Prop) (A0_0 : Option Addr) (c0_0 : Nat) (l0_0 : List (S36)) (a0_1 : Int) (r : List (S36)) (w : World) (hs0_0 : Kd.V k36 36 w w.heap.size (fun k_ => P0_0_ k_) (.slice A0_0 l0_0.length c0_0) l0_0) (h : impl_Table_all.f l0_0 a0_1 = some r) :
  Calls Try.prog 77 #[.agg #[.slice A0_0 l0_0.length c0_0, .int .i64 a0_1]] w fun e w' => ∃ v0_ : Value, e = .returned (v0_) ∧ Kd.R k36 36 w' w.heap.size (fun k_ => (w.heap.size ≤ k_)) v0_ r ∧ Below w.heap.size w w' := by
 have hu25 := Try.underlying25
 have HO0_0 := Aside0.mk (show Kd.V k36 36 w w.heap.size (fun k_ => (P0_0_ k_ ∨ w.heap.size ≤ k_)) (.slice A0_0 l0_0.length c0_0) l0_0 from Kd.V_mono hs0_0 (fun k_ hk => .inl hk))
 have HB := Aside0.mk (Below.refl w.heap.size w)
 have H : ((impl_TableFixed.f).bind fun t333 => ((Concat_Field.f (([t333, l0_0] : List (List (S36))))).bind fun t339 => (some t339))) = some r := h
 clear h
 replace H := Option.bind_eq_some_iff.mp H
 obtain ⟨t333, A20, H⟩ := H
 replace H : ((Concat_Field.f (([t333, l0_0] : List (List (S36))))).bind fun t339 => (some t339)) = some r := H
 have A2 := Aside0.mk A20
 clear A20
 obtain ⟨y336, hy336⟩ : ∃ y_ : List (List (S36)), y_ = (([t333, l0_0] : List (List (S36)))) := ⟨_, rfl⟩
 replace H : ((Concat_Field.f y336).bind fun t339 => (some t339)) = some r := by first | (rw [hy336]; with_reducible exact H) | (have H2_ := (Option.bind_some _ _).symm.trans H; rw [hy336]; with_reducible exact H2_) | (have H2_ := (Option.bind_some _ _).symm.trans H; with_reducible exact H2_) | with_reducible exact H | (rw [hy336]; exact H) | exact H
 have Ny336 := Aside0.mk hy336
 clear hy336
 replace H := Option.bind_eq_some_iff.mp H
 obtain ⟨t339, A30, H⟩ := H
 replace H : (some t339) = some r := H
 have A3 := Aside0.mk A30
 clear A30
 obtain rfl := Option.some.inj H
 go_enter Try.func77, Try.ntmps77
 try go_wp2_with (first | ((with_reducible refine gd 1 rfl ?_); refine bx (N := 1) (cs := #[.slice A0_0 l0_0.length c0_0, .int .i64 a0_1]) (t := 25) ?_; intro gb332 hg w4 hbox hb; replace HO0_0 := Aside0.mk (Kd.V_below (Kd.V_elderB (by (with_reducible repeat (first | apply Kd.V_alloc | apply Kd.V_drewN | apply Kd.V_drew)); exact HO0_0.out) gb332 (Nat.le_of_eq hg.symm)) hb); have BK332 := Aside0.mk (hbox); have GW332 := Aside0.mk ((by rw [hg]; exact (below_size (zb HB)) : w.heap.size ≤ gb332)); have GE332 := Aside0.mk ((by rw [hg]; exact (below_size (zb HB)) : w.heap.size ≤ gb332)); replace HB := Aside0.mk (below_step (zb HB) hb); clear hb hbox hg))
 replace HO0_0 := Aside0.mk (Kd.V_drew HO0_0.out)
 replace BK332 := Aside0.mk (blk_drew BK332.out)
 replace HB := Aside0.mk (below_drew1 HB.out)
 refine start_ (n := 6) (S := fun w' => w'.cell? ⟨gb332, 0, none⟩ = some (.slice A0_0 l0_0.length c0_0) ∧ w'.cell? ⟨gb332, 1, none⟩ = some (.int .i64 a0_1)) (ds := []) #[false, false, false, false, false, false] (by kernel_rfl) rfl rfl ⟨(blk_cell BK332.out 0).trans rfl, (blk_cell BK332.out 1).trans rfl⟩ (fun hHeld => ?_)
 generalize w4.drew = w5 at HO0_0 BK332 HB hHeld ⊢
 refine pu 1 (some 4) (bm 6 2) rfl rfl ?_
 refine tk2 2 (some 5) (bm 6 6) rfl rfl hHeld ?_
 refine one_ (i := 0) (N := some 3) (bm 6 7) rfl rfl (by kernel_rfl) (by decide) (fun K hK => ?_)
 refine gs Try.func34 #[] ?_
 with_reducible refine (impl_TableFixed.calls  t333 _ A2.out).mono ?_
 rintro e w6 ⟨v334, rfl, ho0, hb⟩
 refine ⟨_, rfl, ?_⟩
 replace HO0_0 := Aside0.mk (Kd.V_elder' (by (with_reducible repeat (first | apply Kd.V_alloc | apply Kd.V_drewN | apply Kd.V_drew)); exact HO0_0.out) (Kd.R_base ho0) hb)
 have HO335 := Aside0.mk (Kd.R_lower (Kd.R_newM (M := fun k_ => (w.heap.size ≤ k_)) ho0 (below_size (zb HB)) (fun k_ h_ => h_)) (below_size (zb HB)))
 replace BK332 := Aside0.mk (blk_below (g := gb332) (o := .cells #[.slice A0_0 l0_0.length c0_0, .int .i64 a0_1] 25 (0, 0)) (zk BK332) hb)
 replace HB := Aside0.mk (below_step (zb HB) hb)
 (try clear hb)
 (try clear ho0)
 obtain ⟨Ao7, co7, eo7⟩ := Kd.R_slice HO335.out
 (first | subst eo7 | (injection eo7 with f1_ f2_ f3_; have f4_ := f1_.symm; have f5_ := f3_.symm; clear f1_ f2_ f3_; subst f4_; subst f5_))
 refine hK.out _ _ ⟨(blk_cell BK332.out 0).trans rfl, (blk_cell BK332.out 1).trans rfl⟩ (fun hHeld => ?_)
 clear hK K
 refine nm ?_
 refine one_ (i := 3) (N := some 6) (bm 6 15) rfl rfl (by kernel_rfl) (by decide) (fun K hK => ?_)
 refine Kd.N_lit_step (Kd.slice 36 k36) _ 23 ?hg (N' := 6) ?hd (xs := ([t333, l0_0] : List (List (S36)))) (inner := [.slice Ao7 t333.length co7, .slice A0_0 l0_0.length c0_0]) (ok := (fun k_ => (P0_0_ k_ ∨ w.heap.size ≤ k_) ∧ k_ ≠ gb332)) (okp := (fun k_ => (P0_0_ k_ ∨ w.heap.size ≤ k_) ∧ k_ ≠ gb332)) ?hr ?hp (fun _ hk => hk) ((show ∀ k_, w6.heap.size ≤ k_ → (fun k_ => (P0_0_ k_ ∨ w.heap.size ≤ k_) ∧ k_ ≠ gb332) k_ from fun k_ hk => ⟨(.inr (Nat.le_trans (below_size (zb HB)) hk)), Kd.freshB (g := gb332) (o := .cells #[.slice A0_0 l0_0.length c0_0, .int .i64 a0_1] 25 (0, 0)) (zk BK332) k_ hk⟩) _ (Nat.le_refl _)) (Below.refl _ _) (Nat.le_refl _) (by simp) ?_; (case hd => rfl); (case hg => rfl); (case hr => first | (go_simp; done) | (go_simp; rfl)); (case hp => exact (Reps.one (show Kd.FK (Kd.slice 36 k36) _ _ t333 [.slice Ao7 t333.length co7] from (Kd.FK_slice_mk (Kd.R_reads' (Kd.R_mono (ok' := (fun k_ => (P0_0_ k_ ∨ w.heap.size ≤ k_) ∧ k_ ≠ gb332)) (Kd.R_types (HO335.out) BK332.out (by decide)) (fun k_ hk => ⟨(.inr (hk.1.1)), hk.2⟩))).2.1 (Kd.R_F (Kd.R_mono (ok' := (fun k_ => (P0_0_ k_ ∨ w.heap.size ≤ k_) ∧ k_ ≠ gb332)) (Kd.R_types (HO335.out) BK332.out (by decide)) (fun k_ hk => ⟨(.inr (hk.1.1)), hk.2⟩))))) (Reps.one (show Kd.FK (Kd.slice 36 k36) _ _ l0_0 [.slice A0_0 l0_0.length c0_0] from (Kd.FK_slice_mk (Kd.V_reads' (Kd.V_mono (ok' := (fun k_ => (P0_0_ k_ ∨ w.heap.size ≤ k_) ∧ k_ ≠ gb332)) (HO0_0.out) (fun k_ hk => ⟨hk.1.1, hk.1.2⟩))).2.1 (Kd.V_F (Kd.V_mono (ok' := (fun k_ => (P0_0_ k_ ∨ w.heap.size ≤ k_) ∧ k_ ≠ gb332)) (HO0_0.out) (fun k_ hk => ⟨hk.1.1, hk.1.2⟩))))) (Reps.none _ _))))
 intro v337 w8 ho9 hb hg_ hnew_
 clear hg_ hnew_
 (first | rw [← Ny336.out] at ho9 | (simp only [Int.reduceToNat] at ho9; rw [← Ny336.out] at ho9))
 replace HO0_0 := Aside0.mk (Kd.V_elder' (by (with_reducible repeat (first | apply Kd.V_alloc | apply Kd.V_drewN | apply Kd.V_drew)); exact HO0_0.out) (Kd.N_base ho9) hb)
 have HO338 := Aside0.mk (Kd.N_lower ho9 (below_size (zb HB)))
 replace BK332 := Aside0.mk (blk_below (g := gb332) (o := .cells #[.slice A0_0 l0_0.length c0_0, .int .i64 a0_1] 25 (0, 0)) (zk BK332) hb)
 replace HB := Aside0.mk (below_step (zb HB) hb)
 clear HO335
 clear hb ho9
 obtain ⟨Ao10, co10, eo10⟩ := Kd.N_slice HO338.out
 (first | subst eo10 | (injection eo10 with f1_ f2_ f3_; have f4_ := f1_.symm; have f5_ := f3_.symm; clear f1_ f2_ f3_; subst f4_; subst f5_))
 refine hK.out _ _ ⟨(blk_cell BK332.out 0).trans rfl, (blk_cell BK332.out 1).trans rfl⟩ (fun hHeld => ?_)
 clear hK K
 refine nm ?_
 refine one_ (i := 4) (N := some 7) (bm 6 31) rfl rfl (by kernel_rfl) (by decide) (fun K hK => ?_)
 refine gs Try.func75 #[.slice Ao10 y336.length co10] ?_
 with_reducible refine (Concat_Field.calls _ _ y336 t339 _ ?side1 ?side2 A3.out).mono ?_
 (case side1 => exact zc (Kd.N_reads' HO338.out).2.2)
 (case side2 => exact (Kd.N_reads' HO338.out).2.1)
 rintro e w11 ⟨v340, rfl, ho0, hb⟩
 refine ⟨_, rfl, ?_⟩
 replace HO0_0 := Aside0.mk (Kd.V_elder' (by (with_reducible repeat (first | apply Kd.V_alloc | apply Kd.V_drewN | apply Kd.V_drew)); exact HO0_0.out) (Kd.R_base ho0) hb)
 replace HO338 := Aside0.mk (Kd.N_elder' (by (with_reducible repeat (first | apply Kd.N_alloc | apply Kd.N_drewN | apply Kd.N_drew)); exact HO338.out) (Kd.R_base ho0) hb)
 have HO341 := Aside0.mk (Kd.R_lower (Kd.R_newM (M := fun k_ => (w.heap.size ≤ k_)) ho0 (below_size (zb HB)) (fun k_ h_ => h_)) (below_size (zb HB)))
 replace BK332 := Aside0.mk (blk_below (g := gb332) (o := .cells #[.slice A0_0 l0_0.length c0_0, .int .i64 a0_1] 25 (0, 0)) (zk BK332) hb)
 replace HB := Aside0.mk (below_step (zb HB) hb)
 (try clear hb)
 (try clear ho0)
 refine hK.out _ _ ⟨(blk_cell BK332.out 0).trans rfl, (blk_cell BK332.out 1).trans rfl⟩ (fun hHeld => ?_)
 clear hK K
 refine nm ?_
 refine pu 5 (some 2) (bm 6 63) rfl rfl ?_
 refine done_ (by kernel_rfl) ?_
 try go_wp2
 go_ret
 exact ⟨_, ze, by (with_reducible repeat (first | apply Kd.R_alloc | apply Kd.R_drewN | apply Kd.R_drew)); exact Kd.R_mono HO341.out (fun _ hk => hk.1), zb HB⟩

/-! ### impl_Table_find: function 62 -/
-- by hand
set_option maxHeartbeats 4000000 in
set_option maxRecDepth 100000 in
theorem find1_calls (a b : ByteArray) (f2 : Bool) (x : S36) (W : World) (gb : Nat) (hbk : W.heap[gb]? = some (.cells #[.string a, .string b, .bool f2] 36 (0, 0))) :
    Calls Try.prog 78 #[.agg #[.string x.f0, .string x.f1, .bool x.f2], .pointer (some ⟨gb, 0, none⟩)] W fun e w' => e = .returned (.bool (x.f0.toList == a.toList && x.f1.toList == b.toList)) ∧ Below W.heap.size W w' := by
  have hu36 := Try.underlying36
  have HBK := Aside0.mk hbk
  have hlt := blk_lt hbk
  clear hbk
  by_cases h1 : x.f0.toList == a.toList
  · go_enter Try.func78, Try.ntmps78
    go_wp2_with (first | ((with_reducible refine gd 2 rfl ?_); refine bx (N := 2) (cs := #[.string x.f0, .string x.f1, .bool x.f2]) (t := 36) ?_; intro gb2 hg w2 hbox hb; have BK2 := Aside0.mk hbox; have BK := Aside0.mk (blk_below HBK.out hb); have HB := Aside0.mk hb; have hne : gb2 ≠ gb := (by rw [hg]; omega); clear hg hbox hb; have c0 := blk_cell BK2.out 0; have c1 := blk_cell BK2.out 1; have d0 := blk_cell BK.out 0; have d1 := blk_cell BK.out 1; simp at c0 c1 d0 d1))
    go_ret
    exact ⟨by simp [h1], HB.out⟩
  · go_enter Try.func78, Try.ntmps78
    go_wp2_with (first | ((with_reducible refine gd 2 rfl ?_); refine bx (N := 2) (cs := #[.string x.f0, .string x.f1, .bool x.f2]) (t := 36) ?_; intro gb2 hg w2 hbox hb; have BK2 := Aside0.mk hbox; have BK := Aside0.mk (blk_below HBK.out hb); have HB := Aside0.mk hb; have hne : gb2 ≠ gb := (by rw [hg]; omega); clear hg hbox hb; have c0 := blk_cell BK2.out 0; have c1 := blk_cell BK2.out 1; have d0 := blk_cell BK.out 0; have d1 := blk_cell BK.out 1; simp at c0 c1 d0 d1))
    go_ret
    exact ⟨by simp [h1], HB.out⟩
set_option maxHeartbeats 4000000 in
set_option maxRecDepth 100000 in
theorem find2_calls (a b : ByteArray) (f2 : Bool) (x : S36) (W : World) (gb : Nat) (hbk : W.heap[gb]? = some (.cells #[.string a, .string b, .bool f2] 36 (0, 0))) :
    Calls Try.prog 79 #[.agg #[.string x.f0, .string x.f1, .bool x.f2], .pointer (some ⟨gb, 0, none⟩)] W fun e w' => e = .returned (.bool (x.f0.toList == a.toList)) ∧ Below W.heap.size W w' := by
  have hu36 := Try.underlying36
  have HBK := Aside0.mk hbk
  have hlt := blk_lt hbk
  clear hbk
  go_enter Try.func79, Try.ntmps79
  go_wp2_with (first | ((with_reducible refine gd 2 rfl ?_); refine bx (N := 2) (cs := #[.string x.f0, .string x.f1, .bool x.f2]) (t := 36) ?_; intro gb2 hg w2 hbox hb; have BK2 := Aside0.mk hbox; have BK := Aside0.mk (blk_below HBK.out hb); have HB := Aside0.mk hb; have hne : gb2 ≠ gb := (by rw [hg]; omega); clear hg hbox hb; have c0 := blk_cell BK2.out 0; have c1 := blk_cell BK2.out 1; have d0 := blk_cell BK.out 0; have d1 := blk_cell BK.out 1; simp at c0 c1 d0 d1))
  go_ret
  exact ⟨rfl, HB.out⟩
theorem find1_enters : ∀ args w, (callFunc 78 args).run Try.prog w = .ok (.enter 78 args) w := enters_of Try.func78 (by kernel_rfl) rfl
theorem find2_enters : ∀ args w, (callFunc 79 args).run Try.prog w = .ok (.enter 79 args) w := enters_of Try.func79 (by kernel_rfl) rfl
theorem find1_pred (a b : ByteArray) (f2 : Bool) (gb : Nat) (W : World) (hbk : W.heap[gb]? = some (.cells #[.string a, .string b, .bool f2] 36 (0, 0))) :
    PredIs Try.prog 78 #[.pointer (some ⟨gb, 0, none⟩)] (fun x => some (x.f0.toList == a.toList && x.f1.toList == b.toList)) W := by
  intro W1 x r hW h
  obtain rfl := Option.some.inj h
  exact (calls_of_args (by simp) (find1_calls a b f2 x W1 gb (blk_below hbk hW))).mono fun e w2 h2 => ⟨h2.1, below_step hW h2.2⟩
theorem find2_pred (a b : ByteArray) (f2 : Bool) (gb : Nat) (W : World) (hbk : W.heap[gb]? = some (.cells #[.string a, .string b, .bool f2] 36 (0, 0))) :
    PredIs Try.prog 79 #[.pointer (some ⟨gb, 0, none⟩)] (fun x => some (x.f0.toList == a.toList)) W := by
  intro W1 x r hW h
  obtain rfl := Option.some.inj h
  exact (calls_of_args (by simp) (find2_calls a b f2 x W1 gb (blk_below hbk hW))).mono fun e w2 h2 => ⟨h2.1, below_step hW h2.2⟩
def impl_Table_find.f (l0_0 : List (S36)) (a0_1 : Int) (a1_0 a1_1 : ByteArray) (a1_2 : Bool) : Option (Int × Bool) :=
  (impl_Table_all.f l0_0 a0_1).bind fun l => if l.length ≤ 1000000000 then (idxFrom (fun x => some (x.f0.toList == a1_0.toList && x.f1.toList == a1_1.toList)) l 0).bind fun i => if i ≥ 0 then some (wrap64 (i + 1), true) else (idxFrom (fun x => some (x.f0.toList == a1_0.toList)) l 0).bind fun j => some (wrap64 (j + 1), false) else none
set_option maxHeartbeats 4000000 in
set_option maxRecDepth 100000 in
theorem impl_Table_find.calls (A0_0 : Option Addr) (c0_0 : Nat) (l0_0 : List (S36)) (a0_1 : Int) (a1_0 a1_1 : ByteArray) (a1_2 : Bool) (r1 : Int) (r2 : Bool) (w : World) (hr0_0 : Kd.C k36 w A0_0 l0_0.length l0_0) (hc0_0 : l0_0.length ≤ c0_0) (h : impl_Table_find.f l0_0 a0_1 a1_0 a1_1 a1_2 = some (r1, r2)) :
    Calls Try.prog 62 #[.agg #[.slice A0_0 l0_0.length c0_0, .int .i64 a0_1], .agg #[.string a1_0, .string a1_1, .bool a1_2]] w fun e w' => e = .returned (.tuple #[.int .i64 r1, .bool r2]) ∧ Below w.heap.size w w' := by
  unfold impl_Table_find.f at h
  obtain ⟨l, hl, h⟩ := Option.bind_eq_some_iff.1 h
  split at h
  case isFalse => cases h
  rename_i hlen
  obtain ⟨i, hi, h⟩ := Option.bind_eq_some_iff.1 h
  have HV := Aside0.mk (Kd.V_mk (e := 36) (base := w.heap.size) hc0_0 (Kd.C_F k36_heap hr0_0))
  have HL := Aside0.mk hl
  have HI := Aside0.mk hi
  have H := Aside0.mk h
  have HLEN := Aside0.mk hlen
  clear hr0_0 hc0_0 hl hi h hlen
  have HB := Aside0.mk (Below.refl w.heap.size w)
  have hu36 := Try.underlying36
  have hu25 := Try.underlying25
  go_enter Try.func62, Try.ntmps62
  by_cases hi : i ≥ 0
  · have H1 := H.out
    rw [if_pos hi] at H1
    simp only [Option.some.injEq, Prod.mk.injEq] at H1
    obtain ⟨rfl, rfl⟩ := H1
    have c1 : decide (0 ≤ i) = true := decide_eq_true hi
    clear H hi
    go_wp2_with (first
      | ((with_reducible refine gd 2 rfl ?_); refine bx (N := 2) (cs := #[.slice A0_0 l0_0.length c0_0, .int .i64 a0_1]) (t := 25) ?_; intro gb2 hg w2 hbox hb; have BK2 := Aside0.mk hbox; replace HB := Aside0.mk (below_step HB.out hb); clear hg hbox hb; have c20 := blk_cell BK2.out 0; have c21 := blk_cell BK2.out 1; simp at c20 c21)
      | ((with_reducible refine gd 3 rfl ?_); refine bx (N := 3) (cs := #[.string a1_0, .string a1_1, .bool a1_2]) (t := 36) ?_; intro gb3 hg w3 hbox hb; have BK3 := Aside0.mk hbox; replace BK2 := Aside0.mk (blk_below BK2.out hb); replace HB := Aside0.mk (below_step HB.out hb); clear c20 c21; have c20 := blk_cell BK2.out 0; have c21 := blk_cell BK2.out 1; simp at c20 c21; clear hg hbox hb)
      | ((with_reducible refine gq 77 rfl ?_); refine gl (some 9) Try.func77 #[.agg #[.slice A0_0 l0_0.length c0_0, .int .i64 a0_1]] ?_; (with_reducible refine (impl_Table_all.calls (fun k => k < w.heap.size) _ _ l0_0 a0_1 l _ ?side1 HL.out).mono ?_); (case side1 => exact Kd.V_below HV.out HB.out); rintro e w4 ⟨v0, rfl, ho, hb⟩; refine ⟨_, rfl, ?_⟩; obtain ⟨A1, c1, rfl⟩ := Kd.R_slice ho; have HC := Aside0.mk (Kd.R_reads' ho).2.2; have HCC := Aside0.mk (Kd.R_reads' ho).2.1; replace BK3 := Aside0.mk (blk_below BK3.out hb); replace HB := Aside0.mk (below_step HB.out hb); clear ho hb c20 c21)
      | ((with_reducible refine gd 12 rfl ?_); (with_reducible refine gq 71 rfl ?_); refine gl (some 12) Try.func71 #[.slice A1 l.length c1, .func (.func 78) #[] #[.pointer (some ⟨gb3, 0, none⟩)]] ?_; (with_reducible refine (IndexFunc_calls 78 #[.pointer (some ⟨gb3, 0, none⟩)] (fun x => some (x.f0.toList == a1_0.toList && x.f1.toList == a1_1.toList)) find1_enters A1 c1 l i _ HC.out HCC.out ?hp HI.out HLEN.out).mono ?_); (case hp => exact find1_pred a1_0 a1_1 a1_2 gb3 _ BK3.out); rintro e w5 ⟨rfl, hb⟩; refine ⟨_, rfl, ?_⟩; replace BK3 := Aside0.mk (blk_below BK3.out hb); replace HC := Aside0.mk (Kd.C_below HC.out hb); replace HB := Aside0.mk (below_step HB.out hb); clear hb))
    go_ret2
    exact ⟨rfl, HB.out⟩
  · have H1 := H.out
    rw [if_neg hi] at H1
    obtain ⟨j, hj, H1⟩ := Option.bind_eq_some_iff.1 H1
    simp only [Option.some.injEq, Prod.mk.injEq] at H1
    obtain ⟨rfl, rfl⟩ := H1
    have HJ := Aside0.mk hj
    have c1 : decide (0 ≤ i) = false := decide_eq_false hi
    clear H hi hj
    go_wp2_with (first
      | ((with_reducible refine gd 2 rfl ?_); refine bx (N := 2) (cs := #[.slice A0_0 l0_0.length c0_0, .int .i64 a0_1]) (t := 25) ?_; intro gb2 hg w2 hbox hb; have BK2 := Aside0.mk hbox; replace HB := Aside0.mk (below_step HB.out hb); clear hg hbox hb; have c20 := blk_cell BK2.out 0; have c21 := blk_cell BK2.out 1; simp at c20 c21)
      | ((with_reducible refine gd 3 rfl ?_); refine bx (N := 3) (cs := #[.string a1_0, .string a1_1, .bool a1_2]) (t := 36) ?_; intro gb3 hg w3 hbox hb; have BK3 := Aside0.mk hbox; replace BK2 := Aside0.mk (blk_below BK2.out hb); replace HB := Aside0.mk (below_step HB.out hb); clear c20 c21; have c20 := blk_cell BK2.out 0; have c21 := blk_cell BK2.out 1; simp at c20 c21; clear hg hbox hb)
      | ((with_reducible refine gq 77 rfl ?_); refine gl (some 9) Try.func77 #[.agg #[.slice A0_0 l0_0.length c0_0, .int .i64 a0_1]] ?_; (with_reducible refine (impl_Table_all.calls (fun k => k < w.heap.size) _ _ l0_0 a0_1 l _ ?side1 HL.out).mono ?_); (case side1 => exact Kd.V_below HV.out HB.out); rintro e w4 ⟨v0, rfl, ho, hb⟩; refine ⟨_, rfl, ?_⟩; obtain ⟨A1, c1, rfl⟩ := Kd.R_slice ho; have HC := Aside0.mk (Kd.R_reads' ho).2.2; have HCC := Aside0.mk (Kd.R_reads' ho).2.1; replace BK3 := Aside0.mk (blk_below BK3.out hb); replace HB := Aside0.mk (below_step HB.out hb); clear ho hb c20 c21)
      | ((with_reducible refine gd 12 rfl ?_); (with_reducible refine gq 71 rfl ?_); refine gl (some 12) Try.func71 #[.slice A1 l.length c1, .func (.func 78) #[] #[.pointer (some ⟨gb3, 0, none⟩)]] ?_; (with_reducible refine (IndexFunc_calls 78 #[.pointer (some ⟨gb3, 0, none⟩)] (fun x => some (x.f0.toList == a1_0.toList && x.f1.toList == a1_1.toList)) find1_enters A1 c1 l i _ HC.out HCC.out ?hp HI.out HLEN.out).mono ?_); (case hp => exact find1_pred a1_0 a1_1 a1_2 gb3 _ BK3.out); rintro e w5 ⟨rfl, hb⟩; refine ⟨_, rfl, ?_⟩; replace BK3 := Aside0.mk (blk_below BK3.out hb); replace HC := Aside0.mk (Kd.C_below HC.out hb); replace HB := Aside0.mk (below_step HB.out hb); clear hb)
      | ((with_reducible refine gd 19 rfl ?_); (with_reducible refine gq 71 rfl ?_); refine gl (some 19) Try.func71 #[.slice A1 l.length c1, .func (.func 79) #[] #[.pointer (some ⟨gb3, 0, none⟩)]] ?_; (with_reducible refine (IndexFunc_calls 79 #[.pointer (some ⟨gb3, 0, none⟩)] (fun x => some (x.f0.toList == a1_0.toList)) find2_enters A1 c1 l j _ HC.out HCC.out ?hp HJ.out HLEN.out).mono ?_); (case hp => exact find2_pred a1_0 a1_1 a1_2 gb3 _ BK3.out); rintro e w5 ⟨rfl, hb⟩; refine ⟨_, rfl, ?_⟩; replace BK3 := Aside0.mk (blk_below BK3.out hb); replace HC := Aside0.mk (Kd.C_below HC.out hb); replace HB := Aside0.mk (below_step HB.out hb); clear hb))
    go_ret2
    exact ⟨rfl, HB.out⟩

/-! ### impl_TableFind: function 33 -/
-- thin
def impl_TableFind.f (k : Nat) (l0_0 : List (S36)) (a0_1 : Int) (a1_0 : ByteArray) (a1_1 : ByteArray) (a1_2 : Bool) : Option (Int × Bool) := (impl_TableOk.f k l0_0 a0_1).bind fun t344 => (if t344 = true then ((impl_FieldOk.f k a1_0 a1_1 a1_2).bind fun t345 => (if t345 = true then ((impl_Table_find.f l0_0 a0_1 a1_0 a1_1 a1_2).bind fun bt346 => (some (bt346.1, bt346.2))) else (some (0, false)))) else (some (0, false)))
theorem impl_TableFind.mono : ∀ a0 a1 a2 a3 a4 k, LeO (impl_TableFind.f k a0 a1 a2 a3 a4) (impl_TableFind.f (k + 1) a0 a1 a2 a3 a4) := by
 intro a0 a1 a2 a3 a4 k
 unfold impl_TableFind.f
 repeat' first
   | (with_reducible exact impl_FieldOk.mono _ _ _ _)
   | (with_reducible exact impl_TableOk.mono _ _ _)
   | (with_reducible exact LeO.refl _)
   | (with_reducible exact LeO.none _)
   | (with_reducible refine LeO.ite ?_ ?_)
   | (with_reducible refine LeO.bind ?_ (fun _ => ?_))
   | exact impl_FieldOk.mono _ _ _ _
   | exact impl_TableOk.mono _ _ _
   | exact LeO.none _
   | refine LeO.ite ?_ ?_
   | refine LeO.bind ?_ (fun _ => ?_)
set_option maxHeartbeats 8000000 in
set_option maxRecDepth 100000 in
theorem impl_TableFind.calls (k : Nat) (A0_0 : Option Addr) (c0_0 : Nat) (l0_0 : List (S36)) (a0_1 : Int) (a1_0 : ByteArray) (a1_1 : ByteArray) (a1_2 : Bool) (r1 : Int) (r2 : Bool) (w : World) (hr0_0 : Kd.C k36 w A0_0 l0_0.length l0_0) (hc0_0 : l0_0.length ≤ c0_0) (h : impl_TableFind.f k l0_0 a0_1 a1_0 a1_1 a1_2 = some (r1, r2)) :
  Calls Try.prog 33 #[.agg #[.slice A0_0 l0_0.length c0_0, .int .i64 a0_1], .agg #[.string a1_0, .string a1_1, .bool a1_2]] w fun e w' => e = .returned (.tuple #[.int .i64 r1, .bool r2]) ∧ Below w.heap.size w w' := by
 have hu25 := Try.underlying25
 have hu36 := Try.underlying36
 have HR0_0 := Aside0.mk hr0_0
 have HC0_0 := Aside0.mk hc0_0
 clear hr0_0 hc0_0
 have HB := Aside0.mk (Below.refl w.heap.size w)
 have H : ((impl_TableOk.f k l0_0 a0_1).bind fun t344 => (if t344 = true then ((impl_FieldOk.f k a1_0 a1_1 a1_2).bind fun t345 => (if t345 = true then ((impl_Table_find.f l0_0 a0_1 a1_0 a1_1 a1_2).bind fun bt346 => (some (bt346.1, bt346.2))) else (some (0, false)))) else (some (0, false)))) = some (r1, r2) := h
 clear h
 replace H := Option.bind_eq_some_iff.mp H
 obtain ⟨t344, A30, H⟩ := H
 replace H : (if t344 = true then ((impl_FieldOk.f k a1_0 a1_1 a1_2).bind fun t345 => (if t345 = true then ((impl_Table_find.f l0_0 a0_1 a1_0 a1_1 a1_2).bind fun bt346 => (some (bt346.1, bt346.2))) else (some (0, false)))) else (some (0, false))) = some (r1, r2) := H
 have A3 := Aside0.mk A30
 clear A30
 by_cases c4 : t344 = true
 ·subst c4
  have H1 : ((impl_FieldOk.f k a1_0 a1_1 a1_2).bind fun t345 => (if t345 = true then ((impl_Table_find.f l0_0 a0_1 a1_0 a1_1 a1_2).bind fun bt346 => (some (bt346.1, bt346.2))) else (some (0, false)))) = some (r1, r2) := by rw [if_pos rfl] at H; exact H
  clear H
  have H := H1
  clear H1
  replace H := Option.bind_eq_some_iff.mp H
  obtain ⟨t345, A50, H⟩ := H
  replace H : (if t345 = true then ((impl_Table_find.f l0_0 a0_1 a1_0 a1_1 a1_2).bind fun bt346 => (some (bt346.1, bt346.2))) else (some (0, false))) = some (r1, r2) := H
  have A5 := Aside0.mk A50
  clear A50
  have HC6 := Aside0.mk H
  clear H
  go_enter Try.func33, Try.ntmps33
  go_upto_if 13 with (first | ((with_reducible refine gd 2 rfl ?_); refine bx (N := 2) (cs := #[.slice A0_0 l0_0.length c0_0, .int .i64 a0_1]) (t := 25) ?_; intro gb342 hg w7 hbox hb; have BK342 := Aside0.mk (hbox); have GW342 := Aside0.mk ((by rw [hg]; exact (below_size (zb HB)) : w.heap.size ≤ gb342)); have GE342 := Aside0.mk ((by rw [hg]; exact (below_size (zb HB)) : w.heap.size ≤ gb342)); replace HB := Aside0.mk (below_step (zb HB) hb); clear hb hbox hg) | ((with_reducible refine gd 3 rfl ?_); refine bx (N := 3) (cs := #[.string a1_0, .string a1_1, .bool a1_2]) (t := 36) ?_; intro gb343 hg w8 hbox hb; have BK343 := Aside0.mk (hbox); have GW343 := Aside0.mk ((by rw [hg]; exact (below_size (zb HB)) : w.heap.size ≤ gb343)); have GE343 := Aside0.mk ((by rw [hg]; exact (below_size (zb HB)) : w.heap.size ≤ gb343)); replace HB := Aside0.mk (below_step (zb HB) hb); have NB342_343 := Aside0.mk ((by rw [hg]; exact Nat.ne_of_lt (blk_lt (g := gb342) (o := .cells #[.slice A0_0 l0_0.length c0_0, .int .i64 a0_1] 25 (0, 0)) (zk BK342)) : gb342 ≠ gb343)); have NB343_342 := Aside0.mk ((by rw [hg]; exact Nat.ne_of_gt (blk_lt (g := gb342) (o := .cells #[.slice A0_0 l0_0.length c0_0, .int .i64 a0_1] 25 (0, 0)) (zk BK342)) : gb343 ≠ gb342)); replace BK342 := Aside0.mk (blk_below (g := gb342) (o := .cells #[.slice A0_0 l0_0.length c0_0, .int .i64 a0_1] 25 (0, 0)) (zk BK342) hb); clear hb hbox hg; have hnb9 := NB342_343.out; have hnc9 := NB343_342.out; have hcz10_0 : w8.cell? ⟨gb342, 0, none⟩ = some (.slice A0_0 l0_0.length c0_0) := (blk_cell BK342.out 0).trans rfl; have hcz10_1 : w8.cell? ⟨gb342, 1, none⟩ = some (.int .i64 a0_1) := (blk_cell BK342.out 1).trans rfl; have hfz10_0 := blk_frozen BK342.out 0; have hfz10_1 := blk_frozen BK342.out 1) | ((with_reducible refine gq 21 rfl ?_); refine gl (some 7) Try.func21 #[.agg #[.slice A0_0 l0_0.length c0_0, .int .i64 a0_1]] ?_; (with_reducible refine (impl_TableOk.calls k _ _ l0_0 a0_1 true _ ?side1 ?side2 A3.out).mono ?_); (case side1 => exact zc (Kd.C_below HR0_0.out HB.out)); (case side2 => exact HC0_0.out); rintro e w11 ⟨rfl, hb⟩; refine ⟨_, rfl, ?_⟩; replace BK342 := Aside0.mk (blk_below (g := gb342) (o := .cells #[.slice A0_0 l0_0.length c0_0, .int .i64 a0_1] 25 (0, 0)) (zk BK342) hb); replace BK343 := Aside0.mk (blk_below (g := gb343) (o := .cells #[.string a1_0, .string a1_1, .bool a1_2] 36 (0, 0)) (zk BK343) hb); replace HB := Aside0.mk (below_step (zb HB) hb); (try clear hb); have hcz12_0 : w11.cell? ⟨gb343, 0, none⟩ = some (.string a1_0) := (blk_cell BK343.out 0).trans rfl; have hcz12_1 : w11.cell? ⟨gb343, 1, none⟩ = some (.string a1_1) := (blk_cell BK343.out 1).trans rfl; have hcz12_2 : w11.cell? ⟨gb343, 2, none⟩ = some (.bool a1_2) := (blk_cell BK343.out 2).trans rfl; have hfz12_0 := blk_frozen BK343.out 0; have hfz12_1 := blk_frozen BK343.out 1; have hfz12_2 := blk_frozen BK343.out 2) | (go_at_call 55; (with_reducible refine (impl_FieldOk.calls k a1_0 a1_1 a1_2 t345 _ A5.out).mono ?_); rintro e w13 ⟨rfl, hb⟩; replace BK342 := Aside0.mk (blk_below (g := gb342) (o := .cells #[.slice A0_0 l0_0.length c0_0, .int .i64 a0_1] 25 (0, 0)) (zk BK342) hb); replace BK343 := Aside0.mk (blk_below (g := gb343) (o := .cells #[.string a1_0, .string a1_1, .bool a1_2] 36 (0, 0)) (zk BK343) hb); replace HB := Aside0.mk (below_step (zb HB) hb); (try clear hb)))
  (try simp only [Act.put, s1, s2, s3])
  have H := HC6.out
  clear HC6
  by_cases c14 : t345 = true
  ·subst c14
   have H1 : ((impl_Table_find.f l0_0 a0_1 a1_0 a1_1 a1_2).bind fun bt346 => (some (bt346.1, bt346.2))) = some (r1, r2) := by rw [if_pos rfl] at H; exact H
   clear H
   have H := H1
   clear H1
   replace H := Option.bind_eq_some_iff.mp H
   obtain ⟨⟨t346, t347⟩, A150, H⟩ := H
   replace H : (some (t346, t347)) = some (r1, r2) := H
   have A15 := Aside0.mk A150
   clear A150
   simp only [Option.some.injEq, Prod.mk.injEq] at H
   obtain ⟨rfl, rfl⟩ := H
   have hnb16 := NB342_343.out
   have hnc16 := NB343_342.out
   have hcz17_0 : w13.cell? ⟨gb342, 0, none⟩ = some (.slice A0_0 l0_0.length c0_0) := (blk_cell BK342.out 0).trans rfl
   have hcz17_1 : w13.cell? ⟨gb342, 1, none⟩ = some (.int .i64 a0_1) := (blk_cell BK342.out 1).trans rfl
   have hfz17_0 := blk_frozen BK342.out 0
   have hfz17_1 := blk_frozen BK342.out 1
   have hcz18_0 : w13.cell? ⟨gb343, 0, none⟩ = some (.string a1_0) := (blk_cell BK343.out 0).trans rfl
   have hcz18_1 : w13.cell? ⟨gb343, 1, none⟩ = some (.string a1_1) := (blk_cell BK343.out 1).trans rfl
   have hcz18_2 : w13.cell? ⟨gb343, 2, none⟩ = some (.bool a1_2) := (blk_cell BK343.out 2).trans rfl
   have hfz18_0 := blk_frozen BK343.out 0
   have hfz18_1 := blk_frozen BK343.out 1
   have hfz18_2 := blk_frozen BK343.out 2
   go_wp2_with (first | ((with_reducible refine gq 62 rfl ?_); refine gl (some 16) Try.func62 #[.agg #[.slice A0_0 l0_0.length c0_0, .int .i64 a0_1], .agg #[.string a1_0, .string a1_1, .bool a1_2]] ?_; (with_reducible refine (impl_Table_find.calls _ _ l0_0 a0_1 a1_0 a1_1 a1_2 t346 t347 _ ?side1 ?side2 A15.out).mono ?_); (case side1 => exact zc (Kd.C_below HR0_0.out HB.out)); (case side2 => exact HC0_0.out); rintro e w19 ⟨rfl, hb⟩; refine ⟨_, rfl, ?_⟩; replace BK342 := Aside0.mk (blk_below (g := gb342) (o := .cells #[.slice A0_0 l0_0.length c0_0, .int .i64 a0_1] 25 (0, 0)) (zk BK342) hb); replace BK343 := Aside0.mk (blk_below (g := gb343) (o := .cells #[.string a1_0, .string a1_1, .bool a1_2] 36 (0, 0)) (zk BK343) hb); replace HB := Aside0.mk (below_step (zb HB) hb); (try clear hb)))
   go_ret2
   exact ⟨ze, zb HB⟩
  ·replace c14 := Bool.eq_false_iff.mpr c14
   subst c14
   have H1 : (some (0, false)) = some (r1, r2) := by rw [if_neg (show ¬ (false = true) by decide)] at H; exact H
   clear H
   have H := H1
   clear H1
   simp only [Option.some.injEq, Prod.mk.injEq] at H
   obtain ⟨rfl, rfl⟩ := H
   go_wp2
   go_ret2
   exact ⟨ze, zb HB⟩
 ·replace c4 := Bool.eq_false_iff.mpr c4
  subst c4
  have H1 : (some (0, false)) = some (r1, r2) := by rw [if_neg (show ¬ (false = true) by decide)] at H; exact H
  clear H
  have H := H1
  clear H1
  simp only [Option.some.injEq, Prod.mk.injEq] at H
  obtain ⟨rfl, rfl⟩ := H
  go_enter Try.func33, Try.ntmps33
  go_wp2_with (first | ((with_reducible refine gd 2 rfl ?_); refine bx (N := 2) (cs := #[.slice A0_0 l0_0.length c0_0, .int .i64 a0_1]) (t := 25) ?_; intro gb342 hg w20 hbox hb; have BK342 := Aside0.mk (hbox); have GW342 := Aside0.mk ((by rw [hg]; exact (below_size (zb HB)) : w.heap.size ≤ gb342)); have GE342 := Aside0.mk ((by rw [hg]; exact (below_size (zb HB)) : w.heap.size ≤ gb342)); replace HB := Aside0.mk (below_step (zb HB) hb); clear hb hbox hg) | ((with_reducible refine gd 3 rfl ?_); refine bx (N := 3) (cs := #[.string a1_0, .string a1_1, .bool a1_2]) (t := 36) ?_; intro gb343 hg w21 hbox hb; have BK343 := Aside0.mk (hbox); have GW343 := Aside0.mk ((by rw [hg]; exact (below_size (zb HB)) : w.heap.size ≤ gb343)); have GE343 := Aside0.mk ((by rw [hg]; exact (below_size (zb HB)) : w.heap.size ≤ gb343)); replace HB := Aside0.mk (below_step (zb HB) hb); have NB342_343 := Aside0.mk ((by rw [hg]; exact Nat.ne_of_lt (blk_lt (g := gb342) (o := .cells #[.slice A0_0 l0_0.length c0_0, .int .i64 a0_1] 25 (0, 0)) (zk BK342)) : gb342 ≠ gb343)); have NB343_342 := Aside0.mk ((by rw [hg]; exact Nat.ne_of_gt (blk_lt (g := gb342) (o := .cells #[.slice A0_0 l0_0.length c0_0, .int .i64 a0_1] 25 (0, 0)) (zk BK342)) : gb343 ≠ gb342)); replace BK342 := Aside0.mk (blk_below (g := gb342) (o := .cells #[.slice A0_0 l0_0.length c0_0, .int .i64 a0_1] 25 (0, 0)) (zk BK342) hb); clear hb hbox hg; have hnb22 := NB342_343.out; have hnc22 := NB343_342.out; have hcz23_0 : w21.cell? ⟨gb342, 0, none⟩ = some (.slice A0_0 l0_0.length c0_0) := (blk_cell BK342.out 0).trans rfl; have hcz23_1 : w21.cell? ⟨gb342, 1, none⟩ = some (.int .i64 a0_1) := (blk_cell BK342.out 1).trans rfl; have hfz23_0 := blk_frozen BK342.out 0; have hfz23_1 := blk_frozen BK342.out 1) | ((with_reducible refine gq 21 rfl ?_); refine gl (some 7) Try.func21 #[.agg #[.slice A0_0 l0_0.length c0_0, .int .i64 a0_1]] ?_; (with_reducible refine (impl_TableOk.calls k _ _ l0_0 a0_1 false _ ?side1 ?side2 A3.out).mono ?_); (case side1 => exact zc (Kd.C_below HR0_0.out HB.out)); (case side2 => exact HC0_0.out); rintro e w24 ⟨rfl, hb⟩; refine ⟨_, rfl, ?_⟩; replace BK342 := Aside0.mk (blk_below (g := gb342) (o := .cells #[.slice A0_0 l0_0.length c0_0, .int .i64 a0_1] 25 (0, 0)) (zk BK342) hb); replace BK343 := Aside0.mk (blk_below (g := gb343) (o := .cells #[.string a1_0, .string a1_1, .bool a1_2] 36 (0, 0)) (zk BK343) hb); replace HB := Aside0.mk (below_step (zb HB) hb); (try clear hb)))
  go_ret2
  exact ⟨ze, zb HB⟩

end Go.Proofs.Ytdhahifdcoinhaa.PFnAddFind
