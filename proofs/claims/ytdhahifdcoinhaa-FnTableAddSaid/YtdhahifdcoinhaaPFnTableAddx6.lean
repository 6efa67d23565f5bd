-- WRITTEN BY a turned print (wip/tools of the prover's repo)
import Derived.Test.YtdhahifdcoinhaaPFnTableAddx0
import Derived.Test.YtdhahifdcoinhaaPFnTableAddx2
import Derived.Test.YtdhahifdcoinhaaPFnTableAddx3
import Derived.Test.YtdhahifdcoinhaaPFnTableAddx4
import Derived.Test.YtdhahifdcoinhaaPFnTableAddx5
namespace Go.Proofs.Ytdhahifdcoinhaa.PFnTableAdd
open Go.RowKit Go.Proofs.YtdhahifdcoinhaaW.PrintWords Go.Proofs.YtdhahifdcoinhaaW.PrintLast Go.Proofs.YtdhahifdcoinhaaW.PrintMore Go.Proofs.Ytdhahifdcoinhaa.Lm
attribute [local go_sem] max2_int min2_int max_two min_two max_three min_three max_four min_four   -- for this text's walks alone
set_option linter.unusedVariables false
set_option linter.unusedSimpArgs false

/-! ### spec_l71Table: function 46 -/
-- thin
def spec_l71Table.l0 : Nat → Int → List Int → Int → List (S36) → Int → Option ((List (S36)) × Int × Int)
 | 0, _, _, _, _, _ => none
 | k + 1, x4, x1000, x1001, x226000, x226001 => if x4 > 0 then ((spec_l71Field.f k x1000 x1001).bind fun bt228 => ((spec_FieldOk.f k bt228.1 bt228.2.1 bt228.2.2.1).bind fun t233 => (if t233 = true then ((spec_l3Add.f k x226000 x226001 bt228.1 bt228.2.1 bt228.2.2.1).bind fun bt234 => (spec_l71Table.l0 k (wrap64 (x4 - 1)) x1000 bt228.2.2.2 bt234.1 bt234.2)) else (spec_l71Table.l0 k (wrap64 (x4 - 1)) x1000 bt228.2.2.2 x226000 x226001)))) else ((spec_l6Rd_pick.f k x1000 x1001 24).bind fun bt238 => (if bt238.1 = 0 then ((some (([(-1), 65, 3] : List Int) : List Int)).bind fun y240 => ((spec_l6Rd_pick.f k x1000 bt238.2 3).bind fun bt243 => (if 0 ≤ bt243.1 then (if bt243.1 < (y240.length : Int) then (some (x226000, rd y240 bt243.1, bt243.2)) else (none)) else (none)))) else (if bt238.1 = 1 then ((spec_l71Field.f k x1000 bt238.2).bind fun bt246 => ((spec_l71Field.f k x1000 bt246.2.2.2).bind fun bt250 => ((spec_l71Field.f k x1000 bt250.2.2.2).bind fun bt254 => ((some (([(⟨bt246.1, bt246.2.1, bt246.2.2.1⟩ : S36), (⟨bt250.1, bt250.2.1, bt250.2.2.1⟩ : S36), (⟨bt254.1, bt254.2.1, bt254.2.2.1⟩ : S36)] : List (S36)) : List (S36))).bind fun y258 => (if x226000.length + y258.length < 3518437208883 then (some ((x226000 ++ y258), x226001, bt254.2.2.2)) else (none)))))) else (some (x226000, x226001, bt238.2)))))
def spec_l71Table.f (k : Nat) (s0_0 : List Int) (s0_1 : Int) : Option ((List (S36)) × Int × Int) := (some (([64, 64, 40, 20, 0] : List Int) : List Int)).bind fun y219 => ((spec_l6Rd_pick.f k s0_0 s0_1 5).bind fun bt222 => (if 0 ≤ bt222.1 then (if bt222.1 < (y219.length : Int) then ((spec_l6Rd_pick.f k s0_0 bt222.2 7).bind fun bt226 => (spec_l71Table.l0 k bt226.1 s0_0 bt226.2 (([] : List (S36))) (rd y219 bt222.1))) else (none)) else (none)))
theorem spec_l71Table.mono_l : ∀ k, (∀ y0 y1 y2 y3 y4, LeO (spec_l71Table.l0 k y0 y1 y2 y3 y4) (spec_l71Table.l0 (k + 1) y0 y1 y2 y3 y4))
 | 0 => fun _ _ _ _ _ r h => by simp [spec_l71Table.l0] at h
 | k + 1 => by
  have ih0 := spec_l71Table.mono_l k
  ·intro y0 y1 y2 y3 y4
   unfold spec_l71Table.l0
   repeat' first
   | (with_reducible exact ih0 _ _ _ _ _)
   | (with_reducible exact spec_FieldOk.mono _ _ _ _)
   | (with_reducible exact spec_l3Add.mono _ _ _ _ _ _)
   | (with_reducible exact spec_l6Rd_pick.mono _ _ _ _)
   | (with_reducible exact spec_l71Field.mono _ _ _)
   | (with_reducible exact LeO.refl _)
   | (with_reducible exact LeO.none _)
   | (with_reducible refine LeO.ite ?_ ?_)
   | (with_reducible refine LeO.bind ?_ (fun _ => ?_))
   | exact ih0 _ _ _ _ _
   | exact spec_FieldOk.mono _ _ _ _
   | exact spec_l3Add.mono _ _ _ _ _ _
   | exact spec_l6Rd_pick.mono _ _ _ _
   | exact spec_l71Field.mono _ _ _
   | exact LeO.none _
   | refine LeO.ite ?_ ?_
   | refine LeO.bind ?_ (fun _ => ?_)
theorem spec_l71Table.mono : ∀ a0 a1 k, LeO (spec_l71Table.f k a0 a1) (spec_l71Table.f (k + 1) a0 a1) := by
 intro a0 a1 k
 have ih0 := spec_l71Table.mono_l k
 unfold spec_l71Table.f
 repeat' first
   | (with_reducible exact ih0 _ _ _ _ _)
   | (with_reducible exact spec_FieldOk.mono _ _ _ _)
   | (with_reducible exact spec_l3Add.mono _ _ _ _ _ _)
   | (with_reducible exact spec_l6Rd_pick.mono _ _ _ _)
   | (with_reducible exact spec_l71Field.mono _ _ _)
   | (with_reducible exact LeO.refl _)
   | (with_reducible exact LeO.none _)
   | (with_reducible refine LeO.ite ?_ ?_)
   | (with_reducible refine LeO.bind ?_ (fun _ => ?_))
   | exact ih0 _ _ _ _ _
   | exact spec_FieldOk.mono _ _ _ _
   | exact spec_l3Add.mono _ _ _ _ _ _
   | exact spec_l6Rd_pick.mono _ _ _ _
   | exact spec_l71Field.mono _ _ _
   | exact LeO.none _
   | refine LeO.ite ?_ ?_
   | refine LeO.bind ?_ (fun _ => ?_)
def spec_l71Table.T12 : Bool × List (List Nat × List Nat) := (true, [([], []), ([0], [0]), ([], []), ([2], [2]), ([], []), ([4, 3], [4]), ([], []), ([6, 5], [6]), ([3, 5, 7], [3, 5, 7]), ([1, 8, 7], [1, 8]), ([0, 1, 2, 3, 4, 5, 6, 7, 8, 9], []), ([10, 9, 9, 0, 1, 2, 3, 4, 5, 6, 7, 8, 9], [9, 10])])
def spec_l71Table.B12 : List Nat := [0, 1, 0, 4, 0, 28, 0, 124, 252, 511, 1023, 2047]
theorem spec_l71Table.tab12 : rtab .any (opsOf Try.f46 12) = spec_l71Table.T12 := by kernel_rfl
theorem spec_l71Table.bits12 : waitsOk spec_l71Table.T12.2 spec_l71Table.B12 = true := by kernel_rfl
set_option maxHeartbeats 8000000 in
set_option maxRecDepth 100000 in
theorem spec_l71Table.calls (k : Nat) (g : Nat) (s0_0 : List Int) (s0_1 : Int) (r1 : List (S36)) (r2 : Int) (r3 : Int) (w0 w : World) (hI : IsS85 w0 w g s0_0 s0_1) (hB : Below w0.heap.size w0 w) (h : spec_l71Table.f k s0_0 s0_1 = some (r1, r2, r3)) :
  Calls Try.prog 46 #[.pointer (some ⟨g, 0, none⟩)] w fun e w' => ∃ v0_ : Value, e = .returned (.agg #[v0_, .int .i64 r2]) ∧ Kd.R k36 36 w' w.heap.size (fun _ => True) v0_ r1 ∧ IsS85 w0 w' g s0_0 r3 ∧ Below w0.heap.size w0 w' ∧ KeepBut w w' g none := by
 have hu25 := Try.underlying25
 have hu36 := Try.underlying36
 have HI0 := Aside0.mk hI
 have HK := Aside0.mk (KeepBut.refl w g none)
 have HL := Aside0.mk hB.size
 clear hI
 have HW0 := Aside0.mk hB.size
 have HB := Aside0.mk hB
 clear hB
 have H : ((some (([64, 64, 40, 20, 0] : List Int) : List Int)).bind fun y219 => ((spec_l6Rd_pick.f k s0_0 s0_1 5).bind fun bt222 => (if 0 ≤ bt222.1 then (if bt222.1 < (y219.length : Int) then ((spec_l6Rd_pick.f k s0_0 bt222.2 7).bind fun bt226 => (spec_l71Table.l0 k bt226.1 s0_0 bt226.2 (([] : List (S36))) (rd y219 bt222.1))) else (none)) else (none)))) = some (r1, r2, r3) := h
 clear h
 obtain ⟨y216, hy216⟩ : ∃ y_ : List (S36), y_ = (([] : List (S36))) := ⟨_, rfl⟩
 replace H : ((some (([64, 64, 40, 20, 0] : List Int) : List Int)).bind fun y219 => ((spec_l6Rd_pick.f k s0_0 s0_1 5).bind fun bt222 => (if 0 ≤ bt222.1 then (if bt222.1 < (y219.length : Int) then ((spec_l6Rd_pick.f k s0_0 bt222.2 7).bind fun bt226 => (spec_l71Table.l0 k bt226.1 s0_0 bt226.2 y216 (rd y219 bt222.1))) else (none)) else (none)))) = some (r1, r2, r3) := by first | (rw [hy216]; with_reducible exact H) | (have H2_ := (Option.bind_some _ _).symm.trans H; rw [hy216]; with_reducible exact H2_) | (have H2_ := (Option.bind_some _ _).symm.trans H; with_reducible exact H2_) | with_reducible exact H | (rw [hy216]; exact H) | exact H
 have Ny216 := Aside0.mk hy216
 clear hy216
 obtain ⟨y219, hy219⟩ : ∃ y_ : List Int, y_ = (([64, 64, 40, 20, 0] : List Int)) := ⟨_, rfl⟩
 replace H : ((spec_l6Rd_pick.f k s0_0 s0_1 5).bind fun bt222 => (if 0 ≤ bt222.1 then (if bt222.1 < (y219.length : Int) then ((spec_l6Rd_pick.f k s0_0 bt222.2 7).bind fun bt226 => (spec_l71Table.l0 k bt226.1 s0_0 bt226.2 y216 (rd y219 bt222.1))) else (none)) else (none))) = some (r1, r2, r3) := by first | (rw [hy219]; with_reducible exact H) | (have H2_ := (Option.bind_some _ _).symm.trans H; rw [hy219]; with_reducible exact H2_) | (have H2_ := (Option.bind_some _ _).symm.trans H; with_reducible exact H2_) | with_reducible exact H | (rw [hy219]; exact H) | exact H
 have Ny219 := Aside0.mk hy219
 clear hy219
 replace H := Option.bind_eq_some_iff.mp H
 obtain ⟨⟨t222, t223⟩, A20, H⟩ := H
 replace H : (if 0 ≤ t222 then (if t222 < (y219.length : Int) then ((spec_l6Rd_pick.f k s0_0 t223 7).bind fun bt226 => (spec_l71Table.l0 k bt226.1 s0_0 bt226.2 y216 (rd y219 t222))) else (none)) else (none)) = some (r1, r2, r3) := H
 have A2 := Aside0.mk A20
 clear A20
 by_cases c3 : 0 ≤ t222
 ·rw [if_pos c3] at H
  have c3b0 : decide (0 ≤ t222) = true := decide_eq_true c3
  clear c3
  by_cases c4 : t222 < (y219.length : Int)
  ·rw [if_pos c4] at H
   have c4b0 : decide (t222 < (y219.length : Int)) = true := decide_eq_true c4
   clear c4
   replace H := Option.bind_eq_some_iff.mp H
   obtain ⟨⟨t226, t227⟩, A50, H⟩ := H
   replace H : (spec_l71Table.l0 k t226 s0_0 t227 y216 (rd y219 t222)) = some (r1, r2, r3) := H
   have A5 := Aside0.mk A50
   clear A50
   have H' := Aside0.mk H
   clear H
   go_enter Try.func46, Try.ntmps46
   go_wp2_with (first | ((with_reducible refine gd 2 rfl ?_); refine bx (N := 2) (cs := #[.slice none 0 0, .int .i64 0]) (t := 25) ?_; intro gb215 hg w6 hbox hb; replace HB := Aside0.mk (below_step (zg85 HB) hb); have BK215 := Aside0.mk (hbox); have GW215 := Aside0.mk ((by rw [hg]; exact (keep_size (w := w) (g := g) (row := none) (zh HK)) : w.heap.size ≤ gb215)); have GE215 := Aside0.mk ((Nat.le_trans HW0.out (by rw [hg]; exact (keep_size (w := w) (g := g) (row := none) (zh HK)) : w.heap.size ≤ gb215) : w0.heap.size ≤ gb215)); replace HK := Aside0.mk (KeepBut.trans (zh HK) (KeepBut.of_below hb g none) (.inl rfl)); have NB0_215 := Aside0.mk ((by rw [hg]; exact Nat.ne_of_lt (IsS85.lt (show IsS85 w0 _ g s0_0 s0_1 from zi85 HI0)) : g ≠ gb215)); have NB215_0 := Aside0.mk ((by rw [hg]; exact Nat.ne_of_gt (IsS85.lt (show IsS85 w0 _ g s0_0 s0_1 from zi85 HI0)) : gb215 ≠ g)); replace HI0 := Aside0.mk (IsS85.below (zi85 HI0) hb); clear hb hbox hg) | ((with_reducible refine gd 6 rfl ?_); refine Kd.R_lit k36 _ 36 ?hg (N := 6) ?hd (xs := ([] : List (S36))) (inner := []) (ok := fun _ => True) (okp := fun _ => True) ?hr ?hp (fun _ hk => hk) trivial (Below.refl _ _) (Nat.le_refl _) (by simp) ?_; (case hd => rfl); (case hg => rfl); (case hr => first | (go_simp; done) | (go_simp; rfl)); (case hp => exact (Reps.none _ _)); intro v217 w7 ho8 hb hg_ hnew_; clear hg_ hnew_; (first | rw [← Ny216.out] at ho8 | (simp only [Int.reduceToNat] at ho8; rw [← Ny216.out] at ho8)); have HO218 := Aside0.mk (Kd.R_lower ho8 (keep_size (w := w) (g := g) (row := none) (zh HK))); replace HI0 := Aside0.mk (IsS85.below (zi85 HI0) hb); replace BK215 := Aside0.mk (blk_below (g := gb215) (o := .cells #[.slice none 0 0, .int .i64 0] 25 (0, 0)) (zk BK215) hb); replace HK := Aside0.mk (KeepBut.trans (zh HK) (KeepBut.of_below hb g none) (.inl rfl)); replace HB := Aside0.mk (below_step (zg85 HB) hb); clear hb ho8) | ((with_reducible refine gd 7 rfl ?_); refine Kd.R_lit (Kd.int .i64) _ 3 ?hg (N := 7) ?hd (xs := ([64, 64, 40, 20, 0] : List Int)) (inner := [.int .i64 64, .int .i64 64, .int .i64 40, .int .i64 20, .int .i64 0]) (ok := fun _ => True) (okp := fun _ => True) ?hr ?hp (fun _ hk => hk) trivial (Below.refl _ _) (Nat.le_refl _) (by simp) ?_; (case hd => rfl); (case hg => rfl); (case hr => first | (go_simp; done) | (go_simp; rfl)); (case hp => exact (Reps.one (show Kd.M (Kd.int .i64) _ _ _ 64 [.int .i64 64] from rfl) (Reps.one (show Kd.M (Kd.int .i64) _ _ _ 64 [.int .i64 64] from rfl) (Reps.one (show Kd.M (Kd.int .i64) _ _ _ 40 [.int .i64 40] from rfl) (Reps.one (show Kd.M (Kd.int .i64) _ _ _ 20 [.int .i64 20] from rfl) (Reps.one (show Kd.M (Kd.int .i64) _ _ _ 0 [.int .i64 0] from rfl) (Reps.none _ _))))))); intro v220 w9 ho10 hb hg_ hnew_; clear hg_ hnew_; (first | rw [← Ny219.out] at ho10 | (simp only [Int.reduceToNat] at ho10; rw [← Ny219.out] at ho10)); replace HO218 := Aside0.mk (Kd.R_below (zr HO218) hb); have HO221 := Aside0.mk (Kd.R_lower ho10 (keep_size (w := w) (g := g) (row := none) (zh HK))); replace HI0 := Aside0.mk (IsS85.below (zi85 HI0) hb); replace BK215 := Aside0.mk (blk_below (g := gb215) (o := .cells #[.slice none 0 0, .int .i64 0] 25 (0, 0)) (zk BK215) hb); replace HK := Aside0.mk (KeepBut.trans (zh HK) (KeepBut.of_below hb g none) (.inl rfl)); replace HB := Aside0.mk (below_step (zg85 HB) hb); clear hb ho10) | ((with_reducible refine gq 47 rfl ?_); refine gl (some 9) Try.func47 #[.pointer (some ⟨g, 0, none⟩), .int .i64 5] ?_; (with_reducible refine (spec_l6Rd_pick.calls k g s0_0 s0_1 5 t222 t223 w0 _ ?side1 ?side2 A2.out).mono ?_); (case side1 => exact zi85 HI0); (case side2 => exact zg85 HB); rintro e w11 ⟨rfl, hi, hb, hk⟩; refine ⟨_, rfl, ?_⟩; replace BK215 := Aside0.mk (KeepBut.blk hk (g' := gb215) (o := .cells #[.slice none 0 0, .int .i64 0] 25 (0, 0)) (zk BK215) NB215_0.out (by simp)); replace HO218 := Aside0.mk (Kd.R_mono (Kd.R_keep (IsS85.apart (show IsS85 w0 _ g s0_0 s0_1 from zi85 HI0) (zr HO218) (by decide)) hk (fun _ h => h.2)) (fun _ h => h.1)); replace HO221 := Aside0.mk (Kd.R_mono (Kd.R_keep (IsS85.apart (show IsS85 w0 _ g s0_0 s0_1 from zi85 HI0) (zr HO221) (by decide)) hk (fun _ h => h.2)) (fun _ h => h.1)); replace HK := Aside0.mk (KeepBut.trans (zh HK) hk (.inl rfl)); replace HB := Aside0.mk (hb); replace HI0 := Aside0.mk (hi); (try clear hb); (try clear hk); (try clear hi); obtain ⟨Ao12, co12, eo12⟩ := Kd.R_slice HO221.out; subst eo12; have p224 : 0 ≤ (t222 : Int) := of_decide_eq_true za; have q224 : t222 < (y219.length : Int) := of_decide_eq_true za; obtain ⟨ad224, e224, hx224_0⟩ := Kd.at_int (Kd.R_reads' HO221.out).2.2 t222 p224 q224; cases e224; replace p224 := eq_true p224; replace q224 := eq_true q224; obtain ⟨Ao13, co13, eo13⟩ := Kd.R_slice HO218.out; subst eo13) | ((with_reducible refine gd 3 rfl ?_); refine bx (N := 3) (cs := #[.slice none 0 0, .int .i64 0]) (t := 25) ?_; intro gb225 hg w14 hbox hb; replace HO218 := Aside0.mk (Kd.R_below (zr HO218) hb); replace HO221 := Aside0.mk (Kd.R_below (zr HO221) hb); replace HB := Aside0.mk (below_step (zg85 HB) hb); have BK225 := Aside0.mk (hbox); have GW225 := Aside0.mk ((by rw [hg]; exact (keep_size (w := w) (g := g) (row := none) (zh HK)) : w.heap.size ≤ gb225)); have GE225 := Aside0.mk ((Nat.le_trans HW0.out (by rw [hg]; exact (keep_size (w := w) (g := g) (row := none) (zh HK)) : w.heap.size ≤ gb225) : w0.heap.size ≤ gb225)); replace HK := Aside0.mk (KeepBut.trans (zh HK) (KeepBut.of_below hb g none) (.inl rfl)); have NB215_225 := Aside0.mk ((by rw [hg]; exact Nat.ne_of_lt (blk_lt (g := gb215) (o := .cells #[.slice none 0 0, .int .i64 0] 25 (0, 0)) (zk BK215)) : gb215 ≠ gb225)); have NB225_215 := Aside0.mk ((by rw [hg]; exact Nat.ne_of_gt (blk_lt (g := gb215) (o := .cells #[.slice none 0 0, .int .i64 0] 25 (0, 0)) (zk BK215)) : gb225 ≠ gb215)); replace BK215 := Aside0.mk (blk_below (g := gb215) (o := .cells #[.slice none 0 0, .int .i64 0] 25 (0, 0)) (zk BK215) hb); have NB0_225 := Aside0.mk ((by rw [hg]; exact Nat.ne_of_lt (IsS85.lt (show IsS85 w0 _ g s0_0 t223 from zi85 HI0)) : g ≠ gb225)); have NB225_0 := Aside0.mk ((by rw [hg]; exact Nat.ne_of_gt (IsS85.lt (show IsS85 w0 _ g s0_0 t223 from zi85 HI0)) : gb225 ≠ g)); replace HI0 := Aside0.mk (IsS85.below (zi85 HI0) hb); clear hb hbox hg; have hnb15 := NB225_215.out; have hnc15 := NB215_225.out; have hnb16 := NB225_0.out; have hnc16 := NB0_225.out; have hcz17_0 : w14.cell? ⟨gb225, 0, none⟩ = some (.slice none 0 0) := (blk_cell BK225.out 0).trans rfl; have hcz17_1 : w14.cell? ⟨gb225, 1, none⟩ = some (.int .i64 0) := (blk_cell BK225.out 1).trans rfl; have hfz17_0 := blk_frozen BK225.out 0; have hfz17_1 := blk_frozen BK225.out 1) | ((with_reducible refine gq 47 rfl ?_); refine gl (some 14) Try.func47 #[.pointer (some ⟨g, 0, none⟩), .int .i64 7] ?_; (with_reducible refine (spec_l6Rd_pick.calls k g s0_0 t223 7 t226 t227 w0 _ ?side1 ?side2 A5.out).mono ?_); (case side1 => exact zi85 HI0); (case side2 => exact zg85 HB); rintro e w18 ⟨rfl, hi, hb, hk⟩; refine ⟨_, rfl, ?_⟩; replace BK215 := Aside0.mk (KeepBut.blk hk (g' := gb215) (o := .cells #[.slice none 0 0, .int .i64 0] 25 (0, 0)) (by (with_reducible repeat (first | refine blk_drewN ?_ _ | refine blk_drew ?_ | refine blk_alloc ?_ _)); refine blk_far ?_ NB215_225.out _; (with_reducible repeat (first | refine blk_drewN ?_ _ | refine blk_drew ?_ | refine blk_alloc ?_ _)); refine blk_far ?_ NB215_225.out _; exact zk BK215) NB215_0.out (by simp)); replace HO218 := Aside0.mk (Kd.R_mono (Kd.R_keep (IsS85.apart (show IsS85 w0 _ g s0_0 t223 from zi85 HI0) (by (with_reducible repeat (first | apply Kd.R_alloc | apply Kd.R_drewN | apply Kd.R_drew)); exact (Kd.R_mono (Kd.R_far (p := ⟨gb225, 1, none⟩) (Kd.R_far (p := ⟨gb225, 0, none⟩) (Kd.R_types HO218.out BK225.out (by decide)) (fun _ hk => hk.2) (.slice Ao13 y216.length co13)) (fun _ hk => hk.2) (.int .i64 (rd y219 t222))) (fun _ h_ => h_.1))) (by decide)) hk (fun _ h => h.2)) (fun _ h => h.1)); replace HO221 := Aside0.mk (Kd.R_mono (Kd.R_keep (IsS85.apart (show IsS85 w0 _ g s0_0 t223 from zi85 HI0) (by (with_reducible repeat (first | apply Kd.R_alloc | apply Kd.R_drewN | apply Kd.R_drew)); exact (Kd.R_mono (Kd.R_far (p := ⟨gb225, 1, none⟩) (Kd.R_far (p := ⟨gb225, 0, none⟩) (Kd.R_types HO221.out BK225.out (by decide)) (fun _ hk => hk.2) (.slice Ao13 y216.length co13)) (fun _ hk => hk.2) (.int .i64 (rd y219 t222))) (fun _ h_ => h_.1))) (by decide)) hk (fun _ h => h.2)) (fun _ h => h.1)); replace BK225 := Aside0.mk (KeepBut.blk hk (g' := gb225) (o := .cells #[.slice Ao13 y216.length co13, .int .i64 (rd y219 t222)] 25 (0, 0)) (by (with_reducible repeat (first | refine blk_drewN ?_ _ | refine blk_drew ?_ | refine blk_alloc ?_ _)); refine blk_put (cs := #[.slice Ao13 y216.length co13, .int .i64 0]) ?_ 1 _ rfl; (with_reducible repeat (first | refine blk_drewN ?_ _ | refine blk_drew ?_ | refine blk_alloc ?_ _)); refine blk_put (cs := #[.slice none 0 0, .int .i64 0]) ?_ 0 _ rfl; exact zk BK225) NB225_0.out (by simp)); replace HK := Aside0.mk (KeepBut.trans (zh HK) hk (.inl rfl)); replace HB := Aside0.mk (hb); replace HI0 := Aside0.mk (hi); (try clear hb); (try clear hk); (try clear hi)))
   go_loopg [4] k (fun kq v4 w' => ∃ (x4_1 : Int) (x1001_1 : Int) (x226000_1 : List (S36)) (x226001_1 : Int) (u226000 : Value), v4 = .int .i64 x4_1 ∧ Aside0 (spec_l71Table.l0 kq x4_1 s0_0 x1001_1 x226000_1 x226001_1 = some (r1, r2, r3)) ∧ Aside0 (kq ≤ k) ∧ Aside0 (Kd.R k36 36 w' w.heap.size (fun _ => True) u226000 x226000_1) ∧ Aside0 (w'.heap[gb215]? = some (.cells #[(.slice none 0 0), .int .i64 0] 25 (0, 0))) ∧ Aside0 (w'.heap[gb225]? = some (.cells #[u226000, .int .i64 x226001_1] 25 (0, 0))) ∧ Aside0 (IsS85 w0 w' g s0_0 x1001_1) ∧ Aside0 (KeepBut w w' g none) ∧ Aside0 (Below w0.heap.size w0 w'))
   case atStart => exact ⟨(t226), (t227), (y216), (rd y219 t222), (.slice Ao13 y216.length co13), zs, H', ⟨Nat.le_refl _⟩, ⟨by exact zr HO218⟩, ⟨by exact zk BK215⟩, ⟨by exact zk BK225⟩, ⟨zi85 HI0⟩, ⟨zh HK⟩, ⟨zg85 HB⟩⟩
   case round =>
    clear H'
    try clear c1
    try clear p2
    try clear q2
    try clear hx2
    try clear c3
    try clear c3b0
    try clear c4
    try clear c4b0
    try clear c15
    try clear c16
    try clear hcz17_0
    try clear hcz17_1
    try clear hfz17_0
    try clear hfz17_1
    try clear hx224_0
    try clear p224
    try clear q224
    obtain ⟨x4_1, x1001_1, x226000_1, x226001_1, u226000, rfl, HA, HK1, HO_226000, BK215, BK225, HI0, HK, HB⟩ := hrel
    cases gk with
    | zero => exact absurd HA.out (by simp [spec_l71Table.l0])
    | succ k1 =>
     have H := HA.out
     clear HA
     simp only [spec_l71Table.l0] at H
     by_cases c19 : x4_1 > 0
     ·rw [if_pos c19] at H
      have c19b0 : decide (0 < x4_1) = true := decide_eq_true c19
      clear c19
      replace H := Option.bind_eq_some_iff.mp H
      obtain ⟨⟨t228, t229, t230, t231⟩, A200, H⟩ := H
      replace H : ((spec_FieldOk.f k1 t228 t229 t230).bind fun t233 => (if t233 = true then ((spec_l3Add.f k1 x226000_1 x226001_1 t228 t229 t230).bind fun bt234 => (spec_l71Table.l0 k1 (wrap64 (x4_1 - 1)) s0_0 t231 bt234.1 bt234.2)) else (spec_l71Table.l0 k1 (wrap64 (x4_1 - 1)) s0_0 t231 x226000_1 x226001_1))) = some (r1, r2, r3) := H
      have A20 := Aside0.mk A200
      clear A200
      replace H := Option.bind_eq_some_iff.mp H
      obtain ⟨t233, A210, H⟩ := H
      replace H : (if t233 = true then ((spec_l3Add.f k1 x226000_1 x226001_1 t228 t229 t230).bind fun bt234 => (spec_l71Table.l0 k1 (wrap64 (x4_1 - 1)) s0_0 t231 bt234.1 bt234.2)) else (spec_l71Table.l0 k1 (wrap64 (x4_1 - 1)) s0_0 t231 x226000_1 x226001_1)) = some (r1, r2, r3) := H
      have A21 := Aside0.mk A210
      clear A210
      have HC22 := Aside0.mk H
      clear H
      go_upto_if 22 with (first | ((with_reducible refine gq 58 rfl ?_); refine gl (some 20) Try.func58 #[.pointer (some ⟨g, 0, none⟩)] ?_; (with_reducible refine (spec_l71Field.calls k1 g s0_0 x1001_1 t228 t229 t230 t231 w0 _ ?side1 ?side2 A20.out).mono ?_); (case side1 => exact zi85 HI0); (case side2 => exact zg85 HB); rintro e w23 ⟨rfl, hi, hb, hk⟩; refine ⟨_, rfl, ?_⟩; replace HO_226000 := Aside0.mk (Kd.R_mono (Kd.R_keep (IsS85.apart (show IsS85 w0 _ g s0_0 x1001_1 from zi85 HI0) (zr HO_226000) (by decide)) hk (fun _ h => h.2)) (fun _ h => h.1)); replace BK215 := Aside0.mk (KeepBut.blk hk (g' := gb215) (o := .cells #[.slice none 0 0, .int .i64 0] 25 (0, 0)) (zk BK215) NB215_0.out (by simp)); replace BK225 := Aside0.mk (KeepBut.blk hk (g' := gb225) (o := .cells #[u226000, .int .i64 x226001_1] 25 (0, 0)) (zk BK225) NB225_0.out (by simp)); replace HK := Aside0.mk (KeepBut.trans (zh HK) hk (.inl rfl)); replace HB := Aside0.mk (hb); replace HI0 := Aside0.mk (hi); (try clear hb); (try clear hk); (try clear hi)) | ((with_reducible refine gd 5 rfl ?_); refine bx (N := 5) (cs := #[.string (⟨#[]⟩ : ByteArray), .string (⟨#[]⟩ : ByteArray), .bool false]) (t := 36) ?_; intro gb232 hg w24 hbox hb; replace HO_226000 := Aside0.mk (Kd.R_below (Kd.R_elderB (zr HO_226000) gb232 (Nat.le_of_eq hg.symm)) hb); replace HB := Aside0.mk (below_step (zg85 HB) hb); have BK232 := Aside0.mk (hbox); have GW232 := Aside0.mk ((by rw [hg]; exact (keep_size (w := w) (g := g) (row := none) (zh HK)) : w.heap.size ≤ gb232)); have GE232 := Aside0.mk ((Nat.le_trans HW0.out (by rw [hg]; exact (keep_size (w := w) (g := g) (row := none) (zh HK)) : w.heap.size ≤ gb232) : w0.heap.size ≤ gb232)); replace HK := Aside0.mk (KeepBut.trans (zh HK) (KeepBut.of_below hb g none) (.inl rfl)); have NB215_232 := Aside0.mk ((by rw [hg]; exact Nat.ne_of_lt (blk_lt (g := gb215) (o := .cells #[.slice none 0 0, .int .i64 0] 25 (0, 0)) (zk BK215)) : gb215 ≠ gb232)); have NB232_215 := Aside0.mk ((by rw [hg]; exact Nat.ne_of_gt (blk_lt (g := gb215) (o := .cells #[.slice none 0 0, .int .i64 0] 25 (0, 0)) (zk BK215)) : gb232 ≠ gb215)); replace BK215 := Aside0.mk (blk_below (g := gb215) (o := .cells #[.slice none 0 0, .int .i64 0] 25 (0, 0)) (zk BK215) hb); have NB225_232 := Aside0.mk ((by rw [hg]; exact Nat.ne_of_lt (blk_lt (g := gb225) (o := .cells #[u226000, .int .i64 x226001_1] 25 (0, 0)) (zk BK225)) : gb225 ≠ gb232)); have NB232_225 := Aside0.mk ((by rw [hg]; exact Nat.ne_of_gt (blk_lt (g := gb225) (o := .cells #[u226000, .int .i64 x226001_1] 25 (0, 0)) (zk BK225)) : gb232 ≠ gb225)); replace BK225 := Aside0.mk (blk_below (g := gb225) (o := .cells #[u226000, .int .i64 x226001_1] 25 (0, 0)) (zk BK225) hb); have NB0_232 := Aside0.mk ((by rw [hg]; exact Nat.ne_of_lt (IsS85.lt (show IsS85 w0 _ g s0_0 t231 from zi85 HI0)) : g ≠ gb232)); have NB232_0 := Aside0.mk ((by rw [hg]; exact Nat.ne_of_gt (IsS85.lt (show IsS85 w0 _ g s0_0 t231 from zi85 HI0)) : gb232 ≠ g)); replace HI0 := Aside0.mk (IsS85.below (zi85 HI0) hb); clear hb hbox hg; have hnb25 := NB232_215.out; have hnc25 := NB215_232.out; have hnb26 := NB232_225.out; have hnc26 := NB225_232.out; have hnb27 := NB232_0.out; have hnc27 := NB0_232.out; have hcz28_0 : w24.cell? ⟨gb232, 0, none⟩ = some (.string (⟨#[]⟩ : ByteArray)) := (blk_cell BK232.out 0).trans rfl; have hcz28_1 : w24.cell? ⟨gb232, 1, none⟩ = some (.string (⟨#[]⟩ : ByteArray)) := (blk_cell BK232.out 1).trans rfl; have hcz28_2 : w24.cell? ⟨gb232, 2, none⟩ = some (.bool false) := (blk_cell BK232.out 2).trans rfl; have hfz28_0 := blk_frozen BK232.out 0; have hfz28_1 := blk_frozen BK232.out 1; have hfz28_2 := blk_frozen BK232.out 2) | ((with_reducible refine gq 32 rfl ?_); refine gl (some 22) Try.func32 #[.agg #[.string t228, .string t229, .bool t230]] ?_; (with_reducible refine (spec_FieldOk.calls k1 t228 t229 t230 t233 _ A21.out).mono ?_); rintro e w29 ⟨rfl, hb⟩; refine ⟨_, rfl, ?_⟩; replace HO_226000 := Aside0.mk (Kd.R_below (by (with_reducible repeat (first | apply Kd.R_alloc | apply Kd.R_drewN | apply Kd.R_drew)); exact (Kd.R_mono (Kd.R_far (p := ⟨gb232, 2, none⟩) (Kd.R_far (p := ⟨gb232, 1, none⟩) (Kd.R_far (p := ⟨gb232, 0, none⟩) (Kd.R_mono HO_226000.out (fun k_ hk => (⟨hk, hk.2⟩ : _ ∧ k_ ≠ gb232))) (fun _ hk => hk.2) (.string t228)) (fun _ hk => hk.2) (.string t229)) (fun _ hk => hk.2) (.bool t230)) (fun _ h_ => h_.1))) hb); replace BK215 := Aside0.mk (blk_below (g := gb215) (o := .cells #[.slice none 0 0, .int .i64 0] 25 (0, 0)) (by (with_reducible repeat (first | refine blk_drewN ?_ _ | refine blk_drew ?_ | refine blk_alloc ?_ _)); refine blk_far ?_ NB215_232.out _; (with_reducible repeat (first | refine blk_drewN ?_ _ | refine blk_drew ?_ | refine blk_alloc ?_ _)); refine blk_far ?_ NB215_232.out _; (with_reducible repeat (first | refine blk_drewN ?_ _ | refine blk_drew ?_ | refine blk_alloc ?_ _)); refine blk_far ?_ NB215_232.out _; exact zk BK215) hb); replace BK225 := Aside0.mk (blk_below (g := gb225) (o := .cells #[u226000, .int .i64 x226001_1] 25 (0, 0)) (by (with_reducible repeat (first | refine blk_drewN ?_ _ | refine blk_drew ?_ | refine blk_alloc ?_ _)); refine blk_far ?_ NB225_232.out _; (with_reducible repeat (first | refine blk_drewN ?_ _ | refine blk_drew ?_ | refine blk_alloc ?_ _)); refine blk_far ?_ NB225_232.out _; (with_reducible repeat (first | refine blk_drewN ?_ _ | refine blk_drew ?_ | refine blk_alloc ?_ _)); refine blk_far ?_ NB225_232.out _; exact zk BK225) hb); replace HI0 := Aside0.mk (IsS85.below (show IsS85 w0 (((w24.setCell ⟨gb232, 0, none⟩ (.string t228)).setCell ⟨gb232, 1, none⟩ (.string t229)).setCell ⟨gb232, 2, none⟩ (.bool t230)) g s0_0 t231 from zi85 HI0) hb); replace BK232 := Aside0.mk (blk_below (g := gb232) (o := .cells #[.string t228, .string t229, .bool t230] 36 (0, 0)) (by (with_reducible repeat (first | refine blk_drewN ?_ _ | refine blk_drew ?_ | refine blk_alloc ?_ _)); refine blk_put (cs := #[.string t228, .string t229, .bool false]) ?_ 2 _ rfl; (with_reducible repeat (first | refine blk_drewN ?_ _ | refine blk_drew ?_ | refine blk_alloc ?_ _)); refine blk_put (cs := #[.string t228, .string (⟨#[]⟩ : ByteArray), .bool false]) ?_ 1 _ rfl; (with_reducible repeat (first | refine blk_drewN ?_ _ | refine blk_drew ?_ | refine blk_alloc ?_ _)); refine blk_put (cs := #[.string (⟨#[]⟩ : ByteArray), .string (⟨#[]⟩ : ByteArray), .bool false]) ?_ 0 _ rfl; exact zk BK232) hb); replace HK := Aside0.mk (KeepBut.trans (zh HK) (KeepBut.of_below hb g none) (.inl rfl)); replace HB := Aside0.mk (below_step (zg85 HB) hb); (try clear hb)))
      (try simp only [Act.put, s1, s2, s3])
      have H := HC22.out
      clear HC22
      by_cases c30 : t233 = true
      ·subst c30
       have H1 : ((spec_l3Add.f k1 x226000_1 x226001_1 t228 t229 t230).bind fun bt234 => (spec_l71Table.l0 k1 (wrap64 (x4_1 - 1)) s0_0 t231 bt234.1 bt234.2)) = some (r1, r2, r3) := by rw [if_pos rfl] at H; exact H
       clear H
       have H := H1
       clear H1
       replace H := Option.bind_eq_some_iff.mp H
       obtain ⟨⟨t234, t237⟩, A310, H⟩ := H
       replace H : (spec_l71Table.l0 k1 (wrap64 (x4_1 - 1)) s0_0 t231 t234 t237) = some (r1, r2, r3) := H
       have A31 := Aside0.mk A310
       clear A310
       have H' := Aside0.mk H
       clear H
       have hnb32 := NB225_215.out
       have hnc32 := NB215_225.out
       have hnb33 := NB225_232.out
       have hnc33 := NB232_225.out
       have hnb34 := NB225_0.out
       have hnc34 := NB0_225.out
       have hcz35_0 : w29.cell? ⟨gb225, 0, none⟩ = some (u226000) := (blk_cell BK225.out 0).trans rfl
       have hcz35_1 : w29.cell? ⟨gb225, 1, none⟩ = some (.int .i64 x226001_1) := (blk_cell BK225.out 1).trans rfl
       have hfz35_0 := blk_frozen BK225.out 0
       have hfz35_1 := blk_frozen BK225.out 1
       have hnb36 := NB232_215.out
       have hnc36 := NB215_232.out
       have hnb37 := NB232_0.out
       have hnc37 := NB0_232.out
       have hcz38_0 : w29.cell? ⟨gb232, 0, none⟩ = some (.string t228) := (blk_cell BK232.out 0).trans rfl
       have hcz38_1 : w29.cell? ⟨gb232, 1, none⟩ = some (.string t229) := (blk_cell BK232.out 1).trans rfl
       have hcz38_2 : w29.cell? ⟨gb232, 2, none⟩ = some (.bool t230) := (blk_cell BK232.out 2).trans rfl
       have hfz38_0 := blk_frozen BK232.out 0
       have hfz38_1 := blk_frozen BK232.out 1
       have hfz38_2 := blk_frozen BK232.out 2
       obtain ⟨Ao39, co39, eo39⟩ := Kd.R_slice HO_226000.out
       subst eo39
       go_wp2_with (first | ((with_reducible refine gq 60 rfl ?_); refine gl (some 25) Try.func60 #[.agg #[.slice Ao39 x226000_1.length co39, .int .i64 x226001_1], .agg #[.string t228, .string t229, .bool t230]] ?_; (with_reducible refine (spec_l3Add.calls k1 _ _ x226000_1 x226001_1 t228 t229 t230 t234 t237 _ ?side1 ?side2 A31.out).mono ?_); (case side1 => exact zc (Kd.R_reads' HO_226000.out).2.2); (case side2 => exact (Kd.R_reads' HO_226000.out).2.1); rintro e w40 ⟨v235, rfl, ho0, hb⟩; refine ⟨_, rfl, ?_⟩; have HO236 := Aside0.mk (Kd.R_lower (Kd.R_newB (Kd.R_new' ho0 (Kd.R_lt (zr HO_226000))) (g := gb232) (o := .cells #[.string t228, .string t229, .bool t230] 36 (0, 0)) (zk BK232)) (keep_size (w := w) (g := g) (row := none) (zh HK))); replace HO_226000 := Aside0.mk (Kd.R_elder' (zr HO_226000) (Kd.R_base ho0) hb); replace BK215 := Aside0.mk (blk_below (g := gb215) (o := .cells #[.slice none 0 0, .int .i64 0] 25 (0, 0)) (zk BK215) hb); replace BK225 := Aside0.mk (blk_below (g := gb225) (o := .cells #[.slice Ao39 x226000_1.length co39, .int .i64 x226001_1] 25 (0, 0)) (zk BK225) hb); replace HI0 := Aside0.mk (IsS85.below (zi85 HI0) hb); replace BK232 := Aside0.mk (blk_below (g := gb232) (o := .cells #[.string t228, .string t229, .bool t230] 36 (0, 0)) (zk BK232) hb); replace HK := Aside0.mk (KeepBut.trans (zh HK) (KeepBut.of_below hb g none) (.inl rfl)); replace HB := Aside0.mk (below_step (zg85 HB) hb); (try clear hb); (try clear ho0); obtain ⟨Ao41, co41, eo41⟩ := Kd.R_slice HO236.out; subst eo41; have hcz42_0 : w40.cell? ⟨gb225, 0, none⟩ = some (.slice Ao39 x226000_1.length co39) := (blk_cell BK225.out 0).trans rfl; have hcz42_1 : w40.cell? ⟨gb225, 1, none⟩ = some (.int .i64 x226001_1) := (blk_cell BK225.out 1).trans rfl; have hfz42_0 := blk_frozen BK225.out 0; have hfz42_1 := blk_frozen BK225.out 1))
       go_roundg k1
       case measure => have := HK1.out; omega
       case rel => exact ⟨(wrap64 (x4_1 - 1)), (t231), (t234), (t237), (.slice Ao41 t234.length co41), zs, H', ⟨by have := HK1.out; omega⟩, ⟨by (with_reducible repeat (first | apply Kd.R_alloc | apply Kd.R_drewN | apply Kd.R_drew)); exact Kd.R_mono (Kd.R_far (p := ⟨gb225, 1, none⟩) (Kd.R_far (p := ⟨gb225, 0, none⟩) (Kd.R_types HO236.out BK225.out (by decide)) (fun _ hk => hk.2) (.slice Ao41 t234.length co41)) (fun _ hk => hk.2) (.int .i64 t237)) (fun _ hk => trivial)⟩, ⟨by (with_reducible repeat (first | refine blk_drewN ?_ _ | refine blk_drew ?_ | refine blk_alloc ?_ _)); refine blk_far ?_ NB215_225.out _; (with_reducible repeat (first | refine blk_drewN ?_ _ | refine blk_drew ?_ | refine blk_alloc ?_ _)); refine blk_far ?_ NB215_225.out _; exact zk BK215⟩, ⟨by (with_reducible repeat (first | refine blk_drewN ?_ _ | refine blk_drew ?_ | refine blk_alloc ?_ _)); refine blk_put (cs := #[.slice Ao41 t234.length co41, .int .i64 x226001_1]) ?_ 1 _ rfl; (with_reducible repeat (first | refine blk_drewN ?_ _ | refine blk_drew ?_ | refine blk_alloc ?_ _)); refine blk_put (cs := #[.slice Ao39 x226000_1.length co39, .int .i64 x226001_1]) ?_ 0 _ rfl; exact zk BK225⟩, ⟨zi85 HI0⟩, ⟨zh HK⟩, ⟨zg85 HB⟩⟩
      ·replace c30 := Bool.eq_false_iff.mpr c30
       subst c30
       have H1 : (spec_l71Table.l0 k1 (wrap64 (x4_1 - 1)) s0_0 t231 x226000_1 x226001_1) = some (r1, r2, r3) := by rw [if_neg (show ¬ (false = true) by decide)] at H; exact H
       clear H
       have H := H1
       clear H1
       have H' := Aside0.mk H
       clear H
       go_wp2
       go_roundg k1
       case measure => have := HK1.out; omega
       case rel => exact ⟨(wrap64 (x4_1 - 1)), (t231), (x226000_1), (x226001_1), (u226000), zs, H', ⟨by have := HK1.out; omega⟩, ⟨by (with_reducible repeat (first | apply Kd.R_alloc | apply Kd.R_drewN | apply Kd.R_drew)); exact Kd.R_mono HO_226000.out (fun _ hk => trivial)⟩, ⟨by exact zk BK215⟩, ⟨by exact zk BK225⟩, ⟨zi85 HI0⟩, ⟨zh HK⟩, ⟨zg85 HB⟩⟩
     ·rw [if_neg c19] at H
      have c19b0 : decide (0 < x4_1) = false := decide_eq_false c19
      clear c19
      replace H := Option.bind_eq_some_iff.mp H
      obtain ⟨⟨t238, t239⟩, A430, H⟩ := H
      replace H : (if t238 = 0 then ((some (([(-1), 65, 3] : List Int) : List Int)).bind fun y240 => ((spec_l6Rd_pick.f k1 s0_0 t239 3).bind fun bt243 => (if 0 ≤ bt243.1 then (if bt243.1 < (y240.length : Int) then (some (x226000_1, rd y240 bt243.1, bt243.2)) else (none)) else (none)))) else (if t238 = 1 then ((spec_l71Field.f k1 s0_0 t239).bind fun bt246 => ((spec_l71Field.f k1 s0_0 bt246.2.2.2).bind fun bt250 => ((spec_l71Field.f k1 s0_0 bt250.2.2.2).bind fun bt254 => ((some (([(⟨bt246.1, bt246.2.1, bt246.2.2.1⟩ : S36), (⟨bt250.1, bt250.2.1, bt250.2.2.1⟩ : S36), (⟨bt254.1, bt254.2.1, bt254.2.2.1⟩ : S36)] : List (S36)) : List (S36))).bind fun y258 => (if x226000_1.length + y258.length < 3518437208883 then (some ((x226000_1 ++ y258), x226001_1, bt254.2.2.2)) else (none)))))) else (some (x226000_1, x226001_1, t239)))) = some (r1, r2, r3) := H
      have A43 := Aside0.mk A430
      clear A430
      by_cases c44 : t238 = 0
      ·rw [if_pos c44] at H
       have c44b0 : (t238 == 0) = true := beq_iff_eq.mpr c44
       have c44b1 : (t238 != 0) = false := bne_eq_false_iff_eq.mpr c44
       clear c44
       obtain ⟨y240, hy240⟩ : ∃ y_ : List Int, y_ = (([(-1), 65, 3] : List Int)) := ⟨_, rfl⟩
       replace H : ((spec_l6Rd_pick.f k1 s0_0 t239 3).bind fun bt243 => (if 0 ≤ bt243.1 then (if bt243.1 < (y240.length : Int) then (some (x226000_1, rd y240 bt243.1, bt243.2)) else (none)) else (none))) = some (r1, r2, r3) := by first | (rw [hy240]; with_reducible exact H) | (have H2_ := (Option.bind_some _ _).symm.trans H; rw [hy240]; with_reducible exact H2_) | (have H2_ := (Option.bind_some _ _).symm.trans H; with_reducible exact H2_) | with_reducible exact H | (rw [hy240]; exact H) | exact H
       have Ny240 := Aside0.mk hy240
       clear hy240
       replace H := Option.bind_eq_some_iff.mp H
       obtain ⟨⟨t243, t244⟩, A450, H⟩ := H
       replace H : (if 0 ≤ t243 then (if t243 < (y240.length : Int) then (some (x226000_1, rd y240 t243, t244)) else (none)) else (none)) = some (r1, r2, r3) := H
       have A45 := Aside0.mk A450
       clear A450
       by_cases c46 : 0 ≤ t243
       ·rw [if_pos c46] at H
        have c46b0 : decide (0 ≤ t243) = true := decide_eq_true c46
        clear c46
        by_cases c47 : t243 < (y240.length : Int)
        ·rw [if_pos c47] at H
         have c47b0 : decide (t243 < (y240.length : Int)) = true := decide_eq_true c47
         clear c47
         simp only [Option.some.injEq, Prod.mk.injEq] at H
         obtain ⟨rfl, rfl, rfl⟩ := H
         go_wp2_with (first | ((with_reducible refine gq 47 rfl ?_); refine gl (some 27) Try.func47 #[.pointer (some ⟨g, 0, none⟩), .int .i64 24] ?_; (with_reducible refine (spec_l6Rd_pick.calls k1 g s0_0 x1001_1 24 t238 t239 w0 _ ?side1 ?side2 A43.out).mono ?_); (case side1 => exact zi85 HI0); (case side2 => exact zg85 HB); rintro e w48 ⟨rfl, hi, hb, hk⟩; refine ⟨_, rfl, ?_⟩; replace HO_226000 := Aside0.mk (Kd.R_mono (Kd.R_keep (IsS85.apart (show IsS85 w0 _ g s0_0 x1001_1 from zi85 HI0) (zr HO_226000) (by decide)) hk (fun _ h => h.2)) (fun _ h => h.1)); replace BK215 := Aside0.mk (KeepBut.blk hk (g' := gb215) (o := .cells #[.slice none 0 0, .int .i64 0] 25 (0, 0)) (zk BK215) NB215_0.out (by simp)); replace BK225 := Aside0.mk (KeepBut.blk hk (g' := gb225) (o := .cells #[u226000, .int .i64 x226001_1] 25 (0, 0)) (zk BK225) NB225_0.out (by simp)); replace HK := Aside0.mk (KeepBut.trans (zh HK) hk (.inl rfl)); replace HB := Aside0.mk (hb); replace HI0 := Aside0.mk (hi); (try clear hb); (try clear hk); (try clear hi)) | ((with_reducible refine gd 30 rfl ?_); refine Kd.R_lit (Kd.int .i64) _ 3 ?hg (N := 30) ?hd (xs := ([(-1), 65, 3] : List Int)) (inner := [.int .i64 (-1), .int .i64 65, .int .i64 3]) (ok := fun _ => True) (okp := fun _ => True) ?hr ?hp (fun _ hk => hk) trivial (Below.refl _ _) (Nat.le_refl _) (by simp) ?_; (case hd => rfl); (case hg => rfl); (case hr => first | (go_simp; done) | (go_simp; rfl)); (case hp => exact (Reps.one (show Kd.M (Kd.int .i64) _ _ _ (-1) [.int .i64 (-1)] from rfl) (Reps.one (show Kd.M (Kd.int .i64) _ _ _ 65 [.int .i64 65] from rfl) (Reps.one (show Kd.M (Kd.int .i64) _ _ _ 3 [.int .i64 3] from rfl) (Reps.none _ _))))); intro v241 w49 ho50 hb hg_ hnew_; clear hg_ hnew_; (first | rw [← Ny240.out] at ho50 | (simp only [Int.reduceToNat] at ho50; rw [← Ny240.out] at ho50)); replace HO_226000 := Aside0.mk (Kd.R_below (zr HO_226000) hb); have HO242 := Aside0.mk (Kd.R_lower ho50 (keep_size (w := w) (g := g) (row := none) (zh HK))); replace BK215 := Aside0.mk (blk_below (g := gb215) (o := .cells #[.slice none 0 0, .int .i64 0] 25 (0, 0)) (zk BK215) hb); replace BK225 := Aside0.mk (blk_below (g := gb225) (o := .cells #[u226000, .int .i64 x226001_1] 25 (0, 0)) (zk BK225) hb); replace HI0 := Aside0.mk (IsS85.below (zi85 HI0) hb); replace HK := Aside0.mk (KeepBut.trans (zh HK) (KeepBut.of_below hb g none) (.inl rfl)); replace HB := Aside0.mk (below_step (zg85 HB) hb); clear hb ho50) | ((with_reducible refine gq 47 rfl ?_); refine gl (some 32) Try.func47 #[.pointer (some ⟨g, 0, none⟩), .int .i64 3] ?_; (with_reducible refine (spec_l6Rd_pick.calls k1 g s0_0 t239 3 t243 t244 w0 _ ?side1 ?side2 A45.out).mono ?_); (case side1 => exact zi85 HI0); (case side2 => exact zg85 HB); rintro e w51 ⟨rfl, hi, hb, hk⟩; refine ⟨_, rfl, ?_⟩; replace HO_226000 := Aside0.mk (Kd.R_mono (Kd.R_keep (IsS85.apart (show IsS85 w0 _ g s0_0 t239 from zi85 HI0) (zr HO_226000) (by decide)) hk (fun _ h => h.2)) (fun _ h => h.1)); replace BK215 := Aside0.mk (KeepBut.blk hk (g' := gb215) (o := .cells #[.slice none 0 0, .int .i64 0] 25 (0, 0)) (zk BK215) NB215_0.out (by simp)); replace BK225 := Aside0.mk (KeepBut.blk hk (g' := gb225) (o := .cells #[u226000, .int .i64 x226001_1] 25 (0, 0)) (zk BK225) NB225_0.out (by simp)); replace HO242 := Aside0.mk (Kd.R_mono (Kd.R_keep (IsS85.apart (show IsS85 w0 _ g s0_0 t239 from zi85 HI0) (zr HO242) (by decide)) hk (fun _ h => h.2)) (fun _ h => h.1)); replace HK := Aside0.mk (KeepBut.trans (zh HK) hk (.inl rfl)); replace HB := Aside0.mk (hb); replace HI0 := Aside0.mk (hi); (try clear hb); (try clear hk); (try clear hi); obtain ⟨Ao52, co52, eo52⟩ := Kd.R_slice HO242.out; subst eo52; have p245 : 0 ≤ (t243 : Int) := of_decide_eq_true za; have q245 : t243 < (y240.length : Int) := of_decide_eq_true za; obtain ⟨ad245, e245, hx245_0⟩ := Kd.at_int (Kd.R_reads' HO242.out).2.2 t243 p245 q245; cases e245; replace p245 := eq_true p245; replace q245 := eq_true q245; have hnb53 := NB225_215.out; have hnc53 := NB215_225.out; have hnb54 := NB225_0.out; have hnc54 := NB0_225.out; have hcz55_0 : w51.cell? ⟨gb225, 0, none⟩ = some (u226000) := (blk_cell BK225.out 0).trans rfl; have hcz55_1 : w51.cell? ⟨gb225, 1, none⟩ = some (.int .i64 x226001_1) := (blk_cell BK225.out 1).trans rfl; have hfz55_0 := blk_frozen BK225.out 0; have hfz55_1 := blk_frozen BK225.out 1; obtain ⟨Ao56, co56, eo56⟩ := Kd.R_slice HO_226000.out; subst eo56; have hnb57 := NB215_0.out; have hnc57 := NB0_215.out; have hcz58_0 : w51.cell? ⟨gb215, 0, none⟩ = some (.slice none 0 0) := (blk_cell BK215.out 0).trans rfl; have hcz58_1 : w51.cell? ⟨gb215, 1, none⟩ = some (.int .i64 0) := (blk_cell BK215.out 1).trans rfl; have hfz58_0 := blk_frozen BK215.out 0; have hfz58_1 := blk_frozen BK215.out 1))
         refine bodyPost_ret (results_cell_row rfl _ _ gb215 25 #[.slice Ao56 x226000_1.length co56, .int .i64 (rd y240 t243)] (0, 0) _ rfl (by (with_reducible repeat (first | refine blk_drewN ?_ _ | refine blk_drew ?_ | refine blk_alloc ?_ _)); refine blk_put (cs := #[.slice Ao56 x226000_1.length co56, .int .i64 0]) ?_ 1 _ rfl; (with_reducible repeat (first | refine blk_drewN ?_ _ | refine blk_drew ?_ | refine blk_alloc ?_ _)); refine blk_put (cs := #[.slice none 0 0, .int .i64 0]) ?_ 0 _ rfl; (with_reducible repeat (first | refine blk_drewN ?_ _ | refine blk_drew ?_ | refine blk_alloc ?_ _)); refine blk_far ?_ NB215_225.out _; exact zk BK215) Try.underlying25 rfl (by kernel_rfl)) rfl ?_
         exact ⟨_, ze, by (with_reducible repeat (first | apply Kd.R_alloc | apply Kd.R_drewN | apply Kd.R_drew)); exact Kd.R_mono (Kd.R_far (p := ⟨gb215, 1, none⟩) (Kd.R_far (p := ⟨gb215, 0, none⟩) (Kd.R_far (p := ⟨gb225, 1, none⟩) (Kd.R_types (Kd.R_types HO_226000.out BK225.out (by decide)) BK215.out (by decide)) (fun _ hk => hk.1.2) (.int .i64 (rd y240 t243))) (fun _ hk => hk.2) (.slice Ao56 x226000_1.length co56)) (fun _ hk => hk.2) (.int .i64 (rd y240 t243))) (fun _ hk => trivial), zi85 HI0, zg85 HB, zh HK⟩
        ·rw [if_neg c47] at H
         exact absurd H (by simp)
       ·rw [if_neg c46] at H
        exact absurd H (by simp)
      ·rw [if_neg c44] at H
       have c44b0 : (t238 == 0) = false := beq_eq_false_iff_ne.mpr c44
       have c44b1 : (t238 != 0) = true := bne_iff_ne.mpr c44
       by_cases c59 : t238 = 1
       ·rw [if_pos c59] at H
        have c59b0 : (t238 == 1) = true := beq_iff_eq.mpr c59
        have c59b1 : (t238 != 1) = false := bne_eq_false_iff_eq.mpr c59
        clear c59
        replace H := Option.bind_eq_some_iff.mp H
        obtain ⟨⟨t246, t247, t248, t249⟩, A600, H⟩ := H
        replace H : ((spec_l71Field.f k1 s0_0 t249).bind fun bt250 => ((spec_l71Field.f k1 s0_0 bt250.2.2.2).bind fun bt254 => ((some (([(⟨t246, t247, t248⟩ : S36), (⟨bt250.1, bt250.2.1, bt250.2.2.1⟩ : S36), (⟨bt254.1, bt254.2.1, bt254.2.2.1⟩ : S36)] : List (S36)) : List (S36))).bind fun y258 => (if x226000_1.length + y258.length < 3518437208883 then (some ((x226000_1 ++ y258), x226001_1, bt254.2.2.2)) else (none))))) = some (r1, r2, r3) := H
        have A60 := Aside0.mk A600
        clear A600
        replace H := Option.bind_eq_some_iff.mp H
        obtain ⟨⟨t250, t251, t252, t253⟩, A610, H⟩ := H
        replace H : ((spec_l71Field.f k1 s0_0 t253).bind fun bt254 => ((some (([(⟨t246, t247, t248⟩ : S36), (⟨t250, t251, t252⟩ : S36), (⟨bt254.1, bt254.2.1, bt254.2.2.1⟩ : S36)] : List (S36)) : List (S36))).bind fun y258 => (if x226000_1.length + y258.length < 3518437208883 then (some ((x226000_1 ++ y258), x226001_1, bt254.2.2.2)) else (none)))) = some (r1, r2, r3) := H
        have A61 := Aside0.mk A610
        clear A610
        replace H := Option.bind_eq_some_iff.mp H
        obtain ⟨⟨t254, t255, t256, t257⟩, A620, H⟩ := H
        replace H : ((some (([(⟨t246, t247, t248⟩ : S36), (⟨t250, t251, t252⟩ : S36), (⟨t254, t255, t256⟩ : S36)] : List (S36)) : List (S36))).bind fun y258 => (if x226000_1.length + y258.length < 3518437208883 then (some ((x226000_1 ++ y258), x226001_1, t257)) else (none))) = some (r1, r2, r3) := H
        have A62 := Aside0.mk A620
        clear A620
        obtain ⟨y258, hy258⟩ : ∃ y_ : List (S36), y_ = (([(⟨t246, t247, t248⟩ : S36), (⟨t250, t251, t252⟩ : S36), (⟨t254, t255, t256⟩ : S36)] : List (S36))) := ⟨_, rfl⟩
        replace H : (if x226000_1.length + y258.length < 3518437208883 then (some ((x226000_1 ++ y258), x226001_1, t257)) else (none)) = some (r1, r2, r3) := by first | (rw [hy258]; with_reducible exact H) | (have H2_ := (Option.bind_some _ _).symm.trans H; rw [hy258]; with_reducible exact H2_) | (have H2_ := (Option.bind_some _ _).symm.trans H; with_reducible exact H2_) | with_reducible exact H | (rw [hy258]; exact H) | exact H
        have Ny258 := Aside0.mk hy258
        clear hy258
        by_cases c63 : x226000_1.length + y258.length < 3518437208883
        ·rw [if_pos c63] at H
         have LMc63 := Aside0.mk c63
         clear c63
         obtain ⟨y261, hy261⟩ : ∃ y_ : List (S36), y_ = (x226000_1 ++ y258) := ⟨_, rfl⟩
         replace H : (some (y261, x226001_1, t257)) = some (r1, r2, r3) := by first | (rw [hy261]; with_reducible exact H) | (have H2_ := (Option.bind_some _ _).symm.trans H; rw [hy261]; with_reducible exact H2_) | (have H2_ := (Option.bind_some _ _).symm.trans H; with_reducible exact H2_) | with_reducible exact H | (rw [hy261]; exact H) | exact H
         have Ny261 := Aside0.mk hy261
         clear hy261
         simp only [Option.some.injEq, Prod.mk.injEq] at H
         obtain ⟨rfl, rfl, rfl⟩ := H
         try go_wp2_with (first | ((with_reducible refine gq 47 rfl ?_); refine gl (some 27) Try.func47 #[.pointer (some ⟨g, 0, none⟩), .int .i64 24] ?_; (with_reducible refine (spec_l6Rd_pick.calls k1 g s0_0 x1001_1 24 t238 t239 w0 _ ?side1 ?side2 A43.out).mono ?_); (case side1 => exact zi85 HI0); (case side2 => exact zg85 HB); rintro e w64 ⟨rfl, hi, hb, hk⟩; refine ⟨_, rfl, ?_⟩; replace HO_226000 := Aside0.mk (Kd.R_mono (Kd.R_keep (IsS85.apart (show IsS85 w0 _ g s0_0 x1001_1 from zi85 HI0) (zr HO_226000) (by decide)) hk (fun _ h => h.2)) (fun _ h => h.1)); replace BK215 := Aside0.mk (KeepBut.blk hk (g' := gb215) (o := .cells #[.slice none 0 0, .int .i64 0] 25 (0, 0)) (zk BK215) NB215_0.out (by simp)); replace BK225 := Aside0.mk (KeepBut.blk hk (g' := gb225) (o := .cells #[u226000, .int .i64 x226001_1] 25 (0, 0)) (zk BK225) NB225_0.out (by simp)); replace HK := Aside0.mk (KeepBut.trans (zh HK) hk (.inl rfl)); replace HB := Aside0.mk (hb); replace HI0 := Aside0.mk (hi); (try clear hb); (try clear hk); (try clear hi)))
         replace HO_226000 := Aside0.mk (Kd.R_drew HO_226000.out)
         replace BK215 := Aside0.mk (blk_drew BK215.out)
         replace BK225 := Aside0.mk (blk_drew BK225.out)
         replace HI0 := Aside0.mk (IsS85.drew HI0.out)
         replace HK := Aside0.mk (keep_drew HK.out)
         replace HB := Aside0.mk (below_drew1 HB.out)
         refine start_ (n := 12) (S := fun w' => w'.cell? ⟨gb225, 0, none⟩ = some (u226000) ∧ w'.cell? ⟨gb225, 1, none⟩ = some (.int .i64 x226001_1)) (ds := [11]) #[false, false, false, false, false, false, false, false, false, false, false, false] (by kernel_rfl) rfl rfl ⟨(blk_cell BK225.out 0).trans rfl, (blk_cell BK225.out 1).trans rfl⟩ (fun hHeld => ?_); refine with_tabW spec_l71Table.tab12 spec_l71Table.bits12 (fun HT_ HW_ => ?_)
         generalize w64.drew = w65 at HO_226000 BK215 BK225 HI0 HK HB hHeld ⊢
         refine pu 0 (some 38) (bm 12 1) rfl rfl ?_
         refine pu 2 (some 40) (bm 12 5) rfl rfl ?_
         refine pu 4 (some 42) (bm 12 21) rfl rfl ?_
         refine pu 6 (some 44) (bm 12 85) rfl rfl ?_
         refine tk2 1 (some 39) (bm 12 87) rfl rfl hHeld ?_
         refine one_ (i := 3) (N := some 41) (bm 12 95) rfl rfl (one_of HT_.out (by kernel_rfl)) (by decide) (fun K hK => ?_)
         refine gs Try.func58 #[.pointer (some ⟨g, 0, none⟩)] ?_
         with_reducible refine (spec_l71Field.calls k1 g s0_0 t239 t246 t247 t248 t249 w0 _ ?side1 ?side2 A60.out).mono ?_
         (case side1 => exact zi85 HI0)
         (case side2 => exact zg85 HB)
         rintro e w66 ⟨rfl, hi, hb, hk⟩
         refine ⟨_, rfl, ?_⟩
         replace HO_226000 := Aside0.mk (Kd.R_mono (Kd.R_keep (IsS85.apart (show IsS85 w0 _ g s0_0 t239 from zi85 HI0) (zr HO_226000) (by decide)) hk (fun _ h => h.2)) (fun _ h => h.1))
         replace BK215 := Aside0.mk (KeepBut.blk hk (g' := gb215) (o := .cells #[.slice none 0 0, .int .i64 0] 25 (0, 0)) (zk BK215) NB215_0.out (by simp))
         replace BK225 := Aside0.mk (KeepBut.blk hk (g' := gb225) (o := .cells #[u226000, .int .i64 x226001_1] 25 (0, 0)) (zk BK225) NB225_0.out (by simp))
         replace HK := Aside0.mk (KeepBut.trans (zh HK) hk (.inl rfl))
         replace HB := Aside0.mk (hb)
         replace HI0 := Aside0.mk (hi)
         (try clear hb)
         (try clear hk)
         (try clear hi)
         refine hK.out _ _ ⟨(blk_cell BK225.out 0).trans rfl, (blk_cell BK225.out 1).trans rfl⟩ (fun hHeld => ?_)
         clear hK K
         refine nm ?_
         refine one_ (i := 5) (N := some 43) (bm 12 127) rfl rfl (one_of HT_.out (by kernel_rfl)) (by decide) (fun K hK => ?_)
         refine gs Try.func58 #[.pointer (some ⟨g, 0, none⟩)] ?_
         with_reducible refine (spec_l71Field.calls k1 g s0_0 t249 t250 t251 t252 t253 w0 _ ?side1 ?side2 A61.out).mono ?_
         (case side1 => exact zi85 HI0)
         (case side2 => exact zg85 HB)
         rintro e w67 ⟨rfl, hi, hb, hk⟩
         refine ⟨_, rfl, ?_⟩
         replace HO_226000 := Aside0.mk (Kd.R_mono (Kd.R_keep (IsS85.apart (show IsS85 w0 _ g s0_0 t249 from zi85 HI0) (zr HO_226000) (by decide)) hk (fun _ h => h.2)) (fun _ h => h.1))
         replace BK215 := Aside0.mk (KeepBut.blk hk (g' := gb215) (o := .cells #[.slice none 0 0, .int .i64 0] 25 (0, 0)) (zk BK215) NB215_0.out (by simp))
         replace BK225 := Aside0.mk (KeepBut.blk hk (g' := gb225) (o := .cells #[u226000, .int .i64 x226001_1] 25 (0, 0)) (zk BK225) NB225_0.out (by simp))
         replace HK := Aside0.mk (KeepBut.trans (zh HK) hk (.inl rfl))
         replace HB := Aside0.mk (hb)
         replace HI0 := Aside0.mk (hi)
         (try clear hb)
         (try clear hk)
         (try clear hi)
         refine hK.out _ _ ⟨(blk_cell BK225.out 0).trans rfl, (blk_cell BK225.out 1).trans rfl⟩ (fun hHeld => ?_)
         clear hK K
         refine nm ?_
         refine one_ (i := 7) (N := some 45) (bm 12 255) rfl rfl (one_of HT_.out (by kernel_rfl)) (by decide) (fun K hK => ?_)
         refine gs Try.func58 #[.pointer (some ⟨g, 0, none⟩)] ?_
         with_reducible refine (spec_l71Field.calls k1 g s0_0 t253 t254 t255 t256 t257 w0 _ ?side1 ?side2 A62.out).mono ?_
         (case side1 => exact zi85 HI0)
         (case side2 => exact zg85 HB)
         rintro e w68 ⟨rfl, hi, hb, hk⟩
         refine ⟨_, rfl, ?_⟩
         replace HO_226000 := Aside0.mk (Kd.R_mono (Kd.R_keep (IsS85.apart (show IsS85 w0 _ g s0_0 t253 from zi85 HI0) (zr HO_226000) (by decide)) hk (fun _ h => h.2)) (fun _ h => h.1))
         replace BK215 := Aside0.mk (KeepBut.blk hk (g' := gb215) (o := .cells #[.slice none 0 0, .int .i64 0] 25 (0, 0)) (zk BK215) NB215_0.out (by simp))
         replace BK225 := Aside0.mk (KeepBut.blk hk (g' := gb225) (o := .cells #[u226000, .int .i64 x226001_1] 25 (0, 0)) (zk BK225) NB225_0.out (by simp))
         replace HK := Aside0.mk (KeepBut.trans (zh HK) hk (.inl rfl))
         replace HB := Aside0.mk (hb)
         replace HI0 := Aside0.mk (hi)
         (try clear hb)
         (try clear hk)
         (try clear hi)
         refine hK.out _ _ ⟨(blk_cell BK225.out 0).trans rfl, (blk_cell BK225.out 1).trans rfl⟩ (fun hHeld => ?_)
         clear hK K
         refine nm ?_
         refine one_ (i := 8) (N := some 46) (bm 12 511) rfl rfl (one_of HT_.out (by kernel_rfl)) (by decide) (fun K hK => ?_)
         refine Kd.R_lit_step k36 _ 36 ?hg (N := 46) ?hd (xs := ([(⟨t246, t247, t248⟩ : S36), (⟨t250, t251, t252⟩ : S36), (⟨t254, t255, t256⟩ : S36)] : List (S36))) (inner := [.string t246, .string t247, .bool t248, .string t250, .string t251, .bool t252, .string t254, .string t255, .bool t256]) (ok := fun _ => True) (okp := fun _ => True) ?hr ?hp (fun _ hk => hk) trivial (Below.refl _ _) (Nat.le_refl _) (by simp) ?_; (case hd => rfl); (case hg => rfl); (case hr => first | (go_simp; done) | (go_simp; rfl)); (case hp => exact (Reps.c3 (show Kd.M k36 _ _ _ (⟨t246, t247, t248⟩ : S36) [.string t246, .string t247, .bool t248] from (k36_mkM _ _ _ (⟨t246, t247, t248⟩ : S36) )) (Reps.c3 (show Kd.M k36 _ _ _ (⟨t250, t251, t252⟩ : S36) [.string t250, .string t251, .bool t252] from (k36_mkM _ _ _ (⟨t250, t251, t252⟩ : S36) )) (Reps.c3 (show Kd.M k36 _ _ _ (⟨t254, t255, t256⟩ : S36) [.string t254, .string t255, .bool t256] from (k36_mkM _ _ _ (⟨t254, t255, t256⟩ : S36) )) (Reps.none _ _)))))
         intro v259 w69 ho70 hb hg_ hnew_
         clear hg_ hnew_
         (first | rw [← Ny258.out] at ho70 | (simp only [Int.reduceToNat] at ho70; rw [← Ny258.out] at ho70))
         have HO260 := Aside0.mk (Kd.R_lower (Kd.R_new' ho70 (Kd.R_lt (zr HO_226000))) (keep_size (w := w) (g := g) (row := none) (zh HK)))
         replace HO_226000 := Aside0.mk (Kd.R_elder' (zr HO_226000) (Kd.R_base ho70) hb)
         replace BK215 := Aside0.mk (blk_below (g := gb215) (o := .cells #[.slice none 0 0, .int .i64 0] 25 (0, 0)) (zk BK215) hb)
         replace BK225 := Aside0.mk (blk_below (g := gb225) (o := .cells #[u226000, .int .i64 x226001_1] 25 (0, 0)) (zk BK225) hb)
         replace HI0 := Aside0.mk (IsS85.below (zi85 HI0) hb)
         replace HK := Aside0.mk (KeepBut.trans (zh HK) (KeepBut.of_below hb g none) (.inl rfl))
         replace HB := Aside0.mk (below_step (zg85 HB) hb)
         clear hb ho70
         obtain ⟨Ao72, co72, eo72⟩ := Kd.R_slice HO260.out
         (first | subst eo72 | (injection eo72 with f1_ f2_ f3_; have f4_ := f1_.symm; have f5_ := f3_.symm; clear f1_ f2_ f3_; subst f4_; subst f5_))
         refine hK.out _ _ ⟨(blk_cell BK225.out 0).trans rfl, (blk_cell BK225.out 1).trans rfl⟩ (fun hHeld => ?_)
         clear hK K
         refine nm ?_
         refine one_ (i := 9) (N := some 47) (bm 12 1023) rfl rfl (one_of HT_.out (by kernel_rfl)) (by decide) (fun K hK => ?_)
         refine Kd.R_append_rows_step k36 w.heap.size (by rfl) (.tmp 39) (.tmp 46) 23 36 (.agg #[(.string ⟨#[]⟩), (.string ⟨#[]⟩), (.bool false)]) 40 rfl Try.underlying23 info36 rfl (by decide) (by omega) u226000 x226000_1 y258 _ _ _ (fun k_ => some k_ ≠ (.slice Ao72 y258.length co72 : Value).ownBlock) (fun _ => False) rfl rfl ?aO ?aR (fun _ _ h => h) (fun _ h => h.elim) ?aF (Below.refl _ _) ?aS ?aL ?_
         (case aR => exact zc (Kd.R_reads' HO260.out).2.2)
         (case aF => exact (fun k_ hk => Kd.fresh' (Kd.R_lt (zr HO260)) k_ hk))
         (case aO => exact (by (with_reducible repeat (first | apply Kd.R_alloc | apply Kd.R_drewN | apply Kd.R_drew)); exact Kd.R_mono HO_226000.out (fun _ hk => hk.2)))
         (case aS => exact (keep_size (w := w) (g := g) (row := none) (zh HK)))
         (case aL => have := LMc63.out; omega)
         intro v262 w71 ho hb hg hat
         rw [← Ny261.out] at ho
         replace BK215 := Aside0.mk (blk_grown (g := gb215) (o := .cells #[.slice none 0 0, .int .i64 0] 25 (0, 0)) (zk BK215) hg (Kd.R_ne HO_226000.out BK215.out (by decide)))
         replace BK225 := Aside0.mk (blk_grown (g := gb225) (o := .cells #[u226000, .int .i64 x226001_1] 25 (0, 0)) (zk BK225) hg (Kd.R_ne HO_226000.out BK225.out (by decide)))
         replace HI0 := Aside0.mk (IsS85.grown (zi85 HI0) hg (IsS85.own_ne HI0.out HO_226000.out (by decide)))
         replace HO260 := Aside0.mk (Kd.R_after (ok := (fun _ => True)) (zr HO260) hg hat)
         replace HB := Aside0.mk (below_weaken (zg85 HB) HL.out hb)
         replace HK := Aside0.mk (KeepBut.trans (zh HK) (KeepBut.of_grown hg g) (Kd.R_base2 HO_226000.out))
         have HO263 := Aside0.mk (ho)
         clear HO_226000
         clear ho hb hg hat
         obtain ⟨Ao73, co73, eo73⟩ := Kd.R_slice HO263.out
         (first | subst eo73 | (injection eo73 with f1_ f2_ f3_; have f4_ := f1_.symm; have f5_ := f3_.symm; clear f1_ f2_ f3_; subst f4_; subst f5_))
         refine hK.out _ _ ⟨(blk_cell BK225.out 0).trans rfl, (blk_cell BK225.out 1).trans rfl⟩ (fun hHeld => ?_)
         clear hK K
         refine nm ?_
         refine pu 10 (some 48) (bm 12 2047) rfl rfl ?_
         refine last_ (i := 11) (N := none) #[true, true, true, true, true, true, true, true, true, true, true, true] rfl rfl (one_of HT_.out (by kernel_rfl)) (by decide) (fun K hK => ?_)
         have hs74 : w71.cell? ⟨gb225, 0, none⟩ = some (u226000) := (blk_cell BK225.out 0).trans rfl
         have hfs74 := blk_frozen BK225.out 0
         have hns74_0 := NB215_225.out
         have hms74_0 := NB225_215.out
         refine skip_ (w1 := ?_) (by rfl) rfl ?_ ?_
         rotate_left
         ·go_simp
          rfl
         refine hK.out _ _ ?_
         clear hK K
         refine done_ (done_of HT_.out (by kernel_rfl)) ?_
         have hnb75 := NB225_215.out
         have hnc75 := NB215_225.out
         have hnb76 := NB225_0.out
         have hnc76 := NB0_225.out
         have hcz77_0 : w71.cell? ⟨gb225, 0, none⟩ = some (u226000) := (blk_cell BK225.out 0).trans rfl
         have hcz77_1 : w71.cell? ⟨gb225, 1, none⟩ = some (.int .i64 x226001_1) := (blk_cell BK225.out 1).trans rfl
         have hfz77_0 := blk_frozen BK225.out 0
         have hfz77_1 := blk_frozen BK225.out 1
         have hnb78 := NB215_0.out
         have hnc78 := NB0_215.out
         have hcz79_0 : w71.cell? ⟨gb215, 0, none⟩ = some (.slice none 0 0) := (blk_cell BK215.out 0).trans rfl
         have hcz79_1 : w71.cell? ⟨gb215, 1, none⟩ = some (.int .i64 0) := (blk_cell BK215.out 1).trans rfl
         have hfz79_0 := blk_frozen BK215.out 0
         have hfz79_1 := blk_frozen BK215.out 1
         try go_wp2
         refine bodyPost_ret (results_cell_row rfl _ _ gb215 25 #[.slice Ao73 y261.length co73, .int .i64 x226001_1] (0, 0) _ rfl (by (with_reducible repeat (first | refine blk_drewN ?_ _ | refine blk_drew ?_ | refine blk_alloc ?_ _)); refine blk_put (cs := #[.slice Ao73 y261.length co73, .int .i64 0]) ?_ 1 _ rfl; (with_reducible repeat (first | refine blk_drewN ?_ _ | refine blk_drew ?_ | refine blk_alloc ?_ _)); refine blk_put (cs := #[.slice none 0 0, .int .i64 0]) ?_ 0 _ rfl; (with_reducible repeat (first | refine blk_drewN ?_ _ | refine blk_drew ?_ | refine blk_alloc ?_ _)); refine blk_far ?_ NB215_225.out _; exact zk BK215) Try.underlying25 rfl (by kernel_rfl)) rfl ?_
         exact ⟨_, ze, by (with_reducible repeat (first | apply Kd.R_alloc | apply Kd.R_drewN | apply Kd.R_drew)); exact Kd.R_mono (Kd.R_far (p := ⟨gb215, 1, none⟩) (Kd.R_far (p := ⟨gb215, 0, none⟩) (Kd.R_far (p := ⟨gb225, 0, none⟩) (Kd.R_types (Kd.R_types HO263.out BK225.out (by decide)) BK215.out (by decide)) (fun _ hk => hk.1.2) (.slice Ao73 y261.length co73)) (fun _ hk => hk.2) (.slice Ao73 y261.length co73)) (fun _ hk => hk.2) (.int .i64 x226001_1)) (fun _ hk => trivial), zi85 HI0, zg85 HB, zh HK⟩
        ·rw [if_neg c63] at H
         exact absurd H (by simp)
       ·rw [if_neg c59] at H
        have c59b0 : (t238 == 1) = false := beq_eq_false_iff_ne.mpr c59
        have c59b1 : (t238 != 1) = true := bne_iff_ne.mpr c59
        simp only [Option.some.injEq, Prod.mk.injEq] at H
        obtain ⟨rfl, rfl, rfl⟩ := H
        go_wp2_with (first | ((with_reducible refine gq 47 rfl ?_); refine gl (some 27) Try.func47 #[.pointer (some ⟨g, 0, none⟩), .int .i64 24] ?_; (with_reducible refine (spec_l6Rd_pick.calls k1 g s0_0 x1001_1 24 t238 t239 w0 _ ?side1 ?side2 A43.out).mono ?_); (case side1 => exact zi85 HI0); (case side2 => exact zg85 HB); rintro e w80 ⟨rfl, hi, hb, hk⟩; refine ⟨_, rfl, ?_⟩; replace HO_226000 := Aside0.mk (Kd.R_mono (Kd.R_keep (IsS85.apart (show IsS85 w0 _ g s0_0 x1001_1 from zi85 HI0) (zr HO_226000) (by decide)) hk (fun _ h => h.2)) (fun _ h => h.1)); replace BK215 := Aside0.mk (KeepBut.blk hk (g' := gb215) (o := .cells #[.slice none 0 0, .int .i64 0] 25 (0, 0)) (zk BK215) NB215_0.out (by simp)); replace BK225 := Aside0.mk (KeepBut.blk hk (g' := gb225) (o := .cells #[u226000, .int .i64 x226001_1] 25 (0, 0)) (zk BK225) NB225_0.out (by simp)); replace HK := Aside0.mk (KeepBut.trans (zh HK) hk (.inl rfl)); replace HB := Aside0.mk (hb); replace HI0 := Aside0.mk (hi); (try clear hb); (try clear hk); (try clear hi); have hnb81 := NB225_215.out; have hnc81 := NB215_225.out; have hnb82 := NB225_0.out; have hnc82 := NB0_225.out; have hcz83_0 : w80.cell? ⟨gb225, 0, none⟩ = some (u226000) := (blk_cell BK225.out 0).trans rfl; have hcz83_1 : w80.cell? ⟨gb225, 1, none⟩ = some (.int .i64 x226001_1) := (blk_cell BK225.out 1).trans rfl; have hfz83_0 := blk_frozen BK225.out 0; have hfz83_1 := blk_frozen BK225.out 1; obtain ⟨Ao84, co84, eo84⟩ := Kd.R_slice HO_226000.out; subst eo84; have hnb85 := NB215_0.out; have hnc85 := NB0_215.out; have hcz86_0 : w80.cell? ⟨gb215, 0, none⟩ = some (.slice none 0 0) := (blk_cell BK215.out 0).trans rfl; have hcz86_1 : w80.cell? ⟨gb215, 1, none⟩ = some (.int .i64 0) := (blk_cell BK215.out 1).trans rfl; have hfz86_0 := blk_frozen BK215.out 0; have hfz86_1 := blk_frozen BK215.out 1))
        refine bodyPost_ret (results_cell_row rfl _ _ gb215 25 #[.slice Ao84 x226000_1.length co84, .int .i64 x226001_1] (0, 0) _ rfl (by (with_reducible repeat (first | refine blk_drewN ?_ _ | refine blk_drew ?_ | refine blk_alloc ?_ _)); refine blk_put (cs := #[.slice Ao84 x226000_1.length co84, .int .i64 0]) ?_ 1 _ rfl; (with_reducible repeat (first | refine blk_drewN ?_ _ | refine blk_drew ?_ | refine blk_alloc ?_ _)); refine blk_put (cs := #[.slice none 0 0, .int .i64 0]) ?_ 0 _ rfl; exact zk BK215) Try.underlying25 rfl (by kernel_rfl)) rfl ?_
        exact ⟨_, ze, by (with_reducible repeat (first | apply Kd.R_alloc | apply Kd.R_drewN | apply Kd.R_drew)); exact Kd.R_mono (Kd.R_far (p := ⟨gb215, 1, none⟩) (Kd.R_far (p := ⟨gb215, 0, none⟩) (Kd.R_types HO_226000.out BK215.out (by decide)) (fun _ hk => hk.2) (.slice Ao84 x226000_1.length co84)) (fun _ hk => hk.2) (.int .i64 x226001_1)) (fun _ hk => trivial), zi85 HI0, zg85 HB, zh HK⟩
  ·rw [if_neg c4] at H
   exact absurd H (by simp)
 ·rw [if_neg c3] at H
  exact absurd H (by simp)

/-! ### spec_DrawTableAdd: function 29 -/
-- thin
def spec_DrawTableAdd.f (k : Nat) (l0 : List Int) : Option ((List (S36)) × Int × ByteArray × ByteArray × Bool) := (spec_l6Open.f l0).bind fun bt266 => ((spec_l71Table.f k bt266.1 bt266.2).bind fun bt269 => ((spec_l71Field.f k bt266.1 bt269.2.2).bind fun bt274 => (some (bt269.1, bt269.2.1, bt274.1, bt274.2.1, bt274.2.2.1))))
theorem spec_DrawTableAdd.mono : ∀ a0 k, LeO (spec_DrawTableAdd.f k a0) (spec_DrawTableAdd.f (k + 1) a0) := by
 intro a0 k
 unfold spec_DrawTableAdd.f
 repeat' first
   | (with_reducible exact spec_l71Field.mono _ _ _)
   | (with_reducible exact spec_l71Table.mono _ _ _)
   | (with_reducible exact LeO.refl _)
   | (with_reducible exact LeO.none _)
   | (with_reducible refine LeO.ite ?_ ?_)
   | (with_reducible refine LeO.bind ?_ (fun _ => ?_))
   | exact spec_l71Field.mono _ _ _
   | exact spec_l71Table.mono _ _ _
   | exact LeO.none _
   | refine LeO.ite ?_ ?_
   | refine LeO.bind ?_ (fun _ => ?_)
set_option maxHeartbeats 8000000 in
set_option maxRecDepth 100000 in
theorem spec_DrawTableAdd.calls (k : Nat) (A0 : Option Addr) (c0 : Nat) (l0 : List Int) (r1 : List (S36)) (r2 : Int) (r3 : ByteArray) (r4 : ByteArray) (r5 : Bool) (w : World) (hr0 : Kd.C (Kd.int .u8) w A0 l0.length l0) (hc0 : l0.length ≤ c0) (h : spec_DrawTableAdd.f k l0 = some (r1, r2, r3, r4, r5)) :
  Calls Try.prog 29 #[.slice A0 l0.length c0] w fun e w' => ∃ v0_ : Value, e = .returned (.tuple #[.agg #[v0_, .int .i64 r2], .agg #[.string r3, .string r4, .bool r5]]) ∧ Kd.R k36 36 w' w.heap.size (fun _ => True) v0_ r1 ∧ Below w.heap.size w w' := by
 have hu25 := Try.underlying25
 have hu36 := Try.underlying36
 have HR0 := Aside0.mk hr0
 have HC0 := Aside0.mk hc0
 clear hr0 hc0
 have HB := Aside0.mk (Below.refl w.heap.size w)
 have H : ((spec_l6Open.f l0).bind fun bt266 => ((spec_l71Table.f k bt266.1 bt266.2).bind fun bt269 => ((spec_l71Field.f k bt266.1 bt269.2.2).bind fun bt274 => (some (bt269.1, bt269.2.1, bt274.1, bt274.2.1, bt274.2.2.1))))) = some (r1, r2, r3, r4, r5) := h
 clear h
 replace H := Option.bind_eq_some_iff.mp H
 obtain ⟨⟨t266, t267⟩, A20, H⟩ := H
 replace H : ((spec_l71Table.f k t266 t267).bind fun bt269 => ((spec_l71Field.f k t266 bt269.2.2).bind fun bt274 => (some (bt269.1, bt269.2.1, bt274.1, bt274.2.1, bt274.2.2.1)))) = some (r1, r2, r3, r4, r5) := H
 have A2 := Aside0.mk A20
 clear A20
 replace H := Option.bind_eq_some_iff.mp H
 obtain ⟨⟨t269, t272, t273⟩, A30, H⟩ := H
 replace H : ((spec_l71Field.f k t266 t273).bind fun bt274 => (some (t269, t272, bt274.1, bt274.2.1, bt274.2.2.1))) = some (r1, r2, r3, r4, r5) := H
 have A3 := Aside0.mk A30
 clear A30
 replace H := Option.bind_eq_some_iff.mp H
 obtain ⟨⟨t274, t275, t276, t277⟩, A40, H⟩ := H
 replace H : (some (t269, t272, t274, t275, t276)) = some (r1, r2, r3, r4, r5) := H
 have A4 := Aside0.mk A40
 clear A40
 simp only [Option.some.injEq, Prod.mk.injEq] at H
 obtain ⟨rfl, rfl, rfl, rfl, rfl⟩ := H
 go_enter Try.func29, Try.ntmps29
 go_wp2_with (first | ((with_reducible refine gd 2 rfl ?_); refine bx (N := 2) (cs := #[.slice none 0 0, .int .i64 0]) (t := 25) ?_; intro gb264 hg w5 hbox hb; have BK264 := Aside0.mk (hbox); have GW264 := Aside0.mk ((by rw [hg]; exact (below_size (zb HB)) : w.heap.size ≤ gb264)); have GE264 := Aside0.mk ((by rw [hg]; exact (below_size (zb HB)) : w.heap.size ≤ gb264)); replace HB := Aside0.mk (below_step (zb HB) hb); clear hb hbox hg) | ((with_reducible refine gd 3 rfl ?_); refine bx (N := 3) (cs := #[.string (⟨#[]⟩ : ByteArray), .string (⟨#[]⟩ : ByteArray), .bool false]) (t := 36) ?_; intro gb265 hg w6 hbox hb; have BK265 := Aside0.mk (hbox); have GW265 := Aside0.mk ((by rw [hg]; exact (below_size (zb HB)) : w.heap.size ≤ gb265)); have GE265 := Aside0.mk ((by rw [hg]; exact (below_size (zb HB)) : w.heap.size ≤ gb265)); replace HB := Aside0.mk (below_step (zb HB) hb); have NB264_265 := Aside0.mk ((by rw [hg]; exact Nat.ne_of_lt (blk_lt (g := gb264) (o := .cells #[.slice none 0 0, .int .i64 0] 25 (0, 0)) (zk BK264)) : gb264 ≠ gb265)); have NB265_264 := Aside0.mk ((by rw [hg]; exact Nat.ne_of_gt (blk_lt (g := gb264) (o := .cells #[.slice none 0 0, .int .i64 0] 25 (0, 0)) (zk BK264)) : gb265 ≠ gb264)); replace BK264 := Aside0.mk (blk_below (g := gb264) (o := .cells #[.slice none 0 0, .int .i64 0] 25 (0, 0)) (zk BK264) hb); clear hb hbox hg) | ((with_reducible refine gq 45 rfl ?_); refine gl (some 6) Try.func45 #[.slice A0 l0.length c0] ?_; (with_reducible refine (spec_l6Open.calls _ _ l0 t266 t267 w _ ?side1 ?side2 ?side3 A2.out).mono ?_); (case side1 => exact zb HB); (case side2 => exact HR0.out); (case side3 => exact HC0.out); rintro e w7 ⟨g268, rfl, hi, hb, hb2⟩; refine ⟨_, rfl, ?_⟩; replace HB := Aside0.mk (hb); have HI268 := Aside0.mk (hi); have NB268_264 := Aside0.mk (IsS85.ne_blk hi (blk_below (g := gb264) (o := .cells #[.slice none 0 0, .int .i64 0] 25 (0, 0)) (zk BK264) hb2) (by decide)); have NB264_268 := Aside0.mk (Ne.symm (IsS85.ne_blk hi (blk_below (g := gb264) (o := .cells #[.slice none 0 0, .int .i64 0] 25 (0, 0)) (zk BK264) hb2) (by decide))); replace BK264 := Aside0.mk (blk_below (g := gb264) (o := .cells #[.slice none 0 0, .int .i64 0] 25 (0, 0)) (zk BK264) hb2); have NB268_265 := Aside0.mk (IsS85.ne_blk hi (blk_below (g := gb265) (o := .cells #[.string (⟨#[]⟩ : ByteArray), .string (⟨#[]⟩ : ByteArray), .bool false] 36 (0, 0)) (zk BK265) hb2) (by decide)); have NB265_268 := Aside0.mk (Ne.symm (IsS85.ne_blk hi (blk_below (g := gb265) (o := .cells #[.string (⟨#[]⟩ : ByteArray), .string (⟨#[]⟩ : ByteArray), .bool false] 36 (0, 0)) (zk BK265) hb2) (by decide))); replace BK265 := Aside0.mk (blk_below (g := gb265) (o := .cells #[.string (⟨#[]⟩ : ByteArray), .string (⟨#[]⟩ : ByteArray), .bool false] 36 (0, 0)) (zk BK265) hb2); (try clear hb); (try clear hb2); (try clear hi)) | ((with_reducible refine gq 46 rfl ?_); refine gl (some 8) Try.func46 #[.pointer (some ⟨g268, 0, none⟩)] ?_; (with_reducible refine (spec_l71Table.calls k g268 t266 t267 t269 t272 t273 w _ ?side1 ?side2 A3.out).mono ?_); (case side1 => exact zi85 HI268); (case side2 => exact zg85 HB); rintro e w8 ⟨v270, rfl, ho0, hi, hb, hk⟩; refine ⟨_, rfl, ?_⟩; replace BK264 := Aside0.mk (KeepBut.blk hk (g' := gb264) (o := .cells #[.slice none 0 0, .int .i64 0] 25 (0, 0)) (zk BK264) NB264_268.out (by simp)); have HO271 := Aside0.mk (Kd.R_lower (Kd.R_newB ho0 (g := gb265) (o := .cells #[.string (⟨#[]⟩ : ByteArray), .string (⟨#[]⟩ : ByteArray), .bool false] 36 (0, 0)) (zk BK265)) (below_size (zg85 HB))); replace BK265 := Aside0.mk (KeepBut.blk hk (g' := gb265) (o := .cells #[.string (⟨#[]⟩ : ByteArray), .string (⟨#[]⟩ : ByteArray), .bool false] 36 (0, 0)) (zk BK265) NB265_268.out (by simp)); replace HB := Aside0.mk (hb); replace HI268 := Aside0.mk (hi); (try clear hb); (try clear hk); (try clear hi); (try clear ho0)) | ((with_reducible refine gq 58 rfl ?_); refine gl (some 10) Try.func58 #[.pointer (some ⟨g268, 0, none⟩)] ?_; (with_reducible refine (spec_l71Field.calls k g268 t266 t273 t274 t275 t276 t277 w _ ?side1 ?side2 A4.out).mono ?_); (case side1 => exact zi85 HI268); (case side2 => exact zg85 HB); rintro e w9 ⟨rfl, hi, hb, hk⟩; refine ⟨_, rfl, ?_⟩; replace BK264 := Aside0.mk (KeepBut.blk hk (g' := gb264) (o := .cells #[.slice none 0 0, .int .i64 0] 25 (0, 0)) (zk BK264) NB264_268.out (by simp)); replace BK265 := Aside0.mk (KeepBut.blk hk (g' := gb265) (o := .cells #[.string (⟨#[]⟩ : ByteArray), .string (⟨#[]⟩ : ByteArray), .bool false] 36 (0, 0)) (zk BK265) NB265_268.out (by simp)); replace HO271 := Aside0.mk (Kd.R_mono (Kd.R_keep (IsS85.apart (show IsS85 w _ g268 t266 t273 from zi85 HI268) (zr HO271) (by decide)) hk (fun _ h => h.2)) (fun _ h => h.1)); replace HB := Aside0.mk (hb); replace HI268 := Aside0.mk (hi); (try clear hb); (try clear hk); (try clear hi); obtain ⟨Ao10, co10, eo10⟩ := Kd.R_slice HO271.out; subst eo10; have hnb11 := NB264_265.out; have hnc11 := NB265_264.out; have hnb12 := NB264_268.out; have hnc12 := NB268_264.out; have hcz13_0 : w9.cell? ⟨gb264, 0, none⟩ = some (.slice none 0 0) := (blk_cell BK264.out 0).trans rfl; have hcz13_1 : w9.cell? ⟨gb264, 1, none⟩ = some (.int .i64 0) := (blk_cell BK264.out 1).trans rfl; have hfz13_0 := blk_frozen BK264.out 0; have hfz13_1 := blk_frozen BK264.out 1; have hnb14 := NB265_268.out; have hnc14 := NB268_265.out; have hcz15_0 : w9.cell? ⟨gb265, 0, none⟩ = some (.string (⟨#[]⟩ : ByteArray)) := (blk_cell BK265.out 0).trans rfl; have hcz15_1 : w9.cell? ⟨gb265, 1, none⟩ = some (.string (⟨#[]⟩ : ByteArray)) := (blk_cell BK265.out 1).trans rfl; have hcz15_2 : w9.cell? ⟨gb265, 2, none⟩ = some (.bool false) := (blk_cell BK265.out 2).trans rfl; have hfz15_0 := blk_frozen BK265.out 0; have hfz15_1 := blk_frozen BK265.out 1; have hfz15_2 := blk_frozen BK265.out 2))
 refine bodyPost_ret (results_cc rfl _ _ gb264 gb265 25 36 #[.slice Ao10 t269.length co10, .int .i64 t272] #[.string t274, .string t275, .bool t276] (0, 0) (0, 0) _ _ rfl (by (with_reducible repeat (first | refine blk_drewN ?_ _ | refine blk_drew ?_ | refine blk_alloc ?_ _)); refine blk_far ?_ NB264_265.out _; (with_reducible repeat (first | refine blk_drewN ?_ _ | refine blk_drew ?_ | refine blk_alloc ?_ _)); refine blk_far ?_ NB264_265.out _; (with_reducible repeat (first | refine blk_drewN ?_ _ | refine blk_drew ?_ | refine blk_alloc ?_ _)); refine blk_far ?_ NB264_265.out _; (with_reducible repeat (first | refine blk_drewN ?_ _ | refine blk_drew ?_ | refine blk_alloc ?_ _)); refine blk_put (cs := #[.slice Ao10 t269.length co10, .int .i64 0]) ?_ 1 _ rfl; (with_reducible repeat (first | refine blk_drewN ?_ _ | refine blk_drew ?_ | refine blk_alloc ?_ _)); refine blk_put (cs := #[.slice none 0 0, .int .i64 0]) ?_ 0 _ rfl; exact zk BK264) Try.underlying25 rfl (by kernel_rfl) rfl (by (with_reducible repeat (first | refine blk_drewN ?_ _ | refine blk_drew ?_ | refine blk_alloc ?_ _)); refine blk_put (cs := #[.string t274, .string t275, .bool false]) ?_ 2 _ rfl; (with_reducible repeat (first | refine blk_drewN ?_ _ | refine blk_drew ?_ | refine blk_alloc ?_ _)); refine blk_put (cs := #[.string t274, .string (⟨#[]⟩ : ByteArray), .bool false]) ?_ 1 _ rfl; (with_reducible repeat (first | refine blk_drewN ?_ _ | refine blk_drew ?_ | refine blk_alloc ?_ _)); refine blk_put (cs := #[.string (⟨#[]⟩ : ByteArray), .string (⟨#[]⟩ : ByteArray), .bool false]) ?_ 0 _ rfl; (with_reducible repeat (first | refine blk_drewN ?_ _ | refine blk_drew ?_ | refine blk_alloc ?_ _)); refine blk_far ?_ NB265_264.out _; (with_reducible repeat (first | refine blk_drewN ?_ _ | refine blk_drew ?_ | refine blk_alloc ?_ _)); refine blk_far ?_ NB265_264.out _; exact zk BK265) Try.underlying36 rfl (by kernel_rfl)) rfl ?_
 exact ⟨_, ze, by (with_reducible repeat (first | apply Kd.R_alloc | apply Kd.R_drewN | apply Kd.R_drew)); exact Kd.R_mono (Kd.R_far (p := ⟨gb265, 2, none⟩) (Kd.R_far (p := ⟨gb265, 1, none⟩) (Kd.R_far (p := ⟨gb265, 0, none⟩) (Kd.R_far (p := ⟨gb264, 1, none⟩) (Kd.R_far (p := ⟨gb264, 0, none⟩) (Kd.R_mono (Kd.R_types HO271.out BK264.out (by decide)) (fun k_ hk => (⟨hk, hk.1.2⟩ : _ ∧ k_ ≠ gb265))) (fun _ hk => hk.1.2) (.slice Ao10 t269.length co10)) (fun _ hk => hk.1.2) (.int .i64 t272)) (fun _ hk => hk.2) (.string t274)) (fun _ hk => hk.2) (.string t275)) (fun _ hk => hk.2) (.bool t276)) (fun _ hk => trivial), zg85 HB⟩

/-! ### impl_cloneFields: function 84 -/
-- by hand
/-- A row like the one that came in. -/
def impl_cloneFields.f (l0 : List (S36)) : Option (List (S36)) := if l0.length < 3518437208883 then some l0 else none
set_option maxHeartbeats 4000000 in
set_option maxRecDepth 100000 in
theorem impl_cloneFields.calls (A0 : Option Addr) (c0 : Nat) (l0 : List (S36)) (r : List (S36)) (w : World) (hr0 : Kd.C k36 w A0 l0.length l0) (hc0 : l0.length ≤ c0) (h : impl_cloneFields.f l0 = some r) :
    Calls Try.prog 84 #[.slice A0 l0.length c0] w fun e w' => ∃ v0_ : Value, e = .returned (v0_) ∧ Kd.R k36 36 w' w.heap.size (fun _ => True) v0_ r ∧ Below w.heap.size w w' := by
  unfold impl_cloneFields.f at h
  split at h
  case isFalse => cases h
  rename_i hl
  obtain rfl := Option.some.inj h
  clear h
  have HR0 := Aside0.mk hr0
  clear hr0
  go_enter Try.func84, Try.ntmps84
  go_wp2_with (first | (at_builtin; refine Kd.R_append_rows k36 (w0 := w) w.heap.size rfl (.const (.slice none 0 0)) (.tmp 3) 23 36 (.agg #[(.string ⟨#[]⟩), (.string ⟨#[]⟩), (.bool false)]) 40 rfl Try.underlying23 info36 rfl (by decide) (by omega) (.slice none 0 0) [] l0 _ _ _ (fun _ => True) (fun _ => False) rfl rfl ?aO ?aR (fun _ _ h => h) (fun _ h => h.elim) ?aF ?aB ?aS ?aL ?_; (case aR => exact HR0.out); (case aB => exact Below.refl _ _); (case aF => exact (fun _ _ => trivial)); (case aO => exact Kd.R_nil _ _ _ _ _); (case aS => exact Nat.le_refl _); (case aL => simp only [List.length_nil]; omega); intro v1 w1 ho hb hg hat; rw [List.nil_append] at ho; have N1 := Aside0.mk ho; have N2 := Aside0.mk hb; clear ho hb hg hat))
  go_ret
  exact ⟨_, rfl, N1.out, N2.out⟩

/-! ### impl_Table_clone: function 69 -/
-- thin
def impl_Table_clone.f (l0_0 : List (S36)) (a0_1 : Int) : Option ((List (S36)) × Int) := (impl_cloneFields.f l0_0).bind fun t280 => (some (t280, a0_1))
set_option maxHeartbeats 8000000 in
set_option maxRecDepth 100000 in
theorem impl_Table_clone.calls (A0_0 : Option Addr) (c0_0 : Nat) (l0_0 : List (S36)) (a0_1 : Int) (r1 : List (S36)) (r2 : Int) (w : World) (hr0_0 : Kd.C k36 w A0_0 l0_0.length l0_0) (hc0_0 : l0_0.length ≤ c0_0) (h : impl_Table_clone.f l0_0 a0_1 = some (r1, r2)) :
  Calls Try.prog 69 #[.agg #[.slice A0_0 l0_0.length c0_0, .int .i64 a0_1]] w fun e w' => ∃ v0_ : Value, e = .returned (.agg #[v0_, .int .i64 r2]) ∧ Kd.R k36 36 w' w.heap.size (fun _ => True) v0_ r1 ∧ Below w.heap.size w w' := by
 have hu25 := Try.underlying25
 have HR0_0 := Aside0.mk hr0_0
 have HC0_0 := Aside0.mk hc0_0
 clear hr0_0 hc0_0
 have HB := Aside0.mk (Below.refl w.heap.size w)
 have H : ((impl_cloneFields.f l0_0).bind fun t280 => (some (t280, a0_1))) = some (r1, r2) := h
 clear h
 replace H := Option.bind_eq_some_iff.mp H
 obtain ⟨t280, A20, H⟩ := H
 replace H : (some (t280, a0_1)) = some (r1, r2) := H
 have A2 := Aside0.mk A20
 clear A20
 simp only [Option.some.injEq, Prod.mk.injEq] at H
 obtain ⟨rfl, rfl⟩ := H
 go_enter Try.func69, Try.ntmps69
 try go_wp2_with (first | ((with_reducible refine gd 1 rfl ?_); refine bx (N := 1) (cs := #[.slice A0_0 l0_0.length c0_0, .int .i64 a0_1]) (t := 25) ?_; intro gb278 hg w3 hbox hb; have BK278 := Aside0.mk (hbox); have GW278 := Aside0.mk ((by rw [hg]; exact (below_size (zb HB)) : w.heap.size ≤ gb278)); have GE278 := Aside0.mk ((by rw [hg]; exact (below_size (zb HB)) : w.heap.size ≤ gb278)); replace HB := Aside0.mk (below_step (zb HB) hb); clear hb hbox hg) | ((with_reducible refine gd 2 rfl ?_); refine bx (N := 2) (cs := #[.slice none 0 0, .int .i64 0]) (t := 25) ?_; intro gb279 hg w4 hbox hb; have BK279 := Aside0.mk (hbox); have GW279 := Aside0.mk ((by rw [hg]; exact (below_size (zb HB)) : w.heap.size ≤ gb279)); have GE279 := Aside0.mk ((by rw [hg]; exact (below_size (zb HB)) : w.heap.size ≤ gb279)); replace HB := Aside0.mk (below_step (zb HB) hb); have NB278_279 := Aside0.mk ((by rw [hg]; exact Nat.ne_of_lt (blk_lt (g := gb278) (o := .cells #[.slice A0_0 l0_0.length c0_0, .int .i64 a0_1] 25 (0, 0)) (zk BK278)) : gb278 ≠ gb279)); have NB279_278 := Aside0.mk ((by rw [hg]; exact Nat.ne_of_gt (blk_lt (g := gb278) (o := .cells #[.slice A0_0 l0_0.length c0_0, .int .i64 a0_1] 25 (0, 0)) (zk BK278)) : gb279 ≠ gb278)); replace BK278 := Aside0.mk (blk_below (g := gb278) (o := .cells #[.slice A0_0 l0_0.length c0_0, .int .i64 a0_1] 25 (0, 0)) (zk BK278) hb); clear hb hbox hg))
 replace BK278 := Aside0.mk (blk_drew BK278.out)
 replace BK279 := Aside0.mk (blk_drew BK279.out)
 replace HB := Aside0.mk (below_drew1 HB.out)
 refine start_ (n := 7) (S := fun w' => w'.cell? ⟨gb278, 0, none⟩ = some (.slice A0_0 l0_0.length c0_0) ∧ w'.cell? ⟨gb278, 1, none⟩ = some (.int .i64 a0_1)) (ds := []) #[false, false, false, false, false, false, false] (by kernel_rfl) rfl rfl ⟨(blk_cell BK278.out 0).trans rfl, (blk_cell BK278.out 1).trans rfl⟩ (fun hHeld => ?_)
 generalize w4.drew = w5 at BK278 BK279 HB hHeld ⊢
 refine pu 0 (some 3) (bm 7 1) rfl rfl ?_
 refine pu 3 (some 6) (bm 7 9) rfl rfl ?_
 refine tk2 1 (some 4) (bm 7 11) rfl rfl hHeld ?_
 refine tk2 4 (some 7) (bm 7 27) rfl rfl hHeld ?_
 refine one_ (i := 2) (N := some 5) (bm 7 31) rfl rfl (by kernel_rfl) (by decide) (fun K hK => ?_)
 refine gs Try.func84 #[.slice A0_0 l0_0.length c0_0] ?_
 with_reducible refine (impl_cloneFields.calls _ _ l0_0 t280 _ ?side1 ?side2 A2.out).mono ?_
 (case side1 => exact zc (Kd.C_below HR0_0.out HB.out))
 (case side2 => exact HC0_0.out)
 rintro e w6 ⟨v281, rfl, ho0, hb⟩
 refine ⟨_, rfl, ?_⟩
 have HO282 := Aside0.mk (Kd.R_lower ho0 (below_size (zb HB)))
 replace BK278 := Aside0.mk (blk_below (g := gb278) (o := .cells #[.slice A0_0 l0_0.length c0_0, .int .i64 a0_1] 25 (0, 0)) (zk BK278) hb)
 replace BK279 := Aside0.mk (blk_below (g := gb279) (o := .cells #[.slice none 0 0, .int .i64 0] 25 (0, 0)) (zk BK279) hb)
 replace HB := Aside0.mk (below_step (zb HB) hb)
 (try clear hb)
 (try clear ho0)
 obtain ⟨Ao7, co7, eo7⟩ := Kd.R_slice HO282.out
 (first | subst eo7 | (injection eo7 with f1_ f2_ f3_; have f4_ := f1_.symm; have f5_ := f3_.symm; clear f1_ f2_ f3_; subst f4_; subst f5_))
 refine hK.out _ _ ⟨(blk_cell BK278.out 0).trans rfl, (blk_cell BK278.out 1).trans rfl⟩ (fun hHeld => ?_)
 clear hK K
 refine nm ?_
 refine pu 5 (some 8) (bm 7 63) rfl rfl ?_
 refine one_ (i := 6) (N := none) (bm 7 127) rfl rfl (by kernel_rfl) (by decide) (fun K hK => ?_)
 have hs8 : w6.cell? ⟨gb279, 0, none⟩ = some (.slice none 0 0) := (blk_cell BK279.out 0).trans rfl
 have hfs8 := blk_frozen BK279.out 0
 have hns8_0 := NB278_279.out
 have hms8_0 := NB279_278.out
 have hs9 : w6.cell? ⟨gb279, 1, none⟩ = some (.int .i64 0) := (blk_cell BK279.out 1).trans rfl
 have hfs9 := blk_frozen BK279.out 1
 have hns9_0 := NB278_279.out
 have hms9_0 := NB279_278.out
 refine skip_ (w1 := ?_) (by rfl) rfl ?_ ?_
 rotate_left
 ·go_simp
  rfl
 refine hK.out _ _ ⟨((cell_far (p := ⟨gb279, _, none⟩) NB278_279.out _).trans (((cell_far (p := ⟨gb279, _, none⟩) NB278_279.out _).trans (hHeld.1)))), ((cell_far (p := ⟨gb279, _, none⟩) NB278_279.out _).trans (((cell_far (p := ⟨gb279, _, none⟩) NB278_279.out _).trans (hHeld.2))))⟩ (fun hHeld => ?_)
 clear hK K
 refine done_ (by kernel_rfl) ?_
 try go_wp2
 refine bodyPost_ret (results_cell_row rfl _ _ gb279 25 #[.slice Ao7 t280.length co7, .int .i64 a0_1] (0, 0) _ rfl (by (with_reducible repeat (first | refine blk_drewN ?_ _ | refine blk_drew ?_ | refine blk_alloc ?_ _)); refine blk_put (cs := #[.slice Ao7 t280.length co7, .int .i64 0]) ?_ 1 _ rfl; (with_reducible repeat (first | refine blk_drewN ?_ _ | refine blk_drew ?_ | refine blk_alloc ?_ _)); refine blk_put (cs := #[.slice none 0 0, .int .i64 0]) ?_ 0 _ rfl; exact zk BK279) Try.underlying25 rfl (by kernel_rfl)) rfl ?_
 exact ⟨_, ze, by (with_reducible repeat (first | apply Kd.R_alloc | apply Kd.R_drewN | apply Kd.R_drew)); exact Kd.R_mono (Kd.R_far (p := ⟨gb279, 1, none⟩) (Kd.R_far (p := ⟨gb279, 0, none⟩) (Kd.R_types HO282.out BK279.out (by decide)) (fun _ hk => hk.2) (.slice Ao7 t280.length co7)) (fun _ hk => hk.2) (.int .i64 a0_1)) (fun _ hk => trivial), zb HB⟩

/-! ### impl_Table_fit: function 49 -/
-- thin
def impl_Table_fit.l0 : Nat → List (S36) → Int → Option ((List (S36)) × Int)
 | 0, _, _ => none
 | k + 1, x290000, x290001 => (impl_Table_size.f k x290000 x290001).bind fun t290 => (if t290 > x290001 then (if 0 ≤ (wrap64 ((x290000.length : Int) - 1)) then (if (wrap64 ((x290000.length : Int) - 1)) ≤ (x290000.length : Int) then (impl_Table_fit.l0 k (x290000.take ((wrap64 ((x290000.length : Int) - 1)) : Int).toNat) x290001) else (none)) else (none)) else ((impl_Table_clone.f x290000 x290001).bind fun bt294 => (some (bt294.1, bt294.2))))
def impl_Table_fit.f (k : Nat) (l0_0 : List (S36)) (a0_1 : Int) : Option ((List (S36)) × Int) := (impl_Table_clone.f l0_0 a0_1).bind fun bt285 => (impl_Table_fit.l0 k bt285.1 bt285.2)
theorem impl_Table_fit.mono_l : ∀ k, (∀ y0 y1, LeO (impl_Table_fit.l0 k y0 y1) (impl_Table_fit.l0 (k + 1) y0 y1))
 | 0 => fun _ _ r h => by simp [impl_Table_fit.l0] at h
 | k + 1 => by
  have ih0 := impl_Table_fit.mono_l k
  ·intro y0 y1
   unfold impl_Table_fit.l0
   repeat' first
   | (with_reducible exact ih0 _ _)
   | (with_reducible exact impl_Table_size.mono _ _ _)
   | (with_reducible exact LeO.refl _)
   | (with_reducible exact LeO.none _)
   | (with_reducible refine LeO.ite ?_ ?_)
   | (with_reducible refine LeO.bind ?_ (fun _ => ?_))
   | exact ih0 _ _
   | exact impl_Table_size.mono _ _ _
   | exact LeO.none _
   | refine LeO.ite ?_ ?_
   | refine LeO.bind ?_ (fun _ => ?_)
theorem impl_Table_fit.mono : ∀ a0 a1 k, LeO (impl_Table_fit.f k a0 a1) (impl_Table_fit.f (k + 1) a0 a1) := by
 intro a0 a1 k
 have ih0 := impl_Table_fit.mono_l k
 unfold impl_Table_fit.f
 repeat' first
   | (with_reducible exact ih0 _ _)
   | (with_reducible exact impl_Table_size.mono _ _ _)
   | (with_reducible exact LeO.refl _)
   | (with_reducible exact LeO.none _)
   | (with_reducible refine LeO.ite ?_ ?_)
   | (with_reducible refine LeO.bind ?_ (fun _ => ?_))
   | exact ih0 _ _
   | exact impl_Table_size.mono _ _ _
   | exact LeO.none _
   | refine LeO.ite ?_ ?_
   | refine LeO.bind ?_ (fun _ => ?_)
set_option maxHeartbeats 8000000 in
set_option maxRecDepth 100000 in
theorem impl_Table_fit.calls (k : Nat) (A0_0 : Option Addr) (c0_0 : Nat) (l0_0 : List (S36)) (a0_1 : Int) (r1 : List (S36)) (r2 : Int) (w : World) (hr0_0 : Kd.C k36 w A0_0 l0_0.length l0_0) (hc0_0 : l0_0.length ≤ c0_0) (h : impl_Table_fit.f k l0_0 a0_1 = some (r1, r2)) :
  Calls Try.prog 49 #[.agg #[.slice A0_0 l0_0.length c0_0, .int .i64 a0_1]] w fun e w' => ∃ v0_ : Value, e = .returned (.agg #[v0_, .int .i64 r2]) ∧ Kd.R k36 36 w' w.heap.size (fun _ => True) v0_ r1 ∧ Below w.heap.size w w' := by
 have hu25 := Try.underlying25
 have HR0_0 := Aside0.mk hr0_0
 have HC0_0 := Aside0.mk hc0_0
 clear hr0_0 hc0_0
 have HB := Aside0.mk (Below.refl w.heap.size w)
 have H : ((impl_Table_clone.f l0_0 a0_1).bind fun bt285 => (impl_Table_fit.l0 k bt285.1 bt285.2)) = some (r1, r2) := h
 clear h
 replace H := Option.bind_eq_some_iff.mp H
 obtain ⟨⟨t285, t288⟩, A20, H⟩ := H
 replace H : (impl_Table_fit.l0 k t285 t288) = some (r1, r2) := H
 have A2 := Aside0.mk A20
 clear A20
 have H' := Aside0.mk H
 clear H
 go_enter Try.func49, Try.ntmps49
 go_wp2_with (first | ((with_reducible refine gd 1 rfl ?_); refine bx (N := 1) (cs := #[.slice A0_0 l0_0.length c0_0, .int .i64 a0_1]) (t := 25) ?_; intro gb283 hg w3 hbox hb; have BK283 := Aside0.mk (hbox); have GW283 := Aside0.mk ((by rw [hg]; exact (below_size (zb HB)) : w.heap.size ≤ gb283)); have GE283 := Aside0.mk ((by rw [hg]; exact (below_size (zb HB)) : w.heap.size ≤ gb283)); replace HB := Aside0.mk (below_step (zb HB) hb); clear hb hbox hg) | ((with_reducible refine gd 2 rfl ?_); refine bx (N := 2) (cs := #[.slice none 0 0, .int .i64 0]) (t := 25) ?_; intro gb284 hg w4 hbox hb; have BK284 := Aside0.mk (hbox); have GW284 := Aside0.mk ((by rw [hg]; exact (below_size (zb HB)) : w.heap.size ≤ gb284)); have GE284 := Aside0.mk ((by rw [hg]; exact (below_size (zb HB)) : w.heap.size ≤ gb284)); replace HB := Aside0.mk (below_step (zb HB) hb); have NB283_284 := Aside0.mk ((by rw [hg]; exact Nat.ne_of_lt (blk_lt (g := gb283) (o := .cells #[.slice A0_0 l0_0.length c0_0, .int .i64 a0_1] 25 (0, 0)) (zk BK283)) : gb283 ≠ gb284)); have NB284_283 := Aside0.mk ((by rw [hg]; exact Nat.ne_of_gt (blk_lt (g := gb283) (o := .cells #[.slice A0_0 l0_0.length c0_0, .int .i64 a0_1] 25 (0, 0)) (zk BK283)) : gb284 ≠ gb283)); replace BK283 := Aside0.mk (blk_below (g := gb283) (o := .cells #[.slice A0_0 l0_0.length c0_0, .int .i64 a0_1] 25 (0, 0)) (zk BK283) hb); clear hb hbox hg; have hnb5 := NB283_284.out; have hnc5 := NB284_283.out; have hcz6_0 : w4.cell? ⟨gb283, 0, none⟩ = some (.slice A0_0 l0_0.length c0_0) := (blk_cell BK283.out 0).trans rfl; have hcz6_1 : w4.cell? ⟨gb283, 1, none⟩ = some (.int .i64 a0_1) := (blk_cell BK283.out 1).trans rfl; have hfz6_0 := blk_frozen BK283.out 0; have hfz6_1 := blk_frozen BK283.out 1) | ((with_reducible refine gq 69 rfl ?_); refine gl (some 5) Try.func69 #[.agg #[.slice A0_0 l0_0.length c0_0, .int .i64 a0_1]] ?_; (with_reducible refine (impl_Table_clone.calls _ _ l0_0 a0_1 t285 t288 _ ?side1 ?side2 A2.out).mono ?_); (case side1 => exact zc (Kd.C_below HR0_0.out HB.out)); (case side2 => exact HC0_0.out); rintro e w7 ⟨v286, rfl, ho0, hb⟩; refine ⟨_, rfl, ?_⟩; have HO287 := Aside0.mk (Kd.R_lower ho0 (below_size (zb HB))); replace BK283 := Aside0.mk (blk_below (g := gb283) (o := .cells #[.slice A0_0 l0_0.length c0_0, .int .i64 a0_1] 25 (0, 0)) (zk BK283) hb); replace BK284 := Aside0.mk (blk_below (g := gb284) (o := .cells #[.slice none 0 0, .int .i64 0] 25 (0, 0)) (zk BK284) hb); replace HB := Aside0.mk (below_step (zb HB) hb); (try clear hb); (try clear ho0)) | ((with_reducible refine gd 3 rfl ?_); refine bx (N := 3) (cs := #[.slice none 0 0, .int .i64 0]) (t := 25) ?_; intro gb289 hg w8 hbox hb; replace HO287 := Aside0.mk (Kd.R_below (zr HO287) hb); have BK289 := Aside0.mk (hbox); have GW289 := Aside0.mk ((by rw [hg]; exact (below_size (zb HB)) : w.heap.size ≤ gb289)); have GE289 := Aside0.mk ((by rw [hg]; exact (below_size (zb HB)) : w.heap.size ≤ gb289)); replace HB := Aside0.mk (below_step (zb HB) hb); have NB283_289 := Aside0.mk ((by rw [hg]; exact Nat.ne_of_lt (blk_lt (g := gb283) (o := .cells #[.slice A0_0 l0_0.length c0_0, .int .i64 a0_1] 25 (0, 0)) (zk BK283)) : gb283 ≠ gb289)); have NB289_283 := Aside0.mk ((by rw [hg]; exact Nat.ne_of_gt (blk_lt (g := gb283) (o := .cells #[.slice A0_0 l0_0.length c0_0, .int .i64 a0_1] 25 (0, 0)) (zk BK283)) : gb289 ≠ gb283)); replace BK283 := Aside0.mk (blk_below (g := gb283) (o := .cells #[.slice A0_0 l0_0.length c0_0, .int .i64 a0_1] 25 (0, 0)) (zk BK283) hb); have NB284_289 := Aside0.mk ((by rw [hg]; exact Nat.ne_of_lt (blk_lt (g := gb284) (o := .cells #[.slice none 0 0, .int .i64 0] 25 (0, 0)) (zk BK284)) : gb284 ≠ gb289)); have NB289_284 := Aside0.mk ((by rw [hg]; exact Nat.ne_of_gt (blk_lt (g := gb284) (o := .cells #[.slice none 0 0, .int .i64 0] 25 (0, 0)) (zk BK284)) : gb289 ≠ gb284)); replace BK284 := Aside0.mk (blk_below (g := gb284) (o := .cells #[.slice none 0 0, .int .i64 0] 25 (0, 0)) (zk BK284) hb); clear hb hbox hg; obtain ⟨Ao9, co9, eo9⟩ := Kd.R_slice HO287.out; subst eo9; have hnb10 := NB289_283.out; have hnc10 := NB283_289.out; have hnb11 := NB289_284.out; have hnc11 := NB284_289.out; have hcz12_0 : w8.cell? ⟨gb289, 0, none⟩ = some (.slice none 0 0) := (blk_cell BK289.out 0).trans rfl; have hcz12_1 : w8.cell? ⟨gb289, 1, none⟩ = some (.int .i64 0) := (blk_cell BK289.out 1).trans rfl; have hfz12_0 := blk_frozen BK289.out 0; have hfz12_1 := blk_frozen BK289.out 1))
 go_loopg [] k (fun kq w' => ∃ (x290000_1 : List (S36)) (u290000 : Value), Aside0 (impl_Table_fit.l0 kq x290000_1 t288 = some (r1, r2)) ∧ Aside0 (kq ≤ k) ∧ Aside0 (Kd.R k36 36 w' w.heap.size (fun _ => True) u290000 x290000_1) ∧ Aside0 (w'.heap[gb283]? = some (.cells #[(.slice A0_0 l0_0.length c0_0), .int .i64 a0_1] 25 (0, 0))) ∧ Aside0 (w'.heap[gb284]? = some (.cells #[(.slice none 0 0), .int .i64 0] 25 (0, 0))) ∧ Aside0 (w'.heap[gb289]? = some (.cells #[u290000, .int .i64 t288] 25 (0, 0))) ∧ Aside0 (Below w.heap.size w w'))
 case atStart => exact ⟨(t285), (.slice Ao9 t285.length co9), H', ⟨Nat.le_refl _⟩, ⟨by (with_reducible repeat (first | apply Kd.R_alloc | apply Kd.R_drewN | apply Kd.R_drew)); exact Kd.R_mono (Kd.R_far (p := ⟨gb289, 1, none⟩) (Kd.R_far (p := ⟨gb289, 0, none⟩) (Kd.R_types HO287.out BK289.out (by decide)) (fun _ hk => hk.2) (.slice Ao9 t285.length co9)) (fun _ hk => hk.2) (.int .i64 t288)) (fun _ hk => trivial)⟩, ⟨by (with_reducible repeat (first | refine blk_drewN ?_ _ | refine blk_drew ?_ | refine blk_alloc ?_ _)); refine blk_far ?_ NB283_289.out _; (with_reducible repeat (first | refine blk_drewN ?_ _ | refine blk_drew ?_ | refine blk_alloc ?_ _)); refine blk_far ?_ NB283_289.out _; exact zk BK283⟩, ⟨by (with_reducible repeat (first | refine blk_drewN ?_ _ | refine blk_drew ?_ | refine blk_alloc ?_ _)); refine blk_far ?_ NB284_289.out _; (with_reducible repeat (first | refine blk_drewN ?_ _ | refine blk_drew ?_ | refine blk_alloc ?_ _)); refine blk_far ?_ NB284_289.out _; exact zk BK284⟩, ⟨by (with_reducible repeat (first | refine blk_drewN ?_ _ | refine blk_drew ?_ | refine blk_alloc ?_ _)); refine blk_put (cs := #[.slice Ao9 t285.length co9, .int .i64 0]) ?_ 1 _ rfl; (with_reducible repeat (first | refine blk_drewN ?_ _ | refine blk_drew ?_ | refine blk_alloc ?_ _)); refine blk_put (cs := #[.slice none 0 0, .int .i64 0]) ?_ 0 _ rfl; exact zk BK289⟩, ⟨zb HB⟩⟩
 case round =>
  clear H'
  try clear c1
  try clear p2
  try clear c4
  try clear c5
  try clear c6
  try clear c10
  try clear c11
  try clear hcz12_0
  try clear hcz12_1
  try clear hcz6_0
  try clear hcz6_1
  try clear hfz12_0
  try clear hfz12_1
  try clear hfz6_0
  try clear hfz6_1
  obtain ⟨x290000_1, u290000, HA, HK1, HO_290000, BK283, BK284, BK289, HB⟩ := hrel
  cases gk with
  | zero => exact absurd HA.out (by simp [impl_Table_fit.l0])
  | succ k1 =>
   have H := HA.out
   clear HA
   simp only [impl_Table_fit.l0] at H
   replace H := Option.bind_eq_some_iff.mp H
   obtain ⟨t290, A130, H⟩ := H
   replace H : (if t290 > t288 then (if 0 ≤ (wrap64 ((x290000_1.length : Int) - 1)) then (if (wrap64 ((x290000_1.length : Int) - 1)) ≤ (x290000_1.length : Int) then (impl_Table_fit.l0 k1 (x290000_1.take ((wrap64 ((x290000_1.length : Int) - 1)) : Int).toNat) t288) else (none)) else (none)) else ((impl_Table_clone.f x290000_1 t288).bind fun bt294 => (some (bt294.1, bt294.2)))) = some (r1, r2) := H
   have A13 := Aside0.mk A130
   clear A130
   by_cases c14 : t290 > t288
   ·rw [if_pos c14] at H
    have c14b0 : decide (t288 < t290) = true := decide_eq_true c14
    clear c14
    obtain ⟨ji15, hji15⟩ : ∃ j_ : Int, (wrap64 ((x290000_1.length : Int) - 1)) = j_ := ⟨_, rfl⟩
    replace H : (if 0 ≤ (ji15) then (if (ji15) ≤ (x290000_1.length : Int) then (impl_Table_fit.l0 k1 (x290000_1.take ((ji15) : Int).toNat) t288) else (none)) else (none)) = some (r1, r2) := by first | (rw [hji15] at H; exact H) | (simp only [hji15] at H ⊢; exact H)
    (try rw [hji15] at A13)
    have hji15w : (IntKind.i64.wrap ((x290000_1.length : Int) - 1)) = ji15 := (i64_w _).trans hji15
    by_cases c16 : 0 ≤ (ji15)
    ·rw [if_pos c16] at H
     have c16b0 := eq_true c16
     have c16b1 : decide (0 ≤ (ji15)) = true := decide_eq_true c16
     clear c16
     by_cases c17 : (ji15) ≤ (x290000_1.length : Int)
     ·rw [if_pos c17] at H
      have c17b0 := eq_true c17
      have c17b1 : decide ((ji15) ≤ (x290000_1.length : Int)) = true := decide_eq_true c17
      clear c17
      obtain ⟨y291, hy291⟩ : ∃ y_ : List (S36), y_ = (x290000_1.take ((ji15) : Int).toNat) := ⟨_, rfl⟩
      replace H : (impl_Table_fit.l0 k1 y291 t288) = some (r1, r2) := by first | (rw [hy291]; with_reducible exact H) | (have H2_ := (Option.bind_some _ _).symm.trans H; rw [hy291]; with_reducible exact H2_) | (have H2_ := (Option.bind_some _ _).symm.trans H; with_reducible exact H2_) | with_reducible exact H | (rw [hy291]; exact H) | exact H
      have Ny291 := Aside0.mk hy291
      clear hy291
      have H' := Aside0.mk H
      clear H
      try go_wp2
      replace HO_290000 := Aside0.mk (Kd.R_drew HO_290000.out)
      replace BK283 := Aside0.mk (blk_drew BK283.out)
      replace BK284 := Aside0.mk (blk_drew BK284.out)
      replace BK289 := Aside0.mk (blk_drew BK289.out)
      replace HB := Aside0.mk (below_drew1 HB.out)
      obtain ⟨Ao19, co19, eo19⟩ := Kd.R_slice HO_290000.out
      (first | subst eo19 | (injection eo19 with f1_ f2_ f3_; have f4_ := f1_.symm; have f5_ := f3_.symm; clear f1_ f2_ f3_; subst f4_; subst f5_))
      refine start_ (n := 5) (S := fun w' => w'.cell? ⟨gb289, 0, none⟩ = some (.slice Ao19 x290000_1.length co19) ∧ w'.cell? ⟨gb289, 1, none⟩ = some (.int .i64 t288)) (ds := []) #[false, false, false, false, false] (by kernel_rfl) rfl rfl ⟨(blk_cell BK289.out 0).trans rfl, (blk_cell BK289.out 1).trans rfl⟩ (fun hHeld => ?_)
      generalize wr.drew = w18 at HO_290000 BK283 BK284 BK289 HB hHeld ⊢
      refine pu 2 (some 8) (bm 5 4) rfl rfl ?_
      refine tk2 0 (some 6) (bm 5 5) rfl rfl hHeld ?_
      refine tk2 3 (some 9) (bm 5 13) rfl rfl hHeld ?_
      refine one_ (i := 1) (N := some 7) (bm 5 15) rfl rfl (by kernel_rfl) (by decide) (fun K hK => ?_)
      refine gs Try.func56 #[.agg #[.slice Ao19 x290000_1.length co19, .int .i64 t288]] ?_
      with_reducible refine (impl_Table_size.calls k1 _ _ x290000_1 t288 t290 _ ?side1 ?side2 A13.out).mono ?_
      (case side1 => exact zc (Kd.R_reads' HO_290000.out).2.2)
      (case side2 => exact (Kd.R_reads' HO_290000.out).2.1)
      rintro e w20 ⟨rfl, hb⟩
      refine ⟨_, rfl, ?_⟩
      replace HO_290000 := Aside0.mk (Kd.R_below (zr HO_290000) hb)
      replace BK283 := Aside0.mk (blk_below (g := gb283) (o := .cells #[.slice A0_0 l0_0.length c0_0, .int .i64 a0_1] 25 (0, 0)) (zk BK283) hb)
      replace BK284 := Aside0.mk (blk_below (g := gb284) (o := .cells #[.slice none 0 0, .int .i64 0] 25 (0, 0)) (zk BK284) hb)
      replace BK289 := Aside0.mk (blk_below (g := gb289) (o := .cells #[.slice Ao19 x290000_1.length co19, .int .i64 t288] 25 (0, 0)) (zk BK289) hb)
      replace HB := Aside0.mk (below_step (zb HB) hb)
      (try clear hb)
      refine hK.out _ _ ⟨(blk_cell BK289.out 0).trans rfl, (blk_cell BK289.out 1).trans rfl⟩ (fun hHeld => ?_)
      clear hK K
      refine nm ?_
      refine pu 4 (some 10) (bm 5 31) rfl rfl ?_
      refine done_ (by kernel_rfl) ?_
      have hnb21 := NB289_283.out
      have hnc21 := NB283_289.out
      have hnb22 := NB289_284.out
      have hnc22 := NB284_289.out
      have hcz23_0 : w20.cell? ⟨gb289, 0, none⟩ = some (.slice Ao19 x290000_1.length co19) := (blk_cell BK289.out 0).trans rfl
      have hcz23_1 : w20.cell? ⟨gb289, 1, none⟩ = some (.int .i64 t288) := (blk_cell BK289.out 1).trans rfl
      have hfz23_0 := blk_frozen BK289.out 0
      have hfz23_1 := blk_frozen BK289.out 1
      have q24 : ((ji15) : Int) ≤ ((x290000_1.length : Int) : Int) := of_decide_eq_true za
      obtain ⟨i024, hi024, _, hsz24, _⟩ := info_parts info36
      have hcut24 := cut_to (P := Try.prog) 23 36 .i64 Try.underlying23 hi024 Ao19 x290000_1.length co19 (ji15) (of_decide_eq_true za) q24 (Kd.R_reads' HO_290000.out).2.1
      have hr24 := Kd.R_take (m := ((ji15) : Int).toNat) HO_290000.out (by omega)
      have hy24 : y291.length = ((ji15) : Int).toNat := (by rw [Ny291.out, List.length_take]; omega)
      rw [← Ny291.out] at hr24
      rw [← hy24] at hr24 hcut24
      clear hy24 hi024 hsz24 HO_290000
      have HO293 := Aside0.mk hr24
      clear hr24
      replace q24 := eq_true q24
      try go_wp2
      go_roundg k1
      case measure => have := HK1.out; omega
      case rel => exact ⟨(y291), (.slice Ao19 y291.length co19), H', ⟨by have := HK1.out; omega⟩, ⟨by (with_reducible repeat (first | apply Kd.R_alloc | apply Kd.R_drewN | apply Kd.R_drew)); exact Kd.R_mono (Kd.R_far (p := ⟨gb289, 0, none⟩) (Kd.R_types HO293.out BK289.out (by decide)) (fun _ hk => hk.2) (.slice Ao19 y291.length co19)) (fun _ hk => trivial)⟩, ⟨by (with_reducible repeat (first | refine blk_drewN ?_ _ | refine blk_drew ?_ | refine blk_alloc ?_ _)); refine blk_far ?_ NB283_289.out _; exact zk BK283⟩, ⟨by (with_reducible repeat (first | refine blk_drewN ?_ _ | refine blk_drew ?_ | refine blk_alloc ?_ _)); refine blk_far ?_ NB284_289.out _; exact zk BK284⟩, ⟨by (with_reducible repeat (first | refine blk_drewN ?_ _ | refine blk_drew ?_ | refine blk_alloc ?_ _)); refine blk_put (cs := #[.slice Ao19 x290000_1.length co19, .int .i64 t288]) ?_ 0 _ rfl; exact zk BK289⟩, ⟨zb HB⟩⟩
     ·rw [if_neg c17] at H
      exact absurd H (by simp)
    ·rw [if_neg c16] at H
     exact absurd H (by simp)
   ·rw [if_neg c14] at H
    have c14b0 : decide (t288 < t290) = false := decide_eq_false c14
    clear c14
    replace H := Option.bind_eq_some_iff.mp H
    obtain ⟨⟨t294, t297⟩, A250, H⟩ := H
    replace H : (some (t294, t297)) = some (r1, r2) := H
    have A25 := Aside0.mk A250
    clear A250
    simp only [Option.some.injEq, Prod.mk.injEq] at H
    obtain ⟨rfl, rfl⟩ := H
    try go_wp2
    replace HO_290000 := Aside0.mk (Kd.R_drew HO_290000.out)
    replace BK283 := Aside0.mk (blk_drew BK283.out)
    replace BK284 := Aside0.mk (blk_drew BK284.out)
    replace BK289 := Aside0.mk (blk_drew BK289.out)
    replace HB := Aside0.mk (below_drew1 HB.out)
    obtain ⟨Ao27, co27, eo27⟩ := Kd.R_slice HO_290000.out
    (first | subst eo27 | (injection eo27 with f1_ f2_ f3_; have f4_ := f1_.symm; have f5_ := f3_.symm; clear f1_ f2_ f3_; subst f4_; subst f5_))
    refine start_ (n := 5) (S := fun w' => w'.cell? ⟨gb289, 0, none⟩ = some (.slice Ao27 x290000_1.length co27) ∧ w'.cell? ⟨gb289, 1, none⟩ = some (.int .i64 t288)) (ds := []) #[false, false, false, false, false] (by kernel_rfl) rfl rfl ⟨(blk_cell BK289.out 0).trans rfl, (blk_cell BK289.out 1).trans rfl⟩ (fun hHeld => ?_)
    generalize wr.drew = w26 at HO_290000 BK283 BK284 BK289 HB hHeld ⊢
    refine pu 2 (some 8) (bm 5 4) rfl rfl ?_
    refine tk2 0 (some 6) (bm 5 5) rfl rfl hHeld ?_
    refine tk2 3 (some 9) (bm 5 13) rfl rfl hHeld ?_
    refine one_ (i := 1) (N := some 7) (bm 5 15) rfl rfl (by kernel_rfl) (by decide) (fun K hK => ?_)
    refine gs Try.func56 #[.agg #[.slice Ao27 x290000_1.length co27, .int .i64 t288]] ?_
    with_reducible refine (impl_Table_size.calls k1 _ _ x290000_1 t288 t290 _ ?side1 ?side2 A13.out).mono ?_
    (case side1 => exact zc (Kd.R_reads' HO_290000.out).2.2)
    (case side2 => exact (Kd.R_reads' HO_290000.out).2.1)
    rintro e w28 ⟨rfl, hb⟩
    refine ⟨_, rfl, ?_⟩
    replace HO_290000 := Aside0.mk (Kd.R_below (zr HO_290000) hb)
    replace BK283 := Aside0.mk (blk_below (g := gb283) (o := .cells #[.slice A0_0 l0_0.length c0_0, .int .i64 a0_1] 25 (0, 0)) (zk BK283) hb)
    replace BK284 := Aside0.mk (blk_below (g := gb284) (o := .cells #[.slice none 0 0, .int .i64 0] 25 (0, 0)) (zk BK284) hb)
    replace BK289 := Aside0.mk (blk_below (g := gb289) (o := .cells #[.slice Ao27 x290000_1.length co27, .int .i64 t288] 25 (0, 0)) (zk BK289) hb)
    replace HB := Aside0.mk (below_step (zb HB) hb)
    (try clear hb)
    refine hK.out _ _ ⟨(blk_cell BK289.out 0).trans rfl, (blk_cell BK289.out 1).trans rfl⟩ (fun hHeld => ?_)
    clear hK K
    refine nm ?_
    refine pu 4 (some 10) (bm 5 31) rfl rfl ?_
    refine done_ (by kernel_rfl) ?_
    have hnb29 := NB289_283.out
    have hnc29 := NB283_289.out
    have hnb30 := NB289_284.out
    have hnc30 := NB284_289.out
    have hcz31_0 : w28.cell? ⟨gb289, 0, none⟩ = some (.slice Ao27 x290000_1.length co27) := (blk_cell BK289.out 0).trans rfl
    have hcz31_1 : w28.cell? ⟨gb289, 1, none⟩ = some (.int .i64 t288) := (blk_cell BK289.out 1).trans rfl
    have hfz31_0 := blk_frozen BK289.out 0
    have hfz31_1 := blk_frozen BK289.out 1
    try go_wp2_with (first | ((with_reducible refine gq 69 rfl ?_); refine gl (some 20) Try.func69 #[.agg #[.slice Ao27 x290000_1.length co27, .int .i64 t288]] ?_; (with_reducible refine (impl_Table_clone.calls _ _ x290000_1 t288 t294 t297 _ ?side1 ?side2 A25.out).mono ?_); (case side1 => exact zc (Kd.R_reads' HO_290000.out).2.2); (case side2 => exact (Kd.R_reads' HO_290000.out).2.1); rintro e w32 ⟨v295, rfl, ho0, hb⟩; refine ⟨_, rfl, ?_⟩; have HO296 := Aside0.mk (Kd.R_lower (Kd.R_new' ho0 (Kd.R_lt (zr HO_290000))) (below_size (zb HB))); replace HO_290000 := Aside0.mk (Kd.R_elder' (zr HO_290000) (Kd.R_base ho0) hb); replace BK283 := Aside0.mk (blk_below (g := gb283) (o := .cells #[.slice A0_0 l0_0.length c0_0, .int .i64 a0_1] 25 (0, 0)) (zk BK283) hb); replace BK284 := Aside0.mk (blk_below (g := gb284) (o := .cells #[.slice none 0 0, .int .i64 0] 25 (0, 0)) (zk BK284) hb); replace BK289 := Aside0.mk (blk_below (g := gb289) (o := .cells #[.slice Ao27 x290000_1.length co27, .int .i64 t288] 25 (0, 0)) (zk BK289) hb); replace HB := Aside0.mk (below_step (zb HB) hb); (try clear hb); (try clear ho0); obtain ⟨Ao33, co33, eo33⟩ := Kd.R_slice HO296.out; subst eo33; have hnb34 := NB284_283.out; have hnc34 := NB283_284.out; have hcz35_0 : w32.cell? ⟨gb284, 0, none⟩ = some (.slice none 0 0) := (blk_cell BK284.out 0).trans rfl; have hcz35_1 : w32.cell? ⟨gb284, 1, none⟩ = some (.int .i64 0) := (blk_cell BK284.out 1).trans rfl; have hfz35_0 := blk_frozen BK284.out 0; have hfz35_1 := blk_frozen BK284.out 1))
    refine bodyPost_ret (results_cell_row rfl _ _ gb284 25 #[.slice Ao33 t294.length co33, .int .i64 t297] (0, 0) _ rfl (by (with_reducible repeat (first | refine blk_drewN ?_ _ | refine blk_drew ?_ | refine blk_alloc ?_ _)); refine blk_put (cs := #[.slice Ao33 t294.length co33, .int .i64 0]) ?_ 1 _ rfl; (with_reducible repeat (first | refine blk_drewN ?_ _ | refine blk_drew ?_ | refine blk_alloc ?_ _)); refine blk_put (cs := #[.slice none 0 0, .int .i64 0]) ?_ 0 _ rfl; exact zk BK284) Try.underlying25 rfl (by kernel_rfl)) rfl ?_
    exact ⟨_, ze, by (with_reducible repeat (first | apply Kd.R_alloc | apply Kd.R_drewN | apply Kd.R_drew)); exact Kd.R_mono (Kd.R_far (p := ⟨gb284, 1, none⟩) (Kd.R_far (p := ⟨gb284, 0, none⟩) (Kd.R_types HO296.out BK284.out (by decide)) (fun _ hk => hk.2) (.slice Ao33 t294.length co33)) (fun _ hk => hk.2) (.int .i64 t297)) (fun _ hk => trivial), zb HB⟩

-- NOT PRINTED: function 88 (Grow_Field)

end Go.Proofs.Ytdhahifdcoinhaa.PFnTableAdd
