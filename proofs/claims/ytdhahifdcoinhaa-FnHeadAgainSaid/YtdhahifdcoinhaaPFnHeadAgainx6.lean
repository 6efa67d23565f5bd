-- WRITTEN BY a turned print (wip/tools of the prover's repo)
import Derived.Test.YtdhahifdcoinhaaPFnHeadAgainx0
import Derived.Test.YtdhahifdcoinhaaPFnHeadAgainx2
import Derived.Test.YtdhahifdcoinhaaPFnHeadAgainx4
import Derived.Test.YtdhahifdcoinhaaPFnHeadAgainx5
namespace Go.Proofs.Ytdhahifdcoinhaa.PFnHeadAgain
open Go.RowKit Go.Proofs.YtdhahifdcoinhaaW.PrintWords Go.Proofs.YtdhahifdcoinhaaW.PrintLast Go.Proofs.YtdhahifdcoinhaaW.PrintMore Go.Proofs.Ytdhahifdcoinhaa.Lm
attribute [local go_sem] max2_int min2_int max_two min_two max_three min_three max_four min_four   -- for this text's walks alone
set_option linter.unusedVariables false
set_option linter.unusedSimpArgs false

/-! ### spec_l71Table: function 46 -/
-- thin
def spec_l71Table.l0 : Nat → Int → List Int → Int → List (S36) → Int → Option ((List (S36)) × Int × Int)
 | 0, _, _, _, _, _ => none
 | k + 1, x4, x1000, x1001, x241000, x241001 => if x4 > 0 then ((spec_l71Field.f k x1000 x1001).bind fun bt243 => ((spec_FieldOk.f k bt243.1 bt243.2.1 bt243.2.2.1).bind fun t248 => (if t248 = true then ((spec_l3Add.f k x241000 x241001 bt243.1 bt243.2.1 bt243.2.2.1).bind fun bt249 => (spec_l71Table.l0 k (wrap64 (x4 - 1)) x1000 bt243.2.2.2 bt249.1 bt249.2)) else (spec_l71Table.l0 k (wrap64 (x4 - 1)) x1000 bt243.2.2.2 x241000 x241001)))) else ((spec_l6Rd_pick.f k x1000 x1001 24).bind fun bt253 => (if bt253.1 = 0 then ((some (([(-1), 65, 3] : List Int) : List Int)).bind fun y255 => ((spec_l6Rd_pick.f k x1000 bt253.2 3).bind fun bt258 => (if 0 ≤ bt258.1 then (if bt258.1 < (y255.length : Int) then (some (x241000, rd y255 bt258.1, bt258.2)) else (none)) else (none)))) else (if bt253.1 = 1 then ((spec_l71Field.f k x1000 bt253.2).bind fun bt261 => ((spec_l71Field.f k x1000 bt261.2.2.2).bind fun bt265 => ((spec_l71Field.f k x1000 bt265.2.2.2).bind fun bt269 => ((some (([(⟨bt261.1, bt261.2.1, bt261.2.2.1⟩ : S36), (⟨bt265.1, bt265.2.1, bt265.2.2.1⟩ : S36), (⟨bt269.1, bt269.2.1, bt269.2.2.1⟩ : S36)] : List (S36)) : List (S36))).bind fun y273 => (if x241000.length + y273.length < 3518437208883 then (some ((x241000 ++ y273), x241001, bt269.2.2.2)) else (none)))))) else (some (x241000, x241001, bt253.2)))))
def spec_l71Table.f (k : Nat) (s0_0 : List Int) (s0_1 : Int) : Option ((List (S36)) × Int × Int) := (some (([64, 64, 40, 20, 0] : List Int) : List Int)).bind fun y234 => ((spec_l6Rd_pick.f k s0_0 s0_1 5).bind fun bt237 => (if 0 ≤ bt237.1 then (if bt237.1 < (y234.length : Int) then ((spec_l6Rd_pick.f k s0_0 bt237.2 7).bind fun bt241 => (spec_l71Table.l0 k bt241.1 s0_0 bt241.2 (([] : List (S36))) (rd y234 bt237.1))) else (none)) else (none)))
theorem spec_l71Table.mono_l : ∀ k, (∀ y0 y1 y2 y3 y4, LeO (spec_l71Table.l0 k y0 y1 y2 y3 y4) (spec_l71Table.l0 (k + 1) y0 y1 y2 y3 y4))
 | 0 => fun _ _ _ _ _ r h => by simp [spec_l71Table.l0] at h
 | k + 1 => by
  have ih0 := spec_l71Table.mono_l k
  ·intro y0 y1 y2 y3 y4
   unfold spec_l71Table.l0
   repeat' first
   | (with_reducible exact ih0 _ _ _ _ _)
   | (with_reducible exact spec_FieldOk.mono _ _ _ _)
   | (with_reducible exact spec_l3Add.mono _ _ _ _ _ _)
   | (with_reducible exact spec_l6Rd_pick.mono _ _ _ _)
   | (with_reducible exact spec_l71Field.mono _ _ _)
   | (with_reducible exact LeO.refl _)
   | (with_reducible exact LeO.none _)
   | (with_reducible refine LeO.ite ?_ ?_)
   | (with_reducible refine LeO.bind ?_ (fun _ => ?_))
   | exact ih0 _ _ _ _ _
   | exact spec_FieldOk.mono _ _ _ _
   | exact spec_l3Add.mono _ _ _ _ _ _
   | exact spec_l6Rd_pick.mono _ _ _ _
   | exact spec_l71Field.mono _ _ _
   | exact LeO.none _
   | refine LeO.ite ?_ ?_
   | refine LeO.bind ?_ (fun _ => ?_)
theorem spec_l71Table.mono : ∀ a0 a1 k, LeO (spec_l71Table.f k a0 a1) (spec_l71Table.f (k + 1) a0 a1) := by
 intro a0 a1 k
 have ih0 := spec_l71Table.mono_l k
 unfold spec_l71Table.f
 repeat' first
   | (with_reducible exact ih0 _ _ _ _ _)
   | (with_reducible exact spec_FieldOk.mono _ _ _ _)
   | (with_reducible exact spec_l3Add.mono _ _ _ _ _ _)
   | (with_reducible exact spec_l6Rd_pick.mono _ _ _ _)
   | (with_reducible exact spec_l71Field.mono _ _ _)
   | (with_reducible exact LeO.refl _)
   | (with_reducible exact LeO.none _)
   | (with_reducible refine LeO.ite ?_ ?_)
   | (with_reducible refine LeO.bind ?_ (fun _ => ?_))
   | exact ih0 _ _ _ _ _
   | exact spec_FieldOk.mono _ _ _ _
   | exact spec_l3Add.mono _ _ _ _ _ _
   | exact spec_l6Rd_pick.mono _ _ _ _
   | exact spec_l71Field.mono _ _ _
   | exact LeO.none _
   | refine LeO.ite ?_ ?_
   | refine LeO.bind ?_ (fun _ => ?_)
def spec_l71Table.T12 : Bool × List (List Nat × List Nat) := (true, [([], []), ([0], [0]), ([], []), ([2], [2]), ([], []), ([4, 3], [4]), ([], []), ([6, 5], [6]), ([3, 5, 7], [3, 5, 7]), ([1, 8, 7], [1, 8]), ([0, 1, 2, 3, 4, 5, 6, 7, 8, 9], []), ([10, 9, 9, 0, 1, 2, 3, 4, 5, 6, 7, 8, 9], [9, 10])])
def spec_l71Table.B12 : List Nat := [0, 1, 0, 4, 0, 28, 0, 124, 252, 511, 1023, 2047]
theorem spec_l71Table.tab12 : rtab .any (opsOf Try.f46 12) = spec_l71Table.T12 := by kernel_rfl
theorem spec_l71Table.bits12 : waitsOk spec_l71Table.T12.2 spec_l71Table.B12 = true := by kernel_rfl
set_option maxHeartbeats 8000000 in
set_option maxRecDepth 100000 in
theorem spec_l71Table.calls (k : Nat) (g : Nat) (s0_0 : List Int) (s0_1 : Int) (r1 : List (S36)) (r2 : Int) (r3 : Int) (w0 w : World) (hI : IsS85 w0 w g s0_0 s0_1) (hB : Below w0.heap.size w0 w) (h : spec_l71Table.f k s0_0 s0_1 = some (r1, r2, r3)) :
  Calls Try.prog 46 #[.pointer (some ⟨g, 0, none⟩)] w fun e w' => ∃ v0_ : Value, e = .returned (.agg #[v0_, .int .i64 r2]) ∧ Kd.R k36 36 w' w.heap.size (fun _ => True) v0_ r1 ∧ IsS85 w0 w' g s0_0 r3 ∧ Below w0.heap.size w0 w' ∧ KeepBut w w' g none := by
 have hu25 := Try.underlying25
 have hu36 := Try.underlying36
 have HI0 := Aside0.mk hI
 have HK := Aside0.mk (KeepBut.refl w g none)
 have HL := Aside0.mk hB.size
 clear hI
 have HW0 := Aside0.mk hB.size
 have HB := Aside0.mk hB
 clear hB
 have H : ((some (([64, 64, 40, 20, 0] : List Int) : List Int)).bind fun y234 => ((spec_l6Rd_pick.f k s0_0 s0_1 5).bind fun bt237 => (if 0 ≤ bt237.1 then (if bt237.1 < (y234.length : Int) then ((spec_l6Rd_pick.f k s0_0 bt237.2 7).bind fun bt241 => (spec_l71Table.l0 k bt241.1 s0_0 bt241.2 (([] : List (S36))) (rd y234 bt237.1))) else (none)) else (none)))) = some (r1, r2, r3) := h
 clear h
 obtain ⟨y231, hy231⟩ : ∃ y_ : List (S36), y_ = (([] : List (S36))) := ⟨_, rfl⟩
 replace H : ((some (([64, 64, 40, 20, 0] : List Int) : List Int)).bind fun y234 => ((spec_l6Rd_pick.f k s0_0 s0_1 5).bind fun bt237 => (if 0 ≤ bt237.1 then (if bt237.1 < (y234.length : Int) then ((spec_l6Rd_pick.f k s0_0 bt237.2 7).bind fun bt241 => (spec_l71Table.l0 k bt241.1 s0_0 bt241.2 y231 (rd y234 bt237.1))) else (none)) else (none)))) = some (r1, r2, r3) := by first | (rw [hy231]; with_reducible exact H) | (have H2_ := (Option.bind_some _ _).symm.trans H; rw [hy231]; with_reducible exact H2_) | (have H2_ := (Option.bind_some _ _).symm.trans H; with_reducible exact H2_) | with_reducible exact H | (rw [hy231]; exact H) | exact H
 have Ny231 := Aside0.mk hy231
 clear hy231
 obtain ⟨y234, hy234⟩ : ∃ y_ : List Int, y_ = (([64, 64, 40, 20, 0] : List Int)) := ⟨_, rfl⟩
 replace H : ((spec_l6Rd_pick.f k s0_0 s0_1 5).bind fun bt237 => (if 0 ≤ bt237.1 then (if bt237.1 < (y234.length : Int) then ((spec_l6Rd_pick.f k s0_0 bt237.2 7).bind fun bt241 => (spec_l71Table.l0 k bt241.1 s0_0 bt241.2 y231 (rd y234 bt237.1))) else (none)) else (none))) = some (r1, r2, r3) := by first | (rw [hy234]; with_reducible exact H) | (have H2_ := (Option.bind_some _ _).symm.trans H; rw [hy234]; with_reducible exact H2_) | (have H2_ := (Option.bind_some _ _).symm.trans H; with_reducible exact H2_) | with_reducible exact H | (rw [hy234]; exact H) | exact H
 have Ny234 := Aside0.mk hy234
 clear hy234
 replace H := Option.bind_eq_some_iff.mp H
 obtain ⟨⟨t237, t238⟩, A20, H⟩ := H
 replace H : (if 0 ≤ t237 then (if t237 < (y234.length : Int) then ((spec_l6Rd_pick.f k s0_0 t238 7).bind fun bt241 => (spec_l71Table.l0 k bt241.1 s0_0 bt241.2 y231 (rd y234 t237))) else (none)) else (none)) = some (r1, r2, r3) := H
 have A2 := Aside0.mk A20
 clear A20
 by_cases c3 : 0 ≤ t237
 ·rw [if_pos c3] at H
  have c3b0 : decide (0 ≤ t237) = true := decide_eq_true c3
  clear c3
  by_cases c4 : t237 < (y234.length : Int)
  ·rw [if_pos c4] at H
   have c4b0 : decide (t237 < (y234.length : Int)) = true := decide_eq_true c4
   clear c4
   replace H := Option.bind_eq_some_iff.mp H
   obtain ⟨⟨t241, t242⟩, A50, H⟩ := H
   replace H : (spec_l71Table.l0 k t241 s0_0 t242 y231 (rd y234 t237)) = some (r1, r2, r3) := H
   have A5 := Aside0.mk A50
   clear A50
   have H' := Aside0.mk H
   clear H
   go_enter Try.func46, Try.ntmps46
   go_wp2_with (first | ((with_reducible refine gd 2 rfl ?_); refine bx (N := 2) (cs := #[.slice none 0 0, .int .i64 0]) (t := 25) ?_; intro gb230 hg w6 hbox hb; replace HB := Aside0.mk (below_step (zg85 HB) hb); have BK230 := Aside0.mk (hbox); have GW230 := Aside0.mk ((by rw [hg]; exact (keep_size (w := w) (g := g) (row := none) (zh HK)) : w.heap.size ≤ gb230)); have GE230 := Aside0.mk ((Nat.le_trans HW0.out (by rw [hg]; exact (keep_size (w := w) (g := g) (row := none) (zh HK)) : w.heap.size ≤ gb230) : w0.heap.size ≤ gb230)); replace HK := Aside0.mk (KeepBut.trans (zh HK) (KeepBut.of_below hb g none) (.inl rfl)); have NB0_230 := Aside0.mk ((by rw [hg]; exact Nat.ne_of_lt (IsS85.lt (show IsS85 w0 _ g s0_0 s0_1 from zi85 HI0)) : g ≠ gb230)); have NB230_0 := Aside0.mk ((by rw [hg]; exact Nat.ne_of_gt (IsS85.lt (show IsS85 w0 _ g s0_0 s0_1 from zi85 HI0)) : gb230 ≠ g)); replace HI0 := Aside0.mk (IsS85.below (zi85 HI0) hb); clear hb hbox hg) | ((with_reducible refine gd 6 rfl ?_); refine Kd.R_lit k36 _ 36 ?hg (N := 6) ?hd (xs := ([] : List (S36))) (inner := []) (ok := fun _ => True) (okp := fun _ => True) ?hr ?hp (fun _ hk => hk) trivial (Below.refl _ _) (Nat.le_refl _) (by simp) ?_; (case hd => rfl); (case hg => rfl); (case hr => first | (go_simp; done) | (go_simp; rfl)); (case hp => exact (Reps.none _ _)); intro v232 w7 ho8 hb hg_ hnew_; clear hg_ hnew_; (first | rw [← Ny231.out] at ho8 | (simp only [Int.reduceToNat] at ho8; rw [← Ny231.out] at ho8)); have HO233 := Aside0.mk (Kd.R_lower ho8 (keep_size (w := w) (g := g) (row := none) (zh HK))); replace HI0 := Aside0.mk (IsS85.below (zi85 HI0) hb); replace BK230 := Aside0.mk (blk_below (g := gb230) (o := .cells #[.slice none 0 0, .int .i64 0] 25 (0, 0)) (zk BK230) hb); replace HK := Aside0.mk (KeepBut.trans (zh HK) (KeepBut.of_below hb g none) (.inl rfl)); replace HB := Aside0.mk (below_step (zg85 HB) hb); clear hb ho8) | ((with_reducible refine gd 7 rfl ?_); refine Kd.R_lit (Kd.int .i64) _ 3 ?hg (N := 7) ?hd (xs := ([64, 64, 40, 20, 0] : List Int)) (inner := [.int .i64 64, .int .i64 64, .int .i64 40, .int .i64 20, .int .i64 0]) (ok := fun _ => True) (okp := fun _ => True) ?hr ?hp (fun _ hk => hk) trivial (Below.refl _ _) (Nat.le_refl _) (by simp) ?_; (case hd => rfl); (case hg => rfl); (case hr => first | (go_simp; done) | (go_simp; rfl)); (case hp => exact (Reps.one (show Kd.M (Kd.int .i64) _ _ _ 64 [.int .i64 64] from rfl) (Reps.one (show Kd.M (Kd.int .i64) _ _ _ 64 [.int .i64 64] from rfl) (Reps.one (show Kd.M (Kd.int .i64) _ _ _ 40 [.int .i64 40] from rfl) (Reps.one (show Kd.M (Kd.int .i64) _ _ _ 20 [.int .i64 20] from rfl) (Reps.one (show Kd.M (Kd.int .i64) _ _ _ 0 [.int .i64 0] from rfl) (Reps.none _ _))))))); intro v235 w9 ho10 hb hg_ hnew_; clear hg_ hnew_; (first | rw [← Ny234.out] at ho10 | (simp only [Int.reduceToNat] at ho10; rw [← Ny234.out] at ho10)); replace HO233 := Aside0.mk (Kd.R_below (zr HO233) hb); have HO236 := Aside0.mk (Kd.R_lower ho10 (keep_size (w := w) (g := g) (row := none) (zh HK))); replace HI0 := Aside0.mk (IsS85.below (zi85 HI0) hb); replace BK230 := Aside0.mk (blk_below (g := gb230) (o := .cells #[.slice none 0 0, .int .i64 0] 25 (0, 0)) (zk BK230) hb); replace HK := Aside0.mk (KeepBut.trans (zh HK) (KeepBut.of_below hb g none) (.inl rfl)); replace HB := Aside0.mk (below_step (zg85 HB) hb); clear hb ho10) | ((with_reducible refine gq 47 rfl ?_); refine gl (some 9) Try.func47 #[.pointer (some ⟨g, 0, none⟩), .int .i64 5] ?_; (with_reducible refine (spec_l6Rd_pick.calls k g s0_0 s0_1 5 t237 t238 w0 _ ?side1 ?side2 A2.out).mono ?_); (case side1 => exact zi85 HI0); (case side2 => exact zg85 HB); rintro e w11 ⟨rfl, hi, hb, hk⟩; refine ⟨_, rfl, ?_⟩; replace BK230 := Aside0.mk (KeepBut.blk hk (g' := gb230) (o := .cells #[.slice none 0 0, .int .i64 0] 25 (0, 0)) (zk BK230) NB230_0.out (by simp)); replace HO233 := Aside0.mk (Kd.R_mono (Kd.R_keep (IsS85.apart (show IsS85 w0 _ g s0_0 s0_1 from zi85 HI0) (zr HO233) (by decide)) hk (fun _ h => h.2)) (fun _ h => h.1)); replace HO236 := Aside0.mk (Kd.R_mono (Kd.R_keep (IsS85.apart (show IsS85 w0 _ g s0_0 s0_1 from zi85 HI0) (zr HO236) (by decide)) hk (fun _ h => h.2)) (fun _ h => h.1)); replace HK := Aside0.mk (KeepBut.trans (zh HK) hk (.inl rfl)); replace HB := Aside0.mk (hb); replace HI0 := Aside0.mk (hi); (try clear hb); (try clear hk); (try clear hi); obtain ⟨Ao12, co12, eo12⟩ := Kd.R_slice HO236.out; subst eo12; have p239 : 0 ≤ (t237 : Int) := of_decide_eq_true za; have q239 : t237 < (y234.length : Int) := of_decide_eq_true za; obtain ⟨ad239, e239, hx239_0⟩ := Kd.at_int (Kd.R_reads' HO236.out).2.2 t237 p239 q239; cases e239; replace p239 := eq_true p239; replace q239 := eq_true q239; obtain ⟨Ao13, co13, eo13⟩ := Kd.R_slice HO233.out; subst eo13) | ((with_reducible refine gd 3 rfl ?_); refine bx (N := 3) (cs := #[.slice none 0 0, .int .i64 0]) (t := 25) ?_; intro gb240 hg w14 hbox hb; replace HO233 := Aside0.mk (Kd.R_below (zr HO233) hb); replace HO236 := Aside0.mk (Kd.R_below (zr HO236) hb); replace HB := Aside0.mk (below_step (zg85 HB) hb); have BK240 := Aside0.mk (hbox); have GW240 := Aside0.mk ((by rw [hg]; exact (keep_size (w := w) (g := g) (row := none) (zh HK)) : w.heap.size ≤ gb240)); have GE240 := Aside0.mk ((Nat.le_trans HW0.out (by rw [hg]; exact (keep_size (w := w) (g := g) (row := none) (zh HK)) : w.heap.size ≤ gb240) : w0.heap.size ≤ gb240)); replace HK := Aside0.mk (KeepBut.trans (zh HK) (KeepBut.of_below hb g none) (.inl rfl)); have NB230_240 := Aside0.mk ((by rw [hg]; exact Nat.ne_of_lt (blk_lt (g := gb230) (o := .cells #[.slice none 0 0, .int .i64 0] 25 (0, 0)) (zk BK230)) : gb230 ≠ gb240)); have NB240_230 := Aside0.mk ((by rw [hg]; exact Nat.ne_of_gt (blk_lt (g := gb230) (o := .cells #[.slice none 0 0, .int .i64 0] 25 (0, 0)) (zk BK230)) : gb240 ≠ gb230)); replace BK230 := Aside0.mk (blk_below (g := gb230) (o := .cells #[.slice none 0 0, .int .i64 0] 25 (0, 0)) (zk BK230) hb); have NB0_240 := Aside0.mk ((by rw [hg]; exact Nat.ne_of_lt (IsS85.lt (show IsS85 w0 _ g s0_0 t238 from zi85 HI0)) : g ≠ gb240)); have NB240_0 := Aside0.mk ((by rw [hg]; exact Nat.ne_of_gt (IsS85.lt (show IsS85 w0 _ g s0_0 t238 from zi85 HI0)) : gb240 ≠ g)); replace HI0 := Aside0.mk (IsS85.below (zi85 HI0) hb); clear hb hbox hg; have hnb15 := NB240_230.out; have hnc15 := NB230_240.out; have hnb16 := NB240_0.out; have hnc16 := NB0_240.out; have hcz17_0 : w14.cell? ⟨gb240, 0, none⟩ = some (.slice none 0 0) := (blk_cell BK240.out 0).trans rfl; have hcz17_1 : w14.cell? ⟨gb240, 1, none⟩ = some (.int .i64 0) := (blk_cell BK240.out 1).trans rfl; have hfz17_0 := blk_frozen BK240.out 0; have hfz17_1 := blk_frozen BK240.out 1) | ((with_reducible refine gq 47 rfl ?_); refine gl (some 14) Try.func47 #[.pointer (some ⟨g, 0, none⟩), .int .i64 7] ?_; (with_reducible refine (spec_l6Rd_pick.calls k g s0_0 t238 7 t241 t242 w0 _ ?side1 ?side2 A5.out).mono ?_); (case side1 => exact zi85 HI0); (case side2 => exact zg85 HB); rintro e w18 ⟨rfl, hi, hb, hk⟩; refine ⟨_, rfl, ?_⟩; replace BK230 := Aside0.mk (KeepBut.blk hk (g' := gb230) (o := .cells #[.slice none 0 0, .int .i64 0] 25 (0, 0)) (by (with_reducible repeat (first | refine blk_drewN ?_ _ | refine blk_drew ?_ | refine blk_alloc ?_ _)); refine blk_far ?_ NB230_240.out _; (with_reducible repeat (first | refine blk_drewN ?_ _ | refine blk_drew ?_ | refine blk_alloc ?_ _)); refine blk_far ?_ NB230_240.out _; exact zk BK230) NB230_0.out (by simp)); replace HO233 := Aside0.mk (Kd.R_mono (Kd.R_keep (IsS85.apart (show IsS85 w0 _ g s0_0 t238 from zi85 HI0) (by (with_reducible repeat (first | apply Kd.R_alloc | apply Kd.R_drewN | apply Kd.R_drew)); exact (Kd.R_mono (Kd.R_far (p := ⟨gb240, 1, none⟩) (Kd.R_far (p := ⟨gb240, 0, none⟩) (Kd.R_types HO233.out BK240.out (by decide)) (fun _ hk => hk.2) (.slice Ao13 y231.length co13)) (fun _ hk => hk.2) (.int .i64 (rd y234 t237))) (fun _ h_ => h_.1))) (by decide)) hk (fun _ h => h.2)) (fun _ h => h.1)); replace HO236 := Aside0.mk (Kd.R_mono (Kd.R_keep (IsS85.apart (show IsS85 w0 _ g s0_0 t238 from zi85 HI0) (by (with_reducible repeat (first | apply Kd.R_alloc | apply Kd.R_drewN | apply Kd.R_drew)); exact (Kd.R_mono (Kd.R_far (p := ⟨gb240, 1, none⟩) (Kd.R_far (p := ⟨gb240, 0, none⟩) (Kd.R_types HO236.out BK240.out (by decide)) (fun _ hk => hk.2) (.slice Ao13 y231.length co13)) (fun _ hk => hk.2) (.int .i64 (rd y234 t237))) (fun _ h_ => h_.1))) (by decide)) hk (fun _ h => h.2)) (fun _ h => h.1)); replace BK240 := Aside0.mk (KeepBut.blk hk (g' := gb240) (o := .cells #[.slice Ao13 y231.length co13, .int .i64 (rd y234 t237)] 25 (0, 0)) (by (with_reducible repeat (first | refine blk_drewN ?_ _ | refine blk_drew ?_ | refine blk_alloc ?_ _)); refine blk_put (cs := #[.slice Ao13 y231.length co13, .int .i64 0]) ?_ 1 _ rfl; (with_reducible repeat (first | refine blk_drewN ?_ _ | refine blk_drew ?_ | refine blk_alloc ?_ _)); refine blk_put (cs := #[.slice none 0 0, .int .i64 0]) ?_ 0 _ rfl; exact zk BK240) NB240_0.out (by simp)); replace HK := Aside0.mk (KeepBut.trans (zh HK) hk (.inl rfl)); replace HB := Aside0.mk (hb); replace HI0 := Aside0.mk (hi); (try clear hb); (try clear hk); (try clear hi)))
   go_loopg [4] k (fun kq v4 w' => ∃ (x4_1 : Int) (x1001_1 : Int) (x241000_1 : List (S36)) (x241001_1 : Int) (u241000 : Value), v4 = .int .i64 x4_1 ∧ Aside0 (spec_l71Table.l0 kq x4_1 s0_0 x1001_1 x241000_1 x241001_1 = some (r1, r2, r3)) ∧ Aside0 (kq ≤ k) ∧ Aside0 (Kd.R k36 36 w' w.heap.size (fun _ => True) u241000 x241000_1) ∧ Aside0 (w'.heap[gb230]? = some (.cells #[(.slice none 0 0), .int .i64 0] 25 (0, 0))) ∧ Aside0 (w'.heap[gb240]? = some (.cells #[u241000, .int .i64 x241001_1] 25 (0, 0))) ∧ Aside0 (IsS85 w0 w' g s0_0 x1001_1) ∧ Aside0 (KeepBut w w' g none) ∧ Aside0 (Below w0.heap.size w0 w'))
   case atStart => exact ⟨(t241), (t242), (y231), (rd y234 t237), (.slice Ao13 y231.length co13), zs, H', ⟨Nat.le_refl _⟩, ⟨by exact zr HO233⟩, ⟨by exact zk BK230⟩, ⟨by exact zk BK240⟩, ⟨zi85 HI0⟩, ⟨zh HK⟩, ⟨zg85 HB⟩⟩
   case round =>
    clear H'
    try clear c1
    try clear p2
    try clear q2
    try clear hx2
    try clear c3
    try clear c3b0
    try clear c4
    try clear c4b0
    try clear c15
    try clear c16
    try clear hcz17_0
    try clear hcz17_1
    try clear hfz17_0
    try clear hfz17_1
    try clear hx239_0
    try clear p239
    try clear q239
    obtain ⟨x4_1, x1001_1, x241000_1, x241001_1, u241000, rfl, HA, HK1, HO_241000, BK230, BK240, HI0, HK, HB⟩ := hrel
    cases gk with
    | zero => exact absurd HA.out (by simp [spec_l71Table.l0])
    | succ k1 =>
     have H := HA.out
     clear HA
     simp only [spec_l71Table.l0] at H
     by_cases c19 : x4_1 > 0
     ·rw [if_pos c19] at H
      have c19b0 : decide (0 < x4_1) = true := decide_eq_true c19
      clear c19
      replace H := Option.bind_eq_some_iff.mp H
      obtain ⟨⟨t243, t244, t245, t246⟩, A200, H⟩ := H
      replace H : ((spec_FieldOk.f k1 t243 t244 t245).bind fun t248 => (if t248 = true then ((spec_l3Add.f k1 x241000_1 x241001_1 t243 t244 t245).bind fun bt249 => (spec_l71Table.l0 k1 (wrap64 (x4_1 - 1)) s0_0 t246 bt249.1 bt249.2)) else (spec_l71Table.l0 k1 (wrap64 (x4_1 - 1)) s0_0 t246 x241000_1 x241001_1))) = some (r1, r2, r3) := H
      have A20 := Aside0.mk A200
      clear A200
      replace H := Option.bind_eq_some_iff.mp H
      obtain ⟨t248, A210, H⟩ := H
      replace H : (if t248 = true then ((spec_l3Add.f k1 x241000_1 x241001_1 t243 t244 t245).bind fun bt249 => (spec_l71Table.l0 k1 (wrap64 (x4_1 - 1)) s0_0 t246 bt249.1 bt249.2)) else (spec_l71Table.l0 k1 (wrap64 (x4_1 - 1)) s0_0 t246 x241000_1 x241001_1)) = some (r1, r2, r3) := H
      have A21 := Aside0.mk A210
      clear A210
      have HC22 := Aside0.mk H
      clear H
      go_upto_if 22 with (first | ((with_reducible refine gq 58 rfl ?_); refine gl (some 20) Try.func58 #[.pointer (some ⟨g, 0, none⟩)] ?_; (with_reducible refine (spec_l71Field.calls k1 g s0_0 x1001_1 t243 t244 t245 t246 w0 _ ?side1 ?side2 A20.out).mono ?_); (case side1 => exact zi85 HI0); (case side2 => exact zg85 HB); rintro e w23 ⟨rfl, hi, hb, hk⟩; refine ⟨_, rfl, ?_⟩; replace HO_241000 := Aside0.mk (Kd.R_mono (Kd.R_keep (IsS85.apart (show IsS85 w0 _ g s0_0 x1001_1 from zi85 HI0) (zr HO_241000) (by decide)) hk (fun _ h => h.2)) (fun _ h => h.1)); replace BK230 := Aside0.mk (KeepBut.blk hk (g' := gb230) (o := .cells #[.slice none 0 0, .int .i64 0] 25 (0, 0)) (zk BK230) NB230_0.out (by simp)); replace BK240 := Aside0.mk (KeepBut.blk hk (g' := gb240) (o := .cells #[u241000, .int .i64 x241001_1] 25 (0, 0)) (zk BK240) NB240_0.out (by simp)); replace HK := Aside0.mk (KeepBut.trans (zh HK) hk (.inl rfl)); replace HB := Aside0.mk (hb); replace HI0 := Aside0.mk (hi); (try clear hb); (try clear hk); (try clear hi)) | ((with_reducible refine gd 5 rfl ?_); refine bx (N := 5) (cs := #[.string (⟨#[]⟩ : ByteArray), .string (⟨#[]⟩ : ByteArray), .bool false]) (t := 36) ?_; intro gb247 hg w24 hbox hb; replace HO_241000 := Aside0.mk (Kd.R_below (Kd.R_elderB (zr HO_241000) gb247 (Nat.le_of_eq hg.symm)) hb); replace HB := Aside0.mk (below_step (zg85 HB) hb); have BK247 := Aside0.mk (hbox); have GW247 := Aside0.mk ((by rw [hg]; exact (keep_size (w := w) (g := g) (row := none) (zh HK)) : w.heap.size ≤ gb247)); have GE247 := Aside0.mk ((Nat.le_trans HW0.out (by rw [hg]; exact (keep_size (w := w) (g := g) (row := none) (zh HK)) : w.heap.size ≤ gb247) : w0.heap.size ≤ gb247)); replace HK := Aside0.mk (KeepBut.trans (zh HK) (KeepBut.of_below hb g none) (.inl rfl)); have NB230_247 := Aside0.mk ((by rw [hg]; exact Nat.ne_of_lt (blk_lt (g := gb230) (o := .cells #[.slice none 0 0, .int .i64 0] 25 (0, 0)) (zk BK230)) : gb230 ≠ gb247)); have NB247_230 := Aside0.mk ((by rw [hg]; exact Nat.ne_of_gt (blk_lt (g := gb230) (o := .cells #[.slice none 0 0, .int .i64 0] 25 (0, 0)) (zk BK230)) : gb247 ≠ gb230)); replace BK230 := Aside0.mk (blk_below (g := gb230) (o := .cells #[.slice none 0 0, .int .i64 0] 25 (0, 0)) (zk BK230) hb); have NB240_247 := Aside0.mk ((by rw [hg]; exact Nat.ne_of_lt (blk_lt (g := gb240) (o := .cells #[u241000, .int .i64 x241001_1] 25 (0, 0)) (zk BK240)) : gb240 ≠ gb247)); have NB247_240 := Aside0.mk ((by rw [hg]; exact Nat.ne_of_gt (blk_lt (g := gb240) (o := .cells #[u241000, .int .i64 x241001_1] 25 (0, 0)) (zk BK240)) : gb247 ≠ gb240)); replace BK240 := Aside0.mk (blk_below (g := gb240) (o := .cells #[u241000, .int .i64 x241001_1] 25 (0, 0)) (zk BK240) hb); have NB0_247 := Aside0.mk ((by rw [hg]; exact Nat.ne_of_lt (IsS85.lt (show IsS85 w0 _ g s0_0 t246 from zi85 HI0)) : g ≠ gb247)); have NB247_0 := Aside0.mk ((by rw [hg]; exact Nat.ne_of_gt (IsS85.lt (show IsS85 w0 _ g s0_0 t246 from zi85 HI0)) : gb247 ≠ g)); replace HI0 := Aside0.mk (IsS85.below (zi85 HI0) hb); clear hb hbox hg; have hnb25 := NB247_230.out; have hnc25 := NB230_247.out; have hnb26 := NB247_240.out; have hnc26 := NB240_247.out; have hnb27 := NB247_0.out; have hnc27 := NB0_247.out; have hcz28_0 : w24.cell? ⟨gb247, 0, none⟩ = some (.string (⟨#[]⟩ : ByteArray)) := (blk_cell BK247.out 0).trans rfl; have hcz28_1 : w24.cell? ⟨gb247, 1, none⟩ = some (.string (⟨#[]⟩ : ByteArray)) := (blk_cell BK247.out 1).trans rfl; have hcz28_2 : w24.cell? ⟨gb247, 2, none⟩ = some (.bool false) := (blk_cell BK247.out 2).trans rfl; have hfz28_0 := blk_frozen BK247.out 0; have hfz28_1 := blk_frozen BK247.out 1; have hfz28_2 := blk_frozen BK247.out 2) | ((with_reducible refine gq 32 rfl ?_); refine gl (some 22) Try.func32 #[.agg #[.string t243, .string t244, .bool t245]] ?_; (with_reducible refine (spec_FieldOk.calls k1 t243 t244 t245 t248 _ A21.out).mono ?_); rintro e w29 ⟨rfl, hb⟩; refine ⟨_, rfl, ?_⟩; replace HO_241000 := Aside0.mk (Kd.R_below (by (with_reducible repeat (first | apply Kd.R_alloc | apply Kd.R_drewN | apply Kd.R_drew)); exact (Kd.R_mono (Kd.R_far (p := ⟨gb247, 2, none⟩) (Kd.R_far (p := ⟨gb247, 1, none⟩) (Kd.R_far (p := ⟨gb247, 0, none⟩) (Kd.R_mono HO_241000.out (fun k_ hk => (⟨hk, hk.2⟩ : _ ∧ k_ ≠ gb247))) (fun _ hk => hk.2) (.string t243)) (fun _ hk => hk.2) (.string t244)) (fun _ hk => hk.2) (.bool t245)) (fun _ h_ => h_.1))) hb); replace BK230 := Aside0.mk (blk_below (g := gb230) (o := .cells #[.slice none 0 0, .int .i64 0] 25 (0, 0)) (by (with_reducible repeat (first | refine blk_drewN ?_ _ | refine blk_drew ?_ | refine blk_alloc ?_ _)); refine blk_far ?_ NB230_247.out _; (with_reducible repeat (first | refine blk_drewN ?_ _ | refine blk_drew ?_ | refine blk_alloc ?_ _)); refine blk_far ?_ NB230_247.out _; (with_reducible repeat (first | refine blk_drewN ?_ _ | refine blk_drew ?_ | refine blk_alloc ?_ _)); refine blk_far ?_ NB230_247.out _; exact zk BK230) hb); replace BK240 := Aside0.mk (blk_below (g := gb240) (o := .cells #[u241000, .int .i64 x241001_1] 25 (0, 0)) (by (with_reducible repeat (first | refine blk_drewN ?_ _ | refine blk_drew ?_ | refine blk_alloc ?_ _)); refine blk_far ?_ NB240_247.out _; (with_reducible repeat (first | refine blk_drewN ?_ _ | refine blk_drew ?_ | refine blk_alloc ?_ _)); refine blk_far ?_ NB240_247.out _; (with_reducible repeat (first | refine blk_drewN ?_ _ | refine blk_drew ?_ | refine blk_alloc ?_ _)); refine blk_far ?_ NB240_247.out _; exact zk BK240) hb); replace HI0 := Aside0.mk (IsS85.below (show IsS85 w0 (((w24.setCell ⟨gb247, 0, none⟩ (.string t243)).setCell ⟨gb247, 1, none⟩ (.string t244)).setCell ⟨gb247, 2, none⟩ (.bool t245)) g s0_0 t246 from zi85 HI0) hb); replace BK247 := Aside0.mk (blk_below (g := gb247) (o := .cells #[.string t243, .string t244, .bool t245] 36 (0, 0)) (by (with_reducible repeat (first | refine blk_drewN ?_ _ | refine blk_drew ?_ | refine blk_alloc ?_ _)); refine blk_put (cs := #[.string t243, .string t244, .bool false]) ?_ 2 _ rfl; (with_reducible repeat (first | refine blk_drewN ?_ _ | refine blk_drew ?_ | refine blk_alloc ?_ _)); refine blk_put (cs := #[.string t243, .string (⟨#[]⟩ : ByteArray), .bool false]) ?_ 1 _ rfl; (with_reducible repeat (first | refine blk_drewN ?_ _ | refine blk_drew ?_ | refine blk_alloc ?_ _)); refine blk_put (cs := #[.string (⟨#[]⟩ : ByteArray), .string (⟨#[]⟩ : ByteArray), .bool false]) ?_ 0 _ rfl; exact zk BK247) hb); replace HK := Aside0.mk (KeepBut.trans (zh HK) (KeepBut.of_below hb g none) (.inl rfl)); replace HB := Aside0.mk (below_step (zg85 HB) hb); (try clear hb)))
      (try simp only [Act.put, s1, s2, s3])
      have H := HC22.out
      clear HC22
      by_cases c30 : t248 = true
      ·subst c30
       have H1 : ((spec_l3Add.f k1 x241000_1 x241001_1 t243 t244 t245).bind fun bt249 => (spec_l71Table.l0 k1 (wrap64 (x4_1 - 1)) s0_0 t246 bt249.1 bt249.2)) = some (r1, r2, r3) := by rw [if_pos rfl] at H; exact H
       clear H
       have H := H1
       clear H1
       replace H := Option.bind_eq_some_iff.mp H
       obtain ⟨⟨t249, t252⟩, A310, H⟩ := H
       replace H : (spec_l71Table.l0 k1 (wrap64 (x4_1 - 1)) s0_0 t246 t249 t252) = some (r1, r2, r3) := H
       have A31 := Aside0.mk A310
       clear A310
       have H' := Aside0.mk H
       clear H
       have hnb32 := NB240_230.out
       have hnc32 := NB230_240.out
       have hnb33 := NB240_247.out
       have hnc33 := NB247_240.out
       have hnb34 := NB240_0.out
       have hnc34 := NB0_240.out
       have hcz35_0 : w29.cell? ⟨gb240, 0, none⟩ = some (u241000) := (blk_cell BK240.out 0).trans rfl
       have hcz35_1 : w29.cell? ⟨gb240, 1, none⟩ = some (.int .i64 x241001_1) := (blk_cell BK240.out 1).trans rfl
       have hfz35_0 := blk_frozen BK240.out 0
       have hfz35_1 := blk_frozen BK240.out 1
       have hnb36 := NB247_230.out
       have hnc36 := NB230_247.out
       have hnb37 := NB247_0.out
       have hnc37 := NB0_247.out
       have hcz38_0 : w29.cell? ⟨gb247, 0, none⟩ = some (.string t243) := (blk_cell BK247.out 0).trans rfl
       have hcz38_1 : w29.cell? ⟨gb247, 1, none⟩ = some (.string t244) := (blk_cell BK247.out 1).trans rfl
       have hcz38_2 : w29.cell? ⟨gb247, 2, none⟩ = some (.bool t245) := (blk_cell BK247.out 2).trans rfl
       have hfz38_0 := blk_frozen BK247.out 0
       have hfz38_1 := blk_frozen BK247.out 1
       have hfz38_2 := blk_frozen BK247.out 2
       obtain ⟨Ao39, co39, eo39⟩ := Kd.R_slice HO_241000.out
       subst eo39
       go_wp2_with (first | ((with_reducible refine gq 60 rfl ?_); refine gl (some 25) Try.func60 #[.agg #[.slice Ao39 x241000_1.length co39, .int .i64 x241001_1], .agg #[.string t243, .string t244, .bool t245]] ?_; (with_reducible refine (spec_l3Add.calls k1 _ _ x241000_1 x241001_1 t243 t244 t245 t249 t252 _ ?side1 ?side2 A31.out).mono ?_); (case side1 => exact zc (Kd.R_reads' HO_241000.out).2.2); (case side2 => exact (Kd.R_reads' HO_241000.out).2.1); rintro e w40 ⟨v250, rfl, ho0, hb⟩; refine ⟨_, rfl, ?_⟩; have HO251 := Aside0.mk (Kd.R_lower (Kd.R_newB (Kd.R_new' ho0 (Kd.R_lt (zr HO_241000))) (g := gb247) (o := .cells #[.string t243, .string t244, .bool t245] 36 (0, 0)) (zk BK247)) (keep_size (w := w) (g := g) (row := none) (zh HK))); replace HO_241000 := Aside0.mk (Kd.R_elder' (zr HO_241000) (Kd.R_base ho0) hb); replace BK230 := Aside0.mk (blk_below (g := gb230) (o := .cells #[.slice none 0 0, .int .i64 0] 25 (0, 0)) (zk BK230) hb); replace BK240 := Aside0.mk (blk_below (g := gb240) (o := .cells #[.slice Ao39 x241000_1.length co39, .int .i64 x241001_1] 25 (0, 0)) (zk BK240) hb); replace HI0 := Aside0.mk (IsS85.below (zi85 HI0) hb); replace BK247 := Aside0.mk (blk_below (g := gb247) (o := .cells #[.string t243, .string t244, .bool t245] 36 (0, 0)) (zk BK247) hb); replace HK := Aside0.mk (KeepBut.trans (zh HK) (KeepBut.of_below hb g none) (.inl rfl)); replace HB := Aside0.mk (below_step (zg85 HB) hb); (try clear hb); (try clear ho0); obtain ⟨Ao41, co41, eo41⟩ := Kd.R_slice HO251.out; subst eo41; have hcz42_0 : w40.cell? ⟨gb240, 0, none⟩ = some (.slice Ao39 x241000_1.length co39) := (blk_cell BK240.out 0).trans rfl; have hcz42_1 : w40.cell? ⟨gb240, 1, none⟩ = some (.int .i64 x241001_1) := (blk_cell BK240.out 1).trans rfl; have hfz42_0 := blk_frozen BK240.out 0; have hfz42_1 := blk_frozen BK240.out 1))
       go_roundg k1
       case measure => have := HK1.out; omega
       case rel => exact ⟨(wrap64 (x4_1 - 1)), (t246), (t249), (t252), (.slice Ao41 t249.length co41), zs, H', ⟨by have := HK1.out; omega⟩, ⟨by (with_reducible repeat (first | apply Kd.R_alloc | apply Kd.R_drewN | apply Kd.R_drew)); exact Kd.R_mono (Kd.R_far (p := ⟨gb240, 1, none⟩) (Kd.R_far (p := ⟨gb240, 0, none⟩) (Kd.R_types HO251.out BK240.out (by decide)) (fun _ hk => hk.2) (.slice Ao41 t249.length co41)) (fun _ hk => hk.2) (.int .i64 t252)) (fun _ hk => trivial)⟩, ⟨by (with_reducible repeat (first | refine blk_drewN ?_ _ | refine blk_drew ?_ | refine blk_alloc ?_ _)); refine blk_far ?_ NB230_240.out _; (with_reducible repeat (first | refine blk_drewN ?_ _ | refine blk_drew ?_ | refine blk_alloc ?_ _)); refine blk_far ?_ NB230_240.out _; exact zk BK230⟩, ⟨by (with_reducible repeat (first | refine blk_drewN ?_ _ | refine blk_drew ?_ | refine blk_alloc ?_ _)); refine blk_put (cs := #[.slice Ao41 t249.length co41, .int .i64 x241001_1]) ?_ 1 _ rfl; (with_reducible repeat (first | refine blk_drewN ?_ _ | refine blk_drew ?_ | refine blk_alloc ?_ _)); refine blk_put (cs := #[.slice Ao39 x241000_1.length co39, .int .i64 x241001_1]) ?_ 0 _ rfl; exact zk BK240⟩, ⟨zi85 HI0⟩, ⟨zh HK⟩, ⟨zg85 HB⟩⟩
      ·replace c30 := Bool.eq_false_iff.mpr c30
       subst c30
       have H1 : (spec_l71Table.l0 k1 (wrap64 (x4_1 - 1)) s0_0 t246 x241000_1 x241001_1) = some (r1, r2, r3) := by rw [if_neg (show ¬ (false = true) by decide)] at H; exact H
       clear H
       have H := H1
       clear H1
       have H' := Aside0.mk H
       clear H
       go_wp2
       go_roundg k1
       case measure => have := HK1.out; omega
       case rel => exact ⟨(wrap64 (x4_1 - 1)), (t246), (x241000_1), (x241001_1), (u241000), zs, H', ⟨by have := HK1.out; omega⟩, ⟨by (with_reducible repeat (first | apply Kd.R_alloc | apply Kd.R_drewN | apply Kd.R_drew)); exact Kd.R_mono HO_241000.out (fun _ hk => trivial)⟩, ⟨by exact zk BK230⟩, ⟨by exact zk BK240⟩, ⟨zi85 HI0⟩, ⟨zh HK⟩, ⟨zg85 HB⟩⟩
     ·rw [if_neg c19] at H
      have c19b0 : decide (0 < x4_1) = false := decide_eq_false c19
      clear c19
      replace H := Option.bind_eq_some_iff.mp H
      obtain ⟨⟨t253, t254⟩, A430, H⟩ := H
      replace H : (if t253 = 0 then ((some (([(-1), 65, 3] : List Int) : List Int)).bind fun y255 => ((spec_l6Rd_pick.f k1 s0_0 t254 3).bind fun bt258 => (if 0 ≤ bt258.1 then (if bt258.1 < (y255.length : Int) then (some (x241000_1, rd y255 bt258.1, bt258.2)) else (none)) else (none)))) else (if t253 = 1 then ((spec_l71Field.f k1 s0_0 t254).bind fun bt261 => ((spec_l71Field.f k1 s0_0 bt261.2.2.2).bind fun bt265 => ((spec_l71Field.f k1 s0_0 bt265.2.2.2).bind fun bt269 => ((some (([(⟨bt261.1, bt261.2.1, bt261.2.2.1⟩ : S36), (⟨bt265.1, bt265.2.1, bt265.2.2.1⟩ : S36), (⟨bt269.1, bt269.2.1, bt269.2.2.1⟩ : S36)] : List (S36)) : List (S36))).bind fun y273 => (if x241000_1.length + y273.length < 3518437208883 then (some ((x241000_1 ++ y273), x241001_1, bt269.2.2.2)) else (none)))))) else (some (x241000_1, x241001_1, t254)))) = some (r1, r2, r3) := H
      have A43 := Aside0.mk A430
      clear A430
      by_cases c44 : t253 = 0
      ·rw [if_pos c44] at H
       have c44b0 : (t253 == 0) = true := beq_iff_eq.mpr c44
       have c44b1 : (t253 != 0) = false := bne_eq_false_iff_eq.mpr c44
       clear c44
       obtain ⟨y255, hy255⟩ : ∃ y_ : List Int, y_ = (([(-1), 65, 3] : List Int)) := ⟨_, rfl⟩
       replace H : ((spec_l6Rd_pick.f k1 s0_0 t254 3).bind fun bt258 => (if 0 ≤ bt258.1 then (if bt258.1 < (y255.length : Int) then (some (x241000_1, rd y255 bt258.1, bt258.2)) else (none)) else (none))) = some (r1, r2, r3) := by first | (rw [hy255]; with_reducible exact H) | (have H2_ := (Option.bind_some _ _).symm.trans H; rw [hy255]; with_reducible exact H2_) | (have H2_ := (Option.bind_some _ _).symm.trans H; with_reducible exact H2_) | with_reducible exact H | (rw [hy255]; exact H) | exact H
       have Ny255 := Aside0.mk hy255
       clear hy255
       replace H := Option.bind_eq_some_iff.mp H
       obtain ⟨⟨t258, t259⟩, A450, H⟩ := H
       replace H : (if 0 ≤ t258 then (if t258 < (y255.length : Int) then (some (x241000_1, rd y255 t258, t259)) else (none)) else (none)) = some (r1, r2, r3) := H
       have A45 := Aside0.mk A450
       clear A450
       by_cases c46 : 0 ≤ t258
       ·rw [if_pos c46] at H
        have c46b0 : decide (0 ≤ t258) = true := decide_eq_true c46
        clear c46
        by_cases c47 : t258 < (y255.length : Int)
        ·rw [if_pos c47] at H
         have c47b0 : decide (t258 < (y255.length : Int)) = true := decide_eq_true c47
         clear c47
         simp only [Option.some.injEq, Prod.mk.injEq] at H
         obtain ⟨rfl, rfl, rfl⟩ := H
         go_wp2_with (first | ((with_reducible refine gq 47 rfl ?_); refine gl (some 27) Try.func47 #[.pointer (some ⟨g, 0, none⟩), .int .i64 24] ?_; (with_reducible refine (spec_l6Rd_pick.calls k1 g s0_0 x1001_1 24 t253 t254 w0 _ ?side1 ?side2 A43.out).mono ?_); (case side1 => exact zi85 HI0); (case side2 => exact zg85 HB); rintro e w48 ⟨rfl, hi, hb, hk⟩; refine ⟨_, rfl, ?_⟩; replace HO_241000 := Aside0.mk (Kd.R_mono (Kd.R_keep (IsS85.apart (show IsS85 w0 _ g s0_0 x1001_1 from zi85 HI0) (zr HO_241000) (by decide)) hk (fun _ h => h.2)) (fun _ h => h.1)); replace BK230 := Aside0.mk (KeepBut.blk hk (g' := gb230) (o := .cells #[.slice none 0 0, .int .i64 0] 25 (0, 0)) (zk BK230) NB230_0.out (by simp)); replace BK240 := Aside0.mk (KeepBut.blk hk (g' := gb240) (o := .cells #[u241000, .int .i64 x241001_1] 25 (0, 0)) (zk BK240) NB240_0.out (by simp)); replace HK := Aside0.mk (KeepBut.trans (zh HK) hk (.inl rfl)); replace HB := Aside0.mk (hb); replace HI0 := Aside0.mk (hi); (try clear hb); (try clear hk); (try clear hi)) | ((with_reducible refine gd 30 rfl ?_); refine Kd.R_lit (Kd.int .i64) _ 3 ?hg (N := 30) ?hd (xs := ([(-1), 65, 3] : List Int)) (inner := [.int .i64 (-1), .int .i64 65, .int .i64 3]) (ok := fun _ => True) (okp := fun _ => True) ?hr ?hp (fun _ hk => hk) trivial (Below.refl _ _) (Nat.le_refl _) (by simp) ?_; (case hd => rfl); (case hg => rfl); (case hr => first | (go_simp; done) | (go_simp; rfl)); (case hp => exact (Reps.one (show Kd.M (Kd.int .i64) _ _ _ (-1) [.int .i64 (-1)] from rfl) (Reps.one (show Kd.M (Kd.int .i64) _ _ _ 65 [.int .i64 65] from rfl) (Reps.one (show Kd.M (Kd.int .i64) _ _ _ 3 [.int .i64 3] from rfl) (Reps.none _ _))))); intro v256 w49 ho50 hb hg_ hnew_; clear hg_ hnew_; (first | rw [← Ny255.out] at ho50 | (simp only [Int.reduceToNat] at ho50; rw [← Ny255.out] at ho50)); replace HO_241000 := Aside0.mk (Kd.R_below (zr HO_241000) hb); have HO257 := Aside0.mk (Kd.R_lower ho50 (keep_size (w := w) (g := g) (row := none) (zh HK))); replace BK230 := Aside0.mk (blk_below (g := gb230) (o := .cells #[.slice none 0 0, .int .i64 0] 25 (0, 0)) (zk BK230) hb); replace BK240 := Aside0.mk (blk_below (g := gb240) (o := .cells #[u241000, .int .i64 x241001_1] 25 (0, 0)) (zk BK240) hb); replace HI0 := Aside0.mk (IsS85.below (zi85 HI0) hb); replace HK := Aside0.mk (KeepBut.trans (zh HK) (KeepBut.of_below hb g none) (.inl rfl)); replace HB := Aside0.mk (below_step (zg85 HB) hb); clear hb ho50) | ((with_reducible refine gq 47 rfl ?_); refine gl (some 32) Try.func47 #[.pointer (some ⟨g, 0, none⟩), .int .i64 3] ?_; (with_reducible refine (spec_l6Rd_pick.calls k1 g s0_0 t254 3 t258 t259 w0 _ ?side1 ?side2 A45.out).mono ?_); (case side1 => exact zi85 HI0); (case side2 => exact zg85 HB); rintro e w51 ⟨rfl, hi, hb, hk⟩; refine ⟨_, rfl, ?_⟩; replace HO_241000 := Aside0.mk (Kd.R_mono (Kd.R_keep (IsS85.apart (show IsS85 w0 _ g s0_0 t254 from zi85 HI0) (zr HO_241000) (by decide)) hk (fun _ h => h.2)) (fun _ h => h.1)); replace BK230 := Aside0.mk (KeepBut.blk hk (g' := gb230) (o := .cells #[.slice none 0 0, .int .i64 0] 25 (0, 0)) (zk BK230) NB230_0.out (by simp)); replace BK240 := Aside0.mk (KeepBut.blk hk (g' := gb240) (o := .cells #[u241000, .int .i64 x241001_1] 25 (0, 0)) (zk BK240) NB240_0.out (by simp)); replace HO257 := Aside0.mk (Kd.R_mono (Kd.R_keep (IsS85.apart (show IsS85 w0 _ g s0_0 t254 from zi85 HI0) (zr HO257) (by decide)) hk (fun _ h => h.2)) (fun _ h => h.1)); replace HK := Aside0.mk (KeepBut.trans (zh HK) hk (.inl rfl)); replace HB := Aside0.mk (hb); replace HI0 := Aside0.mk (hi); (try clear hb); (try clear hk); (try clear hi); obtain ⟨Ao52, co52, eo52⟩ := Kd.R_slice HO257.out; subst eo52; have p260 : 0 ≤ (t258 : Int) := of_decide_eq_true za; have q260 : t258 < (y255.length : Int) := of_decide_eq_true za; obtain ⟨ad260, e260, hx260_0⟩ := Kd.at_int (Kd.R_reads' HO257.out).2.2 t258 p260 q260; cases e260; replace p260 := eq_true p260; replace q260 := eq_true q260; have hnb53 := NB240_230.out; have hnc53 := NB230_240.out; have hnb54 := NB240_0.out; have hnc54 := NB0_240.out; have hcz55_0 : w51.cell? ⟨gb240, 0, none⟩ = some (u241000) := (blk_cell BK240.out 0).trans rfl; have hcz55_1 : w51.cell? ⟨gb240, 1, none⟩ = some (.int .i64 x241001_1) := (blk_cell BK240.out 1).trans rfl; have hfz55_0 := blk_frozen BK240.out 0; have hfz55_1 := blk_frozen BK240.out 1; obtain ⟨Ao56, co56, eo56⟩ := Kd.R_slice HO_241000.out; subst eo56; have hnb57 := NB230_0.out; have hnc57 := NB0_230.out; have hcz58_0 : w51.cell? ⟨gb230, 0, none⟩ = some (.slice none 0 0) := (blk_cell BK230.out 0).trans rfl; have hcz58_1 : w51.cell? ⟨gb230, 1, none⟩ = some (.int .i64 0) := (blk_cell BK230.out 1).trans rfl; have hfz58_0 := blk_frozen BK230.out 0; have hfz58_1 := blk_frozen BK230.out 1))
         refine bodyPost_ret (results_cell_row rfl _ _ gb230 25 #[.slice Ao56 x241000_1.length co56, .int .i64 (rd y255 t258)] (0, 0) _ rfl (by (with_reducible repeat (first | refine blk_drewN ?_ _ | refine blk_drew ?_ | refine blk_alloc ?_ _)); refine blk_put (cs := #[.slice Ao56 x241000_1.length co56, .int .i64 0]) ?_ 1 _ rfl; (with_reducible repeat (first | refine blk_drewN ?_ _ | refine blk_drew ?_ | refine blk_alloc ?_ _)); refine blk_put (cs := #[.slice none 0 0, .int .i64 0]) ?_ 0 _ rfl; (with_reducible repeat (first | refine blk_drewN ?_ _ | refine blk_drew ?_ | refine blk_alloc ?_ _)); refine blk_far ?_ NB230_240.out _; exact zk BK230) Try.underlying25 rfl (by kernel_rfl)) rfl ?_
         exact ⟨_, ze, by (with_reducible repeat (first | apply Kd.R_alloc | apply Kd.R_drewN | apply Kd.R_drew)); exact Kd.R_mono (Kd.R_far (p := ⟨gb230, 1, none⟩) (Kd.R_far (p := ⟨gb230, 0, none⟩) (Kd.R_far (p := ⟨gb240, 1, none⟩) (Kd.R_types (Kd.R_types HO_241000.out BK240.out (by decide)) BK230.out (by decide)) (fun _ hk => hk.1.2) (.int .i64 (rd y255 t258))) (fun _ hk => hk.2) (.slice Ao56 x241000_1.length co56)) (fun _ hk => hk.2) (.int .i64 (rd y255 t258))) (fun _ hk => trivial), zi85 HI0, zg85 HB, zh HK⟩
        ·rw [if_neg c47] at H
         exact absurd H (by simp)
       ·rw [if_neg c46] at H
        exact absurd H (by simp)
      ·rw [if_neg c44] at H
       have c44b0 : (t253 == 0) = false := beq_eq_false_iff_ne.mpr c44
       have c44b1 : (t253 != 0) = true := bne_iff_ne.mpr c44
       by_cases c59 : t253 = 1
       ·rw [if_pos c59] at H
        have c59b0 : (t253 == 1) = true := beq_iff_eq.mpr c59
        have c59b1 : (t253 != 1) = false := bne_eq_false_iff_eq.mpr c59
        clear c59
        replace H := Option.bind_eq_some_iff.mp H
        obtain ⟨⟨t261, t262, t263, t264⟩, A600, H⟩ := H
        replace H : ((spec_l71Field.f k1 s0_0 t264).bind fun bt265 => ((spec_l71Field.f k1 s0_0 bt265.2.2.2).bind fun bt269 => ((some (([(⟨t261, t262, t263⟩ : S36), (⟨bt265.1, bt265.2.1, bt265.2.2.1⟩ : S36), (⟨bt269.1, bt269.2.1, bt269.2.2.1⟩ : S36)] : List (S36)) : List (S36))).bind fun y273 => (if x241000_1.length + y273.length < 3518437208883 then (some ((x241000_1 ++ y273), x241001_1, bt269.2.2.2)) else (none))))) = some (r1, r2, r3) := H
        have A60 := Aside0.mk A600
        clear A600
        replace H := Option.bind_eq_some_iff.mp H
        obtain ⟨⟨t265, t266, t267, t268⟩, A610, H⟩ := H
        replace H : ((spec_l71Field.f k1 s0_0 t268).bind fun bt269 => ((some (([(⟨t261, t262, t263⟩ : S36), (⟨t265, t266, t267⟩ : S36), (⟨bt269.1, bt269.2.1, bt269.2.2.1⟩ : S36)] : List (S36)) : List (S36))).bind fun y273 => (if x241000_1.length + y273.length < 3518437208883 then (some ((x241000_1 ++ y273), x241001_1, bt269.2.2.2)) else (none)))) = some (r1, r2, r3) := H
        have A61 := Aside0.mk A610
        clear A610
        replace H := Option.bind_eq_some_iff.mp H
        obtain ⟨⟨t269, t270, t271, t272⟩, A620, H⟩ := H
        replace H : ((some (([(⟨t261, t262, t263⟩ : S36), (⟨t265, t266, t267⟩ : S36), (⟨t269, t270, t271⟩ : S36)] : List (S36)) : List (S36))).bind fun y273 => (if x241000_1.length + y273.length < 3518437208883 then (some ((x241000_1 ++ y273), x241001_1, t272)) else (none))) = some (r1, r2, r3) := H
        have A62 := Aside0.mk A620
        clear A620
        obtain ⟨y273, hy273⟩ : ∃ y_ : List (S36), y_ = (([(⟨t261, t262, t263⟩ : S36), (⟨t265, t266, t267⟩ : S36), (⟨t269, t270, t271⟩ : S36)] : List (S36))) := ⟨_, rfl⟩
        replace H : (if x241000_1.length + y273.length < 3518437208883 then (some ((x241000_1 ++ y273), x241001_1, t272)) else (none)) = some (r1, r2, r3) := by first | (rw [hy273]; with_reducible exact H) | (have H2_ := (Option.bind_some _ _).symm.trans H; rw [hy273]; with_reducible exact H2_) | (have H2_ := (Option.bind_some _ _).symm.trans H; with_reducible exact H2_) | with_reducible exact H | (rw [hy273]; exact H) | exact H
        have Ny273 := Aside0.mk hy273
        clear hy273
        by_cases c63 : x241000_1.length + y273.length < 3518437208883
        ·rw [if_pos c63] at H
         have LMc63 := Aside0.mk c63
         clear c63
         obtain ⟨y276, hy276⟩ : ∃ y_ : List (S36), y_ = (x241000_1 ++ y273) := ⟨_, rfl⟩
         replace H : (some (y276, x241001_1, t272)) = some (r1, r2, r3) := by first | (rw [hy276]; with_reducible exact H) | (have H2_ := (Option.bind_some _ _).symm.trans H; rw [hy276]; with_reducible exact H2_) | (have H2_ := (Option.bind_some _ _).symm.trans H; with_reducible exact H2_) | with_reducible exact H | (rw [hy276]; exact H) | exact H
         have Ny276 := Aside0.mk hy276
         clear hy276
         simp only [Option.some.injEq, Prod.mk.injEq] at H
         obtain ⟨rfl, rfl, rfl⟩ := H
         try go_wp2_with (first | ((with_reducible refine gq 47 rfl ?_); refine gl (some 27) Try.func47 #[.pointer (some ⟨g, 0, none⟩), .int .i64 24] ?_; (with_reducible refine (spec_l6Rd_pick.calls k1 g s0_0 x1001_1 24 t253 t254 w0 _ ?side1 ?side2 A43.out).mono ?_); (case side1 => exact zi85 HI0); (case side2 => exact zg85 HB); rintro e w64 ⟨rfl, hi, hb, hk⟩; refine ⟨_, rfl, ?_⟩; replace HO_241000 := Aside0.mk (Kd.R_mono (Kd.R_keep (IsS85.apart (show IsS85 w0 _ g s0_0 x1001_1 from zi85 HI0) (zr HO_241000) (by decide)) hk (fun _ h => h.2)) (fun _ h => h.1)); replace BK230 := Aside0.mk (KeepBut.blk hk (g' := gb230) (o := .cells #[.slice none 0 0, .int .i64 0] 25 (0, 0)) (zk BK230) NB230_0.out (by simp)); replace BK240 := Aside0.mk (KeepBut.blk hk (g' := gb240) (o := .cells #[u241000, .int .i64 x241001_1] 25 (0, 0)) (zk BK240) NB240_0.out (by simp)); replace HK := Aside0.mk (KeepBut.trans (zh HK) hk (.inl rfl)); replace HB := Aside0.mk (hb); replace HI0 := Aside0.mk (hi); (try clear hb); (try clear hk); (try clear hi)))
         replace HO_241000 := Aside0.mk (Kd.R_drew HO_241000.out)
         replace BK230 := Aside0.mk (blk_drew BK230.out)
         replace BK240 := Aside0.mk (blk_drew BK240.out)
         replace HI0 := Aside0.mk (IsS85.drew HI0.out)
         replace HK := Aside0.mk (keep_drew HK.out)
         replace HB := Aside0.mk (below_drew1 HB.out)
         refine start_ (n := 12) (S := fun w' => w'.cell? ⟨gb240, 0, none⟩ = some (u241000) ∧ w'.cell? ⟨gb240, 1, none⟩ = some (.int .i64 x241001_1)) (ds := [11]) #[false, false, false, false, false, false, false, false, false, false, false, false] (by kernel_rfl) rfl rfl ⟨(blk_cell BK240.out 0).trans rfl, (blk_cell BK240.out 1).trans rfl⟩ (fun hHeld => ?_); refine with_tabW spec_l71Table.tab12 spec_l71Table.bits12 (fun HT_ HW_ => ?_)
         generalize w64.drew = w65 at HO_241000 BK230 BK240 HI0 HK HB hHeld ⊢
         refine pu 0 (some 38) (bm 12 1) rfl rfl ?_
         refine pu 2 (some 40) (bm 12 5) rfl rfl ?_
         refine pu 4 (some 42) (bm 12 21) rfl rfl ?_
         refine pu 6 (some 44) (bm 12 85) rfl rfl ?_
         refine tk2 1 (some 39) (bm 12 87) rfl rfl hHeld ?_
         refine one_ (i := 3) (N := some 41) (bm 12 95) rfl rfl (one_of HT_.out (by kernel_rfl)) (by decide) (fun K hK => ?_)
         refine gs Try.func58 #[.pointer (some ⟨g, 0, none⟩)] ?_
         with_reducible refine (spec_l71Field.calls k1 g s0_0 t254 t261 t262 t263 t264 w0 _ ?side1 ?side2 A60.out).mono ?_
         (case side1 => exact zi85 HI0)
         (case side2 => exact zg85 HB)
         rintro e w66 ⟨rfl, hi, hb, hk⟩
         refine ⟨_, rfl, ?_⟩
         replace HO_241000 := Aside0.mk (Kd.R_mono (Kd.R_keep (IsS85.apart (show IsS85 w0 _ g s0_0 t254 from zi85 HI0) (zr HO_241000) (by decide)) hk (fun _ h => h.2)) (fun _ h => h.1))
         replace BK230 := Aside0.mk (KeepBut.blk hk (g' := gb230) (o := .cells #[.slice none 0 0, .int .i64 0] 25 (0, 0)) (zk BK230) NB230_0.out (by simp))
         replace BK240 := Aside0.mk (KeepBut.blk hk (g' := gb240) (o := .cells #[u241000, .int .i64 x241001_1] 25 (0, 0)) (zk BK240) NB240_0.out (by simp))
         replace HK := Aside0.mk (KeepBut.trans (zh HK) hk (.inl rfl))
         replace HB := Aside0.mk (hb)
         replace HI0 := Aside0.mk (hi)
         (try clear hb)
         (try clear hk)
         (try clear hi)
         refine hK.out _ _ ⟨(blk_cell BK240.out 0).trans rfl, (blk_cell BK240.out 1).trans rfl⟩ (fun hHeld => ?_)
         clear hK K
         refine nm ?_
         refine one_ (i := 5) (N := some 43) (bm 12 127) rfl rfl (one_of HT_.out (by kernel_rfl)) (by decide) (fun K hK => ?_)
         refine gs Try.func58 #[.pointer (some ⟨g, 0, none⟩)] ?_
         with_reducible refine (spec_l71Field.calls k1 g s0_0 t264 t265 t266 t267 t268 w0 _ ?side1 ?side2 A61.out).mono ?_
         (case side1 => exact zi85 HI0)
         (case side2 => exact zg85 HB)
         rintro e w67 ⟨rfl, hi, hb, hk⟩
         refine ⟨_, rfl, ?_⟩
         replace HO_241000 := Aside0.mk (Kd.R_mono (Kd.R_keep (IsS85.apart (show IsS85 w0 _ g s0_0 t264 from zi85 HI0) (zr HO_241000) (by decide)) hk (fun _ h => h.2)) (fun _ h => h.1))
         replace BK230 := Aside0.mk (KeepBut.blk hk (g' := gb230) (o := .cells #[.slice none 0 0, .int .i64 0] 25 (0, 0)) (zk BK230) NB230_0.out (by simp))
         replace BK240 := Aside0.mk (KeepBut.blk hk (g' := gb240) (o := .cells #[u241000, .int .i64 x241001_1] 25 (0, 0)) (zk BK240) NB240_0.out (by simp))
         replace HK := Aside0.mk (KeepBut.trans (zh HK) hk (.inl rfl))
         replace HB := Aside0.mk (hb)
         replace HI0 := Aside0.mk (hi)
         (try clear hb)
         (try clear hk)
         (try clear hi)
         refine hK.out _ _ ⟨(blk_cell BK240.out 0).trans rfl, (blk_cell BK240.out 1).trans rfl⟩ (fun hHeld => ?_)
         clear hK K
         refine nm ?_
         refine one_ (i := 7) (N := some 45) (bm 12 255) rfl rfl (one_of HT_.out (by kernel_rfl)) (by decide) (fun K hK => ?_)
         refine gs Try.func58 #[.pointer (some ⟨g, 0, none⟩)] ?_
         with_reducible refine (spec_l71Field.calls k1 g s0_0 t268 t269 t270 t271 t272 w0 _ ?side1 ?side2 A62.out).mono ?_
         (case side1 => exact zi85 HI0)
         (case side2 => exact zg85 HB)
         rintro e w68 ⟨rfl, hi, hb, hk⟩
         refine ⟨_, rfl, ?_⟩
         replace HO_241000 := Aside0.mk (Kd.R_mono (Kd.R_keep (IsS85.apart (show IsS85 w0 _ g s0_0 t268 from zi85 HI0) (zr HO_241000) (by decide)) hk (fun _ h => h.2)) (fun _ h => h.1))
         replace BK230 := Aside0.mk (KeepBut.blk hk (g' := gb230) (o := .cells #[.slice none 0 0, .int .i64 0] 25 (0, 0)) (zk BK230) NB230_0.out (by simp))
         replace BK240 := Aside0.mk (KeepBut.blk hk (g' := gb240) (o := .cells #[u241000, .int .i64 x241001_1] 25 (0, 0)) (zk BK240) NB240_0.out (by simp))
         replace HK := Aside0.mk (KeepBut.trans (zh HK) hk (.inl rfl))
         replace HB := Aside0.mk (hb)
         replace HI0 := Aside0.mk (hi)
         (try clear hb)
         (try clear hk)
         (try clear hi)
         refine hK.out _ _ ⟨(blk_cell BK240.out 0).trans rfl, (blk_cell BK240.out 1).trans rfl⟩ (fun hHeld => ?_)
         clear hK K
         refine nm ?_
         refine one_ (i := 8) (N := some 46) (bm 12 511) rfl rfl (one_of HT_.out (by kernel_rfl)) (by decide) (fun K hK => ?_)
         refine Kd.R_lit_step k36 _ 36 ?hg (N := 46) ?hd (xs := ([(⟨t261, t262, t263⟩ : S36), (⟨t265, t266, t267⟩ : S36), (⟨t269, t270, t271⟩ : S36)] : List (S36))) (inner := [.string t261, .string t262, .bool t263, .string t265, .string t266, .bool t267, .string t269, .string t270, .bool t271]) (ok := fun _ => True) (okp := fun _ => True) ?hr ?hp (fun _ hk => hk) trivial (Below.refl _ _) (Nat.le_refl _) (by simp) ?_; (case hd => rfl); (case hg => rfl); (case hr => first | (go_simp; done) | (go_simp; rfl)); (case hp => exact (Reps.c3 (show Kd.M k36 _ _ _ (⟨t261, t262, t263⟩ : S36) [.string t261, .string t262, .bool t263] from (k36_mkM _ _ _ (⟨t261, t262, t263⟩ : S36) )) (Reps.c3 (show Kd.M k36 _ _ _ (⟨t265, t266, t267⟩ : S36) [.string t265, .string t266, .bool t267] from (k36_mkM _ _ _ (⟨t265, t266, t267⟩ : S36) )) (Reps.c3 (show Kd.M k36 _ _ _ (⟨t269, t270, t271⟩ : S36) [.string t269, .string t270, .bool t271] from (k36_mkM _ _ _ (⟨t269, t270, t271⟩ : S36) )) (Reps.none _ _)))))
         intro v274 w69 ho70 hb hg_ hnew_
         clear hg_ hnew_
         (first | rw [← Ny273.out] at ho70 | (simp only [Int.reduceToNat] at ho70; rw [← Ny273.out] at ho70))
         have HO275 := Aside0.mk (Kd.R_lower (Kd.R_new' ho70 (Kd.R_lt (zr HO_241000))) (keep_size (w := w) (g := g) (row := none) (zh HK)))
         replace HO_241000 := Aside0.mk (Kd.R_elder' (zr HO_241000) (Kd.R_base ho70) hb)
         replace BK230 := Aside0.mk (blk_below (g := gb230) (o := .cells #[.slice none 0 0, .int .i64 0] 25 (0, 0)) (zk BK230) hb)
         replace BK240 := Aside0.mk (blk_below (g := gb240) (o := .cells #[u241000, .int .i64 x241001_1] 25 (0, 0)) (zk BK240) hb)
         replace HI0 := Aside0.mk (IsS85.below (zi85 HI0) hb)
         replace HK := Aside0.mk (KeepBut.trans (zh HK) (KeepBut.of_below hb g none) (.inl rfl))
         replace HB := Aside0.mk (below_step (zg85 HB) hb)
         clear hb ho70
         obtain ⟨Ao72, co72, eo72⟩ := Kd.R_slice HO275.out
         (first | subst eo72 | (injection eo72 with f1_ f2_ f3_; have f4_ := f1_.symm; have f5_ := f3_.symm; clear f1_ f2_ f3_; subst f4_; subst f5_))
         refine hK.out _ _ ⟨(blk_cell BK240.out 0).trans rfl, (blk_cell BK240.out 1).trans rfl⟩ (fun hHeld => ?_)
         clear hK K
         refine nm ?_
         refine one_ (i := 9) (N := some 47) (bm 12 1023) rfl rfl (one_of HT_.out (by kernel_rfl)) (by decide) (fun K hK => ?_)
         refine Kd.R_append_rows_step k36 w.heap.size (by rfl) (.tmp 39) (.tmp 46) 23 36 (.agg #[(.string ⟨#[]⟩), (.string ⟨#[]⟩), (.bool false)]) 40 rfl Try.underlying23 info36 rfl (by decide) (by omega) u241000 x241000_1 y273 _ _ _ (fun k_ => some k_ ≠ (.slice Ao72 y273.length co72 : Value).ownBlock) (fun _ => False) rfl rfl ?aO ?aR (fun _ _ h => h) (fun _ h => h.elim) ?aF (Below.refl _ _) ?aS ?aL ?_
         (case aR => exact zc (Kd.R_reads' HO275.out).2.2)
         (case aF => exact (fun k_ hk => Kd.fresh' (Kd.R_lt (zr HO275)) k_ hk))
         (case aO => exact (by (with_reducible repeat (first | apply Kd.R_alloc | apply Kd.R_drewN | apply Kd.R_drew)); exact Kd.R_mono HO_241000.out (fun _ hk => hk.2)))
         (case aS => exact (keep_size (w := w) (g := g) (row := none) (zh HK)))
         (case aL => have := LMc63.out; omega)
         intro v277 w71 ho hb hg hat
         rw [← Ny276.out] at ho
         replace BK230 := Aside0.mk (blk_grown (g := gb230) (o := .cells #[.slice none 0 0, .int .i64 0] 25 (0, 0)) (zk BK230) hg (Kd.R_ne HO_241000.out BK230.out (by decide)))
         replace BK240 := Aside0.mk (blk_grown (g := gb240) (o := .cells #[u241000, .int .i64 x241001_1] 25 (0, 0)) (zk BK240) hg (Kd.R_ne HO_241000.out BK240.out (by decide)))
         replace HI0 := Aside0.mk (IsS85.grown (zi85 HI0) hg (IsS85.own_ne HI0.out HO_241000.out (by decide)))
         replace HO275 := Aside0.mk (Kd.R_after (ok := (fun _ => True)) (zr HO275) hg hat)
         replace HB := Aside0.mk (below_weaken (zg85 HB) HL.out hb)
         replace HK := Aside0.mk (KeepBut.trans (zh HK) (KeepBut.of_grown hg g) (Kd.R_base2 HO_241000.out))
         have HO278 := Aside0.mk (ho)
         clear HO_241000
         clear ho hb hg hat
         obtain ⟨Ao73, co73, eo73⟩ := Kd.R_slice HO278.out
         (first | subst eo73 | (injection eo73 with f1_ f2_ f3_; have f4_ := f1_.symm; have f5_ := f3_.symm; clear f1_ f2_ f3_; subst f4_; subst f5_))
         refine hK.out _ _ ⟨(blk_cell BK240.out 0).trans rfl, (blk_cell BK240.out 1).trans rfl⟩ (fun hHeld => ?_)
         clear hK K
         refine nm ?_
         refine pu 10 (some 48) (bm 12 2047) rfl rfl ?_
         refine last_ (i := 11) (N := none) #[true, true, true, true, true, true, true, true, true, true, true, true] rfl rfl (one_of HT_.out (by kernel_rfl)) (by decide) (fun K hK => ?_)
         have hs74 : w71.cell? ⟨gb240, 0, none⟩ = some (u241000) := (blk_cell BK240.out 0).trans rfl
         have hfs74 := blk_frozen BK240.out 0
         have hns74_0 := NB230_240.out
         have hms74_0 := NB240_230.out
         refine skip_ (w1 := ?_) (by rfl) rfl ?_ ?_
         rotate_left
         ·go_simp
          rfl
         refine hK.out _ _ ?_
         clear hK K
         refine done_ (done_of HT_.out (by kernel_rfl)) ?_
         have hnb75 := NB240_230.out
         have hnc75 := NB230_240.out
         have hnb76 := NB240_0.out
         have hnc76 := NB0_240.out
         have hcz77_0 : w71.cell? ⟨gb240, 0, none⟩ = some (u241000) := (blk_cell BK240.out 0).trans rfl
         have hcz77_1 : w71.cell? ⟨gb240, 1, none⟩ = some (.int .i64 x241001_1) := (blk_cell BK240.out 1).trans rfl
         have hfz77_0 := blk_frozen BK240.out 0
         have hfz77_1 := blk_frozen BK240.out 1
         have hnb78 := NB230_0.out
         have hnc78 := NB0_230.out
         have hcz79_0 : w71.cell? ⟨gb230, 0, none⟩ = some (.slice none 0 0) := (blk_cell BK230.out 0).trans rfl
         have hcz79_1 : w71.cell? ⟨gb230, 1, none⟩ = some (.int .i64 0) := (blk_cell BK230.out 1).trans rfl
         have hfz79_0 := blk_frozen BK230.out 0
         have hfz79_1 := blk_frozen BK230.out 1
         try go_wp2
         refine bodyPost_ret (results_cell_row rfl _ _ gb230 25 #[.slice Ao73 y276.length co73, .int .i64 x241001_1] (0, 0) _ rfl (by (with_reducible repeat (first | refine blk_drewN ?_ _ | refine blk_drew ?_ | refine blk_alloc ?_ _)); refine blk_put (cs := #[.slice Ao73 y276.length co73, .int .i64 0]) ?_ 1 _ rfl; (with_reducible repeat (first | refine blk_drewN ?_ _ | refine blk_drew ?_ | refine blk_alloc ?_ _)); refine blk_put (cs := #[.slice none 0 0, .int .i64 0]) ?_ 0 _ rfl; (with_reducible repeat (first | refine blk_drewN ?_ _ | refine blk_drew ?_ | refine blk_alloc ?_ _)); refine blk_far ?_ NB230_240.out _; exact zk BK230) Try.underlying25 rfl (by kernel_rfl)) rfl ?_
         exact ⟨_, ze, by (with_reducible repeat (first | apply Kd.R_alloc | apply Kd.R_drewN | apply Kd.R_drew)); exact Kd.R_mono (Kd.R_far (p := ⟨gb230, 1, none⟩) (Kd.R_far (p := ⟨gb230, 0, none⟩) (Kd.R_far (p := ⟨gb240, 0, none⟩) (Kd.R_types (Kd.R_types HO278.out BK240.out (by decide)) BK230.out (by decide)) (fun _ hk => hk.1.2) (.slice Ao73 y276.length co73)) (fun _ hk => hk.2) (.slice Ao73 y276.length co73)) (fun _ hk => hk.2) (.int .i64 x241001_1)) (fun _ hk => trivial), zi85 HI0, zg85 HB, zh HK⟩
        ·rw [if_neg c63] at H
         exact absurd H (by simp)
       ·rw [if_neg c59] at H
        have c59b0 : (t253 == 1) = false := beq_eq_false_iff_ne.mpr c59
        have c59b1 : (t253 != 1) = true := bne_iff_ne.mpr c59
        simp only [Option.some.injEq, Prod.mk.injEq] at H
        obtain ⟨rfl, rfl, rfl⟩ := H
        go_wp2_with (first | ((with_reducible refine gq 47 rfl ?_); refine gl (some 27) Try.func47 #[.pointer (some ⟨g, 0, none⟩), .int .i64 24] ?_; (with_reducible refine (spec_l6Rd_pick.calls k1 g s0_0 x1001_1 24 t253 t254 w0 _ ?side1 ?side2 A43.out).mono ?_); (case side1 => exact zi85 HI0); (case side2 => exact zg85 HB); rintro e w80 ⟨rfl, hi, hb, hk⟩; refine ⟨_, rfl, ?_⟩; replace HO_241000 := Aside0.mk (Kd.R_mono (Kd.R_keep (IsS85.apart (show IsS85 w0 _ g s0_0 x1001_1 from zi85 HI0) (zr HO_241000) (by decide)) hk (fun _ h => h.2)) (fun _ h => h.1)); replace BK230 := Aside0.mk (KeepBut.blk hk (g' := gb230) (o := .cells #[.slice none 0 0, .int .i64 0] 25 (0, 0)) (zk BK230) NB230_0.out (by simp)); replace BK240 := Aside0.mk (KeepBut.blk hk (g' := gb240) (o := .cells #[u241000, .int .i64 x241001_1] 25 (0, 0)) (zk BK240) NB240_0.out (by simp)); replace HK := Aside0.mk (KeepBut.trans (zh HK) hk (.inl rfl)); replace HB := Aside0.mk (hb); replace HI0 := Aside0.mk (hi); (try clear hb); (try clear hk); (try clear hi); have hnb81 := NB240_230.out; have hnc81 := NB230_240.out; have hnb82 := NB240_0.out; have hnc82 := NB0_240.out; have hcz83_0 : w80.cell? ⟨gb240, 0, none⟩ = some (u241000) := (blk_cell BK240.out 0).trans rfl; have hcz83_1 : w80.cell? ⟨gb240, 1, none⟩ = some (.int .i64 x241001_1) := (blk_cell BK240.out 1).trans rfl; have hfz83_0 := blk_frozen BK240.out 0; have hfz83_1 := blk_frozen BK240.out 1; obtain ⟨Ao84, co84, eo84⟩ := Kd.R_slice HO_241000.out; subst eo84; have hnb85 := NB230_0.out; have hnc85 := NB0_230.out; have hcz86_0 : w80.cell? ⟨gb230, 0, none⟩ = some (.slice none 0 0) := (blk_cell BK230.out 0).trans rfl; have hcz86_1 : w80.cell? ⟨gb230, 1, none⟩ = some (.int .i64 0) := (blk_cell BK230.out 1).trans rfl; have hfz86_0 := blk_frozen BK230.out 0; have hfz86_1 := blk_frozen BK230.out 1))
        refine bodyPost_ret (results_cell_row rfl _ _ gb230 25 #[.slice Ao84 x241000_1.length co84, .int .i64 x241001_1] (0, 0) _ rfl (by (with_reducible repeat (first | refine blk_drewN ?_ _ | refine blk_drew ?_ | refine blk_alloc ?_ _)); refine blk_put (cs := #[.slice Ao84 x241000_1.length co84, .int .i64 0]) ?_ 1 _ rfl; (with_reducible repeat (first | refine blk_drewN ?_ _ | refine blk_drew ?_ | refine blk_alloc ?_ _)); refine blk_put (cs := #[.slice none 0 0, .int .i64 0]) ?_ 0 _ rfl; exact zk BK230) Try.underlying25 rfl (by kernel_rfl)) rfl ?_
        exact ⟨_, ze, by (with_reducible repeat (first | apply Kd.R_alloc | apply Kd.R_drewN | apply Kd.R_drew)); exact Kd.R_mono (Kd.R_far (p := ⟨gb230, 1, none⟩) (Kd.R_far (p := ⟨gb230, 0, none⟩) (Kd.R_types HO_241000.out BK230.out (by decide)) (fun _ hk => hk.2) (.slice Ao84 x241000_1.length co84)) (fun _ hk => hk.2) (.int .i64 x241001_1)) (fun _ hk => trivial), zi85 HI0, zg85 HB, zh HK⟩
  ·rw [if_neg c4] at H
   exact absurd H (by simp)
 ·rw [if_neg c3] at H
  exact absurd H (by simp)

/-! ### spec_l71Head: function 63 -/
-- thin
mutual
def spec_l71Head.l0 : Nat → List (S36) → Int → List Int → Int → Option ((List (S36)) × Int)
 | 0, _, _, _, _ => none
 | k + 1, x3, x4, x1000, x1001 => if x4 > 0 then ((spec_l71Field.f k x1000 x1001).bind fun bt284 => (if x3.length < 3518437208883 then (spec_l71Head.l0 k (x3 ++ [(⟨bt284.1, bt284.2.1, bt284.2.2.1⟩ : S36)]) (wrap64 (x4 - 1)) x1000 bt284.2.2.2) else (none))) else ((spec_l6Rd_pick.f k x1000 x1001 24).bind fun bt291 => (if bt291.1 = 0 then (spec_l71Head.l1 k x3 x1000 bt291.2) else (some (x3, bt291.2))))
def spec_l71Head.l1 : Nat → List (S36) → List Int → Int → Option ((List (S36)) × Int)
 | 0, _, _, _ => none
 | k + 1, x3, x1000, x1001 => if (x3.length : Int) ≤ 6 then (if x3.length < 3518437208883 then (spec_l71Head.l1 k (x3 ++ [(⟨(⟨#[116, 101]⟩ : ByteArray), (⟨#[]⟩ : ByteArray), false⟩ : S36)]) x1000 x1001) else (none)) else (some (x3, x1001))
end
def spec_l71Head.f (k : Nat) (s0_0 : List Int) (s0_1 : Int) : Option ((List (S36)) × Int) := (spec_l6Rd_pick.f k s0_0 s0_1 6).bind fun bt282 => (spec_l71Head.l0 k (([] : List (S36))) bt282.1 s0_0 bt282.2)
theorem spec_l71Head.mono_l : ∀ k, (∀ y0 y1 y2 y3, LeO (spec_l71Head.l0 k y0 y1 y2 y3) (spec_l71Head.l0 (k + 1) y0 y1 y2 y3)) ∧ (∀ y0 y1 y2, LeO (spec_l71Head.l1 k y0 y1 y2) (spec_l71Head.l1 (k + 1) y0 y1 y2))
 | 0 => ⟨fun _ _ _ _ r h => by simp [spec_l71Head.l0] at h, fun _ _ _ r h => by simp [spec_l71Head.l1] at h⟩
 | k + 1 => by
  obtain ⟨ih0, ih1⟩ := spec_l71Head.mono_l k
  refine ⟨?_, ?_⟩
  ·intro y0 y1 y2 y3
   unfold spec_l71Head.l0
   repeat' first
   | (with_reducible exact ih0 _ _ _ _)
   | (with_reducible exact ih1 _ _ _)
   | (with_reducible exact spec_l6Rd_pick.mono _ _ _ _)
   | (with_reducible exact spec_l71Field.mono _ _ _)
   | (with_reducible exact LeO.refl _)
   | (with_reducible exact LeO.none _)
   | (with_reducible refine LeO.ite ?_ ?_)
   | (with_reducible refine LeO.bind ?_ (fun _ => ?_))
   | exact ih0 _ _ _ _
   | exact ih1 _ _ _
   | exact spec_l6Rd_pick.mono _ _ _ _
   | exact spec_l71Field.mono _ _ _
   | exact LeO.none _
   | refine LeO.ite ?_ ?_
   | refine LeO.bind ?_ (fun _ => ?_)
  ·intro y0 y1 y2
   unfold spec_l71Head.l1
   repeat' first
   | (with_reducible exact ih0 _ _ _ _)
   | (with_reducible exact ih1 _ _ _)
   | (with_reducible exact spec_l6Rd_pick.mono _ _ _ _)
   | (with_reducible exact spec_l71Field.mono _ _ _)
   | (with_reducible exact LeO.refl _)
   | (with_reducible exact LeO.none _)
   | (with_reducible refine LeO.ite ?_ ?_)
   | (with_reducible refine LeO.bind ?_ (fun _ => ?_))
   | exact ih0 _ _ _ _
   | exact ih1 _ _ _
   | exact spec_l6Rd_pick.mono _ _ _ _
   | exact spec_l71Field.mono _ _ _
   | exact LeO.none _
   | refine LeO.ite ?_ ?_
   | refine LeO.bind ?_ (fun _ => ?_)
theorem spec_l71Head.mono : ∀ a0 a1 k, LeO (spec_l71Head.f k a0 a1) (spec_l71Head.f (k + 1) a0 a1) := by
 intro a0 a1 k
 obtain ⟨ih0, ih1⟩ := spec_l71Head.mono_l k
 unfold spec_l71Head.f
 repeat' first
   | (with_reducible exact ih0 _ _ _ _)
   | (with_reducible exact ih1 _ _ _)
   | (with_reducible exact spec_l6Rd_pick.mono _ _ _ _)
   | (with_reducible exact spec_l71Field.mono _ _ _)
   | (with_reducible exact LeO.refl _)
   | (with_reducible exact LeO.none _)
   | (with_reducible refine LeO.ite ?_ ?_)
   | (with_reducible refine LeO.bind ?_ (fun _ => ?_))
   | exact ih0 _ _ _ _
   | exact ih1 _ _ _
   | exact spec_l6Rd_pick.mono _ _ _ _
   | exact spec_l71Field.mono _ _ _
   | exact LeO.none _
   | refine LeO.ite ?_ ?_
   | refine LeO.bind ?_ (fun _ => ?_)
set_option maxHeartbeats 8000000 in
set_option maxRecDepth 100000 in
theorem spec_l71Head.calls (k : Nat) (g : Nat) (s0_0 : List Int) (s0_1 : Int) (r1 : List (S36)) (r2 : Int) (w0 w : World) (hI : IsS85 w0 w g s0_0 s0_1) (hB : Below w0.heap.size w0 w) (h : spec_l71Head.f k s0_0 s0_1 = some (r1, r2)) :
  Calls Try.prog 63 #[.pointer (some ⟨g, 0, none⟩)] w fun e w' => ∃ v0_ : Value, e = .returned (v0_) ∧ Kd.R k36 36 w' w.heap.size (fun _ => True) v0_ r1 ∧ IsS85 w0 w' g s0_0 r2 ∧ Below w0.heap.size w0 w' ∧ KeepBut w w' g none := by
 have hu36 := Try.underlying36
 have HI0 := Aside0.mk hI
 have HK := Aside0.mk (KeepBut.refl w g none)
 have HL := Aside0.mk hB.size
 clear hI
 have HW0 := Aside0.mk hB.size
 have HB := Aside0.mk hB
 clear hB
 have H : ((spec_l6Rd_pick.f k s0_0 s0_1 6).bind fun bt282 => (spec_l71Head.l0 k (([] : List (S36))) bt282.1 s0_0 bt282.2)) = some (r1, r2) := h
 clear h
 obtain ⟨y279, hy279⟩ : ∃ y_ : List (S36), y_ = (([] : List (S36))) := ⟨_, rfl⟩
 replace H : ((spec_l6Rd_pick.f k s0_0 s0_1 6).bind fun bt282 => (spec_l71Head.l0 k y279 bt282.1 s0_0 bt282.2)) = some (r1, r2) := by first | (rw [hy279]; with_reducible exact H) | (have H2_ := (Option.bind_some _ _).symm.trans H; rw [hy279]; with_reducible exact H2_) | (have H2_ := (Option.bind_some _ _).symm.trans H; with_reducible exact H2_) | with_reducible exact H | (rw [hy279]; exact H) | exact H
 have Ny279 := Aside0.mk hy279
 clear hy279
 replace H := Option.bind_eq_some_iff.mp H
 obtain ⟨⟨t282, t283⟩, A20, H⟩ := H
 replace H : (spec_l71Head.l0 k y279 t282 s0_0 t283) = some (r1, r2) := H
 have A2 := Aside0.mk A20
 clear A20
 have H' := Aside0.mk H
 clear H
 go_enter Try.func63, Try.ntmps63
 go_wp2_with (first | ((with_reducible refine gd 5 rfl ?_); refine Kd.R_lit k36 _ 36 ?hg (N := 5) ?hd (xs := ([] : List (S36))) (inner := []) (ok := fun _ => True) (okp := fun _ => True) ?hr ?hp (fun _ hk => hk) trivial (Below.refl _ _) (Nat.le_refl _) (by simp) ?_; (case hd => rfl); (case hg => rfl); (case hr => first | (go_simp; done) | (go_simp; rfl)); (case hp => exact (Reps.none _ _)); intro v280 w3 ho4 hb hg_ hnew_; clear hg_ hnew_; (first | rw [← Ny279.out] at ho4 | (simp only [Int.reduceToNat] at ho4; rw [← Ny279.out] at ho4)); have HO281 := Aside0.mk (Kd.R_lower ho4 (keep_size (w := w) (g := g) (row := none) (zh HK))); replace HI0 := Aside0.mk (IsS85.below (zi85 HI0) hb); replace HK := Aside0.mk (KeepBut.trans (zh HK) (KeepBut.of_below hb g none) (.inl rfl)); replace HB := Aside0.mk (below_step (zg85 HB) hb); clear hb ho4) | ((with_reducible refine gq 47 rfl ?_); refine gl (some 7) Try.func47 #[.pointer (some ⟨g, 0, none⟩), .int .i64 6] ?_; (with_reducible refine (spec_l6Rd_pick.calls k g s0_0 s0_1 6 t282 t283 w0 _ ?side1 ?side2 A2.out).mono ?_); (case side1 => exact zi85 HI0); (case side2 => exact zg85 HB); rintro e w5 ⟨rfl, hi, hb, hk⟩; refine ⟨_, rfl, ?_⟩; replace HO281 := Aside0.mk (Kd.R_mono (Kd.R_keep (IsS85.apart (show IsS85 w0 _ g s0_0 s0_1 from zi85 HI0) (zr HO281) (by decide)) hk (fun _ h => h.2)) (fun _ h => h.1)); replace HK := Aside0.mk (KeepBut.trans (zh HK) hk (.inl rfl)); replace HB := Aside0.mk (hb); replace HI0 := Aside0.mk (hi); (try clear hb); (try clear hk); (try clear hi)))
 go_loopg [3, 4] k (fun kq v3 v4 w' => ∃ (x3_1 : List (S36)) (x4_1 : Int) (x1001_1 : Int), v4 = .int .i64 x4_1 ∧ Aside0 (spec_l71Head.l0 kq x3_1 x4_1 s0_0 x1001_1 = some (r1, r2)) ∧ Aside0 (kq ≤ k) ∧ Aside0 (Kd.R k36 36 w' w.heap.size (fun _ => True) v3 x3_1) ∧ Aside0 (IsS85 w0 w' g s0_0 x1001_1) ∧ Aside0 (KeepBut w w' g none) ∧ Aside0 (Below w0.heap.size w0 w'))
 case atStart => exact ⟨(y279), (t282), (t283), zs, H', ⟨Nat.le_refl _⟩, ⟨by exact zr HO281⟩, ⟨zi85 HI0⟩, ⟨zh HK⟩, ⟨zg85 HB⟩⟩
 case round =>
  clear H'
  try clear p2
  try clear c4
  obtain ⟨x3_1, x4_1, x1001_1, rfl, HA, HK1, HO_3, HI0, HK, HB⟩ := hrel
  cases gk with
  | zero => exact absurd HA.out (by simp [spec_l71Head.l0])
  | succ k1 =>
   have H := HA.out
   clear HA
   simp only [spec_l71Head.l0] at H
   by_cases c6 : x4_1 > 0
   ·rw [if_pos c6] at H
    have c6b0 : decide (0 < x4_1) = true := decide_eq_true c6
    clear c6
    replace H := Option.bind_eq_some_iff.mp H
    obtain ⟨⟨t284, t285, t286, t287⟩, A70, H⟩ := H
    replace H : (if x3_1.length < 3518437208883 then (spec_l71Head.l0 k1 (x3_1 ++ [(⟨t284, t285, t286⟩ : S36)]) (wrap64 (x4_1 - 1)) s0_0 t287) else (none)) = some (r1, r2) := H
    have A7 := Aside0.mk A70
    clear A70
    by_cases c8 : x3_1.length < 3518437208883
    ·rw [if_pos c8] at H
     have LMc8 := Aside0.mk c8
     clear c8
     obtain ⟨y288, hy288⟩ : ∃ y_ : List (S36), y_ = (x3_1 ++ [(⟨t284, t285, t286⟩ : S36)]) := ⟨_, rfl⟩
     replace H : (spec_l71Head.l0 k1 y288 (wrap64 (x4_1 - 1)) s0_0 t287) = some (r1, r2) := by first | (rw [hy288]; with_reducible exact H) | (have H2_ := (Option.bind_some _ _).symm.trans H; rw [hy288]; with_reducible exact H2_) | (have H2_ := (Option.bind_some _ _).symm.trans H; with_reducible exact H2_) | with_reducible exact H | (rw [hy288]; exact H) | exact H
     have Ny288 := Aside0.mk hy288
     clear hy288
     have H' := Aside0.mk H
     clear H
     go_wp2_with (first | ((with_reducible refine gq 58 rfl ?_); refine gl (some 14) Try.func58 #[.pointer (some ⟨g, 0, none⟩)] ?_; (with_reducible refine (spec_l71Field.calls k1 g s0_0 x1001_1 t284 t285 t286 t287 w0 _ ?side1 ?side2 A7.out).mono ?_); (case side1 => exact zi85 HI0); (case side2 => exact zg85 HB); rintro e w9 ⟨rfl, hi, hb, hk⟩; refine ⟨_, rfl, ?_⟩; replace HO_3 := Aside0.mk (Kd.R_mono (Kd.R_keep (IsS85.apart (show IsS85 w0 _ g s0_0 x1001_1 from zi85 HI0) (zr HO_3) (by decide)) hk (fun _ h => h.2)) (fun _ h => h.1)); replace HK := Aside0.mk (KeepBut.trans (zh HK) hk (.inl rfl)); replace HB := Aside0.mk (hb); replace HI0 := Aside0.mk (hi); (try clear hb); (try clear hk); (try clear hi)) | ((with_reducible refine gate_builtin (b := .append) (xs := #[.tmp 12, .tmp 15]) rfl ?_); at_builtin; refine Kd.R_append k36 w.heap.size rfl (.tmp 12) (.tmp 15) 23 36 (.agg #[(.string ⟨#[]⟩), (.string ⟨#[]⟩), (.bool false)]) 40 rfl Try.underlying23 info36 rfl (by decide) (by omega) u3 x3_1 (⟨t284, t285, t286⟩ : S36) [.string t284, .string t285, .bool t286] (fun _ => True) (fun _ => False) rfl rfl ?aP (fun _ hk => hk.elim) ?aF ?aO (Below.refl _ _) ?aS ?aL ?_; (case aP => exact k36_mkM _ _ _ (⟨t284, t285, t286⟩ : S36)); (case aF => exact (fun _ _ => trivial)); (case aO => exact (zr HO_3)); (case aS => exact (keep_size (w := w) (g := g) (row := none) (zh HK))); (case aL => have := LMc8.out; omega); intro v289 w10 ho hb hg hat; rw [← Ny288.out] at ho; replace HI0 := Aside0.mk (IsS85.grown (zi85 HI0) hg (IsS85.own_ne HI0.out HO_3.out (by decide))); replace HB := Aside0.mk (below_weaken (zg85 HB) HL.out hb); replace HK := Aside0.mk (KeepBut.trans (zh HK) (KeepBut.of_grown hg g) (Kd.R_base2 HO_3.out)); have HO290 := Aside0.mk (ho); clear HO_3; clear ho hb hg hat))
     go_roundg k1
     case measure => have := HK1.out; omega
     case rel => exact ⟨(y288), (wrap64 (x4_1 - 1)), (t287), zs, H', ⟨by have := HK1.out; omega⟩, ⟨by exact zr HO290⟩, ⟨zi85 HI0⟩, ⟨zh HK⟩, ⟨zg85 HB⟩⟩
    ·rw [if_neg c8] at H
     exact absurd H (by simp)
   ·rw [if_neg c6] at H
    have c6b0 : decide (0 < x4_1) = false := decide_eq_false c6
    clear c6
    replace H := Option.bind_eq_some_iff.mp H
    obtain ⟨⟨t291, t292⟩, A110, H⟩ := H
    replace H : (if t291 = 0 then (spec_l71Head.l1 k1 x3_1 s0_0 t292) else (some (x3_1, t292))) = some (r1, r2) := H
    have A11 := Aside0.mk A110
    clear A110
    by_cases c12 : t291 = 0
    ·rw [if_pos c12] at H
     have c12b0 : (t291 == 0) = true := beq_iff_eq.mpr c12
     have c12b1 : (t291 != 0) = false := bne_eq_false_iff_eq.mpr c12
     clear c12
     have H' := Aside0.mk H
     clear H
     go_wp2_with (first | ((with_reducible refine gq 47 rfl ?_); refine gl (some 18) Try.func47 #[.pointer (some ⟨g, 0, none⟩), .int .i64 24] ?_; (with_reducible refine (spec_l6Rd_pick.calls k1 g s0_0 x1001_1 24 t291 t292 w0 _ ?side1 ?side2 A11.out).mono ?_); (case side1 => exact zi85 HI0); (case side2 => exact zg85 HB); rintro e w13 ⟨rfl, hi, hb, hk⟩; refine ⟨_, rfl, ?_⟩; replace HO_3 := Aside0.mk (Kd.R_mono (Kd.R_keep (IsS85.apart (show IsS85 w0 _ g s0_0 x1001_1 from zi85 HI0) (zr HO_3) (by decide)) hk (fun _ h => h.2)) (fun _ h => h.1)); replace HK := Aside0.mk (KeepBut.trans (zh HK) hk (.inl rfl)); replace HB := Aside0.mk (hb); replace HI0 := Aside0.mk (hi); (try clear hb); (try clear hk); (try clear hi)))
     go_loopg [3] k1 (fun kq v3 w' => ∃ (x3_2 : List (S36)), Aside0 (spec_l71Head.l1 kq x3_2 s0_0 t292 = some (r1, r2)) ∧ Aside0 (kq ≤ k1) ∧ Aside0 (Kd.R k36 36 w' w.heap.size (fun _ => True) v3 x3_2) ∧ Aside0 (IsS85 w0 w' g s0_0 t292) ∧ Aside0 (KeepBut w w' g none) ∧ Aside0 (Below w0.heap.size w0 w'))
     case atStart => exact ⟨(x3_1), H', ⟨Nat.le_refl _⟩, ⟨by exact zr HO_3⟩, ⟨zi85 HI0⟩, ⟨zh HK⟩, ⟨zg85 HB⟩⟩
     case round =>
      clear H'
      try clear c1
      try clear p2
      try clear c4
      try clear c5
      try clear c6
      try clear c6b0
      try clear p6
      try clear c8
      try clear c12
      try clear c12b0
      try clear c12b1
      try clear p2
      obtain ⟨x3_2, HA, HK2, HO_3, HI0, HK, HB⟩ := hrel
      cases gk with
      | zero => exact absurd HA.out (by simp [spec_l71Head.l1])
      | succ k2 =>
       have H := HA.out
       clear HA
       simp only [spec_l71Head.l1] at H
       by_cases c14 : (x3_2.length : Int) ≤ 6
       ·rw [if_pos c14] at H
        have c14b0 : decide ((x3_2.length : Int) ≤ 6) = true := decide_eq_true c14
        have c14b1 : decide (x3_2.length ≤ 6) = true := decide_eq_true (by omega)
        clear c14
        by_cases c15 : x3_2.length < 3518437208883
        ·rw [if_pos c15] at H
         have LMc15 := Aside0.mk c15
         clear c15
         obtain ⟨y293, hy293⟩ : ∃ y_ : List (S36), y_ = (x3_2 ++ [(⟨(⟨#[116, 101]⟩ : ByteArray), (⟨#[]⟩ : ByteArray), false⟩ : S36)]) := ⟨_, rfl⟩
         replace H : (spec_l71Head.l1 k2 y293 s0_0 t292) = some (r1, r2) := by first | (rw [hy293]; with_reducible exact H) | (have H2_ := (Option.bind_some _ _).symm.trans H; rw [hy293]; with_reducible exact H2_) | (have H2_ := (Option.bind_some _ _).symm.trans H; with_reducible exact H2_) | with_reducible exact H | (rw [hy293]; exact H) | exact H
         have Ny293 := Aside0.mk hy293
         clear hy293
         have H' := Aside0.mk H
         clear H
         obtain ⟨Ao16, co16, eo16⟩ := Kd.R_slice HO_3.out
         subst eo16
         go_wp2_with (first | ((with_reducible refine gate_builtin (b := .append) (xs := #[.tmp 23, .tmp 25]) rfl ?_); at_builtin; refine Kd.R_append k36 w.heap.size rfl (.tmp 23) (.tmp 25) 23 36 (.agg #[(.string ⟨#[]⟩), (.string ⟨#[]⟩), (.bool false)]) 40 rfl Try.underlying23 info36 rfl (by decide) (by omega) (.slice Ao16 x3_2.length co16) x3_2 (⟨(⟨#[116, 101]⟩ : ByteArray), (⟨#[]⟩ : ByteArray), false⟩ : S36) [.string (⟨#[116, 101]⟩ : ByteArray), .string (⟨#[]⟩ : ByteArray), .bool false] (fun _ => True) (fun _ => False) rfl rfl ?aP (fun _ hk => hk.elim) ?aF ?aO (Below.refl _ _) ?aS ?aL ?_; (case aP => exact k36_mkM _ _ _ (⟨(⟨#[116, 101]⟩ : ByteArray), (⟨#[]⟩ : ByteArray), false⟩ : S36)); (case aF => exact (fun _ _ => trivial)); (case aO => exact (zr HO_3)); (case aS => exact (keep_size (w := w) (g := g) (row := none) (zh HK))); (case aL => have := LMc15.out; omega); intro v294 w17 ho hb hg hat; rw [← Ny293.out] at ho; replace HI0 := Aside0.mk (IsS85.grown (zi85 HI0) hg (IsS85.own_ne HI0.out HO_3.out (by decide))); replace HB := Aside0.mk (below_weaken (zg85 HB) HL.out hb); replace HK := Aside0.mk (KeepBut.trans (zh HK) (KeepBut.of_grown hg g) (Kd.R_base2 HO_3.out)); have HO295 := Aside0.mk (ho); clear HO_3; clear ho hb hg hat))
         go_roundg k2
         case measure => have := HK1.out; have := HK2.out; omega
         case rel => exact ⟨(y293), H', ⟨by have := HK1.out; have := HK2.out; omega⟩, ⟨by exact zr HO295⟩, ⟨zi85 HI0⟩, ⟨zh HK⟩, ⟨zg85 HB⟩⟩
        ·rw [if_neg c15] at H
         exact absurd H (by simp)
       ·rw [if_neg c14] at H
        have c14b0 : decide ((x3_2.length : Int) ≤ 6) = false := decide_eq_false c14
        have c14b1 : decide (x3_2.length ≤ 6) = false := decide_eq_false (by omega)
        clear c14
        simp only [Option.some.injEq, Prod.mk.injEq] at H
        obtain ⟨rfl, rfl⟩ := H
        obtain ⟨Ao18, co18, eo18⟩ := Kd.R_slice HO_3.out
        subst eo18
        go_wp2
        go_ret
        exact ⟨_, ze, by (with_reducible repeat (first | apply Kd.R_alloc | apply Kd.R_drewN | apply Kd.R_drew)); exact HO_3.out, zi85 HI0, zg85 HB, zh HK⟩
    ·rw [if_neg c12] at H
     have c12b0 : (t291 == 0) = false := beq_eq_false_iff_ne.mpr c12
     have c12b1 : (t291 != 0) = true := bne_iff_ne.mpr c12
     simp only [Option.some.injEq, Prod.mk.injEq] at H
     obtain ⟨rfl, rfl⟩ := H
     go_wp2_with (first | ((with_reducible refine gq 47 rfl ?_); refine gl (some 18) Try.func47 #[.pointer (some ⟨g, 0, none⟩), .int .i64 24] ?_; (with_reducible refine (spec_l6Rd_pick.calls k1 g s0_0 x1001_1 24 t291 t292 w0 _ ?side1 ?side2 A11.out).mono ?_); (case side1 => exact zi85 HI0); (case side2 => exact zg85 HB); rintro e w19 ⟨rfl, hi, hb, hk⟩; refine ⟨_, rfl, ?_⟩; replace HO_3 := Aside0.mk (Kd.R_mono (Kd.R_keep (IsS85.apart (show IsS85 w0 _ g s0_0 x1001_1 from zi85 HI0) (zr HO_3) (by decide)) hk (fun _ h => h.2)) (fun _ h => h.1)); replace HK := Aside0.mk (KeepBut.trans (zh HK) hk (.inl rfl)); replace HB := Aside0.mk (hb); replace HI0 := Aside0.mk (hi); (try clear hb); (try clear hk); (try clear hi)))
     go_ret
     exact ⟨_, ze, by (with_reducible repeat (first | apply Kd.R_alloc | apply Kd.R_drewN | apply Kd.R_drew)); exact HO_3.out, zi85 HI0, zg85 HB, zh HK⟩

/-! ### spec_DrawHeadWrite: function 37 -/
-- thin
def spec_DrawHeadWrite.f (k : Nat) (l0 : List Int) : Option ((List (S36)) × Int × (List (S36))) := (spec_l6Open.f l0).bind fun bt297 => ((spec_l71Table.f k bt297.1 bt297.2).bind fun bt300 => ((spec_l71Head.f k bt297.1 bt300.2.2).bind fun bt305 => (some (bt300.1, bt300.2.1, bt305.1))))
theorem spec_DrawHeadWrite.mono : ∀ a0 k, LeO (spec_DrawHeadWrite.f k a0) (spec_DrawHeadWrite.f (k + 1) a0) := by
 intro a0 k
 unfold spec_DrawHeadWrite.f
 repeat' first
   | (with_reducible exact spec_l71Head.mono _ _ _)
   | (with_reducible exact spec_l71Table.mono _ _ _)
   | (with_reducible exact LeO.refl _)
   | (with_reducible exact LeO.none _)
   | (with_reducible refine LeO.ite ?_ ?_)
   | (with_reducible refine LeO.bind ?_ (fun _ => ?_))
   | exact spec_l71Head.mono _ _ _
   | exact spec_l71Table.mono _ _ _
   | exact LeO.none _
   | refine LeO.ite ?_ ?_
   | refine LeO.bind ?_ (fun _ => ?_)
set_option maxHeartbeats 8000000 in
set_option maxRecDepth 100000 in
theorem spec_DrawHeadWrite.calls (k : Nat) (A0 : Option Addr) (c0 : Nat) (l0 : List Int) (r1 : List (S36)) (r2 : Int) (r3 : List (S36)) (w : World) (hr0 : Kd.C (Kd.int .u8) w A0 l0.length l0) (hc0 : l0.length ≤ c0) (h : spec_DrawHeadWrite.f k l0 = some (r1, r2, r3)) :
  Calls Try.prog 37 #[.slice A0 l0.length c0] w fun e w' => ∃ v0_ v2_ : Value, e = .returned (.tuple #[.agg #[v0_, .int .i64 r2], v2_]) ∧ Kd.R k36 36 w' w.heap.size (fun k_ => some k_ ≠ (v2_ : Value).ownBlock) v0_ r1 ∧ Kd.R k36 36 w' w.heap.size (fun k_ => some k_ ≠ (v0_ : Value).ownBlock) v2_ r3 ∧ Below w.heap.size w w' := by
 have hu25 := Try.underlying25
 have HR0 := Aside0.mk hr0
 have HC0 := Aside0.mk hc0
 clear hr0 hc0
 have HB := Aside0.mk (Below.refl w.heap.size w)
 have H : ((spec_l6Open.f l0).bind fun bt297 => ((spec_l71Table.f k bt297.1 bt297.2).bind fun bt300 => ((spec_l71Head.f k bt297.1 bt300.2.2).bind fun bt305 => (some (bt300.1, bt300.2.1, bt305.1))))) = some (r1, r2, r3) := h
 clear h
 replace H := Option.bind_eq_some_iff.mp H
 obtain ⟨⟨t297, t298⟩, A20, H⟩ := H
 replace H : ((spec_l71Table.f k t297 t298).bind fun bt300 => ((spec_l71Head.f k t297 bt300.2.2).bind fun bt305 => (some (bt300.1, bt300.2.1, bt305.1)))) = some (r1, r2, r3) := H
 have A2 := Aside0.mk A20
 clear A20
 replace H := Option.bind_eq_some_iff.mp H
 obtain ⟨⟨t300, t303, t304⟩, A30, H⟩ := H
 replace H : ((spec_l71Head.f k t297 t304).bind fun bt305 => (some (t300, t303, bt305.1))) = some (r1, r2, r3) := H
 have A3 := Aside0.mk A30
 clear A30
 replace H := Option.bind_eq_some_iff.mp H
 obtain ⟨⟨t305, t308⟩, A40, H⟩ := H
 replace H : (some (t300, t303, t305)) = some (r1, r2, r3) := H
 have A4 := Aside0.mk A40
 clear A40
 simp only [Option.some.injEq, Prod.mk.injEq] at H
 obtain ⟨rfl, rfl, rfl⟩ := H
 go_enter Try.func37, Try.ntmps37
 go_wp2_with (first | ((with_reducible refine gd 2 rfl ?_); refine bx (N := 2) (cs := #[.slice none 0 0, .int .i64 0]) (t := 25) ?_; intro gb296 hg w5 hbox hb; have BK296 := Aside0.mk (hbox); have GW296 := Aside0.mk ((by rw [hg]; exact (below_size (zb HB)) : w.heap.size ≤ gb296)); have GE296 := Aside0.mk ((by rw [hg]; exact (below_size (zb HB)) : w.heap.size ≤ gb296)); replace HB := Aside0.mk (below_step (zb HB) hb); clear hb hbox hg) | ((with_reducible refine gq 45 rfl ?_); refine gl (some 6) Try.func45 #[.slice A0 l0.length c0] ?_; (with_reducible refine (spec_l6Open.calls _ _ l0 t297 t298 w _ ?side1 ?side2 ?side3 A2.out).mono ?_); (case side1 => exact zb HB); (case side2 => exact HR0.out); (case side3 => exact HC0.out); rintro e w6 ⟨g299, rfl, hi, hb, hb2⟩; refine ⟨_, rfl, ?_⟩; replace HB := Aside0.mk (hb); have HI299 := Aside0.mk (hi); have NB299_296 := Aside0.mk (IsS85.ne_blk hi (blk_below (g := gb296) (o := .cells #[.slice none 0 0, .int .i64 0] 25 (0, 0)) (zk BK296) hb2) (by decide)); have NB296_299 := Aside0.mk (Ne.symm (IsS85.ne_blk hi (blk_below (g := gb296) (o := .cells #[.slice none 0 0, .int .i64 0] 25 (0, 0)) (zk BK296) hb2) (by decide))); replace BK296 := Aside0.mk (blk_below (g := gb296) (o := .cells #[.slice none 0 0, .int .i64 0] 25 (0, 0)) (zk BK296) hb2); (try clear hb); (try clear hb2); (try clear hi)) | ((with_reducible refine gq 46 rfl ?_); refine gl (some 8) Try.func46 #[.pointer (some ⟨g299, 0, none⟩)] ?_; (with_reducible refine (spec_l71Table.calls k g299 t297 t298 t300 t303 t304 w _ ?side1 ?side2 A3.out).mono ?_); (case side1 => exact zi85 HI299); (case side2 => exact zg85 HB); rintro e w7 ⟨v301, rfl, ho0, hi, hb, hk⟩; refine ⟨_, rfl, ?_⟩; replace BK296 := Aside0.mk (KeepBut.blk hk (g' := gb296) (o := .cells #[.slice none 0 0, .int .i64 0] 25 (0, 0)) (zk BK296) NB296_299.out (by simp)); have HO302 := Aside0.mk (Kd.R_lower ho0 (below_size (zg85 HB))); replace HB := Aside0.mk (hb); replace HI299 := Aside0.mk (hi); (try clear hb); (try clear hk); (try clear hi); (try clear ho0)) | ((with_reducible refine gq 63 rfl ?_); refine gl (some 10) Try.func63 #[.pointer (some ⟨g299, 0, none⟩)] ?_; (with_reducible refine (spec_l71Head.calls k g299 t297 t304 t305 t308 w _ ?side1 ?side2 A4.out).mono ?_); (case side1 => exact zi85 HI299); (case side2 => exact zg85 HB); rintro e w8 ⟨v306, rfl, ho0, hi, hb, hk⟩; refine ⟨_, rfl, ?_⟩; replace BK296 := Aside0.mk (KeepBut.blk hk (g' := gb296) (o := .cells #[.slice none 0 0, .int .i64 0] 25 (0, 0)) (zk BK296) NB296_299.out (by simp)); have HO307 := Aside0.mk (Kd.R_lower (Kd.R_new' ho0 (Kd.R_lt (zr HO302))) (below_size (zg85 HB))); replace HO302 := Aside0.mk (Kd.R_mono (Kd.R_told (Kd.R_oldK (IsS85.apart (show IsS85 w _ g299 t297 t304 from zi85 HI299) (zr HO302) (by decide)) hk) (Kd.R_base ho0)) (fun _ h_ => h_.1)); replace HB := Aside0.mk (hb); replace HI299 := Aside0.mk (hi); (try clear hb); (try clear hk); (try clear hi); (try clear ho0); obtain ⟨Ao9, co9, eo9⟩ := Kd.R_slice HO302.out; subst eo9; have hnb10 := NB296_299.out; have hnc10 := NB299_296.out; have hcz11_0 : w8.cell? ⟨gb296, 0, none⟩ = some (.slice none 0 0) := (blk_cell BK296.out 0).trans rfl; have hcz11_1 : w8.cell? ⟨gb296, 1, none⟩ = some (.int .i64 0) := (blk_cell BK296.out 1).trans rfl; have hfz11_0 := blk_frozen BK296.out 0; have hfz11_1 := blk_frozen BK296.out 1))
 refine bodyPost_ret (results_ct rfl _ _ gb296 25 #[.slice Ao9 t300.length co9, .int .i64 t303] (0, 0) _ rfl (by (with_reducible repeat (first | refine blk_drewN ?_ _ | refine blk_drew ?_ | refine blk_alloc ?_ _)); refine blk_put (cs := #[.slice Ao9 t300.length co9, .int .i64 0]) ?_ 1 _ rfl; (with_reducible repeat (first | refine blk_drewN ?_ _ | refine blk_drew ?_ | refine blk_alloc ?_ _)); refine blk_put (cs := #[.slice none 0 0, .int .i64 0]) ?_ 0 _ rfl; exact zk BK296) Try.underlying25 rfl (by kernel_rfl)) rfl ?_
 exact ⟨_, _, ze, by (with_reducible repeat (first | apply Kd.R_alloc | apply Kd.R_drewN | apply Kd.R_drew)); exact Kd.R_mono (Kd.R_far (p := ⟨gb296, 1, none⟩) (Kd.R_far (p := ⟨gb296, 0, none⟩) (Kd.R_types HO302.out BK296.out (by decide)) (fun _ hk => hk.2) (.slice Ao9 t300.length co9)) (fun _ hk => hk.2) (.int .i64 t303)) (fun _ hk => hk.1.2), by (with_reducible repeat (first | apply Kd.R_alloc | apply Kd.R_drewN | apply Kd.R_drew)); exact Kd.R_mono (Kd.R_far (p := ⟨gb296, 1, none⟩) (Kd.R_far (p := ⟨gb296, 0, none⟩) (Kd.R_types HO307.out BK296.out (by decide)) (fun _ hk => hk.2) (.slice Ao9 t300.length co9)) (fun _ hk => hk.2) (.int .i64 t303)) (fun _ hk => hk.1.2), zg85 HB⟩

/-! ### spec_HeadOk: function 40 -/
-- thin
def spec_HeadOk.l0 : Nat → List (S36) → Int → Option (Bool)
 | 0, _, _ => none
 | k + 1, x0, x3 => if x3 < (x0.length : Int) then (if 0 ≤ x3 then ((spec_FieldOk.f k ((rd_T36 x0 x3).f0) ((rd_T36 x0 x3).f1) ((rd_T36 x0 x3).f2)).bind fun t310 => (if t310 = true then (spec_HeadOk.l0 k x0 (wrap64 (x3 + 1))) else (some false))) else (none)) else (some (decide ((x0.length : Int) ≤ 6)))
def spec_HeadOk.f (k : Nat) (l0 : List (S36)) : Option (Bool) := spec_HeadOk.l0 k l0 0
theorem spec_HeadOk.mono_l : ∀ k, (∀ y0 y1, LeO (spec_HeadOk.l0 k y0 y1) (spec_HeadOk.l0 (k + 1) y0 y1))
 | 0 => fun _ _ r h => by simp [spec_HeadOk.l0] at h
 | k + 1 => by
  have ih0 := spec_HeadOk.mono_l k
  ·intro y0 y1
   unfold spec_HeadOk.l0
   repeat' first
   | (with_reducible exact ih0 _ _)
   | (with_reducible exact spec_FieldOk.mono _ _ _ _)
   | (with_reducible exact LeO.refl _)
   | (with_reducible exact LeO.none _)
   | (with_reducible refine LeO.ite ?_ ?_)
   | (with_reducible refine LeO.bind ?_ (fun _ => ?_))
   | exact ih0 _ _
   | exact spec_FieldOk.mono _ _ _ _
   | exact LeO.none _
   | refine LeO.ite ?_ ?_
   | refine LeO.bind ?_ (fun _ => ?_)
theorem spec_HeadOk.mono : ∀ a0 k, LeO (spec_HeadOk.f k a0) (spec_HeadOk.f (k + 1) a0) := by
 intro a0 k
 have ih0 := spec_HeadOk.mono_l k
 unfold spec_HeadOk.f
 repeat' first
   | (with_reducible exact ih0 _ _)
   | (with_reducible exact spec_FieldOk.mono _ _ _ _)
   | (with_reducible exact LeO.refl _)
   | (with_reducible exact LeO.none _)
   | (with_reducible refine LeO.ite ?_ ?_)
   | (with_reducible refine LeO.bind ?_ (fun _ => ?_))
   | exact ih0 _ _
   | exact spec_FieldOk.mono _ _ _ _
   | exact LeO.none _
   | refine LeO.ite ?_ ?_
   | refine LeO.bind ?_ (fun _ => ?_)
set_option maxHeartbeats 8000000 in
set_option maxRecDepth 100000 in
theorem spec_HeadOk.calls (k : Nat) (A0 : Option Addr) (c0 : Nat) (l0 : List (S36)) (r : Bool) (w : World) (hr0 : Kd.C k36 w A0 l0.length l0) (hc0 : l0.length ≤ c0) (h : spec_HeadOk.f k l0 = some r) :
  Calls Try.prog 40 #[.slice A0 l0.length c0] w fun e w' => e = .returned (.bool r) ∧ Below w.heap.size w w' := by
 have hu36 := Try.underlying36
 have HR0 := Aside0.mk hr0
 have HC0 := Aside0.mk hc0
 clear hr0 hc0
 have HB := Aside0.mk (Below.refl w.heap.size w)
 have H : (spec_HeadOk.l0 k l0 0) = some r := h
 clear h
 have H' := Aside0.mk H
 clear H
 go_enter Try.func40, Try.ntmps40
 go_wp2
 go_loopg [3] k (fun kq v3 w' => ∃ (x3_1 : Int), v3 = .int .i64 x3_1 ∧ Aside0 (spec_HeadOk.l0 kq l0 x3_1 = some r) ∧ Aside0 (kq ≤ k) ∧ Aside0 (Below w.heap.size w w'))
 case atStart => exact ⟨(0), zs, H', ⟨Nat.le_refl _⟩, ⟨zb HB⟩⟩
 case round =>
  clear H'
  obtain ⟨x3_1, rfl, HA, HK1, HB⟩ := hrel
  cases gk with
  | zero => exact absurd HA.out (by simp [spec_HeadOk.l0])
  | succ k1 =>
   have H := HA.out
   clear HA
   simp only [spec_HeadOk.l0] at H
   by_cases c2 : x3_1 < (l0.length : Int)
   ·rw [if_pos c2] at H
    have c2b0 : decide (x3_1 < (l0.length : Int)) = true := decide_eq_true c2
    clear c2
    by_cases c3 : 0 ≤ x3_1
    ·rw [if_pos c3] at H
     have c3b0 : decide (0 ≤ x3_1) = true := decide_eq_true c3
     clear c3
     replace H := Option.bind_eq_some_iff.mp H
     obtain ⟨t310, A40, H⟩ := H
     replace H : (if t310 = true then (spec_HeadOk.l0 k1 l0 (wrap64 (x3_1 + 1))) else (some false)) = some r := H
     have A4 := Aside0.mk A40
     clear A40
     have HC5 := Aside0.mk H
     clear H
     have p309 : 0 ≤ (x3_1 : Int) := of_decide_eq_true za
     have q309 : x3_1 < (l0.length : Int) := of_decide_eq_true za
     obtain ⟨ad309, e309, hx309_0, hx309_1, hx309_2⟩ := at_T36 HR0.out x3_1 p309 q309
     cases e309
     replace hx309_0 := (HB.out.cell (World.block_lt_of_cell? w _ hx309_0)).trans hx309_0
     replace hx309_1 := (HB.out.cell (World.block_lt_of_cell? w _ hx309_1)).trans hx309_1
     replace hx309_2 := (HB.out.cell (World.block_lt_of_cell? w _ hx309_2)).trans hx309_2
     replace p309 := eq_true p309
     replace q309 := eq_true q309
     go_upto_if 15 with (first | ((with_reducible refine gq 32 rfl ?_); refine gl (some 14) Try.func32 #[.agg #[.string ((rd_T36 l0 x3_1).f0), .string ((rd_T36 l0 x3_1).f1), .bool ((rd_T36 l0 x3_1).f2)]] ?_; (with_reducible refine (spec_FieldOk.calls k1 ((rd_T36 l0 x3_1).f0) ((rd_T36 l0 x3_1).f1) ((rd_T36 l0 x3_1).f2) t310 _ A4.out).mono ?_); rintro e w6 ⟨rfl, hb⟩; refine ⟨_, rfl, ?_⟩; replace HB := Aside0.mk (below_step (zb HB) hb); (try clear hb)))
     (try simp only [Act.put, s1, s2, s3])
     have H := HC5.out
     clear HC5
     by_cases c7 : t310 = true
     ·subst c7
      have H1 : (spec_HeadOk.l0 k1 l0 (wrap64 (x3_1 + 1))) = some r := by rw [if_pos rfl] at H; exact H
      clear H
      have H := H1
      clear H1
      have H' := Aside0.mk H
      clear H
      go_wp2
      go_roundg k1
      case measure => have := HK1.out; omega
      case rel => exact ⟨(wrap64 (x3_1 + 1)), zs, H', ⟨by have := HK1.out; omega⟩, ⟨zb HB⟩⟩
     ·replace c7 := Bool.eq_false_iff.mpr c7
      subst c7
      have H1 : (some false) = some r := by rw [if_neg (show ¬ (false = true) by decide)] at H; exact H
      clear H
      have H := H1
      clear H1
      obtain rfl := Option.some.inj H
      go_wp2
      go_ret
      exact ⟨ze, zb HB⟩
    ·rw [if_neg c3] at H
     exact absurd H (by simp)
   ·rw [if_neg c2] at H
    have c2b0 : decide (x3_1 < (l0.length : Int)) = false := decide_eq_false c2
    clear c2
    obtain rfl := Option.some.inj H
    go_wp2
    go_ret
    exact ⟨ze, zb HB⟩

/-! ### spec_TableFixed: function 100 -/
-- thin
def spec_TableFixed.f  : Option ((List (S36))) := some (([(⟨(⟨#[58, 112, 97, 116, 104]⟩ : ByteArray), (⟨#[]⟩ : ByteArray), false⟩ : S36), (⟨(⟨#[58, 115, 116, 97, 116, 117, 115]⟩ : ByteArray), (⟨#[48]⟩ : ByteArray), false⟩ : S36), (⟨(⟨#[58, 115, 116, 97, 116, 117, 115]⟩ : ByteArray), (⟨#[49, 50]⟩ : ByteArray), false⟩ : S36), (⟨(⟨#[107, 105, 110, 100]⟩ : ByteArray), (⟨#[116, 101, 120, 116]⟩ : ByteArray), false⟩ : S36), (⟨(⟨#[115, 105, 122, 101]⟩ : ByteArray), (⟨#[]⟩ : ByteArray), false⟩ : S36), (⟨(⟨#[116, 101]⟩ : ByteArray), (⟨#[116, 114, 97, 105, 108, 101, 114, 115]⟩ : ByteArray), false⟩ : S36)] : List (S36)))
set_option maxHeartbeats 8000000 in
set_option maxRecDepth 100000 in
theorem spec_TableFixed.calls  (r : List (S36)) (w : World) (h : spec_TableFixed.f  = some r) :
  Calls Try.prog 100 #[] w fun e w' => ∃ v0_ : Value, e = .returned (v0_) ∧ Kd.R k36 36 w' w.heap.size (fun _ => True) v0_ r ∧ Below w.heap.size w w' := by
 have hu36 := Try.underlying36
 have HB := Aside0.mk (Below.refl w.heap.size w)
 have H : (some (([(⟨(⟨#[58, 112, 97, 116, 104]⟩ : ByteArray), (⟨#[]⟩ : ByteArray), false⟩ : S36), (⟨(⟨#[58, 115, 116, 97, 116, 117, 115]⟩ : ByteArray), (⟨#[48]⟩ : ByteArray), false⟩ : S36), (⟨(⟨#[58, 115, 116, 97, 116, 117, 115]⟩ : ByteArray), (⟨#[49, 50]⟩ : ByteArray), false⟩ : S36), (⟨(⟨#[107, 105, 110, 100]⟩ : ByteArray), (⟨#[116, 101, 120, 116]⟩ : ByteArray), false⟩ : S36), (⟨(⟨#[115, 105, 122, 101]⟩ : ByteArray), (⟨#[]⟩ : ByteArray), false⟩ : S36), (⟨(⟨#[116, 101]⟩ : ByteArray), (⟨#[116, 114, 97, 105, 108, 101, 114, 115]⟩ : ByteArray), false⟩ : S36)] : List (S36)))) = some r := h
 clear h
 obtain ⟨y311, hy311⟩ : ∃ y_ : List (S36), y_ = (([(⟨(⟨#[58, 112, 97, 116, 104]⟩ : ByteArray), (⟨#[]⟩ : ByteArray), false⟩ : S36), (⟨(⟨#[58, 115, 116, 97, 116, 117, 115]⟩ : ByteArray), (⟨#[48]⟩ : ByteArray), false⟩ : S36), (⟨(⟨#[58, 115, 116, 97, 116, 117, 115]⟩ : ByteArray), (⟨#[49, 50]⟩ : ByteArray), false⟩ : S36), (⟨(⟨#[107, 105, 110, 100]⟩ : ByteArray), (⟨#[116, 101, 120, 116]⟩ : ByteArray), false⟩ : S36), (⟨(⟨#[115, 105, 122, 101]⟩ : ByteArray), (⟨#[]⟩ : ByteArray), false⟩ : S36), (⟨(⟨#[116, 101]⟩ : ByteArray), (⟨#[116, 114, 97, 105, 108, 101, 114, 115]⟩ : ByteArray), false⟩ : S36)] : List (S36))) := ⟨_, rfl⟩
 replace H : (some y311) = some r := by first | (rw [hy311]; with_reducible exact H) | (have H2_ := (Option.bind_some _ _).symm.trans H; rw [hy311]; with_reducible exact H2_) | (have H2_ := (Option.bind_some _ _).symm.trans H; with_reducible exact H2_) | with_reducible exact H | (rw [hy311]; exact H) | exact H
 have Ny311 := Aside0.mk hy311
 clear hy311
 obtain rfl := Option.some.inj H
 go_enter Try.func100, Try.ntmps100
 go_wp2_with (first | ((with_reducible refine gd 7 rfl ?_); refine Kd.R_lit k36 _ 36 ?hg (N := 7) ?hd (xs := ([(⟨(⟨#[58, 112, 97, 116, 104]⟩ : ByteArray), (⟨#[]⟩ : ByteArray), false⟩ : S36), (⟨(⟨#[58, 115, 116, 97, 116, 117, 115]⟩ : ByteArray), (⟨#[48]⟩ : ByteArray), false⟩ : S36), (⟨(⟨#[58, 115, 116, 97, 116, 117, 115]⟩ : ByteArray), (⟨#[49, 50]⟩ : ByteArray), false⟩ : S36), (⟨(⟨#[107, 105, 110, 100]⟩ : ByteArray), (⟨#[116, 101, 120, 116]⟩ : ByteArray), false⟩ : S36), (⟨(⟨#[115, 105, 122, 101]⟩ : ByteArray), (⟨#[]⟩ : ByteArray), false⟩ : S36), (⟨(⟨#[116, 101]⟩ : ByteArray), (⟨#[116, 114, 97, 105, 108, 101, 114, 115]⟩ : ByteArray), false⟩ : S36)] : List (S36))) (inner := [.string (⟨#[58, 112, 97, 116, 104]⟩ : ByteArray), .string (⟨#[]⟩ : ByteArray), .bool false, .string (⟨#[58, 115, 116, 97, 116, 117, 115]⟩ : ByteArray), .string (⟨#[48]⟩ : ByteArray), .bool false, .string (⟨#[58, 115, 116, 97, 116, 117, 115]⟩ : ByteArray), .string (⟨#[49, 50]⟩ : ByteArray), .bool false, .string (⟨#[107, 105, 110, 100]⟩ : ByteArray), .string (⟨#[116, 101, 120, 116]⟩ : ByteArray), .bool false, .string (⟨#[115, 105, 122, 101]⟩ : ByteArray), .string (⟨#[]⟩ : ByteArray), .bool false, .string (⟨#[116, 101]⟩ : ByteArray), .string (⟨#[116, 114, 97, 105, 108, 101, 114, 115]⟩ : ByteArray), .bool false]) (ok := fun _ => True) (okp := fun _ => True) ?hr ?hp (fun _ hk => hk) trivial (Below.refl _ _) (Nat.le_refl _) (by simp) ?_; (case hd => rfl); (case hg => rfl); (case hr => first | (go_simp; done) | (go_simp; rfl)); (case hp => exact (Reps.c3 (show Kd.M k36 _ _ _ (⟨(⟨#[58, 112, 97, 116, 104]⟩ : ByteArray), (⟨#[]⟩ : ByteArray), false⟩ : S36) [.string (⟨#[58, 112, 97, 116, 104]⟩ : ByteArray), .string (⟨#[]⟩ : ByteArray), .bool false] from (k36_mkM _ _ _ (⟨(⟨#[58, 112, 97, 116, 104]⟩ : ByteArray), (⟨#[]⟩ : ByteArray), false⟩ : S36) )) (Reps.c3 (show Kd.M k36 _ _ _ (⟨(⟨#[58, 115, 116, 97, 116, 117, 115]⟩ : ByteArray), (⟨#[48]⟩ : ByteArray), false⟩ : S36) [.string (⟨#[58, 115, 116, 97, 116, 117, 115]⟩ : ByteArray), .string (⟨#[48]⟩ : ByteArray), .bool false] from (k36_mkM _ _ _ (⟨(⟨#[58, 115, 116, 97, 116, 117, 115]⟩ : ByteArray), (⟨#[48]⟩ : ByteArray), false⟩ : S36) )) (Reps.c3 (show Kd.M k36 _ _ _ (⟨(⟨#[58, 115, 116, 97, 116, 117, 115]⟩ : ByteArray), (⟨#[49, 50]⟩ : ByteArray), false⟩ : S36) [.string (⟨#[58, 115, 116, 97, 116, 117, 115]⟩ : ByteArray), .string (⟨#[49, 50]⟩ : ByteArray), .bool false] from (k36_mkM _ _ _ (⟨(⟨#[58, 115, 116, 97, 116, 117, 115]⟩ : ByteArray), (⟨#[49, 50]⟩ : ByteArray), false⟩ : S36) )) (Reps.c3 (show Kd.M k36 _ _ _ (⟨(⟨#[107, 105, 110, 100]⟩ : ByteArray), (⟨#[116, 101, 120, 116]⟩ : ByteArray), false⟩ : S36) [.string (⟨#[107, 105, 110, 100]⟩ : ByteArray), .string (⟨#[116, 101, 120, 116]⟩ : ByteArray), .bool false] from (k36_mkM _ _ _ (⟨(⟨#[107, 105, 110, 100]⟩ : ByteArray), (⟨#[116, 101, 120, 116]⟩ : ByteArray), false⟩ : S36) )) (Reps.c3 (show Kd.M k36 _ _ _ (⟨(⟨#[115, 105, 122, 101]⟩ : ByteArray), (⟨#[]⟩ : ByteArray), false⟩ : S36) [.string (⟨#[115, 105, 122, 101]⟩ : ByteArray), .string (⟨#[]⟩ : ByteArray), .bool false] from (k36_mkM _ _ _ (⟨(⟨#[115, 105, 122, 101]⟩ : ByteArray), (⟨#[]⟩ : ByteArray), false⟩ : S36) )) (Reps.c3 (show Kd.M k36 _ _ _ (⟨(⟨#[116, 101]⟩ : ByteArray), (⟨#[116, 114, 97, 105, 108, 101, 114, 115]⟩ : ByteArray), false⟩ : S36) [.string (⟨#[116, 101]⟩ : ByteArray), .string (⟨#[116, 114, 97, 105, 108, 101, 114, 115]⟩ : ByteArray), .bool false] from (k36_mkM _ _ _ (⟨(⟨#[116, 101]⟩ : ByteArray), (⟨#[116, 114, 97, 105, 108, 101, 114, 115]⟩ : ByteArray), false⟩ : S36) )) (Reps.none _ _)))))))); intro v312 w1 ho2 hb hg_ hnew_; clear hg_ hnew_; (first | rw [← Ny311.out] at ho2 | (simp only [Int.reduceToNat] at ho2; rw [← Ny311.out] at ho2)); have HO313 := Aside0.mk (Kd.R_lower ho2 (below_size (zb HB))); replace HB := Aside0.mk (below_step (zb HB) hb); clear hb ho2))
 go_ret
 exact ⟨_, ze, by (with_reducible repeat (first | apply Kd.R_alloc | apply Kd.R_drewN | apply Kd.R_drew)); exact HO313.out, zb HB⟩

end Go.Proofs.Ytdhahifdcoinhaa.PFnHeadAgain
