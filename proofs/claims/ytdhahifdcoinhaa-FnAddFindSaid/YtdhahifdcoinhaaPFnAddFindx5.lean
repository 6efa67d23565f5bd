-- WRITTEN BY a turned print (wip/tools of the prover's repo)
import Derived.Test.YtdhahifdcoinhaaPFnAddFindx0
import Derived.Test.YtdhahifdcoinhaaPFnAddFindx2
import Derived.Test.YtdhahifdcoinhaaPFnAddFindx3
import Derived.Test.YtdhahifdcoinhaaPFnAddFindx4
namespace Go.Proofs.Ytdhahifdcoinhaa.PFnAddFind
open Go.RowKit Go.Proofs.YtdhahifdcoinhaaW.PrintWords Go.Proofs.YtdhahifdcoinhaaW.PrintLast Go.Proofs.YtdhahifdcoinhaaW.PrintMore Go.Proofs.Ytdhahifdcoinhaa.Lm
attribute [local go_sem] max2_int min2_int max_two min_two max_three min_three max_four min_four   -- for this text's walks alone
set_option linter.unusedVariables false
set_option linter.unusedSimpArgs false

/-! ### spec_l71Table: function 46 -/
-- thin
def spec_l71Table.l0 : Nat → Int → List Int → Int → List (S36) → Int → Option ((List (S36)) × Int × Int)
 | 0, _, _, _, _, _ => none
 | k + 1, x4, x1000, x1001, x208000, x208001 => if x4 > 0 then ((spec_l71Field.f k x1000 x1001).bind fun bt210 => ((spec_FieldOk.f k bt210.1 bt210.2.1 bt210.2.2.1).bind fun t215 => (if t215 = true then ((spec_l3Add.f k x208000 x208001 bt210.1 bt210.2.1 bt210.2.2.1).bind fun bt216 => (spec_l71Table.l0 k (wrap64 (x4 - 1)) x1000 bt210.2.2.2 bt216.1 bt216.2)) else (spec_l71Table.l0 k (wrap64 (x4 - 1)) x1000 bt210.2.2.2 x208000 x208001)))) else ((spec_l6Rd_pick.f k x1000 x1001 24).bind fun bt220 => (if bt220.1 = 0 then ((some (([(-1), 65, 3] : List Int) : List Int)).bind fun y222 => ((spec_l6Rd_pick.f k x1000 bt220.2 3).bind fun bt225 => (if 0 ≤ bt225.1 then (if bt225.1 < (y222.length : Int) then (some (x208000, rd y222 bt225.1, bt225.2)) else (none)) else (none)))) else (if bt220.1 = 1 then ((spec_l71Field.f k x1000 bt220.2).bind fun bt228 => ((spec_l71Field.f k x1000 bt228.2.2.2).bind fun bt232 => ((spec_l71Field.f k x1000 bt232.2.2.2).bind fun bt236 => ((some (([(⟨bt228.1, bt228.2.1, bt228.2.2.1⟩ : S36), (⟨bt232.1, bt232.2.1, bt232.2.2.1⟩ : S36), (⟨bt236.1, bt236.2.1, bt236.2.2.1⟩ : S36)] : List (S36)) : List (S36))).bind fun y240 => (if x208000.length + y240.length < 3518437208883 then (some ((x208000 ++ y240), x208001, bt236.2.2.2)) else (none)))))) else (some (x208000, x208001, bt220.2)))))
def spec_l71Table.f (k : Nat) (s0_0 : List Int) (s0_1 : Int) : Option ((List (S36)) × Int × Int) := (some (([64, 64, 40, 20, 0] : List Int) : List Int)).bind fun y201 => ((spec_l6Rd_pick.f k s0_0 s0_1 5).bind fun bt204 => (if 0 ≤ bt204.1 then (if bt204.1 < (y201.length : Int) then ((spec_l6Rd_pick.f k s0_0 bt204.2 7).bind fun bt208 => (spec_l71Table.l0 k bt208.1 s0_0 bt208.2 (([] : List (S36))) (rd y201 bt204.1))) else (none)) else (none)))
theorem spec_l71Table.mono_l : ∀ k, (∀ y0 y1 y2 y3 y4, LeO (spec_l71Table.l0 k y0 y1 y2 y3 y4) (spec_l71Table.l0 (k + 1) y0 y1 y2 y3 y4))
 | 0 => fun _ _ _ _ _ r h => by simp [spec_l71Table.l0] at h
 | k + 1 => by
  have ih0 := spec_l71Table.mono_l k
  ·intro y0 y1 y2 y3 y4
   unfold spec_l71Table.l0
   repeat' first
   | (with_reducible exact ih0 _ _ _ _ _)
   | (with_reducible exact spec_FieldOk.mono _ _ _ _)
   | (with_reducible exact spec_l3Add.mono _ _ _ _ _ _)
   | (with_reducible exact spec_l6Rd_pick.mono _ _ _ _)
   | (with_reducible exact spec_l71Field.mono _ _ _)
   | (with_reducible exact LeO.refl _)
   | (with_reducible exact LeO.none _)
   | (with_reducible refine LeO.ite ?_ ?_)
   | (with_reducible refine LeO.bind ?_ (fun _ => ?_))
   | exact ih0 _ _ _ _ _
   | exact spec_FieldOk.mono _ _ _ _
   | exact spec_l3Add.mono _ _ _ _ _ _
   | exact spec_l6Rd_pick.mono _ _ _ _
   | exact spec_l71Field.mono _ _ _
   | exact LeO.none _
   | refine LeO.ite ?_ ?_
   | refine LeO.bind ?_ (fun _ => ?_)
theorem spec_l71Table.mono : ∀ a0 a1 k, LeO (spec_l71Table.f k a0 a1) (spec_l71Table.f (k + 1) a0 a1) := by
 intro a0 a1 k
 have ih0 := spec_l71Table.mono_l k
 unfold spec_l71Table.f
 repeat' first
   | (with_reducible exact ih0 _ _ _ _ _)
   | (with_reducible exact spec_FieldOk.mono _ _ _ _)
   | (with_reducible exact spec_l3Add.mono _ _ _ _ _ _)
   | (with_reducible exact spec_l6Rd_pick.mono _ _ _ _)
   | (with_reducible exact spec_l71Field.mono _ _ _)
   | (with_reducible exact LeO.refl _)
   | (with_reducible exact LeO.none _)
   | (with_reducible refine LeO.ite ?_ ?_)
   | (with_reducible refine LeO.bind ?_ (fun _ => ?_))
   | exact ih0 _ _ _ _ _
   | exact spec_FieldOk.mono _ _ _ _
   | exact spec_l3Add.mono _ _ _ _ _ _
   | exact spec_l6Rd_pick.mono _ _ _ _
   | exact spec_l71Field.mono _ _ _
   | exact LeO.none _
   | refine LeO.ite ?_ ?_
   | refine LeO.bind ?_ (fun _ => ?_)
def spec_l71Table.T12 : Bool × List (List Nat × List Nat) := (true, [([], []), ([0], [0]), ([], []), ([2], [2]), ([], []), ([4, 3], [4]), ([], []), ([6, 5], [6]), ([3, 5, 7], [3, 5, 7]), ([1, 8, 7], [1, 8]), ([0, 1, 2, 3, 4, 5, 6, 7, 8, 9], []), ([10, 9, 9, 0, 1, 2, 3, 4, 5, 6, 7, 8, 9], [9, 10])])
def spec_l71Table.B12 : List Nat := [0, 1, 0, 4, 0, 28, 0, 124, 252, 511, 1023, 2047]
theorem spec_l71Table.tab12 : rtab .any (opsOf Try.f46 12) = spec_l71Table.T12 := by kernel_rfl
theorem spec_l71Table.bits12 : waitsOk spec_l71Table.T12.2 spec_l71Table.B12 = true := by kernel_rfl
set_option maxHeartbeats 8000000 in
set_option maxRecDepth 100000 in
theorem spec_l71Table.calls (k : Nat) (g : Nat) (s0_0 : List Int) (s0_1 : Int) (r1 : List (S36)) (r2 : Int) (r3 : Int) (w0 w : World) (hI : IsS85 w0 w g s0_0 s0_1) (hB : Below w0.heap.size w0 w) (h : spec_l71Table.f k s0_0 s0_1 = some (r1, r2, r3)) :
  Calls Try.prog 46 #[.pointer (some ⟨g, 0, none⟩)] w fun e w' => ∃ v0_ : Value, e = .returned (.agg #[v0_, .int .i64 r2]) ∧ Kd.R k36 36 w' w.heap.size (fun _ => True) v0_ r1 ∧ IsS85 w0 w' g s0_0 r3 ∧ Below w0.heap.size w0 w' ∧ KeepBut w w' g none := by
 have hu25 := Try.underlying25
 have hu36 := Try.underlying36
 have HI0 := Aside0.mk hI
 have HK := Aside0.mk (KeepBut.refl w g none)
 have HL := Aside0.mk hB.size
 clear hI
 have HW0 := Aside0.mk hB.size
 have HB := Aside0.mk hB
 clear hB
 have H : ((some (([64, 64, 40, 20, 0] : List Int) : List Int)).bind fun y201 => ((spec_l6Rd_pick.f k s0_0 s0_1 5).bind fun bt204 => (if 0 ≤ bt204.1 then (if bt204.1 < (y201.length : Int) then ((spec_l6Rd_pick.f k s0_0 bt204.2 7).bind fun bt208 => (spec_l71Table.l0 k bt208.1 s0_0 bt208.2 (([] : List (S36))) (rd y201 bt204.1))) else (none)) else (none)))) = some (r1, r2, r3) := h
 clear h
 obtain ⟨y198, hy198⟩ : ∃ y_ : List (S36), y_ = (([] : List (S36))) := ⟨_, rfl⟩
 replace H : ((some (([64, 64, 40, 20, 0] : List Int) : List Int)).bind fun y201 => ((spec_l6Rd_pick.f k s0_0 s0_1 5).bind fun bt204 => (if 0 ≤ bt204.1 then (if bt204.1 < (y201.length : Int) then ((spec_l6Rd_pick.f k s0_0 bt204.2 7).bind fun bt208 => (spec_l71Table.l0 k bt208.1 s0_0 bt208.2 y198 (rd y201 bt204.1))) else (none)) else (none)))) = some (r1, r2, r3) := by first | (rw [hy198]; with_reducible exact H) | (have H2_ := (Option.bind_some _ _).symm.trans H; rw [hy198]; with_reducible exact H2_) | (have H2_ := (Option.bind_some _ _).symm.trans H; with_reducible exact H2_) | with_reducible exact H | (rw [hy198]; exact H) | exact H
 have Ny198 := Aside0.mk hy198
 clear hy198
 obtain ⟨y201, hy201⟩ : ∃ y_ : List Int, y_ = (([64, 64, 40, 20, 0] : List Int)) := ⟨_, rfl⟩
 replace H : ((spec_l6Rd_pick.f k s0_0 s0_1 5).bind fun bt204 => (if 0 ≤ bt204.1 then (if bt204.1 < (y201.length : Int) then ((spec_l6Rd_pick.f k s0_0 bt204.2 7).bind fun bt208 => (spec_l71Table.l0 k bt208.1 s0_0 bt208.2 y198 (rd y201 bt204.1))) else (none)) else (none))) = some (r1, r2, r3) := by first | (rw [hy201]; with_reducible exact H) | (have H2_ := (Option.bind_some _ _).symm.trans H; rw [hy201]; with_reducible exact H2_) | (have H2_ := (Option.bind_some _ _).symm.trans H; with_reducible exact H2_) | with_reducible exact H | (rw [hy201]; exact H) | exact H
 have Ny201 := Aside0.mk hy201
 clear hy201
 replace H := Option.bind_eq_some_iff.mp H
 obtain ⟨⟨t204, t205⟩, A20, H⟩ := H
 replace H : (if 0 ≤ t204 then (if t204 < (y201.length : Int) then ((spec_l6Rd_pick.f k s0_0 t205 7).bind fun bt208 => (spec_l71Table.l0 k bt208.1 s0_0 bt208.2 y198 (rd y201 t204))) else (none)) else (none)) = some (r1, r2, r3) := H
 have A2 := Aside0.mk A20
 clear A20
 by_cases c3 : 0 ≤ t204
 ·rw [if_pos c3] at H
  have c3b0 : decide (0 ≤ t204) = true := decide_eq_true c3
  clear c3
  by_cases c4 : t204 < (y201.length : Int)
  ·rw [if_pos c4] at H
   have c4b0 : decide (t204 < (y201.length : Int)) = true := decide_eq_true c4
   clear c4
   replace H := Option.bind_eq_some_iff.mp H
   obtain ⟨⟨t208, t209⟩, A50, H⟩ := H
   replace H : (spec_l71Table.l0 k t208 s0_0 t209 y198 (rd y201 t204)) = some (r1, r2, r3) := H
   have A5 := Aside0.mk A50
   clear A50
   have H' := Aside0.mk H
   clear H
   go_enter Try.func46, Try.ntmps46
   go_wp2_with (first | ((with_reducible refine gd 2 rfl ?_); refine bx (N := 2) (cs := #[.slice none 0 0, .int .i64 0]) (t := 25) ?_; intro gb197 hg w6 hbox hb; replace HB := Aside0.mk (below_step (zg85 HB) hb); have BK197 := Aside0.mk (hbox); have GW197 := Aside0.mk ((by rw [hg]; exact (keep_size (w := w) (g := g) (row := none) (zh HK)) : w.heap.size ≤ gb197)); have GE197 := Aside0.mk ((Nat.le_trans HW0.out (by rw [hg]; exact (keep_size (w := w) (g := g) (row := none) (zh HK)) : w.heap.size ≤ gb197) : w0.heap.size ≤ gb197)); replace HK := Aside0.mk (KeepBut.trans (zh HK) (KeepBut.of_below hb g none) (.inl rfl)); have NB0_197 := Aside0.mk ((by rw [hg]; exact Nat.ne_of_lt (IsS85.lt (show IsS85 w0 _ g s0_0 s0_1 from zi85 HI0)) : g ≠ gb197)); have NB197_0 := Aside0.mk ((by rw [hg]; exact Nat.ne_of_gt (IsS85.lt (show IsS85 w0 _ g s0_0 s0_1 from zi85 HI0)) : gb197 ≠ g)); replace HI0 := Aside0.mk (IsS85.below (zi85 HI0) hb); clear hb hbox hg) | ((with_reducible refine gd 6 rfl ?_); refine Kd.R_lit k36 _ 36 ?hg (N := 6) ?hd (xs := ([] : List (S36))) (inner := []) (ok := fun _ => True) (okp := fun _ => True) ?hr ?hp (fun _ hk => hk) trivial (Below.refl _ _) (Nat.le_refl _) (by simp) ?_; (case hd => rfl); (case hg => rfl); (case hr => first | (go_simp; done) | (go_simp; rfl)); (case hp => exact (Reps.none _ _)); intro v199 w7 ho8 hb hg_ hnew_; clear hg_ hnew_; (first | rw [← Ny198.out] at ho8 | (simp only [Int.reduceToNat] at ho8; rw [← Ny198.out] at ho8)); have HO200 := Aside0.mk (Kd.R_lower ho8 (keep_size (w := w) (g := g) (row := none) (zh HK))); replace HI0 := Aside0.mk (IsS85.below (zi85 HI0) hb); replace BK197 := Aside0.mk (blk_below (g := gb197) (o := .cells #[.slice none 0 0, .int .i64 0] 25 (0, 0)) (zk BK197) hb); replace HK := Aside0.mk (KeepBut.trans (zh HK) (KeepBut.of_below hb g none) (.inl rfl)); replace HB := Aside0.mk (below_step (zg85 HB) hb); clear hb ho8) | ((with_reducible refine gd 7 rfl ?_); refine Kd.R_lit (Kd.int .i64) _ 3 ?hg (N := 7) ?hd (xs := ([64, 64, 40, 20, 0] : List Int)) (inner := [.int .i64 64, .int .i64 64, .int .i64 40, .int .i64 20, .int .i64 0]) (ok := fun _ => True) (okp := fun _ => True) ?hr ?hp (fun _ hk => hk) trivial (Below.refl _ _) (Nat.le_refl _) (by simp) ?_; (case hd => rfl); (case hg => rfl); (case hr => first | (go_simp; done) | (go_simp; rfl)); (case hp => exact (Reps.one (show Kd.M (Kd.int .i64) _ _ _ 64 [.int .i64 64] from rfl) (Reps.one (show Kd.M (Kd.int .i64) _ _ _ 64 [.int .i64 64] from rfl) (Reps.one (show Kd.M (Kd.int .i64) _ _ _ 40 [.int .i64 40] from rfl) (Reps.one (show Kd.M (Kd.int .i64) _ _ _ 20 [.int .i64 20] from rfl) (Reps.one (show Kd.M (Kd.int .i64) _ _ _ 0 [.int .i64 0] from rfl) (Reps.none _ _))))))); intro v202 w9 ho10 hb hg_ hnew_; clear hg_ hnew_; (first | rw [← Ny201.out] at ho10 | (simp only [Int.reduceToNat] at ho10; rw [← Ny201.out] at ho10)); replace HO200 := Aside0.mk (Kd.R_below (zr HO200) hb); have HO203 := Aside0.mk (Kd.R_lower ho10 (keep_size (w := w) (g := g) (row := none) (zh HK))); replace HI0 := Aside0.mk (IsS85.below (zi85 HI0) hb); replace BK197 := Aside0.mk (blk_below (g := gb197) (o := .cells #[.slice none 0 0, .int .i64 0] 25 (0, 0)) (zk BK197) hb); replace HK := Aside0.mk (KeepBut.trans (zh HK) (KeepBut.of_below hb g none) (.inl rfl)); replace HB := Aside0.mk (below_step (zg85 HB) hb); clear hb ho10) | ((with_reducible refine gq 47 rfl ?_); refine gl (some 9) Try.func47 #[.pointer (some ⟨g, 0, none⟩), .int .i64 5] ?_; (with_reducible refine (spec_l6Rd_pick.calls k g s0_0 s0_1 5 t204 t205 w0 _ ?side1 ?side2 A2.out).mono ?_); (case side1 => exact zi85 HI0); (case side2 => exact zg85 HB); rintro e w11 ⟨rfl, hi, hb, hk⟩; refine ⟨_, rfl, ?_⟩; replace BK197 := Aside0.mk (KeepBut.blk hk (g' := gb197) (o := .cells #[.slice none 0 0, .int .i64 0] 25 (0, 0)) (zk BK197) NB197_0.out (by simp)); replace HO200 := Aside0.mk (Kd.R_mono (Kd.R_keep (IsS85.apart (show IsS85 w0 _ g s0_0 s0_1 from zi85 HI0) (zr HO200) (by decide)) hk (fun _ h => h.2)) (fun _ h => h.1)); replace HO203 := Aside0.mk (Kd.R_mono (Kd.R_keep (IsS85.apart (show IsS85 w0 _ g s0_0 s0_1 from zi85 HI0) (zr HO203) (by decide)) hk (fun _ h => h.2)) (fun _ h => h.1)); replace HK := Aside0.mk (KeepBut.trans (zh HK) hk (.inl rfl)); replace HB := Aside0.mk (hb); replace HI0 := Aside0.mk (hi); (try clear hb); (try clear hk); (try clear hi); obtain ⟨Ao12, co12, eo12⟩ := Kd.R_slice HO203.out; subst eo12; have p206 : 0 ≤ (t204 : Int) := of_decide_eq_true za; have q206 : t204 < (y201.length : Int) := of_decide_eq_true za; obtain ⟨ad206, e206, hx206_0⟩ := Kd.at_int (Kd.R_reads' HO203.out).2.2 t204 p206 q206; cases e206; replace p206 := eq_true p206; replace q206 := eq_true q206; obtain ⟨Ao13, co13, eo13⟩ := Kd.R_slice HO200.out; subst eo13) | ((with_reducible refine gd 3 rfl ?_); refine bx (N := 3) (cs := #[.slice none 0 0, .int .i64 0]) (t := 25) ?_; intro gb207 hg w14 hbox hb; replace HO200 := Aside0.mk (Kd.R_below (zr HO200) hb); replace HO203 := Aside0.mk (Kd.R_below (zr HO203) hb); replace HB := Aside0.mk (below_step (zg85 HB) hb); have BK207 := Aside0.mk (hbox); have GW207 := Aside0.mk ((by rw [hg]; exact (keep_size (w := w) (g := g) (row := none) (zh HK)) : w.heap.size ≤ gb207)); have GE207 := Aside0.mk ((Nat.le_trans HW0.out (by rw [hg]; exact (keep_size (w := w) (g := g) (row := none) (zh HK)) : w.heap.size ≤ gb207) : w0.heap.size ≤ gb207)); replace HK := Aside0.mk (KeepBut.trans (zh HK) (KeepBut.of_below hb g none) (.inl rfl)); have NB197_207 := Aside0.mk ((by rw [hg]; exact Nat.ne_of_lt (blk_lt (g := gb197) (o := .cells #[.slice none 0 0, .int .i64 0] 25 (0, 0)) (zk BK197)) : gb197 ≠ gb207)); have NB207_197 := Aside0.mk ((by rw [hg]; exact Nat.ne_of_gt (blk_lt (g := gb197) (o := .cells #[.slice none 0 0, .int .i64 0] 25 (0, 0)) (zk BK197)) : gb207 ≠ gb197)); replace BK197 := Aside0.mk (blk_below (g := gb197) (o := .cells #[.slice none 0 0, .int .i64 0] 25 (0, 0)) (zk BK197) hb); have NB0_207 := Aside0.mk ((by rw [hg]; exact Nat.ne_of_lt (IsS85.lt (show IsS85 w0 _ g s0_0 t205 from zi85 HI0)) : g ≠ gb207)); have NB207_0 := Aside0.mk ((by rw [hg]; exact Nat.ne_of_gt (IsS85.lt (show IsS85 w0 _ g s0_0 t205 from zi85 HI0)) : gb207 ≠ g)); replace HI0 := Aside0.mk (IsS85.below (zi85 HI0) hb); clear hb hbox hg; have hnb15 := NB207_197.out; have hnc15 := NB197_207.out; have hnb16 := NB207_0.out; have hnc16 := NB0_207.out; have hcz17_0 : w14.cell? ⟨gb207, 0, none⟩ = some (.slice none 0 0) := (blk_cell BK207.out 0).trans rfl; have hcz17_1 : w14.cell? ⟨gb207, 1, none⟩ = some (.int .i64 0) := (blk_cell BK207.out 1).trans rfl; have hfz17_0 := blk_frozen BK207.out 0; have hfz17_1 := blk_frozen BK207.out 1) | ((with_reducible refine gq 47 rfl ?_); refine gl (some 14) Try.func47 #[.pointer (some ⟨g, 0, none⟩), .int .i64 7] ?_; (with_reducible refine (spec_l6Rd_pick.calls k g s0_0 t205 7 t208 t209 w0 _ ?side1 ?side2 A5.out).mono ?_); (case side1 => exact zi85 HI0); (case side2 => exact zg85 HB); rintro e w18 ⟨rfl, hi, hb, hk⟩; refine ⟨_, rfl, ?_⟩; replace BK197 := Aside0.mk (KeepBut.blk hk (g' := gb197) (o := .cells #[.slice none 0 0, .int .i64 0] 25 (0, 0)) (by (with_reducible repeat (first | refine blk_drewN ?_ _ | refine blk_drew ?_ | refine blk_alloc ?_ _)); refine blk_far ?_ NB197_207.out _; (with_reducible repeat (first | refine blk_drewN ?_ _ | refine blk_drew ?_ | refine blk_alloc ?_ _)); refine blk_far ?_ NB197_207.out _; exact zk BK197) NB197_0.out (by simp)); replace HO200 := Aside0.mk (Kd.R_mono (Kd.R_keep (IsS85.apart (show IsS85 w0 _ g s0_0 t205 from zi85 HI0) (by (with_reducible repeat (first | apply Kd.R_alloc | apply Kd.R_drewN | apply Kd.R_drew)); exact (Kd.R_mono (Kd.R_far (p := ⟨gb207, 1, none⟩) (Kd.R_far (p := ⟨gb207, 0, none⟩) (Kd.R_types HO200.out BK207.out (by decide)) (fun _ hk => hk.2) (.slice Ao13 y198.length co13)) (fun _ hk => hk.2) (.int .i64 (rd y201 t204))) (fun _ h_ => h_.1))) (by decide)) hk (fun _ h => h.2)) (fun _ h => h.1)); replace HO203 := Aside0.mk (Kd.R_mono (Kd.R_keep (IsS85.apart (show IsS85 w0 _ g s0_0 t205 from zi85 HI0) (by (with_reducible repeat (first | apply Kd.R_alloc | apply Kd.R_drewN | apply Kd.R_drew)); exact (Kd.R_mono (Kd.R_far (p := ⟨gb207, 1, none⟩) (Kd.R_far (p := ⟨gb207, 0, none⟩) (Kd.R_types HO203.out BK207.out (by decide)) (fun _ hk => hk.2) (.slice Ao13 y198.length co13)) (fun _ hk => hk.2) (.int .i64 (rd y201 t204))) (fun _ h_ => h_.1))) (by decide)) hk (fun _ h => h.2)) (fun _ h => h.1)); replace BK207 := Aside0.mk (KeepBut.blk hk (g' := gb207) (o := .cells #[.slice Ao13 y198.length co13, .int .i64 (rd y201 t204)] 25 (0, 0)) (by (with_reducible repeat (first | refine blk_drewN ?_ _ | refine blk_drew ?_ | refine blk_alloc ?_ _)); refine blk_put (cs := #[.slice Ao13 y198.length co13, .int .i64 0]) ?_ 1 _ rfl; (with_reducible repeat (first | refine blk_drewN ?_ _ | refine blk_drew ?_ | refine blk_alloc ?_ _)); refine blk_put (cs := #[.slice none 0 0, .int .i64 0]) ?_ 0 _ rfl; exact zk BK207) NB207_0.out (by simp)); replace HK := Aside0.mk (KeepBut.trans (zh HK) hk (.inl rfl)); replace HB := Aside0.mk (hb); replace HI0 := Aside0.mk (hi); (try clear hb); (try clear hk); (try clear hi)))
   go_loopg [4] k (fun kq v4 w' => ∃ (x4_1 : Int) (x1001_1 : Int) (x208000_1 : List (S36)) (x208001_1 : Int) (u208000 : Value), v4 = .int .i64 x4_1 ∧ Aside0 (spec_l71Table.l0 kq x4_1 s0_0 x1001_1 x208000_1 x208001_1 = some (r1, r2, r3)) ∧ Aside0 (kq ≤ k) ∧ Aside0 (Kd.R k36 36 w' w.heap.size (fun _ => True) u208000 x208000_1) ∧ Aside0 (w'.heap[gb197]? = some (.cells #[(.slice none 0 0), .int .i64 0] 25 (0, 0))) ∧ Aside0 (w'.heap[gb207]? = some (.cells #[u208000, .int .i64 x208001_1] 25 (0, 0))) ∧ Aside0 (IsS85 w0 w' g s0_0 x1001_1) ∧ Aside0 (KeepBut w w' g none) ∧ Aside0 (Below w0.heap.size w0 w'))
   case atStart => exact ⟨(t208), (t209), (y198), (rd y201 t204), (.slice Ao13 y198.length co13), zs, H', ⟨Nat.le_refl _⟩, ⟨by exact zr HO200⟩, ⟨by exact zk BK197⟩, ⟨by exact zk BK207⟩, ⟨zi85 HI0⟩, ⟨zh HK⟩, ⟨zg85 HB⟩⟩
   case round =>
    clear H'
    try clear c1
    try clear p2
    try clear q2
    try clear hx2
    try clear c3
    try clear c3b0
    try clear c4
    try clear c4b0
    try clear c15
    try clear c16
    try clear hcz17_0
    try clear hcz17_1
    try clear hfz17_0
    try clear hfz17_1
    try clear hx206_0
    try clear p206
    try clear q206
    obtain ⟨x4_1, x1001_1, x208000_1, x208001_1, u208000, rfl, HA, HK1, HO_208000, BK197, BK207, HI0, HK, HB⟩ := hrel
    cases gk with
    | zero => exact absurd HA.out (by simp [spec_l71Table.l0])
    | succ k1 =>
     have H := HA.out
     clear HA
     simp only [spec_l71Table.l0] at H
     by_cases c19 : x4_1 > 0
     ·rw [if_pos c19] at H
      have c19b0 : decide (0 < x4_1) = true := decide_eq_true c19
      clear c19
      replace H := Option.bind_eq_some_iff.mp H
      obtain ⟨⟨t210, t211, t212, t213⟩, A200, H⟩ := H
      replace H : ((spec_FieldOk.f k1 t210 t211 t212).bind fun t215 => (if t215 = true then ((spec_l3Add.f k1 x208000_1 x208001_1 t210 t211 t212).bind fun bt216 => (spec_l71Table.l0 k1 (wrap64 (x4_1 - 1)) s0_0 t213 bt216.1 bt216.2)) else (spec_l71Table.l0 k1 (wrap64 (x4_1 - 1)) s0_0 t213 x208000_1 x208001_1))) = some (r1, r2, r3) := H
      have A20 := Aside0.mk A200
      clear A200
      replace H := Option.bind_eq_some_iff.mp H
      obtain ⟨t215, A210, H⟩ := H
      replace H : (if t215 = true then ((spec_l3Add.f k1 x208000_1 x208001_1 t210 t211 t212).bind fun bt216 => (spec_l71Table.l0 k1 (wrap64 (x4_1 - 1)) s0_0 t213 bt216.1 bt216.2)) else (spec_l71Table.l0 k1 (wrap64 (x4_1 - 1)) s0_0 t213 x208000_1 x208001_1)) = some (r1, r2, r3) := H
      have A21 := Aside0.mk A210
      clear A210
      have HC22 := Aside0.mk H
      clear H
      go_upto_if 22 with (first | ((with_reducible refine gq 58 rfl ?_); refine gl (some 20) Try.func58 #[.pointer (some ⟨g, 0, none⟩)] ?_; (with_reducible refine (spec_l71Field.calls k1 g s0_0 x1001_1 t210 t211 t212 t213 w0 _ ?side1 ?side2 A20.out).mono ?_); (case side1 => exact zi85 HI0); (case side2 => exact zg85 HB); rintro e w23 ⟨rfl, hi, hb, hk⟩; refine ⟨_, rfl, ?_⟩; replace HO_208000 := Aside0.mk (Kd.R_mono (Kd.R_keep (IsS85.apart (show IsS85 w0 _ g s0_0 x1001_1 from zi85 HI0) (zr HO_208000) (by decide)) hk (fun _ h => h.2)) (fun _ h => h.1)); replace BK197 := Aside0.mk (KeepBut.blk hk (g' := gb197) (o := .cells #[.slice none 0 0, .int .i64 0] 25 (0, 0)) (zk BK197) NB197_0.out (by simp)); replace BK207 := Aside0.mk (KeepBut.blk hk (g' := gb207) (o := .cells #[u208000, .int .i64 x208001_1] 25 (0, 0)) (zk BK207) NB207_0.out (by simp)); replace HK := Aside0.mk (KeepBut.trans (zh HK) hk (.inl rfl)); replace HB := Aside0.mk (hb); replace HI0 := Aside0.mk (hi); (try clear hb); (try clear hk); (try clear hi)) | ((with_reducible refine gd 5 rfl ?_); refine bx (N := 5) (cs := #[.string (⟨#[]⟩ : ByteArray), .string (⟨#[]⟩ : ByteArray), .bool false]) (t := 36) ?_; intro gb214 hg w24 hbox hb; replace HO_208000 := Aside0.mk (Kd.R_below (Kd.R_elderB (zr HO_208000) gb214 (Nat.le_of_eq hg.symm)) hb); replace HB := Aside0.mk (below_step (zg85 HB) hb); have BK214 := Aside0.mk (hbox); have GW214 := Aside0.mk ((by rw [hg]; exact (keep_size (w := w) (g := g) (row := none) (zh HK)) : w.heap.size ≤ gb214)); have GE214 := Aside0.mk ((Nat.le_trans HW0.out (by rw [hg]; exact (keep_size (w := w) (g := g) (row := none) (zh HK)) : w.heap.size ≤ gb214) : w0.heap.size ≤ gb214)); replace HK := Aside0.mk (KeepBut.trans (zh HK) (KeepBut.of_below hb g none) (.inl rfl)); have NB197_214 := Aside0.mk ((by rw [hg]; exact Nat.ne_of_lt (blk_lt (g := gb197) (o := .cells #[.slice none 0 0, .int .i64 0] 25 (0, 0)) (zk BK197)) : gb197 ≠ gb214)); have NB214_197 := Aside0.mk ((by rw [hg]; exact Nat.ne_of_gt (blk_lt (g := gb197) (o := .cells #[.slice none 0 0, .int .i64 0] 25 (0, 0)) (zk BK197)) : gb214 ≠ gb197)); replace BK197 := Aside0.mk (blk_below (g := gb197) (o := .cells #[.slice none 0 0, .int .i64 0] 25 (0, 0)) (zk BK197) hb); have NB207_214 := Aside0.mk ((by rw [hg]; exact Nat.ne_of_lt (blk_lt (g := gb207) (o := .cells #[u208000, .int .i64 x208001_1] 25 (0, 0)) (zk BK207)) : gb207 ≠ gb214)); have NB214_207 := Aside0.mk ((by rw [hg]; exact Nat.ne_of_gt (blk_lt (g := gb207) (o := .cells #[u208000, .int .i64 x208001_1] 25 (0, 0)) (zk BK207)) : gb214 ≠ gb207)); replace BK207 := Aside0.mk (blk_below (g := gb207) (o := .cells #[u208000, .int .i64 x208001_1] 25 (0, 0)) (zk BK207) hb); have NB0_214 := Aside0.mk ((by rw [hg]; exact Nat.ne_of_lt (IsS85.lt (show IsS85 w0 _ g s0_0 t213 from zi85 HI0)) : g ≠ gb214)); have NB214_0 := Aside0.mk ((by rw [hg]; exact Nat.ne_of_gt (IsS85.lt (show IsS85 w0 _ g s0_0 t213 from zi85 HI0)) : gb214 ≠ g)); replace HI0 := Aside0.mk (IsS85.below (zi85 HI0) hb); clear hb hbox hg; have hnb25 := NB214_197.out; have hnc25 := NB197_214.out; have hnb26 := NB214_207.out; have hnc26 := NB207_214.out; have hnb27 := NB214_0.out; have hnc27 := NB0_214.out; have hcz28_0 : w24.cell? ⟨gb214, 0, none⟩ = some (.string (⟨#[]⟩ : ByteArray)) := (blk_cell BK214.out 0).trans rfl; have hcz28_1 : w24.cell? ⟨gb214, 1, none⟩ = some (.string (⟨#[]⟩ : ByteArray)) := (blk_cell BK214.out 1).trans rfl; have hcz28_2 : w24.cell? ⟨gb214, 2, none⟩ = some (.bool false) := (blk_cell BK214.out 2).trans rfl; have hfz28_0 := blk_frozen BK214.out 0; have hfz28_1 := blk_frozen BK214.out 1; have hfz28_2 := blk_frozen BK214.out 2) | ((with_reducible refine gq 32 rfl ?_); refine gl (some 22) Try.func32 #[.agg #[.string t210, .string t211, .bool t212]] ?_; (with_reducible refine (spec_FieldOk.calls k1 t210 t211 t212 t215 _ A21.out).mono ?_); rintro e w29 ⟨rfl, hb⟩; refine ⟨_, rfl, ?_⟩; replace HO_208000 := Aside0.mk (Kd.R_below (by (with_reducible repeat (first | apply Kd.R_alloc | apply Kd.R_drewN | apply Kd.R_drew)); exact (Kd.R_mono (Kd.R_far (p := ⟨gb214, 2, none⟩) (Kd.R_far (p := ⟨gb214, 1, none⟩) (Kd.R_far (p := ⟨gb214, 0, none⟩) (Kd.R_mono HO_208000.out (fun k_ hk => (⟨hk, hk.2⟩ : _ ∧ k_ ≠ gb214))) (fun _ hk => hk.2) (.string t210)) (fun _ hk => hk.2) (.string t211)) (fun _ hk => hk.2) (.bool t212)) (fun _ h_ => h_.1))) hb); replace BK197 := Aside0.mk (blk_below (g := gb197) (o := .cells #[.slice none 0 0, .int .i64 0] 25 (0, 0)) (by (with_reducible repeat (first | refine blk_drewN ?_ _ | refine blk_drew ?_ | refine blk_alloc ?_ _)); refine blk_far ?_ NB197_214.out _; (with_reducible repeat (first | refine blk_drewN ?_ _ | refine blk_drew ?_ | refine blk_alloc ?_ _)); refine blk_far ?_ NB197_214.out _; (with_reducible repeat (first | refine blk_drewN ?_ _ | refine blk_drew ?_ | refine blk_alloc ?_ _)); refine blk_far ?_ NB197_214.out _; exact zk BK197) hb); replace BK207 := Aside0.mk (blk_below (g := gb207) (o := .cells #[u208000, .int .i64 x208001_1] 25 (0, 0)) (by (with_reducible repeat (first | refine blk_drewN ?_ _ | refine blk_drew ?_ | refine blk_alloc ?_ _)); refine blk_far ?_ NB207_214.out _; (with_reducible repeat (first | refine blk_drewN ?_ _ | refine blk_drew ?_ | refine blk_alloc ?_ _)); refine blk_far ?_ NB207_214.out _; (with_reducible repeat (first | refine blk_drewN ?_ _ | refine blk_drew ?_ | refine blk_alloc ?_ _)); refine blk_far ?_ NB207_214.out _; exact zk BK207) hb); replace HI0 := Aside0.mk (IsS85.below (show IsS85 w0 (((w24.setCell ⟨gb214, 0, none⟩ (.string t210)).setCell ⟨gb214, 1, none⟩ (.string t211)).setCell ⟨gb214, 2, none⟩ (.bool t212)) g s0_0 t213 from zi85 HI0) hb); replace BK214 := Aside0.mk (blk_below (g := gb214) (o := .cells #[.string t210, .string t211, .bool t212] 36 (0, 0)) (by (with_reducible repeat (first | refine blk_drewN ?_ _ | refine blk_drew ?_ | refine blk_alloc ?_ _)); refine blk_put (cs := #[.string t210, .string t211, .bool false]) ?_ 2 _ rfl; (with_reducible repeat (first | refine blk_drewN ?_ _ | refine blk_drew ?_ | refine blk_alloc ?_ _)); refine blk_put (cs := #[.string t210, .string (⟨#[]⟩ : ByteArray), .bool false]) ?_ 1 _ rfl; (with_reducible repeat (first | refine blk_drewN ?_ _ | refine blk_drew ?_ | refine blk_alloc ?_ _)); refine blk_put (cs := #[.string (⟨#[]⟩ : ByteArray), .string (⟨#[]⟩ : ByteArray), .bool false]) ?_ 0 _ rfl; exact zk BK214) hb); replace HK := Aside0.mk (KeepBut.trans (zh HK) (KeepBut.of_below hb g none) (.inl rfl)); replace HB := Aside0.mk (below_step (zg85 HB) hb); (try clear hb)))
      (try simp only [Act.put, s1, s2, s3])
      have H := HC22.out
      clear HC22
      by_cases c30 : t215 = true
      ·subst c30
       have H1 : ((spec_l3Add.f k1 x208000_1 x208001_1 t210 t211 t212).bind fun bt216 => (spec_l71Table.l0 k1 (wrap64 (x4_1 - 1)) s0_0 t213 bt216.1 bt216.2)) = some (r1, r2, r3) := by rw [if_pos rfl] at H; exact H
       clear H
       have H := H1
       clear H1
       replace H := Option.bind_eq_some_iff.mp H
       obtain ⟨⟨t216, t219⟩, A310, H⟩ := H
       replace H : (spec_l71Table.l0 k1 (wrap64 (x4_1 - 1)) s0_0 t213 t216 t219) = some (r1, r2, r3) := H
       have A31 := Aside0.mk A310
       clear A310
       have H' := Aside0.mk H
       clear H
       have hnb32 := NB207_197.out
       have hnc32 := NB197_207.out
       have hnb33 := NB207_214.out
       have hnc33 := NB214_207.out
       have hnb34 := NB207_0.out
       have hnc34 := NB0_207.out
       have hcz35_0 : w29.cell? ⟨gb207, 0, none⟩ = some (u208000) := (blk_cell BK207.out 0).trans rfl
       have hcz35_1 : w29.cell? ⟨gb207, 1, none⟩ = some (.int .i64 x208001_1) := (blk_cell BK207.out 1).trans rfl
       have hfz35_0 := blk_frozen BK207.out 0
       have hfz35_1 := blk_frozen BK207.out 1
       have hnb36 := NB214_197.out
       have hnc36 := NB197_214.out
       have hnb37 := NB214_0.out
       have hnc37 := NB0_214.out
       have hcz38_0 : w29.cell? ⟨gb214, 0, none⟩ = some (.string t210) := (blk_cell BK214.out 0).trans rfl
       have hcz38_1 : w29.cell? ⟨gb214, 1, none⟩ = some (.string t211) := (blk_cell BK214.out 1).trans rfl
       have hcz38_2 : w29.cell? ⟨gb214, 2, none⟩ = some (.bool t212) := (blk_cell BK214.out 2).trans rfl
       have hfz38_0 := blk_frozen BK214.out 0
       have hfz38_1 := blk_frozen BK214.out 1
       have hfz38_2 := blk_frozen BK214.out 2
       obtain ⟨Ao39, co39, eo39⟩ := Kd.R_slice HO_208000.out
       subst eo39
       go_wp2_with (first | ((with_reducible refine gq 60 rfl ?_); refine gl (some 25) Try.func60 #[.agg #[.slice Ao39 x208000_1.length co39, .int .i64 x208001_1], .agg #[.string t210, .string t211, .bool t212]] ?_; (with_reducible refine (spec_l3Add.calls k1 _ _ x208000_1 x208001_1 t210 t211 t212 t216 t219 _ ?side1 ?side2 A31.out).mono ?_); (case side1 => exact zc (Kd.R_reads' HO_208000.out).2.2); (case side2 => exact (Kd.R_reads' HO_208000.out).2.1); rintro e w40 ⟨v217, rfl, ho0, hb⟩; refine ⟨_, rfl, ?_⟩; have HO218 := Aside0.mk (Kd.R_lower (Kd.R_newB (Kd.R_new' ho0 (Kd.R_lt (zr HO_208000))) (g := gb214) (o := .cells #[.string t210, .string t211, .bool t212] 36 (0, 0)) (zk BK214)) (keep_size (w := w) (g := g) (row := none) (zh HK))); replace HO_208000 := Aside0.mk (Kd.R_elder' (zr HO_208000) (Kd.R_base ho0) hb); replace BK197 := Aside0.mk (blk_below (g := gb197) (o := .cells #[.slice none 0 0, .int .i64 0] 25 (0, 0)) (zk BK197) hb); replace BK207 := Aside0.mk (blk_below (g := gb207) (o := .cells #[.slice Ao39 x208000_1.length co39, .int .i64 x208001_1] 25 (0, 0)) (zk BK207) hb); replace HI0 := Aside0.mk (IsS85.below (zi85 HI0) hb); replace BK214 := Aside0.mk (blk_below (g := gb214) (o := .cells #[.string t210, .string t211, .bool t212] 36 (0, 0)) (zk BK214) hb); replace HK := Aside0.mk (KeepBut.trans (zh HK) (KeepBut.of_below hb g none) (.inl rfl)); replace HB := Aside0.mk (below_step (zg85 HB) hb); (try clear hb); (try clear ho0); obtain ⟨Ao41, co41, eo41⟩ := Kd.R_slice HO218.out; subst eo41; have hcz42_0 : w40.cell? ⟨gb207, 0, none⟩ = some (.slice Ao39 x208000_1.length co39) := (blk_cell BK207.out 0).trans rfl; have hcz42_1 : w40.cell? ⟨gb207, 1, none⟩ = some (.int .i64 x208001_1) := (blk_cell BK207.out 1).trans rfl; have hfz42_0 := blk_frozen BK207.out 0; have hfz42_1 := blk_frozen BK207.out 1))
       go_roundg k1
       case measure => have := HK1.out; omega
       case rel => exact ⟨(wrap64 (x4_1 - 1)), (t213), (t216), (t219), (.slice Ao41 t216.length co41), zs, H', ⟨by have := HK1.out; omega⟩, ⟨by (with_reducible repeat (first | apply Kd.R_alloc | apply Kd.R_drewN | apply Kd.R_drew)); exact Kd.R_mono (Kd.R_far (p := ⟨gb207, 1, none⟩) (Kd.R_far (p := ⟨gb207, 0, none⟩) (Kd.R_types HO218.out BK207.out (by decide)) (fun _ hk => hk.2) (.slice Ao41 t216.length co41)) (fun _ hk => hk.2) (.int .i64 t219)) (fun _ hk => trivial)⟩, ⟨by (with_reducible repeat (first | refine blk_drewN ?_ _ | refine blk_drew ?_ | refine blk_alloc ?_ _)); refine blk_far ?_ NB197_207.out _; (with_reducible repeat (first | refine blk_drewN ?_ _ | refine blk_drew ?_ | refine blk_alloc ?_ _)); refine blk_far ?_ NB197_207.out _; exact zk BK197⟩, ⟨by (with_reducible repeat (first | refine blk_drewN ?_ _ | refine blk_drew ?_ | refine blk_alloc ?_ _)); refine blk_put (cs := #[.slice Ao41 t216.length co41, .int .i64 x208001_1]) ?_ 1 _ rfl; (with_reducible repeat (first | refine blk_drewN ?_ _ | refine blk_drew ?_ | refine blk_alloc ?_ _)); refine blk_put (cs := #[.slice Ao39 x208000_1.length co39, .int .i64 x208001_1]) ?_ 0 _ rfl; exact zk BK207⟩, ⟨zi85 HI0⟩, ⟨zh HK⟩, ⟨zg85 HB⟩⟩
      ·replace c30 := Bool.eq_false_iff.mpr c30
       subst c30
       have H1 : (spec_l71Table.l0 k1 (wrap64 (x4_1 - 1)) s0_0 t213 x208000_1 x208001_1) = some (r1, r2, r3) := by rw [if_neg (show ¬ (false = true) by decide)] at H; exact H
       clear H
       have H := H1
       clear H1
       have H' := Aside0.mk H
       clear H
       go_wp2
       go_roundg k1
       case measure => have := HK1.out; omega
       case rel => exact ⟨(wrap64 (x4_1 - 1)), (t213), (x208000_1), (x208001_1), (u208000), zs, H', ⟨by have := HK1.out; omega⟩, ⟨by (with_reducible repeat (first | apply Kd.R_alloc | apply Kd.R_drewN | apply Kd.R_drew)); exact Kd.R_mono HO_208000.out (fun _ hk => trivial)⟩, ⟨by exact zk BK197⟩, ⟨by exact zk BK207⟩, ⟨zi85 HI0⟩, ⟨zh HK⟩, ⟨zg85 HB⟩⟩
     ·rw [if_neg c19] at H
      have c19b0 : decide (0 < x4_1) = false := decide_eq_false c19
      clear c19
      replace H := Option.bind_eq_some_iff.mp H
      obtain ⟨⟨t220, t221⟩, A430, H⟩ := H
      replace H : (if t220 = 0 then ((some (([(-1), 65, 3] : List Int) : List Int)).bind fun y222 => ((spec_l6Rd_pick.f k1 s0_0 t221 3).bind fun bt225 => (if 0 ≤ bt225.1 then (if bt225.1 < (y222.length : Int) then (some (x208000_1, rd y222 bt225.1, bt225.2)) else (none)) else (none)))) else (if t220 = 1 then ((spec_l71Field.f k1 s0_0 t221).bind fun bt228 => ((spec_l71Field.f k1 s0_0 bt228.2.2.2).bind fun bt232 => ((spec_l71Field.f k1 s0_0 bt232.2.2.2).bind fun bt236 => ((some (([(⟨bt228.1, bt228.2.1, bt228.2.2.1⟩ : S36), (⟨bt232.1, bt232.2.1, bt232.2.2.1⟩ : S36), (⟨bt236.1, bt236.2.1, bt236.2.2.1⟩ : S36)] : List (S36)) : List (S36))).bind fun y240 => (if x208000_1.length + y240.length < 3518437208883 then (some ((x208000_1 ++ y240), x208001_1, bt236.2.2.2)) else (none)))))) else (some (x208000_1, x208001_1, t221)))) = some (r1, r2, r3) := H
      have A43 := Aside0.mk A430
      clear A430
      by_cases c44 : t220 = 0
      ·rw [if_pos c44] at H
       have c44b0 : (t220 == 0) = true := beq_iff_eq.mpr c44
       have c44b1 : (t220 != 0) = false := bne_eq_false_iff_eq.mpr c44
       clear c44
       obtain ⟨y222, hy222⟩ : ∃ y_ : List Int, y_ = (([(-1), 65, 3] : List Int)) := ⟨_, rfl⟩
       replace H : ((spec_l6Rd_pick.f k1 s0_0 t221 3).bind fun bt225 => (if 0 ≤ bt225.1 then (if bt225.1 < (y222.length : Int) then (some (x208000_1, rd y222 bt225.1, bt225.2)) else (none)) else (none))) = some (r1, r2, r3) := by first | (rw [hy222]; with_reducible exact H) | (have H2_ := (Option.bind_some _ _).symm.trans H; rw [hy222]; with_reducible exact H2_) | (have H2_ := (Option.bind_some _ _).symm.trans H; with_reducible exact H2_) | with_reducible exact H | (rw [hy222]; exact H) | exact H
       have Ny222 := Aside0.mk hy222
       clear hy222
       replace H := Option.bind_eq_some_iff.mp H
       obtain ⟨⟨t225, t226⟩, A450, H⟩ := H
       replace H : (if 0 ≤ t225 then (if t225 < (y222.length : Int) then (some (x208000_1, rd y222 t225, t226)) else (none)) else (none)) = some (r1, r2, r3) := H
       have A45 := Aside0.mk A450
       clear A450
       by_cases c46 : 0 ≤ t225
       ·rw [if_pos c46] at H
        have c46b0 : decide (0 ≤ t225) = true := decide_eq_true c46
        clear c46
        by_cases c47 : t225 < (y222.length : Int)
        ·rw [if_pos c47] at H
         have c47b0 : decide (t225 < (y222.length : Int)) = true := decide_eq_true c47
         clear c47
         simp only [Option.some.injEq, Prod.mk.injEq] at H
         obtain ⟨rfl, rfl, rfl⟩ := H
         go_wp2_with (first | ((with_reducible refine gq 47 rfl ?_); refine gl (some 27) Try.func47 #[.pointer (some ⟨g, 0, none⟩), .int .i64 24] ?_; (with_reducible refine (spec_l6Rd_pick.calls k1 g s0_0 x1001_1 24 t220 t221 w0 _ ?side1 ?side2 A43.out).mono ?_); (case side1 => exact zi85 HI0); (case side2 => exact zg85 HB); rintro e w48 ⟨rfl, hi, hb, hk⟩; refine ⟨_, rfl, ?_⟩; replace HO_208000 := Aside0.mk (Kd.R_mono (Kd.R_keep (IsS85.apart (show IsS85 w0 _ g s0_0 x1001_1 from zi85 HI0) (zr HO_208000) (by decide)) hk (fun _ h => h.2)) (fun _ h => h.1)); replace BK197 := Aside0.mk (KeepBut.blk hk (g' := gb197) (o := .cells #[.slice none 0 0, .int .i64 0] 25 (0, 0)) (zk BK197) NB197_0.out (by simp)); replace BK207 := Aside0.mk (KeepBut.blk hk (g' := gb207) (o := .cells #[u208000, .int .i64 x208001_1] 25 (0, 0)) (zk BK207) NB207_0.out (by simp)); replace HK := Aside0.mk (KeepBut.trans (zh HK) hk (.inl rfl)); replace HB := Aside0.mk (hb); replace HI0 := Aside0.mk (hi); (try clear hb); (try clear hk); (try clear hi)) | ((with_reducible refine gd 30 rfl ?_); refine Kd.R_lit (Kd.int .i64) _ 3 ?hg (N := 30) ?hd (xs := ([(-1), 65, 3] : List Int)) (inner := [.int .i64 (-1), .int .i64 65, .int .i64 3]) (ok := fun _ => True) (okp := fun _ => True) ?hr ?hp (fun _ hk => hk) trivial (Below.refl _ _) (Nat.le_refl _) (by simp) ?_; (case hd => rfl); (case hg => rfl); (case hr => first | (go_simp; done) | (go_simp; rfl)); (case hp => exact (Reps.one (show Kd.M (Kd.int .i64) _ _ _ (-1) [.int .i64 (-1)] from rfl) (Reps.one (show Kd.M (Kd.int .i64) _ _ _ 65 [.int .i64 65] from rfl) (Reps.one (show Kd.M (Kd.int .i64) _ _ _ 3 [.int .i64 3] from rfl) (Reps.none _ _))))); intro v223 w49 ho50 hb hg_ hnew_; clear hg_ hnew_; (first | rw [← Ny222.out] at ho50 | (simp only [Int.reduceToNat] at ho50; rw [← Ny222.out] at ho50)); replace HO_208000 := Aside0.mk (Kd.R_below (zr HO_208000) hb); have HO224 := Aside0.mk (Kd.R_lower ho50 (keep_size (w := w) (g := g) (row := none) (zh HK))); replace BK197 := Aside0.mk (blk_below (g := gb197) (o := .cells #[.slice none 0 0, .int .i64 0] 25 (0, 0)) (zk BK197) hb); replace BK207 := Aside0.mk (blk_below (g := gb207) (o := .cells #[u208000, .int .i64 x208001_1] 25 (0, 0)) (zk BK207) hb); replace HI0 := Aside0.mk (IsS85.below (zi85 HI0) hb); replace HK := Aside0.mk (KeepBut.trans (zh HK) (KeepBut.of_below hb g none) (.inl rfl)); replace HB := Aside0.mk (below_step (zg85 HB) hb); clear hb ho50) | ((with_reducible refine gq 47 rfl ?_); refine gl (some 32) Try.func47 #[.pointer (some ⟨g, 0, none⟩), .int .i64 3] ?_; (with_reducible refine (spec_l6Rd_pick.calls k1 g s0_0 t221 3 t225 t226 w0 _ ?side1 ?side2 A45.out).mono ?_); (case side1 => exact zi85 HI0); (case side2 => exact zg85 HB); rintro e w51 ⟨rfl, hi, hb, hk⟩; refine ⟨_, rfl, ?_⟩; replace HO_208000 := Aside0.mk (Kd.R_mono (Kd.R_keep (IsS85.apart (show IsS85 w0 _ g s0_0 t221 from zi85 HI0) (zr HO_208000) (by decide)) hk (fun _ h => h.2)) (fun _ h => h.1)); replace BK197 := Aside0.mk (KeepBut.blk hk (g' := gb197) (o := .cells #[.slice none 0 0, .int .i64 0] 25 (0, 0)) (zk BK197) NB197_0.out (by simp)); replace BK207 := Aside0.mk (KeepBut.blk hk (g' := gb207) (o := .cells #[u208000, .int .i64 x208001_1] 25 (0, 0)) (zk BK207) NB207_0.out (by simp)); replace HO224 := Aside0.mk (Kd.R_mono (Kd.R_keep (IsS85.apart (show IsS85 w0 _ g s0_0 t221 from zi85 HI0) (zr HO224) (by decide)) hk (fun _ h => h.2)) (fun _ h => h.1)); replace HK := Aside0.mk (KeepBut.trans (zh HK) hk (.inl rfl)); replace HB := Aside0.mk (hb); replace HI0 := Aside0.mk (hi); (try clear hb); (try clear hk); (try clear hi); obtain ⟨Ao52, co52, eo52⟩ := Kd.R_slice HO224.out; subst eo52; have p227 : 0 ≤ (t225 : Int) := of_decide_eq_true za; have q227 : t225 < (y222.length : Int) := of_decide_eq_true za; obtain ⟨ad227, e227, hx227_0⟩ := Kd.at_int (Kd.R_reads' HO224.out).2.2 t225 p227 q227; cases e227; replace p227 := eq_true p227; replace q227 := eq_true q227; have hnb53 := NB207_197.out; have hnc53 := NB197_207.out; have hnb54 := NB207_0.out; have hnc54 := NB0_207.out; have hcz55_0 : w51.cell? ⟨gb207, 0, none⟩ = some (u208000) := (blk_cell BK207.out 0).trans rfl; have hcz55_1 : w51.cell? ⟨gb207, 1, none⟩ = some (.int .i64 x208001_1) := (blk_cell BK207.out 1).trans rfl; have hfz55_0 := blk_frozen BK207.out 0; have hfz55_1 := blk_frozen BK207.out 1; obtain ⟨Ao56, co56, eo56⟩ := Kd.R_slice HO_208000.out; subst eo56; have hnb57 := NB197_0.out; have hnc57 := NB0_197.out; have hcz58_0 : w51.cell? ⟨gb197, 0, none⟩ = some (.slice none 0 0) := (blk_cell BK197.out 0).trans rfl; have hcz58_1 : w51.cell? ⟨gb197, 1, none⟩ = some (.int .i64 0) := (blk_cell BK197.out 1).trans rfl; have hfz58_0 := blk_frozen BK197.out 0; have hfz58_1 := blk_frozen BK197.out 1))
         refine bodyPost_ret (results_cell_row rfl _ _ gb197 25 #[.slice Ao56 x208000_1.length co56, .int .i64 (rd y222 t225)] (0, 0) _ rfl (by (with_reducible repeat (first | refine blk_drewN ?_ _ | refine blk_drew ?_ | refine blk_alloc ?_ _)); refine blk_put (cs := #[.slice Ao56 x208000_1.length co56, .int .i64 0]) ?_ 1 _ rfl; (with_reducible repeat (first | refine blk_drewN ?_ _ | refine blk_drew ?_ | refine blk_alloc ?_ _)); refine blk_put (cs := #[.slice none 0 0, .int .i64 0]) ?_ 0 _ rfl; (with_reducible repeat (first | refine blk_drewN ?_ _ | refine blk_drew ?_ | refine blk_alloc ?_ _)); refine blk_far ?_ NB197_207.out _; exact zk BK197) Try.underlying25 rfl (by kernel_rfl)) rfl ?_
         exact ⟨_, ze, by (with_reducible repeat (first | apply Kd.R_alloc | apply Kd.R_drewN | apply Kd.R_drew)); exact Kd.R_mono (Kd.R_far (p := ⟨gb197, 1, none⟩) (Kd.R_far (p := ⟨gb197, 0, none⟩) (Kd.R_far (p := ⟨gb207, 1, none⟩) (Kd.R_types (Kd.R_types HO_208000.out BK207.out (by decide)) BK197.out (by decide)) (fun _ hk => hk.1.2) (.int .i64 (rd y222 t225))) (fun _ hk => hk.2) (.slice Ao56 x208000_1.length co56)) (fun _ hk => hk.2) (.int .i64 (rd y222 t225))) (fun _ hk => trivial), zi85 HI0, zg85 HB, zh HK⟩
        ·rw [if_neg c47] at H
         exact absurd H (by simp)
       ·rw [if_neg c46] at H
        exact absurd H (by simp)
      ·rw [if_neg c44] at H
       have c44b0 : (t220 == 0) = false := beq_eq_false_iff_ne.mpr c44
       have c44b1 : (t220 != 0) = true := bne_iff_ne.mpr c44
       by_cases c59 : t220 = 1
       ·rw [if_pos c59] at H
        have c59b0 : (t220 == 1) = true := beq_iff_eq.mpr c59
        have c59b1 : (t220 != 1) = false := bne_eq_false_iff_eq.mpr c59
        clear c59
        replace H := Option.bind_eq_some_iff.mp H
        obtain ⟨⟨t228, t229, t230, t231⟩, A600, H⟩ := H
        replace H : ((spec_l71Field.f k1 s0_0 t231).bind fun bt232 => ((spec_l71Field.f k1 s0_0 bt232.2.2.2).bind fun bt236 => ((some (([(⟨t228, t229, t230⟩ : S36), (⟨bt232.1, bt232.2.1, bt232.2.2.1⟩ : S36), (⟨bt236.1, bt236.2.1, bt236.2.2.1⟩ : S36)] : List (S36)) : List (S36))).bind fun y240 => (if x208000_1.length + y240.length < 3518437208883 then (some ((x208000_1 ++ y240), x208001_1, bt236.2.2.2)) else (none))))) = some (r1, r2, r3) := H
        have A60 := Aside0.mk A600
        clear A600
        replace H := Option.bind_eq_some_iff.mp H
        obtain ⟨⟨t232, t233, t234, t235⟩, A610, H⟩ := H
        replace H : ((spec_l71Field.f k1 s0_0 t235).bind fun bt236 => ((some (([(⟨t228, t229, t230⟩ : S36), (⟨t232, t233, t234⟩ : S36), (⟨bt236.1, bt236.2.1, bt236.2.2.1⟩ : S36)] : List (S36)) : List (S36))).bind fun y240 => (if x208000_1.length + y240.length < 3518437208883 then (some ((x208000_1 ++ y240), x208001_1, bt236.2.2.2)) else (none)))) = some (r1, r2, r3) := H
        have A61 := Aside0.mk A610
        clear A610
        replace H := Option.bind_eq_some_iff.mp H
        obtain ⟨⟨t236, t237, t238, t239⟩, A620, H⟩ := H
        replace H : ((some (([(⟨t228, t229, t230⟩ : S36), (⟨t232, t233, t234⟩ : S36), (⟨t236, t237, t238⟩ : S36)] : List (S36)) : List (S36))).bind fun y240 => (if x208000_1.length + y240.length < 3518437208883 then (some ((x208000_1 ++ y240), x208001_1, t239)) else (none))) = some (r1, r2, r3) := H
        have A62 := Aside0.mk A620
        clear A620
        obtain ⟨y240, hy240⟩ : ∃ y_ : List (S36), y_ = (([(⟨t228, t229, t230⟩ : S36), (⟨t232, t233, t234⟩ : S36), (⟨t236, t237, t238⟩ : S36)] : List (S36))) := ⟨_, rfl⟩
        replace H : (if x208000_1.length + y240.length < 3518437208883 then (some ((x208000_1 ++ y240), x208001_1, t239)) else (none)) = some (r1, r2, r3) := by first | (rw [hy240]; with_reducible exact H) | (have H2_ := (Option.bind_some _ _).symm.trans H; rw [hy240]; with_reducible exact H2_) | (have H2_ := (Option.bind_some _ _).symm.trans H; with_reducible exact H2_) | with_reducible exact H | (rw [hy240]; exact H) | exact H
        have Ny240 := Aside0.mk hy240
        clear hy240
        by_cases c63 : x208000_1.length + y240.length < 3518437208883
        ·rw [if_pos c63] at H
         have LMc63 := Aside0.mk c63
         clear c63
         obtain ⟨y243, hy243⟩ : ∃ y_ : List (S36), y_ = (x208000_1 ++ y240) := ⟨_, rfl⟩
         replace H : (some (y243, x208001_1, t239)) = some (r1, r2, r3) := by first | (rw [hy243]; with_reducible exact H) | (have H2_ := (Option.bind_some _ _).symm.trans H; rw [hy243]; with_reducible exact H2_) | (have H2_ := (Option.bind_some _ _).symm.trans H; with_reducible exact H2_) | with_reducible exact H | (rw [hy243]; exact H) | exact H
         have Ny243 := Aside0.mk hy243
         clear hy243
         simp only [Option.some.injEq, Prod.mk.injEq] at H
         obtain ⟨rfl, rfl, rfl⟩ := H
         try go_wp2_with (first | ((with_reducible refine gq 47 rfl ?_); refine gl (some 27) Try.func47 #[.pointer (some ⟨g, 0, none⟩), .int .i64 24] ?_; (with_reducible refine (spec_l6Rd_pick.calls k1 g s0_0 x1001_1 24 t220 t221 w0 _ ?side1 ?side2 A43.out).mono ?_); (case side1 => exact zi85 HI0); (case side2 => exact zg85 HB); rintro e w64 ⟨rfl, hi, hb, hk⟩; refine ⟨_, rfl, ?_⟩; replace HO_208000 := Aside0.mk (Kd.R_mono (Kd.R_keep (IsS85.apart (show IsS85 w0 _ g s0_0 x1001_1 from zi85 HI0) (zr HO_208000) (by decide)) hk (fun _ h => h.2)) (fun _ h => h.1)); replace BK197 := Aside0.mk (KeepBut.blk hk (g' := gb197) (o := .cells #[.slice none 0 0, .int .i64 0] 25 (0, 0)) (zk BK197) NB197_0.out (by simp)); replace BK207 := Aside0.mk (KeepBut.blk hk (g' := gb207) (o := .cells #[u208000, .int .i64 x208001_1] 25 (0, 0)) (zk BK207) NB207_0.out (by simp)); replace HK := Aside0.mk (KeepBut.trans (zh HK) hk (.inl rfl)); replace HB := Aside0.mk (hb); replace HI0 := Aside0.mk (hi); (try clear hb); (try clear hk); (try clear hi)))
         replace HO_208000 := Aside0.mk (Kd.R_drew HO_208000.out)
         replace BK197 := Aside0.mk (blk_drew BK197.out)
         replace BK207 := Aside0.mk (blk_drew BK207.out)
         replace HI0 := Aside0.mk (IsS85.drew HI0.out)
         replace HK := Aside0.mk (keep_drew HK.out)
         replace HB := Aside0.mk (below_drew1 HB.out)
         refine start_ (n := 12) (S := fun w' => w'.cell? ⟨gb207, 0, none⟩ = some (u208000) ∧ w'.cell? ⟨gb207, 1, none⟩ = some (.int .i64 x208001_1)) (ds := [11]) #[false, false, false, false, false, false, false, false, false, false, false, false] (by kernel_rfl) rfl rfl ⟨(blk_cell BK207.out 0).trans rfl, (blk_cell BK207.out 1).trans rfl⟩ (fun hHeld => ?_); refine with_tabW spec_l71Table.tab12 spec_l71Table.bits12 (fun HT_ HW_ => ?_)
         generalize w64.drew = w65 at HO_208000 BK197 BK207 HI0 HK HB hHeld ⊢
         refine pu 0 (some 38) (bm 12 1) rfl rfl ?_
         refine pu 2 (some 40) (bm 12 5) rfl rfl ?_
         refine pu 4 (some 42) (bm 12 21) rfl rfl ?_
         refine pu 6 (some 44) (bm 12 85) rfl rfl ?_
         refine tk2 1 (some 39) (bm 12 87) rfl rfl hHeld ?_
         refine one_ (i := 3) (N := some 41) (bm 12 95) rfl rfl (one_of HT_.out (by kernel_rfl)) (by decide) (fun K hK => ?_)
         refine gs Try.func58 #[.pointer (some ⟨g, 0, none⟩)] ?_
         with_reducible refine (spec_l71Field.calls k1 g s0_0 t221 t228 t229 t230 t231 w0 _ ?side1 ?side2 A60.out).mono ?_
         (case side1 => exact zi85 HI0)
         (case side2 => exact zg85 HB)
         rintro e w66 ⟨rfl, hi, hb, hk⟩
         refine ⟨_, rfl, ?_⟩
         replace HO_208000 := Aside0.mk (Kd.R_mono (Kd.R_keep (IsS85.apart (show IsS85 w0 _ g s0_0 t221 from zi85 HI0) (zr HO_208000) (by decide)) hk (fun _ h => h.2)) (fun _ h => h.1))
         replace BK197 := Aside0.mk (KeepBut.blk hk (g' := gb197) (o := .cells #[.slice none 0 0, .int .i64 0] 25 (0, 0)) (zk BK197) NB197_0.out (by simp))
         replace BK207 := Aside0.mk (KeepBut.blk hk (g' := gb207) (o := .cells #[u208000, .int .i64 x208001_1] 25 (0, 0)) (zk BK207) NB207_0.out (by simp))
         replace HK := Aside0.mk (KeepBut.trans (zh HK) hk (.inl rfl))
         replace HB := Aside0.mk (hb)
         replace HI0 := Aside0.mk (hi)
         (try clear hb)
         (try clear hk)
         (try clear hi)
         refine hK.out _ _ ⟨(blk_cell BK207.out 0).trans rfl, (blk_cell BK207.out 1).trans rfl⟩ (fun hHeld => ?_)
         clear hK K
         refine nm ?_
         refine one_ (i := 5) (N := some 43) (bm 12 127) rfl rfl (one_of HT_.out (by kernel_rfl)) (by decide) (fun K hK => ?_)
         refine gs Try.func58 #[.pointer (some ⟨g, 0, none⟩)] ?_
         with_reducible refine (spec_l71Field.calls k1 g s0_0 t231 t232 t233 t234 t235 w0 _ ?side1 ?side2 A61.out).mono ?_
         (case side1 => exact zi85 HI0)
         (case side2 => exact zg85 HB)
         rintro e w67 ⟨rfl, hi, hb, hk⟩
         refine ⟨_, rfl, ?_⟩
         replace HO_208000 := Aside0.mk (Kd.R_mono (Kd.R_keep (IsS85.apart (show IsS85 w0 _ g s0_0 t231 from zi85 HI0) (zr HO_208000) (by decide)) hk (fun _ h => h.2)) (fun _ h => h.1))
         replace BK197 := Aside0.mk (KeepBut.blk hk (g' := gb197) (o := .cells #[.slice none 0 0, .int .i64 0] 25 (0, 0)) (zk BK197) NB197_0.out (by simp))
         replace BK207 := Aside0.mk (KeepBut.blk hk (g' := gb207) (o := .cells #[u208000, .int .i64 x208001_1] 25 (0, 0)) (zk BK207) NB207_0.out (by simp))
         replace HK := Aside0.mk (KeepBut.trans (zh HK) hk (.inl rfl))
         replace HB := Aside0.mk (hb)
         replace HI0 := Aside0.mk (hi)
         (try clear hb)
         (try clear hk)
         (try clear hi)
         refine hK.out _ _ ⟨(blk_cell BK207.out 0).trans rfl, (blk_cell BK207.out 1).trans rfl⟩ (fun hHeld => ?_)
         clear hK K
         refine nm ?_
         refine one_ (i := 7) (N := some 45) (bm 12 255) rfl rfl (one_of HT_.out (by kernel_rfl)) (by decide) (fun K hK => ?_)
         refine gs Try.func58 #[.pointer (some ⟨g, 0, none⟩)] ?_
         with_reducible refine (spec_l71Field.calls k1 g s0_0 t235 t236 t237 t238 t239 w0 _ ?side1 ?side2 A62.out).mono ?_
         (case side1 => exact zi85 HI0)
         (case side2 => exact zg85 HB)
         rintro e w68 ⟨rfl, hi, hb, hk⟩
         refine ⟨_, rfl, ?_⟩
         replace HO_208000 := Aside0.mk (Kd.R_mono (Kd.R_keep (IsS85.apart (show IsS85 w0 _ g s0_0 t235 from zi85 HI0) (zr HO_208000) (by decide)) hk (fun _ h => h.2)) (fun _ h => h.1))
         replace BK197 := Aside0.mk (KeepBut.blk hk (g' := gb197) (o := .cells #[.slice none 0 0, .int .i64 0] 25 (0, 0)) (zk BK197) NB197_0.out (by simp))
         replace BK207 := Aside0.mk (KeepBut.blk hk (g' := gb207) (o := .cells #[u208000, .int .i64 x208001_1] 25 (0, 0)) (zk BK207) NB207_0.out (by simp))
         replace HK := Aside0.mk (KeepBut.trans (zh HK) hk (.inl rfl))
         replace HB := Aside0.mk (hb)
         replace HI0 := Aside0.mk (hi)
         (try clear hb)
         (try clear hk)
         (try clear hi)
         refine hK.out _ _ ⟨(blk_cell BK207.out 0).trans rfl, (blk_cell BK207.out 1).trans rfl⟩ (fun hHeld => ?_)
         clear hK K
         refine nm ?_
         refine one_ (i := 8) (N := some 46) (bm 12 511) rfl rfl (one_of HT_.out (by kernel_rfl)) (by decide) (fun K hK => ?_)
         refine Kd.R_lit_step k36 _ 36 ?hg (N := 46) ?hd (xs := ([(⟨t228, t229, t230⟩ : S36), (⟨t232, t233, t234⟩ : S36), (⟨t236, t237, t238⟩ : S36)] : List (S36))) (inner := [.string t228, .string t229, .bool t230, .string t232, .string t233, .bool t234, .string t236, .string t237, .bool t238]) (ok := fun _ => True) (okp := fun _ => True) ?hr ?hp (fun _ hk => hk) trivial (Below.refl _ _) (Nat.le_refl _) (by simp) ?_; (case hd => rfl); (case hg => rfl); (case hr => first | (go_simp; done) | (go_simp; rfl)); (case hp => exact (Reps.c3 (show Kd.M k36 _ _ _ (⟨t228, t229, t230⟩ : S36) [.string t228, .string t229, .bool t230] from (k36_mkM _ _ _ (⟨t228, t229, t230⟩ : S36) )) (Reps.c3 (show Kd.M k36 _ _ _ (⟨t232, t233, t234⟩ : S36) [.string t232, .string t233, .bool t234] from (k36_mkM _ _ _ (⟨t232, t233, t234⟩ : S36) )) (Reps.c3 (show Kd.M k36 _ _ _ (⟨t236, t237, t238⟩ : S36) [.string t236, .string t237, .bool t238] from (k36_mkM _ _ _ (⟨t236, t237, t238⟩ : S36) )) (Reps.none _ _)))))
         intro v241 w69 ho70 hb hg_ hnew_
         clear hg_ hnew_
         (first | rw [← Ny240.out] at ho70 | (simp only [Int.reduceToNat] at ho70; rw [← Ny240.out] at ho70))
         have HO242 := Aside0.mk (Kd.R_lower (Kd.R_new' ho70 (Kd.R_lt (zr HO_208000))) (keep_size (w := w) (g := g) (row := none) (zh HK)))
         replace HO_208000 := Aside0.mk (Kd.R_elder' (zr HO_208000) (Kd.R_base ho70) hb)
         replace BK197 := Aside0.mk (blk_below (g := gb197) (o := .cells #[.slice none 0 0, .int .i64 0] 25 (0, 0)) (zk BK197) hb)
         replace BK207 := Aside0.mk (blk_below (g := gb207) (o := .cells #[u208000, .int .i64 x208001_1] 25 (0, 0)) (zk BK207) hb)
         replace HI0 := Aside0.mk (IsS85.below (zi85 HI0) hb)
         replace HK := Aside0.mk (KeepBut.trans (zh HK) (KeepBut.of_below hb g none) (.inl rfl))
         replace HB := Aside0.mk (below_step (zg85 HB) hb)
         clear hb ho70
         obtain ⟨Ao72, co72, eo72⟩ := Kd.R_slice HO242.out
         (first | subst eo72 | (injection eo72 with f1_ f2_ f3_; have f4_ := f1_.symm; have f5_ := f3_.symm; clear f1_ f2_ f3_; subst f4_; subst f5_))
         refine hK.out _ _ ⟨(blk_cell BK207.out 0).trans rfl, (blk_cell BK207.out 1).trans rfl⟩ (fun hHeld => ?_)
         clear hK K
         refine nm ?_
         refine one_ (i := 9) (N := some 47) (bm 12 1023) rfl rfl (one_of HT_.out (by kernel_rfl)) (by decide) (fun K hK => ?_)
         refine Kd.R_append_rows_step k36 w.heap.size (by rfl) (.tmp 39) (.tmp 46) 23 36 (.agg #[(.string ⟨#[]⟩), (.string ⟨#[]⟩), (.bool false)]) 40 rfl Try.underlying23 info36 rfl (by decide) (by omega) u208000 x208000_1 y240 _ _ _ (fun k_ => some k_ ≠ (.slice Ao72 y240.length co72 : Value).ownBlock) (fun _ => False) rfl rfl ?aO ?aR (fun _ _ h => h) (fun _ h => h.elim) ?aF (Below.refl _ _) ?aS ?aL ?_
         (case aR => exact zc (Kd.R_reads' HO242.out).2.2)
         (case aF => exact (fun k_ hk => Kd.fresh' (Kd.R_lt (zr HO242)) k_ hk))
         (case aO => exact (by (with_reducible repeat (first | apply Kd.R_alloc | apply Kd.R_drewN | apply Kd.R_drew)); exact Kd.R_mono HO_208000.out (fun _ hk => hk.2)))
         (case aS => exact (keep_size (w := w) (g := g) (row := none) (zh HK)))
         (case aL => have := LMc63.out; omega)
         intro v244 w71 ho hb hg hat
         rw [← Ny243.out] at ho
         replace BK197 := Aside0.mk (blk_grown (g := gb197) (o := .cells #[.slice none 0 0, .int .i64 0] 25 (0, 0)) (zk BK197) hg (Kd.R_ne HO_208000.out BK197.out (by decide)))
         replace BK207 := Aside0.mk (blk_grown (g := gb207) (o := .cells #[u208000, .int .i64 x208001_1] 25 (0, 0)) (zk BK207) hg (Kd.R_ne HO_208000.out BK207.out (by decide)))
         replace HI0 := Aside0.mk (IsS85.grown (zi85 HI0) hg (IsS85.own_ne HI0.out HO_208000.out (by decide)))
         replace HO242 := Aside0.mk (Kd.R_after (ok := (fun _ => True)) (zr HO242) hg hat)
         replace HB := Aside0.mk (below_weaken (zg85 HB) HL.out hb)
         replace HK := Aside0.mk (KeepBut.trans (zh HK) (KeepBut.of_grown hg g) (Kd.R_base2 HO_208000.out))
         have HO245 := Aside0.mk (ho)
         clear HO_208000
         clear ho hb hg hat
         obtain ⟨Ao73, co73, eo73⟩ := Kd.R_slice HO245.out
         (first | subst eo73 | (injection eo73 with f1_ f2_ f3_; have f4_ := f1_.symm; have f5_ := f3_.symm; clear f1_ f2_ f3_; subst f4_; subst f5_))
         refine hK.out _ _ ⟨(blk_cell BK207.out 0).trans rfl, (blk_cell BK207.out 1).trans rfl⟩ (fun hHeld => ?_)
         clear hK K
         refine nm ?_
         refine pu 10 (some 48) (bm 12 2047) rfl rfl ?_
         refine last_ (i := 11) (N := none) #[true, true, true, true, true, true, true, true, true, true, true, true] rfl rfl (one_of HT_.out (by kernel_rfl)) (by decide) (fun K hK => ?_)
         have hs74 : w71.cell? ⟨gb207, 0, none⟩ = some (u208000) := (blk_cell BK207.out 0).trans rfl
         have hfs74 := blk_frozen BK207.out 0
         have hns74_0 := NB197_207.out
         have hms74_0 := NB207_197.out
         refine skip_ (w1 := ?_) (by rfl) rfl ?_ ?_
         rotate_left
         ·go_simp
          rfl
         refine hK.out _ _ ?_
         clear hK K
         refine done_ (done_of HT_.out (by kernel_rfl)) ?_
         have hnb75 := NB207_197.out
         have hnc75 := NB197_207.out
         have hnb76 := NB207_0.out
         have hnc76 := NB0_207.out
         have hcz77_0 : w71.cell? ⟨gb207, 0, none⟩ = some (u208000) := (blk_cell BK207.out 0).trans rfl
         have hcz77_1 : w71.cell? ⟨gb207, 1, none⟩ = some (.int .i64 x208001_1) := (blk_cell BK207.out 1).trans rfl
         have hfz77_0 := blk_frozen BK207.out 0
         have hfz77_1 := blk_frozen BK207.out 1
         have hnb78 := NB197_0.out
         have hnc78 := NB0_197.out
         have hcz79_0 : w71.cell? ⟨gb197, 0, none⟩ = some (.slice none 0 0) := (blk_cell BK197.out 0).trans rfl
         have hcz79_1 : w71.cell? ⟨gb197, 1, none⟩ = some (.int .i64 0) := (blk_cell BK197.out 1).trans rfl
         have hfz79_0 := blk_frozen BK197.out 0
         have hfz79_1 := blk_frozen BK197.out 1
         try go_wp2
         refine bodyPost_ret (results_cell_row rfl _ _ gb197 25 #[.slice Ao73 y243.length co73, .int .i64 x208001_1] (0, 0) _ rfl (by (with_reducible repeat (first | refine blk_drewN ?_ _ | refine blk_drew ?_ | refine blk_alloc ?_ _)); refine blk_put (cs := #[.slice Ao73 y243.length co73, .int .i64 0]) ?_ 1 _ rfl; (with_reducible repeat (first | refine blk_drewN ?_ _ | refine blk_drew ?_ | refine blk_alloc ?_ _)); refine blk_put (cs := #[.slice none 0 0, .int .i64 0]) ?_ 0 _ rfl; (with_reducible repeat (first | refine blk_drewN ?_ _ | refine blk_drew ?_ | refine blk_alloc ?_ _)); refine blk_far ?_ NB197_207.out _; exact zk BK197) Try.underlying25 rfl (by kernel_rfl)) rfl ?_
         exact ⟨_, ze, by (with_reducible repeat (first | apply Kd.R_alloc | apply Kd.R_drewN | apply Kd.R_drew)); exact Kd.R_mono (Kd.R_far (p := ⟨gb197, 1, none⟩) (Kd.R_far (p := ⟨gb197, 0, none⟩) (Kd.R_far (p := ⟨gb207, 0, none⟩) (Kd.R_types (Kd.R_types HO245.out BK207.out (by decide)) BK197.out (by decide)) (fun _ hk => hk.1.2) (.slice Ao73 y243.length co73)) (fun _ hk => hk.2) (.slice Ao73 y243.length co73)) (fun _ hk => hk.2) (.int .i64 x208001_1)) (fun _ hk => trivial), zi85 HI0, zg85 HB, zh HK⟩
        ·rw [if_neg c63] at H
         exact absurd H (by simp)
       ·rw [if_neg c59] at H
        have c59b0 : (t220 == 1) = false := beq_eq_false_iff_ne.mpr c59
        have c59b1 : (t220 != 1) = true := bne_iff_ne.mpr c59
        simp only [Option.some.injEq, Prod.mk.injEq] at H
        obtain ⟨rfl, rfl, rfl⟩ := H
        go_wp2_with (first | ((with_reducible refine gq 47 rfl ?_); refine gl (some 27) Try.func47 #[.pointer (some ⟨g, 0, none⟩), .int .i64 24] ?_; (with_reducible refine (spec_l6Rd_pick.calls k1 g s0_0 x1001_1 24 t220 t221 w0 _ ?side1 ?side2 A43.out).mono ?_); (case side1 => exact zi85 HI0); (case side2 => exact zg85 HB); rintro e w80 ⟨rfl, hi, hb, hk⟩; refine ⟨_, rfl, ?_⟩; replace HO_208000 := Aside0.mk (Kd.R_mono (Kd.R_keep (IsS85.apart (show IsS85 w0 _ g s0_0 x1001_1 from zi85 HI0) (zr HO_208000) (by decide)) hk (fun _ h => h.2)) (fun _ h => h.1)); replace BK197 := Aside0.mk (KeepBut.blk hk (g' := gb197) (o := .cells #[.slice none 0 0, .int .i64 0] 25 (0, 0)) (zk BK197) NB197_0.out (by simp)); replace BK207 := Aside0.mk (KeepBut.blk hk (g' := gb207) (o := .cells #[u208000, .int .i64 x208001_1] 25 (0, 0)) (zk BK207) NB207_0.out (by simp)); replace HK := Aside0.mk (KeepBut.trans (zh HK) hk (.inl rfl)); replace HB := Aside0.mk (hb); replace HI0 := Aside0.mk (hi); (try clear hb); (try clear hk); (try clear hi); have hnb81 := NB207_197.out; have hnc81 := NB197_207.out; have hnb82 := NB207_0.out; have hnc82 := NB0_207.out; have hcz83_0 : w80.cell? ⟨gb207, 0, none⟩ = some (u208000) := (blk_cell BK207.out 0).trans rfl; have hcz83_1 : w80.cell? ⟨gb207, 1, none⟩ = some (.int .i64 x208001_1) := (blk_cell BK207.out 1).trans rfl; have hfz83_0 := blk_frozen BK207.out 0; have hfz83_1 := blk_frozen BK207.out 1; obtain ⟨Ao84, co84, eo84⟩ := Kd.R_slice HO_208000.out; subst eo84; have hnb85 := NB197_0.out; have hnc85 := NB0_197.out; have hcz86_0 : w80.cell? ⟨gb197, 0, none⟩ = some (.slice none 0 0) := (blk_cell BK197.out 0).trans rfl; have hcz86_1 : w80.cell? ⟨gb197, 1, none⟩ = some (.int .i64 0) := (blk_cell BK197.out 1).trans rfl; have hfz86_0 := blk_frozen BK197.out 0; have hfz86_1 := blk_frozen BK197.out 1))
        refine bodyPost_ret (results_cell_row rfl _ _ gb197 25 #[.slice Ao84 x208000_1.length co84, .int .i64 x208001_1] (0, 0) _ rfl (by (with_reducible repeat (first | refine blk_drewN ?_ _ | refine blk_drew ?_ | refine blk_alloc ?_ _)); refine blk_put (cs := #[.slice Ao84 x208000_1.length co84, .int .i64 0]) ?_ 1 _ rfl; (with_reducible repeat (first | refine blk_drewN ?_ _ | refine blk_drew ?_ | refine blk_alloc ?_ _)); refine blk_put (cs := #[.slice none 0 0, .int .i64 0]) ?_ 0 _ rfl; exact zk BK197) Try.underlying25 rfl (by kernel_rfl)) rfl ?_
        exact ⟨_, ze, by (with_reducible repeat (first | apply Kd.R_alloc | apply Kd.R_drewN | apply Kd.R_drew)); exact Kd.R_mono (Kd.R_far (p := ⟨gb197, 1, none⟩) (Kd.R_far (p := ⟨gb197, 0, none⟩) (Kd.R_types HO_208000.out BK197.out (by decide)) (fun _ hk => hk.2) (.slice Ao84 x208000_1.length co84)) (fun _ hk => hk.2) (.int .i64 x208001_1)) (fun _ hk => trivial), zi85 HI0, zg85 HB, zh HK⟩
  ·rw [if_neg c4] at H
   exact absurd H (by simp)
 ·rw [if_neg c3] at H
  exact absurd H (by simp)

/-! ### spec_DrawTableAdd: function 29 -/
-- thin
def spec_DrawTableAdd.f (k : Nat) (l0 : List Int) : Option ((List (S36)) × Int × ByteArray × ByteArray × Bool) := (spec_l6Open.f l0).bind fun bt248 => ((spec_l71Table.f k bt248.1 bt248.2).bind fun bt251 => ((spec_l71Field.f k bt248.1 bt251.2.2).bind fun bt256 => (some (bt251.1, bt251.2.1, bt256.1, bt256.2.1, bt256.2.2.1))))
theorem spec_DrawTableAdd.mono : ∀ a0 k, LeO (spec_DrawTableAdd.f k a0) (spec_DrawTableAdd.f (k + 1) a0) := by
 intro a0 k
 unfold spec_DrawTableAdd.f
 repeat' first
   | (with_reducible exact spec_l71Field.mono _ _ _)
   | (with_reducible exact spec_l71Table.mono _ _ _)
   | (with_reducible exact LeO.refl _)
   | (with_reducible exact LeO.none _)
   | (with_reducible refine LeO.ite ?_ ?_)
   | (with_reducible refine LeO.bind ?_ (fun _ => ?_))
   | exact spec_l71Field.mono _ _ _
   | exact spec_l71Table.mono _ _ _
   | exact LeO.none _
   | refine LeO.ite ?_ ?_
   | refine LeO.bind ?_ (fun _ => ?_)
set_option maxHeartbeats 8000000 in
set_option maxRecDepth 100000 in
theorem spec_DrawTableAdd.calls (k : Nat) (A0 : Option Addr) (c0 : Nat) (l0 : List Int) (r1 : List (S36)) (r2 : Int) (r3 : ByteArray) (r4 : ByteArray) (r5 : Bool) (w : World) (hr0 : Kd.C (Kd.int .u8) w A0 l0.length l0) (hc0 : l0.length ≤ c0) (h : spec_DrawTableAdd.f k l0 = some (r1, r2, r3, r4, r5)) :
  Calls Try.prog 29 #[.slice A0 l0.length c0] w fun e w' => ∃ v0_ : Value, e = .returned (.tuple #[.agg #[v0_, .int .i64 r2], .agg #[.string r3, .string r4, .bool r5]]) ∧ Kd.R k36 36 w' w.heap.size (fun _ => True) v0_ r1 ∧ Below w.heap.size w w' := by
 have hu25 := Try.underlying25
 have hu36 := Try.underlying36
 have HR0 := Aside0.mk hr0
 have HC0 := Aside0.mk hc0
 clear hr0 hc0
 have HB := Aside0.mk (Below.refl w.heap.size w)
 have H : ((spec_l6Open.f l0).bind fun bt248 => ((spec_l71Table.f k bt248.1 bt248.2).bind fun bt251 => ((spec_l71Field.f k bt248.1 bt251.2.2).bind fun bt256 => (some (bt251.1, bt251.2.1, bt256.1, bt256.2.1, bt256.2.2.1))))) = some (r1, r2, r3, r4, r5) := h
 clear h
 replace H := Option.bind_eq_some_iff.mp H
 obtain ⟨⟨t248, t249⟩, A20, H⟩ := H
 replace H : ((spec_l71Table.f k t248 t249).bind fun bt251 => ((spec_l71Field.f k t248 bt251.2.2).bind fun bt256 => (some (bt251.1, bt251.2.1, bt256.1, bt256.2.1, bt256.2.2.1)))) = some (r1, r2, r3, r4, r5) := H
 have A2 := Aside0.mk A20
 clear A20
 replace H := Option.bind_eq_some_iff.mp H
 obtain ⟨⟨t251, t254, t255⟩, A30, H⟩ := H
 replace H : ((spec_l71Field.f k t248 t255).bind fun bt256 => (some (t251, t254, bt256.1, bt256.2.1, bt256.2.2.1))) = some (r1, r2, r3, r4, r5) := H
 have A3 := Aside0.mk A30
 clear A30
 replace H := Option.bind_eq_some_iff.mp H
 obtain ⟨⟨t256, t257, t258, t259⟩, A40, H⟩ := H
 replace H : (some (t251, t254, t256, t257, t258)) = some (r1, r2, r3, r4, r5) := H
 have A4 := Aside0.mk A40
 clear A40
 simp only [Option.some.injEq, Prod.mk.injEq] at H
 obtain ⟨rfl, rfl, rfl, rfl, rfl⟩ := H
 go_enter Try.func29, Try.ntmps29
 go_wp2_with (first | ((with_reducible refine gd 2 rfl ?_); refine bx (N := 2) (cs := #[.slice none 0 0, .int .i64 0]) (t := 25) ?_; intro gb246 hg w5 hbox hb; have BK246 := Aside0.mk (hbox); have GW246 := Aside0.mk ((by rw [hg]; exact (below_size (zb HB)) : w.heap.size ≤ gb246)); have GE246 := Aside0.mk ((by rw [hg]; exact (below_size (zb HB)) : w.heap.size ≤ gb246)); replace HB := Aside0.mk (below_step (zb HB) hb); clear hb hbox hg) | ((with_reducible refine gd 3 rfl ?_); refine bx (N := 3) (cs := #[.string (⟨#[]⟩ : ByteArray), .string (⟨#[]⟩ : ByteArray), .bool false]) (t := 36) ?_; intro gb247 hg w6 hbox hb; have BK247 := Aside0.mk (hbox); have GW247 := Aside0.mk ((by rw [hg]; exact (below_size (zb HB)) : w.heap.size ≤ gb247)); have GE247 := Aside0.mk ((by rw [hg]; exact (below_size (zb HB)) : w.heap.size ≤ gb247)); replace HB := Aside0.mk (below_step (zb HB) hb); have NB246_247 := Aside0.mk ((by rw [hg]; exact Nat.ne_of_lt (blk_lt (g := gb246) (o := .cells #[.slice none 0 0, .int .i64 0] 25 (0, 0)) (zk BK246)) : gb246 ≠ gb247)); have NB247_246 := Aside0.mk ((by rw [hg]; exact Nat.ne_of_gt (blk_lt (g := gb246) (o := .cells #[.slice none 0 0, .int .i64 0] 25 (0, 0)) (zk BK246)) : gb247 ≠ gb246)); replace BK246 := Aside0.mk (blk_below (g := gb246) (o := .cells #[.slice none 0 0, .int .i64 0] 25 (0, 0)) (zk BK246) hb); clear hb hbox hg) | ((with_reducible refine gq 45 rfl ?_); refine gl (some 6) Try.func45 #[.slice A0 l0.length c0] ?_; (with_reducible refine (spec_l6Open.calls _ _ l0 t248 t249 w _ ?side1 ?side2 ?side3 A2.out).mono ?_); (case side1 => exact zb HB); (case side2 => exact HR0.out); (case side3 => exact HC0.out); rintro e w7 ⟨g250, rfl, hi, hb, hb2⟩; refine ⟨_, rfl, ?_⟩; replace HB := Aside0.mk (hb); have HI250 := Aside0.mk (hi); have NB250_246 := Aside0.mk (IsS85.ne_blk hi (blk_below (g := gb246) (o := .cells #[.slice none 0 0, .int .i64 0] 25 (0, 0)) (zk BK246) hb2) (by decide)); have NB246_250 := Aside0.mk (Ne.symm (IsS85.ne_blk hi (blk_below (g := gb246) (o := .cells #[.slice none 0 0, .int .i64 0] 25 (0, 0)) (zk BK246) hb2) (by decide))); replace BK246 := Aside0.mk (blk_below (g := gb246) (o := .cells #[.slice none 0 0, .int .i64 0] 25 (0, 0)) (zk BK246) hb2); have NB250_247 := Aside0.mk (IsS85.ne_blk hi (blk_below (g := gb247) (o := .cells #[.string (⟨#[]⟩ : ByteArray), .string (⟨#[]⟩ : ByteArray), .bool false] 36 (0, 0)) (zk BK247) hb2) (by decide)); have NB247_250 := Aside0.mk (Ne.symm (IsS85.ne_blk hi (blk_below (g := gb247) (o := .cells #[.string (⟨#[]⟩ : ByteArray), .string (⟨#[]⟩ : ByteArray), .bool false] 36 (0, 0)) (zk BK247) hb2) (by decide))); replace BK247 := Aside0.mk (blk_below (g := gb247) (o := .cells #[.string (⟨#[]⟩ : ByteArray), .string (⟨#[]⟩ : ByteArray), .bool false] 36 (0, 0)) (zk BK247) hb2); (try clear hb); (try clear hb2); (try clear hi)) | ((with_reducible refine gq 46 rfl ?_); refine gl (some 8) Try.func46 #[.pointer (some ⟨g250, 0, none⟩)] ?_; (with_reducible refine (spec_l71Table.calls k g250 t248 t249 t251 t254 t255 w _ ?side1 ?side2 A3.out).mono ?_); (case side1 => exact zi85 HI250); (case side2 => exact zg85 HB); rintro e w8 ⟨v252, rfl, ho0, hi, hb, hk⟩; refine ⟨_, rfl, ?_⟩; replace BK246 := Aside0.mk (KeepBut.blk hk (g' := gb246) (o := .cells #[.slice none 0 0, .int .i64 0] 25 (0, 0)) (zk BK246) NB246_250.out (by simp)); have HO253 := Aside0.mk (Kd.R_lower (Kd.R_newB ho0 (g := gb247) (o := .cells #[.string (⟨#[]⟩ : ByteArray), .string (⟨#[]⟩ : ByteArray), .bool false] 36 (0, 0)) (zk BK247)) (below_size (zg85 HB))); replace BK247 := Aside0.mk (KeepBut.blk hk (g' := gb247) (o := .cells #[.string (⟨#[]⟩ : ByteArray), .string (⟨#[]⟩ : ByteArray), .bool false] 36 (0, 0)) (zk BK247) NB247_250.out (by simp)); replace HB := Aside0.mk (hb); replace HI250 := Aside0.mk (hi); (try clear hb); (try clear hk); (try clear hi); (try clear ho0)) | ((with_reducible refine gq 58 rfl ?_); refine gl (some 10) Try.func58 #[.pointer (some ⟨g250, 0, none⟩)] ?_; (with_reducible refine (spec_l71Field.calls k g250 t248 t255 t256 t257 t258 t259 w _ ?side1 ?side2 A4.out).mono ?_); (case side1 => exact zi85 HI250); (case side2 => exact zg85 HB); rintro e w9 ⟨rfl, hi, hb, hk⟩; refine ⟨_, rfl, ?_⟩; replace BK246 := Aside0.mk (KeepBut.blk hk (g' := gb246) (o := .cells #[.slice none 0 0, .int .i64 0] 25 (0, 0)) (zk BK246) NB246_250.out (by simp)); replace BK247 := Aside0.mk (KeepBut.blk hk (g' := gb247) (o := .cells #[.string (⟨#[]⟩ : ByteArray), .string (⟨#[]⟩ : ByteArray), .bool false] 36 (0, 0)) (zk BK247) NB247_250.out (by simp)); replace HO253 := Aside0.mk (Kd.R_mono (Kd.R_keep (IsS85.apart (show IsS85 w _ g250 t248 t255 from zi85 HI250) (zr HO253) (by decide)) hk (fun _ h => h.2)) (fun _ h => h.1)); replace HB := Aside0.mk (hb); replace HI250 := Aside0.mk (hi); (try clear hb); (try clear hk); (try clear hi); obtain ⟨Ao10, co10, eo10⟩ := Kd.R_slice HO253.out; subst eo10; have hnb11 := NB246_247.out; have hnc11 := NB247_246.out; have hnb12 := NB246_250.out; have hnc12 := NB250_246.out; have hcz13_0 : w9.cell? ⟨gb246, 0, none⟩ = some (.slice none 0 0) := (blk_cell BK246.out 0).trans rfl; have hcz13_1 : w9.cell? ⟨gb246, 1, none⟩ = some (.int .i64 0) := (blk_cell BK246.out 1).trans rfl; have hfz13_0 := blk_frozen BK246.out 0; have hfz13_1 := blk_frozen BK246.out 1; have hnb14 := NB247_250.out; have hnc14 := NB250_247.out; have hcz15_0 : w9.cell? ⟨gb247, 0, none⟩ = some (.string (⟨#[]⟩ : ByteArray)) := (blk_cell BK247.out 0).trans rfl; have hcz15_1 : w9.cell? ⟨gb247, 1, none⟩ = some (.string (⟨#[]⟩ : ByteArray)) := (blk_cell BK247.out 1).trans rfl; have hcz15_2 : w9.cell? ⟨gb247, 2, none⟩ = some (.bool false) := (blk_cell BK247.out 2).trans rfl; have hfz15_0 := blk_frozen BK247.out 0; have hfz15_1 := blk_frozen BK247.out 1; have hfz15_2 := blk_frozen BK247.out 2))
 refine bodyPost_ret (results_cc rfl _ _ gb246 gb247 25 36 #[.slice Ao10 t251.length co10, .int .i64 t254] #[.string t256, .string t257, .bool t258] (0, 0) (0, 0) _ _ rfl (by (with_reducible repeat (first | refine blk_drewN ?_ _ | refine blk_drew ?_ | refine blk_alloc ?_ _)); refine blk_far ?_ NB246_247.out _; (with_reducible repeat (first | refine blk_drewN ?_ _ | refine blk_drew ?_ | refine blk_alloc ?_ _)); refine blk_far ?_ NB246_247.out _; (with_reducible repeat (first | refine blk_drewN ?_ _ | refine blk_drew ?_ | refine blk_alloc ?_ _)); refine blk_far ?_ NB246_247.out _; (with_reducible repeat (first | refine blk_drewN ?_ _ | refine blk_drew ?_ | refine blk_alloc ?_ _)); refine blk_put (cs := #[.slice Ao10 t251.length co10, .int .i64 0]) ?_ 1 _ rfl; (with_reducible repeat (first | refine blk_drewN ?_ _ | refine blk_drew ?_ | refine blk_alloc ?_ _)); refine blk_put (cs := #[.slice none 0 0, .int .i64 0]) ?_ 0 _ rfl; exact zk BK246) Try.underlying25 rfl (by kernel_rfl) rfl (by (with_reducible repeat (first | refine blk_drewN ?_ _ | refine blk_drew ?_ | refine blk_alloc ?_ _)); refine blk_put (cs := #[.string t256, .string t257, .bool false]) ?_ 2 _ rfl; (with_reducible repeat (first | refine blk_drewN ?_ _ | refine blk_drew ?_ | refine blk_alloc ?_ _)); refine blk_put (cs := #[.string t256, .string (⟨#[]⟩ : ByteArray), .bool false]) ?_ 1 _ rfl; (with_reducible repeat (first | refine blk_drewN ?_ _ | refine blk_drew ?_ | refine blk_alloc ?_ _)); refine blk_put (cs := #[.string (⟨#[]⟩ : ByteArray), .string (⟨#[]⟩ : ByteArray), .bool false]) ?_ 0 _ rfl; (with_reducible repeat (first | refine blk_drewN ?_ _ | refine blk_drew ?_ | refine blk_alloc ?_ _)); refine blk_far ?_ NB247_246.out _; (with_reducible repeat (first | refine blk_drewN ?_ _ | refine blk_drew ?_ | refine blk_alloc ?_ _)); refine blk_far ?_ NB247_246.out _; exact zk BK247) Try.underlying36 rfl (by kernel_rfl)) rfl ?_
 exact ⟨_, ze, by (with_reducible repeat (first | apply Kd.R_alloc | apply Kd.R_drewN | apply Kd.R_drew)); exact Kd.R_mono (Kd.R_far (p := ⟨gb247, 2, none⟩) (Kd.R_far (p := ⟨gb247, 1, none⟩) (Kd.R_far (p := ⟨gb247, 0, none⟩) (Kd.R_far (p := ⟨gb246, 1, none⟩) (Kd.R_far (p := ⟨gb246, 0, none⟩) (Kd.R_mono (Kd.R_types HO253.out BK246.out (by decide)) (fun k_ hk => (⟨hk, hk.1.2⟩ : _ ∧ k_ ≠ gb247))) (fun _ hk => hk.1.2) (.slice Ao10 t251.length co10)) (fun _ hk => hk.1.2) (.int .i64 t254)) (fun _ hk => hk.2) (.string t256)) (fun _ hk => hk.2) (.string t257)) (fun _ hk => hk.2) (.bool t258)) (fun _ hk => trivial), zg85 HB⟩

/-! ### impl_in: function 48 -/
-- thin
def impl_in.f (a0 : Int) (a1 : Int) (a2 : Int) : Option (Bool) := if a1 ≤ a0 then (some (decide (a0 ≤ a2))) else (some false)
set_option maxHeartbeats 8000000 in
set_option maxRecDepth 100000 in
theorem impl_in.calls (a0 : Int) (a1 : Int) (a2 : Int) (r : Bool) (w : World) (h : impl_in.f a0 a1 a2 = some r) :
  Calls Try.prog 48 #[.int .i64 a0, .int .i64 a1, .int .i64 a2] w fun e w' => e = .returned (.bool r) ∧ Drawn0 w w' := by
 have H : (if a1 ≤ a0 then (some (decide (a0 ≤ a2))) else (some false)) = some r := h
 clear h
 by_cases c4 : a1 ≤ a0
 ·rw [if_pos c4] at H
  have c4b0 : decide (a1 ≤ a0) = true := decide_eq_true c4
  clear c4
  obtain rfl := Option.some.inj H
  go_enter Try.func48, Try.ntmps48
  go_wp2
  go_ret
  exact ⟨zs, by repeat (first | exact Drawn0.refl _ | apply Drawn0.step)⟩
 ·rw [if_neg c4] at H
  have c4b0 : decide (a1 ≤ a0) = false := decide_eq_false c4
  clear c4
  obtain rfl := Option.some.inj H
  go_enter Try.func48, Try.ntmps48
  go_wp2
  go_ret
  exact ⟨zs, by repeat (first | exact Drawn0.refl _ | apply Drawn0.step)⟩

-- NOT PRINTED: function 99 (bytealg_IndexByteString)

-- NOT PRINTED: function 94 (stringslite_IndexByte)

/-! ### strings_IndexByte: function 85 -/
-- by hand
def TryL.lays137_ren : Go.Shelf.Ren := ⟨fun | 137 => 85 | 217 => 94 | 266 => 99 | n => n, fun | 9 => 9 | 5 => 5 | 3 => 3 | n => n, fun | n => n⟩
theorem TryL.lays137 : Go.Proofs.Lays.n137 Try.prog TryL.lays137_ren := {
  mixed := by kernel_rfl
  f137 := Try.func85.trans (congrArg some (by kernel_rfl))
  f217 := Try.func94.trans (congrArg some (by kernel_rfl))
  f266 := Try.func99.trans (congrArg some (by kernel_rfl))
  t3 := Try.underlying3
  a3 := Try.isAgg3
  z3 := Try.sizeOf3
  v3 := Try.zeroValue3
  t5 := Try.underlying5
  a5 := Try.isAgg5
  z5 := Try.sizeOf5
  v5 := Try.zeroValue5
  t9 := Try.underlying9
  a9 := Try.isAgg9
  z9 := Try.sizeOf9
  v9 := Try.zeroValue9 }
/-- The place of the first byte that is a1; -1, if there is none. -/
def strings_IndexByte.f (a0 : ByteArray) (a1 : Int) : Option (Int) := some (Lib.indexByte a0.data.toList a1.toNat.toUInt8)
theorem strings_IndexByte.calls (a0 : ByteArray) (a1 : Int) (r : Int) (w : World) (h : strings_IndexByte.f a0 a1 = some r) :
    Calls Try.prog 85 #[.string a0, .int .u8 a1] w fun e w' => e = .returned (.int .i64 r) ∧ Drawn0 w w' := by
  simp only [strings_IndexByte.f, Option.some.injEq] at h
  subst h
  refine (Go.Proofs.Any.strings_IndexByte TryL.lays137 a0 a1 w).mono ?_
  rintro e w' ⟨rfl, rfl⟩
  exact ⟨rfl, Drawn0.refl _⟩

/-! ### impl_WordOk: function 72 -/
-- thin
def impl_WordOk.l0 : Nat → ByteArray → Int → Int → Option (Bool)
 | 0, _, _, _ => none
 | k + 1, x0, x5, x6 => if x6 < x5 then (if 0 ≤ x6 then (if x6 < (x0.size : Int) then ((strings_IndexByte.f (⟨#[101, 116, 97, 111, 105, 110, 115, 114, 104, 108, 48, 49, 50, 51, 52, 53, 54, 55, 56, 57, 100, 99, 117, 109, 102, 112, 103, 119, 121, 98, 118, 107, 120, 106, 113, 122, 58, 47, 45]⟩ : ByteArray) (bt x0 x6)).bind fun t260 => (if t260 < 0 then (some false) else (impl_WordOk.l0 k x0 x5 (wrap64 (x6 + 1))))) else (none)) else (none)) else (some (decide ((x0.size : Int) ≤ 16)))
def impl_WordOk.f (k : Nat) (a0 : ByteArray) : Option (Bool) := impl_WordOk.l0 k a0 (a0.size : Int) 0
theorem impl_WordOk.mono_l : ∀ k, (∀ y0 y1 y2, LeO (impl_WordOk.l0 k y0 y1 y2) (impl_WordOk.l0 (k + 1) y0 y1 y2))
 | 0 => fun _ _ _ r h => by simp [impl_WordOk.l0] at h
 | k + 1 => by
  have ih0 := impl_WordOk.mono_l k
  ·intro y0 y1 y2
   unfold impl_WordOk.l0
   repeat' first
   | (with_reducible exact ih0 _ _ _)
   | (with_reducible exact LeO.refl _)
   | (with_reducible exact LeO.none _)
   | (with_reducible refine LeO.ite ?_ ?_)
   | (with_reducible refine LeO.bind ?_ (fun _ => ?_))
   | exact ih0 _ _ _
   | exact LeO.none _
   | refine LeO.ite ?_ ?_
   | refine LeO.bind ?_ (fun _ => ?_)
theorem impl_WordOk.mono : ∀ a0 k, LeO (impl_WordOk.f k a0) (impl_WordOk.f (k + 1) a0) := by
 intro a0 k
 have ih0 := impl_WordOk.mono_l k
 unfold impl_WordOk.f
 repeat' first
   | (with_reducible exact ih0 _ _ _)
   | (with_reducible exact LeO.refl _)
   | (with_reducible exact LeO.none _)
   | (with_reducible refine LeO.ite ?_ ?_)
   | (with_reducible refine LeO.bind ?_ (fun _ => ?_))
   | exact ih0 _ _ _
   | exact LeO.none _
   | refine LeO.ite ?_ ?_
   | refine LeO.bind ?_ (fun _ => ?_)
set_option maxHeartbeats 8000000 in
set_option maxRecDepth 100000 in
theorem impl_WordOk.calls (k : Nat) (a0 : ByteArray) (r : Bool) (w : World) (h : impl_WordOk.f k a0 = some r) :
  Calls Try.prog 72 #[.string a0] w fun e w' => e = .returned (.bool r) ∧ Drawn0 w w' := by
 have H : (impl_WordOk.l0 k a0 (a0.size : Int) 0) = some r := h
 clear h
 have H' := Aside0.mk H
 clear H
 go_enter Try.func72, Try.ntmps72
 go_wp2
 go_loopg [6] k (fun kq v6 w' => ∃ (x6_1 : Int), v6 = .int .i64 x6_1 ∧ Aside0 (impl_WordOk.l0 kq a0 (a0.size : Int) x6_1 = some r) ∧ Aside0 (kq ≤ k) ∧ Drawn0 w w')
 case atStart => exact ⟨(0), zs, H', ⟨Nat.le_refl _⟩, by repeat (first | exact Drawn0.refl _ | apply Drawn0.step)⟩
 case round =>
  clear H'
  obtain ⟨x6_1, rfl, HA, HK1, ⟨m1, rfl⟩⟩ := hrel
  cases gk with
  | zero => exact absurd HA.out (by simp [impl_WordOk.l0])
  | succ k1 =>
   have H := HA.out
   clear HA
   simp only [impl_WordOk.l0] at H
   by_cases c2 : x6_1 < (a0.size : Int)
   ·rw [if_pos c2] at H
    have c2b0 : decide (x6_1 < (a0.size : Int)) = true := decide_eq_true c2
    clear c2
    by_cases c3 : 0 ≤ x6_1
    ·rw [if_pos c3] at H
     have c3b0 : decide (0 ≤ x6_1) = true := decide_eq_true c3
     clear c3
     by_cases c4 : x6_1 < (a0.size : Int)
     ·rw [if_pos c4] at H
      have c4b0 : decide (x6_1 < (a0.size : Int)) = true := decide_eq_true c4
      clear c4
      replace H := Option.bind_eq_some_iff.mp H
      obtain ⟨t260, A60, H⟩ := H
      replace H : (if t260 < 0 then (some false) else (impl_WordOk.l0 k1 a0 (a0.size : Int) (wrap64 (x6_1 + 1)))) = some r := H
      have A6 := Aside0.mk A60
      clear A60
      by_cases c7 : t260 < 0
      ·rw [if_pos c7] at H
       have c7b0 : decide (t260 < 0) = true := decide_eq_true c7
       clear c7
       obtain rfl := Option.some.inj H
       have p5 : 0 ≤ (x6_1 : Int) := of_decide_eq_true za
       have q5 : x6_1 < (a0.size : Int) := of_decide_eq_true za
       have hx5 := bt_at a0 x6_1
       replace p5 := eq_true p5
       replace q5 := eq_true q5
       go_wp2_with (first | ((with_reducible refine gq 85 rfl ?_); refine gl (some 12) Try.func85 #[.string (⟨#[101, 116, 97, 111, 105, 110, 115, 114, 104, 108, 48, 49, 50, 51, 52, 53, 54, 55, 56, 57, 100, 99, 117, 109, 102, 112, 103, 119, 121, 98, 118, 107, 120, 106, 113, 122, 58, 47, 45]⟩ : ByteArray), .int .u8 (bt a0 x6_1)] ?_; (with_reducible refine (strings_IndexByte.calls (⟨#[101, 116, 97, 111, 105, 110, 115, 114, 104, 108, 48, 49, 50, 51, 52, 53, 54, 55, 56, 57, 100, 99, 117, 109, 102, 112, 103, 119, 121, 98, 118, 107, 120, 106, 113, 122, 58, 47, 45]⟩ : ByteArray) (bt a0 x6_1) t260 _ A6.out).mono ?_); rintro e w' ⟨rfl, ⟨nd, rfl⟩⟩; refine ⟨_, rfl, ?_⟩))
       go_ret
       exact ⟨zs, by repeat (first | exact Drawn0.refl _ | apply Drawn0.step)⟩
      ·rw [if_neg c7] at H
       have c7b0 : decide (t260 < 0) = false := decide_eq_false c7
       clear c7
       have H' := Aside0.mk H
       clear H
       have p5 : 0 ≤ (x6_1 : Int) := of_decide_eq_true za
       have q5 : x6_1 < (a0.size : Int) := of_decide_eq_true za
       have hx5 := bt_at a0 x6_1
       replace p5 := eq_true p5
       replace q5 := eq_true q5
       go_wp2_with (first | ((with_reducible refine gq 85 rfl ?_); refine gl (some 12) Try.func85 #[.string (⟨#[101, 116, 97, 111, 105, 110, 115, 114, 104, 108, 48, 49, 50, 51, 52, 53, 54, 55, 56, 57, 100, 99, 117, 109, 102, 112, 103, 119, 121, 98, 118, 107, 120, 106, 113, 122, 58, 47, 45]⟩ : ByteArray), .int .u8 (bt a0 x6_1)] ?_; (with_reducible refine (strings_IndexByte.calls (⟨#[101, 116, 97, 111, 105, 110, 115, 114, 104, 108, 48, 49, 50, 51, 52, 53, 54, 55, 56, 57, 100, 99, 117, 109, 102, 112, 103, 119, 121, 98, 118, 107, 120, 106, 113, 122, 58, 47, 45]⟩ : ByteArray) (bt a0 x6_1) t260 _ A6.out).mono ?_); rintro e w' ⟨rfl, ⟨nd, rfl⟩⟩; refine ⟨_, rfl, ?_⟩))
       go_roundg k1
       case measure => have := HK1.out; omega
       case rel => exact ⟨(wrap64 (x6_1 + 1)), zs, H', ⟨by have := HK1.out; omega⟩, by repeat (first | exact Drawn0.refl _ | apply Drawn0.step)⟩
     ·rw [if_neg c4] at H
      exact absurd H (by simp)
    ·rw [if_neg c3] at H
     exact absurd H (by simp)
   ·rw [if_neg c2] at H
    have c2b0 : decide (x6_1 < (a0.size : Int)) = false := decide_eq_false c2
    clear c2
    obtain rfl := Option.some.inj H
    go_wp2
    go_ret
    exact ⟨zs, by repeat (first | exact Drawn0.refl _ | apply Drawn0.step)⟩

/-! ### impl_FieldOk: function 55 -/
-- thin
def impl_FieldOk.f (k : Nat) (a0_0 : ByteArray) (a0_1 : ByteArray) (a0_2 : Bool) : Option (Bool) := (impl_WordOk.f k a0_0).bind fun t262 => (if t262 = true then ((impl_WordOk.f k a0_1).bind fun t263 => (if t263 = true then (some (a0_0.toList != ([] : List UInt8))) else (some false))) else (some false))
theorem impl_FieldOk.mono : ∀ a0 a1 a2 k, LeO (impl_FieldOk.f k a0 a1 a2) (impl_FieldOk.f (k + 1) a0 a1 a2) := by
 intro a0 a1 a2 k
 unfold impl_FieldOk.f
 repeat' first
   | (with_reducible exact impl_WordOk.mono _ _)
   | (with_reducible exact LeO.refl _)
   | (with_reducible exact LeO.none _)
   | (with_reducible refine LeO.ite ?_ ?_)
   | (with_reducible refine LeO.bind ?_ (fun _ => ?_))
   | exact impl_WordOk.mono _ _
   | exact LeO.none _
   | refine LeO.ite ?_ ?_
   | refine LeO.bind ?_ (fun _ => ?_)
set_option maxHeartbeats 8000000 in
set_option maxRecDepth 100000 in
theorem impl_FieldOk.calls (k : Nat) (a0_0 : ByteArray) (a0_1 : ByteArray) (a0_2 : Bool) (r : Bool) (w : World) (h : impl_FieldOk.f k a0_0 a0_1 a0_2 = some r) :
  Calls Try.prog 55 #[.agg #[.string a0_0, .string a0_1, .bool a0_2]] w fun e w' => e = .returned (.bool r) ∧ Below w.heap.size w w' := by
 have hu36 := Try.underlying36
 have HB := Aside0.mk (Below.refl w.heap.size w)
 have H : ((impl_WordOk.f k a0_0).bind fun t262 => (if t262 = true then ((impl_WordOk.f k a0_1).bind fun t263 => (if t263 = true then (some (a0_0.toList != ([] : List UInt8))) else (some false))) else (some false))) = some r := h
 clear h
 replace H := Option.bind_eq_some_iff.mp H
 obtain ⟨t262, A20, H⟩ := H
 replace H : (if t262 = true then ((impl_WordOk.f k a0_1).bind fun t263 => (if t263 = true then (some (a0_0.toList != ([] : List UInt8))) else (some false))) else (some false)) = some r := H
 have A2 := Aside0.mk A20
 clear A20
 by_cases c3 : t262 = true
 ·subst c3
  have H1 : ((impl_WordOk.f k a0_1).bind fun t263 => (if t263 = true then (some (a0_0.toList != ([] : List UInt8))) else (some false))) = some r := by rw [if_pos rfl] at H; exact H
  clear H
  have H := H1
  clear H1
  replace H := Option.bind_eq_some_iff.mp H
  obtain ⟨t263, A40, H⟩ := H
  replace H : (if t263 = true then (some (a0_0.toList != ([] : List UInt8))) else (some false)) = some r := H
  have A4 := Aside0.mk A40
  clear A40
  by_cases c5 : t263 = true
  ·subst c5
   have H1 : (some (a0_0.toList != ([] : List UInt8))) = some r := by rw [if_pos rfl] at H; exact H
   clear H
   have H := H1
   clear H1
   obtain rfl := Option.some.inj H
   go_enter Try.func55, Try.ntmps55
   go_wp2_with (first | ((with_reducible refine gd 1 rfl ?_); refine bx (N := 1) (cs := #[.string a0_0, .string a0_1, .bool a0_2]) (t := 36) ?_; intro gb261 hg w6 hbox hb; have BK261 := Aside0.mk (hbox); have GW261 := Aside0.mk ((by rw [hg]; exact (below_size (zb HB)) : w.heap.size ≤ gb261)); have GE261 := Aside0.mk ((by rw [hg]; exact (below_size (zb HB)) : w.heap.size ≤ gb261)); replace HB := Aside0.mk (below_step (zb HB) hb); clear hb hbox hg; have hcz7_0 : w6.cell? ⟨gb261, 0, none⟩ = some (.string a0_0) := (blk_cell BK261.out 0).trans rfl; have hcz7_1 : w6.cell? ⟨gb261, 1, none⟩ = some (.string a0_1) := (blk_cell BK261.out 1).trans rfl; have hcz7_2 : w6.cell? ⟨gb261, 2, none⟩ = some (.bool a0_2) := (blk_cell BK261.out 2).trans rfl; have hfz7_0 := blk_frozen BK261.out 0; have hfz7_1 := blk_frozen BK261.out 1; have hfz7_2 := blk_frozen BK261.out 2) | ((with_reducible refine gq 72 rfl ?_); refine gl (some 5) Try.func72 #[.string a0_0] ?_; (with_reducible refine (impl_WordOk.calls k a0_0 true _ A2.out).mono ?_); rintro e w' ⟨rfl, ⟨nd, rfl⟩⟩; refine ⟨_, rfl, ?_⟩) | (go_at_call 72; (with_reducible refine (impl_WordOk.calls k a0_1 true _ A4.out).mono ?_); rintro e w' ⟨rfl, ⟨nd, rfl⟩⟩))
   go_ret
   exact ⟨ze, zb HB⟩
  ·replace c5 := Bool.eq_false_iff.mpr c5
   subst c5
   have H1 : (some false) = some r := by rw [if_neg (show ¬ (false = true) by decide)] at H; exact H
   clear H
   have H := H1
   clear H1
   obtain rfl := Option.some.inj H
   go_enter Try.func55, Try.ntmps55
   go_wp2_with (first | ((with_reducible refine gd 1 rfl ?_); refine bx (N := 1) (cs := #[.string a0_0, .string a0_1, .bool a0_2]) (t := 36) ?_; intro gb261 hg w8 hbox hb; have BK261 := Aside0.mk (hbox); have GW261 := Aside0.mk ((by rw [hg]; exact (below_size (zb HB)) : w.heap.size ≤ gb261)); have GE261 := Aside0.mk ((by rw [hg]; exact (below_size (zb HB)) : w.heap.size ≤ gb261)); replace HB := Aside0.mk (below_step (zb HB) hb); clear hb hbox hg; have hcz9_0 : w8.cell? ⟨gb261, 0, none⟩ = some (.string a0_0) := (blk_cell BK261.out 0).trans rfl; have hcz9_1 : w8.cell? ⟨gb261, 1, none⟩ = some (.string a0_1) := (blk_cell BK261.out 1).trans rfl; have hcz9_2 : w8.cell? ⟨gb261, 2, none⟩ = some (.bool a0_2) := (blk_cell BK261.out 2).trans rfl; have hfz9_0 := blk_frozen BK261.out 0; have hfz9_1 := blk_frozen BK261.out 1; have hfz9_2 := blk_frozen BK261.out 2) | ((with_reducible refine gq 72 rfl ?_); refine gl (some 5) Try.func72 #[.string a0_0] ?_; (with_reducible refine (impl_WordOk.calls k a0_0 true _ A2.out).mono ?_); rintro e w' ⟨rfl, ⟨nd, rfl⟩⟩; refine ⟨_, rfl, ?_⟩) | (go_at_call 72; (with_reducible refine (impl_WordOk.calls k a0_1 false _ A4.out).mono ?_); rintro e w' ⟨rfl, ⟨nd, rfl⟩⟩))
   go_ret
   exact ⟨ze, zb HB⟩
 ·replace c3 := Bool.eq_false_iff.mpr c3
  subst c3
  have H1 : (some false) = some r := by rw [if_neg (show ¬ (false = true) by decide)] at H; exact H
  clear H
  have H := H1
  clear H1
  obtain rfl := Option.some.inj H
  go_enter Try.func55, Try.ntmps55
  go_wp2_with (first | ((with_reducible refine gd 1 rfl ?_); refine bx (N := 1) (cs := #[.string a0_0, .string a0_1, .bool a0_2]) (t := 36) ?_; intro gb261 hg w10 hbox hb; have BK261 := Aside0.mk (hbox); have GW261 := Aside0.mk ((by rw [hg]; exact (below_size (zb HB)) : w.heap.size ≤ gb261)); have GE261 := Aside0.mk ((by rw [hg]; exact (below_size (zb HB)) : w.heap.size ≤ gb261)); replace HB := Aside0.mk (below_step (zb HB) hb); clear hb hbox hg; have hcz11_0 : w10.cell? ⟨gb261, 0, none⟩ = some (.string a0_0) := (blk_cell BK261.out 0).trans rfl; have hcz11_1 : w10.cell? ⟨gb261, 1, none⟩ = some (.string a0_1) := (blk_cell BK261.out 1).trans rfl; have hcz11_2 : w10.cell? ⟨gb261, 2, none⟩ = some (.bool a0_2) := (blk_cell BK261.out 2).trans rfl; have hfz11_0 := blk_frozen BK261.out 0; have hfz11_1 := blk_frozen BK261.out 1; have hfz11_2 := blk_frozen BK261.out 2) | ((with_reducible refine gq 72 rfl ?_); refine gl (some 5) Try.func72 #[.string a0_0] ?_; (with_reducible refine (impl_WordOk.calls k a0_0 false _ A2.out).mono ?_); rintro e w' ⟨rfl, ⟨nd, rfl⟩⟩; refine ⟨_, rfl, ?_⟩))
  go_ret
  exact ⟨ze, zb HB⟩

/-! ### impl_TableOk_1: function 54 -/
-- thin
def impl_TableOk_1.f (k : Nat) (a0_0 : ByteArray) (a0_1 : ByteArray) (a0_2 : Bool) : Option (Bool) := (impl_FieldOk.f k a0_0 a0_1 a0_2).bind fun t265 => (if t265 = true then (some a0_2) else (some true))
theorem impl_TableOk_1.mono : ∀ a0 a1 a2 k, LeO (impl_TableOk_1.f k a0 a1 a2) (impl_TableOk_1.f (k + 1) a0 a1 a2) := by
 intro a0 a1 a2 k
 unfold impl_TableOk_1.f
 repeat' first
   | (with_reducible exact impl_FieldOk.mono _ _ _ _)
   | (with_reducible exact LeO.refl _)
   | (with_reducible exact LeO.none _)
   | (with_reducible refine LeO.ite ?_ ?_)
   | (with_reducible refine LeO.bind ?_ (fun _ => ?_))
   | exact impl_FieldOk.mono _ _ _ _
   | exact LeO.none _
   | refine LeO.ite ?_ ?_
   | refine LeO.bind ?_ (fun _ => ?_)
set_option maxHeartbeats 8000000 in
set_option maxRecDepth 100000 in
theorem impl_TableOk_1.calls (k : Nat) (a0_0 : ByteArray) (a0_1 : ByteArray) (a0_2 : Bool) (r : Bool) (w : World) (h : impl_TableOk_1.f k a0_0 a0_1 a0_2 = some r) :
  Calls Try.prog 54 #[.agg #[.string a0_0, .string a0_1, .bool a0_2]] w fun e w' => e = .returned (.bool r) ∧ Below w.heap.size w w' := by
 have hu36 := Try.underlying36
 have HB := Aside0.mk (Below.refl w.heap.size w)
 have H : ((impl_FieldOk.f k a0_0 a0_1 a0_2).bind fun t265 => (if t265 = true then (some a0_2) else (some true))) = some r := h
 clear h
 replace H := Option.bind_eq_some_iff.mp H
 obtain ⟨t265, A20, H⟩ := H
 replace H : (if t265 = true then (some a0_2) else (some true)) = some r := H
 have A2 := Aside0.mk A20
 clear A20
 by_cases c3 : t265 = true
 ·subst c3
  have H1 : (some a0_2) = some r := by rw [if_pos rfl] at H; exact H
  clear H
  have H := H1
  clear H1
  obtain rfl := Option.some.inj H
  go_enter Try.func54, Try.ntmps54
  go_wp2_with (first | ((with_reducible refine gd 1 rfl ?_); refine bx (N := 1) (cs := #[.string a0_0, .string a0_1, .bool a0_2]) (t := 36) ?_; intro gb264 hg w4 hbox hb; have BK264 := Aside0.mk (hbox); have GW264 := Aside0.mk ((by rw [hg]; exact (below_size (zb HB)) : w.heap.size ≤ gb264)); have GE264 := Aside0.mk ((by rw [hg]; exact (below_size (zb HB)) : w.heap.size ≤ gb264)); replace HB := Aside0.mk (below_step (zb HB) hb); clear hb hbox hg; have hcz5_0 : w4.cell? ⟨gb264, 0, none⟩ = some (.string a0_0) := (blk_cell BK264.out 0).trans rfl; have hcz5_1 : w4.cell? ⟨gb264, 1, none⟩ = some (.string a0_1) := (blk_cell BK264.out 1).trans rfl; have hcz5_2 : w4.cell? ⟨gb264, 2, none⟩ = some (.bool a0_2) := (blk_cell BK264.out 2).trans rfl; have hfz5_0 := blk_frozen BK264.out 0; have hfz5_1 := blk_frozen BK264.out 1; have hfz5_2 := blk_frozen BK264.out 2) | ((with_reducible refine gq 55 rfl ?_); refine gl (some 4) Try.func55 #[.agg #[.string a0_0, .string a0_1, .bool a0_2]] ?_; (with_reducible refine (impl_FieldOk.calls k a0_0 a0_1 a0_2 true _ A2.out).mono ?_); rintro e w6 ⟨rfl, hb⟩; refine ⟨_, rfl, ?_⟩; replace BK264 := Aside0.mk (blk_below (g := gb264) (o := .cells #[.string a0_0, .string a0_1, .bool a0_2] 36 (0, 0)) (zk BK264) hb); replace HB := Aside0.mk (below_step (zb HB) hb); (try clear hb); have hcz7_0 : w6.cell? ⟨gb264, 0, none⟩ = some (.string a0_0) := (blk_cell BK264.out 0).trans rfl; have hcz7_1 : w6.cell? ⟨gb264, 1, none⟩ = some (.string a0_1) := (blk_cell BK264.out 1).trans rfl; have hcz7_2 : w6.cell? ⟨gb264, 2, none⟩ = some (.bool a0_2) := (blk_cell BK264.out 2).trans rfl; have hfz7_0 := blk_frozen BK264.out 0; have hfz7_1 := blk_frozen BK264.out 1; have hfz7_2 := blk_frozen BK264.out 2))
  go_ret
  exact ⟨ze, zb HB⟩
 ·replace c3 := Bool.eq_false_iff.mpr c3
  subst c3
  have H1 : (some true) = some r := by rw [if_neg (show ¬ (false = true) by decide)] at H; exact H
  clear H
  have H := H1
  clear H1
  obtain rfl := Option.some.inj H
  go_enter Try.func54, Try.ntmps54
  go_wp2_with (first | ((with_reducible refine gd 1 rfl ?_); refine bx (N := 1) (cs := #[.string a0_0, .string a0_1, .bool a0_2]) (t := 36) ?_; intro gb264 hg w8 hbox hb; have BK264 := Aside0.mk (hbox); have GW264 := Aside0.mk ((by rw [hg]; exact (below_size (zb HB)) : w.heap.size ≤ gb264)); have GE264 := Aside0.mk ((by rw [hg]; exact (below_size (zb HB)) : w.heap.size ≤ gb264)); replace HB := Aside0.mk (below_step (zb HB) hb); clear hb hbox hg; have hcz9_0 : w8.cell? ⟨gb264, 0, none⟩ = some (.string a0_0) := (blk_cell BK264.out 0).trans rfl; have hcz9_1 : w8.cell? ⟨gb264, 1, none⟩ = some (.string a0_1) := (blk_cell BK264.out 1).trans rfl; have hcz9_2 : w8.cell? ⟨gb264, 2, none⟩ = some (.bool a0_2) := (blk_cell BK264.out 2).trans rfl; have hfz9_0 := blk_frozen BK264.out 0; have hfz9_1 := blk_frozen BK264.out 1; have hfz9_2 := blk_frozen BK264.out 2) | ((with_reducible refine gq 55 rfl ?_); refine gl (some 4) Try.func55 #[.agg #[.string a0_0, .string a0_1, .bool a0_2]] ?_; (with_reducible refine (impl_FieldOk.calls k a0_0 a0_1 a0_2 false _ A2.out).mono ?_); rintro e w10 ⟨rfl, hb⟩; refine ⟨_, rfl, ?_⟩; replace BK264 := Aside0.mk (blk_below (g := gb264) (o := .cells #[.string a0_0, .string a0_1, .bool a0_2] 36 (0, 0)) (zk BK264) hb); replace HB := Aside0.mk (below_step (zb HB) hb); (try clear hb)))
  go_ret
  exact ⟨ze, zb HB⟩

/-! ### IndexFunc_Field: function 71 -/
-- by hand
theorem load_list (P : Program) (W : World) (a : Addr) (cs : List Value) (k : Nat) (hk : cs.length = k) (h : ∀ j v, cs[j]? = some v → W.cell? (a.add j) = some v) :
    Sem.run P (loadCellsFrom a 0 k #[]) W = .ok cs.toArray W := by
  have := run_loadCells_list (P := P) (w := W) a cs h
  rw [hk] at this
  exact this
/-- The first place, from i on, at which p says yes; -1, if there is none. -/
def idxFrom (p : S36 → Option Bool) : List (S36) → Int → Option Int
  | [], _ => some (-1)
  | x :: l, i => (p x).bind fun b => if b then some i else idxFrom p l (i + 1)
/-- What a predicate's value does when it is called. -/
def PredIs (P : Program) (g : Nat) (lb : Array Value) (p : S36 → Option Bool) (w : World) : Prop :=
  ∀ (W : World) (x : S36) (b : Bool), Below w.heap.size w W → p x = some b → Calls P g (#[.agg #[.string x.f0, .string x.f1, .bool x.f2]] ++ lb) W fun e w' => e = .returned (.bool b) ∧ Below w.heap.size w w'
set_option maxHeartbeats 4000000 in
set_option maxRecDepth 100000 in
theorem IndexFunc_calls (g : Nat) (lb : Array Value) (p : S36 → Option Bool) (eg : ∀ args w, (callFunc g args).run Try.prog w = .ok (.enter g args) w) (A0 : Option Addr) (c0 : Nat) (l0 : List (S36)) (r : Int) (w : World) (hr0 : Kd.C k36 w A0 l0.length l0) (hc0 : l0.length ≤ c0)
    (hp : PredIs Try.prog g lb p w) (h : idxFrom p l0 0 = some r) (hl : l0.length ≤ 1000000000) :
    Calls Try.prog 71 #[.slice A0 l0.length c0, .func (.func g) #[] lb] w fun e w' => e = .returned (.int .i64 r) ∧ Below w.heap.size w w' := by
  have HR0 := Aside0.mk hr0
  have HP := Aside0.mk hp
  have H := Aside0.mk h
  clear hr0 hp h
  go_enter Try.func71, Try.ntmps71
  go_wp2
  go_loopg [5, 8] (l0.length) (fun kq v5 v8 w' => ∃ i : Nat, v8 = .int .i64 i ∧ Aside0 (kq + i = l0.length) ∧ Aside0 (idxFrom p (l0.drop i) i = some r) ∧ Aside0 (Below w.heap.size w w'))
  case atStart => exact ⟨0, rfl, ⟨by omega⟩, ⟨by simpa using H.out⟩, ⟨Below.refl _ _⟩⟩
  case round =>
    obtain ⟨i, rfl, HK, HX, HB⟩ := hrel
    have hk := HK.out
    by_cases hj : i < l0.length
    · have h0 : (0 : Int) ≤ (i : Int) := by omega
      have h1 : (i : Int) < (l0.length : Int) := by omega
      obtain ⟨x, hx⟩ : ∃ x, l0[i]? = some x := ⟨_, List.getElem?_eq_getElem hj⟩
      have hdrop : l0.drop i = x :: l0.drop (i + 1) := by
        rw [List.drop_eq_getElem_cons hj]
        rw [List.getElem?_eq_getElem hj] at hx
        rw [Option.some.inj hx]
      obtain ⟨_, _, hrd⟩ := Kd.C_below HR0.out HB.out
      obtain ⟨ad, e1, hcell⟩ := hrd (by omega)
      obtain ⟨c, hc1, hc2, hc3⟩ := hcell i x hx
      have hc4 := k36_open hc2
      subst hc4
      subst e1
      have q0 : wr.cell? (ad.add (i * 3)) = some (.string x.f0) := by have h9 := hc3 0 _ rfl; exact h9
      have q1 : wr.cell? ⟨(ad.add (i * 3)).block, (ad.add (i * 3)).off + 1, none⟩ = some (.string x.f1) := by have h9 := hc3 1 _ rfl; rw [← Go.Addr.add_add] at h9; exact h9
      have q2 : wr.cell? ⟨(ad.add (i * 3)).block, (ad.add (i * 3)).off + 2, none⟩ = some (.bool x.f2) := by have h9 := hc3 2 _ rfl; rw [← Go.Addr.add_add] at h9; exact h9
      have hX := HX.out
      rw [hdrop, idxFrom] at hX
      obtain ⟨b, hb1, hb2⟩ := Option.bind_eq_some_iff.1 hX
      have hcall := HP.out wr x b HB.out hb1
      have HX2 := Aside0.mk hb2
      cases gk with
      | zero => omega
      | succ k1 =>
      clear hk hX hb2 hrd hcell hc1 hc2 hc3 hdrop
      cases b with
      | true =>
        go_wp2_with (go_at_fn g; refine hcall.mono ?_; rintro e w' ⟨rfl, hb'⟩)
        go_ret
        have h9 : some (i : Int) = some r := by simpa using HX2.out
        exact ⟨by rw [← Option.some.inj h9]; rfl, hb'⟩
      | false =>
        go_wp2_with (go_at_fn g; refine hcall.mono ?_; rintro e w' ⟨rfl, hb'⟩)
        go_roundg k1
        case measure => have := HK.out; omega
        case rel =>
          refine ⟨i + 1, by go_num, ⟨by have := HK.out; omega⟩, ⟨?_⟩, ⟨hb'⟩⟩
          have h9 := HX2.out
          rw [if_neg (by decide)] at h9
          rw [show ((i + 1 : Nat) : Int) = (i : Int) + 1 by omega]
          exact h9
    · have e : i = l0.length := by omega
      have hltz : ¬ (i : Int) < (l0.length : Int) := by omega
      clear hk hj
      have HE := Aside0.mk e
      clear e
      go_wp2
      go_ret
      have e := HE.out
      subst e
      have hX := HX.out
      rw [List.drop_length, idxFrom] at hX
      exact ⟨by rw [← Option.some.inj hX]; rfl, HB.out⟩

/-! ### impl_HeadOk_1: function 81 -/
-- thin
def impl_HeadOk_1.f (k : Nat) (a0_0 : ByteArray) (a0_1 : ByteArray) (a0_2 : Bool) : Option (Bool) := (impl_FieldOk.f k a0_0 a0_1 a0_2).bind fun t267 => (some (!t267))
theorem impl_HeadOk_1.mono : ∀ a0 a1 a2 k, LeO (impl_HeadOk_1.f k a0 a1 a2) (impl_HeadOk_1.f (k + 1) a0 a1 a2) := by
 intro a0 a1 a2 k
 unfold impl_HeadOk_1.f
 repeat' first
   | (with_reducible exact impl_FieldOk.mono _ _ _ _)
   | (with_reducible exact LeO.refl _)
   | (with_reducible exact LeO.none _)
   | (with_reducible refine LeO.ite ?_ ?_)
   | (with_reducible refine LeO.bind ?_ (fun _ => ?_))
   | exact impl_FieldOk.mono _ _ _ _
   | exact LeO.none _
   | refine LeO.ite ?_ ?_
   | refine LeO.bind ?_ (fun _ => ?_)
set_option maxHeartbeats 8000000 in
set_option maxRecDepth 100000 in
theorem impl_HeadOk_1.calls (k : Nat) (a0_0 : ByteArray) (a0_1 : ByteArray) (a0_2 : Bool) (r : Bool) (w : World) (h : impl_HeadOk_1.f k a0_0 a0_1 a0_2 = some r) :
  Calls Try.prog 81 #[.agg #[.string a0_0, .string a0_1, .bool a0_2]] w fun e w' => e = .returned (.bool r) ∧ Below w.heap.size w w' := by
 have hu36 := Try.underlying36
 have HB := Aside0.mk (Below.refl w.heap.size w)
 have H : ((impl_FieldOk.f k a0_0 a0_1 a0_2).bind fun t267 => (some (!t267))) = some r := h
 clear h
 replace H := Option.bind_eq_some_iff.mp H
 obtain ⟨t267, A20, H⟩ := H
 replace H : (some (!t267)) = some r := H
 have A2 := Aside0.mk A20
 clear A20
 obtain rfl := Option.some.inj H
 go_enter Try.func81, Try.ntmps81
 go_wp2_with (first | ((with_reducible refine gd 1 rfl ?_); refine bx (N := 1) (cs := #[.string a0_0, .string a0_1, .bool a0_2]) (t := 36) ?_; intro gb266 hg w3 hbox hb; have BK266 := Aside0.mk (hbox); have GW266 := Aside0.mk ((by rw [hg]; exact (below_size (zb HB)) : w.heap.size ≤ gb266)); have GE266 := Aside0.mk ((by rw [hg]; exact (below_size (zb HB)) : w.heap.size ≤ gb266)); replace HB := Aside0.mk (below_step (zb HB) hb); clear hb hbox hg; have hcz4_0 : w3.cell? ⟨gb266, 0, none⟩ = some (.string a0_0) := (blk_cell BK266.out 0).trans rfl; have hcz4_1 : w3.cell? ⟨gb266, 1, none⟩ = some (.string a0_1) := (blk_cell BK266.out 1).trans rfl; have hcz4_2 : w3.cell? ⟨gb266, 2, none⟩ = some (.bool a0_2) := (blk_cell BK266.out 2).trans rfl; have hfz4_0 := blk_frozen BK266.out 0; have hfz4_1 := blk_frozen BK266.out 1; have hfz4_2 := blk_frozen BK266.out 2) | ((with_reducible refine gq 55 rfl ?_); refine gl (some 4) Try.func55 #[.agg #[.string a0_0, .string a0_1, .bool a0_2]] ?_; (with_reducible refine (impl_FieldOk.calls k a0_0 a0_1 a0_2 t267 _ A2.out).mono ?_); rintro e w5 ⟨rfl, hb⟩; refine ⟨_, rfl, ?_⟩; replace BK266 := Aside0.mk (blk_below (g := gb266) (o := .cells #[.string a0_0, .string a0_1, .bool a0_2] 36 (0, 0)) (zk BK266) hb); replace HB := Aside0.mk (below_step (zb HB) hb); (try clear hb)))
 go_ret
 exact ⟨ze, zb HB⟩

end Go.Proofs.Ytdhahifdcoinhaa.PFnAddFind
