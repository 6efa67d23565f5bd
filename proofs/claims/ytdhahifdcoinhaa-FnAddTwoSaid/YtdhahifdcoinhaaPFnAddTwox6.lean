-- WRITTEN BY a turned print (wip/tools of the prover's repo)
import Derived.Test.YtdhahifdcoinhaaPFnAddTwox0
import Derived.Test.YtdhahifdcoinhaaPFnAddTwox2
import Derived.Test.YtdhahifdcoinhaaPFnAddTwox3
import Derived.Test.YtdhahifdcoinhaaPFnAddTwox4
import Derived.Test.YtdhahifdcoinhaaPFnAddTwox5
namespace Go.Proofs.Ytdhahifdcoinhaa.PFnAddTwo
open Go.RowKit Go.Proofs.YtdhahifdcoinhaaW.PrintWords Go.Proofs.YtdhahifdcoinhaaW.PrintLast Go.Proofs.YtdhahifdcoinhaaW.PrintMore Go.Proofs.Ytdhahifdcoinhaa.Lm
attribute [local go_sem] max2_int min2_int max_two min_two max_three min_three max_four min_four   -- for this text's walks alone
set_option linter.unusedVariables false
set_option linter.unusedSimpArgs false

/-! ### spec_l71Table: function 46 -/
-- thin
def spec_l71Table.l0 : Nat → Int → List Int → Int → List (S36) → Int → Option ((List (S36)) × Int × Int)
 | 0, _, _, _, _, _ => none
 | k + 1, x4, x1000, x1001, x223000, x223001 => if x4 > 0 then ((spec_l71Field.f k x1000 x1001).bind fun bt225 => ((spec_FieldOk.f k bt225.1 bt225.2.1 bt225.2.2.1).bind fun t230 => (if t230 = true then ((spec_l3Add.f k x223000 x223001 bt225.1 bt225.2.1 bt225.2.2.1).bind fun bt231 => (spec_l71Table.l0 k (wrap64 (x4 - 1)) x1000 bt225.2.2.2 bt231.1 bt231.2)) else (spec_l71Table.l0 k (wrap64 (x4 - 1)) x1000 bt225.2.2.2 x223000 x223001)))) else ((spec_l6Rd_pick.f k x1000 x1001 24).bind fun bt235 => (if bt235.1 = 0 then ((some (([(-1), 65, 3] : List Int) : List Int)).bind fun y237 => ((spec_l6Rd_pick.f k x1000 bt235.2 3).bind fun bt240 => (if 0 ≤ bt240.1 then (if bt240.1 < (y237.length : Int) then (some (x223000, rd y237 bt240.1, bt240.2)) else (none)) else (none)))) else (if bt235.1 = 1 then ((spec_l71Field.f k x1000 bt235.2).bind fun bt243 => ((spec_l71Field.f k x1000 bt243.2.2.2).bind fun bt247 => ((spec_l71Field.f k x1000 bt247.2.2.2).bind fun bt251 => ((some (([(⟨bt243.1, bt243.2.1, bt243.2.2.1⟩ : S36), (⟨bt247.1, bt247.2.1, bt247.2.2.1⟩ : S36), (⟨bt251.1, bt251.2.1, bt251.2.2.1⟩ : S36)] : List (S36)) : List (S36))).bind fun y255 => (if x223000.length + y255.length < 3518437208883 then (some ((x223000 ++ y255), x223001, bt251.2.2.2)) else (none)))))) else (some (x223000, x223001, bt235.2)))))
def spec_l71Table.f (k : Nat) (s0_0 : List Int) (s0_1 : Int) : Option ((List (S36)) × Int × Int) := (some (([64, 64, 40, 20, 0] : List Int) : List Int)).bind fun y216 => ((spec_l6Rd_pick.f k s0_0 s0_1 5).bind fun bt219 => (if 0 ≤ bt219.1 then (if bt219.1 < (y216.length : Int) then ((spec_l6Rd_pick.f k s0_0 bt219.2 7).bind fun bt223 => (spec_l71Table.l0 k bt223.1 s0_0 bt223.2 (([] : List (S36))) (rd y216 bt219.1))) else (none)) else (none)))
theorem spec_l71Table.mono_l : ∀ k, (∀ y0 y1 y2 y3 y4, LeO (spec_l71Table.l0 k y0 y1 y2 y3 y4) (spec_l71Table.l0 (k + 1) y0 y1 y2 y3 y4))
 | 0 => fun _ _ _ _ _ r h => by simp [spec_l71Table.l0] at h
 | k + 1 => by
  have ih0 := spec_l71Table.mono_l k
  ·intro y0 y1 y2 y3 y4
   unfold spec_l71Table.l0
   repeat' first
   | (with_reducible exact ih0 _ _ _ _ _)
   | (with_reducible exact spec_FieldOk.mono _ _ _ _)
   | (with_reducible exact spec_l3Add.mono _ _ _ _ _ _)
   | (with_reducible exact spec_l6Rd_pick.mono _ _ _ _)
   | (with_reducible exact spec_l71Field.mono _ _ _)
   | (with_reducible exact LeO.refl _)
   | (with_reducible exact LeO.none _)
   | (with_reducible refine LeO.ite ?_ ?_)
   | (with_reducible refine LeO.bind ?_ (fun _ => ?_))
   | exact ih0 _ _ _ _ _
   | exact spec_FieldOk.mono _ _ _ _
   | exact spec_l3Add.mono _ _ _ _ _ _
   | exact spec_l6Rd_pick.mono _ _ _ _
   | exact spec_l71Field.mono _ _ _
   | exact LeO.none _
   | refine LeO.ite ?_ ?_
   | refine LeO.bind ?_ (fun _ => ?_)
theorem spec_l71Table.mono : ∀ a0 a1 k, LeO (spec_l71Table.f k a0 a1) (spec_l71Table.f (k + 1) a0 a1) := by
 intro a0 a1 k
 have ih0 := spec_l71Table.mono_l k
 unfold spec_l71Table.f
 repeat' first
   | (with_reducible exact ih0 _ _ _ _ _)
   | (with_reducible exact spec_FieldOk.mono _ _ _ _)
   | (with_reducible exact spec_l3Add.mono _ _ _ _ _ _)
   | (with_reducible exact spec_l6Rd_pick.mono _ _ _ _)
   | (with_reducible exact spec_l71Field.mono _ _ _)
   | (with_reducible exact LeO.refl _)
   | (with_reducible exact LeO.none _)
   | (with_reducible refine LeO.ite ?_ ?_)
   | (with_reducible refine LeO.bind ?_ (fun _ => ?_))
   | exact ih0 _ _ _ _ _
   | exact spec_FieldOk.mono _ _ _ _
   | exact spec_l3Add.mono _ _ _ _ _ _
   | exact spec_l6Rd_pick.mono _ _ _ _
   | exact spec_l71Field.mono _ _ _
   | exact LeO.none _
   | refine LeO.ite ?_ ?_
   | refine LeO.bind ?_ (fun _ => ?_)
def spec_l71Table.T12 : Bool × List (List Nat × List Nat) := (true, [([], []), ([0], [0]), ([], []), ([2], [2]), ([], []), ([4, 3], [4]), ([], []), ([6, 5], [6]), ([3, 5, 7], [3, 5, 7]), ([1, 8, 7], [1, 8]), ([0, 1, 2, 3, 4, 5, 6, 7, 8, 9], []), ([10, 9, 9, 0, 1, 2, 3, 4, 5, 6, 7, 8, 9], [9, 10])])
def spec_l71Table.B12 : List Nat := [0, 1, 0, 4, 0, 28, 0, 124, 252, 511, 1023, 2047]
theorem spec_l71Table.tab12 : rtab .any (opsOf Try.f46 12) = spec_l71Table.T12 := by kernel_rfl
theorem spec_l71Table.bits12 : waitsOk spec_l71Table.T12.2 spec_l71Table.B12 = true := by kernel_rfl
set_option maxHeartbeats 8000000 in
set_option maxRecDepth 100000 in
theorem spec_l71Table.calls (k : Nat) (g : Nat) (s0_0 : List Int) (s0_1 : Int) (r1 : List (S36)) (r2 : Int) (r3 : Int) (w0 w : World) (hI : IsS85 w0 w g s0_0 s0_1) (hB : Below w0.heap.size w0 w) (h : spec_l71Table.f k s0_0 s0_1 = some (r1, r2, r3)) :
  Calls Try.prog 46 #[.pointer (some ⟨g, 0, none⟩)] w fun e w' => ∃ v0_ : Value, e = .returned (.agg #[v0_, .int .i64 r2]) ∧ Kd.R k36 36 w' w.heap.size (fun _ => True) v0_ r1 ∧ IsS85 w0 w' g s0_0 r3 ∧ Below w0.heap.size w0 w' ∧ KeepBut w w' g none := by
 have hu25 := Try.underlying25
 have hu36 := Try.underlying36
 have HI0 := Aside0.mk hI
 have HK := Aside0.mk (KeepBut.refl w g none)
 have HL := Aside0.mk hB.size
 clear hI
 have HW0 := Aside0.mk hB.size
 have HB := Aside0.mk hB
 clear hB
 have H : ((some (([64, 64, 40, 20, 0] : List Int) : List Int)).bind fun y216 => ((spec_l6Rd_pick.f k s0_0 s0_1 5).bind fun bt219 => (if 0 ≤ bt219.1 then (if bt219.1 < (y216.length : Int) then ((spec_l6Rd_pick.f k s0_0 bt219.2 7).bind fun bt223 => (spec_l71Table.l0 k bt223.1 s0_0 bt223.2 (([] : List (S36))) (rd y216 bt219.1))) else (none)) else (none)))) = some (r1, r2, r3) := h
 clear h
 obtain ⟨y213, hy213⟩ : ∃ y_ : List (S36), y_ = (([] : List (S36))) := ⟨_, rfl⟩
 replace H : ((some (([64, 64, 40, 20, 0] : List Int) : List Int)).bind fun y216 => ((spec_l6Rd_pick.f k s0_0 s0_1 5).bind fun bt219 => (if 0 ≤ bt219.1 then (if bt219.1 < (y216.length : Int) then ((spec_l6Rd_pick.f k s0_0 bt219.2 7).bind fun bt223 => (spec_l71Table.l0 k bt223.1 s0_0 bt223.2 y213 (rd y216 bt219.1))) else (none)) else (none)))) = some (r1, r2, r3) := by first | (rw [hy213]; with_reducible exact H) | (have H2_ := (Option.bind_some _ _).symm.trans H; rw [hy213]; with_reducible exact H2_) | (have H2_ := (Option.bind_some _ _).symm.trans H; with_reducible exact H2_) | with_reducible exact H | (rw [hy213]; exact H) | exact H
 have Ny213 := Aside0.mk hy213
 clear hy213
 obtain ⟨y216, hy216⟩ : ∃ y_ : List Int, y_ = (([64, 64, 40, 20, 0] : List Int)) := ⟨_, rfl⟩
 replace H : ((spec_l6Rd_pick.f k s0_0 s0_1 5).bind fun bt219 => (if 0 ≤ bt219.1 then (if bt219.1 < (y216.length : Int) then ((spec_l6Rd_pick.f k s0_0 bt219.2 7).bind fun bt223 => (spec_l71Table.l0 k bt223.1 s0_0 bt223.2 y213 (rd y216 bt219.1))) else (none)) else (none))) = some (r1, r2, r3) := by first | (rw [hy216]; with_reducible exact H) | (have H2_ := (Option.bind_some _ _).symm.trans H; rw [hy216]; with_reducible exact H2_) | (have H2_ := (Option.bind_some _ _).symm.trans H; with_reducible exact H2_) | with_reducible exact H | (rw [hy216]; exact H) | exact H
 have Ny216 := Aside0.mk hy216
 clear hy216
 replace H := Option.bind_eq_some_iff.mp H
 obtain ⟨⟨t219, t220⟩, A20, H⟩ := H
 replace H : (if 0 ≤ t219 then (if t219 < (y216.length : Int) then ((spec_l6Rd_pick.f k s0_0 t220 7).bind fun bt223 => (spec_l71Table.l0 k bt223.1 s0_0 bt223.2 y213 (rd y216 t219))) else (none)) else (none)) = some (r1, r2, r3) := H
 have A2 := Aside0.mk A20
 clear A20
 by_cases c3 : 0 ≤ t219
 ·rw [if_pos c3] at H
  have c3b0 : decide (0 ≤ t219) = true := decide_eq_true c3
  clear c3
  by_cases c4 : t219 < (y216.length : Int)
  ·rw [if_pos c4] at H
   have c4b0 : decide (t219 < (y216.length : Int)) = true := decide_eq_true c4
   clear c4
   replace H := Option.bind_eq_some_iff.mp H
   obtain ⟨⟨t223, t224⟩, A50, H⟩ := H
   replace H : (spec_l71Table.l0 k t223 s0_0 t224 y213 (rd y216 t219)) = some (r1, r2, r3) := H
   have A5 := Aside0.mk A50
   clear A50
   have H' := Aside0.mk H
   clear H
   go_enter Try.func46, Try.ntmps46
   go_wp2_with (first | ((with_reducible refine gd 2 rfl ?_); refine bx (N := 2) (cs := #[.slice none 0 0, .int .i64 0]) (t := 25) ?_; intro gb212 hg w6 hbox hb; replace HB := Aside0.mk (below_step (zg85 HB) hb); have BK212 := Aside0.mk (hbox); have GW212 := Aside0.mk ((by rw [hg]; exact (keep_size (w := w) (g := g) (row := none) (zh HK)) : w.heap.size ≤ gb212)); have GE212 := Aside0.mk ((Nat.le_trans HW0.out (by rw [hg]; exact (keep_size (w := w) (g := g) (row := none) (zh HK)) : w.heap.size ≤ gb212) : w0.heap.size ≤ gb212)); replace HK := Aside0.mk (KeepBut.trans (zh HK) (KeepBut.of_below hb g none) (.inl rfl)); have NB0_212 := Aside0.mk ((by rw [hg]; exact Nat.ne_of_lt (IsS85.lt (show IsS85 w0 _ g s0_0 s0_1 from zi85 HI0)) : g ≠ gb212)); have NB212_0 := Aside0.mk ((by rw [hg]; exact Nat.ne_of_gt (IsS85.lt (show IsS85 w0 _ g s0_0 s0_1 from zi85 HI0)) : gb212 ≠ g)); replace HI0 := Aside0.mk (IsS85.below (zi85 HI0) hb); clear hb hbox hg) | ((with_reducible refine gd 6 rfl ?_); refine Kd.R_lit k36 _ 36 ?hg (N := 6) ?hd (xs := ([] : List (S36))) (inner := []) (ok := fun _ => True) (okp := fun _ => True) ?hr ?hp (fun _ hk => hk) trivial (Below.refl _ _) (Nat.le_refl _) (by simp) ?_; (case hd => rfl); (case hg => rfl); (case hr => first | (go_simp; done) | (go_simp; rfl)); (case hp => exact (Reps.none _ _)); intro v214 w7 ho8 hb hg_ hnew_; clear hg_ hnew_; (first | rw [← Ny213.out] at ho8 | (simp only [Int.reduceToNat] at ho8; rw [← Ny213.out] at ho8)); have HO215 := Aside0.mk (Kd.R_lower ho8 (keep_size (w := w) (g := g) (row := none) (zh HK))); replace HI0 := Aside0.mk (IsS85.below (zi85 HI0) hb); replace BK212 := Aside0.mk (blk_below (g := gb212) (o := .cells #[.slice none 0 0, .int .i64 0] 25 (0, 0)) (zk BK212) hb); replace HK := Aside0.mk (KeepBut.trans (zh HK) (KeepBut.of_below hb g none) (.inl rfl)); replace HB := Aside0.mk (below_step (zg85 HB) hb); clear hb ho8) | ((with_reducible refine gd 7 rfl ?_); refine Kd.R_lit (Kd.int .i64) _ 3 ?hg (N := 7) ?hd (xs := ([64, 64, 40, 20, 0] : List Int)) (inner := [.int .i64 64, .int .i64 64, .int .i64 40, .int .i64 20, .int .i64 0]) (ok := fun _ => True) (okp := fun _ => True) ?hr ?hp (fun _ hk => hk) trivial (Below.refl _ _) (Nat.le_refl _) (by simp) ?_; (case hd => rfl); (case hg => rfl); (case hr => first | (go_simp; done) | (go_simp; rfl)); (case hp => exact (Reps.one (show Kd.M (Kd.int .i64) _ _ _ 64 [.int .i64 64] from rfl) (Reps.one (show Kd.M (Kd.int .i64) _ _ _ 64 [.int .i64 64] from rfl) (Reps.one (show Kd.M (Kd.int .i64) _ _ _ 40 [.int .i64 40] from rfl) (Reps.one (show Kd.M (Kd.int .i64) _ _ _ 20 [.int .i64 20] from rfl) (Reps.one (show Kd.M (Kd.int .i64) _ _ _ 0 [.int .i64 0] from rfl) (Reps.none _ _))))))); intro v217 w9 ho10 hb hg_ hnew_; clear hg_ hnew_; (first | rw [← Ny216.out] at ho10 | (simp only [Int.reduceToNat] at ho10; rw [← Ny216.out] at ho10)); replace HO215 := Aside0.mk (Kd.R_below (zr HO215) hb); have HO218 := Aside0.mk (Kd.R_lower ho10 (keep_size (w := w) (g := g) (row := none) (zh HK))); replace HI0 := Aside0.mk (IsS85.below (zi85 HI0) hb); replace BK212 := Aside0.mk (blk_below (g := gb212) (o := .cells #[.slice none 0 0, .int .i64 0] 25 (0, 0)) (zk BK212) hb); replace HK := Aside0.mk (KeepBut.trans (zh HK) (KeepBut.of_below hb g none) (.inl rfl)); replace HB := Aside0.mk (below_step (zg85 HB) hb); clear hb ho10) | ((with_reducible refine gq 47 rfl ?_); refine gl (some 9) Try.func47 #[.pointer (some ⟨g, 0, none⟩), .int .i64 5] ?_; (with_reducible refine (spec_l6Rd_pick.calls k g s0_0 s0_1 5 t219 t220 w0 _ ?side1 ?side2 A2.out).mono ?_); (case side1 => exact zi85 HI0); (case side2 => exact zg85 HB); rintro e w11 ⟨rfl, hi, hb, hk⟩; refine ⟨_, rfl, ?_⟩; replace BK212 := Aside0.mk (KeepBut.blk hk (g' := gb212) (o := .cells #[.slice none 0 0, .int .i64 0] 25 (0, 0)) (zk BK212) NB212_0.out (by simp)); replace HO215 := Aside0.mk (Kd.R_mono (Kd.R_keep (IsS85.apart (show IsS85 w0 _ g s0_0 s0_1 from zi85 HI0) (zr HO215) (by decide)) hk (fun _ h => h.2)) (fun _ h => h.1)); replace HO218 := Aside0.mk (Kd.R_mono (Kd.R_keep (IsS85.apart (show IsS85 w0 _ g s0_0 s0_1 from zi85 HI0) (zr HO218) (by decide)) hk (fun _ h => h.2)) (fun _ h => h.1)); replace HK := Aside0.mk (KeepBut.trans (zh HK) hk (.inl rfl)); replace HB := Aside0.mk (hb); replace HI0 := Aside0.mk (hi); (try clear hb); (try clear hk); (try clear hi); obtain ⟨Ao12, co12, eo12⟩ := Kd.R_slice HO218.out; subst eo12; have p221 : 0 ≤ (t219 : Int) := of_decide_eq_true za; have q221 : t219 < (y216.length : Int) := of_decide_eq_true za; obtain ⟨ad221, e221, hx221_0⟩ := Kd.at_int (Kd.R_reads' HO218.out).2.2 t219 p221 q221; cases e221; replace p221 := eq_true p221; replace q221 := eq_true q221; obtain ⟨Ao13, co13, eo13⟩ := Kd.R_slice HO215.out; subst eo13) | ((with_reducible refine gd 3 rfl ?_); refine bx (N := 3) (cs := #[.slice none 0 0, .int .i64 0]) (t := 25) ?_; intro gb222 hg w14 hbox hb; replace HO215 := Aside0.mk (Kd.R_below (zr HO215) hb); replace HO218 := Aside0.mk (Kd.R_below (zr HO218) hb); replace HB := Aside0.mk (below_step (zg85 HB) hb); have BK222 := Aside0.mk (hbox); have GW222 := Aside0.mk ((by rw [hg]; exact (keep_size (w := w) (g := g) (row := none) (zh HK)) : w.heap.size ≤ gb222)); have GE222 := Aside0.mk ((Nat.le_trans HW0.out (by rw [hg]; exact (keep_size (w := w) (g := g) (row := none) (zh HK)) : w.heap.size ≤ gb222) : w0.heap.size ≤ gb222)); replace HK := Aside0.mk (KeepBut.trans (zh HK) (KeepBut.of_below hb g none) (.inl rfl)); have NB212_222 := Aside0.mk ((by rw [hg]; exact Nat.ne_of_lt (blk_lt (g := gb212) (o := .cells #[.slice none 0 0, .int .i64 0] 25 (0, 0)) (zk BK212)) : gb212 ≠ gb222)); have NB222_212 := Aside0.mk ((by rw [hg]; exact Nat.ne_of_gt (blk_lt (g := gb212) (o := .cells #[.slice none 0 0, .int .i64 0] 25 (0, 0)) (zk BK212)) : gb222 ≠ gb212)); replace BK212 := Aside0.mk (blk_below (g := gb212) (o := .cells #[.slice none 0 0, .int .i64 0] 25 (0, 0)) (zk BK212) hb); have NB0_222 := Aside0.mk ((by rw [hg]; exact Nat.ne_of_lt (IsS85.lt (show IsS85 w0 _ g s0_0 t220 from zi85 HI0)) : g ≠ gb222)); have NB222_0 := Aside0.mk ((by rw [hg]; exact Nat.ne_of_gt (IsS85.lt (show IsS85 w0 _ g s0_0 t220 from zi85 HI0)) : gb222 ≠ g)); replace HI0 := Aside0.mk (IsS85.below (zi85 HI0) hb); clear hb hbox hg; have hnb15 := NB222_212.out; have hnc15 := NB212_222.out; have hnb16 := NB222_0.out; have hnc16 := NB0_222.out; have hcz17_0 : w14.cell? ⟨gb222, 0, none⟩ = some (.slice none 0 0) := (blk_cell BK222.out 0).trans rfl; have hcz17_1 : w14.cell? ⟨gb222, 1, none⟩ = some (.int .i64 0) := (blk_cell BK222.out 1).trans rfl; have hfz17_0 := blk_frozen BK222.out 0; have hfz17_1 := blk_frozen BK222.out 1) | ((with_reducible refine gq 47 rfl ?_); refine gl (some 14) Try.func47 #[.pointer (some ⟨g, 0, none⟩), .int .i64 7] ?_; (with_reducible refine (spec_l6Rd_pick.calls k g s0_0 t220 7 t223 t224 w0 _ ?side1 ?side2 A5.out).mono ?_); (case side1 => exact zi85 HI0); (case side2 => exact zg85 HB); rintro e w18 ⟨rfl, hi, hb, hk⟩; refine ⟨_, rfl, ?_⟩; replace BK212 := Aside0.mk (KeepBut.blk hk (g' := gb212) (o := .cells #[.slice none 0 0, .int .i64 0] 25 (0, 0)) (by (with_reducible repeat (first | refine blk_drewN ?_ _ | refine blk_drew ?_ | refine blk_alloc ?_ _)); refine blk_far ?_ NB212_222.out _; (with_reducible repeat (first | refine blk_drewN ?_ _ | refine blk_drew ?_ | refine blk_alloc ?_ _)); refine blk_far ?_ NB212_222.out _; exact zk BK212) NB212_0.out (by simp)); replace HO215 := Aside0.mk (Kd.R_mono (Kd.R_keep (IsS85.apart (show IsS85 w0 _ g s0_0 t220 from zi85 HI0) (by (with_reducible repeat (first | apply Kd.R_alloc | apply Kd.R_drewN | apply Kd.R_drew)); exact (Kd.R_mono (Kd.R_far (p := ⟨gb222, 1, none⟩) (Kd.R_far (p := ⟨gb222, 0, none⟩) (Kd.R_types HO215.out BK222.out (by decide)) (fun _ hk => hk.2) (.slice Ao13 y213.length co13)) (fun _ hk => hk.2) (.int .i64 (rd y216 t219))) (fun _ h_ => h_.1))) (by decide)) hk (fun _ h => h.2)) (fun _ h => h.1)); replace HO218 := Aside0.mk (Kd.R_mono (Kd.R_keep (IsS85.apart (show IsS85 w0 _ g s0_0 t220 from zi85 HI0) (by (with_reducible repeat (first | apply Kd.R_alloc | apply Kd.R_drewN | apply Kd.R_drew)); exact (Kd.R_mono (Kd.R_far (p := ⟨gb222, 1, none⟩) (Kd.R_far (p := ⟨gb222, 0, none⟩) (Kd.R_types HO218.out BK222.out (by decide)) (fun _ hk => hk.2) (.slice Ao13 y213.length co13)) (fun _ hk => hk.2) (.int .i64 (rd y216 t219))) (fun _ h_ => h_.1))) (by decide)) hk (fun _ h => h.2)) (fun _ h => h.1)); replace BK222 := Aside0.mk (KeepBut.blk hk (g' := gb222) (o := .cells #[.slice Ao13 y213.length co13, .int .i64 (rd y216 t219)] 25 (0, 0)) (by (with_reducible repeat (first | refine blk_drewN ?_ _ | refine blk_drew ?_ | refine blk_alloc ?_ _)); refine blk_put (cs := #[.slice Ao13 y213.length co13, .int .i64 0]) ?_ 1 _ rfl; (with_reducible repeat (first | refine blk_drewN ?_ _ | refine blk_drew ?_ | refine blk_alloc ?_ _)); refine blk_put (cs := #[.slice none 0 0, .int .i64 0]) ?_ 0 _ rfl; exact zk BK222) NB222_0.out (by simp)); replace HK := Aside0.mk (KeepBut.trans (zh HK) hk (.inl rfl)); replace HB := Aside0.mk (hb); replace HI0 := Aside0.mk (hi); (try clear hb); (try clear hk); (try clear hi)))
   go_loopg [4] k (fun kq v4 w' => ∃ (x4_1 : Int) (x1001_1 : Int) (x223000_1 : List (S36)) (x223001_1 : Int) (u223000 : Value), v4 = .int .i64 x4_1 ∧ Aside0 (spec_l71Table.l0 kq x4_1 s0_0 x1001_1 x223000_1 x223001_1 = some (r1, r2, r3)) ∧ Aside0 (kq ≤ k) ∧ Aside0 (Kd.R k36 36 w' w.heap.size (fun _ => True) u223000 x223000_1) ∧ Aside0 (w'.heap[gb212]? = some (.cells #[(.slice none 0 0), .int .i64 0] 25 (0, 0))) ∧ Aside0 (w'.heap[gb222]? = some (.cells #[u223000, .int .i64 x223001_1] 25 (0, 0))) ∧ Aside0 (IsS85 w0 w' g s0_0 x1001_1) ∧ Aside0 (KeepBut w w' g none) ∧ Aside0 (Below w0.heap.size w0 w'))
   case atStart => exact ⟨(t223), (t224), (y213), (rd y216 t219), (.slice Ao13 y213.length co13), zs, H', ⟨Nat.le_refl _⟩, ⟨by exact zr HO215⟩, ⟨by exact zk BK212⟩, ⟨by exact zk BK222⟩, ⟨zi85 HI0⟩, ⟨zh HK⟩, ⟨zg85 HB⟩⟩
   case round =>
    clear H'
    try clear c1
    try clear p2
    try clear q2
    try clear hx2
    try clear c3
    try clear c3b0
    try clear c4
    try clear c4b0
    try clear c15
    try clear c16
    try clear hcz17_0
    try clear hcz17_1
    try clear hfz17_0
    try clear hfz17_1
    try clear hx221_0
    try clear p221
    try clear q221
    obtain ⟨x4_1, x1001_1, x223000_1, x223001_1, u223000, rfl, HA, HK1, HO_223000, BK212, BK222, HI0, HK, HB⟩ := hrel
    cases gk with
    | zero => exact absurd HA.out (by simp [spec_l71Table.l0])
    | succ k1 =>
     have H := HA.out
     clear HA
     simp only [spec_l71Table.l0] at H
     by_cases c19 : x4_1 > 0
     ·rw [if_pos c19] at H
      have c19b0 : decide (0 < x4_1) = true := decide_eq_true c19
      clear c19
      replace H := Option.bind_eq_some_iff.mp H
      obtain ⟨⟨t225, t226, t227, t228⟩, A200, H⟩ := H
      replace H : ((spec_FieldOk.f k1 t225 t226 t227).bind fun t230 => (if t230 = true then ((spec_l3Add.f k1 x223000_1 x223001_1 t225 t226 t227).bind fun bt231 => (spec_l71Table.l0 k1 (wrap64 (x4_1 - 1)) s0_0 t228 bt231.1 bt231.2)) else (spec_l71Table.l0 k1 (wrap64 (x4_1 - 1)) s0_0 t228 x223000_1 x223001_1))) = some (r1, r2, r3) := H
      have A20 := Aside0.mk A200
      clear A200
      replace H := Option.bind_eq_some_iff.mp H
      obtain ⟨t230, A210, H⟩ := H
      replace H : (if t230 = true then ((spec_l3Add.f k1 x223000_1 x223001_1 t225 t226 t227).bind fun bt231 => (spec_l71Table.l0 k1 (wrap64 (x4_1 - 1)) s0_0 t228 bt231.1 bt231.2)) else (spec_l71Table.l0 k1 (wrap64 (x4_1 - 1)) s0_0 t228 x223000_1 x223001_1)) = some (r1, r2, r3) := H
      have A21 := Aside0.mk A210
      clear A210
      have HC22 := Aside0.mk H
      clear H
      go_upto_if 22 with (first | ((with_reducible refine gq 58 rfl ?_); refine gl (some 20) Try.func58 #[.pointer (some ⟨g, 0, none⟩)] ?_; (with_reducible refine (spec_l71Field.calls k1 g s0_0 x1001_1 t225 t226 t227 t228 w0 _ ?side1 ?side2 A20.out).mono ?_); (case side1 => exact zi85 HI0); (case side2 => exact zg85 HB); rintro e w23 ⟨rfl, hi, hb, hk⟩; refine ⟨_, rfl, ?_⟩; replace HO_223000 := Aside0.mk (Kd.R_mono (Kd.R_keep (IsS85.apart (show IsS85 w0 _ g s0_0 x1001_1 from zi85 HI0) (zr HO_223000) (by decide)) hk (fun _ h => h.2)) (fun _ h => h.1)); replace BK212 := Aside0.mk (KeepBut.blk hk (g' := gb212) (o := .cells #[.slice none 0 0, .int .i64 0] 25 (0, 0)) (zk BK212) NB212_0.out (by simp)); replace BK222 := Aside0.mk (KeepBut.blk hk (g' := gb222) (o := .cells #[u223000, .int .i64 x223001_1] 25 (0, 0)) (zk BK222) NB222_0.out (by simp)); replace HK := Aside0.mk (KeepBut.trans (zh HK) hk (.inl rfl)); replace HB := Aside0.mk (hb); replace HI0 := Aside0.mk (hi); (try clear hb); (try clear hk); (try clear hi)) | ((with_reducible refine gd 5 rfl ?_); refine bx (N := 5) (cs := #[.string (⟨#[]⟩ : ByteArray), .string (⟨#[]⟩ : ByteArray), .bool false]) (t := 36) ?_; intro gb229 hg w24 hbox hb; replace HO_223000 := Aside0.mk (Kd.R_below (Kd.R_elderB (zr HO_223000) gb229 (Nat.le_of_eq hg.symm)) hb); replace HB := Aside0.mk (below_step (zg85 HB) hb); have BK229 := Aside0.mk (hbox); have GW229 := Aside0.mk ((by rw [hg]; exact (keep_size (w := w) (g := g) (row := none) (zh HK)) : w.heap.size ≤ gb229)); have GE229 := Aside0.mk ((Nat.le_trans HW0.out (by rw [hg]; exact (keep_size (w := w) (g := g) (row := none) (zh HK)) : w.heap.size ≤ gb229) : w0.heap.size ≤ gb229)); replace HK := Aside0.mk (KeepBut.trans (zh HK) (KeepBut.of_below hb g none) (.inl rfl)); have NB212_229 := Aside0.mk ((by rw [hg]; exact Nat.ne_of_lt (blk_lt (g := gb212) (o := .cells #[.slice none 0 0, .int .i64 0] 25 (0, 0)) (zk BK212)) : gb212 ≠ gb229)); have NB229_212 := Aside0.mk ((by rw [hg]; exact Nat.ne_of_gt (blk_lt (g := gb212) (o := .cells #[.slice none 0 0, .int .i64 0] 25 (0, 0)) (zk BK212)) : gb229 ≠ gb212)); replace BK212 := Aside0.mk (blk_below (g := gb212) (o := .cells #[.slice none 0 0, .int .i64 0] 25 (0, 0)) (zk BK212) hb); have NB222_229 := Aside0.mk ((by rw [hg]; exact Nat.ne_of_lt (blk_lt (g := gb222) (o := .cells #[u223000, .int .i64 x223001_1] 25 (0, 0)) (zk BK222)) : gb222 ≠ gb229)); have NB229_222 := Aside0.mk ((by rw [hg]; exact Nat.ne_of_gt (blk_lt (g := gb222) (o := .cells #[u223000, .int .i64 x223001_1] 25 (0, 0)) (zk BK222)) : gb229 ≠ gb222)); replace BK222 := Aside0.mk (blk_below (g := gb222) (o := .cells #[u223000, .int .i64 x223001_1] 25 (0, 0)) (zk BK222) hb); have NB0_229 := Aside0.mk ((by rw [hg]; exact Nat.ne_of_lt (IsS85.lt (show IsS85 w0 _ g s0_0 t228 from zi85 HI0)) : g ≠ gb229)); have NB229_0 := Aside0.mk ((by rw [hg]; exact Nat.ne_of_gt (IsS85.lt (show IsS85 w0 _ g s0_0 t228 from zi85 HI0)) : gb229 ≠ g)); replace HI0 := Aside0.mk (IsS85.below (zi85 HI0) hb); clear hb hbox hg; have hnb25 := NB229_212.out; have hnc25 := NB212_229.out; have hnb26 := NB229_222.out; have hnc26 := NB222_229.out; have hnb27 := NB229_0.out; have hnc27 := NB0_229.out; have hcz28_0 : w24.cell? ⟨gb229, 0, none⟩ = some (.string (⟨#[]⟩ : ByteArray)) := (blk_cell BK229.out 0).trans rfl; have hcz28_1 : w24.cell? ⟨gb229, 1, none⟩ = some (.string (⟨#[]⟩ : ByteArray)) := (blk_cell BK229.out 1).trans rfl; have hcz28_2 : w24.cell? ⟨gb229, 2, none⟩ = some (.bool false) := (blk_cell BK229.out 2).trans rfl; have hfz28_0 := blk_frozen BK229.out 0; have hfz28_1 := blk_frozen BK229.out 1; have hfz28_2 := blk_frozen BK229.out 2) | ((with_reducible refine gq 32 rfl ?_); refine gl (some 22) Try.func32 #[.agg #[.string t225, .string t226, .bool t227]] ?_; (with_reducible refine (spec_FieldOk.calls k1 t225 t226 t227 t230 _ A21.out).mono ?_); rintro e w29 ⟨rfl, hb⟩; refine ⟨_, rfl, ?_⟩; replace HO_223000 := Aside0.mk (Kd.R_below (by (with_reducible repeat (first | apply Kd.R_alloc | apply Kd.R_drewN | apply Kd.R_drew)); exact (Kd.R_mono (Kd.R_far (p := ⟨gb229, 2, none⟩) (Kd.R_far (p := ⟨gb229, 1, none⟩) (Kd.R_far (p := ⟨gb229, 0, none⟩) (Kd.R_mono HO_223000.out (fun k_ hk => (⟨hk, hk.2⟩ : _ ∧ k_ ≠ gb229))) (fun _ hk => hk.2) (.string t225)) (fun _ hk => hk.2) (.string t226)) (fun _ hk => hk.2) (.bool t227)) (fun _ h_ => h_.1))) hb); replace BK212 := Aside0.mk (blk_below (g := gb212) (o := .cells #[.slice none 0 0, .int .i64 0] 25 (0, 0)) (by (with_reducible repeat (first | refine blk_drewN ?_ _ | refine blk_drew ?_ | refine blk_alloc ?_ _)); refine blk_far ?_ NB212_229.out _; (with_reducible repeat (first | refine blk_drewN ?_ _ | refine blk_drew ?_ | refine blk_alloc ?_ _)); refine blk_far ?_ NB212_229.out _; (with_reducible repeat (first | refine blk_drewN ?_ _ | refine blk_drew ?_ | refine blk_alloc ?_ _)); refine blk_far ?_ NB212_229.out _; exact zk BK212) hb); replace BK222 := Aside0.mk (blk_below (g := gb222) (o := .cells #[u223000, .int .i64 x223001_1] 25 (0, 0)) (by (with_reducible repeat (first | refine blk_drewN ?_ _ | refine blk_drew ?_ | refine blk_alloc ?_ _)); refine blk_far ?_ NB222_229.out _; (with_reducible repeat (first | refine blk_drewN ?_ _ | refine blk_drew ?_ | refine blk_alloc ?_ _)); refine blk_far ?_ NB222_229.out _; (with_reducible repeat (first | refine blk_drewN ?_ _ | refine blk_drew ?_ | refine blk_alloc ?_ _)); refine blk_far ?_ NB222_229.out _; exact zk BK222) hb); replace HI0 := Aside0.mk (IsS85.below (show IsS85 w0 (((w24.setCell ⟨gb229, 0, none⟩ (.string t225)).setCell ⟨gb229, 1, none⟩ (.string t226)).setCell ⟨gb229, 2, none⟩ (.bool t227)) g s0_0 t228 from zi85 HI0) hb); replace BK229 := Aside0.mk (blk_below (g := gb229) (o := .cells #[.string t225, .string t226, .bool t227] 36 (0, 0)) (by (with_reducible repeat (first | refine blk_drewN ?_ _ | refine blk_drew ?_ | refine blk_alloc ?_ _)); refine blk_put (cs := #[.string t225, .string t226, .bool false]) ?_ 2 _ rfl; (with_reducible repeat (first | refine blk_drewN ?_ _ | refine blk_drew ?_ | refine blk_alloc ?_ _)); refine blk_put (cs := #[.string t225, .string (⟨#[]⟩ : ByteArray), .bool false]) ?_ 1 _ rfl; (with_reducible repeat (first | refine blk_drewN ?_ _ | refine blk_drew ?_ | refine blk_alloc ?_ _)); refine blk_put (cs := #[.string (⟨#[]⟩ : ByteArray), .string (⟨#[]⟩ : ByteArray), .bool false]) ?_ 0 _ rfl; exact zk BK229) hb); replace HK := Aside0.mk (KeepBut.trans (zh HK) (KeepBut.of_below hb g none) (.inl rfl)); replace HB := Aside0.mk (below_step (zg85 HB) hb); (try clear hb)))
      (try simp only [Act.put, s1, s2, s3])
      have H := HC22.out
      clear HC22
      by_cases c30 : t230 = true
      ·subst c30
       have H1 : ((spec_l3Add.f k1 x223000_1 x223001_1 t225 t226 t227).bind fun bt231 => (spec_l71Table.l0 k1 (wrap64 (x4_1 - 1)) s0_0 t228 bt231.1 bt231.2)) = some (r1, r2, r3) := by rw [if_pos rfl] at H; exact H
       clear H
       have H := H1
       clear H1
       replace H := Option.bind_eq_some_iff.mp H
       obtain ⟨⟨t231, t234⟩, A310, H⟩ := H
       replace H : (spec_l71Table.l0 k1 (wrap64 (x4_1 - 1)) s0_0 t228 t231 t234) = some (r1, r2, r3) := H
       have A31 := Aside0.mk A310
       clear A310
       have H' := Aside0.mk H
       clear H
       have hnb32 := NB222_212.out
       have hnc32 := NB212_222.out
       have hnb33 := NB222_229.out
       have hnc33 := NB229_222.out
       have hnb34 := NB222_0.out
       have hnc34 := NB0_222.out
       have hcz35_0 : w29.cell? ⟨gb222, 0, none⟩ = some (u223000) := (blk_cell BK222.out 0).trans rfl
       have hcz35_1 : w29.cell? ⟨gb222, 1, none⟩ = some (.int .i64 x223001_1) := (blk_cell BK222.out 1).trans rfl
       have hfz35_0 := blk_frozen BK222.out 0
       have hfz35_1 := blk_frozen BK222.out 1
       have hnb36 := NB229_212.out
       have hnc36 := NB212_229.out
       have hnb37 := NB229_0.out
       have hnc37 := NB0_229.out
       have hcz38_0 : w29.cell? ⟨gb229, 0, none⟩ = some (.string t225) := (blk_cell BK229.out 0).trans rfl
       have hcz38_1 : w29.cell? ⟨gb229, 1, none⟩ = some (.string t226) := (blk_cell BK229.out 1).trans rfl
       have hcz38_2 : w29.cell? ⟨gb229, 2, none⟩ = some (.bool t227) := (blk_cell BK229.out 2).trans rfl
       have hfz38_0 := blk_frozen BK229.out 0
       have hfz38_1 := blk_frozen BK229.out 1
       have hfz38_2 := blk_frozen BK229.out 2
       obtain ⟨Ao39, co39, eo39⟩ := Kd.R_slice HO_223000.out
       subst eo39
       go_wp2_with (first | ((with_reducible refine gq 60 rfl ?_); refine gl (some 25) Try.func60 #[.agg #[.slice Ao39 x223000_1.length co39, .int .i64 x223001_1], .agg #[.string t225, .string t226, .bool t227]] ?_; (with_reducible refine (spec_l3Add.calls k1 _ _ x223000_1 x223001_1 t225 t226 t227 t231 t234 _ ?side1 ?side2 A31.out).mono ?_); (case side1 => exact zc (Kd.R_reads' HO_223000.out).2.2); (case side2 => exact (Kd.R_reads' HO_223000.out).2.1); rintro e w40 ⟨v232, rfl, ho0, hb⟩; refine ⟨_, rfl, ?_⟩; have HO233 := Aside0.mk (Kd.R_lower (Kd.R_newB (Kd.R_new' ho0 (Kd.R_lt (zr HO_223000))) (g := gb229) (o := .cells #[.string t225, .string t226, .bool t227] 36 (0, 0)) (zk BK229)) (keep_size (w := w) (g := g) (row := none) (zh HK))); replace HO_223000 := Aside0.mk (Kd.R_elder' (zr HO_223000) (Kd.R_base ho0) hb); replace BK212 := Aside0.mk (blk_below (g := gb212) (o := .cells #[.slice none 0 0, .int .i64 0] 25 (0, 0)) (zk BK212) hb); replace BK222 := Aside0.mk (blk_below (g := gb222) (o := .cells #[.slice Ao39 x223000_1.length co39, .int .i64 x223001_1] 25 (0, 0)) (zk BK222) hb); replace HI0 := Aside0.mk (IsS85.below (zi85 HI0) hb); replace BK229 := Aside0.mk (blk_below (g := gb229) (o := .cells #[.string t225, .string t226, .bool t227] 36 (0, 0)) (zk BK229) hb); replace HK := Aside0.mk (KeepBut.trans (zh HK) (KeepBut.of_below hb g none) (.inl rfl)); replace HB := Aside0.mk (below_step (zg85 HB) hb); (try clear hb); (try clear ho0); obtain ⟨Ao41, co41, eo41⟩ := Kd.R_slice HO233.out; subst eo41; have hcz42_0 : w40.cell? ⟨gb222, 0, none⟩ = some (.slice Ao39 x223000_1.length co39) := (blk_cell BK222.out 0).trans rfl; have hcz42_1 : w40.cell? ⟨gb222, 1, none⟩ = some (.int .i64 x223001_1) := (blk_cell BK222.out 1).trans rfl; have hfz42_0 := blk_frozen BK222.out 0; have hfz42_1 := blk_frozen BK222.out 1))
       go_roundg k1
       case measure => have := HK1.out; omega
       case rel => exact ⟨(wrap64 (x4_1 - 1)), (t228), (t231), (t234), (.slice Ao41 t231.length co41), zs, H', ⟨by have := HK1.out; omega⟩, ⟨by (with_reducible repeat (first | apply Kd.R_alloc | apply Kd.R_drewN | apply Kd.R_drew)); exact Kd.R_mono (Kd.R_far (p := ⟨gb222, 1, none⟩) (Kd.R_far (p := ⟨gb222, 0, none⟩) (Kd.R_types HO233.out BK222.out (by decide)) (fun _ hk => hk.2) (.slice Ao41 t231.length co41)) (fun _ hk => hk.2) (.int .i64 t234)) (fun _ hk => trivial)⟩, ⟨by (with_reducible repeat (first | refine blk_drewN ?_ _ | refine blk_drew ?_ | refine blk_alloc ?_ _)); refine blk_far ?_ NB212_222.out _; (with_reducible repeat (first | refine blk_drewN ?_ _ | refine blk_drew ?_ | refine blk_alloc ?_ _)); refine blk_far ?_ NB212_222.out _; exact zk BK212⟩, ⟨by (with_reducible repeat (first | refine blk_drewN ?_ _ | refine blk_drew ?_ | refine blk_alloc ?_ _)); refine blk_put (cs := #[.slice Ao41 t231.length co41, .int .i64 x223001_1]) ?_ 1 _ rfl; (with_reducible repeat (first | refine blk_drewN ?_ _ | refine blk_drew ?_ | refine blk_alloc ?_ _)); refine blk_put (cs := #[.slice Ao39 x223000_1.length co39, .int .i64 x223001_1]) ?_ 0 _ rfl; exact zk BK222⟩, ⟨zi85 HI0⟩, ⟨zh HK⟩, ⟨zg85 HB⟩⟩
      ·replace c30 := Bool.eq_false_iff.mpr c30
       subst c30
       have H1 : (spec_l71Table.l0 k1 (wrap64 (x4_1 - 1)) s0_0 t228 x223000_1 x223001_1) = some (r1, r2, r3) := by rw [if_neg (show ¬ (false = true) by decide)] at H; exact H
       clear H
       have H := H1
       clear H1
       have H' := Aside0.mk H
       clear H
       go_wp2
       go_roundg k1
       case measure => have := HK1.out; omega
       case rel => exact ⟨(wrap64 (x4_1 - 1)), (t228), (x223000_1), (x223001_1), (u223000), zs, H', ⟨by have := HK1.out; omega⟩, ⟨by (with_reducible repeat (first | apply Kd.R_alloc | apply Kd.R_drewN | apply Kd.R_drew)); exact Kd.R_mono HO_223000.out (fun _ hk => trivial)⟩, ⟨by exact zk BK212⟩, ⟨by exact zk BK222⟩, ⟨zi85 HI0⟩, ⟨zh HK⟩, ⟨zg85 HB⟩⟩
     ·rw [if_neg c19] at H
      have c19b0 : decide (0 < x4_1) = false := decide_eq_false c19
      clear c19
      replace H := Option.bind_eq_some_iff.mp H
      obtain ⟨⟨t235, t236⟩, A430, H⟩ := H
      replace H : (if t235 = 0 then ((some (([(-1), 65, 3] : List Int) : List Int)).bind fun y237 => ((spec_l6Rd_pick.f k1 s0_0 t236 3).bind fun bt240 => (if 0 ≤ bt240.1 then (if bt240.1 < (y237.length : Int) then (some (x223000_1, rd y237 bt240.1, bt240.2)) else (none)) else (none)))) else (if t235 = 1 then ((spec_l71Field.f k1 s0_0 t236).bind fun bt243 => ((spec_l71Field.f k1 s0_0 bt243.2.2.2).bind fun bt247 => ((spec_l71Field.f k1 s0_0 bt247.2.2.2).bind fun bt251 => ((some (([(⟨bt243.1, bt243.2.1, bt243.2.2.1⟩ : S36), (⟨bt247.1, bt247.2.1, bt247.2.2.1⟩ : S36), (⟨bt251.1, bt251.2.1, bt251.2.2.1⟩ : S36)] : List (S36)) : List (S36))).bind fun y255 => (if x223000_1.length + y255.length < 3518437208883 then (some ((x223000_1 ++ y255), x223001_1, bt251.2.2.2)) else (none)))))) else (some (x223000_1, x223001_1, t236)))) = some (r1, r2, r3) := H
      have A43 := Aside0.mk A430
      clear A430
      by_cases c44 : t235 = 0
      ·rw [if_pos c44] at H
       have c44b0 : (t235 == 0) = true := beq_iff_eq.mpr c44
       have c44b1 : (t235 != 0) = false := bne_eq_false_iff_eq.mpr c44
       clear c44
       obtain ⟨y237, hy237⟩ : ∃ y_ : List Int, y_ = (([(-1), 65, 3] : List Int)) := ⟨_, rfl⟩
       replace H : ((spec_l6Rd_pick.f k1 s0_0 t236 3).bind fun bt240 => (if 0 ≤ bt240.1 then (if bt240.1 < (y237.length : Int) then (some (x223000_1, rd y237 bt240.1, bt240.2)) else (none)) else (none))) = some (r1, r2, r3) := by first | (rw [hy237]; with_reducible exact H) | (have H2_ := (Option.bind_some _ _).symm.trans H; rw [hy237]; with_reducible exact H2_) | (have H2_ := (Option.bind_some _ _).symm.trans H; with_reducible exact H2_) | with_reducible exact H | (rw [hy237]; exact H) | exact H
       have Ny237 := Aside0.mk hy237
       clear hy237
       replace H := Option.bind_eq_some_iff.mp H
       obtain ⟨⟨t240, t241⟩, A450, H⟩ := H
       replace H : (if 0 ≤ t240 then (if t240 < (y237.length : Int) then (some (x223000_1, rd y237 t240, t241)) else (none)) else (none)) = some (r1, r2, r3) := H
       have A45 := Aside0.mk A450
       clear A450
       by_cases c46 : 0 ≤ t240
       ·rw [if_pos c46] at H
        have c46b0 : decide (0 ≤ t240) = true := decide_eq_true c46
        clear c46
        by_cases c47 : t240 < (y237.length : Int)
        ·rw [if_pos c47] at H
         have c47b0 : decide (t240 < (y237.length : Int)) = true := decide_eq_true c47
         clear c47
         simp only [Option.some.injEq, Prod.mk.injEq] at H
         obtain ⟨rfl, rfl, rfl⟩ := H
         go_wp2_with (first | ((with_reducible refine gq 47 rfl ?_); refine gl (some 27) Try.func47 #[.pointer (some ⟨g, 0, none⟩), .int .i64 24] ?_; (with_reducible refine (spec_l6Rd_pick.calls k1 g s0_0 x1001_1 24 t235 t236 w0 _ ?side1 ?side2 A43.out).mono ?_); (case side1 => exact zi85 HI0); (case side2 => exact zg85 HB); rintro e w48 ⟨rfl, hi, hb, hk⟩; refine ⟨_, rfl, ?_⟩; replace HO_223000 := Aside0.mk (Kd.R_mono (Kd.R_keep (IsS85.apart (show IsS85 w0 _ g s0_0 x1001_1 from zi85 HI0) (zr HO_223000) (by decide)) hk (fun _ h => h.2)) (fun _ h => h.1)); replace BK212 := Aside0.mk (KeepBut.blk hk (g' := gb212) (o := .cells #[.slice none 0 0, .int .i64 0] 25 (0, 0)) (zk BK212) NB212_0.out (by simp)); replace BK222 := Aside0.mk (KeepBut.blk hk (g' := gb222) (o := .cells #[u223000, .int .i64 x223001_1] 25 (0, 0)) (zk BK222) NB222_0.out (by simp)); replace HK := Aside0.mk (KeepBut.trans (zh HK) hk (.inl rfl)); replace HB := Aside0.mk (hb); replace HI0 := Aside0.mk (hi); (try clear hb); (try clear hk); (try clear hi)) | ((with_reducible refine gd 30 rfl ?_); refine Kd.R_lit (Kd.int .i64) _ 3 ?hg (N := 30) ?hd (xs := ([(-1), 65, 3] : List Int)) (inner := [.int .i64 (-1), .int .i64 65, .int .i64 3]) (ok := fun _ => True) (okp := fun _ => True) ?hr ?hp (fun _ hk => hk) trivial (Below.refl _ _) (Nat.le_refl _) (by simp) ?_; (case hd => rfl); (case hg => rfl); (case hr => first | (go_simp; done) | (go_simp; rfl)); (case hp => exact (Reps.one (show Kd.M (Kd.int .i64) _ _ _ (-1) [.int .i64 (-1)] from rfl) (Reps.one (show Kd.M (Kd.int .i64) _ _ _ 65 [.int .i64 65] from rfl) (Reps.one (show Kd.M (Kd.int .i64) _ _ _ 3 [.int .i64 3] from rfl) (Reps.none _ _))))); intro v238 w49 ho50 hb hg_ hnew_; clear hg_ hnew_; (first | rw [← Ny237.out] at ho50 | (simp only [Int.reduceToNat] at ho50; rw [← Ny237.out] at ho50)); replace HO_223000 := Aside0.mk (Kd.R_below (zr HO_223000) hb); have HO239 := Aside0.mk (Kd.R_lower ho50 (keep_size (w := w) (g := g) (row := none) (zh HK))); replace BK212 := Aside0.mk (blk_below (g := gb212) (o := .cells #[.slice none 0 0, .int .i64 0] 25 (0, 0)) (zk BK212) hb); replace BK222 := Aside0.mk (blk_below (g := gb222) (o := .cells #[u223000, .int .i64 x223001_1] 25 (0, 0)) (zk BK222) hb); replace HI0 := Aside0.mk (IsS85.below (zi85 HI0) hb); replace HK := Aside0.mk (KeepBut.trans (zh HK) (KeepBut.of_below hb g none) (.inl rfl)); replace HB := Aside0.mk (below_step (zg85 HB) hb); clear hb ho50) | ((with_reducible refine gq 47 rfl ?_); refine gl (some 32) Try.func47 #[.pointer (some ⟨g, 0, none⟩), .int .i64 3] ?_; (with_reducible refine (spec_l6Rd_pick.calls k1 g s0_0 t236 3 t240 t241 w0 _ ?side1 ?side2 A45.out).mono ?_); (case side1 => exact zi85 HI0); (case side2 => exact zg85 HB); rintro e w51 ⟨rfl, hi, hb, hk⟩; refine ⟨_, rfl, ?_⟩; replace HO_223000 := Aside0.mk (Kd.R_mono (Kd.R_keep (IsS85.apart (show IsS85 w0 _ g s0_0 t236 from zi85 HI0) (zr HO_223000) (by decide)) hk (fun _ h => h.2)) (fun _ h => h.1)); replace BK212 := Aside0.mk (KeepBut.blk hk (g' := gb212) (o := .cells #[.slice none 0 0, .int .i64 0] 25 (0, 0)) (zk BK212) NB212_0.out (by simp)); replace BK222 := Aside0.mk (KeepBut.blk hk (g' := gb222) (o := .cells #[u223000, .int .i64 x223001_1] 25 (0, 0)) (zk BK222) NB222_0.out (by simp)); replace HO239 := Aside0.mk (Kd.R_mono (Kd.R_keep (IsS85.apart (show IsS85 w0 _ g s0_0 t236 from zi85 HI0) (zr HO239) (by decide)) hk (fun _ h => h.2)) (fun _ h => h.1)); replace HK := Aside0.mk (KeepBut.trans (zh HK) hk (.inl rfl)); replace HB := Aside0.mk (hb); replace HI0 := Aside0.mk (hi); (try clear hb); (try clear hk); (try clear hi); obtain ⟨Ao52, co52, eo52⟩ := Kd.R_slice HO239.out; subst eo52; have p242 : 0 ≤ (t240 : Int) := of_decide_eq_true za; have q242 : t240 < (y237.length : Int) := of_decide_eq_true za; obtain ⟨ad242, e242, hx242_0⟩ := Kd.at_int (Kd.R_reads' HO239.out).2.2 t240 p242 q242; cases e242; replace p242 := eq_true p242; replace q242 := eq_true q242; have hnb53 := NB222_212.out; have hnc53 := NB212_222.out; have hnb54 := NB222_0.out; have hnc54 := NB0_222.out; have hcz55_0 : w51.cell? ⟨gb222, 0, none⟩ = some (u223000) := (blk_cell BK222.out 0).trans rfl; have hcz55_1 : w51.cell? ⟨gb222, 1, none⟩ = some (.int .i64 x223001_1) := (blk_cell BK222.out 1).trans rfl; have hfz55_0 := blk_frozen BK222.out 0; have hfz55_1 := blk_frozen BK222.out 1; obtain ⟨Ao56, co56, eo56⟩ := Kd.R_slice HO_223000.out; subst eo56; have hnb57 := NB212_0.out; have hnc57 := NB0_212.out; have hcz58_0 : w51.cell? ⟨gb212, 0, none⟩ = some (.slice none 0 0) := (blk_cell BK212.out 0).trans rfl; have hcz58_1 : w51.cell? ⟨gb212, 1, none⟩ = some (.int .i64 0) := (blk_cell BK212.out 1).trans rfl; have hfz58_0 := blk_frozen BK212.out 0; have hfz58_1 := blk_frozen BK212.out 1))
         refine bodyPost_ret (results_cell_row rfl _ _ gb212 25 #[.slice Ao56 x223000_1.length co56, .int .i64 (rd y237 t240)] (0, 0) _ rfl (by (with_reducible repeat (first | refine blk_drewN ?_ _ | refine blk_drew ?_ | refine blk_alloc ?_ _)); refine blk_put (cs := #[.slice Ao56 x223000_1.length co56, .int .i64 0]) ?_ 1 _ rfl; (with_reducible repeat (first | refine blk_drewN ?_ _ | refine blk_drew ?_ | refine blk_alloc ?_ _)); refine blk_put (cs := #[.slice none 0 0, .int .i64 0]) ?_ 0 _ rfl; (with_reducible repeat (first | refine blk_drewN ?_ _ | refine blk_drew ?_ | refine blk_alloc ?_ _)); refine blk_far ?_ NB212_222.out _; exact zk BK212) Try.underlying25 rfl (by kernel_rfl)) rfl ?_
         exact ⟨_, ze, by (with_reducible repeat (first | apply Kd.R_alloc | apply Kd.R_drewN | apply Kd.R_drew)); exact Kd.R_mono (Kd.R_far (p := ⟨gb212, 1, none⟩) (Kd.R_far (p := ⟨gb212, 0, none⟩) (Kd.R_far (p := ⟨gb222, 1, none⟩) (Kd.R_types (Kd.R_types HO_223000.out BK222.out (by decide)) BK212.out (by decide)) (fun _ hk => hk.1.2) (.int .i64 (rd y237 t240))) (fun _ hk => hk.2) (.slice Ao56 x223000_1.length co56)) (fun _ hk => hk.2) (.int .i64 (rd y237 t240))) (fun _ hk => trivial), zi85 HI0, zg85 HB, zh HK⟩
        ·rw [if_neg c47] at H
         exact absurd H (by simp)
       ·rw [if_neg c46] at H
        exact absurd H (by simp)
      ·rw [if_neg c44] at H
       have c44b0 : (t235 == 0) = false := beq_eq_false_iff_ne.mpr c44
       have c44b1 : (t235 != 0) = true := bne_iff_ne.mpr c44
       by_cases c59 : t235 = 1
       ·rw [if_pos c59] at H
        have c59b0 : (t235 == 1) = true := beq_iff_eq.mpr c59
        have c59b1 : (t235 != 1) = false := bne_eq_false_iff_eq.mpr c59
        clear c59
        replace H := Option.bind_eq_some_iff.mp H
        obtain ⟨⟨t243, t244, t245, t246⟩, A600, H⟩ := H
        replace H : ((spec_l71Field.f k1 s0_0 t246).bind fun bt247 => ((spec_l71Field.f k1 s0_0 bt247.2.2.2).bind fun bt251 => ((some (([(⟨t243, t244, t245⟩ : S36), (⟨bt247.1, bt247.2.1, bt247.2.2.1⟩ : S36), (⟨bt251.1, bt251.2.1, bt251.2.2.1⟩ : S36)] : List (S36)) : List (S36))).bind fun y255 => (if x223000_1.length + y255.length < 3518437208883 then (some ((x223000_1 ++ y255), x223001_1, bt251.2.2.2)) else (none))))) = some (r1, r2, r3) := H
        have A60 := Aside0.mk A600
        clear A600
        replace H := Option.bind_eq_some_iff.mp H
        obtain ⟨⟨t247, t248, t249, t250⟩, A610, H⟩ := H
        replace H : ((spec_l71Field.f k1 s0_0 t250).bind fun bt251 => ((some (([(⟨t243, t244, t245⟩ : S36), (⟨t247, t248, t249⟩ : S36), (⟨bt251.1, bt251.2.1, bt251.2.2.1⟩ : S36)] : List (S36)) : List (S36))).bind fun y255 => (if x223000_1.length + y255.length < 3518437208883 then (some ((x223000_1 ++ y255), x223001_1, bt251.2.2.2)) else (none)))) = some (r1, r2, r3) := H
        have A61 := Aside0.mk A610
        clear A610
        replace H := Option.bind_eq_some_iff.mp H
        obtain ⟨⟨t251, t252, t253, t254⟩, A620, H⟩ := H
        replace H : ((some (([(⟨t243, t244, t245⟩ : S36), (⟨t247, t248, t249⟩ : S36), (⟨t251, t252, t253⟩ : S36)] : List (S36)) : List (S36))).bind fun y255 => (if x223000_1.length + y255.length < 3518437208883 then (some ((x223000_1 ++ y255), x223001_1, t254)) else (none))) = some (r1, r2, r3) := H
        have A62 := Aside0.mk A620
        clear A620
        obtain ⟨y255, hy255⟩ : ∃ y_ : List (S36), y_ = (([(⟨t243, t244, t245⟩ : S36), (⟨t247, t248, t249⟩ : S36), (⟨t251, t252, t253⟩ : S36)] : List (S36))) := ⟨_, rfl⟩
        replace H : (if x223000_1.length + y255.length < 3518437208883 then (some ((x223000_1 ++ y255), x223001_1, t254)) else (none)) = some (r1, r2, r3) := by first | (rw [hy255]; with_reducible exact H) | (have H2_ := (Option.bind_some _ _).symm.trans H; rw [hy255]; with_reducible exact H2_) | (have H2_ := (Option.bind_some _ _).symm.trans H; with_reducible exact H2_) | with_reducible exact H | (rw [hy255]; exact H) | exact H
        have Ny255 := Aside0.mk hy255
        clear hy255
        by_cases c63 : x223000_1.length + y255.length < 3518437208883
        ·rw [if_pos c63] at H
         have LMc63 := Aside0.mk c63
         clear c63
         obtain ⟨y258, hy258⟩ : ∃ y_ : List (S36), y_ = (x223000_1 ++ y255) := ⟨_, rfl⟩
         replace H : (some (y258, x223001_1, t254)) = some (r1, r2, r3) := by first | (rw [hy258]; with_reducible exact H) | (have H2_ := (Option.bind_some _ _).symm.trans H; rw [hy258]; with_reducible exact H2_) | (have H2_ := (Option.bind_some _ _).symm.trans H; with_reducible exact H2_) | with_reducible exact H | (rw [hy258]; exact H) | exact H
         have Ny258 := Aside0.mk hy258
         clear hy258
         simp only [Option.some.injEq, Prod.mk.injEq] at H
         obtain ⟨rfl, rfl, rfl⟩ := H
         try go_wp2_with (first | ((with_reducible refine gq 47 rfl ?_); refine gl (some 27) Try.func47 #[.pointer (some ⟨g, 0, none⟩), .int .i64 24] ?_; (with_reducible refine (spec_l6Rd_pick.calls k1 g s0_0 x1001_1 24 t235 t236 w0 _ ?side1 ?side2 A43.out).mono ?_); (case side1 => exact zi85 HI0); (case side2 => exact zg85 HB); rintro e w64 ⟨rfl, hi, hb, hk⟩; refine ⟨_, rfl, ?_⟩; replace HO_223000 := Aside0.mk (Kd.R_mono (Kd.R_keep (IsS85.apart (show IsS85 w0 _ g s0_0 x1001_1 from zi85 HI0) (zr HO_223000) (by decide)) hk (fun _ h => h.2)) (fun _ h => h.1)); replace BK212 := Aside0.mk (KeepBut.blk hk (g' := gb212) (o := .cells #[.slice none 0 0, .int .i64 0] 25 (0, 0)) (zk BK212) NB212_0.out (by simp)); replace BK222 := Aside0.mk (KeepBut.blk hk (g' := gb222) (o := .cells #[u223000, .int .i64 x223001_1] 25 (0, 0)) (zk BK222) NB222_0.out (by simp)); replace HK := Aside0.mk (KeepBut.trans (zh HK) hk (.inl rfl)); replace HB := Aside0.mk (hb); replace HI0 := Aside0.mk (hi); (try clear hb); (try clear hk); (try clear hi)))
         replace HO_223000 := Aside0.mk (Kd.R_drew HO_223000.out)
         replace BK212 := Aside0.mk (blk_drew BK212.out)
         replace BK222 := Aside0.mk (blk_drew BK222.out)
         replace HI0 := Aside0.mk (IsS85.drew HI0.out)
         replace HK := Aside0.mk (keep_drew HK.out)
         replace HB := Aside0.mk (below_drew1 HB.out)
         refine start_ (n := 12) (S := fun w' => w'.cell? ⟨gb222, 0, none⟩ = some (u223000) ∧ w'.cell? ⟨gb222, 1, none⟩ = some (.int .i64 x223001_1)) (ds := [11]) #[false, false, false, false, false, false, false, false, false, false, false, false] (by kernel_rfl) rfl rfl ⟨(blk_cell BK222.out 0).trans rfl, (blk_cell BK222.out 1).trans rfl⟩ (fun hHeld => ?_); refine with_tabW spec_l71Table.tab12 spec_l71Table.bits12 (fun HT_ HW_ => ?_)
         generalize w64.drew = w65 at HO_223000 BK212 BK222 HI0 HK HB hHeld ⊢
         refine pu 0 (some 38) (bm 12 1) rfl rfl ?_
         refine pu 2 (some 40) (bm 12 5) rfl rfl ?_
         refine pu 4 (some 42) (bm 12 21) rfl rfl ?_
         refine pu 6 (some 44) (bm 12 85) rfl rfl ?_
         refine tk2 1 (some 39) (bm 12 87) rfl rfl hHeld ?_
         refine one_ (i := 3) (N := some 41) (bm 12 95) rfl rfl (one_of HT_.out (by kernel_rfl)) (by decide) (fun K hK => ?_)
         refine gs Try.func58 #[.pointer (some ⟨g, 0, none⟩)] ?_
         with_reducible refine (spec_l71Field.calls k1 g s0_0 t236 t243 t244 t245 t246 w0 _ ?side1 ?side2 A60.out).mono ?_
         (case side1 => exact zi85 HI0)
         (case side2 => exact zg85 HB)
         rintro e w66 ⟨rfl, hi, hb, hk⟩
         refine ⟨_, rfl, ?_⟩
         replace HO_223000 := Aside0.mk (Kd.R_mono (Kd.R_keep (IsS85.apart (show IsS85 w0 _ g s0_0 t236 from zi85 HI0) (zr HO_223000) (by decide)) hk (fun _ h => h.2)) (fun _ h => h.1))
         replace BK212 := Aside0.mk (KeepBut.blk hk (g' := gb212) (o := .cells #[.slice none 0 0, .int .i64 0] 25 (0, 0)) (zk BK212) NB212_0.out (by simp))
         replace BK222 := Aside0.mk (KeepBut.blk hk (g' := gb222) (o := .cells #[u223000, .int .i64 x223001_1] 25 (0, 0)) (zk BK222) NB222_0.out (by simp))
         replace HK := Aside0.mk (KeepBut.trans (zh HK) hk (.inl rfl))
         replace HB := Aside0.mk (hb)
         replace HI0 := Aside0.mk (hi)
         (try clear hb)
         (try clear hk)
         (try clear hi)
         refine hK.out _ _ ⟨(blk_cell BK222.out 0).trans rfl, (blk_cell BK222.out 1).trans rfl⟩ (fun hHeld => ?_)
         clear hK K
         refine nm ?_
         refine one_ (i := 5) (N := some 43) (bm 12 127) rfl rfl (one_of HT_.out (by kernel_rfl)) (by decide) (fun K hK => ?_)
         refine gs Try.func58 #[.pointer (some ⟨g, 0, none⟩)] ?_
         with_reducible refine (spec_l71Field.calls k1 g s0_0 t246 t247 t248 t249 t250 w0 _ ?side1 ?side2 A61.out).mono ?_
         (case side1 => exact zi85 HI0)
         (case side2 => exact zg85 HB)
         rintro e w67 ⟨rfl, hi, hb, hk⟩
         refine ⟨_, rfl, ?_⟩
         replace HO_223000 := Aside0.mk (Kd.R_mono (Kd.R_keep (IsS85.apart (show IsS85 w0 _ g s0_0 t246 from zi85 HI0) (zr HO_223000) (by decide)) hk (fun _ h => h.2)) (fun _ h => h.1))
         replace BK212 := Aside0.mk (KeepBut.blk hk (g' := gb212) (o := .cells #[.slice none 0 0, .int .i64 0] 25 (0, 0)) (zk BK212) NB212_0.out (by simp))
         replace BK222 := Aside0.mk (KeepBut.blk hk (g' := gb222) (o := .cells #[u223000, .int .i64 x223001_1] 25 (0, 0)) (zk BK222) NB222_0.out (by simp))
         replace HK := Aside0.mk (KeepBut.trans (zh HK) hk (.inl rfl))
         replace HB := Aside0.mk (hb)
         replace HI0 := Aside0.mk (hi)
         (try clear hb)
         (try clear hk)
         (try clear hi)
         refine hK.out _ _ ⟨(blk_cell BK222.out 0).trans rfl, (blk_cell BK222.out 1).trans rfl⟩ (fun hHeld => ?_)
         clear hK K
         refine nm ?_
         refine one_ (i := 7) (N := some 45) (bm 12 255) rfl rfl (one_of HT_.out (by kernel_rfl)) (by decide) (fun K hK => ?_)
         refine gs Try.func58 #[.pointer (some ⟨g, 0, none⟩)] ?_
         with_reducible refine (spec_l71Field.calls k1 g s0_0 t250 t251 t252 t253 t254 w0 _ ?side1 ?side2 A62.out).mono ?_
         (case side1 => exact zi85 HI0)
         (case side2 => exact zg85 HB)
         rintro e w68 ⟨rfl, hi, hb, hk⟩
         refine ⟨_, rfl, ?_⟩
         replace HO_223000 := Aside0.mk (Kd.R_mono (Kd.R_keep (IsS85.apart (show IsS85 w0 _ g s0_0 t250 from zi85 HI0) (zr HO_223000) (by decide)) hk (fun _ h => h.2)) (fun _ h => h.1))
         replace BK212 := Aside0.mk (KeepBut.blk hk (g' := gb212) (o := .cells #[.slice none 0 0, .int .i64 0] 25 (0, 0)) (zk BK212) NB212_0.out (by simp))
         replace BK222 := Aside0.mk (KeepBut.blk hk (g' := gb222) (o := .cells #[u223000, .int .i64 x223001_1] 25 (0, 0)) (zk BK222) NB222_0.out (by simp))
         replace HK := Aside0.mk (KeepBut.trans (zh HK) hk (.inl rfl))
         replace HB := Aside0.mk (hb)
         replace HI0 := Aside0.mk (hi)
         (try clear hb)
         (try clear hk)
         (try clear hi)
         refine hK.out _ _ ⟨(blk_cell BK222.out 0).trans rfl, (blk_cell BK222.out 1).trans rfl⟩ (fun hHeld => ?_)
         clear hK K
         refine nm ?_
         refine one_ (i := 8) (N := some 46) (bm 12 511) rfl rfl (one_of HT_.out (by kernel_rfl)) (by decide) (fun K hK => ?_)
         refine Kd.R_lit_step k36 _ 36 ?hg (N := 46) ?hd (xs := ([(⟨t243, t244, t245⟩ : S36), (⟨t247, t248, t249⟩ : S36), (⟨t251, t252, t253⟩ : S36)] : List (S36))) (inner := [.string t243, .string t244, .bool t245, .string t247, .string t248, .bool t249, .string t251, .string t252, .bool t253]) (ok := fun _ => True) (okp := fun _ => True) ?hr ?hp (fun _ hk => hk) trivial (Below.refl _ _) (Nat.le_refl _) (by simp) ?_; (case hd => rfl); (case hg => rfl); (case hr => first | (go_simp; done) | (go_simp; rfl)); (case hp => exact (Reps.c3 (show Kd.M k36 _ _ _ (⟨t243, t244, t245⟩ : S36) [.string t243, .string t244, .bool t245] from (k36_mkM _ _ _ (⟨t243, t244, t245⟩ : S36) )) (Reps.c3 (show Kd.M k36 _ _ _ (⟨t247, t248, t249⟩ : S36) [.string t247, .string t248, .bool t249] from (k36_mkM _ _ _ (⟨t247, t248, t249⟩ : S36) )) (Reps.c3 (show Kd.M k36 _ _ _ (⟨t251, t252, t253⟩ : S36) [.string t251, .string t252, .bool t253] from (k36_mkM _ _ _ (⟨t251, t252, t253⟩ : S36) )) (Reps.none _ _)))))
         intro v256 w69 ho70 hb hg_ hnew_
         clear hg_ hnew_
         (first | rw [← Ny255.out] at ho70 | (simp only [Int.reduceToNat] at ho70; rw [← Ny255.out] at ho70))
         have HO257 := Aside0.mk (Kd.R_lower (Kd.R_new' ho70 (Kd.R_lt (zr HO_223000))) (keep_size (w := w) (g := g) (row := none) (zh HK)))
         replace HO_223000 := Aside0.mk (Kd.R_elder' (zr HO_223000) (Kd.R_base ho70) hb)
         replace BK212 := Aside0.mk (blk_below (g := gb212) (o := .cells #[.slice none 0 0, .int .i64 0] 25 (0, 0)) (zk BK212) hb)
         replace BK222 := Aside0.mk (blk_below (g := gb222) (o := .cells #[u223000, .int .i64 x223001_1] 25 (0, 0)) (zk BK222) hb)
         replace HI0 := Aside0.mk (IsS85.below (zi85 HI0) hb)
         replace HK := Aside0.mk (KeepBut.trans (zh HK) (KeepBut.of_below hb g none) (.inl rfl))
         replace HB := Aside0.mk (below_step (zg85 HB) hb)
         clear hb ho70
         obtain ⟨Ao72, co72, eo72⟩ := Kd.R_slice HO257.out
         (first | subst eo72 | (injection eo72 with f1_ f2_ f3_; have f4_ := f1_.symm; have f5_ := f3_.symm; clear f1_ f2_ f3_; subst f4_; subst f5_))
         refine hK.out _ _ ⟨(blk_cell BK222.out 0).trans rfl, (blk_cell BK222.out 1).trans rfl⟩ (fun hHeld => ?_)
         clear hK K
         refine nm ?_
         refine one_ (i := 9) (N := some 47) (bm 12 1023) rfl rfl (one_of HT_.out (by kernel_rfl)) (by decide) (fun K hK => ?_)
         refine Kd.R_append_rows_step k36 w.heap.size (by rfl) (.tmp 39) (.tmp 46) 23 36 (.agg #[(.string ⟨#[]⟩), (.string ⟨#[]⟩), (.bool false)]) 40 rfl Try.underlying23 info36 rfl (by decide) (by omega) u223000 x223000_1 y255 _ _ _ (fun k_ => some k_ ≠ (.slice Ao72 y255.length co72 : Value).ownBlock) (fun _ => False) rfl rfl ?aO ?aR (fun _ _ h => h) (fun _ h => h.elim) ?aF (Below.refl _ _) ?aS ?aL ?_
         (case aR => exact zc (Kd.R_reads' HO257.out).2.2)
         (case aF => exact (fun k_ hk => Kd.fresh' (Kd.R_lt (zr HO257)) k_ hk))
         (case aO => exact (by (with_reducible repeat (first | apply Kd.R_alloc | apply Kd.R_drewN | apply Kd.R_drew)); exact Kd.R_mono HO_223000.out (fun _ hk => hk.2)))
         (case aS => exact (keep_size (w := w) (g := g) (row := none) (zh HK)))
         (case aL => have := LMc63.out; omega)
         intro v259 w71 ho hb hg hat
         rw [← Ny258.out] at ho
         replace BK212 := Aside0.mk (blk_grown (g := gb212) (o := .cells #[.slice none 0 0, .int .i64 0] 25 (0, 0)) (zk BK212) hg (Kd.R_ne HO_223000.out BK212.out (by decide)))
         replace BK222 := Aside0.mk (blk_grown (g := gb222) (o := .cells #[u223000, .int .i64 x223001_1] 25 (0, 0)) (zk BK222) hg (Kd.R_ne HO_223000.out BK222.out (by decide)))
         replace HI0 := Aside0.mk (IsS85.grown (zi85 HI0) hg (IsS85.own_ne HI0.out HO_223000.out (by decide)))
         replace HO257 := Aside0.mk (Kd.R_after (ok := (fun _ => True)) (zr HO257) hg hat)
         replace HB := Aside0.mk (below_weaken (zg85 HB) HL.out hb)
         replace HK := Aside0.mk (KeepBut.trans (zh HK) (KeepBut.of_grown hg g) (Kd.R_base2 HO_223000.out))
         have HO260 := Aside0.mk (ho)
         clear HO_223000
         clear ho hb hg hat
         obtain ⟨Ao73, co73, eo73⟩ := Kd.R_slice HO260.out
         (first | subst eo73 | (injection eo73 with f1_ f2_ f3_; have f4_ := f1_.symm; have f5_ := f3_.symm; clear f1_ f2_ f3_; subst f4_; subst f5_))
         refine hK.out _ _ ⟨(blk_cell BK222.out 0).trans rfl, (blk_cell BK222.out 1).trans rfl⟩ (fun hHeld => ?_)
         clear hK K
         refine nm ?_
         refine pu 10 (some 48) (bm 12 2047) rfl rfl ?_
         refine last_ (i := 11) (N := none) #[true, true, true, true, true, true, true, true, true, true, true, true] rfl rfl (one_of HT_.out (by kernel_rfl)) (by decide) (fun K hK => ?_)
         have hs74 : w71.cell? ⟨gb222, 0, none⟩ = some (u223000) := (blk_cell BK222.out 0).trans rfl
         have hfs74 := blk_frozen BK222.out 0
         have hns74_0 := NB212_222.out
         have hms74_0 := NB222_212.out
         refine skip_ (w1 := ?_) (by rfl) rfl ?_ ?_
         rotate_left
         ·go_simp
          rfl
         refine hK.out _ _ ?_
         clear hK K
         refine done_ (done_of HT_.out (by kernel_rfl)) ?_
         have hnb75 := NB222_212.out
         have hnc75 := NB212_222.out
         have hnb76 := NB222_0.out
         have hnc76 := NB0_222.out
         have hcz77_0 : w71.cell? ⟨gb222, 0, none⟩ = some (u223000) := (blk_cell BK222.out 0).trans rfl
         have hcz77_1 : w71.cell? ⟨gb222, 1, none⟩ = some (.int .i64 x223001_1) := (blk_cell BK222.out 1).trans rfl
         have hfz77_0 := blk_frozen BK222.out 0
         have hfz77_1 := blk_frozen BK222.out 1
         have hnb78 := NB212_0.out
         have hnc78 := NB0_212.out
         have hcz79_0 : w71.cell? ⟨gb212, 0, none⟩ = some (.slice none 0 0) := (blk_cell BK212.out 0).trans rfl
         have hcz79_1 : w71.cell? ⟨gb212, 1, none⟩ = some (.int .i64 0) := (blk_cell BK212.out 1).trans rfl
         have hfz79_0 := blk_frozen BK212.out 0
         have hfz79_1 := blk_frozen BK212.out 1
         try go_wp2
         refine bodyPost_ret (results_cell_row rfl _ _ gb212 25 #[.slice Ao73 y258.length co73, .int .i64 x223001_1] (0, 0) _ rfl (by (with_reducible repeat (first | refine blk_drewN ?_ _ | refine blk_drew ?_ | refine blk_alloc ?_ _)); refine blk_put (cs := #[.slice Ao73 y258.length co73, .int .i64 0]) ?_ 1 _ rfl; (with_reducible repeat (first | refine blk_drewN ?_ _ | refine blk_drew ?_ | refine blk_alloc ?_ _)); refine blk_put (cs := #[.slice none 0 0, .int .i64 0]) ?_ 0 _ rfl; (with_reducible repeat (first | refine blk_drewN ?_ _ | refine blk_drew ?_ | refine blk_alloc ?_ _)); refine blk_far ?_ NB212_222.out _; exact zk BK212) Try.underlying25 rfl (by kernel_rfl)) rfl ?_
         exact ⟨_, ze, by (with_reducible repeat (first | apply Kd.R_alloc | apply Kd.R_drewN | apply Kd.R_drew)); exact Kd.R_mono (Kd.R_far (p := ⟨gb212, 1, none⟩) (Kd.R_far (p := ⟨gb212, 0, none⟩) (Kd.R_far (p := ⟨gb222, 0, none⟩) (Kd.R_types (Kd.R_types HO260.out BK222.out (by decide)) BK212.out (by decide)) (fun _ hk => hk.1.2) (.slice Ao73 y258.length co73)) (fun _ hk => hk.2) (.slice Ao73 y258.length co73)) (fun _ hk => hk.2) (.int .i64 x223001_1)) (fun _ hk => trivial), zi85 HI0, zg85 HB, zh HK⟩
        ·rw [if_neg c63] at H
         exact absurd H (by simp)
       ·rw [if_neg c59] at H
        have c59b0 : (t235 == 1) = false := beq_eq_false_iff_ne.mpr c59
        have c59b1 : (t235 != 1) = true := bne_iff_ne.mpr c59
        simp only [Option.some.injEq, Prod.mk.injEq] at H
        obtain ⟨rfl, rfl, rfl⟩ := H
        go_wp2_with (first | ((with_reducible refine gq 47 rfl ?_); refine gl (some 27) Try.func47 #[.pointer (some ⟨g, 0, none⟩), .int .i64 24] ?_; (with_reducible refine (spec_l6Rd_pick.calls k1 g s0_0 x1001_1 24 t235 t236 w0 _ ?side1 ?side2 A43.out).mono ?_); (case side1 => exact zi85 HI0); (case side2 => exact zg85 HB); rintro e w80 ⟨rfl, hi, hb, hk⟩; refine ⟨_, rfl, ?_⟩; replace HO_223000 := Aside0.mk (Kd.R_mono (Kd.R_keep (IsS85.apart (show IsS85 w0 _ g s0_0 x1001_1 from zi85 HI0) (zr HO_223000) (by decide)) hk (fun _ h => h.2)) (fun _ h => h.1)); replace BK212 := Aside0.mk (KeepBut.blk hk (g' := gb212) (o := .cells #[.slice none 0 0, .int .i64 0] 25 (0, 0)) (zk BK212) NB212_0.out (by simp)); replace BK222 := Aside0.mk (KeepBut.blk hk (g' := gb222) (o := .cells #[u223000, .int .i64 x223001_1] 25 (0, 0)) (zk BK222) NB222_0.out (by simp)); replace HK := Aside0.mk (KeepBut.trans (zh HK) hk (.inl rfl)); replace HB := Aside0.mk (hb); replace HI0 := Aside0.mk (hi); (try clear hb); (try clear hk); (try clear hi); have hnb81 := NB222_212.out; have hnc81 := NB212_222.out; have hnb82 := NB222_0.out; have hnc82 := NB0_222.out; have hcz83_0 : w80.cell? ⟨gb222, 0, none⟩ = some (u223000) := (blk_cell BK222.out 0).trans rfl; have hcz83_1 : w80.cell? ⟨gb222, 1, none⟩ = some (.int .i64 x223001_1) := (blk_cell BK222.out 1).trans rfl; have hfz83_0 := blk_frozen BK222.out 0; have hfz83_1 := blk_frozen BK222.out 1; obtain ⟨Ao84, co84, eo84⟩ := Kd.R_slice HO_223000.out; subst eo84; have hnb85 := NB212_0.out; have hnc85 := NB0_212.out; have hcz86_0 : w80.cell? ⟨gb212, 0, none⟩ = some (.slice none 0 0) := (blk_cell BK212.out 0).trans rfl; have hcz86_1 : w80.cell? ⟨gb212, 1, none⟩ = some (.int .i64 0) := (blk_cell BK212.out 1).trans rfl; have hfz86_0 := blk_frozen BK212.out 0; have hfz86_1 := blk_frozen BK212.out 1))
        refine bodyPost_ret (results_cell_row rfl _ _ gb212 25 #[.slice Ao84 x223000_1.length co84, .int .i64 x223001_1] (0, 0) _ rfl (by (with_reducible repeat (first | refine blk_drewN ?_ _ | refine blk_drew ?_ | refine blk_alloc ?_ _)); refine blk_put (cs := #[.slice Ao84 x223000_1.length co84, .int .i64 0]) ?_ 1 _ rfl; (with_reducible repeat (first | refine blk_drewN ?_ _ | refine blk_drew ?_ | refine blk_alloc ?_ _)); refine blk_put (cs := #[.slice none 0 0, .int .i64 0]) ?_ 0 _ rfl; exact zk BK212) Try.underlying25 rfl (by kernel_rfl)) rfl ?_
        exact ⟨_, ze, by (with_reducible repeat (first | apply Kd.R_alloc | apply Kd.R_drewN | apply Kd.R_drew)); exact Kd.R_mono (Kd.R_far (p := ⟨gb212, 1, none⟩) (Kd.R_far (p := ⟨gb212, 0, none⟩) (Kd.R_types HO_223000.out BK212.out (by decide)) (fun _ hk => hk.2) (.slice Ao84 x223000_1.length co84)) (fun _ hk => hk.2) (.int .i64 x223001_1)) (fun _ hk => trivial), zi85 HI0, zg85 HB, zh HK⟩
  ·rw [if_neg c4] at H
   exact absurd H (by simp)
 ·rw [if_neg c3] at H
  exact absurd H (by simp)

/-! ### spec_DrawTableAdd: function 29 -/
-- thin
def spec_DrawTableAdd.f (k : Nat) (l0 : List Int) : Option ((List (S36)) × Int × ByteArray × ByteArray × Bool) := (spec_l6Open.f l0).bind fun bt263 => ((spec_l71Table.f k bt263.1 bt263.2).bind fun bt266 => ((spec_l71Field.f k bt263.1 bt266.2.2).bind fun bt271 => (some (bt266.1, bt266.2.1, bt271.1, bt271.2.1, bt271.2.2.1))))
theorem spec_DrawTableAdd.mono : ∀ a0 k, LeO (spec_DrawTableAdd.f k a0) (spec_DrawTableAdd.f (k + 1) a0) := by
 intro a0 k
 unfold spec_DrawTableAdd.f
 repeat' first
   | (with_reducible exact spec_l71Field.mono _ _ _)
   | (with_reducible exact spec_l71Table.mono _ _ _)
   | (with_reducible exact LeO.refl _)
   | (with_reducible exact LeO.none _)
   | (with_reducible refine LeO.ite ?_ ?_)
   | (with_reducible refine LeO.bind ?_ (fun _ => ?_))
   | exact spec_l71Field.mono _ _ _
   | exact spec_l71Table.mono _ _ _
   | exact LeO.none _
   | refine LeO.ite ?_ ?_
   | refine LeO.bind ?_ (fun _ => ?_)
set_option maxHeartbeats 8000000 in
set_option maxRecDepth 100000 in
theorem spec_DrawTableAdd.calls (k : Nat) (A0 : Option Addr) (c0 : Nat) (l0 : List Int) (r1 : List (S36)) (r2 : Int) (r3 : ByteArray) (r4 : ByteArray) (r5 : Bool) (w : World) (hr0 : Kd.C (Kd.int .u8) w A0 l0.length l0) (hc0 : l0.length ≤ c0) (h : spec_DrawTableAdd.f k l0 = some (r1, r2, r3, r4, r5)) :
  Calls Try.prog 29 #[.slice A0 l0.length c0] w fun e w' => ∃ v0_ : Value, e = .returned (.tuple #[.agg #[v0_, .int .i64 r2], .agg #[.string r3, .string r4, .bool r5]]) ∧ Kd.R k36 36 w' w.heap.size (fun _ => True) v0_ r1 ∧ Below w.heap.size w w' := by
 have hu25 := Try.underlying25
 have hu36 := Try.underlying36
 have HR0 := Aside0.mk hr0
 have HC0 := Aside0.mk hc0
 clear hr0 hc0
 have HB := Aside0.mk (Below.refl w.heap.size w)
 have H : ((spec_l6Open.f l0).bind fun bt263 => ((spec_l71Table.f k bt263.1 bt263.2).bind fun bt266 => ((spec_l71Field.f k bt263.1 bt266.2.2).bind fun bt271 => (some (bt266.1, bt266.2.1, bt271.1, bt271.2.1, bt271.2.2.1))))) = some (r1, r2, r3, r4, r5) := h
 clear h
 replace H := Option.bind_eq_some_iff.mp H
 obtain ⟨⟨t263, t264⟩, A20, H⟩ := H
 replace H : ((spec_l71Table.f k t263 t264).bind fun bt266 => ((spec_l71Field.f k t263 bt266.2.2).bind fun bt271 => (some (bt266.1, bt266.2.1, bt271.1, bt271.2.1, bt271.2.2.1)))) = some (r1, r2, r3, r4, r5) := H
 have A2 := Aside0.mk A20
 clear A20
 replace H := Option.bind_eq_some_iff.mp H
 obtain ⟨⟨t266, t269, t270⟩, A30, H⟩ := H
 replace H : ((spec_l71Field.f k t263 t270).bind fun bt271 => (some (t266, t269, bt271.1, bt271.2.1, bt271.2.2.1))) = some (r1, r2, r3, r4, r5) := H
 have A3 := Aside0.mk A30
 clear A30
 replace H := Option.bind_eq_some_iff.mp H
 obtain ⟨⟨t271, t272, t273, t274⟩, A40, H⟩ := H
 replace H : (some (t266, t269, t271, t272, t273)) = some (r1, r2, r3, r4, r5) := H
 have A4 := Aside0.mk A40
 clear A40
 simp only [Option.some.injEq, Prod.mk.injEq] at H
 obtain ⟨rfl, rfl, rfl, rfl, rfl⟩ := H
 go_enter Try.func29, Try.ntmps29
 go_wp2_with (first | ((with_reducible refine gd 2 rfl ?_); refine bx (N := 2) (cs := #[.slice none 0 0, .int .i64 0]) (t := 25) ?_; intro gb261 hg w5 hbox hb; have BK261 := Aside0.mk (hbox); have GW261 := Aside0.mk ((by rw [hg]; exact (below_size (zb HB)) : w.heap.size ≤ gb261)); have GE261 := Aside0.mk ((by rw [hg]; exact (below_size (zb HB)) : w.heap.size ≤ gb261)); replace HB := Aside0.mk (below_step (zb HB) hb); clear hb hbox hg) | ((with_reducible refine gd 3 rfl ?_); refine bx (N := 3) (cs := #[.string (⟨#[]⟩ : ByteArray), .string (⟨#[]⟩ : ByteArray), .bool false]) (t := 36) ?_; intro gb262 hg w6 hbox hb; have BK262 := Aside0.mk (hbox); have GW262 := Aside0.mk ((by rw [hg]; exact (below_size (zb HB)) : w.heap.size ≤ gb262)); have GE262 := Aside0.mk ((by rw [hg]; exact (below_size (zb HB)) : w.heap.size ≤ gb262)); replace HB := Aside0.mk (below_step (zb HB) hb); have NB261_262 := Aside0.mk ((by rw [hg]; exact Nat.ne_of_lt (blk_lt (g := gb261) (o := .cells #[.slice none 0 0, .int .i64 0] 25 (0, 0)) (zk BK261)) : gb261 ≠ gb262)); have NB262_261 := Aside0.mk ((by rw [hg]; exact Nat.ne_of_gt (blk_lt (g := gb261) (o := .cells #[.slice none 0 0, .int .i64 0] 25 (0, 0)) (zk BK261)) : gb262 ≠ gb261)); replace BK261 := Aside0.mk (blk_below (g := gb261) (o := .cells #[.slice none 0 0, .int .i64 0] 25 (0, 0)) (zk BK261) hb); clear hb hbox hg) | ((with_reducible refine gq 45 rfl ?_); refine gl (some 6) Try.func45 #[.slice A0 l0.length c0] ?_; (with_reducible refine (spec_l6Open.calls _ _ l0 t263 t264 w _ ?side1 ?side2 ?side3 A2.out).mono ?_); (case side1 => exact zb HB); (case side2 => exact HR0.out); (case side3 => exact HC0.out); rintro e w7 ⟨g265, rfl, hi, hb, hb2⟩; refine ⟨_, rfl, ?_⟩; replace HB := Aside0.mk (hb); have HI265 := Aside0.mk (hi); have NB265_261 := Aside0.mk (IsS85.ne_blk hi (blk_below (g := gb261) (o := .cells #[.slice none 0 0, .int .i64 0] 25 (0, 0)) (zk BK261) hb2) (by decide)); have NB261_265 := Aside0.mk (Ne.symm (IsS85.ne_blk hi (blk_below (g := gb261) (o := .cells #[.slice none 0 0, .int .i64 0] 25 (0, 0)) (zk BK261) hb2) (by decide))); replace BK261 := Aside0.mk (blk_below (g := gb261) (o := .cells #[.slice none 0 0, .int .i64 0] 25 (0, 0)) (zk BK261) hb2); have NB265_262 := Aside0.mk (IsS85.ne_blk hi (blk_below (g := gb262) (o := .cells #[.string (⟨#[]⟩ : ByteArray), .string (⟨#[]⟩ : ByteArray), .bool false] 36 (0, 0)) (zk BK262) hb2) (by decide)); have NB262_265 := Aside0.mk (Ne.symm (IsS85.ne_blk hi (blk_below (g := gb262) (o := .cells #[.string (⟨#[]⟩ : ByteArray), .string (⟨#[]⟩ : ByteArray), .bool false] 36 (0, 0)) (zk BK262) hb2) (by decide))); replace BK262 := Aside0.mk (blk_below (g := gb262) (o := .cells #[.string (⟨#[]⟩ : ByteArray), .string (⟨#[]⟩ : ByteArray), .bool false] 36 (0, 0)) (zk BK262) hb2); (try clear hb); (try clear hb2); (try clear hi)) | ((with_reducible refine gq 46 rfl ?_); refine gl (some 8) Try.func46 #[.pointer (some ⟨g265, 0, none⟩)] ?_; (with_reducible refine (spec_l71Table.calls k g265 t263 t264 t266 t269 t270 w _ ?side1 ?side2 A3.out).mono ?_); (case side1 => exact zi85 HI265); (case side2 => exact zg85 HB); rintro e w8 ⟨v267, rfl, ho0, hi, hb, hk⟩; refine ⟨_, rfl, ?_⟩; replace BK261 := Aside0.mk (KeepBut.blk hk (g' := gb261) (o := .cells #[.slice none 0 0, .int .i64 0] 25 (0, 0)) (zk BK261) NB261_265.out (by simp)); have HO268 := Aside0.mk (Kd.R_lower (Kd.R_newB ho0 (g := gb262) (o := .cells #[.string (⟨#[]⟩ : ByteArray), .string (⟨#[]⟩ : ByteArray), .bool false] 36 (0, 0)) (zk BK262)) (below_size (zg85 HB))); replace BK262 := Aside0.mk (KeepBut.blk hk (g' := gb262) (o := .cells #[.string (⟨#[]⟩ : ByteArray), .string (⟨#[]⟩ : ByteArray), .bool false] 36 (0, 0)) (zk BK262) NB262_265.out (by simp)); replace HB := Aside0.mk (hb); replace HI265 := Aside0.mk (hi); (try clear hb); (try clear hk); (try clear hi); (try clear ho0)) | ((with_reducible refine gq 58 rfl ?_); refine gl (some 10) Try.func58 #[.pointer (some ⟨g265, 0, none⟩)] ?_; (with_reducible refine (spec_l71Field.calls k g265 t263 t270 t271 t272 t273 t274 w _ ?side1 ?side2 A4.out).mono ?_); (case side1 => exact zi85 HI265); (case side2 => exact zg85 HB); rintro e w9 ⟨rfl, hi, hb, hk⟩; refine ⟨_, rfl, ?_⟩; replace BK261 := Aside0.mk (KeepBut.blk hk (g' := gb261) (o := .cells #[.slice none 0 0, .int .i64 0] 25 (0, 0)) (zk BK261) NB261_265.out (by simp)); replace BK262 := Aside0.mk (KeepBut.blk hk (g' := gb262) (o := .cells #[.string (⟨#[]⟩ : ByteArray), .string (⟨#[]⟩ : ByteArray), .bool false] 36 (0, 0)) (zk BK262) NB262_265.out (by simp)); replace HO268 := Aside0.mk (Kd.R_mono (Kd.R_keep (IsS85.apart (show IsS85 w _ g265 t263 t270 from zi85 HI265) (zr HO268) (by decide)) hk (fun _ h => h.2)) (fun _ h => h.1)); replace HB := Aside0.mk (hb); replace HI265 := Aside0.mk (hi); (try clear hb); (try clear hk); (try clear hi); obtain ⟨Ao10, co10, eo10⟩ := Kd.R_slice HO268.out; subst eo10; have hnb11 := NB261_262.out; have hnc11 := NB262_261.out; have hnb12 := NB261_265.out; have hnc12 := NB265_261.out; have hcz13_0 : w9.cell? ⟨gb261, 0, none⟩ = some (.slice none 0 0) := (blk_cell BK261.out 0).trans rfl; have hcz13_1 : w9.cell? ⟨gb261, 1, none⟩ = some (.int .i64 0) := (blk_cell BK261.out 1).trans rfl; have hfz13_0 := blk_frozen BK261.out 0; have hfz13_1 := blk_frozen BK261.out 1; have hnb14 := NB262_265.out; have hnc14 := NB265_262.out; have hcz15_0 : w9.cell? ⟨gb262, 0, none⟩ = some (.string (⟨#[]⟩ : ByteArray)) := (blk_cell BK262.out 0).trans rfl; have hcz15_1 : w9.cell? ⟨gb262, 1, none⟩ = some (.string (⟨#[]⟩ : ByteArray)) := (blk_cell BK262.out 1).trans rfl; have hcz15_2 : w9.cell? ⟨gb262, 2, none⟩ = some (.bool false) := (blk_cell BK262.out 2).trans rfl; have hfz15_0 := blk_frozen BK262.out 0; have hfz15_1 := blk_frozen BK262.out 1; have hfz15_2 := blk_frozen BK262.out 2))
 refine bodyPost_ret (results_cc rfl _ _ gb261 gb262 25 36 #[.slice Ao10 t266.length co10, .int .i64 t269] #[.string t271, .string t272, .bool t273] (0, 0) (0, 0) _ _ rfl (by (with_reducible repeat (first | refine blk_drewN ?_ _ | refine blk_drew ?_ | refine blk_alloc ?_ _)); refine blk_far ?_ NB261_262.out _; (with_reducible repeat (first | refine blk_drewN ?_ _ | refine blk_drew ?_ | refine blk_alloc ?_ _)); refine blk_far ?_ NB261_262.out _; (with_reducible repeat (first | refine blk_drewN ?_ _ | refine blk_drew ?_ | refine blk_alloc ?_ _)); refine blk_far ?_ NB261_262.out _; (with_reducible repeat (first | refine blk_drewN ?_ _ | refine blk_drew ?_ | refine blk_alloc ?_ _)); refine blk_put (cs := #[.slice Ao10 t266.length co10, .int .i64 0]) ?_ 1 _ rfl; (with_reducible repeat (first | refine blk_drewN ?_ _ | refine blk_drew ?_ | refine blk_alloc ?_ _)); refine blk_put (cs := #[.slice none 0 0, .int .i64 0]) ?_ 0 _ rfl; exact zk BK261) Try.underlying25 rfl (by kernel_rfl) rfl (by (with_reducible repeat (first | refine blk_drewN ?_ _ | refine blk_drew ?_ | refine blk_alloc ?_ _)); refine blk_put (cs := #[.string t271, .string t272, .bool false]) ?_ 2 _ rfl; (with_reducible repeat (first | refine blk_drewN ?_ _ | refine blk_drew ?_ | refine blk_alloc ?_ _)); refine blk_put (cs := #[.string t271, .string (⟨#[]⟩ : ByteArray), .bool false]) ?_ 1 _ rfl; (with_reducible repeat (first | refine blk_drewN ?_ _ | refine blk_drew ?_ | refine blk_alloc ?_ _)); refine blk_put (cs := #[.string (⟨#[]⟩ : ByteArray), .string (⟨#[]⟩ : ByteArray), .bool false]) ?_ 0 _ rfl; (with_reducible repeat (first | refine blk_drewN ?_ _ | refine blk_drew ?_ | refine blk_alloc ?_ _)); refine blk_far ?_ NB262_261.out _; (with_reducible repeat (first | refine blk_drewN ?_ _ | refine blk_drew ?_ | refine blk_alloc ?_ _)); refine blk_far ?_ NB262_261.out _; exact zk BK262) Try.underlying36 rfl (by kernel_rfl)) rfl ?_
 exact ⟨_, ze, by (with_reducible repeat (first | apply Kd.R_alloc | apply Kd.R_drewN | apply Kd.R_drew)); exact Kd.R_mono (Kd.R_far (p := ⟨gb262, 2, none⟩) (Kd.R_far (p := ⟨gb262, 1, none⟩) (Kd.R_far (p := ⟨gb262, 0, none⟩) (Kd.R_far (p := ⟨gb261, 1, none⟩) (Kd.R_far (p := ⟨gb261, 0, none⟩) (Kd.R_mono (Kd.R_types HO268.out BK261.out (by decide)) (fun k_ hk => (⟨hk, hk.1.2⟩ : _ ∧ k_ ≠ gb262))) (fun _ hk => hk.1.2) (.slice Ao10 t266.length co10)) (fun _ hk => hk.1.2) (.int .i64 t269)) (fun _ hk => hk.2) (.string t271)) (fun _ hk => hk.2) (.string t272)) (fun _ hk => hk.2) (.bool t273)) (fun _ hk => trivial), zg85 HB⟩

/-! ### impl_cloneFields: function 84 -/
-- by hand
/-- A row like the one that came in. -/
def impl_cloneFields.f (l0 : List (S36)) : Option (List (S36)) := if l0.length < 3518437208883 then some l0 else none
set_option maxHeartbeats 4000000 in
set_option maxRecDepth 100000 in
theorem impl_cloneFields.calls (A0 : Option Addr) (c0 : Nat) (l0 : List (S36)) (r : List (S36)) (w : World) (hr0 : Kd.C k36 w A0 l0.length l0) (hc0 : l0.length ≤ c0) (h : impl_cloneFields.f l0 = some r) :
    Calls Try.prog 84 #[.slice A0 l0.length c0] w fun e w' => ∃ v0_ : Value, e = .returned (v0_) ∧ Kd.R k36 36 w' w.heap.size (fun _ => True) v0_ r ∧ Below w.heap.size w w' := by
  unfold impl_cloneFields.f at h
  split at h
  case isFalse => cases h
  rename_i hl
  obtain rfl := Option.some.inj h
  clear h
  have HR0 := Aside0.mk hr0
  clear hr0
  go_enter Try.func84, Try.ntmps84
  go_wp2_with (first | (at_builtin; refine Kd.R_append_rows k36 (w0 := w) w.heap.size rfl (.const (.slice none 0 0)) (.tmp 3) 23 36 (.agg #[(.string ⟨#[]⟩), (.string ⟨#[]⟩), (.bool false)]) 40 rfl Try.underlying23 info36 rfl (by decide) (by omega) (.slice none 0 0) [] l0 _ _ _ (fun _ => True) (fun _ => False) rfl rfl ?aO ?aR (fun _ _ h => h) (fun _ h => h.elim) ?aF ?aB ?aS ?aL ?_; (case aR => exact HR0.out); (case aB => exact Below.refl _ _); (case aF => exact (fun _ _ => trivial)); (case aO => exact Kd.R_nil _ _ _ _ _); (case aS => exact Nat.le_refl _); (case aL => simp only [List.length_nil]; omega); intro v1 w1 ho hb hg hat; rw [List.nil_append] at ho; have N1 := Aside0.mk ho; have N2 := Aside0.mk hb; clear ho hb hg hat))
  go_ret
  exact ⟨_, rfl, N1.out, N2.out⟩

/-! ### impl_Table_clone: function 69 -/
-- thin
def impl_Table_clone.f (l0_0 : List (S36)) (a0_1 : Int) : Option ((List (S36)) × Int) := (impl_cloneFields.f l0_0).bind fun t277 => (some (t277, a0_1))
set_option maxHeartbeats 8000000 in
set_option maxRecDepth 100000 in
theorem impl_Table_clone.calls (A0_0 : Option Addr) (c0_0 : Nat) (l0_0 : List (S36)) (a0_1 : Int) (r1 : List (S36)) (r2 : Int) (w : World) (hr0_0 : Kd.C k36 w A0_0 l0_0.length l0_0) (hc0_0 : l0_0.length ≤ c0_0) (h : impl_Table_clone.f l0_0 a0_1 = some (r1, r2)) :
  Calls Try.prog 69 #[.agg #[.slice A0_0 l0_0.length c0_0, .int .i64 a0_1]] w fun e w' => ∃ v0_ : Value, e = .returned (.agg #[v0_, .int .i64 r2]) ∧ Kd.R k36 36 w' w.heap.size (fun _ => True) v0_ r1 ∧ Below w.heap.size w w' := by
 have hu25 := Try.underlying25
 have HR0_0 := Aside0.mk hr0_0
 have HC0_0 := Aside0.mk hc0_0
 clear hr0_0 hc0_0
 have HB := Aside0.mk (Below.refl w.heap.size w)
 have H : ((impl_cloneFields.f l0_0).bind fun t277 => (some (t277, a0_1))) = some (r1, r2) := h
 clear h
 replace H := Option.bind_eq_some_iff.mp H
 obtain ⟨t277, A20, H⟩ := H
 replace H : (some (t277, a0_1)) = some (r1, r2) := H
 have A2 := Aside0.mk A20
 clear A20
 simp only [Option.some.injEq, Prod.mk.injEq] at H
 obtain ⟨rfl, rfl⟩ := H
 go_enter Try.func69, Try.ntmps69
 try go_wp2_with (first | ((with_reducible refine gd 1 rfl ?_); refine bx (N := 1) (cs := #[.slice A0_0 l0_0.length c0_0, .int .i64 a0_1]) (t := 25) ?_; intro gb275 hg w3 hbox hb; have BK275 := Aside0.mk (hbox); have GW275 := Aside0.mk ((by rw [hg]; exact (below_size (zb HB)) : w.heap.size ≤ gb275)); have GE275 := Aside0.mk ((by rw [hg]; exact (below_size (zb HB)) : w.heap.size ≤ gb275)); replace HB := Aside0.mk (below_step (zb HB) hb); clear hb hbox hg) | ((with_reducible refine gd 2 rfl ?_); refine bx (N := 2) (cs := #[.slice none 0 0, .int .i64 0]) (t := 25) ?_; intro gb276 hg w4 hbox hb; have BK276 := Aside0.mk (hbox); have GW276 := Aside0.mk ((by rw [hg]; exact (below_size (zb HB)) : w.heap.size ≤ gb276)); have GE276 := Aside0.mk ((by rw [hg]; exact (below_size (zb HB)) : w.heap.size ≤ gb276)); replace HB := Aside0.mk (below_step (zb HB) hb); have NB275_276 := Aside0.mk ((by rw [hg]; exact Nat.ne_of_lt (blk_lt (g := gb275) (o := .cells #[.slice A0_0 l0_0.length c0_0, .int .i64 a0_1] 25 (0, 0)) (zk BK275)) : gb275 ≠ gb276)); have NB276_275 := Aside0.mk ((by rw [hg]; exact Nat.ne_of_gt (blk_lt (g := gb275) (o := .cells #[.slice A0_0 l0_0.length c0_0, .int .i64 a0_1] 25 (0, 0)) (zk BK275)) : gb276 ≠ gb275)); replace BK275 := Aside0.mk (blk_below (g := gb275) (o := .cells #[.slice A0_0 l0_0.length c0_0, .int .i64 a0_1] 25 (0, 0)) (zk BK275) hb); clear hb hbox hg))
 replace BK275 := Aside0.mk (blk_drew BK275.out)
 replace BK276 := Aside0.mk (blk_drew BK276.out)
 replace HB := Aside0.mk (below_drew1 HB.out)
 refine start_ (n := 7) (S := fun w' => w'.cell? ⟨gb275, 0, none⟩ = some (.slice A0_0 l0_0.length c0_0) ∧ w'.cell? ⟨gb275, 1, none⟩ = some (.int .i64 a0_1)) (ds := []) #[false, false, false, false, false, false, false] (by kernel_rfl) rfl rfl ⟨(blk_cell BK275.out 0).trans rfl, (blk_cell BK275.out 1).trans rfl⟩ (fun hHeld => ?_)
 generalize w4.drew = w5 at BK275 BK276 HB hHeld ⊢
 refine pu 0 (some 3) (bm 7 1) rfl rfl ?_
 refine pu 3 (some 6) (bm 7 9) rfl rfl ?_
 refine tk2 1 (some 4) (bm 7 11) rfl rfl hHeld ?_
 refine tk2 4 (some 7) (bm 7 27) rfl rfl hHeld ?_
 refine one_ (i := 2) (N := some 5) (bm 7 31) rfl rfl (by kernel_rfl) (by decide) (fun K hK => ?_)
 refine gs Try.func84 #[.slice A0_0 l0_0.length c0_0] ?_
 with_reducible refine (impl_cloneFields.calls _ _ l0_0 t277 _ ?side1 ?side2 A2.out).mono ?_
 (case side1 => exact zc (Kd.C_below HR0_0.out HB.out))
 (case side2 => exact HC0_0.out)
 rintro e w6 ⟨v278, rfl, ho0, hb⟩
 refine ⟨_, rfl, ?_⟩
 have HO279 := Aside0.mk (Kd.R_lower ho0 (below_size (zb HB)))
 replace BK275 := Aside0.mk (blk_below (g := gb275) (o := .cells #[.slice A0_0 l0_0.length c0_0, .int .i64 a0_1] 25 (0, 0)) (zk BK275) hb)
 replace BK276 := Aside0.mk (blk_below (g := gb276) (o := .cells #[.slice none 0 0, .int .i64 0] 25 (0, 0)) (zk BK276) hb)
 replace HB := Aside0.mk (below_step (zb HB) hb)
 (try clear hb)
 (try clear ho0)
 obtain ⟨Ao7, co7, eo7⟩ := Kd.R_slice HO279.out
 (first | subst eo7 | (injection eo7 with f1_ f2_ f3_; have f4_ := f1_.symm; have f5_ := f3_.symm; clear f1_ f2_ f3_; subst f4_; subst f5_))
 refine hK.out _ _ ⟨(blk_cell BK275.out 0).trans rfl, (blk_cell BK275.out 1).trans rfl⟩ (fun hHeld => ?_)
 clear hK K
 refine nm ?_
 refine pu 5 (some 8) (bm 7 63) rfl rfl ?_
 refine one_ (i := 6) (N := none) (bm 7 127) rfl rfl (by kernel_rfl) (by decide) (fun K hK => ?_)
 have hs8 : w6.cell? ⟨gb276, 0, none⟩ = some (.slice none 0 0) := (blk_cell BK276.out 0).trans rfl
 have hfs8 := blk_frozen BK276.out 0
 have hns8_0 := NB275_276.out
 have hms8_0 := NB276_275.out
 have hs9 : w6.cell? ⟨gb276, 1, none⟩ = some (.int .i64 0) := (blk_cell BK276.out 1).trans rfl
 have hfs9 := blk_frozen BK276.out 1
 have hns9_0 := NB275_276.out
 have hms9_0 := NB276_275.out
 refine skip_ (w1 := ?_) (by rfl) rfl ?_ ?_
 rotate_left
 ·go_simp
  rfl
 refine hK.out _ _ ⟨((cell_far (p := ⟨gb276, _, none⟩) NB275_276.out _).trans (((cell_far (p := ⟨gb276, _, none⟩) NB275_276.out _).trans (hHeld.1)))), ((cell_far (p := ⟨gb276, _, none⟩) NB275_276.out _).trans (((cell_far (p := ⟨gb276, _, none⟩) NB275_276.out _).trans (hHeld.2))))⟩ (fun hHeld => ?_)
 clear hK K
 refine done_ (by kernel_rfl) ?_
 try go_wp2
 refine bodyPost_ret (results_cell_row rfl _ _ gb276 25 #[.slice Ao7 t277.length co7, .int .i64 a0_1] (0, 0) _ rfl (by (with_reducible repeat (first | refine blk_drewN ?_ _ | refine blk_drew ?_ | refine blk_alloc ?_ _)); refine blk_put (cs := #[.slice Ao7 t277.length co7, .int .i64 0]) ?_ 1 _ rfl; (with_reducible repeat (first | refine blk_drewN ?_ _ | refine blk_drew ?_ | refine blk_alloc ?_ _)); refine blk_put (cs := #[.slice none 0 0, .int .i64 0]) ?_ 0 _ rfl; exact zk BK276) Try.underlying25 rfl (by kernel_rfl)) rfl ?_
 exact ⟨_, ze, by (with_reducible repeat (first | apply Kd.R_alloc | apply Kd.R_drewN | apply Kd.R_drew)); exact Kd.R_mono (Kd.R_far (p := ⟨gb276, 1, none⟩) (Kd.R_far (p := ⟨gb276, 0, none⟩) (Kd.R_types HO279.out BK276.out (by decide)) (fun _ hk => hk.2) (.slice Ao7 t277.length co7)) (fun _ hk => hk.2) (.int .i64 a0_1)) (fun _ hk => trivial), zb HB⟩

/-! ### impl_Table_fit: function 49 -/
-- thin
def impl_Table_fit.l0 : Nat → List (S36) → Int → Option ((List (S36)) × Int)
 | 0, _, _ => none
 | k + 1, x287000, x287001 => (impl_Table_size.f k x287000 x287001).bind fun t287 => (if t287 > x287001 then (if 0 ≤ (wrap64 ((x287000.length : Int) - 1)) then (if (wrap64 ((x287000.length : Int) - 1)) ≤ (x287000.length : Int) then (impl_Table_fit.l0 k (x287000.take ((wrap64 ((x287000.length : Int) - 1)) : Int).toNat) x287001) else (none)) else (none)) else ((impl_Table_clone.f x287000 x287001).bind fun bt291 => (some (bt291.1, bt291.2))))
def impl_Table_fit.f (k : Nat) (l0_0 : List (S36)) (a0_1 : Int) : Option ((List (S36)) × Int) := (impl_Table_clone.f l0_0 a0_1).bind fun bt282 => (impl_Table_fit.l0 k bt282.1 bt282.2)
theorem impl_Table_fit.mono_l : ∀ k, (∀ y0 y1, LeO (impl_Table_fit.l0 k y0 y1) (impl_Table_fit.l0 (k + 1) y0 y1))
 | 0 => fun _ _ r h => by simp [impl_Table_fit.l0] at h
 | k + 1 => by
  have ih0 := impl_Table_fit.mono_l k
  ·intro y0 y1
   unfold impl_Table_fit.l0
   repeat' first
   | (with_reducible exact ih0 _ _)
   | (with_reducible exact impl_Table_size.mono _ _ _)
   | (with_reducible exact LeO.refl _)
   | (with_reducible exact LeO.none _)
   | (with_reducible refine LeO.ite ?_ ?_)
   | (with_reducible refine LeO.bind ?_ (fun _ => ?_))
   | exact ih0 _ _
   | exact impl_Table_size.mono _ _ _
   | exact LeO.none _
   | refine LeO.ite ?_ ?_
   | refine LeO.bind ?_ (fun _ => ?_)
theorem impl_Table_fit.mono : ∀ a0 a1 k, LeO (impl_Table_fit.f k a0 a1) (impl_Table_fit.f (k + 1) a0 a1) := by
 intro a0 a1 k
 have ih0 := impl_Table_fit.mono_l k
 unfold impl_Table_fit.f
 repeat' first
   | (with_reducible exact ih0 _ _)
   | (with_reducible exact impl_Table_size.mono _ _ _)
   | (with_reducible exact LeO.refl _)
   | (with_reducible exact LeO.none _)
   | (with_reducible refine LeO.ite ?_ ?_)
   | (with_reducible refine LeO.bind ?_ (fun _ => ?_))
   | exact ih0 _ _
   | exact impl_Table_size.mono _ _ _
   | exact LeO.none _
   | refine LeO.ite ?_ ?_
   | refine LeO.bind ?_ (fun _ => ?_)
set_option maxHeartbeats 8000000 in
set_option maxRecDepth 100000 in
theorem impl_Table_fit.calls (k : Nat) (A0_0 : Option Addr) (c0_0 : Nat) (l0_0 : List (S36)) (a0_1 : Int) (r1 : List (S36)) (r2 : Int) (w : World) (hr0_0 : Kd.C k36 w A0_0 l0_0.length l0_0) (hc0_0 : l0_0.length ≤ c0_0) (h : impl_Table_fit.f k l0_0 a0_1 = some (r1, r2)) :
  Calls Try.prog 49 #[.agg #[.slice A0_0 l0_0.length c0_0, .int .i64 a0_1]] w fun e w' => ∃ v0_ : Value, e = .returned (.agg #[v0_, .int .i64 r2]) ∧ Kd.R k36 36 w' w.heap.size (fun _ => True) v0_ r1 ∧ Below w.heap.size w w' := by
 have hu25 := Try.underlying25
 have HR0_0 := Aside0.mk hr0_0
 have HC0_0 := Aside0.mk hc0_0
 clear hr0_0 hc0_0
 have HB := Aside0.mk (Below.refl w.heap.size w)
 have H : ((impl_Table_clone.f l0_0 a0_1).bind fun bt282 => (impl_Table_fit.l0 k bt282.1 bt282.2)) = some (r1, r2) := h
 clear h
 replace H := Option.bind_eq_some_iff.mp H
 obtain ⟨⟨t282, t285⟩, A20, H⟩ := H
 replace H : (impl_Table_fit.l0 k t282 t285) = some (r1, r2) := H
 have A2 := Aside0.mk A20
 clear A20
 have H' := Aside0.mk H
 clear H
 go_enter Try.func49, Try.ntmps49
 go_wp2_with (first | ((with_reducible refine gd 1 rfl ?_); refine bx (N := 1) (cs := #[.slice A0_0 l0_0.length c0_0, .int .i64 a0_1]) (t := 25) ?_; intro gb280 hg w3 hbox hb; have BK280 := Aside0.mk (hbox); have GW280 := Aside0.mk ((by rw [hg]; exact (below_size (zb HB)) : w.heap.size ≤ gb280)); have GE280 := Aside0.mk ((by rw [hg]; exact (below_size (zb HB)) : w.heap.size ≤ gb280)); replace HB := Aside0.mk (below_step (zb HB) hb); clear hb hbox hg) | ((with_reducible refine gd 2 rfl ?_); refine bx (N := 2) (cs := #[.slice none 0 0, .int .i64 0]) (t := 25) ?_; intro gb281 hg w4 hbox hb; have BK281 := Aside0.mk (hbox); have GW281 := Aside0.mk ((by rw [hg]; exact (below_size (zb HB)) : w.heap.size ≤ gb281)); have GE281 := Aside0.mk ((by rw [hg]; exact (below_size (zb HB)) : w.heap.size ≤ gb281)); replace HB := Aside0.mk (below_step (zb HB) hb); have NB280_281 := Aside0.mk ((by rw [hg]; exact Nat.ne_of_lt (blk_lt (g := gb280) (o := .cells #[.slice A0_0 l0_0.length c0_0, .int .i64 a0_1] 25 (0, 0)) (zk BK280)) : gb280 ≠ gb281)); have NB281_280 := Aside0.mk ((by rw [hg]; exact Nat.ne_of_gt (blk_lt (g := gb280) (o := .cells #[.slice A0_0 l0_0.length c0_0, .int .i64 a0_1] 25 (0, 0)) (zk BK280)) : gb281 ≠ gb280)); replace BK280 := Aside0.mk (blk_below (g := gb280) (o := .cells #[.slice A0_0 l0_0.length c0_0, .int .i64 a0_1] 25 (0, 0)) (zk BK280) hb); clear hb hbox hg; have hnb5 := NB280_281.out; have hnc5 := NB281_280.out; have hcz6_0 : w4.cell? ⟨gb280, 0, none⟩ = some (.slice A0_0 l0_0.length c0_0) := (blk_cell BK280.out 0).trans rfl; have hcz6_1 : w4.cell? ⟨gb280, 1, none⟩ = some (.int .i64 a0_1) := (blk_cell BK280.out 1).trans rfl; have hfz6_0 := blk_frozen BK280.out 0; have hfz6_1 := blk_frozen BK280.out 1) | ((with_reducible refine gq 69 rfl ?_); refine gl (some 5) Try.func69 #[.agg #[.slice A0_0 l0_0.length c0_0, .int .i64 a0_1]] ?_; (with_reducible refine (impl_Table_clone.calls _ _ l0_0 a0_1 t282 t285 _ ?side1 ?side2 A2.out).mono ?_); (case side1 => exact zc (Kd.C_below HR0_0.out HB.out)); (case side2 => exact HC0_0.out); rintro e w7 ⟨v283, rfl, ho0, hb⟩; refine ⟨_, rfl, ?_⟩; have HO284 := Aside0.mk (Kd.R_lower ho0 (below_size (zb HB))); replace BK280 := Aside0.mk (blk_below (g := gb280) (o := .cells #[.slice A0_0 l0_0.length c0_0, .int .i64 a0_1] 25 (0, 0)) (zk BK280) hb); replace BK281 := Aside0.mk (blk_below (g := gb281) (o := .cells #[.slice none 0 0, .int .i64 0] 25 (0, 0)) (zk BK281) hb); replace HB := Aside0.mk (below_step (zb HB) hb); (try clear hb); (try clear ho0)) | ((with_reducible refine gd 3 rfl ?_); refine bx (N := 3) (cs := #[.slice none 0 0, .int .i64 0]) (t := 25) ?_; intro gb286 hg w8 hbox hb; replace HO284 := Aside0.mk (Kd.R_below (zr HO284) hb); have BK286 := Aside0.mk (hbox); have GW286 := Aside0.mk ((by rw [hg]; exact (below_size (zb HB)) : w.heap.size ≤ gb286)); have GE286 := Aside0.mk ((by rw [hg]; exact (below_size (zb HB)) : w.heap.size ≤ gb286)); replace HB := Aside0.mk (below_step (zb HB) hb); have NB280_286 := Aside0.mk ((by rw [hg]; exact Nat.ne_of_lt (blk_lt (g := gb280) (o := .cells #[.slice A0_0 l0_0.length c0_0, .int .i64 a0_1] 25 (0, 0)) (zk BK280)) : gb280 ≠ gb286)); have NB286_280 := Aside0.mk ((by rw [hg]; exact Nat.ne_of_gt (blk_lt (g := gb280) (o := .cells #[.slice A0_0 l0_0.length c0_0, .int .i64 a0_1] 25 (0, 0)) (zk BK280)) : gb286 ≠ gb280)); replace BK280 := Aside0.mk (blk_below (g := gb280) (o := .cells #[.slice A0_0 l0_0.length c0_0, .int .i64 a0_1] 25 (0, 0)) (zk BK280) hb); have NB281_286 := Aside0.mk ((by rw [hg]; exact Nat.ne_of_lt (blk_lt (g := gb281) (o := .cells #[.slice none 0 0, .int .i64 0] 25 (0, 0)) (zk BK281)) : gb281 ≠ gb286)); have NB286_281 := Aside0.mk ((by rw [hg]; exact Nat.ne_of_gt (blk_lt (g := gb281) (o := .cells #[.slice none 0 0, .int .i64 0] 25 (0, 0)) (zk BK281)) : gb286 ≠ gb281)); replace BK281 := Aside0.mk (blk_below (g := gb281) (o := .cells #[.slice none 0 0, .int .i64 0] 25 (0, 0)) (zk BK281) hb); clear hb hbox hg; obtain ⟨Ao9, co9, eo9⟩ := Kd.R_slice HO284.out; subst eo9; have hnb10 := NB286_280.out; have hnc10 := NB280_286.out; have hnb11 := NB286_281.out; have hnc11 := NB281_286.out; have hcz12_0 : w8.cell? ⟨gb286, 0, none⟩ = some (.slice none 0 0) := (blk_cell BK286.out 0).trans rfl; have hcz12_1 : w8.cell? ⟨gb286, 1, none⟩ = some (.int .i64 0) := (blk_cell BK286.out 1).trans rfl; have hfz12_0 := blk_frozen BK286.out 0; have hfz12_1 := blk_frozen BK286.out 1))
 go_loopg [] k (fun kq w' => ∃ (x287000_1 : List (S36)) (u287000 : Value), Aside0 (impl_Table_fit.l0 kq x287000_1 t285 = some (r1, r2)) ∧ Aside0 (kq ≤ k) ∧ Aside0 (Kd.R k36 36 w' w.heap.size (fun _ => True) u287000 x287000_1) ∧ Aside0 (w'.heap[gb280]? = some (.cells #[(.slice A0_0 l0_0.length c0_0), .int .i64 a0_1] 25 (0, 0))) ∧ Aside0 (w'.heap[gb281]? = some (.cells #[(.slice none 0 0), .int .i64 0] 25 (0, 0))) ∧ Aside0 (w'.heap[gb286]? = some (.cells #[u287000, .int .i64 t285] 25 (0, 0))) ∧ Aside0 (Below w.heap.size w w'))
 case atStart => exact ⟨(t282), (.slice Ao9 t282.length co9), H', ⟨Nat.le_refl _⟩, ⟨by (with_reducible repeat (first | apply Kd.R_alloc | apply Kd.R_drewN | apply Kd.R_drew)); exact Kd.R_mono (Kd.R_far (p := ⟨gb286, 1, none⟩) (Kd.R_far (p := ⟨gb286, 0, none⟩) (Kd.R_types HO284.out BK286.out (by decide)) (fun _ hk => hk.2) (.slice Ao9 t282.length co9)) (fun _ hk => hk.2) (.int .i64 t285)) (fun _ hk => trivial)⟩, ⟨by (with_reducible repeat (first | refine blk_drewN ?_ _ | refine blk_drew ?_ | refine blk_alloc ?_ _)); refine blk_far ?_ NB280_286.out _; (with_reducible repeat (first | refine blk_drewN ?_ _ | refine blk_drew ?_ | refine blk_alloc ?_ _)); refine blk_far ?_ NB280_286.out _; exact zk BK280⟩, ⟨by (with_reducible repeat (first | refine blk_drewN ?_ _ | refine blk_drew ?_ | refine blk_alloc ?_ _)); refine blk_far ?_ NB281_286.out _; (with_reducible repeat (first | refine blk_drewN ?_ _ | refine blk_drew ?_ | refine blk_alloc ?_ _)); refine blk_far ?_ NB281_286.out _; exact zk BK281⟩, ⟨by (with_reducible repeat (first | refine blk_drewN ?_ _ | refine blk_drew ?_ | refine blk_alloc ?_ _)); refine blk_put (cs := #[.slice Ao9 t282.length co9, .int .i64 0]) ?_ 1 _ rfl; (with_reducible repeat (first | refine blk_drewN ?_ _ | refine blk_drew ?_ | refine blk_alloc ?_ _)); refine blk_put (cs := #[.slice none 0 0, .int .i64 0]) ?_ 0 _ rfl; exact zk BK286⟩, ⟨zb HB⟩⟩
 case round =>
  clear H'
  try clear c1
  try clear p2
  try clear c4
  try clear c5
  try clear c6
  try clear c10
  try clear c11
  try clear hcz12_0
  try clear hcz12_1
  try clear hcz6_0
  try clear hcz6_1
  try clear hfz12_0
  try clear hfz12_1
  try clear hfz6_0
  try clear hfz6_1
  obtain ⟨x287000_1, u287000, HA, HK1, HO_287000, BK280, BK281, BK286, HB⟩ := hrel
  cases gk with
  | zero => exact absurd HA.out (by simp [impl_Table_fit.l0])
  | succ k1 =>
   have H := HA.out
   clear HA
   simp only [impl_Table_fit.l0] at H
   replace H := Option.bind_eq_some_iff.mp H
   obtain ⟨t287, A130, H⟩ := H
   replace H : (if t287 > t285 then (if 0 ≤ (wrap64 ((x287000_1.length : Int) - 1)) then (if (wrap64 ((x287000_1.length : Int) - 1)) ≤ (x287000_1.length : Int) then (impl_Table_fit.l0 k1 (x287000_1.take ((wrap64 ((x287000_1.length : Int) - 1)) : Int).toNat) t285) else (none)) else (none)) else ((impl_Table_clone.f x287000_1 t285).bind fun bt291 => (some (bt291.1, bt291.2)))) = some (r1, r2) := H
   have A13 := Aside0.mk A130
   clear A130
   by_cases c14 : t287 > t285
   ·rw [if_pos c14] at H
    have c14b0 : decide (t285 < t287) = true := decide_eq_true c14
    clear c14
    obtain ⟨ji15, hji15⟩ : ∃ j_ : Int, (wrap64 ((x287000_1.length : Int) - 1)) = j_ := ⟨_, rfl⟩
    replace H : (if 0 ≤ (ji15) then (if (ji15) ≤ (x287000_1.length : Int) then (impl_Table_fit.l0 k1 (x287000_1.take ((ji15) : Int).toNat) t285) else (none)) else (none)) = some (r1, r2) := by first | (rw [hji15] at H; exact H) | (simp only [hji15] at H ⊢; exact H)
    (try rw [hji15] at A13)
    have hji15w : (IntKind.i64.wrap ((x287000_1.length : Int) - 1)) = ji15 := (i64_w _).trans hji15
    by_cases c16 : 0 ≤ (ji15)
    ·rw [if_pos c16] at H
     have c16b0 := eq_true c16
     have c16b1 : decide (0 ≤ (ji15)) = true := decide_eq_true c16
     clear c16
     by_cases c17 : (ji15) ≤ (x287000_1.length : Int)
     ·rw [if_pos c17] at H
      have c17b0 := eq_true c17
      have c17b1 : decide ((ji15) ≤ (x287000_1.length : Int)) = true := decide_eq_true c17
      clear c17
      obtain ⟨y288, hy288⟩ : ∃ y_ : List (S36), y_ = (x287000_1.take ((ji15) : Int).toNat) := ⟨_, rfl⟩
      replace H : (impl_Table_fit.l0 k1 y288 t285) = some (r1, r2) := by first | (rw [hy288]; with_reducible exact H) | (have H2_ := (Option.bind_some _ _).symm.trans H; rw [hy288]; with_reducible exact H2_) | (have H2_ := (Option.bind_some _ _).symm.trans H; with_reducible exact H2_) | with_reducible exact H | (rw [hy288]; exact H) | exact H
      have Ny288 := Aside0.mk hy288
      clear hy288
      have H' := Aside0.mk H
      clear H
      try go_wp2
      replace HO_287000 := Aside0.mk (Kd.R_drew HO_287000.out)
      replace BK280 := Aside0.mk (blk_drew BK280.out)
      replace BK281 := Aside0.mk (blk_drew BK281.out)
      replace BK286 := Aside0.mk (blk_drew BK286.out)
      replace HB := Aside0.mk (below_drew1 HB.out)
      obtain ⟨Ao19, co19, eo19⟩ := Kd.R_slice HO_287000.out
      (first | subst eo19 | (injection eo19 with f1_ f2_ f3_; have f4_ := f1_.symm; have f5_ := f3_.symm; clear f1_ f2_ f3_; subst f4_; subst f5_))
      refine start_ (n := 5) (S := fun w' => w'.cell? ⟨gb286, 0, none⟩ = some (.slice Ao19 x287000_1.length co19) ∧ w'.cell? ⟨gb286, 1, none⟩ = some (.int .i64 t285)) (ds := []) #[false, false, false, false, false] (by kernel_rfl) rfl rfl ⟨(blk_cell BK286.out 0).trans rfl, (blk_cell BK286.out 1).trans rfl⟩ (fun hHeld => ?_)
      generalize wr.drew = w18 at HO_287000 BK280 BK281 BK286 HB hHeld ⊢
      refine pu 2 (some 8) (bm 5 4) rfl rfl ?_
      refine tk2 0 (some 6) (bm 5 5) rfl rfl hHeld ?_
      refine tk2 3 (some 9) (bm 5 13) rfl rfl hHeld ?_
      refine one_ (i := 1) (N := some 7) (bm 5 15) rfl rfl (by kernel_rfl) (by decide) (fun K hK => ?_)
      refine gs Try.func56 #[.agg #[.slice Ao19 x287000_1.length co19, .int .i64 t285]] ?_
      with_reducible refine (impl_Table_size.calls k1 _ _ x287000_1 t285 t287 _ ?side1 ?side2 A13.out).mono ?_
      (case side1 => exact zc (Kd.R_reads' HO_287000.out).2.2)
      (case side2 => exact (Kd.R_reads' HO_287000.out).2.1)
      rintro e w20 ⟨rfl, hb⟩
      refine ⟨_, rfl, ?_⟩
      replace HO_287000 := Aside0.mk (Kd.R_below (zr HO_287000) hb)
      replace BK280 := Aside0.mk (blk_below (g := gb280) (o := .cells #[.slice A0_0 l0_0.length c0_0, .int .i64 a0_1] 25 (0, 0)) (zk BK280) hb)
      replace BK281 := Aside0.mk (blk_below (g := gb281) (o := .cells #[.slice none 0 0, .int .i64 0] 25 (0, 0)) (zk BK281) hb)
      replace BK286 := Aside0.mk (blk_below (g := gb286) (o := .cells #[.slice Ao19 x287000_1.length co19, .int .i64 t285] 25 (0, 0)) (zk BK286) hb)
      replace HB := Aside0.mk (below_step (zb HB) hb)
      (try clear hb)
      refine hK.out _ _ ⟨(blk_cell BK286.out 0).trans rfl, (blk_cell BK286.out 1).trans rfl⟩ (fun hHeld => ?_)
      clear hK K
      refine nm ?_
      refine pu 4 (some 10) (bm 5 31) rfl rfl ?_
      refine done_ (by kernel_rfl) ?_
      have hnb21 := NB286_280.out
      have hnc21 := NB280_286.out
      have hnb22 := NB286_281.out
      have hnc22 := NB281_286.out
      have hcz23_0 : w20.cell? ⟨gb286, 0, none⟩ = some (.slice Ao19 x287000_1.length co19) := (blk_cell BK286.out 0).trans rfl
      have hcz23_1 : w20.cell? ⟨gb286, 1, none⟩ = some (.int .i64 t285) := (blk_cell BK286.out 1).trans rfl
      have hfz23_0 := blk_frozen BK286.out 0
      have hfz23_1 := blk_frozen BK286.out 1
      have q24 : ((ji15) : Int) ≤ ((x287000_1.length : Int) : Int) := of_decide_eq_true za
      obtain ⟨i024, hi024, _, hsz24, _⟩ := info_parts info36
      have hcut24 := cut_to (P := Try.prog) 23 36 .i64 Try.underlying23 hi024 Ao19 x287000_1.length co19 (ji15) (of_decide_eq_true za) q24 (Kd.R_reads' HO_287000.out).2.1
      have hr24 := Kd.R_take (m := ((ji15) : Int).toNat) HO_287000.out (by omega)
      have hy24 : y288.length = ((ji15) : Int).toNat := (by rw [Ny288.out, List.length_take]; omega)
      rw [← Ny288.out] at hr24
      rw [← hy24] at hr24 hcut24
      clear hy24 hi024 hsz24 HO_287000
      have HO290 := Aside0.mk hr24
      clear hr24
      replace q24 := eq_true q24
      try go_wp2
      go_roundg k1
      case measure => have := HK1.out; omega
      case rel => exact ⟨(y288), (.slice Ao19 y288.length co19), H', ⟨by have := HK1.out; omega⟩, ⟨by (with_reducible repeat (first | apply Kd.R_alloc | apply Kd.R_drewN | apply Kd.R_drew)); exact Kd.R_mono (Kd.R_far (p := ⟨gb286, 0, none⟩) (Kd.R_types HO290.out BK286.out (by decide)) (fun _ hk => hk.2) (.slice Ao19 y288.length co19)) (fun _ hk => trivial)⟩, ⟨by (with_reducible repeat (first | refine blk_drewN ?_ _ | refine blk_drew ?_ | refine blk_alloc ?_ _)); refine blk_far ?_ NB280_286.out _; exact zk BK280⟩, ⟨by (with_reducible repeat (first | refine blk_drewN ?_ _ | refine blk_drew ?_ | refine blk_alloc ?_ _)); refine blk_far ?_ NB281_286.out _; exact zk BK281⟩, ⟨by (with_reducible repeat (first | refine blk_drewN ?_ _ | refine blk_drew ?_ | refine blk_alloc ?_ _)); refine blk_put (cs := #[.slice Ao19 x287000_1.length co19, .int .i64 t285]) ?_ 0 _ rfl; exact zk BK286⟩, ⟨zb HB⟩⟩
     ·rw [if_neg c17] at H
      exact absurd H (by simp)
    ·rw [if_neg c16] at H
     exact absurd H (by simp)
   ·rw [if_neg c14] at H
    have c14b0 : decide (t285 < t287) = false := decide_eq_false c14
    clear c14
    replace H := Option.bind_eq_some_iff.mp H
    obtain ⟨⟨t291, t294⟩, A250, H⟩ := H
    replace H : (some (t291, t294)) = some (r1, r2) := H
    have A25 := Aside0.mk A250
    clear A250
    simp only [Option.some.injEq, Prod.mk.injEq] at H
    obtain ⟨rfl, rfl⟩ := H
    try go_wp2
    replace HO_287000 := Aside0.mk (Kd.R_drew HO_287000.out)
    replace BK280 := Aside0.mk (blk_drew BK280.out)
    replace BK281 := Aside0.mk (blk_drew BK281.out)
    replace BK286 := Aside0.mk (blk_drew BK286.out)
    replace HB := Aside0.mk (below_drew1 HB.out)
    obtain ⟨Ao27, co27, eo27⟩ := Kd.R_slice HO_287000.out
    (first | subst eo27 | (injection eo27 with f1_ f2_ f3_; have f4_ := f1_.symm; have f5_ := f3_.symm; clear f1_ f2_ f3_; subst f4_; subst f5_))
    refine start_ (n := 5) (S := fun w' => w'.cell? ⟨gb286, 0, none⟩ = some (.slice Ao27 x287000_1.length co27) ∧ w'.cell? ⟨gb286, 1, none⟩ = some (.int .i64 t285)) (ds := []) #[false, false, false, false, false] (by kernel_rfl) rfl rfl ⟨(blk_cell BK286.out 0).trans rfl, (blk_cell BK286.out 1).trans rfl⟩ (fun hHeld => ?_)
    generalize wr.drew = w26 at HO_287000 BK280 BK281 BK286 HB hHeld ⊢
    refine pu 2 (some 8) (bm 5 4) rfl rfl ?_
    refine tk2 0 (some 6) (bm 5 5) rfl rfl hHeld ?_
    refine tk2 3 (some 9) (bm 5 13) rfl rfl hHeld ?_
    refine one_ (i := 1) (N := some 7) (bm 5 15) rfl rfl (by kernel_rfl) (by decide) (fun K hK => ?_)
    refine gs Try.func56 #[.agg #[.slice Ao27 x287000_1.length co27, .int .i64 t285]] ?_
    with_reducible refine (impl_Table_size.calls k1 _ _ x287000_1 t285 t287 _ ?side1 ?side2 A13.out).mono ?_
    (case side1 => exact zc (Kd.R_reads' HO_287000.out).2.2)
    (case side2 => exact (Kd.R_reads' HO_287000.out).2.1)
    rintro e w28 ⟨rfl, hb⟩
    refine ⟨_, rfl, ?_⟩
    replace HO_287000 := Aside0.mk (Kd.R_below (zr HO_287000) hb)
    replace BK280 := Aside0.mk (blk_below (g := gb280) (o := .cells #[.slice A0_0 l0_0.length c0_0, .int .i64 a0_1] 25 (0, 0)) (zk BK280) hb)
    replace BK281 := Aside0.mk (blk_below (g := gb281) (o := .cells #[.slice none 0 0, .int .i64 0] 25 (0, 0)) (zk BK281) hb)
    replace BK286 := Aside0.mk (blk_below (g := gb286) (o := .cells #[.slice Ao27 x287000_1.length co27, .int .i64 t285] 25 (0, 0)) (zk BK286) hb)
    replace HB := Aside0.mk (below_step (zb HB) hb)
    (try clear hb)
    refine hK.out _ _ ⟨(blk_cell BK286.out 0).trans rfl, (blk_cell BK286.out 1).trans rfl⟩ (fun hHeld => ?_)
    clear hK K
    refine nm ?_
    refine pu 4 (some 10) (bm 5 31) rfl rfl ?_
    refine done_ (by kernel_rfl) ?_
    have hnb29 := NB286_280.out
    have hnc29 := NB280_286.out
    have hnb30 := NB286_281.out
    have hnc30 := NB281_286.out
    have hcz31_0 : w28.cell? ⟨gb286, 0, none⟩ = some (.slice Ao27 x287000_1.length co27) := (blk_cell BK286.out 0).trans rfl
    have hcz31_1 : w28.cell? ⟨gb286, 1, none⟩ = some (.int .i64 t285) := (blk_cell BK286.out 1).trans rfl
    have hfz31_0 := blk_frozen BK286.out 0
    have hfz31_1 := blk_frozen BK286.out 1
    try go_wp2_with (first | ((with_reducible refine gq 69 rfl ?_); refine gl (some 20) Try.func69 #[.agg #[.slice Ao27 x287000_1.length co27, .int .i64 t285]] ?_; (with_reducible refine (impl_Table_clone.calls _ _ x287000_1 t285 t291 t294 _ ?side1 ?side2 A25.out).mono ?_); (case side1 => exact zc (Kd.R_reads' HO_287000.out).2.2); (case side2 => exact (Kd.R_reads' HO_287000.out).2.1); rintro e w32 ⟨v292, rfl, ho0, hb⟩; refine ⟨_, rfl, ?_⟩; have HO293 := Aside0.mk (Kd.R_lower (Kd.R_new' ho0 (Kd.R_lt (zr HO_287000))) (below_size (zb HB))); replace HO_287000 := Aside0.mk (Kd.R_elder' (zr HO_287000) (Kd.R_base ho0) hb); replace BK280 := Aside0.mk (blk_below (g := gb280) (o := .cells #[.slice A0_0 l0_0.length c0_0, .int .i64 a0_1] 25 (0, 0)) (zk BK280) hb); replace BK281 := Aside0.mk (blk_below (g := gb281) (o := .cells #[.slice none 0 0, .int .i64 0] 25 (0, 0)) (zk BK281) hb); replace BK286 := Aside0.mk (blk_below (g := gb286) (o := .cells #[.slice Ao27 x287000_1.length co27, .int .i64 t285] 25 (0, 0)) (zk BK286) hb); replace HB := Aside0.mk (below_step (zb HB) hb); (try clear hb); (try clear ho0); obtain ⟨Ao33, co33, eo33⟩ := Kd.R_slice HO293.out; subst eo33; have hnb34 := NB281_280.out; have hnc34 := NB280_281.out; have hcz35_0 : w32.cell? ⟨gb281, 0, none⟩ = some (.slice none 0 0) := (blk_cell BK281.out 0).trans rfl; have hcz35_1 : w32.cell? ⟨gb281, 1, none⟩ = some (.int .i64 0) := (blk_cell BK281.out 1).trans rfl; have hfz35_0 := blk_frozen BK281.out 0; have hfz35_1 := blk_frozen BK281.out 1))
    refine bodyPost_ret (results_cell_row rfl _ _ gb281 25 #[.slice Ao33 t291.length co33, .int .i64 t294] (0, 0) _ rfl (by (with_reducible repeat (first | refine blk_drewN ?_ _ | refine blk_drew ?_ | refine blk_alloc ?_ _)); refine blk_put (cs := #[.slice Ao33 t291.length co33, .int .i64 0]) ?_ 1 _ rfl; (with_reducible repeat (first | refine blk_drewN ?_ _ | refine blk_drew ?_ | refine blk_alloc ?_ _)); refine blk_put (cs := #[.slice none 0 0, .int .i64 0]) ?_ 0 _ rfl; exact zk BK281) Try.underlying25 rfl (by kernel_rfl)) rfl ?_
    exact ⟨_, ze, by (with_reducible repeat (first | apply Kd.R_alloc | apply Kd.R_drewN | apply Kd.R_drew)); exact Kd.R_mono (Kd.R_far (p := ⟨gb281, 1, none⟩) (Kd.R_far (p := ⟨gb281, 0, none⟩) (Kd.R_types HO293.out BK281.out (by decide)) (fun _ hk => hk.2) (.slice Ao33 t291.length co33)) (fun _ hk => hk.2) (.int .i64 t294)) (fun _ hk => trivial), zb HB⟩

-- NOT PRINTED: function 88 (Grow_Field)

end Go.Proofs.Ytdhahifdcoinhaa.PFnAddTwo
