-- WRITTEN BY a turned print (wip/tools of the prover's repo)
import Derived.Test.YtdhahifdcoinhaaPFnLimitNonex0
import Derived.Test.YtdhahifdcoinhaaPFnLimitNonex2
import Derived.Test.YtdhahifdcoinhaaPFnLimitNonex3
namespace Go.Proofs.Ytdhahifdcoinhaa.PFnLimitNone
open Go.RowKit Go.Proofs.YtdhahifdcoinhaaW.PrintWords Go.Proofs.YtdhahifdcoinhaaW.PrintLast Go.Proofs.YtdhahifdcoinhaaW.PrintMore Go.Proofs.Ytdhahifdcoinhaa.Lm
attribute [local go_sem] max2_int min2_int max_two min_two max_three min_three max_four min_four   -- for this text's walks alone
set_option linter.unusedVariables false
set_option linter.unusedSimpArgs false

/-! ### spec_l71Table: function 46 -/
-- thin
def spec_l71Table.l0 : Nat → Int → List Int → Int → List (S36) → Int → Option ((List (S36)) × Int × Int)
 | 0, _, _, _, _, _ => none
 | k + 1, x4, x1000, x1001, x196000, x196001 => if x4 > 0 then ((spec_l71Field.f k x1000 x1001).bind fun bt198 => ((spec_FieldOk.f k bt198.1 bt198.2.1 bt198.2.2.1).bind fun t203 => (if t203 = true then ((spec_l3Add.f k x196000 x196001 bt198.1 bt198.2.1 bt198.2.2.1).bind fun bt204 => (spec_l71Table.l0 k (wrap64 (x4 - 1)) x1000 bt198.2.2.2 bt204.1 bt204.2)) else (spec_l71Table.l0 k (wrap64 (x4 - 1)) x1000 bt198.2.2.2 x196000 x196001)))) else ((spec_l6Rd_pick.f k x1000 x1001 24).bind fun bt208 => (if bt208.1 = 0 then ((some (([(-1), 65, 3] : List Int) : List Int)).bind fun y210 => ((spec_l6Rd_pick.f k x1000 bt208.2 3).bind fun bt213 => (if 0 ≤ bt213.1 then (if bt213.1 < (y210.length : Int) then (some (x196000, rd y210 bt213.1, bt213.2)) else (none)) else (none)))) else (if bt208.1 = 1 then ((spec_l71Field.f k x1000 bt208.2).bind fun bt216 => ((spec_l71Field.f k x1000 bt216.2.2.2).bind fun bt220 => ((spec_l71Field.f k x1000 bt220.2.2.2).bind fun bt224 => ((some (([(⟨bt216.1, bt216.2.1, bt216.2.2.1⟩ : S36), (⟨bt220.1, bt220.2.1, bt220.2.2.1⟩ : S36), (⟨bt224.1, bt224.2.1, bt224.2.2.1⟩ : S36)] : List (S36)) : List (S36))).bind fun y228 => (if x196000.length + y228.length < 3518437208883 then (some ((x196000 ++ y228), x196001, bt224.2.2.2)) else (none)))))) else (some (x196000, x196001, bt208.2)))))
def spec_l71Table.f (k : Nat) (s0_0 : List Int) (s0_1 : Int) : Option ((List (S36)) × Int × Int) := (some (([64, 64, 40, 20, 0] : List Int) : List Int)).bind fun y189 => ((spec_l6Rd_pick.f k s0_0 s0_1 5).bind fun bt192 => (if 0 ≤ bt192.1 then (if bt192.1 < (y189.length : Int) then ((spec_l6Rd_pick.f k s0_0 bt192.2 7).bind fun bt196 => (spec_l71Table.l0 k bt196.1 s0_0 bt196.2 (([] : List (S36))) (rd y189 bt192.1))) else (none)) else (none)))
theorem spec_l71Table.mono_l : ∀ k, (∀ y0 y1 y2 y3 y4, LeO (spec_l71Table.l0 k y0 y1 y2 y3 y4) (spec_l71Table.l0 (k + 1) y0 y1 y2 y3 y4))
 | 0 => fun _ _ _ _ _ r h => by simp [spec_l71Table.l0] at h
 | k + 1 => by
  have ih0 := spec_l71Table.mono_l k
  ·intro y0 y1 y2 y3 y4
   unfold spec_l71Table.l0
   repeat' first
   | (with_reducible exact ih0 _ _ _ _ _)
   | (with_reducible exact spec_FieldOk.mono _ _ _ _)
   | (with_reducible exact spec_l3Add.mono _ _ _ _ _ _)
   | (with_reducible exact spec_l6Rd_pick.mono _ _ _ _)
   | (with_reducible exact spec_l71Field.mono _ _ _)
   | (with_reducible exact LeO.refl _)
   | (with_reducible exact LeO.none _)
   | (with_reducible refine LeO.ite ?_ ?_)
   | (with_reducible refine LeO.bind ?_ (fun _ => ?_))
   | exact ih0 _ _ _ _ _
   | exact spec_FieldOk.mono _ _ _ _
   | exact spec_l3Add.mono _ _ _ _ _ _
   | exact spec_l6Rd_pick.mono _ _ _ _
   | exact spec_l71Field.mono _ _ _
   | exact LeO.none _
   | refine LeO.ite ?_ ?_
   | refine LeO.bind ?_ (fun _ => ?_)
theorem spec_l71Table.mono : ∀ a0 a1 k, LeO (spec_l71Table.f k a0 a1) (spec_l71Table.f (k + 1) a0 a1) := by
 intro a0 a1 k
 have ih0 := spec_l71Table.mono_l k
 unfold spec_l71Table.f
 repeat' first
   | (with_reducible exact ih0 _ _ _ _ _)
   | (with_reducible exact spec_FieldOk.mono _ _ _ _)
   | (with_reducible exact spec_l3Add.mono _ _ _ _ _ _)
   | (with_reducible exact spec_l6Rd_pick.mono _ _ _ _)
   | (with_reducible exact spec_l71Field.mono _ _ _)
   | (with_reducible exact LeO.refl _)
   | (with_reducible exact LeO.none _)
   | (with_reducible refine LeO.ite ?_ ?_)
   | (with_reducible refine LeO.bind ?_ (fun _ => ?_))
   | exact ih0 _ _ _ _ _
   | exact spec_FieldOk.mono _ _ _ _
   | exact spec_l3Add.mono _ _ _ _ _ _
   | exact spec_l6Rd_pick.mono _ _ _ _
   | exact spec_l71Field.mono _ _ _
   | exact LeO.none _
   | refine LeO.ite ?_ ?_
   | refine LeO.bind ?_ (fun _ => ?_)
def spec_l71Table.T12 : Bool × List (List Nat × List Nat) := (true, [([], []), ([0], [0]), ([], []), ([2], [2]), ([], []), ([4, 3], [4]), ([], []), ([6, 5], [6]), ([3, 5, 7], [3, 5, 7]), ([1, 8, 7], [1, 8]), ([0, 1, 2, 3, 4, 5, 6, 7, 8, 9], []), ([10, 9, 9, 0, 1, 2, 3, 4, 5, 6, 7, 8, 9], [9, 10])])
def spec_l71Table.B12 : List Nat := [0, 1, 0, 4, 0, 28, 0, 124, 252, 511, 1023, 2047]
theorem spec_l71Table.tab12 : rtab .any (opsOf Try.f46 12) = spec_l71Table.T12 := by kernel_rfl
theorem spec_l71Table.bits12 : waitsOk spec_l71Table.T12.2 spec_l71Table.B12 = true := by kernel_rfl
set_option maxHeartbeats 8000000 in
set_option maxRecDepth 100000 in
theorem spec_l71Table.calls (k : Nat) (g : Nat) (s0_0 : List Int) (s0_1 : Int) (r1 : List (S36)) (r2 : Int) (r3 : Int) (w0 w : World) (hI : IsS85 w0 w g s0_0 s0_1) (hB : Below w0.heap.size w0 w) (h : spec_l71Table.f k s0_0 s0_1 = some (r1, r2, r3)) :
  Calls Try.prog 46 #[.pointer (some ⟨g, 0, none⟩)] w fun e w' => ∃ v0_ : Value, e = .returned (.agg #[v0_, .int .i64 r2]) ∧ Kd.R k36 36 w' w.heap.size (fun _ => True) v0_ r1 ∧ IsS85 w0 w' g s0_0 r3 ∧ Below w0.heap.size w0 w' ∧ KeepBut w w' g none := by
 have hu25 := Try.underlying25
 have hu36 := Try.underlying36
 have HI0 := Aside0.mk hI
 have HK := Aside0.mk (KeepBut.refl w g none)
 have HL := Aside0.mk hB.size
 clear hI
 have HW0 := Aside0.mk hB.size
 have HB := Aside0.mk hB
 clear hB
 have H : ((some (([64, 64, 40, 20, 0] : List Int) : List Int)).bind fun y189 => ((spec_l6Rd_pick.f k s0_0 s0_1 5).bind fun bt192 => (if 0 ≤ bt192.1 then (if bt192.1 < (y189.length : Int) then ((spec_l6Rd_pick.f k s0_0 bt192.2 7).bind fun bt196 => (spec_l71Table.l0 k bt196.1 s0_0 bt196.2 (([] : List (S36))) (rd y189 bt192.1))) else (none)) else (none)))) = some (r1, r2, r3) := h
 clear h
 obtain ⟨y186, hy186⟩ : ∃ y_ : List (S36), y_ = (([] : List (S36))) := ⟨_, rfl⟩
 replace H : ((some (([64, 64, 40, 20, 0] : List Int) : List Int)).bind fun y189 => ((spec_l6Rd_pick.f k s0_0 s0_1 5).bind fun bt192 => (if 0 ≤ bt192.1 then (if bt192.1 < (y189.length : Int) then ((spec_l6Rd_pick.f k s0_0 bt192.2 7).bind fun bt196 => (spec_l71Table.l0 k bt196.1 s0_0 bt196.2 y186 (rd y189 bt192.1))) else (none)) else (none)))) = some (r1, r2, r3) := by first | (rw [hy186]; with_reducible exact H) | (have H2_ := (Option.bind_some _ _).symm.trans H; rw [hy186]; with_reducible exact H2_) | (have H2_ := (Option.bind_some _ _).symm.trans H; with_reducible exact H2_) | with_reducible exact H | (rw [hy186]; exact H) | exact H
 have Ny186 := Aside0.mk hy186
 clear hy186
 obtain ⟨y189, hy189⟩ : ∃ y_ : List Int, y_ = (([64, 64, 40, 20, 0] : List Int)) := ⟨_, rfl⟩
 replace H : ((spec_l6Rd_pick.f k s0_0 s0_1 5).bind fun bt192 => (if 0 ≤ bt192.1 then (if bt192.1 < (y189.length : Int) then ((spec_l6Rd_pick.f k s0_0 bt192.2 7).bind fun bt196 => (spec_l71Table.l0 k bt196.1 s0_0 bt196.2 y186 (rd y189 bt192.1))) else (none)) else (none))) = some (r1, r2, r3) := by first | (rw [hy189]; with_reducible exact H) | (have H2_ := (Option.bind_some _ _).symm.trans H; rw [hy189]; with_reducible exact H2_) | (have H2_ := (Option.bind_some _ _).symm.trans H; with_reducible exact H2_) | with_reducible exact H | (rw [hy189]; exact H) | exact H
 have Ny189 := Aside0.mk hy189
 clear hy189
 replace H := Option.bind_eq_some_iff.mp H
 obtain ⟨⟨t192, t193⟩, A20, H⟩ := H
 replace H : (if 0 ≤ t192 then (if t192 < (y189.length : Int) then ((spec_l6Rd_pick.f k s0_0 t193 7).bind fun bt196 => (spec_l71Table.l0 k bt196.1 s0_0 bt196.2 y186 (rd y189 t192))) else (none)) else (none)) = some (r1, r2, r3) := H
 have A2 := Aside0.mk A20
 clear A20
 by_cases c3 : 0 ≤ t192
 ·rw [if_pos c3] at H
  have c3b0 : decide (0 ≤ t192) = true := decide_eq_true c3
  clear c3
  by_cases c4 : t192 < (y189.length : Int)
  ·rw [if_pos c4] at H
   have c4b0 : decide (t192 < (y189.length : Int)) = true := decide_eq_true c4
   clear c4
   replace H := Option.bind_eq_some_iff.mp H
   obtain ⟨⟨t196, t197⟩, A50, H⟩ := H
   replace H : (spec_l71Table.l0 k t196 s0_0 t197 y186 (rd y189 t192)) = some (r1, r2, r3) := H
   have A5 := Aside0.mk A50
   clear A50
   have H' := Aside0.mk H
   clear H
   go_enter Try.func46, Try.ntmps46
   go_wp2_with (first | ((with_reducible refine gd 2 rfl ?_); refine bx (N := 2) (cs := #[.slice none 0 0, .int .i64 0]) (t := 25) ?_; intro gb185 hg w6 hbox hb; replace HB := Aside0.mk (below_step (zg85 HB) hb); have BK185 := Aside0.mk (hbox); have GW185 := Aside0.mk ((by rw [hg]; exact (keep_size (w := w) (g := g) (row := none) (zh HK)) : w.heap.size ≤ gb185)); have GE185 := Aside0.mk ((Nat.le_trans HW0.out (by rw [hg]; exact (keep_size (w := w) (g := g) (row := none) (zh HK)) : w.heap.size ≤ gb185) : w0.heap.size ≤ gb185)); replace HK := Aside0.mk (KeepBut.trans (zh HK) (KeepBut.of_below hb g none) (.inl rfl)); have NB0_185 := Aside0.mk ((by rw [hg]; exact Nat.ne_of_lt (IsS85.lt (show IsS85 w0 _ g s0_0 s0_1 from zi85 HI0)) : g ≠ gb185)); have NB185_0 := Aside0.mk ((by rw [hg]; exact Nat.ne_of_gt (IsS85.lt (show IsS85 w0 _ g s0_0 s0_1 from zi85 HI0)) : gb185 ≠ g)); replace HI0 := Aside0.mk (IsS85.below (zi85 HI0) hb); clear hb hbox hg) | ((with_reducible refine gd 6 rfl ?_); refine Kd.R_lit k36 _ 36 ?hg (N := 6) ?hd (xs := ([] : List (S36))) (inner := []) (ok := fun _ => True) (okp := fun _ => True) ?hr ?hp (fun _ hk => hk) trivial (Below.refl _ _) (Nat.le_refl _) (by simp) ?_; (case hd => rfl); (case hg => rfl); (case hr => first | (go_simp; done) | (go_simp; rfl)); (case hp => exact (Reps.none _ _)); intro v187 w7 ho8 hb hg_ hnew_; clear hg_ hnew_; (first | rw [← Ny186.out] at ho8 | (simp only [Int.reduceToNat] at ho8; rw [← Ny186.out] at ho8)); have HO188 := Aside0.mk (Kd.R_lower ho8 (keep_size (w := w) (g := g) (row := none) (zh HK))); replace HI0 := Aside0.mk (IsS85.below (zi85 HI0) hb); replace BK185 := Aside0.mk (blk_below (g := gb185) (o := .cells #[.slice none 0 0, .int .i64 0] 25 (0, 0)) (zk BK185) hb); replace HK := Aside0.mk (KeepBut.trans (zh HK) (KeepBut.of_below hb g none) (.inl rfl)); replace HB := Aside0.mk (below_step (zg85 HB) hb); clear hb ho8) | ((with_reducible refine gd 7 rfl ?_); refine Kd.R_lit (Kd.int .i64) _ 3 ?hg (N := 7) ?hd (xs := ([64, 64, 40, 20, 0] : List Int)) (inner := [.int .i64 64, .int .i64 64, .int .i64 40, .int .i64 20, .int .i64 0]) (ok := fun _ => True) (okp := fun _ => True) ?hr ?hp (fun _ hk => hk) trivial (Below.refl _ _) (Nat.le_refl _) (by simp) ?_; (case hd => rfl); (case hg => rfl); (case hr => first | (go_simp; done) | (go_simp; rfl)); (case hp => exact (Reps.one (show Kd.M (Kd.int .i64) _ _ _ 64 [.int .i64 64] from rfl) (Reps.one (show Kd.M (Kd.int .i64) _ _ _ 64 [.int .i64 64] from rfl) (Reps.one (show Kd.M (Kd.int .i64) _ _ _ 40 [.int .i64 40] from rfl) (Reps.one (show Kd.M (Kd.int .i64) _ _ _ 20 [.int .i64 20] from rfl) (Reps.one (show Kd.M (Kd.int .i64) _ _ _ 0 [.int .i64 0] from rfl) (Reps.none _ _))))))); intro v190 w9 ho10 hb hg_ hnew_; clear hg_ hnew_; (first | rw [← Ny189.out] at ho10 | (simp only [Int.reduceToNat] at ho10; rw [← Ny189.out] at ho10)); replace HO188 := Aside0.mk (Kd.R_below (zr HO188) hb); have HO191 := Aside0.mk (Kd.R_lower ho10 (keep_size (w := w) (g := g) (row := none) (zh HK))); replace HI0 := Aside0.mk (IsS85.below (zi85 HI0) hb); replace BK185 := Aside0.mk (blk_below (g := gb185) (o := .cells #[.slice none 0 0, .int .i64 0] 25 (0, 0)) (zk BK185) hb); replace HK := Aside0.mk (KeepBut.trans (zh HK) (KeepBut.of_below hb g none) (.inl rfl)); replace HB := Aside0.mk (below_step (zg85 HB) hb); clear hb ho10) | ((with_reducible refine gq 47 rfl ?_); refine gl (some 9) Try.func47 #[.pointer (some ⟨g, 0, none⟩), .int .i64 5] ?_; (with_reducible refine (spec_l6Rd_pick.calls k g s0_0 s0_1 5 t192 t193 w0 _ ?side1 ?side2 A2.out).mono ?_); (case side1 => exact zi85 HI0); (case side2 => exact zg85 HB); rintro e w11 ⟨rfl, hi, hb, hk⟩; refine ⟨_, rfl, ?_⟩; replace BK185 := Aside0.mk (KeepBut.blk hk (g' := gb185) (o := .cells #[.slice none 0 0, .int .i64 0] 25 (0, 0)) (zk BK185) NB185_0.out (by simp)); replace HO188 := Aside0.mk (Kd.R_mono (Kd.R_keep (IsS85.apart (show IsS85 w0 _ g s0_0 s0_1 from zi85 HI0) (zr HO188) (by decide)) hk (fun _ h => h.2)) (fun _ h => h.1)); replace HO191 := Aside0.mk (Kd.R_mono (Kd.R_keep (IsS85.apart (show IsS85 w0 _ g s0_0 s0_1 from zi85 HI0) (zr HO191) (by decide)) hk (fun _ h => h.2)) (fun _ h => h.1)); replace HK := Aside0.mk (KeepBut.trans (zh HK) hk (.inl rfl)); replace HB := Aside0.mk (hb); replace HI0 := Aside0.mk (hi); (try clear hb); (try clear hk); (try clear hi); obtain ⟨Ao12, co12, eo12⟩ := Kd.R_slice HO191.out; subst eo12; have p194 : 0 ≤ (t192 : Int) := of_decide_eq_true za; have q194 : t192 < (y189.length : Int) := of_decide_eq_true za; obtain ⟨ad194, e194, hx194_0⟩ := Kd.at_int (Kd.R_reads' HO191.out).2.2 t192 p194 q194; cases e194; replace p194 := eq_true p194; replace q194 := eq_true q194; obtain ⟨Ao13, co13, eo13⟩ := Kd.R_slice HO188.out; subst eo13) | ((with_reducible refine gd 3 rfl ?_); refine bx (N := 3) (cs := #[.slice none 0 0, .int .i64 0]) (t := 25) ?_; intro gb195 hg w14 hbox hb; replace HO188 := Aside0.mk (Kd.R_below (zr HO188) hb); replace HO191 := Aside0.mk (Kd.R_below (zr HO191) hb); replace HB := Aside0.mk (below_step (zg85 HB) hb); have BK195 := Aside0.mk (hbox); have GW195 := Aside0.mk ((by rw [hg]; exact (keep_size (w := w) (g := g) (row := none) (zh HK)) : w.heap.size ≤ gb195)); have GE195 := Aside0.mk ((Nat.le_trans HW0.out (by rw [hg]; exact (keep_size (w := w) (g := g) (row := none) (zh HK)) : w.heap.size ≤ gb195) : w0.heap.size ≤ gb195)); replace HK := Aside0.mk (KeepBut.trans (zh HK) (KeepBut.of_below hb g none) (.inl rfl)); have NB185_195 := Aside0.mk ((by rw [hg]; exact Nat.ne_of_lt (blk_lt (g := gb185) (o := .cells #[.slice none 0 0, .int .i64 0] 25 (0, 0)) (zk BK185)) : gb185 ≠ gb195)); have NB195_185 := Aside0.mk ((by rw [hg]; exact Nat.ne_of_gt (blk_lt (g := gb185) (o := .cells #[.slice none 0 0, .int .i64 0] 25 (0, 0)) (zk BK185)) : gb195 ≠ gb185)); replace BK185 := Aside0.mk (blk_below (g := gb185) (o := .cells #[.slice none 0 0, .int .i64 0] 25 (0, 0)) (zk BK185) hb); have NB0_195 := Aside0.mk ((by rw [hg]; exact Nat.ne_of_lt (IsS85.lt (show IsS85 w0 _ g s0_0 t193 from zi85 HI0)) : g ≠ gb195)); have NB195_0 := Aside0.mk ((by rw [hg]; exact Nat.ne_of_gt (IsS85.lt (show IsS85 w0 _ g s0_0 t193 from zi85 HI0)) : gb195 ≠ g)); replace HI0 := Aside0.mk (IsS85.below (zi85 HI0) hb); clear hb hbox hg; have hnb15 := NB195_185.out; have hnc15 := NB185_195.out; have hnb16 := NB195_0.out; have hnc16 := NB0_195.out; have hcz17_0 : w14.cell? ⟨gb195, 0, none⟩ = some (.slice none 0 0) := (blk_cell BK195.out 0).trans rfl; have hcz17_1 : w14.cell? ⟨gb195, 1, none⟩ = some (.int .i64 0) := (blk_cell BK195.out 1).trans rfl; have hfz17_0 := blk_frozen BK195.out 0; have hfz17_1 := blk_frozen BK195.out 1) | ((with_reducible refine gq 47 rfl ?_); refine gl (some 14) Try.func47 #[.pointer (some ⟨g, 0, none⟩), .int .i64 7] ?_; (with_reducible refine (spec_l6Rd_pick.calls k g s0_0 t193 7 t196 t197 w0 _ ?side1 ?side2 A5.out).mono ?_); (case side1 => exact zi85 HI0); (case side2 => exact zg85 HB); rintro e w18 ⟨rfl, hi, hb, hk⟩; refine ⟨_, rfl, ?_⟩; replace BK185 := Aside0.mk (KeepBut.blk hk (g' := gb185) (o := .cells #[.slice none 0 0, .int .i64 0] 25 (0, 0)) (by (with_reducible repeat (first | refine blk_drewN ?_ _ | refine blk_drew ?_ | refine blk_alloc ?_ _)); refine blk_far ?_ NB185_195.out _; (with_reducible repeat (first | refine blk_drewN ?_ _ | refine blk_drew ?_ | refine blk_alloc ?_ _)); refine blk_far ?_ NB185_195.out _; exact zk BK185) NB185_0.out (by simp)); replace HO188 := Aside0.mk (Kd.R_mono (Kd.R_keep (IsS85.apart (show IsS85 w0 _ g s0_0 t193 from zi85 HI0) (by (with_reducible repeat (first | apply Kd.R_alloc | apply Kd.R_drewN | apply Kd.R_drew)); exact (Kd.R_mono (Kd.R_far (p := ⟨gb195, 1, none⟩) (Kd.R_far (p := ⟨gb195, 0, none⟩) (Kd.R_types HO188.out BK195.out (by decide)) (fun _ hk => hk.2) (.slice Ao13 y186.length co13)) (fun _ hk => hk.2) (.int .i64 (rd y189 t192))) (fun _ h_ => h_.1))) (by decide)) hk (fun _ h => h.2)) (fun _ h => h.1)); replace HO191 := Aside0.mk (Kd.R_mono (Kd.R_keep (IsS85.apart (show IsS85 w0 _ g s0_0 t193 from zi85 HI0) (by (with_reducible repeat (first | apply Kd.R_alloc | apply Kd.R_drewN | apply Kd.R_drew)); exact (Kd.R_mono (Kd.R_far (p := ⟨gb195, 1, none⟩) (Kd.R_far (p := ⟨gb195, 0, none⟩) (Kd.R_types HO191.out BK195.out (by decide)) (fun _ hk => hk.2) (.slice Ao13 y186.length co13)) (fun _ hk => hk.2) (.int .i64 (rd y189 t192))) (fun _ h_ => h_.1))) (by decide)) hk (fun _ h => h.2)) (fun _ h => h.1)); replace BK195 := Aside0.mk (KeepBut.blk hk (g' := gb195) (o := .cells #[.slice Ao13 y186.length co13, .int .i64 (rd y189 t192)] 25 (0, 0)) (by (with_reducible repeat (first | refine blk_drewN ?_ _ | refine blk_drew ?_ | refine blk_alloc ?_ _)); refine blk_put (cs := #[.slice Ao13 y186.length co13, .int .i64 0]) ?_ 1 _ rfl; (with_reducible repeat (first | refine blk_drewN ?_ _ | refine blk_drew ?_ | refine blk_alloc ?_ _)); refine blk_put (cs := #[.slice none 0 0, .int .i64 0]) ?_ 0 _ rfl; exact zk BK195) NB195_0.out (by simp)); replace HK := Aside0.mk (KeepBut.trans (zh HK) hk (.inl rfl)); replace HB := Aside0.mk (hb); replace HI0 := Aside0.mk (hi); (try clear hb); (try clear hk); (try clear hi)))
   go_loopg [4] k (fun kq v4 w' => ∃ (x4_1 : Int) (x1001_1 : Int) (x196000_1 : List (S36)) (x196001_1 : Int) (u196000 : Value), v4 = .int .i64 x4_1 ∧ Aside0 (spec_l71Table.l0 kq x4_1 s0_0 x1001_1 x196000_1 x196001_1 = some (r1, r2, r3)) ∧ Aside0 (kq ≤ k) ∧ Aside0 (Kd.R k36 36 w' w.heap.size (fun _ => True) u196000 x196000_1) ∧ Aside0 (w'.heap[gb185]? = some (.cells #[(.slice none 0 0), .int .i64 0] 25 (0, 0))) ∧ Aside0 (w'.heap[gb195]? = some (.cells #[u196000, .int .i64 x196001_1] 25 (0, 0))) ∧ Aside0 (IsS85 w0 w' g s0_0 x1001_1) ∧ Aside0 (KeepBut w w' g none) ∧ Aside0 (Below w0.heap.size w0 w'))
   case atStart => exact ⟨(t196), (t197), (y186), (rd y189 t192), (.slice Ao13 y186.length co13), zs, H', ⟨Nat.le_refl _⟩, ⟨by exact zr HO188⟩, ⟨by exact zk BK185⟩, ⟨by exact zk BK195⟩, ⟨zi85 HI0⟩, ⟨zh HK⟩, ⟨zg85 HB⟩⟩
   case round =>
    clear H'
    try clear c1
    try clear p1
    try clear q1
    try clear hx1
    try clear p2
    try clear c3
    try clear c3b0
    try clear c4
    try clear c4b0
    try clear c15
    try clear c16
    try clear hcz17_0
    try clear hcz17_1
    try clear hfz17_0
    try clear hfz17_1
    try clear hx194_0
    try clear p194
    try clear q194
    obtain ⟨x4_1, x1001_1, x196000_1, x196001_1, u196000, rfl, HA, HK1, HO_196000, BK185, BK195, HI0, HK, HB⟩ := hrel
    cases gk with
    | zero => exact absurd HA.out (by simp [spec_l71Table.l0])
    | succ k1 =>
     have H := HA.out
     clear HA
     simp only [spec_l71Table.l0] at H
     by_cases c19 : x4_1 > 0
     ·rw [if_pos c19] at H
      have c19b0 : decide (0 < x4_1) = true := decide_eq_true c19
      clear c19
      replace H := Option.bind_eq_some_iff.mp H
      obtain ⟨⟨t198, t199, t200, t201⟩, A200, H⟩ := H
      replace H : ((spec_FieldOk.f k1 t198 t199 t200).bind fun t203 => (if t203 = true then ((spec_l3Add.f k1 x196000_1 x196001_1 t198 t199 t200).bind fun bt204 => (spec_l71Table.l0 k1 (wrap64 (x4_1 - 1)) s0_0 t201 bt204.1 bt204.2)) else (spec_l71Table.l0 k1 (wrap64 (x4_1 - 1)) s0_0 t201 x196000_1 x196001_1))) = some (r1, r2, r3) := H
      have A20 := Aside0.mk A200
      clear A200
      replace H := Option.bind_eq_some_iff.mp H
      obtain ⟨t203, A210, H⟩ := H
      replace H : (if t203 = true then ((spec_l3Add.f k1 x196000_1 x196001_1 t198 t199 t200).bind fun bt204 => (spec_l71Table.l0 k1 (wrap64 (x4_1 - 1)) s0_0 t201 bt204.1 bt204.2)) else (spec_l71Table.l0 k1 (wrap64 (x4_1 - 1)) s0_0 t201 x196000_1 x196001_1)) = some (r1, r2, r3) := H
      have A21 := Aside0.mk A210
      clear A210
      have HC22 := Aside0.mk H
      clear H
      go_upto_if 22 with (first | ((with_reducible refine gq 58 rfl ?_); refine gl (some 20) Try.func58 #[.pointer (some ⟨g, 0, none⟩)] ?_; (with_reducible refine (spec_l71Field.calls k1 g s0_0 x1001_1 t198 t199 t200 t201 w0 _ ?side1 ?side2 A20.out).mono ?_); (case side1 => exact zi85 HI0); (case side2 => exact zg85 HB); rintro e w23 ⟨rfl, hi, hb, hk⟩; refine ⟨_, rfl, ?_⟩; replace HO_196000 := Aside0.mk (Kd.R_mono (Kd.R_keep (IsS85.apart (show IsS85 w0 _ g s0_0 x1001_1 from zi85 HI0) (zr HO_196000) (by decide)) hk (fun _ h => h.2)) (fun _ h => h.1)); replace BK185 := Aside0.mk (KeepBut.blk hk (g' := gb185) (o := .cells #[.slice none 0 0, .int .i64 0] 25 (0, 0)) (zk BK185) NB185_0.out (by simp)); replace BK195 := Aside0.mk (KeepBut.blk hk (g' := gb195) (o := .cells #[u196000, .int .i64 x196001_1] 25 (0, 0)) (zk BK195) NB195_0.out (by simp)); replace HK := Aside0.mk (KeepBut.trans (zh HK) hk (.inl rfl)); replace HB := Aside0.mk (hb); replace HI0 := Aside0.mk (hi); (try clear hb); (try clear hk); (try clear hi)) | ((with_reducible refine gd 5 rfl ?_); refine bx (N := 5) (cs := #[.string (⟨#[]⟩ : ByteArray), .string (⟨#[]⟩ : ByteArray), .bool false]) (t := 36) ?_; intro gb202 hg w24 hbox hb; replace HO_196000 := Aside0.mk (Kd.R_below (Kd.R_elderB (zr HO_196000) gb202 (Nat.le_of_eq hg.symm)) hb); replace HB := Aside0.mk (below_step (zg85 HB) hb); have BK202 := Aside0.mk (hbox); have GW202 := Aside0.mk ((by rw [hg]; exact (keep_size (w := w) (g := g) (row := none) (zh HK)) : w.heap.size ≤ gb202)); have GE202 := Aside0.mk ((Nat.le_trans HW0.out (by rw [hg]; exact (keep_size (w := w) (g := g) (row := none) (zh HK)) : w.heap.size ≤ gb202) : w0.heap.size ≤ gb202)); replace HK := Aside0.mk (KeepBut.trans (zh HK) (KeepBut.of_below hb g none) (.inl rfl)); have NB185_202 := Aside0.mk ((by rw [hg]; exact Nat.ne_of_lt (blk_lt (g := gb185) (o := .cells #[.slice none 0 0, .int .i64 0] 25 (0, 0)) (zk BK185)) : gb185 ≠ gb202)); have NB202_185 := Aside0.mk ((by rw [hg]; exact Nat.ne_of_gt (blk_lt (g := gb185) (o := .cells #[.slice none 0 0, .int .i64 0] 25 (0, 0)) (zk BK185)) : gb202 ≠ gb185)); replace BK185 := Aside0.mk (blk_below (g := gb185) (o := .cells #[.slice none 0 0, .int .i64 0] 25 (0, 0)) (zk BK185) hb); have NB195_202 := Aside0.mk ((by rw [hg]; exact Nat.ne_of_lt (blk_lt (g := gb195) (o := .cells #[u196000, .int .i64 x196001_1] 25 (0, 0)) (zk BK195)) : gb195 ≠ gb202)); have NB202_195 := Aside0.mk ((by rw [hg]; exact Nat.ne_of_gt (blk_lt (g := gb195) (o := .cells #[u196000, .int .i64 x196001_1] 25 (0, 0)) (zk BK195)) : gb202 ≠ gb195)); replace BK195 := Aside0.mk (blk_below (g := gb195) (o := .cells #[u196000, .int .i64 x196001_1] 25 (0, 0)) (zk BK195) hb); have NB0_202 := Aside0.mk ((by rw [hg]; exact Nat.ne_of_lt (IsS85.lt (show IsS85 w0 _ g s0_0 t201 from zi85 HI0)) : g ≠ gb202)); have NB202_0 := Aside0.mk ((by rw [hg]; exact Nat.ne_of_gt (IsS85.lt (show IsS85 w0 _ g s0_0 t201 from zi85 HI0)) : gb202 ≠ g)); replace HI0 := Aside0.mk (IsS85.below (zi85 HI0) hb); clear hb hbox hg; have hnb25 := NB202_185.out; have hnc25 := NB185_202.out; have hnb26 := NB202_195.out; have hnc26 := NB195_202.out; have hnb27 := NB202_0.out; have hnc27 := NB0_202.out; have hcz28_0 : w24.cell? ⟨gb202, 0, none⟩ = some (.string (⟨#[]⟩ : ByteArray)) := (blk_cell BK202.out 0).trans rfl; have hcz28_1 : w24.cell? ⟨gb202, 1, none⟩ = some (.string (⟨#[]⟩ : ByteArray)) := (blk_cell BK202.out 1).trans rfl; have hcz28_2 : w24.cell? ⟨gb202, 2, none⟩ = some (.bool false) := (blk_cell BK202.out 2).trans rfl; have hfz28_0 := blk_frozen BK202.out 0; have hfz28_1 := blk_frozen BK202.out 1; have hfz28_2 := blk_frozen BK202.out 2) | ((with_reducible refine gq 32 rfl ?_); refine gl (some 22) Try.func32 #[.agg #[.string t198, .string t199, .bool t200]] ?_; (with_reducible refine (spec_FieldOk.calls k1 t198 t199 t200 t203 _ A21.out).mono ?_); rintro e w29 ⟨rfl, hb⟩; refine ⟨_, rfl, ?_⟩; replace HO_196000 := Aside0.mk (Kd.R_below (by (with_reducible repeat (first | apply Kd.R_alloc | apply Kd.R_drewN | apply Kd.R_drew)); exact (Kd.R_mono (Kd.R_far (p := ⟨gb202, 2, none⟩) (Kd.R_far (p := ⟨gb202, 1, none⟩) (Kd.R_far (p := ⟨gb202, 0, none⟩) (Kd.R_mono HO_196000.out (fun k_ hk => (⟨hk, hk.2⟩ : _ ∧ k_ ≠ gb202))) (fun _ hk => hk.2) (.string t198)) (fun _ hk => hk.2) (.string t199)) (fun _ hk => hk.2) (.bool t200)) (fun _ h_ => h_.1))) hb); replace BK185 := Aside0.mk (blk_below (g := gb185) (o := .cells #[.slice none 0 0, .int .i64 0] 25 (0, 0)) (by (with_reducible repeat (first | refine blk_drewN ?_ _ | refine blk_drew ?_ | refine blk_alloc ?_ _)); refine blk_far ?_ NB185_202.out _; (with_reducible repeat (first | refine blk_drewN ?_ _ | refine blk_drew ?_ | refine blk_alloc ?_ _)); refine blk_far ?_ NB185_202.out _; (with_reducible repeat (first | refine blk_drewN ?_ _ | refine blk_drew ?_ | refine blk_alloc ?_ _)); refine blk_far ?_ NB185_202.out _; exact zk BK185) hb); replace BK195 := Aside0.mk (blk_below (g := gb195) (o := .cells #[u196000, .int .i64 x196001_1] 25 (0, 0)) (by (with_reducible repeat (first | refine blk_drewN ?_ _ | refine blk_drew ?_ | refine blk_alloc ?_ _)); refine blk_far ?_ NB195_202.out _; (with_reducible repeat (first | refine blk_drewN ?_ _ | refine blk_drew ?_ | refine blk_alloc ?_ _)); refine blk_far ?_ NB195_202.out _; (with_reducible repeat (first | refine blk_drewN ?_ _ | refine blk_drew ?_ | refine blk_alloc ?_ _)); refine blk_far ?_ NB195_202.out _; exact zk BK195) hb); replace HI0 := Aside0.mk (IsS85.below (show IsS85 w0 (((w24.setCell ⟨gb202, 0, none⟩ (.string t198)).setCell ⟨gb202, 1, none⟩ (.string t199)).setCell ⟨gb202, 2, none⟩ (.bool t200)) g s0_0 t201 from zi85 HI0) hb); replace BK202 := Aside0.mk (blk_below (g := gb202) (o := .cells #[.string t198, .string t199, .bool t200] 36 (0, 0)) (by (with_reducible repeat (first | refine blk_drewN ?_ _ | refine blk_drew ?_ | refine blk_alloc ?_ _)); refine blk_put (cs := #[.string t198, .string t199, .bool false]) ?_ 2 _ rfl; (with_reducible repeat (first | refine blk_drewN ?_ _ | refine blk_drew ?_ | refine blk_alloc ?_ _)); refine blk_put (cs := #[.string t198, .string (⟨#[]⟩ : ByteArray), .bool false]) ?_ 1 _ rfl; (with_reducible repeat (first | refine blk_drewN ?_ _ | refine blk_drew ?_ | refine blk_alloc ?_ _)); refine blk_put (cs := #[.string (⟨#[]⟩ : ByteArray), .string (⟨#[]⟩ : ByteArray), .bool false]) ?_ 0 _ rfl; exact zk BK202) hb); replace HK := Aside0.mk (KeepBut.trans (zh HK) (KeepBut.of_below hb g none) (.inl rfl)); replace HB := Aside0.mk (below_step (zg85 HB) hb); (try clear hb)))
      (try simp only [Act.put, s1, s2, s3])
      have H := HC22.out
      clear HC22
      by_cases c30 : t203 = true
      ·subst c30
       have H1 : ((spec_l3Add.f k1 x196000_1 x196001_1 t198 t199 t200).bind fun bt204 => (spec_l71Table.l0 k1 (wrap64 (x4_1 - 1)) s0_0 t201 bt204.1 bt204.2)) = some (r1, r2, r3) := by rw [if_pos rfl] at H; exact H
       clear H
       have H := H1
       clear H1
       replace H := Option.bind_eq_some_iff.mp H
       obtain ⟨⟨t204, t207⟩, A310, H⟩ := H
       replace H : (spec_l71Table.l0 k1 (wrap64 (x4_1 - 1)) s0_0 t201 t204 t207) = some (r1, r2, r3) := H
       have A31 := Aside0.mk A310
       clear A310
       have H' := Aside0.mk H
       clear H
       have hnb32 := NB195_185.out
       have hnc32 := NB185_195.out
       have hnb33 := NB195_202.out
       have hnc33 := NB202_195.out
       have hnb34 := NB195_0.out
       have hnc34 := NB0_195.out
       have hcz35_0 : w29.cell? ⟨gb195, 0, none⟩ = some (u196000) := (blk_cell BK195.out 0).trans rfl
       have hcz35_1 : w29.cell? ⟨gb195, 1, none⟩ = some (.int .i64 x196001_1) := (blk_cell BK195.out 1).trans rfl
       have hfz35_0 := blk_frozen BK195.out 0
       have hfz35_1 := blk_frozen BK195.out 1
       have hnb36 := NB202_185.out
       have hnc36 := NB185_202.out
       have hnb37 := NB202_0.out
       have hnc37 := NB0_202.out
       have hcz38_0 : w29.cell? ⟨gb202, 0, none⟩ = some (.string t198) := (blk_cell BK202.out 0).trans rfl
       have hcz38_1 : w29.cell? ⟨gb202, 1, none⟩ = some (.string t199) := (blk_cell BK202.out 1).trans rfl
       have hcz38_2 : w29.cell? ⟨gb202, 2, none⟩ = some (.bool t200) := (blk_cell BK202.out 2).trans rfl
       have hfz38_0 := blk_frozen BK202.out 0
       have hfz38_1 := blk_frozen BK202.out 1
       have hfz38_2 := blk_frozen BK202.out 2
       obtain ⟨Ao39, co39, eo39⟩ := Kd.R_slice HO_196000.out
       subst eo39
       go_wp2_with (first | ((with_reducible refine gq 60 rfl ?_); refine gl (some 25) Try.func60 #[.agg #[.slice Ao39 x196000_1.length co39, .int .i64 x196001_1], .agg #[.string t198, .string t199, .bool t200]] ?_; (with_reducible refine (spec_l3Add.calls k1 _ _ x196000_1 x196001_1 t198 t199 t200 t204 t207 _ ?side1 ?side2 A31.out).mono ?_); (case side1 => exact zc (Kd.R_reads' HO_196000.out).2.2); (case side2 => exact (Kd.R_reads' HO_196000.out).2.1); rintro e w40 ⟨v205, rfl, ho0, hb⟩; refine ⟨_, rfl, ?_⟩; have HO206 := Aside0.mk (Kd.R_lower (Kd.R_newB (Kd.R_new' ho0 (Kd.R_lt (zr HO_196000))) (g := gb202) (o := .cells #[.string t198, .string t199, .bool t200] 36 (0, 0)) (zk BK202)) (keep_size (w := w) (g := g) (row := none) (zh HK))); replace HO_196000 := Aside0.mk (Kd.R_elder' (zr HO_196000) (Kd.R_base ho0) hb); replace BK185 := Aside0.mk (blk_below (g := gb185) (o := .cells #[.slice none 0 0, .int .i64 0] 25 (0, 0)) (zk BK185) hb); replace BK195 := Aside0.mk (blk_below (g := gb195) (o := .cells #[.slice Ao39 x196000_1.length co39, .int .i64 x196001_1] 25 (0, 0)) (zk BK195) hb); replace HI0 := Aside0.mk (IsS85.below (zi85 HI0) hb); replace BK202 := Aside0.mk (blk_below (g := gb202) (o := .cells #[.string t198, .string t199, .bool t200] 36 (0, 0)) (zk BK202) hb); replace HK := Aside0.mk (KeepBut.trans (zh HK) (KeepBut.of_below hb g none) (.inl rfl)); replace HB := Aside0.mk (below_step (zg85 HB) hb); (try clear hb); (try clear ho0); obtain ⟨Ao41, co41, eo41⟩ := Kd.R_slice HO206.out; subst eo41; have hcz42_0 : w40.cell? ⟨gb195, 0, none⟩ = some (.slice Ao39 x196000_1.length co39) := (blk_cell BK195.out 0).trans rfl; have hcz42_1 : w40.cell? ⟨gb195, 1, none⟩ = some (.int .i64 x196001_1) := (blk_cell BK195.out 1).trans rfl; have hfz42_0 := blk_frozen BK195.out 0; have hfz42_1 := blk_frozen BK195.out 1))
       go_roundg k1
       case measure => have := HK1.out; omega
       case rel => exact ⟨(wrap64 (x4_1 - 1)), (t201), (t204), (t207), (.slice Ao41 t204.length co41), zs, H', ⟨by have := HK1.out; omega⟩, ⟨by (with_reducible repeat (first | apply Kd.R_alloc | apply Kd.R_drewN | apply Kd.R_drew)); exact Kd.R_mono (Kd.R_far (p := ⟨gb195, 1, none⟩) (Kd.R_far (p := ⟨gb195, 0, none⟩) (Kd.R_types HO206.out BK195.out (by decide)) (fun _ hk => hk.2) (.slice Ao41 t204.length co41)) (fun _ hk => hk.2) (.int .i64 t207)) (fun _ hk => trivial)⟩, ⟨by (with_reducible repeat (first | refine blk_drewN ?_ _ | refine blk_drew ?_ | refine blk_alloc ?_ _)); refine blk_far ?_ NB185_195.out _; (with_reducible repeat (first | refine blk_drewN ?_ _ | refine blk_drew ?_ | refine blk_alloc ?_ _)); refine blk_far ?_ NB185_195.out _; exact zk BK185⟩, ⟨by (with_reducible repeat (first | refine blk_drewN ?_ _ | refine blk_drew ?_ | refine blk_alloc ?_ _)); refine blk_put (cs := #[.slice Ao41 t204.length co41, .int .i64 x196001_1]) ?_ 1 _ rfl; (with_reducible repeat (first | refine blk_drewN ?_ _ | refine blk_drew ?_ | refine blk_alloc ?_ _)); refine blk_put (cs := #[.slice Ao39 x196000_1.length co39, .int .i64 x196001_1]) ?_ 0 _ rfl; exact zk BK195⟩, ⟨zi85 HI0⟩, ⟨zh HK⟩, ⟨zg85 HB⟩⟩
      ·replace c30 := Bool.eq_false_iff.mpr c30
       subst c30
       have H1 : (spec_l71Table.l0 k1 (wrap64 (x4_1 - 1)) s0_0 t201 x196000_1 x196001_1) = some (r1, r2, r3) := by rw [if_neg (show ¬ (false = true) by decide)] at H; exact H
       clear H
       have H := H1
       clear H1
       have H' := Aside0.mk H
       clear H
       go_wp2
       go_roundg k1
       case measure => have := HK1.out; omega
       case rel => exact ⟨(wrap64 (x4_1 - 1)), (t201), (x196000_1), (x196001_1), (u196000), zs, H', ⟨by have := HK1.out; omega⟩, ⟨by (with_reducible repeat (first | apply Kd.R_alloc | apply Kd.R_drewN | apply Kd.R_drew)); exact Kd.R_mono HO_196000.out (fun _ hk => trivial)⟩, ⟨by exact zk BK185⟩, ⟨by exact zk BK195⟩, ⟨zi85 HI0⟩, ⟨zh HK⟩, ⟨zg85 HB⟩⟩
     ·rw [if_neg c19] at H
      have c19b0 : decide (0 < x4_1) = false := decide_eq_false c19
      clear c19
      replace H := Option.bind_eq_some_iff.mp H
      obtain ⟨⟨t208, t209⟩, A430, H⟩ := H
      replace H : (if t208 = 0 then ((some (([(-1), 65, 3] : List Int) : List Int)).bind fun y210 => ((spec_l6Rd_pick.f k1 s0_0 t209 3).bind fun bt213 => (if 0 ≤ bt213.1 then (if bt213.1 < (y210.length : Int) then (some (x196000_1, rd y210 bt213.1, bt213.2)) else (none)) else (none)))) else (if t208 = 1 then ((spec_l71Field.f k1 s0_0 t209).bind fun bt216 => ((spec_l71Field.f k1 s0_0 bt216.2.2.2).bind fun bt220 => ((spec_l71Field.f k1 s0_0 bt220.2.2.2).bind fun bt224 => ((some (([(⟨bt216.1, bt216.2.1, bt216.2.2.1⟩ : S36), (⟨bt220.1, bt220.2.1, bt220.2.2.1⟩ : S36), (⟨bt224.1, bt224.2.1, bt224.2.2.1⟩ : S36)] : List (S36)) : List (S36))).bind fun y228 => (if x196000_1.length + y228.length < 3518437208883 then (some ((x196000_1 ++ y228), x196001_1, bt224.2.2.2)) else (none)))))) else (some (x196000_1, x196001_1, t209)))) = some (r1, r2, r3) := H
      have A43 := Aside0.mk A430
      clear A430
      by_cases c44 : t208 = 0
      ·rw [if_pos c44] at H
       have c44b0 : (t208 == 0) = true := beq_iff_eq.mpr c44
       have c44b1 : (t208 != 0) = false := bne_eq_false_iff_eq.mpr c44
       clear c44
       obtain ⟨y210, hy210⟩ : ∃ y_ : List Int, y_ = (([(-1), 65, 3] : List Int)) := ⟨_, rfl⟩
       replace H : ((spec_l6Rd_pick.f k1 s0_0 t209 3).bind fun bt213 => (if 0 ≤ bt213.1 then (if bt213.1 < (y210.length : Int) then (some (x196000_1, rd y210 bt213.1, bt213.2)) else (none)) else (none))) = some (r1, r2, r3) := by first | (rw [hy210]; with_reducible exact H) | (have H2_ := (Option.bind_some _ _).symm.trans H; rw [hy210]; with_reducible exact H2_) | (have H2_ := (Option.bind_some _ _).symm.trans H; with_reducible exact H2_) | with_reducible exact H | (rw [hy210]; exact H) | exact H
       have Ny210 := Aside0.mk hy210
       clear hy210
       replace H := Option.bind_eq_some_iff.mp H
       obtain ⟨⟨t213, t214⟩, A450, H⟩ := H
       replace H : (if 0 ≤ t213 then (if t213 < (y210.length : Int) then (some (x196000_1, rd y210 t213, t214)) else (none)) else (none)) = some (r1, r2, r3) := H
       have A45 := Aside0.mk A450
       clear A450
       by_cases c46 : 0 ≤ t213
       ·rw [if_pos c46] at H
        have c46b0 : decide (0 ≤ t213) = true := decide_eq_true c46
        clear c46
        by_cases c47 : t213 < (y210.length : Int)
        ·rw [if_pos c47] at H
         have c47b0 : decide (t213 < (y210.length : Int)) = true := decide_eq_true c47
         clear c47
         simp only [Option.some.injEq, Prod.mk.injEq] at H
         obtain ⟨rfl, rfl, rfl⟩ := H
         go_wp2_with (first | ((with_reducible refine gq 47 rfl ?_); refine gl (some 27) Try.func47 #[.pointer (some ⟨g, 0, none⟩), .int .i64 24] ?_; (with_reducible refine (spec_l6Rd_pick.calls k1 g s0_0 x1001_1 24 t208 t209 w0 _ ?side1 ?side2 A43.out).mono ?_); (case side1 => exact zi85 HI0); (case side2 => exact zg85 HB); rintro e w48 ⟨rfl, hi, hb, hk⟩; refine ⟨_, rfl, ?_⟩; replace HO_196000 := Aside0.mk (Kd.R_mono (Kd.R_keep (IsS85.apart (show IsS85 w0 _ g s0_0 x1001_1 from zi85 HI0) (zr HO_196000) (by decide)) hk (fun _ h => h.2)) (fun _ h => h.1)); replace BK185 := Aside0.mk (KeepBut.blk hk (g' := gb185) (o := .cells #[.slice none 0 0, .int .i64 0] 25 (0, 0)) (zk BK185) NB185_0.out (by simp)); replace BK195 := Aside0.mk (KeepBut.blk hk (g' := gb195) (o := .cells #[u196000, .int .i64 x196001_1] 25 (0, 0)) (zk BK195) NB195_0.out (by simp)); replace HK := Aside0.mk (KeepBut.trans (zh HK) hk (.inl rfl)); replace HB := Aside0.mk (hb); replace HI0 := Aside0.mk (hi); (try clear hb); (try clear hk); (try clear hi)) | ((with_reducible refine gd 30 rfl ?_); refine Kd.R_lit (Kd.int .i64) _ 3 ?hg (N := 30) ?hd (xs := ([(-1), 65, 3] : List Int)) (inner := [.int .i64 (-1), .int .i64 65, .int .i64 3]) (ok := fun _ => True) (okp := fun _ => True) ?hr ?hp (fun _ hk => hk) trivial (Below.refl _ _) (Nat.le_refl _) (by simp) ?_; (case hd => rfl); (case hg => rfl); (case hr => first | (go_simp; done) | (go_simp; rfl)); (case hp => exact (Reps.one (show Kd.M (Kd.int .i64) _ _ _ (-1) [.int .i64 (-1)] from rfl) (Reps.one (show Kd.M (Kd.int .i64) _ _ _ 65 [.int .i64 65] from rfl) (Reps.one (show Kd.M (Kd.int .i64) _ _ _ 3 [.int .i64 3] from rfl) (Reps.none _ _))))); intro v211 w49 ho50 hb hg_ hnew_; clear hg_ hnew_; (first | rw [← Ny210.out] at ho50 | (simp only [Int.reduceToNat] at ho50; rw [← Ny210.out] at ho50)); replace HO_196000 := Aside0.mk (Kd.R_below (zr HO_196000) hb); have HO212 := Aside0.mk (Kd.R_lower ho50 (keep_size (w := w) (g := g) (row := none) (zh HK))); replace BK185 := Aside0.mk (blk_below (g := gb185) (o := .cells #[.slice none 0 0, .int .i64 0] 25 (0, 0)) (zk BK185) hb); replace BK195 := Aside0.mk (blk_below (g := gb195) (o := .cells #[u196000, .int .i64 x196001_1] 25 (0, 0)) (zk BK195) hb); replace HI0 := Aside0.mk (IsS85.below (zi85 HI0) hb); replace HK := Aside0.mk (KeepBut.trans (zh HK) (KeepBut.of_below hb g none) (.inl rfl)); replace HB := Aside0.mk (below_step (zg85 HB) hb); clear hb ho50) | ((with_reducible refine gq 47 rfl ?_); refine gl (some 32) Try.func47 #[.pointer (some ⟨g, 0, none⟩), .int .i64 3] ?_; (with_reducible refine (spec_l6Rd_pick.calls k1 g s0_0 t209 3 t213 t214 w0 _ ?side1 ?side2 A45.out).mono ?_); (case side1 => exact zi85 HI0); (case side2 => exact zg85 HB); rintro e w51 ⟨rfl, hi, hb, hk⟩; refine ⟨_, rfl, ?_⟩; replace HO_196000 := Aside0.mk (Kd.R_mono (Kd.R_keep (IsS85.apart (show IsS85 w0 _ g s0_0 t209 from zi85 HI0) (zr HO_196000) (by decide)) hk (fun _ h => h.2)) (fun _ h => h.1)); replace BK185 := Aside0.mk (KeepBut.blk hk (g' := gb185) (o := .cells #[.slice none 0 0, .int .i64 0] 25 (0, 0)) (zk BK185) NB185_0.out (by simp)); replace BK195 := Aside0.mk (KeepBut.blk hk (g' := gb195) (o := .cells #[u196000, .int .i64 x196001_1] 25 (0, 0)) (zk BK195) NB195_0.out (by simp)); replace HO212 := Aside0.mk (Kd.R_mono (Kd.R_keep (IsS85.apart (show IsS85 w0 _ g s0_0 t209 from zi85 HI0) (zr HO212) (by decide)) hk (fun _ h => h.2)) (fun _ h => h.1)); replace HK := Aside0.mk (KeepBut.trans (zh HK) hk (.inl rfl)); replace HB := Aside0.mk (hb); replace HI0 := Aside0.mk (hi); (try clear hb); (try clear hk); (try clear hi); obtain ⟨Ao52, co52, eo52⟩ := Kd.R_slice HO212.out; subst eo52; have p215 : 0 ≤ (t213 : Int) := of_decide_eq_true za; have q215 : t213 < (y210.length : Int) := of_decide_eq_true za; obtain ⟨ad215, e215, hx215_0⟩ := Kd.at_int (Kd.R_reads' HO212.out).2.2 t213 p215 q215; cases e215; replace p215 := eq_true p215; replace q215 := eq_true q215; have hnb53 := NB195_185.out; have hnc53 := NB185_195.out; have hnb54 := NB195_0.out; have hnc54 := NB0_195.out; have hcz55_0 : w51.cell? ⟨gb195, 0, none⟩ = some (u196000) := (blk_cell BK195.out 0).trans rfl; have hcz55_1 : w51.cell? ⟨gb195, 1, none⟩ = some (.int .i64 x196001_1) := (blk_cell BK195.out 1).trans rfl; have hfz55_0 := blk_frozen BK195.out 0; have hfz55_1 := blk_frozen BK195.out 1; obtain ⟨Ao56, co56, eo56⟩ := Kd.R_slice HO_196000.out; subst eo56; have hnb57 := NB185_0.out; have hnc57 := NB0_185.out; have hcz58_0 : w51.cell? ⟨gb185, 0, none⟩ = some (.slice none 0 0) := (blk_cell BK185.out 0).trans rfl; have hcz58_1 : w51.cell? ⟨gb185, 1, none⟩ = some (.int .i64 0) := (blk_cell BK185.out 1).trans rfl; have hfz58_0 := blk_frozen BK185.out 0; have hfz58_1 := blk_frozen BK185.out 1))
         refine bodyPost_ret (results_cell_row rfl _ _ gb185 25 #[.slice Ao56 x196000_1.length co56, .int .i64 (rd y210 t213)] (0, 0) _ rfl (by (with_reducible repeat (first | refine blk_drewN ?_ _ | refine blk_drew ?_ | refine blk_alloc ?_ _)); refine blk_put (cs := #[.slice Ao56 x196000_1.length co56, .int .i64 0]) ?_ 1 _ rfl; (with_reducible repeat (first | refine blk_drewN ?_ _ | refine blk_drew ?_ | refine blk_alloc ?_ _)); refine blk_put (cs := #[.slice none 0 0, .int .i64 0]) ?_ 0 _ rfl; (with_reducible repeat (first | refine blk_drewN ?_ _ | refine blk_drew ?_ | refine blk_alloc ?_ _)); refine blk_far ?_ NB185_195.out _; exact zk BK185) Try.underlying25 rfl (by kernel_rfl)) rfl ?_
         exact ⟨_, ze, by (with_reducible repeat (first | apply Kd.R_alloc | apply Kd.R_drewN | apply Kd.R_drew)); exact Kd.R_mono (Kd.R_far (p := ⟨gb185, 1, none⟩) (Kd.R_far (p := ⟨gb185, 0, none⟩) (Kd.R_far (p := ⟨gb195, 1, none⟩) (Kd.R_types (Kd.R_types HO_196000.out BK195.out (by decide)) BK185.out (by decide)) (fun _ hk => hk.1.2) (.int .i64 (rd y210 t213))) (fun _ hk => hk.2) (.slice Ao56 x196000_1.length co56)) (fun _ hk => hk.2) (.int .i64 (rd y210 t213))) (fun _ hk => trivial), zi85 HI0, zg85 HB, zh HK⟩
        ·rw [if_neg c47] at H
         exact absurd H (by simp)
       ·rw [if_neg c46] at H
        exact absurd H (by simp)
      ·rw [if_neg c44] at H
       have c44b0 : (t208 == 0) = false := beq_eq_false_iff_ne.mpr c44
       have c44b1 : (t208 != 0) = true := bne_iff_ne.mpr c44
       by_cases c59 : t208 = 1
       ·rw [if_pos c59] at H
        have c59b0 : (t208 == 1) = true := beq_iff_eq.mpr c59
        have c59b1 : (t208 != 1) = false := bne_eq_false_iff_eq.mpr c59
        clear c59
        replace H := Option.bind_eq_some_iff.mp H
        obtain ⟨⟨t216, t217, t218, t219⟩, A600, H⟩ := H
        replace H : ((spec_l71Field.f k1 s0_0 t219).bind fun bt220 => ((spec_l71Field.f k1 s0_0 bt220.2.2.2).bind fun bt224 => ((some (([(⟨t216, t217, t218⟩ : S36), (⟨bt220.1, bt220.2.1, bt220.2.2.1⟩ : S36), (⟨bt224.1, bt224.2.1, bt224.2.2.1⟩ : S36)] : List (S36)) : List (S36))).bind fun y228 => (if x196000_1.length + y228.length < 3518437208883 then (some ((x196000_1 ++ y228), x196001_1, bt224.2.2.2)) else (none))))) = some (r1, r2, r3) := H
        have A60 := Aside0.mk A600
        clear A600
        replace H := Option.bind_eq_some_iff.mp H
        obtain ⟨⟨t220, t221, t222, t223⟩, A610, H⟩ := H
        replace H : ((spec_l71Field.f k1 s0_0 t223).bind fun bt224 => ((some (([(⟨t216, t217, t218⟩ : S36), (⟨t220, t221, t222⟩ : S36), (⟨bt224.1, bt224.2.1, bt224.2.2.1⟩ : S36)] : List (S36)) : List (S36))).bind fun y228 => (if x196000_1.length + y228.length < 3518437208883 then (some ((x196000_1 ++ y228), x196001_1, bt224.2.2.2)) else (none)))) = some (r1, r2, r3) := H
        have A61 := Aside0.mk A610
        clear A610
        replace H := Option.bind_eq_some_iff.mp H
        obtain ⟨⟨t224, t225, t226, t227⟩, A620, H⟩ := H
        replace H : ((some (([(⟨t216, t217, t218⟩ : S36), (⟨t220, t221, t222⟩ : S36), (⟨t224, t225, t226⟩ : S36)] : List (S36)) : List (S36))).bind fun y228 => (if x196000_1.length + y228.length < 3518437208883 then (some ((x196000_1 ++ y228), x196001_1, t227)) else (none))) = some (r1, r2, r3) := H
        have A62 := Aside0.mk A620
        clear A620
        obtain ⟨y228, hy228⟩ : ∃ y_ : List (S36), y_ = (([(⟨t216, t217, t218⟩ : S36), (⟨t220, t221, t222⟩ : S36), (⟨t224, t225, t226⟩ : S36)] : List (S36))) := ⟨_, rfl⟩
        replace H : (if x196000_1.length + y228.length < 3518437208883 then (some ((x196000_1 ++ y228), x196001_1, t227)) else (none)) = some (r1, r2, r3) := by first | (rw [hy228]; with_reducible exact H) | (have H2_ := (Option.bind_some _ _).symm.trans H; rw [hy228]; with_reducible exact H2_) | (have H2_ := (Option.bind_some _ _).symm.trans H; with_reducible exact H2_) | with_reducible exact H | (rw [hy228]; exact H) | exact H
        have Ny228 := Aside0.mk hy228
        clear hy228
        by_cases c63 : x196000_1.length + y228.length < 3518437208883
        ·rw [if_pos c63] at H
         have LMc63 := Aside0.mk c63
         clear c63
         obtain ⟨y231, hy231⟩ : ∃ y_ : List (S36), y_ = (x196000_1 ++ y228) := ⟨_, rfl⟩
         replace H : (some (y231, x196001_1, t227)) = some (r1, r2, r3) := by first | (rw [hy231]; with_reducible exact H) | (have H2_ := (Option.bind_some _ _).symm.trans H; rw [hy231]; with_reducible exact H2_) | (have H2_ := (Option.bind_some _ _).symm.trans H; with_reducible exact H2_) | with_reducible exact H | (rw [hy231]; exact H) | exact H
         have Ny231 := Aside0.mk hy231
         clear hy231
         simp only [Option.some.injEq, Prod.mk.injEq] at H
         obtain ⟨rfl, rfl, rfl⟩ := H
         try go_wp2_with (first | ((with_reducible refine gq 47 rfl ?_); refine gl (some 27) Try.func47 #[.pointer (some ⟨g, 0, none⟩), .int .i64 24] ?_; (with_reducible refine (spec_l6Rd_pick.calls k1 g s0_0 x1001_1 24 t208 t209 w0 _ ?side1 ?side2 A43.out).mono ?_); (case side1 => exact zi85 HI0); (case side2 => exact zg85 HB); rintro e w64 ⟨rfl, hi, hb, hk⟩; refine ⟨_, rfl, ?_⟩; replace HO_196000 := Aside0.mk (Kd.R_mono (Kd.R_keep (IsS85.apart (show IsS85 w0 _ g s0_0 x1001_1 from zi85 HI0) (zr HO_196000) (by decide)) hk (fun _ h => h.2)) (fun _ h => h.1)); replace BK185 := Aside0.mk (KeepBut.blk hk (g' := gb185) (o := .cells #[.slice none 0 0, .int .i64 0] 25 (0, 0)) (zk BK185) NB185_0.out (by simp)); replace BK195 := Aside0.mk (KeepBut.blk hk (g' := gb195) (o := .cells #[u196000, .int .i64 x196001_1] 25 (0, 0)) (zk BK195) NB195_0.out (by simp)); replace HK := Aside0.mk (KeepBut.trans (zh HK) hk (.inl rfl)); replace HB := Aside0.mk (hb); replace HI0 := Aside0.mk (hi); (try clear hb); (try clear hk); (try clear hi)))
         replace HO_196000 := Aside0.mk (Kd.R_drew HO_196000.out)
         replace BK185 := Aside0.mk (blk_drew BK185.out)
         replace BK195 := Aside0.mk (blk_drew BK195.out)
         replace HI0 := Aside0.mk (IsS85.drew HI0.out)
         replace HK := Aside0.mk (keep_drew HK.out)
         replace HB := Aside0.mk (below_drew1 HB.out)
         refine start_ (n := 12) (S := fun w' => w'.cell? ⟨gb195, 0, none⟩ = some (u196000) ∧ w'.cell? ⟨gb195, 1, none⟩ = some (.int .i64 x196001_1)) (ds := [11]) #[false, false, false, false, false, false, false, false, false, false, false, false] (by kernel_rfl) rfl rfl ⟨(blk_cell BK195.out 0).trans rfl, (blk_cell BK195.out 1).trans rfl⟩ (fun hHeld => ?_); refine with_tabW spec_l71Table.tab12 spec_l71Table.bits12 (fun HT_ HW_ => ?_)
         generalize w64.drew = w65 at HO_196000 BK185 BK195 HI0 HK HB hHeld ⊢
         refine pu 0 (some 38) (bm 12 1) rfl rfl ?_
         refine pu 2 (some 40) (bm 12 5) rfl rfl ?_
         refine pu 4 (some 42) (bm 12 21) rfl rfl ?_
         refine pu 6 (some 44) (bm 12 85) rfl rfl ?_
         refine tk2 1 (some 39) (bm 12 87) rfl rfl hHeld ?_
         refine one_ (i := 3) (N := some 41) (bm 12 95) rfl rfl (one_of HT_.out (by kernel_rfl)) (by decide) (fun K hK => ?_)
         refine gs Try.func58 #[.pointer (some ⟨g, 0, none⟩)] ?_
         with_reducible refine (spec_l71Field.calls k1 g s0_0 t209 t216 t217 t218 t219 w0 _ ?side1 ?side2 A60.out).mono ?_
         (case side1 => exact zi85 HI0)
         (case side2 => exact zg85 HB)
         rintro e w66 ⟨rfl, hi, hb, hk⟩
         refine ⟨_, rfl, ?_⟩
         replace HO_196000 := Aside0.mk (Kd.R_mono (Kd.R_keep (IsS85.apart (show IsS85 w0 _ g s0_0 t209 from zi85 HI0) (zr HO_196000) (by decide)) hk (fun _ h => h.2)) (fun _ h => h.1))
         replace BK185 := Aside0.mk (KeepBut.blk hk (g' := gb185) (o := .cells #[.slice none 0 0, .int .i64 0] 25 (0, 0)) (zk BK185) NB185_0.out (by simp))
         replace BK195 := Aside0.mk (KeepBut.blk hk (g' := gb195) (o := .cells #[u196000, .int .i64 x196001_1] 25 (0, 0)) (zk BK195) NB195_0.out (by simp))
         replace HK := Aside0.mk (KeepBut.trans (zh HK) hk (.inl rfl))
         replace HB := Aside0.mk (hb)
         replace HI0 := Aside0.mk (hi)
         (try clear hb)
         (try clear hk)
         (try clear hi)
         refine hK.out _ _ ⟨(blk_cell BK195.out 0).trans rfl, (blk_cell BK195.out 1).trans rfl⟩ (fun hHeld => ?_)
         clear hK K
         refine nm ?_
         refine one_ (i := 5) (N := some 43) (bm 12 127) rfl rfl (one_of HT_.out (by kernel_rfl)) (by decide) (fun K hK => ?_)
         refine gs Try.func58 #[.pointer (some ⟨g, 0, none⟩)] ?_
         with_reducible refine (spec_l71Field.calls k1 g s0_0 t219 t220 t221 t222 t223 w0 _ ?side1 ?side2 A61.out).mono ?_
         (case side1 => exact zi85 HI0)
         (case side2 => exact zg85 HB)
         rintro e w67 ⟨rfl, hi, hb, hk⟩
         refine ⟨_, rfl, ?_⟩
         replace HO_196000 := Aside0.mk (Kd.R_mono (Kd.R_keep (IsS85.apart (show IsS85 w0 _ g s0_0 t219 from zi85 HI0) (zr HO_196000) (by decide)) hk (fun _ h => h.2)) (fun _ h => h.1))
         replace BK185 := Aside0.mk (KeepBut.blk hk (g' := gb185) (o := .cells #[.slice none 0 0, .int .i64 0] 25 (0, 0)) (zk BK185) NB185_0.out (by simp))
         replace BK195 := Aside0.mk (KeepBut.blk hk (g' := gb195) (o := .cells #[u196000, .int .i64 x196001_1] 25 (0, 0)) (zk BK195) NB195_0.out (by simp))
         replace HK := Aside0.mk (KeepBut.trans (zh HK) hk (.inl rfl))
         replace HB := Aside0.mk (hb)
         replace HI0 := Aside0.mk (hi)
         (try clear hb)
         (try clear hk)
         (try clear hi)
         refine hK.out _ _ ⟨(blk_cell BK195.out 0).trans rfl, (blk_cell BK195.out 1).trans rfl⟩ (fun hHeld => ?_)
         clear hK K
         refine nm ?_
         refine one_ (i := 7) (N := some 45) (bm 12 255) rfl rfl (one_of HT_.out (by kernel_rfl)) (by decide) (fun K hK => ?_)
         refine gs Try.func58 #[.pointer (some ⟨g, 0, none⟩)] ?_
         with_reducible refine (spec_l71Field.calls k1 g s0_0 t223 t224 t225 t226 t227 w0 _ ?side1 ?side2 A62.out).mono ?_
         (case side1 => exact zi85 HI0)
         (case side2 => exact zg85 HB)
         rintro e w68 ⟨rfl, hi, hb, hk⟩
         refine ⟨_, rfl, ?_⟩
         replace HO_196000 := Aside0.mk (Kd.R_mono (Kd.R_keep (IsS85.apart (show IsS85 w0 _ g s0_0 t223 from zi85 HI0) (zr HO_196000) (by decide)) hk (fun _ h => h.2)) (fun _ h => h.1))
         replace BK185 := Aside0.mk (KeepBut.blk hk (g' := gb185) (o := .cells #[.slice none 0 0, .int .i64 0] 25 (0, 0)) (zk BK185) NB185_0.out (by simp))
         replace BK195 := Aside0.mk (KeepBut.blk hk (g' := gb195) (o := .cells #[u196000, .int .i64 x196001_1] 25 (0, 0)) (zk BK195) NB195_0.out (by simp))
         replace HK := Aside0.mk (KeepBut.trans (zh HK) hk (.inl rfl))
         replace HB := Aside0.mk (hb)
         replace HI0 := Aside0.mk (hi)
         (try clear hb)
         (try clear hk)
         (try clear hi)
         refine hK.out _ _ ⟨(blk_cell BK195.out 0).trans rfl, (blk_cell BK195.out 1).trans rfl⟩ (fun hHeld => ?_)
         clear hK K
         refine nm ?_
         refine one_ (i := 8) (N := some 46) (bm 12 511) rfl rfl (one_of HT_.out (by kernel_rfl)) (by decide) (fun K hK => ?_)
         refine Kd.R_lit_step k36 _ 36 ?hg (N := 46) ?hd (xs := ([(⟨t216, t217, t218⟩ : S36), (⟨t220, t221, t222⟩ : S36), (⟨t224, t225, t226⟩ : S36)] : List (S36))) (inner := [.string t216, .string t217, .bool t218, .string t220, .string t221, .bool t222, .string t224, .string t225, .bool t226]) (ok := fun _ => True) (okp := fun _ => True) ?hr ?hp (fun _ hk => hk) trivial (Below.refl _ _) (Nat.le_refl _) (by simp) ?_; (case hd => rfl); (case hg => rfl); (case hr => first | (go_simp; done) | (go_simp; rfl)); (case hp => exact (Reps.c3 (show Kd.M k36 _ _ _ (⟨t216, t217, t218⟩ : S36) [.string t216, .string t217, .bool t218] from (k36_mkM _ _ _ (⟨t216, t217, t218⟩ : S36) )) (Reps.c3 (show Kd.M k36 _ _ _ (⟨t220, t221, t222⟩ : S36) [.string t220, .string t221, .bool t222] from (k36_mkM _ _ _ (⟨t220, t221, t222⟩ : S36) )) (Reps.c3 (show Kd.M k36 _ _ _ (⟨t224, t225, t226⟩ : S36) [.string t224, .string t225, .bool t226] from (k36_mkM _ _ _ (⟨t224, t225, t226⟩ : S36) )) (Reps.none _ _)))))
         intro v229 w69 ho70 hb hg_ hnew_
         clear hg_ hnew_
         (first | rw [← Ny228.out] at ho70 | (simp only [Int.reduceToNat] at ho70; rw [← Ny228.out] at ho70))
         have HO230 := Aside0.mk (Kd.R_lower (Kd.R_new' ho70 (Kd.R_lt (zr HO_196000))) (keep_size (w := w) (g := g) (row := none) (zh HK)))
         replace HO_196000 := Aside0.mk (Kd.R_elder' (zr HO_196000) (Kd.R_base ho70) hb)
         replace BK185 := Aside0.mk (blk_below (g := gb185) (o := .cells #[.slice none 0 0, .int .i64 0] 25 (0, 0)) (zk BK185) hb)
         replace BK195 := Aside0.mk (blk_below (g := gb195) (o := .cells #[u196000, .int .i64 x196001_1] 25 (0, 0)) (zk BK195) hb)
         replace HI0 := Aside0.mk (IsS85.below (zi85 HI0) hb)
         replace HK := Aside0.mk (KeepBut.trans (zh HK) (KeepBut.of_below hb g none) (.inl rfl))
         replace HB := Aside0.mk (below_step (zg85 HB) hb)
         clear hb ho70
         obtain ⟨Ao72, co72, eo72⟩ := Kd.R_slice HO230.out
         (first | subst eo72 | (injection eo72 with f1_ f2_ f3_; have f4_ := f1_.symm; have f5_ := f3_.symm; clear f1_ f2_ f3_; subst f4_; subst f5_))
         refine hK.out _ _ ⟨(blk_cell BK195.out 0).trans rfl, (blk_cell BK195.out 1).trans rfl⟩ (fun hHeld => ?_)
         clear hK K
         refine nm ?_
         refine one_ (i := 9) (N := some 47) (bm 12 1023) rfl rfl (one_of HT_.out (by kernel_rfl)) (by decide) (fun K hK => ?_)
         refine Kd.R_append_rows_step k36 w.heap.size (by rfl) (.tmp 39) (.tmp 46) 23 36 (.agg #[(.string ⟨#[]⟩), (.string ⟨#[]⟩), (.bool false)]) 40 rfl Try.underlying23 info36 rfl (by decide) (by omega) u196000 x196000_1 y228 _ _ _ (fun k_ => some k_ ≠ (.slice Ao72 y228.length co72 : Value).ownBlock) (fun _ => False) rfl rfl ?aO ?aR (fun _ _ h => h) (fun _ h => h.elim) ?aF (Below.refl _ _) ?aS ?aL ?_
         (case aR => exact zc (Kd.R_reads' HO230.out).2.2)
         (case aF => exact (fun k_ hk => Kd.fresh' (Kd.R_lt (zr HO230)) k_ hk))
         (case aO => exact (by (with_reducible repeat (first | apply Kd.R_alloc | apply Kd.R_drewN | apply Kd.R_drew)); exact Kd.R_mono HO_196000.out (fun _ hk => hk.2)))
         (case aS => exact (keep_size (w := w) (g := g) (row := none) (zh HK)))
         (case aL => have := LMc63.out; omega)
         intro v232 w71 ho hb hg hat
         rw [← Ny231.out] at ho
         replace BK185 := Aside0.mk (blk_grown (g := gb185) (o := .cells #[.slice none 0 0, .int .i64 0] 25 (0, 0)) (zk BK185) hg (Kd.R_ne HO_196000.out BK185.out (by decide)))
         replace BK195 := Aside0.mk (blk_grown (g := gb195) (o := .cells #[u196000, .int .i64 x196001_1] 25 (0, 0)) (zk BK195) hg (Kd.R_ne HO_196000.out BK195.out (by decide)))
         replace HI0 := Aside0.mk (IsS85.grown (zi85 HI0) hg (IsS85.own_ne HI0.out HO_196000.out (by decide)))
         replace HO230 := Aside0.mk (Kd.R_after (ok := (fun _ => True)) (zr HO230) hg hat)
         replace HB := Aside0.mk (below_weaken (zg85 HB) HL.out hb)
         replace HK := Aside0.mk (KeepBut.trans (zh HK) (KeepBut.of_grown hg g) (Kd.R_base2 HO_196000.out))
         have HO233 := Aside0.mk (ho)
         clear HO_196000
         clear ho hb hg hat
         obtain ⟨Ao73, co73, eo73⟩ := Kd.R_slice HO233.out
         (first | subst eo73 | (injection eo73 with f1_ f2_ f3_; have f4_ := f1_.symm; have f5_ := f3_.symm; clear f1_ f2_ f3_; subst f4_; subst f5_))
         refine hK.out _ _ ⟨(blk_cell BK195.out 0).trans rfl, (blk_cell BK195.out 1).trans rfl⟩ (fun hHeld => ?_)
         clear hK K
         refine nm ?_
         refine pu 10 (some 48) (bm 12 2047) rfl rfl ?_
         refine last_ (i := 11) (N := none) #[true, true, true, true, true, true, true, true, true, true, true, true] rfl rfl (one_of HT_.out (by kernel_rfl)) (by decide) (fun K hK => ?_)
         have hs74 : w71.cell? ⟨gb195, 0, none⟩ = some (u196000) := (blk_cell BK195.out 0).trans rfl
         have hfs74 := blk_frozen BK195.out 0
         have hns74_0 := NB185_195.out
         have hms74_0 := NB195_185.out
         refine skip_ (w1 := ?_) (by rfl) rfl ?_ ?_
         rotate_left
         ·go_simp
          rfl
         refine hK.out _ _ ?_
         clear hK K
         refine done_ (done_of HT_.out (by kernel_rfl)) ?_
         have hnb75 := NB195_185.out
         have hnc75 := NB185_195.out
         have hnb76 := NB195_0.out
         have hnc76 := NB0_195.out
         have hcz77_0 : w71.cell? ⟨gb195, 0, none⟩ = some (u196000) := (blk_cell BK195.out 0).trans rfl
         have hcz77_1 : w71.cell? ⟨gb195, 1, none⟩ = some (.int .i64 x196001_1) := (blk_cell BK195.out 1).trans rfl
         have hfz77_0 := blk_frozen BK195.out 0
         have hfz77_1 := blk_frozen BK195.out 1
         have hnb78 := NB185_0.out
         have hnc78 := NB0_185.out
         have hcz79_0 : w71.cell? ⟨gb185, 0, none⟩ = some (.slice none 0 0) := (blk_cell BK185.out 0).trans rfl
         have hcz79_1 : w71.cell? ⟨gb185, 1, none⟩ = some (.int .i64 0) := (blk_cell BK185.out 1).trans rfl
         have hfz79_0 := blk_frozen BK185.out 0
         have hfz79_1 := blk_frozen BK185.out 1
         try go_wp2
         refine bodyPost_ret (results_cell_row rfl _ _ gb185 25 #[.slice Ao73 y231.length co73, .int .i64 x196001_1] (0, 0) _ rfl (by (with_reducible repeat (first | refine blk_drewN ?_ _ | refine blk_drew ?_ | refine blk_alloc ?_ _)); refine blk_put (cs := #[.slice Ao73 y231.length co73, .int .i64 0]) ?_ 1 _ rfl; (with_reducible repeat (first | refine blk_drewN ?_ _ | refine blk_drew ?_ | refine blk_alloc ?_ _)); refine blk_put (cs := #[.slice none 0 0, .int .i64 0]) ?_ 0 _ rfl; (with_reducible repeat (first | refine blk_drewN ?_ _ | refine blk_drew ?_ | refine blk_alloc ?_ _)); refine blk_far ?_ NB185_195.out _; exact zk BK185) Try.underlying25 rfl (by kernel_rfl)) rfl ?_
         exact ⟨_, ze, by (with_reducible repeat (first | apply Kd.R_alloc | apply Kd.R_drewN | apply Kd.R_drew)); exact Kd.R_mono (Kd.R_far (p := ⟨gb185, 1, none⟩) (Kd.R_far (p := ⟨gb185, 0, none⟩) (Kd.R_far (p := ⟨gb195, 0, none⟩) (Kd.R_types (Kd.R_types HO233.out BK195.out (by decide)) BK185.out (by decide)) (fun _ hk => hk.1.2) (.slice Ao73 y231.length co73)) (fun _ hk => hk.2) (.slice Ao73 y231.length co73)) (fun _ hk => hk.2) (.int .i64 x196001_1)) (fun _ hk => trivial), zi85 HI0, zg85 HB, zh HK⟩
        ·rw [if_neg c63] at H
         exact absurd H (by simp)
       ·rw [if_neg c59] at H
        have c59b0 : (t208 == 1) = false := beq_eq_false_iff_ne.mpr c59
        have c59b1 : (t208 != 1) = true := bne_iff_ne.mpr c59
        simp only [Option.some.injEq, Prod.mk.injEq] at H
        obtain ⟨rfl, rfl, rfl⟩ := H
        go_wp2_with (first | ((with_reducible refine gq 47 rfl ?_); refine gl (some 27) Try.func47 #[.pointer (some ⟨g, 0, none⟩), .int .i64 24] ?_; (with_reducible refine (spec_l6Rd_pick.calls k1 g s0_0 x1001_1 24 t208 t209 w0 _ ?side1 ?side2 A43.out).mono ?_); (case side1 => exact zi85 HI0); (case side2 => exact zg85 HB); rintro e w80 ⟨rfl, hi, hb, hk⟩; refine ⟨_, rfl, ?_⟩; replace HO_196000 := Aside0.mk (Kd.R_mono (Kd.R_keep (IsS85.apart (show IsS85 w0 _ g s0_0 x1001_1 from zi85 HI0) (zr HO_196000) (by decide)) hk (fun _ h => h.2)) (fun _ h => h.1)); replace BK185 := Aside0.mk (KeepBut.blk hk (g' := gb185) (o := .cells #[.slice none 0 0, .int .i64 0] 25 (0, 0)) (zk BK185) NB185_0.out (by simp)); replace BK195 := Aside0.mk (KeepBut.blk hk (g' := gb195) (o := .cells #[u196000, .int .i64 x196001_1] 25 (0, 0)) (zk BK195) NB195_0.out (by simp)); replace HK := Aside0.mk (KeepBut.trans (zh HK) hk (.inl rfl)); replace HB := Aside0.mk (hb); replace HI0 := Aside0.mk (hi); (try clear hb); (try clear hk); (try clear hi); have hnb81 := NB195_185.out; have hnc81 := NB185_195.out; have hnb82 := NB195_0.out; have hnc82 := NB0_195.out; have hcz83_0 : w80.cell? ⟨gb195, 0, none⟩ = some (u196000) := (blk_cell BK195.out 0).trans rfl; have hcz83_1 : w80.cell? ⟨gb195, 1, none⟩ = some (.int .i64 x196001_1) := (blk_cell BK195.out 1).trans rfl; have hfz83_0 := blk_frozen BK195.out 0; have hfz83_1 := blk_frozen BK195.out 1; obtain ⟨Ao84, co84, eo84⟩ := Kd.R_slice HO_196000.out; subst eo84; have hnb85 := NB185_0.out; have hnc85 := NB0_185.out; have hcz86_0 : w80.cell? ⟨gb185, 0, none⟩ = some (.slice none 0 0) := (blk_cell BK185.out 0).trans rfl; have hcz86_1 : w80.cell? ⟨gb185, 1, none⟩ = some (.int .i64 0) := (blk_cell BK185.out 1).trans rfl; have hfz86_0 := blk_frozen BK185.out 0; have hfz86_1 := blk_frozen BK185.out 1))
        refine bodyPost_ret (results_cell_row rfl _ _ gb185 25 #[.slice Ao84 x196000_1.length co84, .int .i64 x196001_1] (0, 0) _ rfl (by (with_reducible repeat (first | refine blk_drewN ?_ _ | refine blk_drew ?_ | refine blk_alloc ?_ _)); refine blk_put (cs := #[.slice Ao84 x196000_1.length co84, .int .i64 0]) ?_ 1 _ rfl; (with_reducible repeat (first | refine blk_drewN ?_ _ | refine blk_drew ?_ | refine blk_alloc ?_ _)); refine blk_put (cs := #[.slice none 0 0, .int .i64 0]) ?_ 0 _ rfl; exact zk BK185) Try.underlying25 rfl (by kernel_rfl)) rfl ?_
        exact ⟨_, ze, by (with_reducible repeat (first | apply Kd.R_alloc | apply Kd.R_drewN | apply Kd.R_drew)); exact Kd.R_mono (Kd.R_far (p := ⟨gb185, 1, none⟩) (Kd.R_far (p := ⟨gb185, 0, none⟩) (Kd.R_types HO_196000.out BK185.out (by decide)) (fun _ hk => hk.2) (.slice Ao84 x196000_1.length co84)) (fun _ hk => hk.2) (.int .i64 x196001_1)) (fun _ hk => trivial), zi85 HI0, zg85 HB, zh HK⟩
  ·rw [if_neg c4] at H
   exact absurd H (by simp)
 ·rw [if_neg c3] at H
  exact absurd H (by simp)

/-! ### spec_DrawTableLimit: function 15 -/
-- thin
def spec_DrawTableLimit.f (k : Nat) (l0 : List Int) : Option ((List (S36)) × Int × Int) := (spec_l6Open.f l0).bind fun bt235 => ((spec_l71Table.f k bt235.1 bt235.2).bind fun bt238 => ((spec_l6Rd_pick.f k bt235.1 bt238.2.2 66).bind fun bt243 => ((spec_l6Rd_pick.f k bt235.1 bt243.2 24).bind fun bt245 => (some (bt238.1, bt238.2.1, wrap64 (bt243.1 - (wrap64 ((wrap64 (Int.tdiv bt245.1 23)) * 70))))))))
theorem spec_DrawTableLimit.mono : ∀ a0 k, LeO (spec_DrawTableLimit.f k a0) (spec_DrawTableLimit.f (k + 1) a0) := by
 intro a0 k
 unfold spec_DrawTableLimit.f
 repeat' first
   | (with_reducible exact spec_l6Rd_pick.mono _ _ _ _)
   | (with_reducible exact spec_l71Table.mono _ _ _)
   | (with_reducible exact LeO.refl _)
   | (with_reducible exact LeO.none _)
   | (with_reducible refine LeO.ite ?_ ?_)
   | (with_reducible refine LeO.bind ?_ (fun _ => ?_))
   | exact spec_l6Rd_pick.mono _ _ _ _
   | exact spec_l71Table.mono _ _ _
   | exact LeO.none _
   | refine LeO.ite ?_ ?_
   | refine LeO.bind ?_ (fun _ => ?_)
set_option maxHeartbeats 8000000 in
set_option maxRecDepth 100000 in
theorem spec_DrawTableLimit.calls (k : Nat) (A0 : Option Addr) (c0 : Nat) (l0 : List Int) (r1 : List (S36)) (r2 : Int) (r3 : Int) (w : World) (hr0 : Kd.C (Kd.int .u8) w A0 l0.length l0) (hc0 : l0.length ≤ c0) (h : spec_DrawTableLimit.f k l0 = some (r1, r2, r3)) :
  Calls Try.prog 15 #[.slice A0 l0.length c0] w fun e w' => ∃ v0_ : Value, e = .returned (.tuple #[.agg #[v0_, .int .i64 r2], .int .i64 r3]) ∧ Kd.R k36 36 w' w.heap.size (fun _ => True) v0_ r1 ∧ Below w.heap.size w w' := by
 have hu25 := Try.underlying25
 have HR0 := Aside0.mk hr0
 have HC0 := Aside0.mk hc0
 clear hr0 hc0
 have HB := Aside0.mk (Below.refl w.heap.size w)
 have H : ((spec_l6Open.f l0).bind fun bt235 => ((spec_l71Table.f k bt235.1 bt235.2).bind fun bt238 => ((spec_l6Rd_pick.f k bt235.1 bt238.2.2 66).bind fun bt243 => ((spec_l6Rd_pick.f k bt235.1 bt243.2 24).bind fun bt245 => (some (bt238.1, bt238.2.1, wrap64 (bt243.1 - (wrap64 ((wrap64 (Int.tdiv bt245.1 23)) * 70))))))))) = some (r1, r2, r3) := h
 clear h
 replace H := Option.bind_eq_some_iff.mp H
 obtain ⟨⟨t235, t236⟩, A20, H⟩ := H
 replace H : ((spec_l71Table.f k t235 t236).bind fun bt238 => ((spec_l6Rd_pick.f k t235 bt238.2.2 66).bind fun bt243 => ((spec_l6Rd_pick.f k t235 bt243.2 24).bind fun bt245 => (some (bt238.1, bt238.2.1, wrap64 (bt243.1 - (wrap64 ((wrap64 (Int.tdiv bt245.1 23)) * 70)))))))) = some (r1, r2, r3) := H
 have A2 := Aside0.mk A20
 clear A20
 replace H := Option.bind_eq_some_iff.mp H
 obtain ⟨⟨t238, t241, t242⟩, A30, H⟩ := H
 replace H : ((spec_l6Rd_pick.f k t235 t242 66).bind fun bt243 => ((spec_l6Rd_pick.f k t235 bt243.2 24).bind fun bt245 => (some (t238, t241, wrap64 (bt243.1 - (wrap64 ((wrap64 (Int.tdiv bt245.1 23)) * 70))))))) = some (r1, r2, r3) := H
 have A3 := Aside0.mk A30
 clear A30
 replace H := Option.bind_eq_some_iff.mp H
 obtain ⟨⟨t243, t244⟩, A40, H⟩ := H
 replace H : ((spec_l6Rd_pick.f k t235 t244 24).bind fun bt245 => (some (t238, t241, wrap64 (t243 - (wrap64 ((wrap64 (Int.tdiv bt245.1 23)) * 70)))))) = some (r1, r2, r3) := H
 have A4 := Aside0.mk A40
 clear A40
 replace H := Option.bind_eq_some_iff.mp H
 obtain ⟨⟨t245, t246⟩, A50, H⟩ := H
 replace H : (some (t238, t241, wrap64 (t243 - (wrap64 ((wrap64 (Int.tdiv t245 23)) * 70))))) = some (r1, r2, r3) := H
 have A5 := Aside0.mk A50
 clear A50
 simp only [Option.some.injEq, Prod.mk.injEq] at H
 obtain ⟨rfl, rfl, rfl⟩ := H
 go_enter Try.func15, Try.ntmps15
 go_wp2_with (first | ((with_reducible refine gd 2 rfl ?_); refine bx (N := 2) (cs := #[.slice none 0 0, .int .i64 0]) (t := 25) ?_; intro gb234 hg w6 hbox hb; have BK234 := Aside0.mk (hbox); have GW234 := Aside0.mk ((by rw [hg]; exact (below_size (zb HB)) : w.heap.size ≤ gb234)); have GE234 := Aside0.mk ((by rw [hg]; exact (below_size (zb HB)) : w.heap.size ≤ gb234)); replace HB := Aside0.mk (below_step (zb HB) hb); clear hb hbox hg) | ((with_reducible refine gq 45 rfl ?_); refine gl (some 6) Try.func45 #[.slice A0 l0.length c0] ?_; (with_reducible refine (spec_l6Open.calls _ _ l0 t235 t236 w _ ?side1 ?side2 ?side3 A2.out).mono ?_); (case side1 => exact zb HB); (case side2 => exact HR0.out); (case side3 => exact HC0.out); rintro e w7 ⟨g237, rfl, hi, hb, hb2⟩; refine ⟨_, rfl, ?_⟩; replace HB := Aside0.mk (hb); have HI237 := Aside0.mk (hi); have NB237_234 := Aside0.mk (IsS85.ne_blk hi (blk_below (g := gb234) (o := .cells #[.slice none 0 0, .int .i64 0] 25 (0, 0)) (zk BK234) hb2) (by decide)); have NB234_237 := Aside0.mk (Ne.symm (IsS85.ne_blk hi (blk_below (g := gb234) (o := .cells #[.slice none 0 0, .int .i64 0] 25 (0, 0)) (zk BK234) hb2) (by decide))); replace BK234 := Aside0.mk (blk_below (g := gb234) (o := .cells #[.slice none 0 0, .int .i64 0] 25 (0, 0)) (zk BK234) hb2); (try clear hb); (try clear hb2); (try clear hi)) | ((with_reducible refine gq 46 rfl ?_); refine gl (some 8) Try.func46 #[.pointer (some ⟨g237, 0, none⟩)] ?_; (with_reducible refine (spec_l71Table.calls k g237 t235 t236 t238 t241 t242 w _ ?side1 ?side2 A3.out).mono ?_); (case side1 => exact zi85 HI237); (case side2 => exact zg85 HB); rintro e w8 ⟨v239, rfl, ho0, hi, hb, hk⟩; refine ⟨_, rfl, ?_⟩; replace BK234 := Aside0.mk (KeepBut.blk hk (g' := gb234) (o := .cells #[.slice none 0 0, .int .i64 0] 25 (0, 0)) (zk BK234) NB234_237.out (by simp)); have HO240 := Aside0.mk (Kd.R_lower ho0 (below_size (zg85 HB))); replace HB := Aside0.mk (hb); replace HI237 := Aside0.mk (hi); (try clear hb); (try clear hk); (try clear hi); (try clear ho0)) | ((with_reducible refine gq 47 rfl ?_); refine gl (some 10) Try.func47 #[.pointer (some ⟨g237, 0, none⟩), .int .i64 66] ?_; (with_reducible refine (spec_l6Rd_pick.calls k g237 t235 t242 66 t243 t244 w _ ?side1 ?side2 A4.out).mono ?_); (case side1 => exact zi85 HI237); (case side2 => exact zg85 HB); rintro e w9 ⟨rfl, hi, hb, hk⟩; refine ⟨_, rfl, ?_⟩; replace BK234 := Aside0.mk (KeepBut.blk hk (g' := gb234) (o := .cells #[.slice none 0 0, .int .i64 0] 25 (0, 0)) (zk BK234) NB234_237.out (by simp)); replace HO240 := Aside0.mk (Kd.R_mono (Kd.R_keep (IsS85.apart (show IsS85 w _ g237 t235 t242 from zi85 HI237) (zr HO240) (by decide)) hk (fun _ h => h.2)) (fun _ h => h.1)); replace HB := Aside0.mk (hb); replace HI237 := Aside0.mk (hi); (try clear hb); (try clear hk); (try clear hi)) | ((with_reducible refine gq 47 rfl ?_); refine gl (some 12) Try.func47 #[.pointer (some ⟨g237, 0, none⟩), .int .i64 24] ?_; (with_reducible refine (spec_l6Rd_pick.calls k g237 t235 t244 24 t245 t246 w _ ?side1 ?side2 A5.out).mono ?_); (case side1 => exact zi85 HI237); (case side2 => exact zg85 HB); rintro e w10 ⟨rfl, hi, hb, hk⟩; refine ⟨_, rfl, ?_⟩; replace BK234 := Aside0.mk (KeepBut.blk hk (g' := gb234) (o := .cells #[.slice none 0 0, .int .i64 0] 25 (0, 0)) (zk BK234) NB234_237.out (by simp)); replace HO240 := Aside0.mk (Kd.R_mono (Kd.R_keep (IsS85.apart (show IsS85 w _ g237 t235 t244 from zi85 HI237) (zr HO240) (by decide)) hk (fun _ h => h.2)) (fun _ h => h.1)); replace HB := Aside0.mk (hb); replace HI237 := Aside0.mk (hi); (try clear hb); (try clear hk); (try clear hi); obtain ⟨Ao11, co11, eo11⟩ := Kd.R_slice HO240.out; subst eo11; have hnb12 := NB234_237.out; have hnc12 := NB237_234.out; have hcz13_0 : w10.cell? ⟨gb234, 0, none⟩ = some (.slice none 0 0) := (blk_cell BK234.out 0).trans rfl; have hcz13_1 : w10.cell? ⟨gb234, 1, none⟩ = some (.int .i64 0) := (blk_cell BK234.out 1).trans rfl; have hfz13_0 := blk_frozen BK234.out 0; have hfz13_1 := blk_frozen BK234.out 1))
 refine bodyPost_ret (results_ct rfl _ _ gb234 25 #[.slice Ao11 t238.length co11, .int .i64 t241] (0, 0) _ rfl (by (with_reducible repeat (first | refine blk_drewN ?_ _ | refine blk_drew ?_ | refine blk_alloc ?_ _)); refine blk_put (cs := #[.slice Ao11 t238.length co11, .int .i64 0]) ?_ 1 _ rfl; (with_reducible repeat (first | refine blk_drewN ?_ _ | refine blk_drew ?_ | refine blk_alloc ?_ _)); refine blk_put (cs := #[.slice none 0 0, .int .i64 0]) ?_ 0 _ rfl; exact zk BK234) Try.underlying25 rfl (by kernel_rfl)) rfl ?_
 exact ⟨_, ze, by (with_reducible repeat (first | apply Kd.R_alloc | apply Kd.R_drewN | apply Kd.R_drew)); exact Kd.R_mono (Kd.R_far (p := ⟨gb234, 1, none⟩) (Kd.R_far (p := ⟨gb234, 0, none⟩) (Kd.R_types HO240.out BK234.out (by decide)) (fun _ hk => hk.2) (.slice Ao11 t238.length co11)) (fun _ hk => hk.2) (.int .i64 t241)) (fun _ hk => trivial), zg85 HB⟩

/-! ### impl_in: function 48 -/
-- thin
def impl_in.f (a0 : Int) (a1 : Int) (a2 : Int) : Option (Bool) := if a1 ≤ a0 then (some (decide (a0 ≤ a2))) else (some false)
set_option maxHeartbeats 8000000 in
set_option maxRecDepth 100000 in
theorem impl_in.calls (a0 : Int) (a1 : Int) (a2 : Int) (r : Bool) (w : World) (h : impl_in.f a0 a1 a2 = some r) :
  Calls Try.prog 48 #[.int .i64 a0, .int .i64 a1, .int .i64 a2] w fun e w' => e = .returned (.bool r) ∧ Drawn0 w w' := by
 have H : (if a1 ≤ a0 then (some (decide (a0 ≤ a2))) else (some false)) = some r := h
 clear h
 by_cases c4 : a1 ≤ a0
 ·rw [if_pos c4] at H
  have c4b0 : decide (a1 ≤ a0) = true := decide_eq_true c4
  clear c4
  obtain rfl := Option.some.inj H
  go_enter Try.func48, Try.ntmps48
  go_wp2
  go_ret
  exact ⟨zs, by repeat (first | exact Drawn0.refl _ | apply Drawn0.step)⟩
 ·rw [if_neg c4] at H
  have c4b0 : decide (a1 ≤ a0) = false := decide_eq_false c4
  clear c4
  obtain rfl := Option.some.inj H
  go_enter Try.func48, Try.ntmps48
  go_wp2
  go_ret
  exact ⟨zs, by repeat (first | exact Drawn0.refl _ | apply Drawn0.step)⟩

-- NOT PRINTED: function 99 (bytealg_IndexByteString)

-- NOT PRINTED: function 94 (stringslite_IndexByte)

/-! ### strings_IndexByte: function 85 -/
-- by hand
def TryL.lays137_ren : Go.Shelf.Ren := ⟨fun | 137 => 85 | 217 => 94 | 266 => 99 | n => n, fun | 9 => 9 | 5 => 5 | 3 => 3 | n => n, fun | n => n⟩
theorem TryL.lays137 : Go.Proofs.Lays.n137 Try.prog TryL.lays137_ren := {
  mixed := by kernel_rfl
  f137 := Try.func85.trans (congrArg some (by kernel_rfl))
  f217 := Try.func94.trans (congrArg some (by kernel_rfl))
  f266 := Try.func99.trans (congrArg some (by kernel_rfl))
  t3 := Try.underlying3
  a3 := Try.isAgg3
  z3 := Try.sizeOf3
  v3 := Try.zeroValue3
  t5 := Try.underlying5
  a5 := Try.isAgg5
  z5 := Try.sizeOf5
  v5 := Try.zeroValue5
  t9 := Try.underlying9
  a9 := Try.isAgg9
  z9 := Try.sizeOf9
  v9 := Try.zeroValue9 }
/-- The place of the first byte that is a1; -1, if there is none. -/
def strings_IndexByte.f (a0 : ByteArray) (a1 : Int) : Option (Int) := some (Lib.indexByte a0.data.toList a1.toNat.toUInt8)
theorem strings_IndexByte.calls (a0 : ByteArray) (a1 : Int) (r : Int) (w : World) (h : strings_IndexByte.f a0 a1 = some r) :
    Calls Try.prog 85 #[.string a0, .int .u8 a1] w fun e w' => e = .returned (.int .i64 r) ∧ Drawn0 w w' := by
  simp only [strings_IndexByte.f, Option.some.injEq] at h
  subst h
  refine (Go.Proofs.Any.strings_IndexByte TryL.lays137 a0 a1 w).mono ?_
  rintro e w' ⟨rfl, rfl⟩
  exact ⟨rfl, Drawn0.refl _⟩

/-! ### impl_WordOk: function 72 -/
-- thin
def impl_WordOk.l0 : Nat → ByteArray → Int → Int → Option (Bool)
 | 0, _, _, _ => none
 | k + 1, x0, x5, x6 => if x6 < x5 then (if 0 ≤ x6 then (if x6 < (x0.size : Int) then ((strings_IndexByte.f (⟨#[101, 116, 97, 111, 105, 110, 115, 114, 104, 108, 48, 49, 50, 51, 52, 53, 54, 55, 56, 57, 100, 99, 117, 109, 102, 112, 103, 119, 121, 98, 118, 107, 120, 106, 113, 122, 58, 47, 45]⟩ : ByteArray) (bt x0 x6)).bind fun t247 => (if t247 < 0 then (some false) else (impl_WordOk.l0 k x0 x5 (wrap64 (x6 + 1))))) else (none)) else (none)) else (some (decide ((x0.size : Int) ≤ 16)))
def impl_WordOk.f (k : Nat) (a0 : ByteArray) : Option (Bool) := impl_WordOk.l0 k a0 (a0.size : Int) 0
theorem impl_WordOk.mono_l : ∀ k, (∀ y0 y1 y2, LeO (impl_WordOk.l0 k y0 y1 y2) (impl_WordOk.l0 (k + 1) y0 y1 y2))
 | 0 => fun _ _ _ r h => by simp [impl_WordOk.l0] at h
 | k + 1 => by
  have ih0 := impl_WordOk.mono_l k
  ·intro y0 y1 y2
   unfold impl_WordOk.l0
   repeat' first
   | (with_reducible exact ih0 _ _ _)
   | (with_reducible exact LeO.refl _)
   | (with_reducible exact LeO.none _)
   | (with_reducible refine LeO.ite ?_ ?_)
   | (with_reducible refine LeO.bind ?_ (fun _ => ?_))
   | exact ih0 _ _ _
   | exact LeO.none _
   | refine LeO.ite ?_ ?_
   | refine LeO.bind ?_ (fun _ => ?_)
theorem impl_WordOk.mono : ∀ a0 k, LeO (impl_WordOk.f k a0) (impl_WordOk.f (k + 1) a0) := by
 intro a0 k
 have ih0 := impl_WordOk.mono_l k
 unfold impl_WordOk.f
 repeat' first
   | (with_reducible exact ih0 _ _ _)
   | (with_reducible exact LeO.refl _)
   | (with_reducible exact LeO.none _)
   | (with_reducible refine LeO.ite ?_ ?_)
   | (with_reducible refine LeO.bind ?_ (fun _ => ?_))
   | exact ih0 _ _ _
   | exact LeO.none _
   | refine LeO.ite ?_ ?_
   | refine LeO.bind ?_ (fun _ => ?_)
set_option maxHeartbeats 8000000 in
set_option maxRecDepth 100000 in
theorem impl_WordOk.calls (k : Nat) (a0 : ByteArray) (r : Bool) (w : World) (h : impl_WordOk.f k a0 = some r) :
  Calls Try.prog 72 #[.string a0] w fun e w' => e = .returned (.bool r) ∧ Drawn0 w w' := by
 have H : (impl_WordOk.l0 k a0 (a0.size : Int) 0) = some r := h
 clear h
 have H' := Aside0.mk H
 clear H
 go_enter Try.func72, Try.ntmps72
 go_wp2
 go_loopg [6] k (fun kq v6 w' => ∃ (x6_1 : Int), v6 = .int .i64 x6_1 ∧ Aside0 (impl_WordOk.l0 kq a0 (a0.size : Int) x6_1 = some r) ∧ Aside0 (kq ≤ k) ∧ Drawn0 w w')
 case atStart => exact ⟨(0), zs, H', ⟨Nat.le_refl _⟩, by repeat (first | exact Drawn0.refl _ | apply Drawn0.step)⟩
 case round =>
  clear H'
  obtain ⟨x6_1, rfl, HA, HK1, ⟨m1, rfl⟩⟩ := hrel
  cases gk with
  | zero => exact absurd HA.out (by simp [impl_WordOk.l0])
  | succ k1 =>
   have H := HA.out
   clear HA
   simp only [impl_WordOk.l0] at H
   by_cases c2 : x6_1 < (a0.size : Int)
   ·rw [if_pos c2] at H
    have c2b0 : decide (x6_1 < (a0.size : Int)) = true := decide_eq_true c2
    clear c2
    by_cases c3 : 0 ≤ x6_1
    ·rw [if_pos c3] at H
     have c3b0 : decide (0 ≤ x6_1) = true := decide_eq_true c3
     clear c3
     by_cases c4 : x6_1 < (a0.size : Int)
     ·rw [if_pos c4] at H
      have c4b0 : decide (x6_1 < (a0.size : Int)) = true := decide_eq_true c4
      clear c4
      replace H := Option.bind_eq_some_iff.mp H
      obtain ⟨t247, A60, H⟩ := H
      replace H : (if t247 < 0 then (some false) else (impl_WordOk.l0 k1 a0 (a0.size : Int) (wrap64 (x6_1 + 1)))) = some r := H
      have A6 := Aside0.mk A60
      clear A60
      by_cases c7 : t247 < 0
      ·rw [if_pos c7] at H
       have c7b0 : decide (t247 < 0) = true := decide_eq_true c7
       clear c7
       obtain rfl := Option.some.inj H
       have p5 : 0 ≤ (x6_1 : Int) := of_decide_eq_true za
       have q5 : x6_1 < (a0.size : Int) := of_decide_eq_true za
       have hx5 := bt_at a0 x6_1
       replace p5 := eq_true p5
       replace q5 := eq_true q5
       go_wp2_with (first | ((with_reducible refine gq 85 rfl ?_); refine gl (some 12) Try.func85 #[.string (⟨#[101, 116, 97, 111, 105, 110, 115, 114, 104, 108, 48, 49, 50, 51, 52, 53, 54, 55, 56, 57, 100, 99, 117, 109, 102, 112, 103, 119, 121, 98, 118, 107, 120, 106, 113, 122, 58, 47, 45]⟩ : ByteArray), .int .u8 (bt a0 x6_1)] ?_; (with_reducible refine (strings_IndexByte.calls (⟨#[101, 116, 97, 111, 105, 110, 115, 114, 104, 108, 48, 49, 50, 51, 52, 53, 54, 55, 56, 57, 100, 99, 117, 109, 102, 112, 103, 119, 121, 98, 118, 107, 120, 106, 113, 122, 58, 47, 45]⟩ : ByteArray) (bt a0 x6_1) t247 _ A6.out).mono ?_); rintro e w' ⟨rfl, ⟨nd, rfl⟩⟩; refine ⟨_, rfl, ?_⟩))
       go_ret
       exact ⟨zs, by repeat (first | exact Drawn0.refl _ | apply Drawn0.step)⟩
      ·rw [if_neg c7] at H
       have c7b0 : decide (t247 < 0) = false := decide_eq_false c7
       clear c7
       have H' := Aside0.mk H
       clear H
       have p5 : 0 ≤ (x6_1 : Int) := of_decide_eq_true za
       have q5 : x6_1 < (a0.size : Int) := of_decide_eq_true za
       have hx5 := bt_at a0 x6_1
       replace p5 := eq_true p5
       replace q5 := eq_true q5
       go_wp2_with (first | ((with_reducible refine gq 85 rfl ?_); refine gl (some 12) Try.func85 #[.string (⟨#[101, 116, 97, 111, 105, 110, 115, 114, 104, 108, 48, 49, 50, 51, 52, 53, 54, 55, 56, 57, 100, 99, 117, 109, 102, 112, 103, 119, 121, 98, 118, 107, 120, 106, 113, 122, 58, 47, 45]⟩ : ByteArray), .int .u8 (bt a0 x6_1)] ?_; (with_reducible refine (strings_IndexByte.calls (⟨#[101, 116, 97, 111, 105, 110, 115, 114, 104, 108, 48, 49, 50, 51, 52, 53, 54, 55, 56, 57, 100, 99, 117, 109, 102, 112, 103, 119, 121, 98, 118, 107, 120, 106, 113, 122, 58, 47, 45]⟩ : ByteArray) (bt a0 x6_1) t247 _ A6.out).mono ?_); rintro e w' ⟨rfl, ⟨nd, rfl⟩⟩; refine ⟨_, rfl, ?_⟩))
       go_roundg k1
       case measure => have := HK1.out; omega
       case rel => exact ⟨(wrap64 (x6_1 + 1)), zs, H', ⟨by have := HK1.out; omega⟩, by repeat (first | exact Drawn0.refl _ | apply Drawn0.step)⟩
     ·rw [if_neg c4] at H
      exact absurd H (by simp)
    ·rw [if_neg c3] at H
     exact absurd H (by simp)
   ·rw [if_neg c2] at H
    have c2b0 : decide (x6_1 < (a0.size : Int)) = false := decide_eq_false c2
    clear c2
    obtain rfl := Option.some.inj H
    go_wp2
    go_ret
    exact ⟨zs, by repeat (first | exact Drawn0.refl _ | apply Drawn0.step)⟩

/-! ### impl_FieldOk: function 55 -/
-- thin
def impl_FieldOk.f (k : Nat) (a0_0 : ByteArray) (a0_1 : ByteArray) (a0_2 : Bool) : Option (Bool) := (impl_WordOk.f k a0_0).bind fun t249 => (if t249 = true then ((impl_WordOk.f k a0_1).bind fun t250 => (if t250 = true then (some (a0_0.toList != ([] : List UInt8))) else (some false))) else (some false))
theorem impl_FieldOk.mono : ∀ a0 a1 a2 k, LeO (impl_FieldOk.f k a0 a1 a2) (impl_FieldOk.f (k + 1) a0 a1 a2) := by
 intro a0 a1 a2 k
 unfold impl_FieldOk.f
 repeat' first
   | (with_reducible exact impl_WordOk.mono _ _)
   | (with_reducible exact LeO.refl _)
   | (with_reducible exact LeO.none _)
   | (with_reducible refine LeO.ite ?_ ?_)
   | (with_reducible refine LeO.bind ?_ (fun _ => ?_))
   | exact impl_WordOk.mono _ _
   | exact LeO.none _
   | refine LeO.ite ?_ ?_
   | refine LeO.bind ?_ (fun _ => ?_)
set_option maxHeartbeats 8000000 in
set_option maxRecDepth 100000 in
theorem impl_FieldOk.calls (k : Nat) (a0_0 : ByteArray) (a0_1 : ByteArray) (a0_2 : Bool) (r : Bool) (w : World) (h : impl_FieldOk.f k a0_0 a0_1 a0_2 = some r) :
  Calls Try.prog 55 #[.agg #[.string a0_0, .string a0_1, .bool a0_2]] w fun e w' => e = .returned (.bool r) ∧ Below w.heap.size w w' := by
 have hu36 := Try.underlying36
 have HB := Aside0.mk (Below.refl w.heap.size w)
 have H : ((impl_WordOk.f k a0_0).bind fun t249 => (if t249 = true then ((impl_WordOk.f k a0_1).bind fun t250 => (if t250 = true then (some (a0_0.toList != ([] : List UInt8))) else (some false))) else (some false))) = some r := h
 clear h
 replace H := Option.bind_eq_some_iff.mp H
 obtain ⟨t249, A20, H⟩ := H
 replace H : (if t249 = true then ((impl_WordOk.f k a0_1).bind fun t250 => (if t250 = true then (some (a0_0.toList != ([] : List UInt8))) else (some false))) else (some false)) = some r := H
 have A2 := Aside0.mk A20
 clear A20
 by_cases c3 : t249 = true
 ·subst c3
  have H1 : ((impl_WordOk.f k a0_1).bind fun t250 => (if t250 = true then (some (a0_0.toList != ([] : List UInt8))) else (some false))) = some r := by rw [if_pos rfl] at H; exact H
  clear H
  have H := H1
  clear H1
  replace H := Option.bind_eq_some_iff.mp H
  obtain ⟨t250, A40, H⟩ := H
  replace H : (if t250 = true then (some (a0_0.toList != ([] : List UInt8))) else (some false)) = some r := H
  have A4 := Aside0.mk A40
  clear A40
  by_cases c5 : t250 = true
  ·subst c5
   have H1 : (some (a0_0.toList != ([] : List UInt8))) = some r := by rw [if_pos rfl] at H; exact H
   clear H
   have H := H1
   clear H1
   obtain rfl := Option.some.inj H
   go_enter Try.func55, Try.ntmps55
   go_wp2_with (first | ((with_reducible refine gd 1 rfl ?_); refine bx (N := 1) (cs := #[.string a0_0, .string a0_1, .bool a0_2]) (t := 36) ?_; intro gb248 hg w6 hbox hb; have BK248 := Aside0.mk (hbox); have GW248 := Aside0.mk ((by rw [hg]; exact (below_size (zb HB)) : w.heap.size ≤ gb248)); have GE248 := Aside0.mk ((by rw [hg]; exact (below_size (zb HB)) : w.heap.size ≤ gb248)); replace HB := Aside0.mk (below_step (zb HB) hb); clear hb hbox hg; have hcz7_0 : w6.cell? ⟨gb248, 0, none⟩ = some (.string a0_0) := (blk_cell BK248.out 0).trans rfl; have hcz7_1 : w6.cell? ⟨gb248, 1, none⟩ = some (.string a0_1) := (blk_cell BK248.out 1).trans rfl; have hcz7_2 : w6.cell? ⟨gb248, 2, none⟩ = some (.bool a0_2) := (blk_cell BK248.out 2).trans rfl; have hfz7_0 := blk_frozen BK248.out 0; have hfz7_1 := blk_frozen BK248.out 1; have hfz7_2 := blk_frozen BK248.out 2) | ((with_reducible refine gq 72 rfl ?_); refine gl (some 5) Try.func72 #[.string a0_0] ?_; (with_reducible refine (impl_WordOk.calls k a0_0 true _ A2.out).mono ?_); rintro e w' ⟨rfl, ⟨nd, rfl⟩⟩; refine ⟨_, rfl, ?_⟩) | (go_at_call 72; (with_reducible refine (impl_WordOk.calls k a0_1 true _ A4.out).mono ?_); rintro e w' ⟨rfl, ⟨nd, rfl⟩⟩))
   go_ret
   exact ⟨ze, zb HB⟩
  ·replace c5 := Bool.eq_false_iff.mpr c5
   subst c5
   have H1 : (some false) = some r := by rw [if_neg (show ¬ (false = true) by decide)] at H; exact H
   clear H
   have H := H1
   clear H1
   obtain rfl := Option.some.inj H
   go_enter Try.func55, Try.ntmps55
   go_wp2_with (first | ((with_reducible refine gd 1 rfl ?_); refine bx (N := 1) (cs := #[.string a0_0, .string a0_1, .bool a0_2]) (t := 36) ?_; intro gb248 hg w8 hbox hb; have BK248 := Aside0.mk (hbox); have GW248 := Aside0.mk ((by rw [hg]; exact (below_size (zb HB)) : w.heap.size ≤ gb248)); have GE248 := Aside0.mk ((by rw [hg]; exact (below_size (zb HB)) : w.heap.size ≤ gb248)); replace HB := Aside0.mk (below_step (zb HB) hb); clear hb hbox hg; have hcz9_0 : w8.cell? ⟨gb248, 0, none⟩ = some (.string a0_0) := (blk_cell BK248.out 0).trans rfl; have hcz9_1 : w8.cell? ⟨gb248, 1, none⟩ = some (.string a0_1) := (blk_cell BK248.out 1).trans rfl; have hcz9_2 : w8.cell? ⟨gb248, 2, none⟩ = some (.bool a0_2) := (blk_cell BK248.out 2).trans rfl; have hfz9_0 := blk_frozen BK248.out 0; have hfz9_1 := blk_frozen BK248.out 1; have hfz9_2 := blk_frozen BK248.out 2) | ((with_reducible refine gq 72 rfl ?_); refine gl (some 5) Try.func72 #[.string a0_0] ?_; (with_reducible refine (impl_WordOk.calls k a0_0 true _ A2.out).mono ?_); rintro e w' ⟨rfl, ⟨nd, rfl⟩⟩; refine ⟨_, rfl, ?_⟩) | (go_at_call 72; (with_reducible refine (impl_WordOk.calls k a0_1 false _ A4.out).mono ?_); rintro e w' ⟨rfl, ⟨nd, rfl⟩⟩))
   go_ret
   exact ⟨ze, zb HB⟩
 ·replace c3 := Bool.eq_false_iff.mpr c3
  subst c3
  have H1 : (some false) = some r := by rw [if_neg (show ¬ (false = true) by decide)] at H; exact H
  clear H
  have H := H1
  clear H1
  obtain rfl := Option.some.inj H
  go_enter Try.func55, Try.ntmps55
  go_wp2_with (first | ((with_reducible refine gd 1 rfl ?_); refine bx (N := 1) (cs := #[.string a0_0, .string a0_1, .bool a0_2]) (t := 36) ?_; intro gb248 hg w10 hbox hb; have BK248 := Aside0.mk (hbox); have GW248 := Aside0.mk ((by rw [hg]; exact (below_size (zb HB)) : w.heap.size ≤ gb248)); have GE248 := Aside0.mk ((by rw [hg]; exact (below_size (zb HB)) : w.heap.size ≤ gb248)); replace HB := Aside0.mk (below_step (zb HB) hb); clear hb hbox hg; have hcz11_0 : w10.cell? ⟨gb248, 0, none⟩ = some (.string a0_0) := (blk_cell BK248.out 0).trans rfl; have hcz11_1 : w10.cell? ⟨gb248, 1, none⟩ = some (.string a0_1) := (blk_cell BK248.out 1).trans rfl; have hcz11_2 : w10.cell? ⟨gb248, 2, none⟩ = some (.bool a0_2) := (blk_cell BK248.out 2).trans rfl; have hfz11_0 := blk_frozen BK248.out 0; have hfz11_1 := blk_frozen BK248.out 1; have hfz11_2 := blk_frozen BK248.out 2) | ((with_reducible refine gq 72 rfl ?_); refine gl (some 5) Try.func72 #[.string a0_0] ?_; (with_reducible refine (impl_WordOk.calls k a0_0 false _ A2.out).mono ?_); rintro e w' ⟨rfl, ⟨nd, rfl⟩⟩; refine ⟨_, rfl, ?_⟩))
  go_ret
  exact ⟨ze, zb HB⟩

/-! ### impl_TableOk_1: function 54 -/
-- thin
def impl_TableOk_1.f (k : Nat) (a0_0 : ByteArray) (a0_1 : ByteArray) (a0_2 : Bool) : Option (Bool) := (impl_FieldOk.f k a0_0 a0_1 a0_2).bind fun t252 => (if t252 = true then (some a0_2) else (some true))
theorem impl_TableOk_1.mono : ∀ a0 a1 a2 k, LeO (impl_TableOk_1.f k a0 a1 a2) (impl_TableOk_1.f (k + 1) a0 a1 a2) := by
 intro a0 a1 a2 k
 unfold impl_TableOk_1.f
 repeat' first
   | (with_reducible exact impl_FieldOk.mono _ _ _ _)
   | (with_reducible exact LeO.refl _)
   | (with_reducible exact LeO.none _)
   | (with_reducible refine LeO.ite ?_ ?_)
   | (with_reducible refine LeO.bind ?_ (fun _ => ?_))
   | exact impl_FieldOk.mono _ _ _ _
   | exact LeO.none _
   | refine LeO.ite ?_ ?_
   | refine LeO.bind ?_ (fun _ => ?_)
set_option maxHeartbeats 8000000 in
set_option maxRecDepth 100000 in
theorem impl_TableOk_1.calls (k : Nat) (a0_0 : ByteArray) (a0_1 : ByteArray) (a0_2 : Bool) (r : Bool) (w : World) (h : impl_TableOk_1.f k a0_0 a0_1 a0_2 = some r) :
  Calls Try.prog 54 #[.agg #[.string a0_0, .string a0_1, .bool a0_2]] w fun e w' => e = .returned (.bool r) ∧ Below w.heap.size w w' := by
 have hu36 := Try.underlying36
 have HB := Aside0.mk (Below.refl w.heap.size w)
 have H : ((impl_FieldOk.f k a0_0 a0_1 a0_2).bind fun t252 => (if t252 = true then (some a0_2) else (some true))) = some r := h
 clear h
 replace H := Option.bind_eq_some_iff.mp H
 obtain ⟨t252, A20, H⟩ := H
 replace H : (if t252 = true then (some a0_2) else (some true)) = some r := H
 have A2 := Aside0.mk A20
 clear A20
 by_cases c3 : t252 = true
 ·subst c3
  have H1 : (some a0_2) = some r := by rw [if_pos rfl] at H; exact H
  clear H
  have H := H1
  clear H1
  obtain rfl := Option.some.inj H
  go_enter Try.func54, Try.ntmps54
  go_wp2_with (first | ((with_reducible refine gd 1 rfl ?_); refine bx (N := 1) (cs := #[.string a0_0, .string a0_1, .bool a0_2]) (t := 36) ?_; intro gb251 hg w4 hbox hb; have BK251 := Aside0.mk (hbox); have GW251 := Aside0.mk ((by rw [hg]; exact (below_size (zb HB)) : w.heap.size ≤ gb251)); have GE251 := Aside0.mk ((by rw [hg]; exact (below_size (zb HB)) : w.heap.size ≤ gb251)); replace HB := Aside0.mk (below_step (zb HB) hb); clear hb hbox hg; have hcz5_0 : w4.cell? ⟨gb251, 0, none⟩ = some (.string a0_0) := (blk_cell BK251.out 0).trans rfl; have hcz5_1 : w4.cell? ⟨gb251, 1, none⟩ = some (.string a0_1) := (blk_cell BK251.out 1).trans rfl; have hcz5_2 : w4.cell? ⟨gb251, 2, none⟩ = some (.bool a0_2) := (blk_cell BK251.out 2).trans rfl; have hfz5_0 := blk_frozen BK251.out 0; have hfz5_1 := blk_frozen BK251.out 1; have hfz5_2 := blk_frozen BK251.out 2) | ((with_reducible refine gq 55 rfl ?_); refine gl (some 4) Try.func55 #[.agg #[.string a0_0, .string a0_1, .bool a0_2]] ?_; (with_reducible refine (impl_FieldOk.calls k a0_0 a0_1 a0_2 true _ A2.out).mono ?_); rintro e w6 ⟨rfl, hb⟩; refine ⟨_, rfl, ?_⟩; replace BK251 := Aside0.mk (blk_below (g := gb251) (o := .cells #[.string a0_0, .string a0_1, .bool a0_2] 36 (0, 0)) (zk BK251) hb); replace HB := Aside0.mk (below_step (zb HB) hb); (try clear hb); have hcz7_0 : w6.cell? ⟨gb251, 0, none⟩ = some (.string a0_0) := (blk_cell BK251.out 0).trans rfl; have hcz7_1 : w6.cell? ⟨gb251, 1, none⟩ = some (.string a0_1) := (blk_cell BK251.out 1).trans rfl; have hcz7_2 : w6.cell? ⟨gb251, 2, none⟩ = some (.bool a0_2) := (blk_cell BK251.out 2).trans rfl; have hfz7_0 := blk_frozen BK251.out 0; have hfz7_1 := blk_frozen BK251.out 1; have hfz7_2 := blk_frozen BK251.out 2))
  go_ret
  exact ⟨ze, zb HB⟩
 ·replace c3 := Bool.eq_false_iff.mpr c3
  subst c3
  have H1 : (some true) = some r := by rw [if_neg (show ¬ (false = true) by decide)] at H; exact H
  clear H
  have H := H1
  clear H1
  obtain rfl := Option.some.inj H
  go_enter Try.func54, Try.ntmps54
  go_wp2_with (first | ((with_reducible refine gd 1 rfl ?_); refine bx (N := 1) (cs := #[.string a0_0, .string a0_1, .bool a0_2]) (t := 36) ?_; intro gb251 hg w8 hbox hb; have BK251 := Aside0.mk (hbox); have GW251 := Aside0.mk ((by rw [hg]; exact (below_size (zb HB)) : w.heap.size ≤ gb251)); have GE251 := Aside0.mk ((by rw [hg]; exact (below_size (zb HB)) : w.heap.size ≤ gb251)); replace HB := Aside0.mk (below_step (zb HB) hb); clear hb hbox hg; have hcz9_0 : w8.cell? ⟨gb251, 0, none⟩ = some (.string a0_0) := (blk_cell BK251.out 0).trans rfl; have hcz9_1 : w8.cell? ⟨gb251, 1, none⟩ = some (.string a0_1) := (blk_cell BK251.out 1).trans rfl; have hcz9_2 : w8.cell? ⟨gb251, 2, none⟩ = some (.bool a0_2) := (blk_cell BK251.out 2).trans rfl; have hfz9_0 := blk_frozen BK251.out 0; have hfz9_1 := blk_frozen BK251.out 1; have hfz9_2 := blk_frozen BK251.out 2) | ((with_reducible refine gq 55 rfl ?_); refine gl (some 4) Try.func55 #[.agg #[.string a0_0, .string a0_1, .bool a0_2]] ?_; (with_reducible refine (impl_FieldOk.calls k a0_0 a0_1 a0_2 false _ A2.out).mono ?_); rintro e w10 ⟨rfl, hb⟩; refine ⟨_, rfl, ?_⟩; replace BK251 := Aside0.mk (blk_below (g := gb251) (o := .cells #[.string a0_0, .string a0_1, .bool a0_2] 36 (0, 0)) (zk BK251) hb); replace HB := Aside0.mk (below_step (zb HB) hb); (try clear hb)))
  go_ret
  exact ⟨ze, zb HB⟩

/-! ### IndexFunc_Field: function 71 -/
-- by hand
theorem load_list (P : Program) (W : World) (a : Addr) (cs : List Value) (k : Nat) (hk : cs.length = k) (h : ∀ j v, cs[j]? = some v → W.cell? (a.add j) = some v) :
    Sem.run P (loadCellsFrom a 0 k #[]) W = .ok cs.toArray W := by
  have := run_loadCells_list (P := P) (w := W) a cs h
  rw [hk] at this
  exact this
/-- The first place, from i on, at which p says yes; -1, if there is none. -/
def idxFrom (p : S36 → Option Bool) : List (S36) → Int → Option Int
  | [], _ => some (-1)
  | x :: l, i => (p x).bind fun b => if b then some i else idxFrom p l (i + 1)
/-- What a predicate's value does when it is called. -/
def PredIs (P : Program) (g : Nat) (lb : Array Value) (p : S36 → Option Bool) (w : World) : Prop :=
  ∀ (W : World) (x : S36) (b : Bool), Below w.heap.size w W → p x = some b → Calls P g (#[.agg #[.string x.f0, .string x.f1, .bool x.f2]] ++ lb) W fun e w' => e = .returned (.bool b) ∧ Below w.heap.size w w'
set_option maxHeartbeats 4000000 in
set_option maxRecDepth 100000 in
theorem IndexFunc_calls (g : Nat) (lb : Array Value) (p : S36 → Option Bool) (eg : ∀ args w, (callFunc g args).run Try.prog w = .ok (.enter g args) w) (A0 : Option Addr) (c0 : Nat) (l0 : List (S36)) (r : Int) (w : World) (hr0 : Kd.C k36 w A0 l0.length l0) (hc0 : l0.length ≤ c0)
    (hp : PredIs Try.prog g lb p w) (h : idxFrom p l0 0 = some r) (hl : l0.length ≤ 1000000000) :
    Calls Try.prog 71 #[.slice A0 l0.length c0, .func (.func g) #[] lb] w fun e w' => e = .returned (.int .i64 r) ∧ Below w.heap.size w w' := by
  have HR0 := Aside0.mk hr0
  have HP := Aside0.mk hp
  have H := Aside0.mk h
  clear hr0 hp h
  go_enter Try.func71, Try.ntmps71
  go_wp2
  go_loopg [5, 8] (l0.length) (fun kq v5 v8 w' => ∃ i : Nat, v8 = .int .i64 i ∧ Aside0 (kq + i = l0.length) ∧ Aside0 (idxFrom p (l0.drop i) i = some r) ∧ Aside0 (Below w.heap.size w w'))
  case atStart => exact ⟨0, rfl, ⟨by omega⟩, ⟨by simpa using H.out⟩, ⟨Below.refl _ _⟩⟩
  case round =>
    obtain ⟨i, rfl, HK, HX, HB⟩ := hrel
    have hk := HK.out
    by_cases hj : i < l0.length
    · have h0 : (0 : Int) ≤ (i : Int) := by omega
      have h1 : (i : Int) < (l0.length : Int) := by omega
      obtain ⟨x, hx⟩ : ∃ x, l0[i]? = some x := ⟨_, List.getElem?_eq_getElem hj⟩
      have hdrop : l0.drop i = x :: l0.drop (i + 1) := by
        rw [List.drop_eq_getElem_cons hj]
        rw [List.getElem?_eq_getElem hj] at hx
        rw [Option.some.inj hx]
      obtain ⟨_, _, hrd⟩ := Kd.C_below HR0.out HB.out
      obtain ⟨ad, e1, hcell⟩ := hrd (by omega)
      obtain ⟨c, hc1, hc2, hc3⟩ := hcell i x hx
      have hc4 := k36_open hc2
      subst hc4
      subst e1
      have q0 : wr.cell? (ad.add (i * 3)) = some (.string x.f0) := by have h9 := hc3 0 _ rfl; exact h9
      have q1 : wr.cell? ⟨(ad.add (i * 3)).block, (ad.add (i * 3)).off + 1, none⟩ = some (.string x.f1) := by have h9 := hc3 1 _ rfl; rw [← Go.Addr.add_add] at h9; exact h9
      have q2 : wr.cell? ⟨(ad.add (i * 3)).block, (ad.add (i * 3)).off + 2, none⟩ = some (.bool x.f2) := by have h9 := hc3 2 _ rfl; rw [← Go.Addr.add_add] at h9; exact h9
      have hX := HX.out
      rw [hdrop, idxFrom] at hX
      obtain ⟨b, hb1, hb2⟩ := Option.bind_eq_some_iff.1 hX
      have hcall := HP.out wr x b HB.out hb1
      have HX2 := Aside0.mk hb2
      cases gk with
      | zero => omega
      | succ k1 =>
      clear hk hX hb2 hrd hcell hc1 hc2 hc3 hdrop
      cases b with
      | true =>
        go_wp2_with (go_at_fn g; refine hcall.mono ?_; rintro e w' ⟨rfl, hb'⟩)
        go_ret
        have h9 : some (i : Int) = some r := by simpa using HX2.out
        exact ⟨by rw [← Option.some.inj h9]; rfl, hb'⟩
      | false =>
        go_wp2_with (go_at_fn g; refine hcall.mono ?_; rintro e w' ⟨rfl, hb'⟩)
        go_roundg k1
        case measure => have := HK.out; omega
        case rel =>
          refine ⟨i + 1, by go_num, ⟨by have := HK.out; omega⟩, ⟨?_⟩, ⟨hb'⟩⟩
          have h9 := HX2.out
          rw [if_neg (by decide)] at h9
          rw [show ((i + 1 : Nat) : Int) = (i : Int) + 1 by omega]
          exact h9
    · have e : i = l0.length := by omega
      have hltz : ¬ (i : Int) < (l0.length : Int) := by omega
      clear hk hj
      have HE := Aside0.mk e
      clear e
      go_wp2
      go_ret
      have e := HE.out
      subst e
      have hX := HX.out
      rw [List.drop_length, idxFrom] at hX
      exact ⟨by rw [← Option.some.inj hX]; rfl, HB.out⟩

/-! ### impl_HeadOk_1: function 81 -/
-- thin
def impl_HeadOk_1.f (k : Nat) (a0_0 : ByteArray) (a0_1 : ByteArray) (a0_2 : Bool) : Option (Bool) := (impl_FieldOk.f k a0_0 a0_1 a0_2).bind fun t254 => (some (!t254))
theorem impl_HeadOk_1.mono : ∀ a0 a1 a2 k, LeO (impl_HeadOk_1.f k a0 a1 a2) (impl_HeadOk_1.f (k + 1) a0 a1 a2) := by
 intro a0 a1 a2 k
 unfold impl_HeadOk_1.f
 repeat' first
   | (with_reducible exact impl_FieldOk.mono _ _ _ _)
   | (with_reducible exact LeO.refl _)
   | (with_reducible exact LeO.none _)
   | (with_reducible refine LeO.ite ?_ ?_)
   | (with_reducible refine LeO.bind ?_ (fun _ => ?_))
   | exact impl_FieldOk.mono _ _ _ _
   | exact LeO.none _
   | refine LeO.ite ?_ ?_
   | refine LeO.bind ?_ (fun _ => ?_)
set_option maxHeartbeats 8000000 in
set_option maxRecDepth 100000 in
theorem impl_HeadOk_1.calls (k : Nat) (a0_0 : ByteArray) (a0_1 : ByteArray) (a0_2 : Bool) (r : Bool) (w : World) (h : impl_HeadOk_1.f k a0_0 a0_1 a0_2 = some r) :
  Calls Try.prog 81 #[.agg #[.string a0_0, .string a0_1, .bool a0_2]] w fun e w' => e = .returned (.bool r) ∧ Below w.heap.size w w' := by
 have hu36 := Try.underlying36
 have HB := Aside0.mk (Below.refl w.heap.size w)
 have H : ((impl_FieldOk.f k a0_0 a0_1 a0_2).bind fun t254 => (some (!t254))) = some r := h
 clear h
 replace H := Option.bind_eq_some_iff.mp H
 obtain ⟨t254, A20, H⟩ := H
 replace H : (some (!t254)) = some r := H
 have A2 := Aside0.mk A20
 clear A20
 obtain rfl := Option.some.inj H
 go_enter Try.func81, Try.ntmps81
 go_wp2_with (first | ((with_reducible refine gd 1 rfl ?_); refine bx (N := 1) (cs := #[.string a0_0, .string a0_1, .bool a0_2]) (t := 36) ?_; intro gb253 hg w3 hbox hb; have BK253 := Aside0.mk (hbox); have GW253 := Aside0.mk ((by rw [hg]; exact (below_size (zb HB)) : w.heap.size ≤ gb253)); have GE253 := Aside0.mk ((by rw [hg]; exact (below_size (zb HB)) : w.heap.size ≤ gb253)); replace HB := Aside0.mk (below_step (zb HB) hb); clear hb hbox hg; have hcz4_0 : w3.cell? ⟨gb253, 0, none⟩ = some (.string a0_0) := (blk_cell BK253.out 0).trans rfl; have hcz4_1 : w3.cell? ⟨gb253, 1, none⟩ = some (.string a0_1) := (blk_cell BK253.out 1).trans rfl; have hcz4_2 : w3.cell? ⟨gb253, 2, none⟩ = some (.bool a0_2) := (blk_cell BK253.out 2).trans rfl; have hfz4_0 := blk_frozen BK253.out 0; have hfz4_1 := blk_frozen BK253.out 1; have hfz4_2 := blk_frozen BK253.out 2) | ((with_reducible refine gq 55 rfl ?_); refine gl (some 4) Try.func55 #[.agg #[.string a0_0, .string a0_1, .bool a0_2]] ?_; (with_reducible refine (impl_FieldOk.calls k a0_0 a0_1 a0_2 t254 _ A2.out).mono ?_); rintro e w5 ⟨rfl, hb⟩; refine ⟨_, rfl, ?_⟩; replace BK253 := Aside0.mk (blk_below (g := gb253) (o := .cells #[.string a0_0, .string a0_1, .bool a0_2] 36 (0, 0)) (zk BK253) hb); replace HB := Aside0.mk (below_step (zb HB) hb); (try clear hb)))
 go_ret
 exact ⟨ze, zb HB⟩

end Go.Proofs.Ytdhahifdcoinhaa.PFnLimitNone
