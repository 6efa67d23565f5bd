-- WRITTEN BY a turned print (wip/tools of the prover's repo)
import Derived.Test.YtlpibelofcabhaaPFnHeadBackx0
import Derived.Test.YtlpibelofcabhaaPFnHeadBackx2
import Derived.Test.YtlpibelofcabhaaPFnHeadBackx3
namespace Go.Proofs.Ytlpibelofcabhaa.PFnHeadBack
open Go.RowKit Go.Proofs.YtlpibelofcabhaaW.PrintWords Go.Proofs.YtlpibelofcabhaaW.PrintLast Go.Proofs.YtlpibelofcabhaaW.PrintMore Go.Proofs.Ytlpibelofcabhaa.Lm
attribute [local go_sem] max2_int min2_int max_two min_two max_three min_three max_four min_four   -- for this text's walks alone
set_option linter.unusedVariables false
set_option linter.unusedSimpArgs false

/-! ### spec_l71Table: function 50 -/
-- thin
def spec_l71Table.l0 : Nat → Int → List Int → Int → List (S88) → Int → Option ((List (S88)) × Int × Int)
 | 0, _, _, _, _, _ => none
 | k + 1, x4, x1000, x1001, x196000, x196001 => if x4 > 0 then ((spec_l71Field.f k x1000 x1001).bind fun bt198 => ((spec_FieldOk.f k bt198.1 bt198.2.1 bt198.2.2.1).bind fun t203 => (if t203 = true then ((spec_l3Add.f k x196000 x196001 bt198.1 bt198.2.1 bt198.2.2.1).bind fun bt204 => (spec_l71Table.l0 k (wrap64 (x4 - 1)) x1000 bt198.2.2.2 bt204.1 bt204.2)) else (spec_l71Table.l0 k (wrap64 (x4 - 1)) x1000 bt198.2.2.2 x196000 x196001)))) else ((spec_l6Rd_pick.f k x1000 x1001 24).bind fun bt208 => (if bt208.1 = 0 then ((some (([(-1), 65, 3] : List Int) : List Int)).bind fun y210 => ((spec_l6Rd_pick.f k x1000 bt208.2 3).bind fun bt213 => (if 0 ≤ bt213.1 then (if bt213.1 < (y210.length : Int) then (some (x196000, rd y210 bt213.1, bt213.2)) else (none)) else (none)))) else (if bt208.1 = 1 then ((spec_l71Field.f k x1000 bt208.2).bind fun bt216 => ((spec_l71Field.f k x1000 bt216.2.2.2).bind fun bt220 => ((spec_l71Field.f k x1000 bt220.2.2.2).bind fun bt224 => ((some (([(⟨bt216.1, bt216.2.1, bt216.2.2.1⟩ : S88), (⟨bt220.1, bt220.2.1, bt220.2.2.1⟩ : S88), (⟨bt224.1, bt224.2.1, bt224.2.2.1⟩ : S88)] : List (S88)) : List (S88))).bind fun y228 => (if x196000.length + y228.length < 3518437208883 then (some ((x196000 ++ y228), x196001, bt224.2.2.2)) else (none)))))) else (some (x196000, x196001, bt208.2)))))
def spec_l71Table.f (k : Nat) (s0_0 : List Int) (s0_1 : Int) : Option ((List (S88)) × Int × Int) := (some (([64, 64, 40, 20, 0] : List Int) : List Int)).bind fun y189 => ((spec_l6Rd_pick.f k s0_0 s0_1 5).bind fun bt192 => (if 0 ≤ bt192.1 then (if bt192.1 < (y189.length : Int) then ((spec_l6Rd_pick.f k s0_0 bt192.2 7).bind fun bt196 => (spec_l71Table.l0 k bt196.1 s0_0 bt196.2 (([] : List (S88))) (rd y189 bt192.1))) else (none)) else (none)))
theorem spec_l71Table.mono_l : ∀ k, (∀ y0 y1 y2 y3 y4, LeO (spec_l71Table.l0 k y0 y1 y2 y3 y4) (spec_l71Table.l0 (k + 1) y0 y1 y2 y3 y4))
 | 0 => fun _ _ _ _ _ r h => by simp [spec_l71Table.l0] at h
 | k + 1 => by
  have ih0 := spec_l71Table.mono_l k
  ·intro y0 y1 y2 y3 y4
   unfold spec_l71Table.l0
   have m0 := @spec_FieldOk.mono
   have m1 := @spec_l3Add.mono
   have m2 := @spec_l6Rd_pick.mono
   have m3 := @spec_l71Field.mono
   exact zm
theorem spec_l71Table.mono : ∀ a0 a1 k, LeO (spec_l71Table.f k a0 a1) (spec_l71Table.f (k + 1) a0 a1) := by
 intro a0 a1 k
 have ih0 := spec_l71Table.mono_l k
 unfold spec_l71Table.f
 have m0 := @spec_FieldOk.mono
 have m1 := @spec_l3Add.mono
 have m2 := @spec_l6Rd_pick.mono
 have m3 := @spec_l71Field.mono
 exact zm
def spec_l71Table.T12 : Bool × List (List Nat × List Nat) := (true, [([], []), ([0], [0]), ([], []), ([2], [2]), ([], []), ([4, 3], [4]), ([], []), ([6, 5], [6]), ([3, 5, 7], [3, 5, 7]), ([1, 8, 7], [1, 8]), ([0, 1, 2, 3, 4, 5, 6, 7, 8, 9], []), ([10, 9, 9, 0, 1, 2, 3, 4, 5, 6, 7, 8, 9], [9, 10])])
def spec_l71Table.B12 : List Nat := [0, 1, 0, 4, 0, 28, 0, 124, 252, 511, 1023, 2047]
theorem spec_l71Table.tab12 : rtab .any (opsOf Try.f50 12) = spec_l71Table.T12 := by kernel_rfl
theorem spec_l71Table.bits12 : waitsOk spec_l71Table.T12.2 spec_l71Table.B12 = true := by kernel_rfl
set_option maxHeartbeats 8000000 in
set_option maxRecDepth 100000 in
theorem spec_l71Table.calls (k : Nat) (g : Nat) (s0_0 : List Int) (s0_1 : Int) (r1 : List (S88)) (r2 : Int) (r3 : Int) (w0 w : World) (hI : IsS139 w0 w g s0_0 s0_1) (hB : Below w0.heap.size w0 w) (h : spec_l71Table.f k s0_0 s0_1 = some (r1, r2, r3)) :
  Calls Try.prog 50 #[.pointer (some ⟨g, 0, none⟩)] w fun e w' => ∃ v0_ : Value, e = .returned (.agg #[v0_, .int .i64 r2]) ∧ Kd.R k88 88 w' w.heap.size (fun _ => True) v0_ r1 ∧ IsS139 w0 w' g s0_0 r3 ∧ Below w0.heap.size w0 w' ∧ KeepBut w w' g none := by
 have hu25 := Try.underlying25
 have hu88 := Try.underlying88
 have HI0 := Aside0.mk hI
 have HK := Aside0.mk (KeepBut.refl w g none)
 have HL := Aside0.mk hB.size
 clear hI
 have HW0 := Aside0.mk hB.size
 have HB := Aside0.mk hB
 clear hB
 have H : ((some (([64, 64, 40, 20, 0] : List Int) : List Int)).bind fun y189 => ((spec_l6Rd_pick.f k s0_0 s0_1 5).bind fun bt192 => (if 0 ≤ bt192.1 then (if bt192.1 < (y189.length : Int) then ((spec_l6Rd_pick.f k s0_0 bt192.2 7).bind fun bt196 => (spec_l71Table.l0 k bt196.1 s0_0 bt196.2 (([] : List (S88))) (rd y189 bt192.1))) else (none)) else (none)))) = some (r1, r2, r3) := h
 clear h
 obtain ⟨y186, hy186⟩ : ∃ y_ : List (S88), y_ = (([] : List (S88))) := ⟨_, rfl⟩
 replace H : ((some (([64, 64, 40, 20, 0] : List Int) : List Int)).bind fun y189 => ((spec_l6Rd_pick.f k s0_0 s0_1 5).bind fun bt192 => (if 0 ≤ bt192.1 then (if bt192.1 < (y189.length : Int) then ((spec_l6Rd_pick.f k s0_0 bt192.2 7).bind fun bt196 => (spec_l71Table.l0 k bt196.1 s0_0 bt196.2 y186 (rd y189 bt192.1))) else (none)) else (none)))) = some (r1, r2, r3) := by first | (rw [hy186]; with_reducible exact H) | (have H2_ := (Option.bind_some _ _).symm.trans H; rw [hy186]; with_reducible exact H2_) | (have H2_ := (Option.bind_some _ _).symm.trans H; with_reducible exact H2_) | with_reducible exact H | (rw [hy186]; exact H) | exact H
 have Ny186 := Aside0.mk hy186
 clear hy186
 obtain ⟨y189, hy189⟩ : ∃ y_ : List Int, y_ = (([64, 64, 40, 20, 0] : List Int)) := ⟨_, rfl⟩
 replace H : ((spec_l6Rd_pick.f k s0_0 s0_1 5).bind fun bt192 => (if 0 ≤ bt192.1 then (if bt192.1 < (y189.length : Int) then ((spec_l6Rd_pick.f k s0_0 bt192.2 7).bind fun bt196 => (spec_l71Table.l0 k bt196.1 s0_0 bt196.2 y186 (rd y189 bt192.1))) else (none)) else (none))) = some (r1, r2, r3) := by first | (rw [hy189]; with_reducible exact H) | (have H2_ := (Option.bind_some _ _).symm.trans H; rw [hy189]; with_reducible exact H2_) | (have H2_ := (Option.bind_some _ _).symm.trans H; with_reducible exact H2_) | with_reducible exact H | (rw [hy189]; exact H) | exact H
 have Ny189 := Aside0.mk hy189
 clear hy189
 obtain ⟨⟨t192, t193⟩, A2, H⟩ := ob H
 (try dsimp only at H)
 replace H := sp H
 rcases H with ⟨c3, H⟩ | ⟨c3, H⟩
 ·skip
  have c3b0 := decide_eq_true c3
  clear c3
  by_cases c4 : t192 < (y189.length : Int)
  ·rw [if_pos c4] at H
   have c4b0 := decide_eq_true c4
   clear c4
   obtain ⟨⟨t196, t197⟩, A5, H⟩ := ob H
   (try dsimp only at H)
   have H' := Aside0.mk H
   clear H
   go_enter Try.func50, Try.ntmps50
   go_wp2_with (first | ((with_reducible refine gd 2 rfl ?_); refine bx (N := 2) (cs := #[.slice none 0 0, .int .i64 0]) (t := 25) ?_; intro gb185 hg w6 hbox hb; replace HB := Aside0.mk (below_step (zg139 HB) hb); have BK185 := Aside0.mk (hbox); have GW185 := Aside0.mk ((by rw [hg]; exact (keep_size (w := w) (g := g) (row := none) (zh HK)) : w.heap.size ≤ gb185)); have GE185 := Aside0.mk ((Nat.le_trans HW0.out (by rw [hg]; exact (keep_size (w := w) (g := g) (row := none) (zh HK)) : w.heap.size ≤ gb185) : w0.heap.size ≤ gb185)); replace HK := Aside0.mk (KeepBut.trans (zh HK) (KeepBut.of_below hb g none) (.inl rfl)); have NB0_185 := Aside0.mk ((by rw [hg]; exact Nat.ne_of_lt (IsS139.lt (show IsS139 w0 _ g s0_0 s0_1 from zi139 HI0)) : g ≠ gb185)); have NB185_0 := Aside0.mk ((by rw [hg]; exact Nat.ne_of_gt (IsS139.lt (show IsS139 w0 _ g s0_0 s0_1 from zi139 HI0)) : gb185 ≠ g)); replace HI0 := Aside0.mk (IsS139.below (zi139 HI0) hb); clear hb hbox hg) | ((with_reducible refine gd 6 rfl ?_); refine Kd.R_lit k88 _ 88 ?hg (N := 6) ?hd (xs := ([] : List (S88))) (inner := []) (ok := fun _ => True) (okp := fun _ => True) ?hr ?hp (fun _ hk => hk) trivial (Below.refl _ _) (Nat.le_refl _) (by simp) ?_; (case hd => rfl); (case hg => rfl); (case hr => first | (go_simp; done) | (go_simp; rfl)); (case hp => exact (Reps.none _ _)); intro v187 w7 ho8 hb hg_ hnew_; clear hg_ hnew_; (first | rw [← Ny186.out] at ho8 | (simp only [Int.reduceToNat] at ho8; rw [← Ny186.out] at ho8)); have HO188 := Aside0.mk (Kd.R_lower ho8 (keep_size (w := w) (g := g) (row := none) (zh HK))); replace HI0 := Aside0.mk (IsS139.below (zi139 HI0) hb); replace BK185 := kb BK185 hb; replace HK := Aside0.mk (KeepBut.trans (zh HK) (KeepBut.of_below hb g none) (.inl rfl)); replace HB := Aside0.mk (below_step (zg139 HB) hb); clear hb ho8) | ((with_reducible refine gd 7 rfl ?_); refine Kd.R_lit (Kd.int .i64) _ 3 ?hg (N := 7) ?hd (xs := ([64, 64, 40, 20, 0] : List Int)) (inner := [.int .i64 64, .int .i64 64, .int .i64 40, .int .i64 20, .int .i64 0]) (ok := fun _ => True) (okp := fun _ => True) ?hr ?hp (fun _ hk => hk) trivial (Below.refl _ _) (Nat.le_refl _) (by simp) ?_; (case hd => rfl); (case hg => rfl); (case hr => first | (go_simp; done) | (go_simp; rfl)); (case hp => exact (Reps.one (show Kd.M (Kd.int .i64) _ _ _ 64 [.int .i64 64] from rfl) (Reps.one (show Kd.M (Kd.int .i64) _ _ _ 64 [.int .i64 64] from rfl) (Reps.one (show Kd.M (Kd.int .i64) _ _ _ 40 [.int .i64 40] from rfl) (Reps.one (show Kd.M (Kd.int .i64) _ _ _ 20 [.int .i64 20] from rfl) (Reps.one (show Kd.M (Kd.int .i64) _ _ _ 0 [.int .i64 0] from rfl) (Reps.none _ _))))))); intro v190 w9 ho10 hb hg_ hnew_; clear hg_ hnew_; (first | rw [← Ny189.out] at ho10 | (simp only [Int.reduceToNat] at ho10; rw [← Ny189.out] at ho10)); replace HO188 := Aside0.mk (Kd.R_below (zr HO188) hb); have HO191 := Aside0.mk (Kd.R_lower ho10 (keep_size (w := w) (g := g) (row := none) (zh HK))); replace HI0 := Aside0.mk (IsS139.below (zi139 HI0) hb); replace BK185 := kb BK185 hb; replace HK := Aside0.mk (KeepBut.trans (zh HK) (KeepBut.of_below hb g none) (.inl rfl)); replace HB := Aside0.mk (below_step (zg139 HB) hb); clear hb ho10) | ((with_reducible refine gq 74 rfl ?_); refine gl (some 9) Try.func74 #[.pointer (some ⟨g, 0, none⟩), .int .i64 5] ?_; (with_reducible refine (spec_l6Rd_pick.calls k g s0_0 s0_1 5 t192 t193 w0 _ ?side1 ?side2 A2.out).mono ?_); (case side1 => exact zi139 HI0); (case side2 => exact zg139 HB); rintro e w11 ⟨rfl, hi, hb, hk⟩; refine ⟨_, rfl, ?_⟩; replace BK185 := Aside0.mk (KeepBut.blk hk (g' := gb185) (o := .cells #[.slice none 0 0, .int .i64 0] 25 (0, 0)) (zk BK185) NB185_0.out (by simp)); replace HO188 := Aside0.mk (Kd.R_mono (Kd.R_keep (IsS139.apart (show IsS139 w0 _ g s0_0 s0_1 from zi139 HI0) (zr HO188) (by decide)) hk (fun _ h => h.2)) (fun _ h => h.1)); replace HO191 := Aside0.mk (Kd.R_mono (Kd.R_keep (IsS139.apart (show IsS139 w0 _ g s0_0 s0_1 from zi139 HI0) (zr HO191) (by decide)) hk (fun _ h => h.2)) (fun _ h => h.1)); replace HK := Aside0.mk (KeepBut.trans (zh HK) hk (.inl rfl)); replace HB := Aside0.mk (hb); replace HI0 := Aside0.mk (hi); (try clear hb); (try clear hk); (try clear hi); obtain ⟨Ao12, co12, eo12⟩ := Kd.R_slice HO191.out; subst eo12; have p194 : 0 ≤ (t192 : Int) := of_decide_eq_true za; have q194 : t192 < (y189.length : Int) := of_decide_eq_true za; obtain ⟨ad194, e194, hx194_0⟩ := Kd.at_int (Kd.R_reads' HO191.out).2.2 t192 p194 q194; cases e194; replace p194 := eq_true p194; replace q194 := eq_true q194; obtain ⟨Ao13, co13, eo13⟩ := Kd.R_slice HO188.out; subst eo13) | ((with_reducible refine gd 3 rfl ?_); refine bx (N := 3) (cs := #[.slice none 0 0, .int .i64 0]) (t := 25) ?_; intro gb195 hg w14 hbox hb; replace HO188 := Aside0.mk (Kd.R_below (zr HO188) hb); replace HO191 := Aside0.mk (Kd.R_below (zr HO191) hb); replace HB := Aside0.mk (below_step (zg139 HB) hb); have BK195 := Aside0.mk (hbox); have GW195 := Aside0.mk ((by rw [hg]; exact (keep_size (w := w) (g := g) (row := none) (zh HK)) : w.heap.size ≤ gb195)); have GE195 := Aside0.mk ((Nat.le_trans HW0.out (by rw [hg]; exact (keep_size (w := w) (g := g) (row := none) (zh HK)) : w.heap.size ≤ gb195) : w0.heap.size ≤ gb195)); replace HK := Aside0.mk (KeepBut.trans (zh HK) (KeepBut.of_below hb g none) (.inl rfl)); obtain ⟨NB185_195, NB195_185⟩ := nb BK185 hg; replace BK185 := kb BK185 hb; have NB0_195 := Aside0.mk ((by rw [hg]; exact Nat.ne_of_lt (IsS139.lt (show IsS139 w0 _ g s0_0 t193 from zi139 HI0)) : g ≠ gb195)); have NB195_0 := Aside0.mk ((by rw [hg]; exact Nat.ne_of_gt (IsS139.lt (show IsS139 w0 _ g s0_0 t193 from zi139 HI0)) : gb195 ≠ g)); replace HI0 := Aside0.mk (IsS139.below (zi139 HI0) hb); clear hb hbox hg; have hnb15 := NB195_185.out; have hnc15 := NB185_195.out; have hnb16 := NB195_0.out; have hnc16 := NB0_195.out; obtain ⟨hcz17_0, hcz17_1, hfz17_0, hfz17_1⟩ := c2 BK195) | ((with_reducible refine gq 74 rfl ?_); refine gl (some 14) Try.func74 #[.pointer (some ⟨g, 0, none⟩), .int .i64 7] ?_; (with_reducible refine (spec_l6Rd_pick.calls k g s0_0 t193 7 t196 t197 w0 _ ?side1 ?side2 A5.out).mono ?_); (case side1 => exact zi139 HI0); (case side2 => exact zg139 HB); rintro e w18 ⟨rfl, hi, hb, hk⟩; refine ⟨_, rfl, ?_⟩; replace BK185 := Aside0.mk (KeepBut.blk hk (g' := gb185) (o := .cells #[.slice none 0 0, .int .i64 0] 25 (0, 0)) (by (with_reducible repeat (first | refine blk_drewN ?_ _ | refine blk_drew ?_ | refine blk_alloc ?_ _)); refine blk_far ?_ NB185_195.out _; (with_reducible repeat (first | refine blk_drewN ?_ _ | refine blk_drew ?_ | refine blk_alloc ?_ _)); refine blk_far ?_ NB185_195.out _; exact zk BK185) NB185_0.out (by simp)); replace HO188 := Aside0.mk (Kd.R_mono (Kd.R_keep (IsS139.apart (show IsS139 w0 _ g s0_0 t193 from zi139 HI0) (by (with_reducible repeat (first | apply Kd.R_alloc | apply Kd.R_drewN | apply Kd.R_drew)); exact (Kd.R_mono (Kd.R_far (p := ⟨gb195, 1, none⟩) (Kd.R_far (p := ⟨gb195, 0, none⟩) (Kd.R_types HO188.out BK195.out (by decide)) (fun _ hk => hk.2) (.slice Ao13 y186.length co13)) (fun _ hk => hk.2) (.int .i64 (rd y189 t192))) (fun _ h_ => h_.1))) (by decide)) hk (fun _ h => h.2)) (fun _ h => h.1)); replace HO191 := Aside0.mk (Kd.R_mono (Kd.R_keep (IsS139.apart (show IsS139 w0 _ g s0_0 t193 from zi139 HI0) (by (with_reducible repeat (first | apply Kd.R_alloc | apply Kd.R_drewN | apply Kd.R_drew)); exact (Kd.R_mono (Kd.R_far (p := ⟨gb195, 1, none⟩) (Kd.R_far (p := ⟨gb195, 0, none⟩) (Kd.R_types HO191.out BK195.out (by decide)) (fun _ hk => hk.2) (.slice Ao13 y186.length co13)) (fun _ hk => hk.2) (.int .i64 (rd y189 t192))) (fun _ h_ => h_.1))) (by decide)) hk (fun _ h => h.2)) (fun _ h => h.1)); replace BK195 := Aside0.mk (KeepBut.blk hk (g' := gb195) (o := .cells #[.slice Ao13 y186.length co13, .int .i64 (rd y189 t192)] 25 (0, 0)) (by (with_reducible repeat (first | refine blk_drewN ?_ _ | refine blk_drew ?_ | refine blk_alloc ?_ _)); refine blk_put (cs := #[.slice Ao13 y186.length co13, .int .i64 0]) ?_ 1 _ rfl; (with_reducible repeat (first | refine blk_drewN ?_ _ | refine blk_drew ?_ | refine blk_alloc ?_ _)); refine blk_put (cs := #[.slice none 0 0, .int .i64 0]) ?_ 0 _ rfl; exact zk BK195) NB195_0.out (by simp)); replace HK := Aside0.mk (KeepBut.trans (zh HK) hk (.inl rfl)); replace HB := Aside0.mk (hb); replace HI0 := Aside0.mk (hi); (try clear hb); (try clear hk); (try clear hi)))
   go_loopg [4] k (fun kq v4 w' => ∃ (x4_1 : Int) (x1001_1 : Int) (x196000_1 : List (S88)) (x196001_1 : Int) (u196000 : Value), v4 = .int .i64 x4_1 ∧ Aside0 (spec_l71Table.l0 kq x4_1 s0_0 x1001_1 x196000_1 x196001_1 = some (r1, r2, r3)) ∧ Aside0 (kq ≤ k) ∧ Aside0 (Kd.R k88 88 w' w.heap.size (fun _ => True) u196000 x196000_1) ∧ Aside0 (w'.heap[gb185]? = some (.cells #[(.slice none 0 0), .int .i64 0] 25 (0, 0))) ∧ Aside0 (w'.heap[gb195]? = some (.cells #[u196000, .int .i64 x196001_1] 25 (0, 0))) ∧ Aside0 (IsS139 w0 w' g s0_0 x1001_1) ∧ Aside0 (KeepBut w w' g none) ∧ Aside0 (Below w0.heap.size w0 w'))
   case atStart => exact ⟨(t196), (t197), (y186), (rd y189 t192), (.slice Ao13 y186.length co13), zs, H', ⟨Nat.le_refl _⟩, ⟨by exact zr HO188⟩, ⟨by exact zk BK185⟩, ⟨by exact zk BK195⟩, ⟨zi139 HI0⟩, ⟨zh HK⟩, ⟨zg139 HB⟩⟩
   case round =>
    clear H'
    try clear c1
    try clear p1
    try clear q1
    try clear hx1
    try clear p2
    try clear c3
    try clear c3b0
    try clear c4
    try clear c4b0
    try clear c5
    try clear c7
    try clear c15
    try clear c16
    try clear hcz17_0
    try clear hcz17_1
    try clear hfz17_0
    try clear hfz17_1
    try clear hx194_0
    try clear p194
    try clear q194
    obtain ⟨x4_1, x1001_1, x196000_1, x196001_1, u196000, rfl, HA, HK1, HO_196000, BK185, BK195, HI0, HK, HB⟩ := hrel
    cases gk with
    | zero => exact absurd HA.out (by simp [spec_l71Table.l0])
    | succ k1 =>
     have H := HA.out
     clear HA
     simp only [spec_l71Table.l0] at H
     by_cases c19 : x4_1 > 0
     ·rw [if_pos c19] at H
      have c19b0 := decide_eq_true c19
      clear c19
      obtain ⟨⟨t198, t199, t200, t201⟩, A20, H⟩ := ob H
      (try dsimp only at H)
      obtain ⟨t203, A21, H⟩ := ob H
      (try dsimp only at H)
      have HC22 := Aside0.mk H
      clear H
      go_upto_if 22 with (first | ((with_reducible refine gq 106 rfl ?_); refine gl (some 20) Try.func106 #[.pointer (some ⟨g, 0, none⟩)] ?_; (with_reducible refine (spec_l71Field.calls k1 g s0_0 x1001_1 t198 t199 t200 t201 w0 _ ?side1 ?side2 A20.out).mono ?_); (case side1 => exact zi139 HI0); (case side2 => exact zg139 HB); rintro e w23 ⟨rfl, hi, hb, hk⟩; refine ⟨_, rfl, ?_⟩; replace HO_196000 := Aside0.mk (Kd.R_mono (Kd.R_keep (IsS139.apart (show IsS139 w0 _ g s0_0 x1001_1 from zi139 HI0) (zr HO_196000) (by decide)) hk (fun _ h => h.2)) (fun _ h => h.1)); replace BK185 := Aside0.mk (KeepBut.blk hk (g' := gb185) (o := .cells #[.slice none 0 0, .int .i64 0] 25 (0, 0)) (zk BK185) NB185_0.out (by simp)); replace BK195 := Aside0.mk (KeepBut.blk hk (g' := gb195) (o := .cells #[u196000, .int .i64 x196001_1] 25 (0, 0)) (zk BK195) NB195_0.out (by simp)); replace HK := Aside0.mk (KeepBut.trans (zh HK) hk (.inl rfl)); replace HB := Aside0.mk (hb); replace HI0 := Aside0.mk (hi); (try clear hb); (try clear hk); (try clear hi)) | ((with_reducible refine gd 5 rfl ?_); refine bx (N := 5) (cs := #[.string (⟨#[]⟩ : ByteArray), .string (⟨#[]⟩ : ByteArray), .bool false]) (t := 88) ?_; intro gb202 hg w24 hbox hb; replace HO_196000 := Aside0.mk (Kd.R_below (Kd.R_elderB (zr HO_196000) gb202 (Nat.le_of_eq hg.symm)) hb); replace HB := Aside0.mk (below_step (zg139 HB) hb); have BK202 := Aside0.mk (hbox); have GW202 := Aside0.mk ((by rw [hg]; exact (keep_size (w := w) (g := g) (row := none) (zh HK)) : w.heap.size ≤ gb202)); have GE202 := Aside0.mk ((Nat.le_trans HW0.out (by rw [hg]; exact (keep_size (w := w) (g := g) (row := none) (zh HK)) : w.heap.size ≤ gb202) : w0.heap.size ≤ gb202)); replace HK := Aside0.mk (KeepBut.trans (zh HK) (KeepBut.of_below hb g none) (.inl rfl)); obtain ⟨NB185_202, NB202_185⟩ := nb BK185 hg; replace BK185 := kb BK185 hb; obtain ⟨NB195_202, NB202_195⟩ := nb BK195 hg; replace BK195 := kb BK195 hb; have NB0_202 := Aside0.mk ((by rw [hg]; exact Nat.ne_of_lt (IsS139.lt (show IsS139 w0 _ g s0_0 t201 from zi139 HI0)) : g ≠ gb202)); have NB202_0 := Aside0.mk ((by rw [hg]; exact Nat.ne_of_gt (IsS139.lt (show IsS139 w0 _ g s0_0 t201 from zi139 HI0)) : gb202 ≠ g)); replace HI0 := Aside0.mk (IsS139.below (zi139 HI0) hb); clear hb hbox hg; have hnb25 := NB202_185.out; have hnc25 := NB185_202.out; have hnb26 := NB202_195.out; have hnc26 := NB195_202.out; have hnb27 := NB202_0.out; have hnc27 := NB0_202.out; obtain ⟨hcz28_0, hcz28_1, hcz28_2, hfz28_0, hfz28_1, hfz28_2⟩ := c3 BK202) | ((with_reducible refine gq 55 rfl ?_); refine gl (some 22) Try.func55 #[.agg #[.string t198, .string t199, .bool t200]] ?_; (with_reducible refine (spec_FieldOk.calls k1 t198 t199 t200 t203 _ A21.out).mono ?_); rintro e w29 ⟨rfl, hb⟩; refine ⟨_, rfl, ?_⟩; replace HO_196000 := Aside0.mk (Kd.R_below (by (with_reducible repeat (first | apply Kd.R_alloc | apply Kd.R_drewN | apply Kd.R_drew)); exact (Kd.R_mono (Kd.R_far (p := ⟨gb202, 2, none⟩) (Kd.R_far (p := ⟨gb202, 1, none⟩) (Kd.R_far (p := ⟨gb202, 0, none⟩) (Kd.R_mono HO_196000.out (fun k_ hk => (⟨hk, hk.2⟩ : _ ∧ k_ ≠ gb202))) (fun _ hk => hk.2) (.string t198)) (fun _ hk => hk.2) (.string t199)) (fun _ hk => hk.2) (.bool t200)) (fun _ h_ => h_.1))) hb); replace BK185 := Aside0.mk (blk_below (g := gb185) (o := .cells #[.slice none 0 0, .int .i64 0] 25 (0, 0)) (by (with_reducible repeat (first | refine blk_drewN ?_ _ | refine blk_drew ?_ | refine blk_alloc ?_ _)); refine blk_far ?_ NB185_202.out _; (with_reducible repeat (first | refine blk_drewN ?_ _ | refine blk_drew ?_ | refine blk_alloc ?_ _)); refine blk_far ?_ NB185_202.out _; (with_reducible repeat (first | refine blk_drewN ?_ _ | refine blk_drew ?_ | refine blk_alloc ?_ _)); refine blk_far ?_ NB185_202.out _; exact zk BK185) hb); replace BK195 := Aside0.mk (blk_below (g := gb195) (o := .cells #[u196000, .int .i64 x196001_1] 25 (0, 0)) (by (with_reducible repeat (first | refine blk_drewN ?_ _ | refine blk_drew ?_ | refine blk_alloc ?_ _)); refine blk_far ?_ NB195_202.out _; (with_reducible repeat (first | refine blk_drewN ?_ _ | refine blk_drew ?_ | refine blk_alloc ?_ _)); refine blk_far ?_ NB195_202.out _; (with_reducible repeat (first | refine blk_drewN ?_ _ | refine blk_drew ?_ | refine blk_alloc ?_ _)); refine blk_far ?_ NB195_202.out _; exact zk BK195) hb); replace HI0 := Aside0.mk (IsS139.below (show IsS139 w0 (((w24.setCell ⟨gb202, 0, none⟩ (.string t198)).setCell ⟨gb202, 1, none⟩ (.string t199)).setCell ⟨gb202, 2, none⟩ (.bool t200)) g s0_0 t201 from zi139 HI0) hb); replace BK202 := Aside0.mk (blk_below (g := gb202) (o := .cells #[.string t198, .string t199, .bool t200] 88 (0, 0)) (by (with_reducible repeat (first | refine blk_drewN ?_ _ | refine blk_drew ?_ | refine blk_alloc ?_ _)); refine blk_put (cs := #[.string t198, .string t199, .bool false]) ?_ 2 _ rfl; (with_reducible repeat (first | refine blk_drewN ?_ _ | refine blk_drew ?_ | refine blk_alloc ?_ _)); refine blk_put (cs := #[.string t198, .string (⟨#[]⟩ : ByteArray), .bool false]) ?_ 1 _ rfl; (with_reducible repeat (first | refine blk_drewN ?_ _ | refine blk_drew ?_ | refine blk_alloc ?_ _)); refine blk_put (cs := #[.string (⟨#[]⟩ : ByteArray), .string (⟨#[]⟩ : ByteArray), .bool false]) ?_ 0 _ rfl; exact zk BK202) hb); replace HK := Aside0.mk (KeepBut.trans (zh HK) (KeepBut.of_below hb g none) (.inl rfl)); replace HB := Aside0.mk (below_step (zg139 HB) hb); (try clear hb)))
      (try simp only [Act.put, s1, s2, s3])
      have H := HC22.out
      clear HC22
      by_cases c30 : t203 = true
      ·subst c30
       rw [if_pos rfl] at H
       obtain ⟨⟨t204, t207⟩, A31, H⟩ := ob H
       (try dsimp only at H)
       have H' := Aside0.mk H
       clear H
       have hnb32 := NB195_185.out
       have hnc32 := NB185_195.out
       have hnb33 := NB195_202.out
       have hnc33 := NB202_195.out
       have hnb34 := NB195_0.out
       have hnc34 := NB0_195.out
       obtain ⟨hcz35_0, hcz35_1, hfz35_0, hfz35_1⟩ := c2 BK195
       have hnb36 := NB202_185.out
       have hnc36 := NB185_202.out
       have hnb37 := NB202_0.out
       have hnc37 := NB0_202.out
       obtain ⟨hcz38_0, hcz38_1, hcz38_2, hfz38_0, hfz38_1, hfz38_2⟩ := c3 BK202
       obtain ⟨Ao39, co39, eo39⟩ := Kd.R_slice HO_196000.out
       subst eo39
       go_wp2_with (first | ((with_reducible refine gq 107 rfl ?_); refine gl (some 25) Try.func107 #[.agg #[.slice Ao39 x196000_1.length co39, .int .i64 x196001_1], .agg #[.string t198, .string t199, .bool t200]] ?_; (with_reducible refine (spec_l3Add.calls k1 _ _ x196000_1 x196001_1 t198 t199 t200 t204 t207 _ ?side1 ?side2 A31.out).mono ?_); (case side1 => exact zc (Kd.R_reads' HO_196000.out).2.2); (case side2 => exact (Kd.R_reads' HO_196000.out).2.1); rintro e w40 ⟨v205, rfl, ho0, hb⟩; refine ⟨_, rfl, ?_⟩; have HO206 := Aside0.mk (Kd.R_lower (Kd.R_newB (Kd.R_new' ho0 (Kd.R_lt (zr HO_196000))) (zk BK202)) (keep_size (w := w) (g := g) (row := none) (zh HK))); replace HO_196000 := Aside0.mk (Kd.R_elder' (zr HO_196000) (Kd.R_base ho0) hb); replace BK185 := kb BK185 hb; replace BK195 := kb BK195 hb; replace HI0 := Aside0.mk (IsS139.below (zi139 HI0) hb); replace BK202 := kb BK202 hb; replace HK := Aside0.mk (KeepBut.trans (zh HK) (KeepBut.of_below hb g none) (.inl rfl)); replace HB := Aside0.mk (below_step (zg139 HB) hb); (try clear hb); (try clear ho0); obtain ⟨Ao41, co41, eo41⟩ := Kd.R_slice HO206.out; subst eo41; obtain ⟨hcz42_0, hcz42_1, hfz42_0, hfz42_1⟩ := c2 BK195))
       go_roundg k1
       case measure => have := HK1.out; omega
       case rel => exact ⟨(wrap64 (x4_1 - 1)), (t201), (t204), (t207), (.slice Ao41 t204.length co41), zs, H', ⟨by have := HK1.out; omega⟩, ⟨by (with_reducible repeat (first | apply Kd.R_alloc | apply Kd.R_drewN | apply Kd.R_drew)); exact Kd.R_mono (Kd.R_far (p := ⟨gb195, 1, none⟩) (Kd.R_far (p := ⟨gb195, 0, none⟩) (Kd.R_types HO206.out BK195.out (by decide)) (fun _ hk => hk.2) (.slice Ao41 t204.length co41)) (fun _ hk => hk.2) (.int .i64 t207)) (fun _ hk => trivial)⟩, ⟨by (with_reducible repeat (first | refine blk_drewN ?_ _ | refine blk_drew ?_ | refine blk_alloc ?_ _)); refine blk_far ?_ NB185_195.out _; (with_reducible repeat (first | refine blk_drewN ?_ _ | refine blk_drew ?_ | refine blk_alloc ?_ _)); refine blk_far ?_ NB185_195.out _; exact zk BK185⟩, ⟨by (with_reducible repeat (first | refine blk_drewN ?_ _ | refine blk_drew ?_ | refine blk_alloc ?_ _)); refine blk_put (cs := #[.slice Ao41 t204.length co41, .int .i64 x196001_1]) ?_ 1 _ rfl; (with_reducible repeat (first | refine blk_drewN ?_ _ | refine blk_drew ?_ | refine blk_alloc ?_ _)); refine blk_put (cs := #[.slice Ao39 x196000_1.length co39, .int .i64 x196001_1]) ?_ 0 _ rfl; exact zk BK195⟩, ⟨zi139 HI0⟩, ⟨zh HK⟩, ⟨zg139 HB⟩⟩
      ·replace c30 := Bool.eq_false_iff.mpr c30
       subst c30
       rw [if_neg (show ¬ (false = true) by decide)] at H
       have H' := Aside0.mk H
       clear H
       go_wp2
       go_roundg k1
       case measure => have := HK1.out; omega
       case rel => exact ⟨(wrap64 (x4_1 - 1)), (t201), (x196000_1), (x196001_1), (u196000), zs, H', ⟨by have := HK1.out; omega⟩, ⟨by (with_reducible repeat (first | apply Kd.R_alloc | apply Kd.R_drewN | apply Kd.R_drew)); exact Kd.R_mono HO_196000.out (fun _ hk => trivial)⟩, ⟨by exact zk BK185⟩, ⟨by exact zk BK195⟩, ⟨zi139 HI0⟩, ⟨zh HK⟩, ⟨zg139 HB⟩⟩
     ·rw [if_neg c19] at H
      have c19b0 := decide_eq_false c19
      clear c19
      obtain ⟨⟨t208, t209⟩, A43, H⟩ := ob H
      (try dsimp only at H)
      by_cases c44 : t208 = 0
      ·rw [if_pos c44] at H
       have c44b0 : (t208 == 0) = true := beq_iff_eq.mpr c44
       have c44b1 : (t208 != 0) = false := bne_eq_false_iff_eq.mpr c44
       clear c44
       obtain ⟨y210, hy210⟩ : ∃ y_ : List Int, y_ = (([(-1), 65, 3] : List Int)) := ⟨_, rfl⟩
       replace H : ((spec_l6Rd_pick.f k1 s0_0 t209 3).bind fun bt213 => (if 0 ≤ bt213.1 then (if bt213.1 < (y210.length : Int) then (some (x196000_1, rd y210 bt213.1, bt213.2)) else (none)) else (none))) = some (r1, r2, r3) := by first | (rw [hy210]; with_reducible exact H) | (have H2_ := (Option.bind_some _ _).symm.trans H; rw [hy210]; with_reducible exact H2_) | (have H2_ := (Option.bind_some _ _).symm.trans H; with_reducible exact H2_) | with_reducible exact H | (rw [hy210]; exact H) | exact H
       have Ny210 := Aside0.mk hy210
       clear hy210
       obtain ⟨⟨t213, t214⟩, A45, H⟩ := ob H
       (try dsimp only at H)
       by_cases c46 : 0 ≤ t213
       ·rw [if_pos c46] at H
        have c46b0 := decide_eq_true c46
        clear c46
        by_cases c47 : t213 < (y210.length : Int)
        ·rw [if_pos c47] at H
         have c47b0 := decide_eq_true c47
         clear c47
         simp only [Option.some.injEq, Prod.mk.injEq] at H
         obtain ⟨rfl, rfl, rfl⟩ := H
         go_wp2_with (first | ((with_reducible refine gq 74 rfl ?_); refine gl (some 27) Try.func74 #[.pointer (some ⟨g, 0, none⟩), .int .i64 24] ?_; (with_reducible refine (spec_l6Rd_pick.calls k1 g s0_0 x1001_1 24 t208 t209 w0 _ ?side1 ?side2 A43.out).mono ?_); (case side1 => exact zi139 HI0); (case side2 => exact zg139 HB); rintro e w48 ⟨rfl, hi, hb, hk⟩; refine ⟨_, rfl, ?_⟩; replace HO_196000 := Aside0.mk (Kd.R_mono (Kd.R_keep (IsS139.apart (show IsS139 w0 _ g s0_0 x1001_1 from zi139 HI0) (zr HO_196000) (by decide)) hk (fun _ h => h.2)) (fun _ h => h.1)); replace BK185 := Aside0.mk (KeepBut.blk hk (g' := gb185) (o := .cells #[.slice none 0 0, .int .i64 0] 25 (0, 0)) (zk BK185) NB185_0.out (by simp)); replace BK195 := Aside0.mk (KeepBut.blk hk (g' := gb195) (o := .cells #[u196000, .int .i64 x196001_1] 25 (0, 0)) (zk BK195) NB195_0.out (by simp)); replace HK := Aside0.mk (KeepBut.trans (zh HK) hk (.inl rfl)); replace HB := Aside0.mk (hb); replace HI0 := Aside0.mk (hi); (try clear hb); (try clear hk); (try clear hi)) | ((with_reducible refine gd 30 rfl ?_); refine Kd.R_lit (Kd.int .i64) _ 3 ?hg (N := 30) ?hd (xs := ([(-1), 65, 3] : List Int)) (inner := [.int .i64 (-1), .int .i64 65, .int .i64 3]) (ok := fun _ => True) (okp := fun _ => True) ?hr ?hp (fun _ hk => hk) trivial (Below.refl _ _) (Nat.le_refl _) (by simp) ?_; (case hd => rfl); (case hg => rfl); (case hr => first | (go_simp; done) | (go_simp; rfl)); (case hp => exact (Reps.one (show Kd.M (Kd.int .i64) _ _ _ (-1) [.int .i64 (-1)] from rfl) (Reps.one (show Kd.M (Kd.int .i64) _ _ _ 65 [.int .i64 65] from rfl) (Reps.one (show Kd.M (Kd.int .i64) _ _ _ 3 [.int .i64 3] from rfl) (Reps.none _ _))))); intro v211 w49 ho50 hb hg_ hnew_; clear hg_ hnew_; (first | rw [← Ny210.out] at ho50 | (simp only [Int.reduceToNat] at ho50; rw [← Ny210.out] at ho50)); replace HO_196000 := Aside0.mk (Kd.R_below (zr HO_196000) hb); have HO212 := Aside0.mk (Kd.R_lower ho50 (keep_size (w := w) (g := g) (row := none) (zh HK))); replace BK185 := kb BK185 hb; replace BK195 := kb BK195 hb; replace HI0 := Aside0.mk (IsS139.below (zi139 HI0) hb); replace HK := Aside0.mk (KeepBut.trans (zh HK) (KeepBut.of_below hb g none) (.inl rfl)); replace HB := Aside0.mk (below_step (zg139 HB) hb); clear hb ho50) | ((with_reducible refine gq 74 rfl ?_); refine gl (some 32) Try.func74 #[.pointer (some ⟨g, 0, none⟩), .int .i64 3] ?_; (with_reducible refine (spec_l6Rd_pick.calls k1 g s0_0 t209 3 t213 t214 w0 _ ?side1 ?side2 A45.out).mono ?_); (case side1 => exact zi139 HI0); (case side2 => exact zg139 HB); rintro e w51 ⟨rfl, hi, hb, hk⟩; refine ⟨_, rfl, ?_⟩; replace HO_196000 := Aside0.mk (Kd.R_mono (Kd.R_keep (IsS139.apart (show IsS139 w0 _ g s0_0 t209 from zi139 HI0) (zr HO_196000) (by decide)) hk (fun _ h => h.2)) (fun _ h => h.1)); replace BK185 := Aside0.mk (KeepBut.blk hk (g' := gb185) (o := .cells #[.slice none 0 0, .int .i64 0] 25 (0, 0)) (zk BK185) NB185_0.out (by simp)); replace BK195 := Aside0.mk (KeepBut.blk hk (g' := gb195) (o := .cells #[u196000, .int .i64 x196001_1] 25 (0, 0)) (zk BK195) NB195_0.out (by simp)); replace HO212 := Aside0.mk (Kd.R_mono (Kd.R_keep (IsS139.apart (show IsS139 w0 _ g s0_0 t209 from zi139 HI0) (zr HO212) (by decide)) hk (fun _ h => h.2)) (fun _ h => h.1)); replace HK := Aside0.mk (KeepBut.trans (zh HK) hk (.inl rfl)); replace HB := Aside0.mk (hb); replace HI0 := Aside0.mk (hi); (try clear hb); (try clear hk); (try clear hi); obtain ⟨Ao52, co52, eo52⟩ := Kd.R_slice HO212.out; subst eo52; have p215 : 0 ≤ (t213 : Int) := of_decide_eq_true za; have q215 : t213 < (y210.length : Int) := of_decide_eq_true za; obtain ⟨ad215, e215, hx215_0⟩ := Kd.at_int (Kd.R_reads' HO212.out).2.2 t213 p215 q215; cases e215; replace p215 := eq_true p215; replace q215 := eq_true q215; have hnb53 := NB195_185.out; have hnc53 := NB185_195.out; have hnb54 := NB195_0.out; have hnc54 := NB0_195.out; obtain ⟨hcz55_0, hcz55_1, hfz55_0, hfz55_1⟩ := c2 BK195; obtain ⟨Ao56, co56, eo56⟩ := Kd.R_slice HO_196000.out; subst eo56; have hnb57 := NB185_0.out; have hnc57 := NB0_185.out; obtain ⟨hcz58_0, hcz58_1, hfz58_0, hfz58_1⟩ := c2 BK185))
         refine bodyPost_ret (results_cell_row rfl _ _ gb185 25 #[.slice Ao56 x196000_1.length co56, .int .i64 (rd y210 t213)] (0, 0) _ rfl (by (with_reducible repeat (first | refine blk_drewN ?_ _ | refine blk_drew ?_ | refine blk_alloc ?_ _)); refine blk_put (cs := #[.slice Ao56 x196000_1.length co56, .int .i64 0]) ?_ 1 _ rfl; (with_reducible repeat (first | refine blk_drewN ?_ _ | refine blk_drew ?_ | refine blk_alloc ?_ _)); refine blk_put (cs := #[.slice none 0 0, .int .i64 0]) ?_ 0 _ rfl; (with_reducible repeat (first | refine blk_drewN ?_ _ | refine blk_drew ?_ | refine blk_alloc ?_ _)); refine blk_far ?_ NB185_195.out _; exact zk BK185) Try.underlying25 rfl (by kernel_rfl)) rfl ?_
         exact ⟨_, ze, by (with_reducible repeat (first | apply Kd.R_alloc | apply Kd.R_drewN | apply Kd.R_drew)); exact Kd.R_mono (Kd.R_far (p := ⟨gb185, 1, none⟩) (Kd.R_far (p := ⟨gb185, 0, none⟩) (Kd.R_far (p := ⟨gb195, 1, none⟩) (Kd.R_types (Kd.R_types HO_196000.out BK195.out (by decide)) BK185.out (by decide)) (fun _ hk => hk.1.2) (.int .i64 (rd y210 t213))) (fun _ hk => hk.2) (.slice Ao56 x196000_1.length co56)) (fun _ hk => hk.2) (.int .i64 (rd y210 t213))) (fun _ hk => trivial), zi139 HI0, zg139 HB, zh HK⟩
        ·rw [if_neg c47] at H
         exact absurd H (by simp)
       ·rw [if_neg c46] at H
        exact absurd H (by simp)
      ·rw [if_neg c44] at H
       have c44b0 : (t208 == 0) = false := beq_eq_false_iff_ne.mpr c44
       have c44b1 : (t208 != 0) = true := bne_iff_ne.mpr c44
       by_cases c59 : t208 = 1
       ·rw [if_pos c59] at H
        have c59b0 : (t208 == 1) = true := beq_iff_eq.mpr c59
        have c59b1 : (t208 != 1) = false := bne_eq_false_iff_eq.mpr c59
        clear c59
        obtain ⟨⟨t216, t217, t218, t219⟩, A60, H⟩ := ob H
        (try dsimp only at H)
        obtain ⟨⟨t220, t221, t222, t223⟩, A61, H⟩ := ob H
        (try dsimp only at H)
        obtain ⟨⟨t224, t225, t226, t227⟩, A62, H⟩ := ob H
        (try dsimp only at H)
        obtain ⟨y228, hy228⟩ : ∃ y_ : List (S88), y_ = (([(⟨t216, t217, t218⟩ : S88), (⟨t220, t221, t222⟩ : S88), (⟨t224, t225, t226⟩ : S88)] : List (S88))) := ⟨_, rfl⟩
        replace H : (if x196000_1.length + y228.length < 3518437208883 then (some ((x196000_1 ++ y228), x196001_1, t227)) else (none)) = some (r1, r2, r3) := by first | (rw [hy228]; with_reducible exact H) | (have H2_ := (Option.bind_some _ _).symm.trans H; rw [hy228]; with_reducible exact H2_) | (have H2_ := (Option.bind_some _ _).symm.trans H; with_reducible exact H2_) | with_reducible exact H | (rw [hy228]; exact H) | exact H
        have Ny228 := Aside0.mk hy228
        clear hy228
        by_cases c63 : x196000_1.length + y228.length < 3518437208883
        ·rw [if_pos c63] at H
         have LMc63 := Aside0.mk c63
         clear c63
         obtain ⟨y231, hy231⟩ : ∃ y_ : List (S88), y_ = (x196000_1 ++ y228) := ⟨_, rfl⟩
         replace H : (some (y231, x196001_1, t227)) = some (r1, r2, r3) := by first | (rw [hy231]; with_reducible exact H) | (have H2_ := (Option.bind_some _ _).symm.trans H; rw [hy231]; with_reducible exact H2_) | (have H2_ := (Option.bind_some _ _).symm.trans H; with_reducible exact H2_) | with_reducible exact H | (rw [hy231]; exact H) | exact H
         have Ny231 := Aside0.mk hy231
         clear hy231
         simp only [Option.some.injEq, Prod.mk.injEq] at H
         obtain ⟨rfl, rfl, rfl⟩ := H
         try go_wp2_with (first | ((with_reducible refine gq 74 rfl ?_); refine gl (some 27) Try.func74 #[.pointer (some ⟨g, 0, none⟩), .int .i64 24] ?_; (with_reducible refine (spec_l6Rd_pick.calls k1 g s0_0 x1001_1 24 t208 t209 w0 _ ?side1 ?side2 A43.out).mono ?_); (case side1 => exact zi139 HI0); (case side2 => exact zg139 HB); rintro e w64 ⟨rfl, hi, hb, hk⟩; refine ⟨_, rfl, ?_⟩; replace HO_196000 := Aside0.mk (Kd.R_mono (Kd.R_keep (IsS139.apart (show IsS139 w0 _ g s0_0 x1001_1 from zi139 HI0) (zr HO_196000) (by decide)) hk (fun _ h => h.2)) (fun _ h => h.1)); replace BK185 := Aside0.mk (KeepBut.blk hk (g' := gb185) (o := .cells #[.slice none 0 0, .int .i64 0] 25 (0, 0)) (zk BK185) NB185_0.out (by simp)); replace BK195 := Aside0.mk (KeepBut.blk hk (g' := gb195) (o := .cells #[u196000, .int .i64 x196001_1] 25 (0, 0)) (zk BK195) NB195_0.out (by simp)); replace HK := Aside0.mk (KeepBut.trans (zh HK) hk (.inl rfl)); replace HB := Aside0.mk (hb); replace HI0 := Aside0.mk (hi); (try clear hb); (try clear hk); (try clear hi)))
         replace HO_196000 := Aside0.mk (Kd.R_drew HO_196000.out)
         replace BK185 := Aside0.mk (blk_drew BK185.out)
         replace BK195 := Aside0.mk (blk_drew BK195.out)
         replace HI0 := Aside0.mk (IsS139.drew HI0.out)
         replace HK := Aside0.mk (keep_drew HK.out)
         replace HB := Aside0.mk (below_drew1 HB.out)
         refine start_ (n := 12) (S := fun w' => w'.cell? ⟨gb195, 0, none⟩ = some (u196000) ∧ w'.cell? ⟨gb195, 1, none⟩ = some (.int .i64 x196001_1)) (ds := [11]) #[false, false, false, false, false, false, false, false, false, false, false, false] (by kernel_rfl) rfl rfl ⟨(blk_cell BK195.out 0).trans rfl, (blk_cell BK195.out 1).trans rfl⟩ (fun hHeld => ?_); refine with_tabW spec_l71Table.tab12 spec_l71Table.bits12 (fun HT_ HW_ => ?_)
         generalize w64.drew = w65 at HO_196000 BK185 BK195 HI0 HK HB hHeld ⊢
         refine pu 0 (some 38) (bm 12 1) rfl rfl ?_
         refine pu 2 (some 40) (bm 12 5) rfl rfl ?_
         refine pu 4 (some 42) (bm 12 21) rfl rfl ?_
         refine pu 6 (some 44) (bm 12 85) rfl rfl ?_
         refine tk 1 (some 39) (bm 12 87) rfl rfl hHeld ?_
         refine one_ (i := 3) (N := some 41) (bm 12 95) rfl rfl (one_of HT_.out (by kernel_rfl)) (by decide) (fun K hK => ?_)
         refine gs Try.func106 #[.pointer (some ⟨g, 0, none⟩)] ?_
         with_reducible refine (spec_l71Field.calls k1 g s0_0 t209 t216 t217 t218 t219 w0 _ ?side1 ?side2 A60.out).mono ?_
         (case side1 => exact zi139 HI0)
         (case side2 => exact zg139 HB)
         rintro e w66 ⟨rfl, hi, hb, hk⟩
         refine ⟨_, rfl, ?_⟩
         replace HO_196000 := Aside0.mk (Kd.R_mono (Kd.R_keep (IsS139.apart (show IsS139 w0 _ g s0_0 t209 from zi139 HI0) (zr HO_196000) (by decide)) hk (fun _ h => h.2)) (fun _ h => h.1))
         replace BK185 := Aside0.mk (KeepBut.blk hk (g' := gb185) (o := .cells #[.slice none 0 0, .int .i64 0] 25 (0, 0)) (zk BK185) NB185_0.out (by simp))
         replace BK195 := Aside0.mk (KeepBut.blk hk (g' := gb195) (o := .cells #[u196000, .int .i64 x196001_1] 25 (0, 0)) (zk BK195) NB195_0.out (by simp))
         replace HK := Aside0.mk (KeepBut.trans (zh HK) hk (.inl rfl))
         replace HB := Aside0.mk (hb)
         replace HI0 := Aside0.mk (hi)
         (try clear hb)
         (try clear hk)
         (try clear hi)
         refine hK.out _ _ ⟨(blk_cell BK195.out 0).trans rfl, (blk_cell BK195.out 1).trans rfl⟩ (fun hHeld => ?_)
         clear hK K
         refine nm ?_
         refine one_ (i := 5) (N := some 43) (bm 12 127) rfl rfl (one_of HT_.out (by kernel_rfl)) (by decide) (fun K hK => ?_)
         refine gs Try.func106 #[.pointer (some ⟨g, 0, none⟩)] ?_
         with_reducible refine (spec_l71Field.calls k1 g s0_0 t219 t220 t221 t222 t223 w0 _ ?side1 ?side2 A61.out).mono ?_
         (case side1 => exact zi139 HI0)
         (case side2 => exact zg139 HB)
         rintro e w67 ⟨rfl, hi, hb, hk⟩
         refine ⟨_, rfl, ?_⟩
         replace HO_196000 := Aside0.mk (Kd.R_mono (Kd.R_keep (IsS139.apart (show IsS139 w0 _ g s0_0 t219 from zi139 HI0) (zr HO_196000) (by decide)) hk (fun _ h => h.2)) (fun _ h => h.1))
         replace BK185 := Aside0.mk (KeepBut.blk hk (g' := gb185) (o := .cells #[.slice none 0 0, .int .i64 0] 25 (0, 0)) (zk BK185) NB185_0.out (by simp))
         replace BK195 := Aside0.mk (KeepBut.blk hk (g' := gb195) (o := .cells #[u196000, .int .i64 x196001_1] 25 (0, 0)) (zk BK195) NB195_0.out (by simp))
         replace HK := Aside0.mk (KeepBut.trans (zh HK) hk (.inl rfl))
         replace HB := Aside0.mk (hb)
         replace HI0 := Aside0.mk (hi)
         (try clear hb)
         (try clear hk)
         (try clear hi)
         refine hK.out _ _ ⟨(blk_cell BK195.out 0).trans rfl, (blk_cell BK195.out 1).trans rfl⟩ (fun hHeld => ?_)
         clear hK K
         refine nm ?_
         refine one_ (i := 7) (N := some 45) (bm 12 255) rfl rfl (one_of HT_.out (by kernel_rfl)) (by decide) (fun K hK => ?_)
         refine gs Try.func106 #[.pointer (some ⟨g, 0, none⟩)] ?_
         with_reducible refine (spec_l71Field.calls k1 g s0_0 t223 t224 t225 t226 t227 w0 _ ?side1 ?side2 A62.out).mono ?_
         (case side1 => exact zi139 HI0)
         (case side2 => exact zg139 HB)
         rintro e w68 ⟨rfl, hi, hb, hk⟩
         refine ⟨_, rfl, ?_⟩
         replace HO_196000 := Aside0.mk (Kd.R_mono (Kd.R_keep (IsS139.apart (show IsS139 w0 _ g s0_0 t223 from zi139 HI0) (zr HO_196000) (by decide)) hk (fun _ h => h.2)) (fun _ h => h.1))
         replace BK185 := Aside0.mk (KeepBut.blk hk (g' := gb185) (o := .cells #[.slice none 0 0, .int .i64 0] 25 (0, 0)) (zk BK185) NB185_0.out (by simp))
         replace BK195 := Aside0.mk (KeepBut.blk hk (g' := gb195) (o := .cells #[u196000, .int .i64 x196001_1] 25 (0, 0)) (zk BK195) NB195_0.out (by simp))
         replace HK := Aside0.mk (KeepBut.trans (zh HK) hk (.inl rfl))
         replace HB := Aside0.mk (hb)
         replace HI0 := Aside0.mk (hi)
         (try clear hb)
         (try clear hk)
         (try clear hi)
         refine hK.out _ _ ⟨(blk_cell BK195.out 0).trans rfl, (blk_cell BK195.out 1).trans rfl⟩ (fun hHeld => ?_)
         clear hK K
         refine nm ?_
         refine one_ (i := 8) (N := some 46) (bm 12 511) rfl rfl (one_of HT_.out (by kernel_rfl)) (by decide) (fun K hK => ?_)
         refine Kd.R_lit_step k88 _ 88 ?hg (N := 46) ?hd (xs := ([(⟨t216, t217, t218⟩ : S88), (⟨t220, t221, t222⟩ : S88), (⟨t224, t225, t226⟩ : S88)] : List (S88))) (inner := [.string t216, .string t217, .bool t218, .string t220, .string t221, .bool t222, .string t224, .string t225, .bool t226]) (ok := fun _ => True) (okp := fun _ => True) ?hr ?hp (fun _ hk => hk) trivial (Below.refl _ _) (Nat.le_refl _) (by simp) ?_; (case hd => rfl); (case hg => rfl); (case hr => first | (go_simp; done) | (go_simp; rfl)); (case hp => exact (Reps.c3 (show Kd.M k88 _ _ _ (⟨t216, t217, t218⟩ : S88) [.string t216, .string t217, .bool t218] from (k88_mkM _ _ _ (⟨t216, t217, t218⟩ : S88) )) (Reps.c3 (show Kd.M k88 _ _ _ (⟨t220, t221, t222⟩ : S88) [.string t220, .string t221, .bool t222] from (k88_mkM _ _ _ (⟨t220, t221, t222⟩ : S88) )) (Reps.c3 (show Kd.M k88 _ _ _ (⟨t224, t225, t226⟩ : S88) [.string t224, .string t225, .bool t226] from (k88_mkM _ _ _ (⟨t224, t225, t226⟩ : S88) )) (Reps.none _ _)))))
         intro v229 w69 ho70 hb hg_ hnew_
         clear hg_ hnew_
         (first | rw [← Ny228.out] at ho70 | (simp only [Int.reduceToNat] at ho70; rw [← Ny228.out] at ho70))
         have HO230 := Aside0.mk (Kd.R_lower (Kd.R_new' ho70 (Kd.R_lt (zr HO_196000))) (keep_size (w := w) (g := g) (row := none) (zh HK)))
         replace HO_196000 := Aside0.mk (Kd.R_elder' (zr HO_196000) (Kd.R_base ho70) hb)
         replace BK185 := kb BK185 hb
         replace BK195 := kb BK195 hb
         replace HI0 := Aside0.mk (IsS139.below (zi139 HI0) hb)
         replace HK := Aside0.mk (KeepBut.trans (zh HK) (KeepBut.of_below hb g none) (.inl rfl))
         replace HB := Aside0.mk (below_step (zg139 HB) hb)
         clear hb ho70
         obtain ⟨Ao72, co72, eo72⟩ := Kd.R_slice HO230.out
         (first | subst eo72 | (injection eo72 with f1_ f2_ f3_; have f4_ := f1_.symm; have f5_ := f3_.symm; clear f1_ f2_ f3_; subst f4_; subst f5_))
         refine hK.out _ _ ⟨(blk_cell BK195.out 0).trans rfl, (blk_cell BK195.out 1).trans rfl⟩ (fun hHeld => ?_)
         clear hK K
         refine nm ?_
         refine one_ (i := 9) (N := some 47) (bm 12 1023) rfl rfl (one_of HT_.out (by kernel_rfl)) (by decide) (fun K hK => ?_)
         refine Kd.R_append_rows_step k88 w.heap.size (by rfl) (.tmp 39) (.tmp 46) 23 88 (.agg #[(.string ⟨#[]⟩), (.string ⟨#[]⟩), (.bool false)]) 40 rfl Try.underlying23 info88 rfl (by decide) (by omega) u196000 x196000_1 y228 _ _ _ (fun k_ => some k_ ≠ (.slice Ao72 y228.length co72 : Value).ownBlock) (fun _ => False) rfl rfl ?aO ?aR (fun _ _ h => h) (fun _ h => h.elim) ?aF (Below.refl _ _) ?aS ?aL ?_
         (case aR => exact zc (Kd.R_reads' HO230.out).2.2)
         (case aF => exact (fun k_ hk => Kd.fresh' (Kd.R_lt (zr HO230)) k_ hk))
         (case aO => exact (by (with_reducible repeat (first | apply Kd.R_alloc | apply Kd.R_drewN | apply Kd.R_drew)); exact Kd.R_mono HO_196000.out (fun _ hk => hk.2)))
         (case aS => exact (keep_size (w := w) (g := g) (row := none) (zh HK)))
         (case aL => have := LMc63.out; omega)
         intro v232 w71 ho hb hg hat
         rw [← Ny231.out] at ho
         replace BK185 := Aside0.mk (blk_grown (zk BK185) hg (Kd.R_ne HO_196000.out BK185.out (by decide)))
         replace BK195 := Aside0.mk (blk_grown (zk BK195) hg (Kd.R_ne HO_196000.out BK195.out (by decide)))
         replace HI0 := Aside0.mk (IsS139.grown (zi139 HI0) hg (IsS139.own_ne HI0.out HO_196000.out (by decide)))
         replace HO230 := Aside0.mk (Kd.R_after (ok := (fun _ => True)) (zr HO230) hg hat)
         replace HB := Aside0.mk (below_weaken (zg139 HB) HL.out hb)
         replace HK := Aside0.mk (KeepBut.trans (zh HK) (KeepBut.of_grown hg g) (Kd.R_base2 HO_196000.out))
         have HO233 := Aside0.mk (ho)
         clear HO_196000
         clear ho hb hg hat
         obtain ⟨Ao73, co73, eo73⟩ := Kd.R_slice HO233.out
         (first | subst eo73 | (injection eo73 with f1_ f2_ f3_; have f4_ := f1_.symm; have f5_ := f3_.symm; clear f1_ f2_ f3_; subst f4_; subst f5_))
         refine hK.out _ _ ⟨(blk_cell BK195.out 0).trans rfl, (blk_cell BK195.out 1).trans rfl⟩ (fun hHeld => ?_)
         clear hK K
         refine nm ?_
         refine pu 10 (some 48) (bm 12 2047) rfl rfl ?_
         refine last_ (i := 11) (N := none) #[true, true, true, true, true, true, true, true, true, true, true, true] rfl rfl (one_of HT_.out (by kernel_rfl)) (by decide) (fun K hK => ?_)
         have hs74 : w71.cell? ⟨gb195, 0, none⟩ = some (u196000) := (blk_cell BK195.out 0).trans rfl
         have hfs74 := blk_frozen BK195.out 0
         have hns74_0 := NB185_195.out
         have hms74_0 := NB195_185.out
         refine skip_ (w1 := ?_) (by rfl) rfl ?_ ?_
         rotate_left
         ·go_simp
          rfl
         refine hK.out _ _ ?_
         clear hK K
         refine done_ (done_of HT_.out (by kernel_rfl)) ?_
         have hnb75 := NB195_185.out
         have hnc75 := NB185_195.out
         have hnb76 := NB195_0.out
         have hnc76 := NB0_195.out
         obtain ⟨hcz77_0, hcz77_1, hfz77_0, hfz77_1⟩ := c2 BK195
         have hnb78 := NB185_0.out
         have hnc78 := NB0_185.out
         obtain ⟨hcz79_0, hcz79_1, hfz79_0, hfz79_1⟩ := c2 BK185
         try go_wp2
         refine bodyPost_ret (results_cell_row rfl _ _ gb185 25 #[.slice Ao73 y231.length co73, .int .i64 x196001_1] (0, 0) _ rfl (by (with_reducible repeat (first | refine blk_drewN ?_ _ | refine blk_drew ?_ | refine blk_alloc ?_ _)); refine blk_put (cs := #[.slice Ao73 y231.length co73, .int .i64 0]) ?_ 1 _ rfl; (with_reducible repeat (first | refine blk_drewN ?_ _ | refine blk_drew ?_ | refine blk_alloc ?_ _)); refine blk_put (cs := #[.slice none 0 0, .int .i64 0]) ?_ 0 _ rfl; (with_reducible repeat (first | refine blk_drewN ?_ _ | refine blk_drew ?_ | refine blk_alloc ?_ _)); refine blk_far ?_ NB185_195.out _; exact zk BK185) Try.underlying25 rfl (by kernel_rfl)) rfl ?_
         exact ⟨_, ze, by (with_reducible repeat (first | apply Kd.R_alloc | apply Kd.R_drewN | apply Kd.R_drew)); exact Kd.R_mono (Kd.R_far (p := ⟨gb185, 1, none⟩) (Kd.R_far (p := ⟨gb185, 0, none⟩) (Kd.R_far (p := ⟨gb195, 0, none⟩) (Kd.R_types (Kd.R_types HO233.out BK195.out (by decide)) BK185.out (by decide)) (fun _ hk => hk.1.2) (.slice Ao73 y231.length co73)) (fun _ hk => hk.2) (.slice Ao73 y231.length co73)) (fun _ hk => hk.2) (.int .i64 x196001_1)) (fun _ hk => trivial), zi139 HI0, zg139 HB, zh HK⟩
        ·rw [if_neg c63] at H
         exact absurd H (by simp)
       ·rw [if_neg c59] at H
        have c59b0 : (t208 == 1) = false := beq_eq_false_iff_ne.mpr c59
        have c59b1 : (t208 != 1) = true := bne_iff_ne.mpr c59
        simp only [Option.some.injEq, Prod.mk.injEq] at H
        obtain ⟨rfl, rfl, rfl⟩ := H
        go_wp2_with (first | ((with_reducible refine gq 74 rfl ?_); refine gl (some 27) Try.func74 #[.pointer (some ⟨g, 0, none⟩), .int .i64 24] ?_; (with_reducible refine (spec_l6Rd_pick.calls k1 g s0_0 x1001_1 24 t208 t209 w0 _ ?side1 ?side2 A43.out).mono ?_); (case side1 => exact zi139 HI0); (case side2 => exact zg139 HB); rintro e w80 ⟨rfl, hi, hb, hk⟩; refine ⟨_, rfl, ?_⟩; replace HO_196000 := Aside0.mk (Kd.R_mono (Kd.R_keep (IsS139.apart (show IsS139 w0 _ g s0_0 x1001_1 from zi139 HI0) (zr HO_196000) (by decide)) hk (fun _ h => h.2)) (fun _ h => h.1)); replace BK185 := Aside0.mk (KeepBut.blk hk (g' := gb185) (o := .cells #[.slice none 0 0, .int .i64 0] 25 (0, 0)) (zk BK185) NB185_0.out (by simp)); replace BK195 := Aside0.mk (KeepBut.blk hk (g' := gb195) (o := .cells #[u196000, .int .i64 x196001_1] 25 (0, 0)) (zk BK195) NB195_0.out (by simp)); replace HK := Aside0.mk (KeepBut.trans (zh HK) hk (.inl rfl)); replace HB := Aside0.mk (hb); replace HI0 := Aside0.mk (hi); (try clear hb); (try clear hk); (try clear hi); have hnb81 := NB195_185.out; have hnc81 := NB185_195.out; have hnb82 := NB195_0.out; have hnc82 := NB0_195.out; obtain ⟨hcz83_0, hcz83_1, hfz83_0, hfz83_1⟩ := c2 BK195; obtain ⟨Ao84, co84, eo84⟩ := Kd.R_slice HO_196000.out; subst eo84; have hnb85 := NB185_0.out; have hnc85 := NB0_185.out; obtain ⟨hcz86_0, hcz86_1, hfz86_0, hfz86_1⟩ := c2 BK185))
        refine bodyPost_ret (results_cell_row rfl _ _ gb185 25 #[.slice Ao84 x196000_1.length co84, .int .i64 x196001_1] (0, 0) _ rfl (by (with_reducible repeat (first | refine blk_drewN ?_ _ | refine blk_drew ?_ | refine blk_alloc ?_ _)); refine blk_put (cs := #[.slice Ao84 x196000_1.length co84, .int .i64 0]) ?_ 1 _ rfl; (with_reducible repeat (first | refine blk_drewN ?_ _ | refine blk_drew ?_ | refine blk_alloc ?_ _)); refine blk_put (cs := #[.slice none 0 0, .int .i64 0]) ?_ 0 _ rfl; exact zk BK185) Try.underlying25 rfl (by kernel_rfl)) rfl ?_
        exact ⟨_, ze, by (with_reducible repeat (first | apply Kd.R_alloc | apply Kd.R_drewN | apply Kd.R_drew)); exact Kd.R_mono (Kd.R_far (p := ⟨gb185, 1, none⟩) (Kd.R_far (p := ⟨gb185, 0, none⟩) (Kd.R_types HO_196000.out BK185.out (by decide)) (fun _ hk => hk.2) (.slice Ao84 x196000_1.length co84)) (fun _ hk => hk.2) (.int .i64 x196001_1)) (fun _ hk => trivial), zi139 HI0, zg139 HB, zh HK⟩
  ·rw [if_neg c4] at H
   exact absurd H (by simp)
 ·skip
  exact absurd H (by simp)

/-! ### spec_l71Head: function 51 -/
-- thin
mutual
def spec_l71Head.l0 : Nat → List (S88) → Int → List Int → Int → Option ((List (S88)) × Int)
 | 0, _, _, _, _ => none
 | k + 1, x3, x4, x1000, x1001 => if x4 > 0 then ((spec_l71Field.f k x1000 x1001).bind fun bt239 => (if x3.length < 3518437208883 then (spec_l71Head.l0 k (x3 ++ [(⟨bt239.1, bt239.2.1, bt239.2.2.1⟩ : S88)]) (wrap64 (x4 - 1)) x1000 bt239.2.2.2) else (none))) else ((spec_l6Rd_pick.f k x1000 x1001 24).bind fun bt246 => (if bt246.1 = 0 then (spec_l71Head.l1 k x3 x1000 bt246.2) else (some (x3, bt246.2))))
def spec_l71Head.l1 : Nat → List (S88) → List Int → Int → Option ((List (S88)) × Int)
 | 0, _, _, _ => none
 | k + 1, x3, x1000, x1001 => if (x3.length : Int) ≤ 6 then (if x3.length < 3518437208883 then (spec_l71Head.l1 k (x3 ++ [(⟨(⟨#[116, 101]⟩ : ByteArray), (⟨#[]⟩ : ByteArray), false⟩ : S88)]) x1000 x1001) else (none)) else (some (x3, x1001))
end
def spec_l71Head.f (k : Nat) (s0_0 : List Int) (s0_1 : Int) : Option ((List (S88)) × Int) := (spec_l6Rd_pick.f k s0_0 s0_1 6).bind fun bt237 => (spec_l71Head.l0 k (([] : List (S88))) bt237.1 s0_0 bt237.2)
theorem spec_l71Head.mono_l : ∀ k, (∀ y0 y1 y2 y3, LeO (spec_l71Head.l0 k y0 y1 y2 y3) (spec_l71Head.l0 (k + 1) y0 y1 y2 y3)) ∧ (∀ y0 y1 y2, LeO (spec_l71Head.l1 k y0 y1 y2) (spec_l71Head.l1 (k + 1) y0 y1 y2))
 | 0 => ⟨fun _ _ _ _ r h => by simp [spec_l71Head.l0] at h, fun _ _ _ r h => by simp [spec_l71Head.l1] at h⟩
 | k + 1 => by
  obtain ⟨ih0, ih1⟩ := spec_l71Head.mono_l k
  refine ⟨?_, ?_⟩
  ·intro y0 y1 y2 y3
   unfold spec_l71Head.l0
   have m0 := @spec_l6Rd_pick.mono
   have m1 := @spec_l71Field.mono
   exact zm
  ·intro y0 y1 y2
   unfold spec_l71Head.l1
   have m0 := @spec_l6Rd_pick.mono
   have m1 := @spec_l71Field.mono
   exact zm
theorem spec_l71Head.mono : ∀ a0 a1 k, LeO (spec_l71Head.f k a0 a1) (spec_l71Head.f (k + 1) a0 a1) := by
 intro a0 a1 k
 obtain ⟨ih0, ih1⟩ := spec_l71Head.mono_l k
 unfold spec_l71Head.f
 have m0 := @spec_l6Rd_pick.mono
 have m1 := @spec_l71Field.mono
 exact zm
set_option maxHeartbeats 8000000 in
set_option maxRecDepth 100000 in
theorem spec_l71Head.calls (k : Nat) (g : Nat) (s0_0 : List Int) (s0_1 : Int) (r1 : List (S88)) (r2 : Int) (w0 w : World) (hI : IsS139 w0 w g s0_0 s0_1) (hB : Below w0.heap.size w0 w) (h : spec_l71Head.f k s0_0 s0_1 = some (r1, r2)) :
  Calls Try.prog 51 #[.pointer (some ⟨g, 0, none⟩)] w fun e w' => ∃ v0_ : Value, e = .returned (v0_) ∧ Kd.R k88 88 w' w.heap.size (fun _ => True) v0_ r1 ∧ IsS139 w0 w' g s0_0 r2 ∧ Below w0.heap.size w0 w' ∧ KeepBut w w' g none := by
 have hu88 := Try.underlying88
 have HI0 := Aside0.mk hI
 have HK := Aside0.mk (KeepBut.refl w g none)
 have HL := Aside0.mk hB.size
 clear hI
 have HW0 := Aside0.mk hB.size
 have HB := Aside0.mk hB
 clear hB
 have H : ((spec_l6Rd_pick.f k s0_0 s0_1 6).bind fun bt237 => (spec_l71Head.l0 k (([] : List (S88))) bt237.1 s0_0 bt237.2)) = some (r1, r2) := h
 clear h
 obtain ⟨y234, hy234⟩ : ∃ y_ : List (S88), y_ = (([] : List (S88))) := ⟨_, rfl⟩
 replace H : ((spec_l6Rd_pick.f k s0_0 s0_1 6).bind fun bt237 => (spec_l71Head.l0 k y234 bt237.1 s0_0 bt237.2)) = some (r1, r2) := by first | (rw [hy234]; with_reducible exact H) | (have H2_ := (Option.bind_some _ _).symm.trans H; rw [hy234]; with_reducible exact H2_) | (have H2_ := (Option.bind_some _ _).symm.trans H; with_reducible exact H2_) | with_reducible exact H | (rw [hy234]; exact H) | exact H
 have Ny234 := Aside0.mk hy234
 clear hy234
 obtain ⟨⟨t237, t238⟩, A2, H⟩ := ob H
 (try dsimp only at H)
 have H' := Aside0.mk H
 clear H
 go_enter Try.func51, Try.ntmps51
 go_wp2_with (first | ((with_reducible refine gd 5 rfl ?_); refine Kd.R_lit k88 _ 88 ?hg (N := 5) ?hd (xs := ([] : List (S88))) (inner := []) (ok := fun _ => True) (okp := fun _ => True) ?hr ?hp (fun _ hk => hk) trivial (Below.refl _ _) (Nat.le_refl _) (by simp) ?_; (case hd => rfl); (case hg => rfl); (case hr => first | (go_simp; done) | (go_simp; rfl)); (case hp => exact (Reps.none _ _)); intro v235 w3 ho4 hb hg_ hnew_; clear hg_ hnew_; (first | rw [← Ny234.out] at ho4 | (simp only [Int.reduceToNat] at ho4; rw [← Ny234.out] at ho4)); have HO236 := Aside0.mk (Kd.R_lower ho4 (keep_size (w := w) (g := g) (row := none) (zh HK))); replace HI0 := Aside0.mk (IsS139.below (zi139 HI0) hb); replace HK := Aside0.mk (KeepBut.trans (zh HK) (KeepBut.of_below hb g none) (.inl rfl)); replace HB := Aside0.mk (below_step (zg139 HB) hb); clear hb ho4) | ((with_reducible refine gq 74 rfl ?_); refine gl (some 7) Try.func74 #[.pointer (some ⟨g, 0, none⟩), .int .i64 6] ?_; (with_reducible refine (spec_l6Rd_pick.calls k g s0_0 s0_1 6 t237 t238 w0 _ ?side1 ?side2 A2.out).mono ?_); (case side1 => exact zi139 HI0); (case side2 => exact zg139 HB); rintro e w5 ⟨rfl, hi, hb, hk⟩; refine ⟨_, rfl, ?_⟩; replace HO236 := Aside0.mk (Kd.R_mono (Kd.R_keep (IsS139.apart (show IsS139 w0 _ g s0_0 s0_1 from zi139 HI0) (zr HO236) (by decide)) hk (fun _ h => h.2)) (fun _ h => h.1)); replace HK := Aside0.mk (KeepBut.trans (zh HK) hk (.inl rfl)); replace HB := Aside0.mk (hb); replace HI0 := Aside0.mk (hi); (try clear hb); (try clear hk); (try clear hi)))
 go_loopg [3, 4] k (fun kq v3 v4 w' => ∃ (x3_1 : List (S88)) (x4_1 : Int) (x1001_1 : Int), v4 = .int .i64 x4_1 ∧ Aside0 (spec_l71Head.l0 kq x3_1 x4_1 s0_0 x1001_1 = some (r1, r2)) ∧ Aside0 (kq ≤ k) ∧ Aside0 (Kd.R k88 88 w' w.heap.size (fun _ => True) v3 x3_1) ∧ Aside0 (IsS139 w0 w' g s0_0 x1001_1) ∧ Aside0 (KeepBut w w' g none) ∧ Aside0 (Below w0.heap.size w0 w'))
 case atStart => exact ⟨(y234), (t237), (t238), zs, H', ⟨Nat.le_refl _⟩, ⟨by exact zr HO236⟩, ⟨zi139 HI0⟩, ⟨zh HK⟩, ⟨zg139 HB⟩⟩
 case round =>
  clear H'
  try clear p2
  try clear c5
  obtain ⟨x3_1, x4_1, x1001_1, rfl, HA, HK1, HO_3, HI0, HK, HB⟩ := hrel
  cases gk with
  | zero => exact absurd HA.out (by simp [spec_l71Head.l0])
  | succ k1 =>
   have H := HA.out
   clear HA
   simp only [spec_l71Head.l0] at H
   replace H := sp H
   rcases H with ⟨c6, H⟩ | ⟨c6, H⟩
   ·skip
    have c6b0 := decide_eq_true c6
    clear c6
    obtain ⟨⟨t239, t240, t241, t242⟩, A7, H⟩ := ob H
    (try dsimp only at H)
    by_cases c8 : x3_1.length < 3518437208883
    ·rw [if_pos c8] at H
     have LMc8 := Aside0.mk c8
     clear c8
     obtain ⟨y243, hy243⟩ : ∃ y_ : List (S88), y_ = (x3_1 ++ [(⟨t239, t240, t241⟩ : S88)]) := ⟨_, rfl⟩
     replace H : (spec_l71Head.l0 k1 y243 (wrap64 (x4_1 - 1)) s0_0 t242) = some (r1, r2) := by first | (rw [hy243]; with_reducible exact H) | (have H2_ := (Option.bind_some _ _).symm.trans H; rw [hy243]; with_reducible exact H2_) | (have H2_ := (Option.bind_some _ _).symm.trans H; with_reducible exact H2_) | with_reducible exact H | (rw [hy243]; exact H) | exact H
     have Ny243 := Aside0.mk hy243
     clear hy243
     have H' := Aside0.mk H
     clear H
     go_wp2_with (first | ((with_reducible refine gq 106 rfl ?_); refine gl (some 14) Try.func106 #[.pointer (some ⟨g, 0, none⟩)] ?_; (with_reducible refine (spec_l71Field.calls k1 g s0_0 x1001_1 t239 t240 t241 t242 w0 _ ?side1 ?side2 A7.out).mono ?_); (case side1 => exact zi139 HI0); (case side2 => exact zg139 HB); rintro e w9 ⟨rfl, hi, hb, hk⟩; refine ⟨_, rfl, ?_⟩; replace HO_3 := Aside0.mk (Kd.R_mono (Kd.R_keep (IsS139.apart (show IsS139 w0 _ g s0_0 x1001_1 from zi139 HI0) (zr HO_3) (by decide)) hk (fun _ h => h.2)) (fun _ h => h.1)); replace HK := Aside0.mk (KeepBut.trans (zh HK) hk (.inl rfl)); replace HB := Aside0.mk (hb); replace HI0 := Aside0.mk (hi); (try clear hb); (try clear hk); (try clear hi)) | ((with_reducible refine gate_builtin (b := .append) (xs := #[.tmp 12, .tmp 15]) rfl ?_); at_builtin; refine Kd.R_append k88 w.heap.size rfl (.tmp 12) (.tmp 15) 23 88 (.agg #[(.string ⟨#[]⟩), (.string ⟨#[]⟩), (.bool false)]) 40 rfl Try.underlying23 info88 rfl (by decide) (by omega) u3 x3_1 (⟨t239, t240, t241⟩ : S88) [.string t239, .string t240, .bool t241] (fun _ => True) (fun _ => False) rfl rfl ?aP (fun _ hk => hk.elim) ?aF ?aO (Below.refl _ _) ?aS ?aL ?_; (case aP => exact k88_mkM _ _ _ (⟨t239, t240, t241⟩ : S88)); (case aF => exact (fun _ _ => trivial)); (case aO => exact (zr HO_3)); (case aS => exact (keep_size (w := w) (g := g) (row := none) (zh HK))); (case aL => have := LMc8.out; omega); intro v244 w10 ho hb hg hat; rw [← Ny243.out] at ho; replace HI0 := Aside0.mk (IsS139.grown (zi139 HI0) hg (IsS139.own_ne HI0.out HO_3.out (by decide))); replace HB := Aside0.mk (below_weaken (zg139 HB) HL.out hb); replace HK := Aside0.mk (KeepBut.trans (zh HK) (KeepBut.of_grown hg g) (Kd.R_base2 HO_3.out)); have HO245 := Aside0.mk (ho); clear HO_3; clear ho hb hg hat))
     go_roundg k1
     case measure => have := HK1.out; omega
     case rel => exact ⟨(y243), (wrap64 (x4_1 - 1)), (t242), zs, H', ⟨by have := HK1.out; omega⟩, ⟨by exact zr HO245⟩, ⟨zi139 HI0⟩, ⟨zh HK⟩, ⟨zg139 HB⟩⟩
    ·rw [if_neg c8] at H
     exact absurd H (by simp)
   ·skip
    have c6b0 := decide_eq_false c6
    clear c6
    obtain ⟨⟨t246, t247⟩, A11, H⟩ := ob H
    (try dsimp only at H)
    replace H := sp H
    rcases H with ⟨c12, H⟩ | ⟨c12, H⟩
    ·skip
     have c12b0 : (t246 == 0) = true := beq_iff_eq.mpr c12
     have c12b1 : (t246 != 0) = false := bne_eq_false_iff_eq.mpr c12
     clear c12
     have H' := Aside0.mk H
     clear H
     go_wp2_with (first | ((with_reducible refine gq 74 rfl ?_); refine gl (some 18) Try.func74 #[.pointer (some ⟨g, 0, none⟩), .int .i64 24] ?_; (with_reducible refine (spec_l6Rd_pick.calls k1 g s0_0 x1001_1 24 t246 t247 w0 _ ?side1 ?side2 A11.out).mono ?_); (case side1 => exact zi139 HI0); (case side2 => exact zg139 HB); rintro e w13 ⟨rfl, hi, hb, hk⟩; refine ⟨_, rfl, ?_⟩; replace HO_3 := Aside0.mk (Kd.R_mono (Kd.R_keep (IsS139.apart (show IsS139 w0 _ g s0_0 x1001_1 from zi139 HI0) (zr HO_3) (by decide)) hk (fun _ h => h.2)) (fun _ h => h.1)); replace HK := Aside0.mk (KeepBut.trans (zh HK) hk (.inl rfl)); replace HB := Aside0.mk (hb); replace HI0 := Aside0.mk (hi); (try clear hb); (try clear hk); (try clear hi)))
     go_loopg [3] k1 (fun kq v3 w' => ∃ (x3_2 : List (S88)), Aside0 (spec_l71Head.l1 kq x3_2 s0_0 t247 = some (r1, r2)) ∧ Aside0 (kq ≤ k1) ∧ Aside0 (Kd.R k88 88 w' w.heap.size (fun _ => True) v3 x3_2) ∧ Aside0 (IsS139 w0 w' g s0_0 t247) ∧ Aside0 (KeepBut w w' g none) ∧ Aside0 (Below w0.heap.size w0 w'))
     case atStart => exact ⟨(x3_1), H', ⟨Nat.le_refl _⟩, ⟨by exact zr HO_3⟩, ⟨zi139 HI0⟩, ⟨zh HK⟩, ⟨zg139 HB⟩⟩
     case round =>
      clear H'
      try clear c1
      try clear p2
      try clear c5
      try clear c6
      try clear c6b0
      try clear p6
      try clear c7
      try clear c8
      try clear c10
      try clear c12
      try clear c12b0
      try clear c12b1
      try clear p2
      obtain ⟨x3_2, HA, HK2, HO_3, HI0, HK, HB⟩ := hrel
      cases gk with
      | zero => exact absurd HA.out (by simp [spec_l71Head.l1])
      | succ k2 =>
       have H := HA.out
       clear HA
       simp only [spec_l71Head.l1] at H
       by_cases c14 : (x3_2.length : Int) ≤ 6
       ·rw [if_pos c14] at H
        have c14b0 := decide_eq_true c14
        have c14b1 := decide_eq_true (by omega)
        clear c14
        by_cases c15 : x3_2.length < 3518437208883
        ·rw [if_pos c15] at H
         have LMc15 := Aside0.mk c15
         clear c15
         obtain ⟨y248, hy248⟩ : ∃ y_ : List (S88), y_ = (x3_2 ++ [(⟨(⟨#[116, 101]⟩ : ByteArray), (⟨#[]⟩ : ByteArray), false⟩ : S88)]) := ⟨_, rfl⟩
         replace H : (spec_l71Head.l1 k2 y248 s0_0 t247) = some (r1, r2) := by first | (rw [hy248]; with_reducible exact H) | (have H2_ := (Option.bind_some _ _).symm.trans H; rw [hy248]; with_reducible exact H2_) | (have H2_ := (Option.bind_some _ _).symm.trans H; with_reducible exact H2_) | with_reducible exact H | (rw [hy248]; exact H) | exact H
         have Ny248 := Aside0.mk hy248
         clear hy248
         have H' := Aside0.mk H
         clear H
         obtain ⟨Ao16, co16, eo16⟩ := Kd.R_slice HO_3.out
         subst eo16
         go_wp2_with (first | ((with_reducible refine gate_builtin (b := .append) (xs := #[.tmp 23, .tmp 25]) rfl ?_); at_builtin; refine Kd.R_append k88 w.heap.size rfl (.tmp 23) (.tmp 25) 23 88 (.agg #[(.string ⟨#[]⟩), (.string ⟨#[]⟩), (.bool false)]) 40 rfl Try.underlying23 info88 rfl (by decide) (by omega) (.slice Ao16 x3_2.length co16) x3_2 (⟨(⟨#[116, 101]⟩ : ByteArray), (⟨#[]⟩ : ByteArray), false⟩ : S88) [.string (⟨#[116, 101]⟩ : ByteArray), .string (⟨#[]⟩ : ByteArray), .bool false] (fun _ => True) (fun _ => False) rfl rfl ?aP (fun _ hk => hk.elim) ?aF ?aO (Below.refl _ _) ?aS ?aL ?_; (case aP => exact k88_mkM _ _ _ (⟨(⟨#[116, 101]⟩ : ByteArray), (⟨#[]⟩ : ByteArray), false⟩ : S88)); (case aF => exact (fun _ _ => trivial)); (case aO => exact (zr HO_3)); (case aS => exact (keep_size (w := w) (g := g) (row := none) (zh HK))); (case aL => have := LMc15.out; omega); intro v249 w17 ho hb hg hat; rw [← Ny248.out] at ho; replace HI0 := Aside0.mk (IsS139.grown (zi139 HI0) hg (IsS139.own_ne HI0.out HO_3.out (by decide))); replace HB := Aside0.mk (below_weaken (zg139 HB) HL.out hb); replace HK := Aside0.mk (KeepBut.trans (zh HK) (KeepBut.of_grown hg g) (Kd.R_base2 HO_3.out)); have HO250 := Aside0.mk (ho); clear HO_3; clear ho hb hg hat))
         go_roundg k2
         case measure => have := HK1.out; have := HK2.out; omega
         case rel => exact ⟨(y248), H', ⟨by have := HK1.out; have := HK2.out; omega⟩, ⟨by exact zr HO250⟩, ⟨zi139 HI0⟩, ⟨zh HK⟩, ⟨zg139 HB⟩⟩
        ·rw [if_neg c15] at H
         exact absurd H (by simp)
       ·rw [if_neg c14] at H
        have c14b0 := decide_eq_false c14
        have c14b1 := decide_eq_false (by omega)
        clear c14
        simp only [Option.some.injEq, Prod.mk.injEq] at H
        obtain ⟨rfl, rfl⟩ := H
        obtain ⟨Ao18, co18, eo18⟩ := Kd.R_slice HO_3.out
        subst eo18
        go_wp2
        go_ret
        exact ⟨_, ze, by (with_reducible repeat (first | apply Kd.R_alloc | apply Kd.R_drewN | apply Kd.R_drew)); exact HO_3.out, zi139 HI0, zg139 HB, zh HK⟩
    ·skip
     have c12b0 : (t246 == 0) = false := beq_eq_false_iff_ne.mpr c12
     have c12b1 : (t246 != 0) = true := bne_iff_ne.mpr c12
     simp only [Option.some.injEq, Prod.mk.injEq] at H
     obtain ⟨rfl, rfl⟩ := H
     go_wp2_with (first | ((with_reducible refine gq 74 rfl ?_); refine gl (some 18) Try.func74 #[.pointer (some ⟨g, 0, none⟩), .int .i64 24] ?_; (with_reducible refine (spec_l6Rd_pick.calls k1 g s0_0 x1001_1 24 t246 t247 w0 _ ?side1 ?side2 A11.out).mono ?_); (case side1 => exact zi139 HI0); (case side2 => exact zg139 HB); rintro e w19 ⟨rfl, hi, hb, hk⟩; refine ⟨_, rfl, ?_⟩; replace HO_3 := Aside0.mk (Kd.R_mono (Kd.R_keep (IsS139.apart (show IsS139 w0 _ g s0_0 x1001_1 from zi139 HI0) (zr HO_3) (by decide)) hk (fun _ h => h.2)) (fun _ h => h.1)); replace HK := Aside0.mk (KeepBut.trans (zh HK) hk (.inl rfl)); replace HB := Aside0.mk (hb); replace HI0 := Aside0.mk (hi); (try clear hb); (try clear hk); (try clear hi)))
     go_ret
     exact ⟨_, ze, by (with_reducible repeat (first | apply Kd.R_alloc | apply Kd.R_drewN | apply Kd.R_drew)); exact HO_3.out, zi139 HI0, zg139 HB, zh HK⟩

/-! ### spec_DrawHeadWrite: function 11 -/
-- thin
def spec_DrawHeadWrite.f (k : Nat) (l0 : List Int) : Option ((List (S88)) × Int × (List (S88))) := (spec_l6Open.f l0).bind fun bt252 => ((spec_l71Table.f k bt252.1 bt252.2).bind fun bt255 => ((spec_l71Head.f k bt252.1 bt255.2.2).bind fun bt260 => (some (bt255.1, bt255.2.1, bt260.1))))
theorem spec_DrawHeadWrite.mono : ∀ a0 k, LeO (spec_DrawHeadWrite.f k a0) (spec_DrawHeadWrite.f (k + 1) a0) := by
 intro a0 k
 unfold spec_DrawHeadWrite.f
 have m0 := @spec_l71Head.mono
 have m1 := @spec_l71Table.mono
 exact zm
set_option maxHeartbeats 8000000 in
set_option maxRecDepth 100000 in
theorem spec_DrawHeadWrite.calls (k : Nat) (A0 : Option Addr) (c0 : Nat) (l0 : List Int) (r1 : List (S88)) (r2 : Int) (r3 : List (S88)) (w : World) (hr0 : Kd.C (Kd.int .u8) w A0 l0.length l0) (hc0 : l0.length ≤ c0) (h : spec_DrawHeadWrite.f k l0 = some (r1, r2, r3)) :
  Calls Try.prog 11 #[.slice A0 l0.length c0] w fun e w' => ∃ v0_ v2_ : Value, e = .returned (.tuple #[.agg #[v0_, .int .i64 r2], v2_]) ∧ Kd.R k88 88 w' w.heap.size (fun k_ => some k_ ≠ (v2_ : Value).ownBlock) v0_ r1 ∧ Kd.R k88 88 w' w.heap.size (fun k_ => some k_ ≠ (v0_ : Value).ownBlock) v2_ r3 ∧ Below w.heap.size w w' := by
 have hu25 := Try.underlying25
 have HR0 := Aside0.mk hr0
 have HC0 := Aside0.mk hc0
 clear hr0 hc0
 have HB := Aside0.mk (Below.refl w.heap.size w)
 have H : ((spec_l6Open.f l0).bind fun bt252 => ((spec_l71Table.f k bt252.1 bt252.2).bind fun bt255 => ((spec_l71Head.f k bt252.1 bt255.2.2).bind fun bt260 => (some (bt255.1, bt255.2.1, bt260.1))))) = some (r1, r2, r3) := h
 clear h
 obtain ⟨⟨t252, t253⟩, A2, H⟩ := ob H
 (try dsimp only at H)
 obtain ⟨⟨t255, t258, t259⟩, A3, H⟩ := ob H
 (try dsimp only at H)
 obtain ⟨⟨t260, t263⟩, A4, H⟩ := ob H
 (try dsimp only at H)
 simp only [Option.some.injEq, Prod.mk.injEq] at H
 obtain ⟨rfl, rfl, rfl⟩ := H
 go_enter Try.func11, Try.ntmps11
 go_wp2_with (first | ((with_reducible refine gd 2 rfl ?_); refine bx (N := 2) (cs := #[.slice none 0 0, .int .i64 0]) (t := 25) ?_; intro gb251 hg w5 hbox hb; have BK251 := Aside0.mk (hbox); have GW251 := gw HB hg; have GE251 := GW251; replace HB := Aside0.mk (below_step (zb HB) hb); clear hb hbox hg) | ((with_reducible refine gq 49 rfl ?_); refine gl (some 6) Try.func49 #[.slice A0 l0.length c0] ?_; (with_reducible refine (spec_l6Open.calls _ _ l0 t252 t253 w _ ?side1 ?side2 ?side3 A2.out).mono ?_); (case side1 => exact zb HB); (case side2 => exact HR0.out); (case side3 => exact HC0.out); rintro e w6 ⟨g254, rfl, hi, hb, hb2⟩; refine ⟨_, rfl, ?_⟩; replace HB := Aside0.mk (hb); have HI254 := Aside0.mk (hi); have NB254_251 := Aside0.mk (IsS139.ne_blk hi (blk_below (zk BK251) hb2) (by decide)); have NB251_254 := Aside0.mk (Ne.symm (IsS139.ne_blk hi (blk_below (zk BK251) hb2) (by decide))); replace BK251 := Aside0.mk (blk_below (zk BK251) hb2); (try clear hb); (try clear hb2); (try clear hi)) | ((with_reducible refine gq 50 rfl ?_); refine gl (some 8) Try.func50 #[.pointer (some ⟨g254, 0, none⟩)] ?_; (with_reducible refine (spec_l71Table.calls k g254 t252 t253 t255 t258 t259 w _ ?side1 ?side2 A3.out).mono ?_); (case side1 => exact zi139 HI254); (case side2 => exact zg139 HB); rintro e w7 ⟨v256, rfl, ho0, hi, hb, hk⟩; refine ⟨_, rfl, ?_⟩; replace BK251 := Aside0.mk (KeepBut.blk hk (g' := gb251) (o := .cells #[.slice none 0 0, .int .i64 0] 25 (0, 0)) (zk BK251) NB251_254.out (by simp)); have HO257 := Aside0.mk (Kd.R_lower ho0 (below_size (zg139 HB))); replace HB := Aside0.mk (hb); replace HI254 := Aside0.mk (hi); (try clear hb); (try clear hk); (try clear hi); (try clear ho0)) | ((with_reducible refine gq 51 rfl ?_); refine gl (some 10) Try.func51 #[.pointer (some ⟨g254, 0, none⟩)] ?_; (with_reducible refine (spec_l71Head.calls k g254 t252 t259 t260 t263 w _ ?side1 ?side2 A4.out).mono ?_); (case side1 => exact zi139 HI254); (case side2 => exact zg139 HB); rintro e w8 ⟨v261, rfl, ho0, hi, hb, hk⟩; refine ⟨_, rfl, ?_⟩; replace BK251 := Aside0.mk (KeepBut.blk hk (g' := gb251) (o := .cells #[.slice none 0 0, .int .i64 0] 25 (0, 0)) (zk BK251) NB251_254.out (by simp)); have HO262 := Aside0.mk (Kd.R_lower (Kd.R_new' ho0 (Kd.R_lt (zr HO257))) (below_size (zg139 HB))); replace HO257 := Aside0.mk (Kd.R_mono (Kd.R_told (Kd.R_oldK (IsS139.apart (show IsS139 w _ g254 t252 t259 from zi139 HI254) (zr HO257) (by decide)) hk) (Kd.R_base ho0)) (fun _ h_ => h_.1)); replace HB := Aside0.mk (hb); replace HI254 := Aside0.mk (hi); (try clear hb); (try clear hk); (try clear hi); (try clear ho0); obtain ⟨Ao9, co9, eo9⟩ := Kd.R_slice HO257.out; subst eo9; have hnb10 := NB251_254.out; have hnc10 := NB254_251.out; obtain ⟨hcz11_0, hcz11_1, hfz11_0, hfz11_1⟩ := c2 BK251))
 refine bodyPost_ret (results_ct rfl _ _ gb251 25 #[.slice Ao9 t255.length co9, .int .i64 t258] (0, 0) _ rfl (by (with_reducible repeat (first | refine blk_drewN ?_ _ | refine blk_drew ?_ | refine blk_alloc ?_ _)); refine blk_put (cs := #[.slice Ao9 t255.length co9, .int .i64 0]) ?_ 1 _ rfl; (with_reducible repeat (first | refine blk_drewN ?_ _ | refine blk_drew ?_ | refine blk_alloc ?_ _)); refine blk_put (cs := #[.slice none 0 0, .int .i64 0]) ?_ 0 _ rfl; exact zk BK251) Try.underlying25 rfl (by kernel_rfl)) rfl ?_
 exact ⟨_, _, ze, by (with_reducible repeat (first | apply Kd.R_alloc | apply Kd.R_drewN | apply Kd.R_drew)); exact Kd.R_mono (Kd.R_far (p := ⟨gb251, 1, none⟩) (Kd.R_far (p := ⟨gb251, 0, none⟩) (Kd.R_types HO257.out BK251.out (by decide)) (fun _ hk => hk.2) (.slice Ao9 t255.length co9)) (fun _ hk => hk.2) (.int .i64 t258)) (fun _ hk => hk.1.2), by (with_reducible repeat (first | apply Kd.R_alloc | apply Kd.R_drewN | apply Kd.R_drew)); exact Kd.R_mono (Kd.R_far (p := ⟨gb251, 1, none⟩) (Kd.R_far (p := ⟨gb251, 0, none⟩) (Kd.R_types HO262.out BK251.out (by decide)) (fun _ hk => hk.2) (.slice Ao9 t255.length co9)) (fun _ hk => hk.2) (.int .i64 t258)) (fun _ hk => hk.1.2), zg139 HB⟩

/-! ### spec_l6In: function 56 -/
-- thin
def spec_l6In.f (a0 : Int) (a1 : Int) (a2 : Int) : Option (Bool) := if a0 ≥ a1 then (some (decide (a0 ≤ a2))) else (some false)
set_option maxHeartbeats 8000000 in
set_option maxRecDepth 100000 in
theorem spec_l6In.calls (a0 : Int) (a1 : Int) (a2 : Int) (r : Bool) (w : World) (h : spec_l6In.f a0 a1 a2 = some r) :
  Calls Try.prog 56 #[.int .i64 a0, .int .i64 a1, .int .i64 a2] w fun e w' => e = .returned (.bool r) ∧ Drawn0 w w' := by
 have H : (if a0 ≥ a1 then (some (decide (a0 ≤ a2))) else (some false)) = some r := h
 clear h
 replace H := sp H
 rcases H with ⟨c4, H⟩ | ⟨c4, H⟩
 ·skip
  have c4b0 := decide_eq_true c4
  clear c4
  obtain rfl := Option.some.inj H
  go_enter Try.func56, Try.ntmps56
  go_wp2
  go_ret
  exact ⟨zs, by repeat (first | exact Drawn0.refl _ | apply Drawn0.step)⟩
 ·skip
  have c4b0 := decide_eq_false c4
  clear c4
  obtain rfl := Option.some.inj H
  go_enter Try.func56, Try.ntmps56
  go_wp2
  go_ret
  exact ⟨zs, by repeat (first | exact Drawn0.refl _ | apply Drawn0.step)⟩

/-! ### spec_TableOk: function 15 -/
-- thin
def spec_TableOk.l0 : Nat → Int → List (S88) → Int → Option (Bool)
 | 0, _, _, _ => none
 | k + 1, x3, x265000, x265001 => if x3 < (x265000.length : Int) then (if 0 ≤ x3 then ((spec_FieldOk.f k ((rd_T88 x265000 x3).f0) ((rd_T88 x265000 x3).f1) ((rd_T88 x265000 x3).f2)).bind fun t266 => (if t266 = true then (if (rd_T88 x265000 x3).f2 = true then (some false) else (spec_TableOk.l0 k (wrap64 (x3 + 1)) x265000 x265001)) else (some false))) else (none)) else ((spec_l6In.f x265001 0 64).bind fun t268 => (if t268 = true then ((spec_l3Size.f k x265000).bind fun t269 => (some (decide (t269 ≤ x265001)))) else (some false)))
def spec_TableOk.f (k : Nat) (l0_0 : List (S88)) (a0_1 : Int) : Option (Bool) := spec_TableOk.l0 k 0 l0_0 a0_1
theorem spec_TableOk.mono_l : ∀ k, (∀ y0 y1 y2, LeO (spec_TableOk.l0 k y0 y1 y2) (spec_TableOk.l0 (k + 1) y0 y1 y2))
 | 0 => fun _ _ _ r h => by simp [spec_TableOk.l0] at h
 | k + 1 => by
  have ih0 := spec_TableOk.mono_l k
  ·intro y0 y1 y2
   unfold spec_TableOk.l0
   have m0 := @spec_FieldOk.mono
   have m1 := @spec_l3Size.mono
   exact zm
theorem spec_TableOk.mono : ∀ a0 a1 k, LeO (spec_TableOk.f k a0 a1) (spec_TableOk.f (k + 1) a0 a1) := by
 intro a0 a1 k
 have ih0 := spec_TableOk.mono_l k
 unfold spec_TableOk.f
 have m0 := @spec_FieldOk.mono
 have m1 := @spec_l3Size.mono
 exact zm
def spec_TableOk.T6 : Bool × List (List Nat × List Nat) := (true, [([], []), ([0], [0]), ([1], [1]), ([2, 2], [2]), ([3], [3]), ([4, 3], [3, 4]), ([5, 3, 3], [3, 5]), ([3], [3]), ([7, 3], [3, 7]), ([6, 8, 3], [3, 6, 8]), ([3, 9], [3, 9]), ([10, 6, 0, 1, 2, 3, 4, 5, 6, 7, 8, 9, 10], [10])])
def spec_TableOk.B6 : List Nat := [0, 1, 3, 7, 15, 31, 63, 15, 143, 511, 1023, 2047]
theorem spec_TableOk.tab6 : rtab .any (opsOf Try.f15 6) = spec_TableOk.T6 := by kernel_rfl
theorem spec_TableOk.bits6 : waitsOk spec_TableOk.T6.2 spec_TableOk.B6 = true := by kernel_rfl
set_option maxHeartbeats 8000000 in
set_option maxRecDepth 100000 in
theorem spec_TableOk.calls (k : Nat) (A0_0 : Option Addr) (c0_0 : Nat) (l0_0 : List (S88)) (a0_1 : Int) (r : Bool) (w : World) (hr0_0 : Kd.C k88 w A0_0 l0_0.length l0_0) (hc0_0 : l0_0.length ≤ c0_0) (h : spec_TableOk.f k l0_0 a0_1 = some r) :
  Calls Try.prog 15 #[.agg #[.slice A0_0 l0_0.length c0_0, .int .i64 a0_1]] w fun e w' => e = .returned (.bool r) ∧ Below w.heap.size w w' := by
 have hu25 := Try.underlying25
 have hu88 := Try.underlying88
 have HR0_0 := Aside0.mk hr0_0
 have HC0_0 := Aside0.mk hc0_0
 clear hr0_0 hc0_0
 have HB := Aside0.mk (Below.refl w.heap.size w)
 have H : (spec_TableOk.l0 k 0 l0_0 a0_1) = some r := h
 clear h
 have H' := Aside0.mk H
 clear H
 go_enter Try.func15, Try.ntmps15
 go_wp2_with (first | ((with_reducible refine gd 1 rfl ?_); refine bx (N := 1) (cs := #[.slice A0_0 l0_0.length c0_0, .int .i64 a0_1]) (t := 25) ?_; intro gb264 hg w2 hbox hb; have BK264 := Aside0.mk (hbox); have GW264 := gw HB hg; have GE264 := GW264; replace HB := Aside0.mk (below_step (zb HB) hb); clear hb hbox hg))
 go_loopg [3] k (fun kq v3 w' => ∃ (x3_1 : Int), v3 = .int .i64 x3_1 ∧ Aside0 (spec_TableOk.l0 kq x3_1 l0_0 a0_1 = some r) ∧ Aside0 (kq ≤ k) ∧ Aside0 (w'.heap[gb264]? = some (.cells #[(.slice A0_0 l0_0.length c0_0), .int .i64 a0_1] 25 (0, 0))) ∧ Aside0 (Below w.heap.size w w'))
 case atStart => exact ⟨(0), zs, H', ⟨Nat.le_refl _⟩, ⟨by exact zk BK264⟩, ⟨zb HB⟩⟩
 case round =>
  clear H'
  try clear c1
  try clear p2
  obtain ⟨x3_1, rfl, HA, HK1, BK264, HB⟩ := hrel
  cases gk with
  | zero => exact absurd HA.out (by simp [spec_TableOk.l0])
  | succ k1 =>
   have H := HA.out
   clear HA
   simp only [spec_TableOk.l0] at H
   replace H := sp H
   rcases H with ⟨c3, H⟩ | ⟨c3, H⟩
   ·skip
    have c3b0 := decide_eq_true c3
    clear c3
    by_cases c4 : 0 ≤ x3_1
    ·rw [if_pos c4] at H
     have c4b0 := decide_eq_true c4
     clear c4
     obtain ⟨t266, A5, H⟩ := ob H
     (try dsimp only at H)
     by_cases c6 : t266 = true
     ·subst c6
      rw [if_pos rfl] at H
      have HC7 := Aside0.mk H
      clear H
      obtain ⟨hcz8_0, hcz8_1, hfz8_0, hfz8_1⟩ := c2 BK264
      have p265 : 0 ≤ (x3_1 : Int) := of_decide_eq_true za
      have q265 : x3_1 < (l0_0.length : Int) := of_decide_eq_true za
      obtain ⟨ad265, e265, hx265_0, hx265_1, hx265_2⟩ := at_T88 HR0_0.out x3_1 p265 q265
      cases e265
      replace hx265_0 := (HB.out.cell (World.block_lt_of_cell? w _ hx265_0)).trans hx265_0
      replace hx265_1 := (HB.out.cell (World.block_lt_of_cell? w _ hx265_1)).trans hx265_1
      replace hx265_2 := (HB.out.cell (World.block_lt_of_cell? w _ hx265_2)).trans hx265_2
      replace p265 := eq_true p265
      replace q265 := eq_true q265
      go_upto_if 25 with (first | ((with_reducible refine gq 55 rfl ?_); refine gl (some 16) Try.func55 #[.agg #[.string ((rd_T88 l0_0 x3_1).f0), .string ((rd_T88 l0_0 x3_1).f1), .bool ((rd_T88 l0_0 x3_1).f2)]] ?_; (with_reducible refine (spec_FieldOk.calls k1 ((rd_T88 l0_0 x3_1).f0) ((rd_T88 l0_0 x3_1).f1) ((rd_T88 l0_0 x3_1).f2) true _ A5.out).mono ?_); rintro e w9 ⟨rfl, hb⟩; refine ⟨_, rfl, ?_⟩; replace BK264 := kb BK264 hb; replace HB := Aside0.mk (below_step (zb HB) hb); (try clear hb); obtain ⟨hcz10_0, hcz10_1, hfz10_0, hfz10_1⟩ := c2 BK264; have p267 : 0 ≤ (x3_1 : Int) := of_decide_eq_true za; have q267 : x3_1 < (l0_0.length : Int) := of_decide_eq_true za; obtain ⟨ad267, e267, hx267_0, hx267_1, hx267_2⟩ := at_T88 HR0_0.out x3_1 p267 q267; obtain rfl : ad265 = ad267 := (by injection e267); replace hx267_0 := (HB.out.cell (World.block_lt_of_cell? w _ hx267_0)).trans hx267_0; replace hx267_1 := (HB.out.cell (World.block_lt_of_cell? w _ hx267_1)).trans hx267_1; replace hx267_2 := (HB.out.cell (World.block_lt_of_cell? w _ hx267_2)).trans hx267_2; replace p267 := eq_true p267; replace q267 := eq_true q267))
      (try simp only [Act.put, s1, s2, s3])
      have H := HC7.out
      clear HC7
      obtain ⟨bq11, hbq11⟩ : ∃ b_ : Bool, b_ = ((rd_T88 l0_0 x3_1).f2) := ⟨_, rfl⟩
      replace H : (if bq11 = true then (some false) else (spec_TableOk.l0 k1 (wrap64 (x3_1 + 1)) l0_0 a0_1)) = some r := by rw [← hbq11] at H; exact H
      have Nbq11 := Aside0.mk hbq11
      clear hbq11
      (try rw [← Nbq11.out])
      (try rw [← Nbq11.out] at BK264)
      by_cases c12 : bq11 = true
      ·subst c12
       rw [if_pos rfl] at H
       obtain rfl := Option.some.inj H
       go_wp2
       go_ret
       exact ⟨ze, zb HB⟩
      ·replace c12 := Bool.eq_false_iff.mpr c12
       subst c12
       rw [if_neg (show ¬ (false = true) by decide)] at H
       have H' := Aside0.mk H
       clear H
       go_wp2
       go_roundg k1
       case measure => have := HK1.out; omega
       case rel => exact ⟨(wrap64 (x3_1 + 1)), zs, H', ⟨by have := HK1.out; omega⟩, ⟨by exact zk BK264⟩, ⟨zb HB⟩⟩
     ·replace c6 := Bool.eq_false_iff.mpr c6
      subst c6
      rw [if_neg (show ¬ (false = true) by decide)] at H
      obtain rfl := Option.some.inj H
      obtain ⟨hcz13_0, hcz13_1, hfz13_0, hfz13_1⟩ := c2 BK264
      have p265 : 0 ≤ (x3_1 : Int) := of_decide_eq_true za
      have q265 : x3_1 < (l0_0.length : Int) := of_decide_eq_true za
      obtain ⟨ad265, e265, hx265_0, hx265_1, hx265_2⟩ := at_T88 HR0_0.out x3_1 p265 q265
      cases e265
      replace hx265_0 := (HB.out.cell (World.block_lt_of_cell? w _ hx265_0)).trans hx265_0
      replace hx265_1 := (HB.out.cell (World.block_lt_of_cell? w _ hx265_1)).trans hx265_1
      replace hx265_2 := (HB.out.cell (World.block_lt_of_cell? w _ hx265_2)).trans hx265_2
      replace p265 := eq_true p265
      replace q265 := eq_true q265
      go_wp2_with (first | ((with_reducible refine gq 55 rfl ?_); refine gl (some 16) Try.func55 #[.agg #[.string ((rd_T88 l0_0 x3_1).f0), .string ((rd_T88 l0_0 x3_1).f1), .bool ((rd_T88 l0_0 x3_1).f2)]] ?_; (with_reducible refine (spec_FieldOk.calls k1 ((rd_T88 l0_0 x3_1).f0) ((rd_T88 l0_0 x3_1).f1) ((rd_T88 l0_0 x3_1).f2) false _ A5.out).mono ?_); rintro e w14 ⟨rfl, hb⟩; refine ⟨_, rfl, ?_⟩; replace BK264 := kb BK264 hb; replace HB := Aside0.mk (below_step (zb HB) hb); (try clear hb)))
      go_ret
      exact ⟨ze, zb HB⟩
    ·rw [if_neg c4] at H
     exact absurd H (by simp)
   ·skip
    have c3b0 := decide_eq_false c3
    clear c3
    obtain ⟨t268, A15, H⟩ := ob H
    (try dsimp only at H)
    by_cases c16 : t268 = true
    ·subst c16
     rw [if_pos rfl] at H
     obtain ⟨t269, A17, H⟩ := ob H
     (try dsimp only at H)
     obtain rfl := Option.some.inj H
     obtain ⟨hcz18_0, hcz18_1, hfz18_0, hfz18_1⟩ := c2 BK264
     try go_wp2
     replace BK264 := Aside0.mk (blk_drew BK264.out)
     replace HB := Aside0.mk (below_drew1 HB.out)
     refine start_ (n := 12) (S := fun w' => w'.cell? ⟨gb264, 0, none⟩ = some (.slice A0_0 l0_0.length c0_0) ∧ w'.cell? ⟨gb264, 1, none⟩ = some (.int .i64 a0_1)) (ds := []) #[false, false, false, false, false, false, false, false, false, false, false, false] (by kernel_rfl) rfl rfl ⟨(blk_cell BK264.out 0).trans rfl, (blk_cell BK264.out 1).trans rfl⟩ (fun hHeld => ?_); refine with_tabW spec_TableOk.tab6 spec_TableOk.bits6 (fun HT_ HW_ => ?_)
     generalize wr.drew = w19 at BK264 HB hHeld ⊢
     refine pu 0 (some 26) (bm 12 1) rfl rfl ?_
     refine tk 1 (some 27) (bm 12 3) rfl rfl hHeld ?_
     refine one_ (i := 2) (N := some 28) (bm 12 7) rfl rfl (one_of HT_.out (by kernel_rfl)) (by decide) (fun K hK => ?_)
     refine gs Try.func56 #[.int .i64 a0_1, .int .i64 0, .int .i64 64] ?_
     with_reducible refine (spec_l6In.calls a0_1 0 64 true _ A15.out).mono ?_
     rintro e w' ⟨rfl, ⟨nd, rfl⟩⟩
     refine ⟨_, rfl, ?_⟩
     refine hK.out _ _ ⟨(blk_cell BK264.out 0).trans rfl, (blk_cell BK264.out 1).trans rfl⟩ (fun hHeld => ?_)
     clear hK K
     refine nm ?_
     refine pu 3 (some 29) (bm 12 15) rfl rfl ?_
     refine pu 4 (some 30) (bm 12 31) rfl rfl ?_
     refine pu 7 (some 33) (bm 12 159) rfl rfl ?_
     refine tk 5 (some 31) (bm 12 191) rfl rfl hHeld ?_
     refine tk 8 (some 34) (bm 12 447) rfl rfl hHeld ?_
     refine one_ (i := 6) (N := some 32) (bm 12 511) rfl rfl (one_of HT_.out (by kernel_rfl)) (by decide) (fun K hK => ?_)
     refine gs Try.func57 #[.slice A0_0 l0_0.length c0_0] ?_
     with_reducible refine (spec_l3Size.calls k1 _ _ l0_0 t269 _ ?side1 ?side2 A17.out).mono ?_
     (case side1 => exact (Kd.C_below HR0_0.out (zb HB)))
     (case side2 => exact HC0_0.out)
     rintro e w20 ⟨rfl, hb⟩
     refine ⟨_, rfl, ?_⟩
     replace BK264 := kb BK264 hb
     replace HB := Aside0.mk (below_step (zb HB) hb)
     (try clear hb)
     refine hK.out _ _ ⟨(blk_cell BK264.out 0).trans rfl, (blk_cell BK264.out 1).trans rfl⟩ (fun hHeld => ?_)
     clear hK K
     refine nm ?_
     refine pu 9 (some 35) (bm 12 1023) rfl rfl ?_
     refine pu 10 (some 36) (bm 12 2047) rfl rfl ?_
     refine pu 11 (some 2) (bm 12 4095) rfl rfl ?_
     refine done_ (done_of HT_.out (by kernel_rfl)) ?_
     try go_wp2
     go_ret
     exact ⟨ze, zb HB⟩
    ·replace c16 := Bool.eq_false_iff.mpr c16
     subst c16
     rw [if_neg (show ¬ (false = true) by decide)] at H
     obtain rfl := Option.some.inj H
     obtain ⟨hcz21_0, hcz21_1, hfz21_0, hfz21_1⟩ := c2 BK264
     try go_wp2
     replace BK264 := Aside0.mk (blk_drew BK264.out)
     replace HB := Aside0.mk (below_drew1 HB.out)
     refine start_ (n := 12) (S := fun w' => w'.cell? ⟨gb264, 0, none⟩ = some (.slice A0_0 l0_0.length c0_0) ∧ w'.cell? ⟨gb264, 1, none⟩ = some (.int .i64 a0_1)) (ds := []) #[false, false, false, false, false, false, false, false, false, false, false, false] (by kernel_rfl) rfl rfl ⟨(blk_cell BK264.out 0).trans rfl, (blk_cell BK264.out 1).trans rfl⟩ (fun hHeld => ?_); refine with_tabW spec_TableOk.tab6 spec_TableOk.bits6 (fun HT_ HW_ => ?_)
     generalize wr.drew = w22 at BK264 HB hHeld ⊢
     refine pu 0 (some 26) (bm 12 1) rfl rfl ?_
     refine tk 1 (some 27) (bm 12 3) rfl rfl hHeld ?_
     refine one_ (i := 2) (N := some 28) (bm 12 7) rfl rfl (one_of HT_.out (by kernel_rfl)) (by decide) (fun K hK => ?_)
     refine gs Try.func56 #[.int .i64 a0_1, .int .i64 0, .int .i64 64] ?_
     with_reducible refine (spec_l6In.calls a0_1 0 64 false _ A15.out).mono ?_
     rintro e w' ⟨rfl, ⟨nd, rfl⟩⟩
     refine ⟨_, rfl, ?_⟩
     refine hK.out _ _ ⟨(blk_cell BK264.out 0).trans rfl, (blk_cell BK264.out 1).trans rfl⟩ (fun hHeld => ?_)
     clear hK K
     refine nm ?_
     refine pu 3 (some 29) (bm 12 15) rfl rfl ?_
     refine pv 4 (some 30) (bm 12 31) rfl rfl ?_
     refine pv 5 (some 31) (bm 12 63) rfl rfl ?_
     refine pv 6 (some 32) (bm 12 127) rfl rfl ?_
     refine pv 7 (some 33) (bm 12 255) rfl rfl ?_
     refine pv 8 (some 34) (bm 12 511) rfl rfl ?_
     refine pv 9 (some 35) (bm 12 1023) rfl rfl ?_
     refine pu 10 (some 36) (bm 12 2047) rfl rfl ?_
     refine pu 11 (some 2) (bm 12 4095) rfl rfl ?_
     refine done_ (done_of HT_.out (by kernel_rfl)) ?_
     try go_wp2
     go_ret
     exact ⟨ze, zb HB⟩

end Go.Proofs.Ytlpibelofcabhaa.PFnHeadBack
