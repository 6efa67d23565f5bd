-- WRITTEN BY a turned print (wip/tools of the prover's repo)
import Derived.Test.YtdhahifdcoinhaaPFnHeadAgainx0
import Derived.Test.YtdhahifdcoinhaaPFnHeadAgainx2
import Derived.Test.YtdhahifdcoinhaaPFnHeadAgainx5
import Derived.Test.YtdhahifdcoinhaaPFnHeadAgainx6
import Derived.Test.YtdhahifdcoinhaaPFnHeadAgainx7
import Derived.Test.YtdhahifdcoinhaaPFnHeadAgainx8
namespace Go.Proofs.Ytdhahifdcoinhaa.PFnHeadAgain
open Go.RowKit Go.Proofs.YtdhahifdcoinhaaW.PrintWords Go.Proofs.YtdhahifdcoinhaaW.PrintLast Go.Proofs.YtdhahifdcoinhaaW.PrintMore Go.Proofs.Ytdhahifdcoinhaa.Lm
attribute [local go_sem] max2_int min2_int max_two min_two max_three min_three max_four min_four   -- for this text's walks alone
set_option linter.unusedVariables false
set_option linter.unusedSimpArgs false

/-! ### spec_l11Write: function 80 -/
-- thin
def spec_l11Write.f (k : Nat) (l0_0 : List (S36)) (a0_1 : Int) (a1_0 : ByteArray) (a1_1 : ByteArray) (a1_2 : Bool) : Option ((List (S36)) × Int × ByteArray) := (spec_l3Find.f k l0_0 a0_1 a1_0 a1_1 a1_2).bind fun bt374 => (if a1_2 = true then ((spec_l11Name.f k bt374.1 4 1 a1_0 a1_1 a1_2).bind fun t376 => ((spec_l2Write.f k a1_1).bind fun t377 => (if t376.size + t377.size ≤ 9223372036854775807 then (some (l0_0, a0_1, t376 ++ t377)) else (none)))) else (if bt374.2 = true then ((spec_l1Write.f k bt374.1 7 1).bind fun t378 => (some (l0_0, a0_1, t378))) else ((spec_l3Add.f k l0_0 a0_1 a1_0 a1_1 a1_2).bind fun bt379 => ((spec_l11Name.f k bt374.1 6 1 a1_0 a1_1 a1_2).bind fun t383 => ((spec_l2Write.f k a1_1).bind fun t384 => (if t383.size + t384.size ≤ 9223372036854775807 then (some (bt379.1, bt379.2, t383 ++ t384)) else (none)))))))
theorem spec_l11Write.mono : ∀ a0 a1 a2 a3 a4 k, LeO (spec_l11Write.f k a0 a1 a2 a3 a4) (spec_l11Write.f (k + 1) a0 a1 a2 a3 a4) := by
 intro a0 a1 a2 a3 a4 k
 unfold spec_l11Write.f
 repeat' first
   | (with_reducible exact spec_l11Name.mono _ _ _ _ _ _ _)
   | (with_reducible exact spec_l1Write.mono _ _ _ _)
   | (with_reducible exact spec_l2Write.mono _ _)
   | (with_reducible exact spec_l3Add.mono _ _ _ _ _ _)
   | (with_reducible exact spec_l3Find.mono _ _ _ _ _ _)
   | (with_reducible exact LeO.refl _)
   | (with_reducible exact LeO.none _)
   | (with_reducible refine LeO.ite ?_ ?_)
   | (with_reducible refine LeO.bind ?_ (fun _ => ?_))
   | exact spec_l11Name.mono _ _ _ _ _ _ _
   | exact spec_l1Write.mono _ _ _ _
   | exact spec_l2Write.mono _ _
   | exact spec_l3Add.mono _ _ _ _ _ _
   | exact spec_l3Find.mono _ _ _ _ _ _
   | exact LeO.none _
   | refine LeO.ite ?_ ?_
   | refine LeO.bind ?_ (fun _ => ?_)
def spec_l11Write.T3 : Bool × List (List Nat × List Nat) := (true, [([], []), ([], []), ([], []), ([1, 2], [1, 2]), ([], []), ([4], [4]), ([5, 3], [5]), ([3, 6], [3, 6]), ([0, 6, 0], [0]), ([7, 8, 0, 1, 2, 3, 4, 5, 6, 7, 8], [7])])
def spec_l11Write.B3 : List Nat := [0, 0, 0, 6, 0, 16, 62, 126, 127, 511]
theorem spec_l11Write.tab3 : rtab .any (opsOf Try.f80 3) = spec_l11Write.T3 := by kernel_rfl
theorem spec_l11Write.bits3 : waitsOk spec_l11Write.T3.2 spec_l11Write.B3 = true := by kernel_rfl
def spec_l11Write.T6 : Bool × List (List Nat × List Nat) := (true, [([], []), ([], []), ([0, 1], [0, 1]), ([], []), ([], []), ([3, 4, 2], [3, 4]), ([], []), ([6], [6]), ([7, 5], [7]), ([5, 8], [5, 8]), ([2, 8, 0, 1, 2], [2]), ([9, 10, 0, 1, 2, 3, 4, 5, 6, 7, 8, 9, 10], [9])])
def spec_l11Write.B6 : List Nat := [0, 0, 3, 0, 0, 31, 0, 64, 255, 511, 511, 2047]
theorem spec_l11Write.tab6 : rtab .any (opsOf Try.f80 6) = spec_l11Write.T6 := by kernel_rfl
theorem spec_l11Write.bits6 : waitsOk spec_l11Write.T6.2 spec_l11Write.B6 = true := by kernel_rfl
set_option maxHeartbeats 8000000 in
set_option maxRecDepth 100000 in
theorem spec_l11Write.calls (k : Nat) (P0_0_ : Nat → Prop) (u9000_ : Value) (l0_0 : List (S36)) (a0_1 : Int) (a1_0 : ByteArray) (a1_1 : ByteArray) (a1_2 : Bool) (r1 : List (S36)) (r2 : Int) (r3 : ByteArray) (w0 w : World) (hB : Below w0.heap.size w0 w) (ho0_0 : Kd.R k36 36 w w0.heap.size P0_0_ u9000_ l0_0) (h : spec_l11Write.f k l0_0 a0_1 a1_0 a1_1 a1_2 = some (r1, r2, r3)) :
  Calls Try.prog 80 #[.agg #[u9000_, .int .i64 a0_1], .agg #[.string a1_0, .string a1_1, .bool a1_2]] w fun e w' => ∃ v0_ : Value, e = .returned (.tuple #[.agg #[v0_, .int .i64 r2], .string r3]) ∧ Kd.R k36 36 w' w0.heap.size (fun k_ => (P0_0_ k_ ∨ w.heap.size ≤ k_)) v0_ r1 ∧ Below w0.heap.size w0 w' ∧ Kept w w' (fun k_ => P0_0_ k_) := by
 have hu25 := Try.underlying25
 have hu36 := Try.underlying36
 have HO0_0 := Aside0.mk (show Kd.R k36 36 w w0.heap.size (fun k_ => (P0_0_ k_ ∨ w.heap.size ≤ k_)) u9000_ l0_0 from Kd.R_mono ho0_0 (fun k_ hk => (.inl hk)))
 have HK := Aside0.mk (Kept.refl w (fun k_ => P0_0_ k_))
 have HW0 := Aside0.mk hB.size
 have HB := Aside0.mk hB
 clear hB
 have H : ((spec_l3Find.f k l0_0 a0_1 a1_0 a1_1 a1_2).bind fun bt374 => (if a1_2 = true then ((spec_l11Name.f k bt374.1 4 1 a1_0 a1_1 a1_2).bind fun t376 => ((spec_l2Write.f k a1_1).bind fun t377 => (if t376.size + t377.size ≤ 9223372036854775807 then (some (l0_0, a0_1, t376 ++ t377)) else (none)))) else (if bt374.2 = true then ((spec_l1Write.f k bt374.1 7 1).bind fun t378 => (some (l0_0, a0_1, t378))) else ((spec_l3Add.f k l0_0 a0_1 a1_0 a1_1 a1_2).bind fun bt379 => ((spec_l11Name.f k bt374.1 6 1 a1_0 a1_1 a1_2).bind fun t383 => ((spec_l2Write.f k a1_1).bind fun t384 => (if t383.size + t384.size ≤ 9223372036854775807 then (some (bt379.1, bt379.2, t383 ++ t384)) else (none)))))))) = some (r1, r2, r3) := h
 clear h
 replace H := Option.bind_eq_some_iff.mp H
 obtain ⟨⟨t374, t375⟩, A30, H⟩ := H
 replace H : (if a1_2 = true then ((spec_l11Name.f k t374 4 1 a1_0 a1_1 a1_2).bind fun t376 => ((spec_l2Write.f k a1_1).bind fun t377 => (if t376.size + t377.size ≤ 9223372036854775807 then (some (l0_0, a0_1, t376 ++ t377)) else (none)))) else (if t375 = true then ((spec_l1Write.f k t374 7 1).bind fun t378 => (some (l0_0, a0_1, t378))) else ((spec_l3Add.f k l0_0 a0_1 a1_0 a1_1 a1_2).bind fun bt379 => ((spec_l11Name.f k t374 6 1 a1_0 a1_1 a1_2).bind fun t383 => ((spec_l2Write.f k a1_1).bind fun t384 => (if t383.size + t384.size ≤ 9223372036854775807 then (some (bt379.1, bt379.2, t383 ++ t384)) else (none))))))) = some (r1, r2, r3) := H
 have A3 := Aside0.mk A30
 clear A30
 have HC4 := Aside0.mk H
 clear H
 obtain ⟨Ao5, co5, eo5⟩ := Kd.R_slice HO0_0.out
 subst eo5
 go_enter Try.func80, Try.ntmps80
 go_upto_if 14 with (first | ((with_reducible refine gd 2 rfl ?_); refine bx (N := 2) (cs := #[.slice Ao5 l0_0.length co5, .int .i64 a0_1]) (t := 25) ?_; intro gb371 hg w6 hbox hb; replace HO0_0 := Aside0.mk (Kd.R_below (zr HO0_0) hb); have BK371 := Aside0.mk (hbox); have GW371 := Aside0.mk ((by rw [hg]; exact (by first | exact HK.out.1 | exact (show Kept w _ (fun k_ => P0_0_ k_) from by repeat (first | (with_reducible first | exact HK.out | apply Kept.alloc | apply Kept.drewN | apply Kept.drew) | exact HK.out)).1) : w.heap.size ≤ gb371)); replace HK := Aside0.mk (Kept.below (S := (fun k_ => P0_0_ k_)) (by repeat (first | (with_reducible first | exact HK.out | apply Kept.alloc | apply Kept.drewN | apply Kept.drew) | exact HK.out)) hb); have GE371 := Aside0.mk ((by rw [hg]; exact (below_size (zb HB)) : w0.heap.size ≤ gb371)); replace HB := Aside0.mk (below_step (zb HB) hb); clear hb hbox hg) | ((with_reducible refine gd 3 rfl ?_); refine bx (N := 3) (cs := #[.string a1_0, .string a1_1, .bool a1_2]) (t := 36) ?_; intro gb372 hg w7 hbox hb; replace HO0_0 := Aside0.mk (Kd.R_below (Kd.R_elderB (zr HO0_0) gb372 (Nat.le_of_eq hg.symm)) hb); have BK372 := Aside0.mk (hbox); have GW372 := Aside0.mk ((by rw [hg]; exact (by first | exact HK.out.1 | exact (show Kept w _ (fun k_ => P0_0_ k_) from by repeat (first | (with_reducible first | exact HK.out | apply Kept.alloc | apply Kept.drewN | apply Kept.drew | refine Kept.setCell ?_ (.inr GW371.out) _) | exact HK.out)).1) : w.heap.size ≤ gb372)); replace HK := Aside0.mk (Kept.below (S := (fun k_ => P0_0_ k_)) (by repeat (first | (with_reducible first | exact HK.out | apply Kept.alloc | apply Kept.drewN | apply Kept.drew | refine Kept.setCell ?_ (.inr GW371.out) _) | exact HK.out)) hb); have GE372 := Aside0.mk ((by rw [hg]; exact (below_size (zb HB)) : w0.heap.size ≤ gb372)); replace HB := Aside0.mk (below_step (zb HB) hb); have NB371_372 := Aside0.mk ((by rw [hg]; exact Nat.ne_of_lt (blk_lt (g := gb371) (o := .cells #[.slice Ao5 l0_0.length co5, .int .i64 a0_1] 25 (0, 0)) (zk BK371)) : gb371 ≠ gb372)); have NB372_371 := Aside0.mk ((by rw [hg]; exact Nat.ne_of_gt (blk_lt (g := gb371) (o := .cells #[.slice Ao5 l0_0.length co5, .int .i64 a0_1] 25 (0, 0)) (zk BK371)) : gb372 ≠ gb371)); replace BK371 := Aside0.mk (blk_below (g := gb371) (o := .cells #[.slice Ao5 l0_0.length co5, .int .i64 a0_1] 25 (0, 0)) (zk BK371) hb); clear hb hbox hg) | ((with_reducible refine gd 4 rfl ?_); refine bx (N := 4) (cs := #[.slice none 0 0, .int .i64 0]) (t := 25) ?_; intro gb373 hg w8 hbox hb; replace HO0_0 := Aside0.mk (Kd.R_below (zr HO0_0) hb); have BK373 := Aside0.mk (hbox); have GW373 := Aside0.mk ((by rw [hg]; exact (by first | exact HK.out.1 | exact (show Kept w _ (fun k_ => P0_0_ k_) from by repeat (first | (with_reducible first | exact HK.out | apply Kept.alloc | apply Kept.drewN | apply Kept.drew | refine Kept.setCell ?_ (.inr GW371.out) _ | refine Kept.setCell ?_ (.inr GW372.out) _) | exact HK.out)).1) : w.heap.size ≤ gb373)); replace HK := Aside0.mk (Kept.below (S := (fun k_ => P0_0_ k_)) (by repeat (first | (with_reducible first | exact HK.out | apply Kept.alloc | apply Kept.drewN | apply Kept.drew | refine Kept.setCell ?_ (.inr GW371.out) _ | refine Kept.setCell ?_ (.inr GW372.out) _) | exact HK.out)) hb); have GE373 := Aside0.mk ((by rw [hg]; exact (below_size (zb HB)) : w0.heap.size ≤ gb373)); replace HB := Aside0.mk (below_step (zb HB) hb); have NB371_373 := Aside0.mk ((by rw [hg]; exact Nat.ne_of_lt (blk_lt (g := gb371) (o := .cells #[.slice Ao5 l0_0.length co5, .int .i64 a0_1] 25 (0, 0)) (zk BK371)) : gb371 ≠ gb373)); have NB373_371 := Aside0.mk ((by rw [hg]; exact Nat.ne_of_gt (blk_lt (g := gb371) (o := .cells #[.slice Ao5 l0_0.length co5, .int .i64 a0_1] 25 (0, 0)) (zk BK371)) : gb373 ≠ gb371)); replace BK371 := Aside0.mk (blk_below (g := gb371) (o := .cells #[.slice Ao5 l0_0.length co5, .int .i64 a0_1] 25 (0, 0)) (zk BK371) hb); have NB372_373 := Aside0.mk ((by rw [hg]; exact Nat.ne_of_lt (blk_lt (g := gb372) (o := .cells #[.string a1_0, .string a1_1, .bool a1_2] 36 (0, 0)) (zk BK372)) : gb372 ≠ gb373)); have NB373_372 := Aside0.mk ((by rw [hg]; exact Nat.ne_of_gt (blk_lt (g := gb372) (o := .cells #[.string a1_0, .string a1_1, .bool a1_2] 36 (0, 0)) (zk BK372)) : gb373 ≠ gb372)); replace BK372 := Aside0.mk (blk_below (g := gb372) (o := .cells #[.string a1_0, .string a1_1, .bool a1_2] 36 (0, 0)) (zk BK372) hb); clear hb hbox hg; have hnb9 := NB371_372.out; have hnc9 := NB372_371.out; have hnb10 := NB371_373.out; have hnc10 := NB373_371.out; have hcz11_0 : w8.cell? ⟨gb371, 0, none⟩ = some (.slice Ao5 l0_0.length co5) := (blk_cell BK371.out 0).trans rfl; have hcz11_1 : w8.cell? ⟨gb371, 1, none⟩ = some (.int .i64 a0_1) := (blk_cell BK371.out 1).trans rfl; have hfz11_0 := blk_frozen BK371.out 0; have hfz11_1 := blk_frozen BK371.out 1; have hnb12 := NB372_373.out; have hnc12 := NB373_372.out; have hcz13_0 : w8.cell? ⟨gb372, 0, none⟩ = some (.string a1_0) := (blk_cell BK372.out 0).trans rfl; have hcz13_1 : w8.cell? ⟨gb372, 1, none⟩ = some (.string a1_1) := (blk_cell BK372.out 1).trans rfl; have hcz13_2 : w8.cell? ⟨gb372, 2, none⟩ = some (.bool a1_2) := (blk_cell BK372.out 2).trans rfl; have hfz13_0 := blk_frozen BK372.out 0; have hfz13_1 := blk_frozen BK372.out 1; have hfz13_2 := blk_frozen BK372.out 2) | ((with_reducible refine gq 89 rfl ?_); refine gl (some 11) Try.func89 #[.agg #[.slice Ao5 l0_0.length co5, .int .i64 a0_1], .agg #[.string a1_0, .string a1_1, .bool a1_2]] ?_; (with_reducible refine (spec_l3Find.calls k _ _ l0_0 a0_1 a1_0 a1_1 a1_2 t374 t375 _ ?side1 ?side2 A3.out).mono ?_); (case side1 => exact zc (Kd.R_reads' HO0_0.out).2.2); (case side2 => exact (Kd.R_reads' HO0_0.out).2.1); rintro e w14 ⟨rfl, hb⟩; refine ⟨_, rfl, ?_⟩; replace HO0_0 := Aside0.mk (Kd.R_below (zr HO0_0) hb); replace BK371 := Aside0.mk (blk_below (g := gb371) (o := .cells #[.slice Ao5 l0_0.length co5, .int .i64 a0_1] 25 (0, 0)) (zk BK371) hb); replace BK372 := Aside0.mk (blk_below (g := gb372) (o := .cells #[.string a1_0, .string a1_1, .bool a1_2] 36 (0, 0)) (zk BK372) hb); replace BK373 := Aside0.mk (blk_below (g := gb373) (o := .cells #[.slice none 0 0, .int .i64 0] 25 (0, 0)) (zk BK373) hb); replace HK := Aside0.mk (Kept.below (S := (fun k_ => P0_0_ k_)) (by repeat (first | (with_reducible first | exact HK.out | apply Kept.alloc | apply Kept.drewN | apply Kept.drew | refine Kept.setCell ?_ (.inr GW371.out) _ | refine Kept.setCell ?_ (.inr GW372.out) _ | refine Kept.setCell ?_ (.inr GW373.out) _) | exact HK.out)) hb); replace HB := Aside0.mk (below_step (zb HB) hb); (try clear hb); have hcz15_0 : w14.cell? ⟨gb372, 0, none⟩ = some (.string a1_0) := (blk_cell BK372.out 0).trans rfl; have hcz15_1 : w14.cell? ⟨gb372, 1, none⟩ = some (.string a1_1) := (blk_cell BK372.out 1).trans rfl; have hcz15_2 : w14.cell? ⟨gb372, 2, none⟩ = some (.bool a1_2) := (blk_cell BK372.out 2).trans rfl; have hfz15_0 := blk_frozen BK372.out 0; have hfz15_1 := blk_frozen BK372.out 1; have hfz15_2 := blk_frozen BK372.out 2))
 (try simp only [Act.put, s1, s2, s3])
 have H := HC4.out
 clear HC4
 by_cases c16 : a1_2 = true
 ·subst c16
  have H1 : ((spec_l11Name.f k t374 4 1 a1_0 a1_1 true).bind fun t376 => ((spec_l2Write.f k a1_1).bind fun t377 => (if t376.size + t377.size ≤ 9223372036854775807 then (some (l0_0, a0_1, t376 ++ t377)) else (none)))) = some (r1, r2, r3) := by rw [if_pos rfl] at H; exact H
  clear H
  have H := H1
  clear H1
  replace H := Option.bind_eq_some_iff.mp H
  obtain ⟨t376, A170, H⟩ := H
  replace H : ((spec_l2Write.f k a1_1).bind fun t377 => (if t376.size + t377.size ≤ 9223372036854775807 then (some (l0_0, a0_1, t376 ++ t377)) else (none))) = some (r1, r2, r3) := H
  have A17 := Aside0.mk A170
  clear A170
  replace H := Option.bind_eq_some_iff.mp H
  obtain ⟨t377, A180, H⟩ := H
  replace H : (if t376.size + t377.size ≤ 9223372036854775807 then (some (l0_0, a0_1, t376 ++ t377)) else (none)) = some (r1, r2, r3) := H
  have A18 := Aside0.mk A180
  clear A180
  by_cases c19 : t376.size + t377.size ≤ 9223372036854775807
  ·rw [if_pos c19] at H
   have c19b0 := eq_true c19
   have c19b1 : decide (t376.size + t377.size ≤ 9223372036854775807) = true := decide_eq_true c19
   try have c19b2 : (9223372036854775807 < t376.size + t377.size) = False := eq_false (Nat.not_lt.2 c19)
   simp only [Option.some.injEq, Prod.mk.injEq] at H
   obtain ⟨rfl, rfl, rfl⟩ := H
   try go_wp2
   replace HO0_0 := Aside0.mk (Kd.R_drew HO0_0.out)
   replace BK371 := Aside0.mk (blk_drew BK371.out)
   replace BK372 := Aside0.mk (blk_drew BK372.out)
   replace BK373 := Aside0.mk (blk_drew BK373.out)
   replace HK := Aside0.mk (Kept.drew HK.out)
   replace HB := Aside0.mk (below_drew1 HB.out)
   refine start_ (n := 10) (S := fun w' => w'.cell? ⟨gb371, 0, none⟩ = some (.slice Ao5 l0_0.length co5) ∧ w'.cell? ⟨gb371, 1, none⟩ = some (.int .i64 a0_1) ∧ w'.cell? ⟨gb372, 0, none⟩ = some (.string a1_0) ∧ w'.cell? ⟨gb372, 1, none⟩ = some (.string a1_1) ∧ w'.cell? ⟨gb372, 2, none⟩ = some (.bool true)) (ds := []) #[false, false, false, false, false, false, false, false, false, false] (by kernel_rfl) rfl rfl ⟨(blk_cell BK371.out 0).trans rfl, (blk_cell BK371.out 1).trans rfl, (blk_cell BK372.out 0).trans rfl, (blk_cell BK372.out 1).trans rfl, (blk_cell BK372.out 2).trans rfl⟩ (fun hHeld => ?_); refine with_tabW spec_l11Write.tab3 spec_l11Write.bits3 (fun HT_ HW_ => ?_)
   generalize w14.drew = w20 at HO0_0 BK371 BK372 BK373 HK HB hHeld ⊢
   refine pu 1 (some 18) (bm 10 2) rfl rfl ?_
   refine pu 4 (some 21) (bm 10 18) rfl rfl ?_
   refine tk5 0 (some 17) (bm 10 19) rfl rfl hHeld ?_
   refine tk5 2 (some 19) (bm 10 23) rfl rfl hHeld ?_
   refine tk5 5 (some 22) (bm 10 55) rfl rfl hHeld ?_
   refine one_ (i := 3) (N := some 20) (bm 10 63) rfl rfl (one_of HT_.out (by kernel_rfl)) (by decide) (fun K hK => ?_)
   refine gs Try.func90 #[.int .i64 t374, .int .i64 4, .int .i64 1, .agg #[.string a1_0, .string a1_1, .bool true]] ?_
   with_reducible refine (spec_l11Name.calls k t374 4 1 a1_0 a1_1 true t376 _ A17.out).mono ?_
   rintro e w21 ⟨rfl, hb⟩
   refine ⟨_, rfl, ?_⟩
   replace HO0_0 := Aside0.mk (Kd.R_below (zr HO0_0) hb)
   replace BK371 := Aside0.mk (blk_below (g := gb371) (o := .cells #[.slice Ao5 l0_0.length co5, .int .i64 a0_1] 25 (0, 0)) (zk BK371) hb)
   replace BK372 := Aside0.mk (blk_below (g := gb372) (o := .cells #[.string a1_0, .string a1_1, .bool true] 36 (0, 0)) (zk BK372) hb)
   replace BK373 := Aside0.mk (blk_below (g := gb373) (o := .cells #[.slice none 0 0, .int .i64 0] 25 (0, 0)) (zk BK373) hb)
   replace HK := Aside0.mk (Kept.below (S := (fun k_ => P0_0_ k_)) (by repeat (first | (with_reducible first | exact HK.out | apply Kept.alloc | apply Kept.drewN | apply Kept.drew | refine Kept.setCell ?_ (.inr GW371.out) _ | refine Kept.setCell ?_ (.inr GW372.out) _ | refine Kept.setCell ?_ (.inr GW373.out) _) | exact HK.out)) hb)
   replace HB := Aside0.mk (below_step (zb HB) hb)
   (try clear hb)
   refine hK.out _ _ ⟨(blk_cell BK371.out 0).trans rfl, (blk_cell BK371.out 1).trans rfl, (blk_cell BK372.out 0).trans rfl, (blk_cell BK372.out 1).trans rfl, (blk_cell BK372.out 2).trans rfl⟩ (fun hHeld => ?_)
   clear hK K
   refine nm ?_
   refine one_ (i := 6) (N := some 23) (bm 10 127) rfl rfl (one_of HT_.out (by kernel_rfl)) (by decide) (fun K hK => ?_)
   refine gs Try.func91 #[.string a1_1] ?_
   with_reducible refine (spec_l2Write.calls k a1_1 t377 _ A18.out).mono ?_
   rintro e w22 ⟨rfl, hb⟩
   refine ⟨_, rfl, ?_⟩
   replace HO0_0 := Aside0.mk (Kd.R_below (zr HO0_0) hb)
   replace BK371 := Aside0.mk (blk_below (g := gb371) (o := .cells #[.slice Ao5 l0_0.length co5, .int .i64 a0_1] 25 (0, 0)) (zk BK371) hb)
   replace BK372 := Aside0.mk (blk_below (g := gb372) (o := .cells #[.string a1_0, .string a1_1, .bool true] 36 (0, 0)) (zk BK372) hb)
   replace BK373 := Aside0.mk (blk_below (g := gb373) (o := .cells #[.slice none 0 0, .int .i64 0] 25 (0, 0)) (zk BK373) hb)
   replace HK := Aside0.mk (Kept.below (S := (fun k_ => P0_0_ k_)) (by repeat (first | (with_reducible first | exact HK.out | apply Kept.alloc | apply Kept.drewN | apply Kept.drew | refine Kept.setCell ?_ (.inr GW371.out) _ | refine Kept.setCell ?_ (.inr GW372.out) _ | refine Kept.setCell ?_ (.inr GW373.out) _) | exact HK.out)) hb)
   replace HB := Aside0.mk (below_step (zb HB) hb)
   (try clear hb)
   refine hK.out _ _ ⟨(blk_cell BK371.out 0).trans rfl, (blk_cell BK371.out 1).trans rfl, (blk_cell BK372.out 0).trans rfl, (blk_cell BK372.out 1).trans rfl, (blk_cell BK372.out 2).trans rfl⟩ (fun hHeld => ?_)
   clear hK K
   refine nm ?_
   refine pu 7 (some 24) (bm 10 255) rfl rfl ?_
   refine one_ (i := 8) (N := none) (bm 10 511) rfl rfl (one_of HT_.out (by kernel_rfl)) (by decide) (fun K hK => ?_)
   have hs23 : w22.cell? ⟨gb373, 0, none⟩ = some (.slice none 0 0) := (blk_cell BK373.out 0).trans rfl
   have hfs23 := blk_frozen BK373.out 0
   have hns23_0 := NB371_373.out
   have hns23_1 := NB372_373.out
   have hms23_0 := NB373_371.out
   have hms23_1 := NB373_372.out
   have hs24 : w22.cell? ⟨gb373, 1, none⟩ = some (.int .i64 0) := (blk_cell BK373.out 1).trans rfl
   have hfs24 := blk_frozen BK373.out 1
   have hns24_0 := NB371_373.out
   have hns24_1 := NB372_373.out
   have hms24_0 := NB373_371.out
   have hms24_1 := NB373_372.out
   refine skip_ (w1 := ?_) (by rfl) rfl ?_ ?_
   rotate_left
   ·go_simp
    rfl
   refine hK.out _ _ ⟨((cell_far (p := ⟨gb373, _, none⟩) NB371_373.out _).trans (((cell_far (p := ⟨gb373, _, none⟩) NB371_373.out _).trans (hHeld.1)))), ((cell_far (p := ⟨gb373, _, none⟩) NB371_373.out _).trans (((cell_far (p := ⟨gb373, _, none⟩) NB371_373.out _).trans (hHeld.2.1)))), ((cell_far (p := ⟨gb373, _, none⟩) NB372_373.out _).trans (((cell_far (p := ⟨gb373, _, none⟩) NB372_373.out _).trans (hHeld.2.2.1)))), ((cell_far (p := ⟨gb373, _, none⟩) NB372_373.out _).trans (((cell_far (p := ⟨gb373, _, none⟩) NB372_373.out _).trans (hHeld.2.2.2.1)))), ((cell_far (p := ⟨gb373, _, none⟩) NB372_373.out _).trans (((cell_far (p := ⟨gb373, _, none⟩) NB372_373.out _).trans (hHeld.2.2.2.2))))⟩ (fun hHeld => ?_)
   clear hK K
   refine pu 9 (some 5) (bm 10 1023) rfl rfl ?_
   refine done_ (done_of HT_.out (by kernel_rfl)) ?_
   try go_wp2
   refine bodyPost_ret (results_ct rfl _ _ gb373 25 #[.slice Ao5 l0_0.length co5, .int .i64 a0_1] (0, 0) _ rfl (by (with_reducible repeat (first | refine blk_drewN ?_ _ | refine blk_drew ?_ | refine blk_alloc ?_ _)); refine blk_put (cs := #[.slice Ao5 l0_0.length co5, .int .i64 0]) ?_ 1 _ rfl; (with_reducible repeat (first | refine blk_drewN ?_ _ | refine blk_drew ?_ | refine blk_alloc ?_ _)); refine blk_put (cs := #[.slice none 0 0, .int .i64 0]) ?_ 0 _ rfl; exact zk BK373) Try.underlying25 rfl (by kernel_rfl)) rfl ?_
   exact ⟨_, ze, by (with_reducible repeat (first | apply Kd.R_alloc | apply Kd.R_drewN | apply Kd.R_drew)); exact Kd.R_mono (Kd.R_far (p := ⟨gb373, 1, none⟩) (Kd.R_far (p := ⟨gb373, 0, none⟩) (Kd.R_types HO0_0.out BK373.out (by decide)) (fun _ hk => hk.2) (.slice Ao5 l0_0.length co5)) (fun _ hk => hk.2) (.int .i64 a0_1)) (fun _ hk => hk.1.1), zb HB, by repeat (first | (with_reducible first | exact HK.out | apply Kept.alloc | apply Kept.drewN | apply Kept.drew | refine Kept.setCell ?_ (.inr GW371.out) _ | refine Kept.setCell ?_ (.inr GW372.out) _ | refine Kept.setCell ?_ (.inr GW373.out) _) | exact HK.out)⟩
  ·rw [if_neg c19] at H
   exact absurd H (by simp)
 ·replace c16 := Bool.eq_false_iff.mpr c16
  subst c16
  have H1 : (if t375 = true then ((spec_l1Write.f k t374 7 1).bind fun t378 => (some (l0_0, a0_1, t378))) else ((spec_l3Add.f k l0_0 a0_1 a1_0 a1_1 false).bind fun bt379 => ((spec_l11Name.f k t374 6 1 a1_0 a1_1 false).bind fun t383 => ((spec_l2Write.f k a1_1).bind fun t384 => (if t383.size + t384.size ≤ 9223372036854775807 then (some (bt379.1, bt379.2, t383 ++ t384)) else (none)))))) = some (r1, r2, r3) := by rw [if_neg (show ¬ (false = true) by decide)] at H; exact H
  clear H
  have H := H1
  clear H1
  by_cases c25 : t375 = true
  ·subst c25
   have H1 : ((spec_l1Write.f k t374 7 1).bind fun t378 => (some (l0_0, a0_1, t378))) = some (r1, r2, r3) := by rw [if_pos rfl] at H; exact H
   clear H
   have H := H1
   clear H1
   replace H := Option.bind_eq_some_iff.mp H
   obtain ⟨t378, A260, H⟩ := H
   replace H : (some (l0_0, a0_1, t378)) = some (r1, r2, r3) := H
   have A26 := Aside0.mk A260
   clear A260
   simp only [Option.some.injEq, Prod.mk.injEq] at H
   obtain ⟨rfl, rfl, rfl⟩ := H
   try go_wp2
   replace HO0_0 := Aside0.mk (Kd.R_drew HO0_0.out)
   replace BK371 := Aside0.mk (blk_drew BK371.out)
   replace BK372 := Aside0.mk (blk_drew BK372.out)
   replace BK373 := Aside0.mk (blk_drew BK373.out)
   replace HK := Aside0.mk (Kept.drew HK.out)
   replace HB := Aside0.mk (below_drew1 HB.out)
   refine start_ (n := 5) (S := fun w' => w'.cell? ⟨gb371, 0, none⟩ = some (.slice Ao5 l0_0.length co5) ∧ w'.cell? ⟨gb371, 1, none⟩ = some (.int .i64 a0_1)) (ds := []) #[false, false, false, false, false] (by kernel_rfl) rfl rfl ⟨(blk_cell BK371.out 0).trans rfl, (blk_cell BK371.out 1).trans rfl⟩ (fun hHeld => ?_)
   generalize w14.drew = w27 at HO0_0 BK371 BK372 BK373 HK HB hHeld ⊢
   refine pu 1 (some 28) (bm 5 2) rfl rfl ?_
   refine tk2 0 (some 27) (bm 5 3) rfl rfl hHeld ?_
   refine one_ (i := 2) (N := some 29) (bm 5 7) rfl rfl (by kernel_rfl) (by decide) (fun K hK => ?_)
   refine gs Try.func92 #[.int .i64 t374, .int .i64 7, .int .i64 1] ?_
   with_reducible refine (spec_l1Write.calls k t374 7 1 t378 _ A26.out).mono ?_
   rintro e w28 ⟨rfl, hb⟩
   refine ⟨_, rfl, ?_⟩
   replace HO0_0 := Aside0.mk (Kd.R_below (zr HO0_0) hb)
   replace BK371 := Aside0.mk (blk_below (g := gb371) (o := .cells #[.slice Ao5 l0_0.length co5, .int .i64 a0_1] 25 (0, 0)) (zk BK371) hb)
   replace BK372 := Aside0.mk (blk_below (g := gb372) (o := .cells #[.string a1_0, .string a1_1, .bool false] 36 (0, 0)) (zk BK372) hb)
   replace BK373 := Aside0.mk (blk_below (g := gb373) (o := .cells #[.slice none 0 0, .int .i64 0] 25 (0, 0)) (zk BK373) hb)
   replace HK := Aside0.mk (Kept.below (S := (fun k_ => P0_0_ k_)) (by repeat (first | (with_reducible first | exact HK.out | apply Kept.alloc | apply Kept.drewN | apply Kept.drew | refine Kept.setCell ?_ (.inr GW371.out) _ | refine Kept.setCell ?_ (.inr GW372.out) _ | refine Kept.setCell ?_ (.inr GW373.out) _) | exact HK.out)) hb)
   replace HB := Aside0.mk (below_step (zb HB) hb)
   (try clear hb)
   refine hK.out _ _ ⟨(blk_cell BK371.out 0).trans rfl, (blk_cell BK371.out 1).trans rfl⟩ (fun hHeld => ?_)
   clear hK K
   refine nm ?_
   refine one_ (i := 3) (N := none) (bm 5 15) rfl rfl (by kernel_rfl) (by decide) (fun K hK => ?_)
   have hs29 : w28.cell? ⟨gb373, 0, none⟩ = some (.slice none 0 0) := (blk_cell BK373.out 0).trans rfl
   have hfs29 := blk_frozen BK373.out 0
   have hns29_0 := NB371_373.out
   have hns29_1 := NB372_373.out
   have hms29_0 := NB373_371.out
   have hms29_1 := NB373_372.out
   have hs30 : w28.cell? ⟨gb373, 1, none⟩ = some (.int .i64 0) := (blk_cell BK373.out 1).trans rfl
   have hfs30 := blk_frozen BK373.out 1
   have hns30_0 := NB371_373.out
   have hns30_1 := NB372_373.out
   have hms30_0 := NB373_371.out
   have hms30_1 := NB373_372.out
   refine skip_ (w1 := ?_) (by rfl) rfl ?_ ?_
   rotate_left
   ·go_simp
    rfl
   refine hK.out _ _ ⟨((cell_far (p := ⟨gb373, _, none⟩) NB371_373.out _).trans (((cell_far (p := ⟨gb373, _, none⟩) NB371_373.out _).trans (hHeld.1)))), ((cell_far (p := ⟨gb373, _, none⟩) NB371_373.out _).trans (((cell_far (p := ⟨gb373, _, none⟩) NB371_373.out _).trans (hHeld.2))))⟩ (fun hHeld => ?_)
   clear hK K
   refine pu 4 (some 5) (bm 5 31) rfl rfl ?_
   refine done_ (by kernel_rfl) ?_
   try go_wp2
   refine bodyPost_ret (results_ct rfl _ _ gb373 25 #[.slice Ao5 l0_0.length co5, .int .i64 a0_1] (0, 0) _ rfl (by (with_reducible repeat (first | refine blk_drewN ?_ _ | refine blk_drew ?_ | refine blk_alloc ?_ _)); refine blk_put (cs := #[.slice Ao5 l0_0.length co5, .int .i64 0]) ?_ 1 _ rfl; (with_reducible repeat (first | refine blk_drewN ?_ _ | refine blk_drew ?_ | refine blk_alloc ?_ _)); refine blk_put (cs := #[.slice none 0 0, .int .i64 0]) ?_ 0 _ rfl; exact zk BK373) Try.underlying25 rfl (by kernel_rfl)) rfl ?_
   exact ⟨_, ze, by (with_reducible repeat (first | apply Kd.R_alloc | apply Kd.R_drewN | apply Kd.R_drew)); exact Kd.R_mono (Kd.R_far (p := ⟨gb373, 1, none⟩) (Kd.R_far (p := ⟨gb373, 0, none⟩) (Kd.R_types HO0_0.out BK373.out (by decide)) (fun _ hk => hk.2) (.slice Ao5 l0_0.length co5)) (fun _ hk => hk.2) (.int .i64 a0_1)) (fun _ hk => hk.1.1), zb HB, by repeat (first | (with_reducible first | exact HK.out | apply Kept.alloc | apply Kept.drewN | apply Kept.drew | refine Kept.setCell ?_ (.inr GW371.out) _ | refine Kept.setCell ?_ (.inr GW372.out) _ | refine Kept.setCell ?_ (.inr GW373.out) _) | exact HK.out)⟩
  ·replace c25 := Bool.eq_false_iff.mpr c25
   subst c25
   have H1 : ((spec_l3Add.f k l0_0 a0_1 a1_0 a1_1 false).bind fun bt379 => ((spec_l11Name.f k t374 6 1 a1_0 a1_1 false).bind fun t383 => ((spec_l2Write.f k a1_1).bind fun t384 => (if t383.size + t384.size ≤ 9223372036854775807 then (some (bt379.1, bt379.2, t383 ++ t384)) else (none))))) = some (r1, r2, r3) := by rw [if_neg (show ¬ (false = true) by decide)] at H; exact H
   clear H
   have H := H1
   clear H1
   replace H := Option.bind_eq_some_iff.mp H
   obtain ⟨⟨t379, t382⟩, A310, H⟩ := H
   replace H : ((spec_l11Name.f k t374 6 1 a1_0 a1_1 false).bind fun t383 => ((spec_l2Write.f k a1_1).bind fun t384 => (if t383.size + t384.size ≤ 9223372036854775807 then (some (t379, t382, t383 ++ t384)) else (none)))) = some (r1, r2, r3) := H
   have A31 := Aside0.mk A310
   clear A310
   replace H := Option.bind_eq_some_iff.mp H
   obtain ⟨t383, A320, H⟩ := H
   replace H : ((spec_l2Write.f k a1_1).bind fun t384 => (if t383.size + t384.size ≤ 9223372036854775807 then (some (t379, t382, t383 ++ t384)) else (none))) = some (r1, r2, r3) := H
   have A32 := Aside0.mk A320
   clear A320
   replace H := Option.bind_eq_some_iff.mp H
   obtain ⟨t384, A330, H⟩ := H
   replace H : (if t383.size + t384.size ≤ 9223372036854775807 then (some (t379, t382, t383 ++ t384)) else (none)) = some (r1, r2, r3) := H
   have A33 := Aside0.mk A330
   clear A330
   by_cases c34 : t383.size + t384.size ≤ 9223372036854775807
   ·rw [if_pos c34] at H
    have c34b0 := eq_true c34
    have c34b1 : decide (t383.size + t384.size ≤ 9223372036854775807) = true := decide_eq_true c34
    try have c34b2 : (9223372036854775807 < t383.size + t384.size) = False := eq_false (Nat.not_lt.2 c34)
    simp only [Option.some.injEq, Prod.mk.injEq] at H
    obtain ⟨rfl, rfl, rfl⟩ := H
    try go_wp2
    replace HO0_0 := Aside0.mk (Kd.R_drew HO0_0.out)
    replace BK371 := Aside0.mk (blk_drew BK371.out)
    replace BK372 := Aside0.mk (blk_drew BK372.out)
    replace BK373 := Aside0.mk (blk_drew BK373.out)
    replace HK := Aside0.mk (Kept.drew HK.out)
    replace HB := Aside0.mk (below_drew1 HB.out)
    refine start_ (n := 12) (S := fun w' => w'.cell? ⟨gb371, 0, none⟩ = some (.slice Ao5 l0_0.length co5) ∧ w'.cell? ⟨gb371, 1, none⟩ = some (.int .i64 a0_1) ∧ w'.cell? ⟨gb372, 0, none⟩ = some (.string a1_0) ∧ w'.cell? ⟨gb372, 1, none⟩ = some (.string a1_1) ∧ w'.cell? ⟨gb372, 2, none⟩ = some (.bool false)) (ds := []) #[false, false, false, false, false, false, false, false, false, false, false, false] (by kernel_rfl) rfl rfl ⟨(blk_cell BK371.out 0).trans rfl, (blk_cell BK371.out 1).trans rfl, (blk_cell BK372.out 0).trans rfl, (blk_cell BK372.out 1).trans rfl, (blk_cell BK372.out 2).trans rfl⟩ (fun hHeld => ?_); refine with_tabW spec_l11Write.tab6 spec_l11Write.bits6 (fun HT_ HW_ => ?_)
    generalize w14.drew = w35 at HO0_0 BK371 BK372 BK373 HK HB hHeld ⊢
    refine pu 3 (some 33) (bm 12 8) rfl rfl ?_
    refine pu 6 (some 36) (bm 12 72) rfl rfl ?_
    refine tk5 0 (some 30) (bm 12 73) rfl rfl hHeld ?_
    refine tk5 1 (some 31) (bm 12 75) rfl rfl hHeld ?_
    refine tk5 4 (some 34) (bm 12 91) rfl rfl hHeld ?_
    refine tk5 7 (some 37) (bm 12 219) rfl rfl hHeld ?_
    refine one_ (i := 2) (N := some 32) (bm 12 223) rfl rfl (one_of HT_.out (by kernel_rfl)) (by decide) (fun K hK => ?_)
    refine gs Try.func60 #[.agg #[.slice Ao5 l0_0.length co5, .int .i64 a0_1], .agg #[.string a1_0, .string a1_1, .bool false]] ?_
    with_reducible refine (spec_l3Add.calls k _ _ l0_0 a0_1 a1_0 a1_1 false t379 t382 _ ?side1 ?side2 A31.out).mono ?_
    (case side1 => exact zc (Kd.R_reads' HO0_0.out).2.2)
    (case side2 => exact (Kd.R_reads' HO0_0.out).2.1)
    rintro e w36 ⟨v380, rfl, ho0, hb⟩
    refine ⟨_, rfl, ?_⟩
    have HO381 := Aside0.mk (Kd.R_lower (Kd.R_newB (Kd.R_new' (Kd.R_newM (M := fun k_ => (P0_0_ k_ ∨ w.heap.size ≤ k_)) ho0 (by first | exact HK.out.1 | exact (show Kept w _ (fun k_ => P0_0_ k_) from by repeat (first | (with_reducible first | exact HK.out | apply Kept.alloc | apply Kept.drewN | apply Kept.drew | refine Kept.setCell ?_ (.inr GW371.out) _ | refine Kept.setCell ?_ (.inr GW372.out) _ | refine Kept.setCell ?_ (.inr GW373.out) _) | exact HK.out)).1) (fun k_ h_ => .inr h_)) (Kd.R_lt (zr HO0_0))) (g := gb372) (o := .cells #[.string a1_0, .string a1_1, .bool false] 36 (0, 0)) (zk BK372)) (below_size (zb HB)))
    replace HO0_0 := Aside0.mk (Kd.R_elder' (zr HO0_0) (Kd.R_base ho0) hb)
    replace BK371 := Aside0.mk (blk_below (g := gb371) (o := .cells #[.slice Ao5 l0_0.length co5, .int .i64 a0_1] 25 (0, 0)) (zk BK371) hb)
    replace BK372 := Aside0.mk (blk_below (g := gb372) (o := .cells #[.string a1_0, .string a1_1, .bool false] 36 (0, 0)) (zk BK372) hb)
    replace BK373 := Aside0.mk (blk_below (g := gb373) (o := .cells #[.slice none 0 0, .int .i64 0] 25 (0, 0)) (zk BK373) hb)
    replace HK := Aside0.mk (Kept.below (S := (fun k_ => P0_0_ k_)) (by repeat (first | (with_reducible first | exact HK.out | apply Kept.alloc | apply Kept.drewN | apply Kept.drew | refine Kept.setCell ?_ (.inr GW371.out) _ | refine Kept.setCell ?_ (.inr GW372.out) _ | refine Kept.setCell ?_ (.inr GW373.out) _) | exact HK.out)) hb)
    replace HB := Aside0.mk (below_step (zb HB) hb)
    (try clear hb)
    (try clear ho0)
    refine hK.out _ _ ⟨(blk_cell BK371.out 0).trans rfl, (blk_cell BK371.out 1).trans rfl, (blk_cell BK372.out 0).trans rfl, (blk_cell BK372.out 1).trans rfl, (blk_cell BK372.out 2).trans rfl⟩ (fun hHeld => ?_)
    clear hK K
    refine nm ?_
    refine one_ (i := 5) (N := some 35) (bm 12 255) rfl rfl (one_of HT_.out (by kernel_rfl)) (by decide) (fun K hK => ?_)
    refine gs Try.func90 #[.int .i64 t374, .int .i64 6, .int .i64 1, .agg #[.string a1_0, .string a1_1, .bool false]] ?_
    with_reducible refine (spec_l11Name.calls k t374 6 1 a1_0 a1_1 false t383 _ A32.out).mono ?_
    rintro e w37 ⟨rfl, hb⟩
    refine ⟨_, rfl, ?_⟩
    replace HO0_0 := Aside0.mk (Kd.R_below (zr HO0_0) hb)
    replace HO381 := Aside0.mk (Kd.R_below (zr HO381) hb)
    replace BK371 := Aside0.mk (blk_below (g := gb371) (o := .cells #[.slice Ao5 l0_0.length co5, .int .i64 a0_1] 25 (0, 0)) (zk BK371) hb)
    replace BK372 := Aside0.mk (blk_below (g := gb372) (o := .cells #[.string a1_0, .string a1_1, .bool false] 36 (0, 0)) (zk BK372) hb)
    replace BK373 := Aside0.mk (blk_below (g := gb373) (o := .cells #[.slice none 0 0, .int .i64 0] 25 (0, 0)) (zk BK373) hb)
    replace HK := Aside0.mk (Kept.below (S := (fun k_ => P0_0_ k_)) (by repeat (first | (with_reducible first | exact HK.out | apply Kept.alloc | apply Kept.drewN | apply Kept.drew | refine Kept.setCell ?_ (.inr GW371.out) _ | refine Kept.setCell ?_ (.inr GW372.out) _ | refine Kept.setCell ?_ (.inr GW373.out) _) | exact HK.out)) hb)
    replace HB := Aside0.mk (below_step (zb HB) hb)
    (try clear hb)
    refine hK.out _ _ ⟨(blk_cell BK371.out 0).trans rfl, (blk_cell BK371.out 1).trans rfl, (blk_cell BK372.out 0).trans rfl, (blk_cell BK372.out 1).trans rfl, (blk_cell BK372.out 2).trans rfl⟩ (fun hHeld => ?_)
    clear hK K
    refine nm ?_
    refine one_ (i := 8) (N := some 38) (bm 12 511) rfl rfl (one_of HT_.out (by kernel_rfl)) (by decide) (fun K hK => ?_)
    refine gs Try.func91 #[.string a1_1] ?_
    with_reducible refine (spec_l2Write.calls k a1_1 t384 _ A33.out).mono ?_
    rintro e w38 ⟨rfl, hb⟩
    refine ⟨_, rfl, ?_⟩
    replace HO0_0 := Aside0.mk (Kd.R_below (zr HO0_0) hb)
    replace HO381 := Aside0.mk (Kd.R_below (zr HO381) hb)
    replace BK371 := Aside0.mk (blk_below (g := gb371) (o := .cells #[.slice Ao5 l0_0.length co5, .int .i64 a0_1] 25 (0, 0)) (zk BK371) hb)
    replace BK372 := Aside0.mk (blk_below (g := gb372) (o := .cells #[.string a1_0, .string a1_1, .bool false] 36 (0, 0)) (zk BK372) hb)
    replace BK373 := Aside0.mk (blk_below (g := gb373) (o := .cells #[.slice none 0 0, .int .i64 0] 25 (0, 0)) (zk BK373) hb)
    replace HK := Aside0.mk (Kept.below (S := (fun k_ => P0_0_ k_)) (by repeat (first | (with_reducible first | exact HK.out | apply Kept.alloc | apply Kept.drewN | apply Kept.drew | refine Kept.setCell ?_ (.inr GW371.out) _ | refine Kept.setCell ?_ (.inr GW372.out) _ | refine Kept.setCell ?_ (.inr GW373.out) _) | exact HK.out)) hb)
    replace HB := Aside0.mk (below_step (zb HB) hb)
    (try clear hb)
    obtain ⟨Ao39, co39, eo39⟩ := Kd.R_slice HO381.out
    (first | subst eo39 | (injection eo39 with f1_ f2_ f3_; have f4_ := f1_.symm; have f5_ := f3_.symm; clear f1_ f2_ f3_; subst f4_; subst f5_))
    refine hK.out _ _ ⟨(blk_cell BK371.out 0).trans rfl, (blk_cell BK371.out 1).trans rfl, (blk_cell BK372.out 0).trans rfl, (blk_cell BK372.out 1).trans rfl, (blk_cell BK372.out 2).trans rfl⟩ (fun hHeld => ?_)
    clear hK K
    refine nm ?_
    refine pu 9 (some 39) (bm 12 1023) rfl rfl ?_
    refine one_ (i := 10) (N := none) (bm 12 2047) rfl rfl (one_of HT_.out (by kernel_rfl)) (by decide) (fun K hK => ?_)
    have hs40 : w38.cell? ⟨gb373, 0, none⟩ = some (.slice none 0 0) := (blk_cell BK373.out 0).trans rfl
    have hfs40 := blk_frozen BK373.out 0
    have hns40_0 := NB371_373.out
    have hns40_1 := NB372_373.out
    have hms40_0 := NB373_371.out
    have hms40_1 := NB373_372.out
    have hs41 : w38.cell? ⟨gb373, 1, none⟩ = some (.int .i64 0) := (blk_cell BK373.out 1).trans rfl
    have hfs41 := blk_frozen BK373.out 1
    have hns41_0 := NB371_373.out
    have hns41_1 := NB372_373.out
    have hms41_0 := NB373_371.out
    have hms41_1 := NB373_372.out
    refine skip_ (w1 := ?_) (by rfl) rfl ?_ ?_
    rotate_left
    ·go_simp
     rfl
    refine hK.out _ _ ⟨((cell_far (p := ⟨gb373, _, none⟩) NB371_373.out _).trans (((cell_far (p := ⟨gb373, _, none⟩) NB371_373.out _).trans (hHeld.1)))), ((cell_far (p := ⟨gb373, _, none⟩) NB371_373.out _).trans (((cell_far (p := ⟨gb373, _, none⟩) NB371_373.out _).trans (hHeld.2.1)))), ((cell_far (p := ⟨gb373, _, none⟩) NB372_373.out _).trans (((cell_far (p := ⟨gb373, _, none⟩) NB372_373.out _).trans (hHeld.2.2.1)))), ((cell_far (p := ⟨gb373, _, none⟩) NB372_373.out _).trans (((cell_far (p := ⟨gb373, _, none⟩) NB372_373.out _).trans (hHeld.2.2.2.1)))), ((cell_far (p := ⟨gb373, _, none⟩) NB372_373.out _).trans (((cell_far (p := ⟨gb373, _, none⟩) NB372_373.out _).trans (hHeld.2.2.2.2))))⟩ (fun hHeld => ?_)
    clear hK K
    refine pu 11 (some 5) (bm 12 4095) rfl rfl ?_
    refine done_ (done_of HT_.out (by kernel_rfl)) ?_
    try go_wp2
    refine bodyPost_ret (results_ct rfl _ _ gb373 25 #[.slice Ao39 t379.length co39, .int .i64 t382] (0, 0) _ rfl (by (with_reducible repeat (first | refine blk_drewN ?_ _ | refine blk_drew ?_ | refine blk_alloc ?_ _)); refine blk_put (cs := #[.slice Ao39 t379.length co39, .int .i64 0]) ?_ 1 _ rfl; (with_reducible repeat (first | refine blk_drewN ?_ _ | refine blk_drew ?_ | refine blk_alloc ?_ _)); refine blk_put (cs := #[.slice none 0 0, .int .i64 0]) ?_ 0 _ rfl; exact zk BK373) Try.underlying25 rfl (by kernel_rfl)) rfl ?_
    exact ⟨_, ze, by (with_reducible repeat (first | apply Kd.R_alloc | apply Kd.R_drewN | apply Kd.R_drew)); exact Kd.R_mono (Kd.R_far (p := ⟨gb373, 1, none⟩) (Kd.R_far (p := ⟨gb373, 0, none⟩) (Kd.R_types HO381.out BK373.out (by decide)) (fun _ hk => hk.2) (.slice Ao39 t379.length co39)) (fun _ hk => hk.2) (.int .i64 t382)) (fun _ hk => hk.1.1.1.1), zb HB, by repeat (first | (with_reducible first | exact HK.out | apply Kept.alloc | apply Kept.drewN | apply Kept.drew | refine Kept.setCell ?_ (.inr GW371.out) _ | refine Kept.setCell ?_ (.inr GW372.out) _ | refine Kept.setCell ?_ (.inr GW373.out) _) | exact HK.out)⟩
   ·rw [if_neg c34] at H
    exact absurd H (by simp)

/-! ### spec_l11All: function 64 -/
-- thin
def spec_l11All.l0 : Nat → List (S36) → ByteArray → Int → List (S36) → Int → Option ((List (S36)) × Int × ByteArray)
 | 0, _, _, _, _, _ => none
 | k + 1, x1, x6, x7, x386000, x386001 => if x7 < (x1.length : Int) then (if 0 ≤ x7 then ((spec_l11Write.f k x386000 x386001 ((rd_T36 x1 x7).f0) ((rd_T36 x1 x7).f1) ((rd_T36 x1 x7).f2)).bind fun bt388 => (if x6.size + bt388.2.2.size ≤ 9223372036854775807 then (spec_l11All.l0 k x1 (x6 ++ bt388.2.2) (wrap64 (x7 + 1)) bt388.1 bt388.2.1) else (none))) else (none)) else (some (x386000, x386001, x6))
def spec_l11All.f (k : Nat) (l0_0 : List (S36)) (a0_1 : Int) (l1 : List (S36)) : Option ((List (S36)) × Int × ByteArray) := spec_l11All.l0 k l1 (⟨#[]⟩ : ByteArray) 0 l0_0 a0_1
theorem spec_l11All.mono_l : ∀ k, (∀ y0 y1 y2 y3 y4, LeO (spec_l11All.l0 k y0 y1 y2 y3 y4) (spec_l11All.l0 (k + 1) y0 y1 y2 y3 y4))
 | 0 => fun _ _ _ _ _ r h => by simp [spec_l11All.l0] at h
 | k + 1 => by
  have ih0 := spec_l11All.mono_l k
  ·intro y0 y1 y2 y3 y4
   unfold spec_l11All.l0
   repeat' first
   | (with_reducible exact ih0 _ _ _ _ _)
   | (with_reducible exact spec_l11Write.mono _ _ _ _ _ _)
   | (with_reducible exact LeO.refl _)
   | (with_reducible exact LeO.none _)
   | (with_reducible refine LeO.ite ?_ ?_)
   | (with_reducible refine LeO.bind ?_ (fun _ => ?_))
   | exact ih0 _ _ _ _ _
   | exact spec_l11Write.mono _ _ _ _ _ _
   | exact LeO.none _
   | refine LeO.ite ?_ ?_
   | refine LeO.bind ?_ (fun _ => ?_)
theorem spec_l11All.mono : ∀ a0 a1 a2 k, LeO (spec_l11All.f k a0 a1 a2) (spec_l11All.f (k + 1) a0 a1 a2) := by
 intro a0 a1 a2 k
 have ih0 := spec_l11All.mono_l k
 unfold spec_l11All.f
 repeat' first
   | (with_reducible exact ih0 _ _ _ _ _)
   | (with_reducible exact spec_l11Write.mono _ _ _ _ _ _)
   | (with_reducible exact LeO.refl _)
   | (with_reducible exact LeO.none _)
   | (with_reducible refine LeO.ite ?_ ?_)
   | (with_reducible refine LeO.bind ?_ (fun _ => ?_))
   | exact ih0 _ _ _ _ _
   | exact spec_l11Write.mono _ _ _ _ _ _
   | exact LeO.none _
   | refine LeO.ite ?_ ?_
   | refine LeO.bind ?_ (fun _ => ?_)
def spec_l11All.T5 : Bool × List (List Nat × List Nat) := (true, [([], []), ([], []), ([], []), ([1, 2], [1, 2]), ([3], [3]), ([0, 4], [0, 4]), ([5], [5]), ([6], [6]), ([6], [6]), ([], []), ([9, 7, 5, 0, 1, 2, 3, 4, 5, 6, 7, 9], [7, 9]), ([8, 10, 0, 1, 2, 3, 4, 5, 6, 7, 8, 9, 10], [8])])
def spec_l11All.B5 : List Nat := [0, 0, 0, 6, 14, 31, 63, 127, 127, 0, 767, 2047]
theorem spec_l11All.tab5 : rtab .any (opsOf Try.f64 5) = spec_l11All.T5 := by kernel_rfl
theorem spec_l11All.bits5 : waitsOk spec_l11All.T5.2 spec_l11All.B5 = true := by kernel_rfl
set_option maxHeartbeats 8000000 in
set_option maxRecDepth 100000 in
theorem spec_l11All.calls (k : Nat) (P0_0_ : Nat → Prop) (u9000_ : Value) (l0_0 : List (S36)) (a0_1 : Int) (A1 : Option Addr) (c1 : Nat) (l1 : List (S36)) (r1 : List (S36)) (r2 : Int) (r3 : ByteArray) (w0 w : World) (hB : Below w0.heap.size w0 w) (ho0_0 : Kd.R k36 36 w w0.heap.size P0_0_ u9000_ l0_0) (hr1 : ∀ W_, Kept w W_ (fun k_ => P0_0_ k_) → Kd.C k36 W_ A1 l1.length l1) (hc1 : l1.length ≤ c1) (h : spec_l11All.f k l0_0 a0_1 l1 = some (r1, r2, r3)) :
  Calls Try.prog 64 #[.agg #[u9000_, .int .i64 a0_1], .slice A1 l1.length c1] w fun e w' => ∃ v0_ : Value, e = .returned (.tuple #[.agg #[v0_, .int .i64 r2], .string r3]) ∧ Kd.R k36 36 w' w0.heap.size (fun k_ => (P0_0_ k_ ∨ w.heap.size ≤ k_)) v0_ r1 ∧ Below w0.heap.size w0 w' ∧ Kept w w' (fun k_ => P0_0_ k_) := by
 have hu25 := Try.underlying25
 have hu36 := Try.underlying36
 have HO0_0 := Aside0.mk (show Kd.R k36 36 w w0.heap.size (fun k_ => (P0_0_ k_ ∨ w.heap.size ≤ k_)) u9000_ l0_0 from Kd.R_mono ho0_0 (fun k_ hk => (.inl hk)))
 have HR1 := Aside0.mk hr1
 have HC1 := Aside0.mk hc1
 clear hr1 hc1
 have HK := Aside0.mk (Kept.refl w (fun k_ => P0_0_ k_))
 have HW0 := Aside0.mk hB.size
 have HB := Aside0.mk hB
 clear hB
 have H : (spec_l11All.l0 k l1 (⟨#[]⟩ : ByteArray) 0 l0_0 a0_1) = some (r1, r2, r3) := h
 clear h
 have H' := Aside0.mk H
 clear H
 obtain ⟨Ao3, co3, eo3⟩ := Kd.R_slice HO0_0.out
 subst eo3
 go_enter Try.func64, Try.ntmps64
 go_wp2_with (first | ((with_reducible refine gd 2 rfl ?_); refine bx (N := 2) (cs := #[.slice Ao3 l0_0.length co3, .int .i64 a0_1]) (t := 25) ?_; intro gb385 hg w4 hbox hb; replace HO0_0 := Aside0.mk (Kd.R_below (zr HO0_0) hb); have BK385 := Aside0.mk (hbox); have GW385 := Aside0.mk ((by rw [hg]; exact (by first | exact HK.out.1 | exact (show Kept w _ (fun k_ => P0_0_ k_) from by repeat (first | (with_reducible first | exact HK.out | apply Kept.alloc | apply Kept.drewN | apply Kept.drew) | exact HK.out)).1) : w.heap.size ≤ gb385)); replace HK := Aside0.mk (Kept.below (S := (fun k_ => P0_0_ k_)) (by repeat (first | (with_reducible first | exact HK.out | apply Kept.alloc | apply Kept.drewN | apply Kept.drew) | exact HK.out)) hb); have GE385 := Aside0.mk ((by rw [hg]; exact (below_size (zb HB)) : w0.heap.size ≤ gb385)); replace HB := Aside0.mk (below_step (zb HB) hb); clear hb hbox hg) | ((with_reducible refine gd 4 rfl ?_); refine bx (N := 4) (cs := #[.slice none 0 0, .int .i64 0]) (t := 25) ?_; intro gb386 hg w5 hbox hb; replace HO0_0 := Aside0.mk (Kd.R_below (zr HO0_0) hb); have BK386 := Aside0.mk (hbox); have GW386 := Aside0.mk ((by rw [hg]; exact (by first | exact HK.out.1 | exact (show Kept w _ (fun k_ => P0_0_ k_) from by repeat (first | (with_reducible first | exact HK.out | apply Kept.alloc | apply Kept.drewN | apply Kept.drew | refine Kept.setCell ?_ (.inr GW385.out) _) | exact HK.out)).1) : w.heap.size ≤ gb386)); replace HK := Aside0.mk (Kept.below (S := (fun k_ => P0_0_ k_)) (by repeat (first | (with_reducible first | exact HK.out | apply Kept.alloc | apply Kept.drewN | apply Kept.drew | refine Kept.setCell ?_ (.inr GW385.out) _) | exact HK.out)) hb); have GE386 := Aside0.mk ((by rw [hg]; exact (below_size (zb HB)) : w0.heap.size ≤ gb386)); replace HB := Aside0.mk (below_step (zb HB) hb); have NB385_386 := Aside0.mk ((by rw [hg]; exact Nat.ne_of_lt (blk_lt (g := gb385) (o := .cells #[.slice Ao3 l0_0.length co3, .int .i64 a0_1] 25 (0, 0)) (zk BK385)) : gb385 ≠ gb386)); have NB386_385 := Aside0.mk ((by rw [hg]; exact Nat.ne_of_gt (blk_lt (g := gb385) (o := .cells #[.slice Ao3 l0_0.length co3, .int .i64 a0_1] 25 (0, 0)) (zk BK385)) : gb386 ≠ gb385)); replace BK385 := Aside0.mk (blk_below (g := gb385) (o := .cells #[.slice Ao3 l0_0.length co3, .int .i64 a0_1] 25 (0, 0)) (zk BK385) hb); clear hb hbox hg))
 go_loopg [6, 7] k (fun kq v6 v7 w' => ∃ (x6_1 : ByteArray) (x7_1 : Int) (x386000_1 : List (S36)) (x386001_1 : Int) (u386000 : Value), v6 = .string x6_1 ∧ v7 = .int .i64 x7_1 ∧ Aside0 (spec_l11All.l0 kq l1 x6_1 x7_1 x386000_1 x386001_1 = some (r1, r2, r3)) ∧ Aside0 (kq ≤ k) ∧ Aside0 (Kd.R k36 36 w' w0.heap.size (fun k_ => (P0_0_ k_ ∨ w.heap.size ≤ k_)) u386000 x386000_1) ∧ Aside0 (w'.heap[gb385]? = some (.cells #[u386000, .int .i64 x386001_1] 25 (0, 0))) ∧ Aside0 (w'.heap[gb386]? = some (.cells #[(.slice none 0 0), .int .i64 0] 25 (0, 0))) ∧ Aside0 (Kept w w' (fun k_ => P0_0_ k_)) ∧ Aside0 (Below w0.heap.size w0 w'))
 case atStart => exact ⟨((⟨#[]⟩ : ByteArray)), (0), (l0_0), (a0_1), (.slice Ao3 l0_0.length co3), zs, zs, H', ⟨Nat.le_refl _⟩, ⟨by exact zr HO0_0⟩, ⟨by exact zk BK385⟩, ⟨by exact zk BK386⟩, ⟨by repeat (first | (with_reducible first | exact HK.out | apply Kept.alloc | apply Kept.drewN | apply Kept.drew | refine Kept.setCell ?_ (.inr GW385.out) _ | refine Kept.setCell ?_ (.inr GW386.out) _) | exact HK.out)⟩, ⟨zb HB⟩⟩
 case round =>
  clear H'
  try clear c1
  try clear p2
  obtain ⟨x6_1, x7_1, x386000_1, x386001_1, u386000, rfl, rfl, HA, HK1, HO_386000, BK385, BK386, HK, HB⟩ := hrel
  cases gk with
  | zero => exact absurd HA.out (by simp [spec_l11All.l0])
  | succ k1 =>
   have H := HA.out
   clear HA
   simp only [spec_l11All.l0] at H
   by_cases c6 : x7_1 < (l1.length : Int)
   ·rw [if_pos c6] at H
    have c6b0 : decide (x7_1 < (l1.length : Int)) = true := decide_eq_true c6
    clear c6
    by_cases c7 : 0 ≤ x7_1
    ·rw [if_pos c7] at H
     have c7b0 : decide (0 ≤ x7_1) = true := decide_eq_true c7
     clear c7
     replace H := Option.bind_eq_some_iff.mp H
     obtain ⟨⟨t388, t391, t392⟩, A80, H⟩ := H
     replace H : (if x6_1.size + t392.size ≤ 9223372036854775807 then (spec_l11All.l0 k1 l1 (x6_1 ++ t392) (wrap64 (x7_1 + 1)) t388 t391) else (none)) = some (r1, r2, r3) := H
     have A8 := Aside0.mk A80
     clear A80
     by_cases c9 : x6_1.size + t392.size ≤ 9223372036854775807
     ·rw [if_pos c9] at H
      have c9b0 := eq_true c9
      have c9b1 : decide (x6_1.size + t392.size ≤ 9223372036854775807) = true := decide_eq_true c9
      try have c9b2 : (9223372036854775807 < x6_1.size + t392.size) = False := eq_false (Nat.not_lt.2 c9)
      have H' := Aside0.mk H
      clear H
      obtain ⟨Ao10, co10, eo10⟩ := Kd.R_slice HO_386000.out
      subst eo10
      try go_wp2
      replace HO_386000 := Aside0.mk (Kd.R_drew HO_386000.out)
      replace BK385 := Aside0.mk (blk_drew BK385.out)
      replace BK386 := Aside0.mk (blk_drew BK386.out)
      replace HK := Aside0.mk (Kept.drew HK.out)
      replace HB := Aside0.mk (below_drew1 HB.out)
      have p387 : 0 ≤ (x7_1 : Int) := of_decide_eq_true za
      have q387 : x7_1 < (l1.length : Int) := of_decide_eq_true za
      obtain ⟨ad387, e387, hx387_0, hx387_1, hx387_2⟩ := at_T36 (Kd.C_kept_now HR1.out HK.out) x7_1 p387 q387
      have hw387_2 := hx387_2
      have hw387_1 := hx387_1
      have hw387_0 := hx387_0
      cases e387
      replace p387 := eq_true p387
      replace q387 := eq_true q387
      refine start_ (n := 12) (S := fun w' => w'.cell? ⟨gb385, 0, none⟩ = some (.slice Ao10 x386000_1.length co10) ∧ w'.cell? ⟨gb385, 1, none⟩ = some (.int .i64 x386001_1) ∧ w'.cell? (ad387.add ((x7_1).toNat * 3)) = some (.string ((rd_T36 l1 x7_1).f0)) ∧ w'.cell? ⟨(ad387.add ((x7_1).toNat * 3)).block, (ad387.add ((x7_1).toNat * 3)).off + 1, none⟩ = some (.string ((rd_T36 l1 x7_1).f1)) ∧ w'.cell? ⟨(ad387.add ((x7_1).toNat * 3)).block, (ad387.add ((x7_1).toNat * 3)).off + 2, none⟩ = some (.bool ((rd_T36 l1 x7_1).f2))) (ds := []) #[false, false, false, false, false, false, false, false, false, false, false, false] (by kernel_rfl) rfl rfl ⟨(blk_cell BK385.out 0).trans rfl, (blk_cell BK385.out 1).trans rfl, (by first | (show World.cell? ?W1_ _ = _; obtain ⟨_, e_, q0_, q1_, q2_⟩ := at_T36 (HR1.out ?W1_ (by repeat (first | exact HK.out | apply Kept.alloc | apply Kept.drewN | apply Kept.drew | refine Kept.setCell ?_ (.inr GW393.out) _ | refine Kept.setCell ?_ (.inr GW393.out) _))) x7_1 (of_eq_true p387) (of_eq_true q387); cases e_; exact q0_) | (obtain ⟨_, e_, q0_, q1_, q2_⟩ := at_T36 (HR1.out _ (by repeat (first | exact HK.out | apply Kept.alloc | apply Kept.drewN | apply Kept.drew | refine Kept.setCell ?_ (.inr GW393.out) _ | refine Kept.setCell ?_ (.inr GW393.out) _))) x7_1 (of_eq_true p387) (of_eq_true q387); cases e_; exact q0_)), (by first | (show World.cell? ?W2_ _ = _; obtain ⟨_, e_, q0_, q1_, q2_⟩ := at_T36 (HR1.out ?W2_ (by repeat (first | exact HK.out | apply Kept.alloc | apply Kept.drewN | apply Kept.drew | refine Kept.setCell ?_ (.inr GW393.out) _ | refine Kept.setCell ?_ (.inr GW393.out) _))) x7_1 (of_eq_true p387) (of_eq_true q387); cases e_; exact q1_) | (obtain ⟨_, e_, q0_, q1_, q2_⟩ := at_T36 (HR1.out _ (by repeat (first | exact HK.out | apply Kept.alloc | apply Kept.drewN | apply Kept.drew | refine Kept.setCell ?_ (.inr GW393.out) _ | refine Kept.setCell ?_ (.inr GW393.out) _))) x7_1 (of_eq_true p387) (of_eq_true q387); cases e_; exact q1_)), (by first | (show World.cell? ?W3_ _ = _; obtain ⟨_, e_, q0_, q1_, q2_⟩ := at_T36 (HR1.out ?W3_ (by repeat (first | exact HK.out | apply Kept.alloc | apply Kept.drewN | apply Kept.drew | refine Kept.setCell ?_ (.inr GW393.out) _ | refine Kept.setCell ?_ (.inr GW393.out) _))) x7_1 (of_eq_true p387) (of_eq_true q387); cases e_; exact q2_) | (obtain ⟨_, e_, q0_, q1_, q2_⟩ := at_T36 (HR1.out _ (by repeat (first | exact HK.out | apply Kept.alloc | apply Kept.drewN | apply Kept.drew | refine Kept.setCell ?_ (.inr GW393.out) _ | refine Kept.setCell ?_ (.inr GW393.out) _))) x7_1 (of_eq_true p387) (of_eq_true q387); cases e_; exact q2_))⟩ (fun hHeld => ?_); refine with_tabW spec_l11All.tab5 spec_l11All.bits5 (fun HT_ HW_ => ?_)
      generalize wr.drew = w11 at HO_386000 BK385 BK386 HK HB hx387_0 hx387_1 hx387_2 hHeld ⊢
      refine pu 1 (some 18) (bm 12 2) rfl rfl ?_
      refine pu 2 (some 19) (bm 12 6) rfl rfl ?_
      refine pu 3 (some 20) (bm 12 14) rfl rfl ?_
      refine tk5 0 (some 17) (bm 12 15) rfl rfl hHeld ?_
      refine tk5 4 (some 21) (bm 12 31) rfl rfl hHeld ?_
      refine join_ (σ := Value × Nat) 2 #[true, true, true, true, true, true, true, true, true, true, false, false] (fun s_ => [(22, .tuple #[.agg #[s_.1, .int .i64 t391], .string t392]), (8, .pointer (some ⟨s_.2, 0, none⟩)), (16, .tuple #[.agg #[s_.1, .int .i64 t391], .string t392]), (23, .agg #[s_.1, .int .i64 t391]), (24, .string t392)]) (fun s_ w' => (w'.cell? ⟨gb385, 0, none⟩ = some (.slice Ao10 x386000_1.length co10) ∧ w'.cell? ⟨gb385, 1, none⟩ = some (.int .i64 x386001_1) ∧ w'.cell? (ad387.add ((x7_1).toNat * 3)) = some (.string ((rd_T36 l1 x7_1).f0)) ∧ w'.cell? ⟨(ad387.add ((x7_1).toNat * 3)).block, (ad387.add ((x7_1).toNat * 3)).off + 1, none⟩ = some (.string ((rd_T36 l1 x7_1).f1)) ∧ w'.cell? ⟨(ad387.add ((x7_1).toNat * 3)).block, (ad387.add ((x7_1).toNat * 3)).off + 2, none⟩ = some (.bool ((rd_T36 l1 x7_1).f2))) ∧ (Kd.R k36 36 w' w0.heap.size (fun k_ => (P0_0_ k_ ∨ w.heap.size ≤ k_)) s_.1 t388) ∧ (w'.heap[gb385]? = some (.cells #[.slice Ao10 x386000_1.length co10, .int .i64 x386001_1] 25 (0, 0))) ∧ (w'.heap[gb386]? = some (.cells #[.slice none 0 0, .int .i64 0] 25 (0, 0))) ∧ (w'.heap[s_.2]? = some (.cells #[.slice none 0 0, .int .i64 0] 25 (0, 0))) ∧ (w.heap.size ≤ s_.2) ∧ (w0.heap.size ≤ s_.2) ∧ (gb385 ≠ s_.2) ∧ (s_.2 ≠ gb385) ∧ (gb386 ≠ s_.2) ∧ (s_.2 ≠ gb386) ∧ (Kept w w' (fun k_ => P0_0_ k_)) ∧ (Below w0.heap.size w0 w')) ?_ ?_
      rotate_left
      ·intro hCont
       refine two_ (i := 5) (j := 9) (Ni := some 22) (Nj := some 8) #[true, true, true, true, true, true, false, false, false, false, false, false] #[true, true, true, true, true, false, false, false, false, true, false, false] rfl rfl rfl rfl (two_of HT_.out (by kernel_rfl)) (by decide) (by decide) (fun K hK => ?_) (fun K hK => ?_)
       ·skip
        refine gs Try.func80 #[.agg #[.slice Ao10 x386000_1.length co10, .int .i64 x386001_1], .agg #[.string ((rd_T36 l1 x7_1).f0), .string ((rd_T36 l1 x7_1).f1), .bool ((rd_T36 l1 x7_1).f2)]] ?_
        with_reducible refine (spec_l11Write.calls k1 (fun k_ => some k_ = (.slice Ao10 x386000_1.length co10 : Value).ownBlock) (.slice Ao10 x386000_1.length co10) x386000_1 x386001_1 ((rd_T36 l1 x7_1).f0) ((rd_T36 l1 x7_1).f1) ((rd_T36 l1 x7_1).f2) t388 t391 t392 w0 _ ?side1 ?side2 A8.out).mono ?_
        (case side1 => exact zb HB)
        (case side2 => exact Kd.R_tight rfl HO_386000.out)
        rintro e w12 ⟨v389, rfl, ho0, hb, hkp⟩
        refine ⟨_, rfl, ?_⟩
        replace BK385 := Aside0.mk (blk_kept (zk BK385) hkp (fun hs_ => (fun e_ => (Kd.R_ne HO_386000.out BK385.out (by decide)) e_) hs_))
        replace BK386 := Aside0.mk (blk_kept (zk BK386) hkp (fun hs_ => (fun e_ => (Kd.R_ne HO_386000.out BK386.out (by decide)) e_) hs_))
        have HO390 := Aside0.mk (Kd.R_mono (ok' := fun k_ => (P0_0_ k_ ∨ w.heap.size ≤ k_)) ho0 (fun k_ hk_ => Or.elim hk_ (fun hs_ => (HO_386000.out.1 k_ (hs_).symm)) (fun hn_ => (.inr (Nat.le_trans (by first | exact HK.out.1 | exact (show Kept w _ (fun k_ => P0_0_ k_) from by repeat (first | (with_reducible first | exact HK.out | apply Kept.alloc | apply Kept.drewN | apply Kept.drew | refine Kept.setCell ?_ (.inr GW385.out) _ | refine Kept.setCell ?_ (.inr GW386.out) _) | exact HK.out)).1) hn_)))))
        replace HK := Aside0.mk (Kept.then_ (S := (fun k_ => P0_0_ k_)) (by repeat (first | (with_reducible first | exact HK.out | apply Kept.alloc | apply Kept.drewN | apply Kept.drew | refine Kept.setCell ?_ (.inr GW385.out) _ | refine Kept.setCell ?_ (.inr GW386.out) _) | exact HK.out)) hkp (fun k_ hs_ => (fun e_ => (HO_386000.out.1 k_ e_.symm)) hs_))
        replace HB := Aside0.mk (hb)
        clear HO_386000
        (try clear hb)
        (try clear hkp)
        (try clear ho0)
        refine hK.out _ _ ⟨(blk_cell BK385.out 0).trans rfl, (blk_cell BK385.out 1).trans rfl, (by first | (show World.cell? ?W4_ _ = _; obtain ⟨_, e_, q0_, q1_, q2_⟩ := at_T36 (HR1.out ?W4_ (by repeat (first | exact HK.out | apply Kept.alloc | apply Kept.drewN | apply Kept.drew | refine Kept.setCell ?_ (.inr GW393.out) _ | refine Kept.setCell ?_ (.inr GW393.out) _))) x7_1 (of_eq_true p387) (of_eq_true q387); cases e_; exact q0_) | (obtain ⟨_, e_, q0_, q1_, q2_⟩ := at_T36 (HR1.out _ (by repeat (first | exact HK.out | apply Kept.alloc | apply Kept.drewN | apply Kept.drew | refine Kept.setCell ?_ (.inr GW393.out) _ | refine Kept.setCell ?_ (.inr GW393.out) _))) x7_1 (of_eq_true p387) (of_eq_true q387); cases e_; exact q0_)), (by first | (show World.cell? ?W5_ _ = _; obtain ⟨_, e_, q0_, q1_, q2_⟩ := at_T36 (HR1.out ?W5_ (by repeat (first | exact HK.out | apply Kept.alloc | apply Kept.drewN | apply Kept.drew | refine Kept.setCell ?_ (.inr GW393.out) _ | refine Kept.setCell ?_ (.inr GW393.out) _))) x7_1 (of_eq_true p387) (of_eq_true q387); cases e_; exact q1_) | (obtain ⟨_, e_, q0_, q1_, q2_⟩ := at_T36 (HR1.out _ (by repeat (first | exact HK.out | apply Kept.alloc | apply Kept.drewN | apply Kept.drew | refine Kept.setCell ?_ (.inr GW393.out) _ | refine Kept.setCell ?_ (.inr GW393.out) _))) x7_1 (of_eq_true p387) (of_eq_true q387); cases e_; exact q1_)), (by first | (show World.cell? ?W6_ _ = _; obtain ⟨_, e_, q0_, q1_, q2_⟩ := at_T36 (HR1.out ?W6_ (by repeat (first | exact HK.out | apply Kept.alloc | apply Kept.drewN | apply Kept.drew | refine Kept.setCell ?_ (.inr GW393.out) _ | refine Kept.setCell ?_ (.inr GW393.out) _))) x7_1 (of_eq_true p387) (of_eq_true q387); cases e_; exact q2_) | (obtain ⟨_, e_, q0_, q1_, q2_⟩ := at_T36 (HR1.out _ (by repeat (first | exact HK.out | apply Kept.alloc | apply Kept.drewN | apply Kept.drew | refine Kept.setCell ?_ (.inr GW393.out) _ | refine Kept.setCell ?_ (.inr GW393.out) _))) x7_1 (of_eq_true p387) (of_eq_true q387); cases e_; exact q2_))⟩ (fun hHeld => ?_)
        clear hK K
        refine nm ?_
        refine pu 6 (some 16) (bm 12 127) rfl rfl ?_
        refine pu 7 (some 23) (bm 12 255) rfl rfl ?_
        refine pu 8 (some 24) (bm 12 511) rfl rfl ?_
        refine one_ (i := 9) (N := some 8) (bm 12 1023) rfl rfl (one_of HT_.out (by kernel_rfl)) (by decide) (fun K hK => ?_)
        refine box_step ?hg (N := 8) ?hd (cs := #[.slice none 0 0, .int .i64 0]) (t := 25) ?hr ?_; (case hd => rfl); (case hg => rfl); (case hr => first | (go_simp; done) | (go_simp; rfl))
        intro gb393 hg w13 hbox hb
        replace HO390 := Aside0.mk (Kd.R_below (zr HO390) hb)
        have BK393 := Aside0.mk (hbox)
        have GW393 := Aside0.mk ((by rw [hg]; exact (by first | exact HK.out.1 | exact (show Kept w _ (fun k_ => P0_0_ k_) from by repeat (first | (with_reducible first | exact HK.out | apply Kept.alloc | apply Kept.drewN | apply Kept.drew | refine Kept.setCell ?_ (.inr GW385.out) _ | refine Kept.setCell ?_ (.inr GW386.out) _) | exact HK.out)).1) : w.heap.size ≤ gb393))
        replace HK := Aside0.mk (Kept.below (S := (fun k_ => P0_0_ k_)) (by repeat (first | (with_reducible first | exact HK.out | apply Kept.alloc | apply Kept.drewN | apply Kept.drew | refine Kept.setCell ?_ (.inr GW385.out) _ | refine Kept.setCell ?_ (.inr GW386.out) _) | exact HK.out)) hb)
        have GE393 := Aside0.mk ((by rw [hg]; exact (below_size (zb HB)) : w0.heap.size ≤ gb393))
        replace HB := Aside0.mk (below_step (zb HB) hb)
        have NB385_393 := Aside0.mk ((by rw [hg]; exact Nat.ne_of_lt (blk_lt (g := gb385) (o := .cells #[.slice Ao10 x386000_1.length co10, .int .i64 x386001_1] 25 (0, 0)) (zk BK385)) : gb385 ≠ gb393))
        have NB393_385 := Aside0.mk ((by rw [hg]; exact Nat.ne_of_gt (blk_lt (g := gb385) (o := .cells #[.slice Ao10 x386000_1.length co10, .int .i64 x386001_1] 25 (0, 0)) (zk BK385)) : gb393 ≠ gb385))
        replace BK385 := Aside0.mk (blk_below (g := gb385) (o := .cells #[.slice Ao10 x386000_1.length co10, .int .i64 x386001_1] 25 (0, 0)) (zk BK385) hb)
        have NB386_393 := Aside0.mk ((by rw [hg]; exact Nat.ne_of_lt (blk_lt (g := gb386) (o := .cells #[.slice none 0 0, .int .i64 0] 25 (0, 0)) (zk BK386)) : gb386 ≠ gb393))
        have NB393_386 := Aside0.mk ((by rw [hg]; exact Nat.ne_of_gt (blk_lt (g := gb386) (o := .cells #[.slice none 0 0, .int .i64 0] 25 (0, 0)) (zk BK386)) : gb393 ≠ gb386))
        replace BK386 := Aside0.mk (blk_below (g := gb386) (o := .cells #[.slice none 0 0, .int .i64 0] 25 (0, 0)) (zk BK386) hb)
        clear hb hbox hg
        refine hK.out _ _ ⟨(blk_cell BK385.out 0).trans rfl, (blk_cell BK385.out 1).trans rfl, (by first | (show World.cell? ?W7_ _ = _; obtain ⟨_, e_, q0_, q1_, q2_⟩ := at_T36 (HR1.out ?W7_ (by repeat (first | exact HK.out | apply Kept.alloc | apply Kept.drewN | apply Kept.drew | refine Kept.setCell ?_ (.inr GW393.out) _ | refine Kept.setCell ?_ (.inr GW393.out) _))) x7_1 (of_eq_true p387) (of_eq_true q387); cases e_; exact q0_) | (obtain ⟨_, e_, q0_, q1_, q2_⟩ := at_T36 (HR1.out _ (by repeat (first | exact HK.out | apply Kept.alloc | apply Kept.drewN | apply Kept.drew | refine Kept.setCell ?_ (.inr GW393.out) _ | refine Kept.setCell ?_ (.inr GW393.out) _))) x7_1 (of_eq_true p387) (of_eq_true q387); cases e_; exact q0_)), (by first | (show World.cell? ?W8_ _ = _; obtain ⟨_, e_, q0_, q1_, q2_⟩ := at_T36 (HR1.out ?W8_ (by repeat (first | exact HK.out | apply Kept.alloc | apply Kept.drewN | apply Kept.drew | refine Kept.setCell ?_ (.inr GW393.out) _ | refine Kept.setCell ?_ (.inr GW393.out) _))) x7_1 (of_eq_true p387) (of_eq_true q387); cases e_; exact q1_) | (obtain ⟨_, e_, q0_, q1_, q2_⟩ := at_T36 (HR1.out _ (by repeat (first | exact HK.out | apply Kept.alloc | apply Kept.drewN | apply Kept.drew | refine Kept.setCell ?_ (.inr GW393.out) _ | refine Kept.setCell ?_ (.inr GW393.out) _))) x7_1 (of_eq_true p387) (of_eq_true q387); cases e_; exact q1_)), (by first | (show World.cell? ?W9_ _ = _; obtain ⟨_, e_, q0_, q1_, q2_⟩ := at_T36 (HR1.out ?W9_ (by repeat (first | exact HK.out | apply Kept.alloc | apply Kept.drewN | apply Kept.drew | refine Kept.setCell ?_ (.inr GW393.out) _ | refine Kept.setCell ?_ (.inr GW393.out) _))) x7_1 (of_eq_true p387) (of_eq_true q387); cases e_; exact q2_) | (obtain ⟨_, e_, q0_, q1_, q2_⟩ := at_T36 (HR1.out _ (by repeat (first | exact HK.out | apply Kept.alloc | apply Kept.drewN | apply Kept.drew | refine Kept.setCell ?_ (.inr GW393.out) _ | refine Kept.setCell ?_ (.inr GW393.out) _))) x7_1 (of_eq_true p387) (of_eq_true q387); cases e_; exact q2_))⟩ (fun hHeld => ?_)
        clear hK K
        refine nm ?_
        exact norm_ (by simp only [putAll, Act.put, s1, s2, s3]) (hCont (v389, gb393) _ ⟨hHeld, (zr HO390), (zk BK385), (zk BK386), (zk BK393), GW393.out, GE393.out, NB385_393.out, NB393_385.out, NB386_393.out, NB393_386.out, (by repeat (first | (with_reducible first | exact HK.out | apply Kept.alloc | apply Kept.drewN | apply Kept.drew | refine Kept.setCell ?_ (.inr GW385.out) _ | refine Kept.setCell ?_ (.inr GW386.out) _ | refine Kept.setCell ?_ (.inr GW393.out) _) | exact HK.out)), (zb HB)⟩)
       ·skip
        refine box_step ?hg (N := 8) ?hd (cs := #[.slice none 0 0, .int .i64 0]) (t := 25) ?hr ?_; (case hd => rfl); (case hg => rfl); (case hr => first | (go_simp; done) | (go_simp; rfl))
        intro gb393 hg w12 hbox hb
        replace HO_386000 := Aside0.mk (Kd.R_below (zr HO_386000) hb)
        have BK393 := Aside0.mk (hbox)
        have GW393 := Aside0.mk ((by rw [hg]; exact (by first | exact HK.out.1 | exact (show Kept w _ (fun k_ => P0_0_ k_) from by repeat (first | (with_reducible first | exact HK.out | apply Kept.alloc | apply Kept.drewN | apply Kept.drew | refine Kept.setCell ?_ (.inr GW385.out) _ | refine Kept.setCell ?_ (.inr GW386.out) _) | exact HK.out)).1) : w.heap.size ≤ gb393))
        replace HK := Aside0.mk (Kept.below (S := (fun k_ => P0_0_ k_)) (by repeat (first | (with_reducible first | exact HK.out | apply Kept.alloc | apply Kept.drewN | apply Kept.drew | refine Kept.setCell ?_ (.inr GW385.out) _ | refine Kept.setCell ?_ (.inr GW386.out) _) | exact HK.out)) hb)
        have GE393 := Aside0.mk ((by rw [hg]; exact (below_size (zb HB)) : w0.heap.size ≤ gb393))
        replace HB := Aside0.mk (below_step (zb HB) hb)
        have NB385_393 := Aside0.mk ((by rw [hg]; exact Nat.ne_of_lt (blk_lt (g := gb385) (o := .cells #[.slice Ao10 x386000_1.length co10, .int .i64 x386001_1] 25 (0, 0)) (zk BK385)) : gb385 ≠ gb393))
        have NB393_385 := Aside0.mk ((by rw [hg]; exact Nat.ne_of_gt (blk_lt (g := gb385) (o := .cells #[.slice Ao10 x386000_1.length co10, .int .i64 x386001_1] 25 (0, 0)) (zk BK385)) : gb393 ≠ gb385))
        replace BK385 := Aside0.mk (blk_below (g := gb385) (o := .cells #[.slice Ao10 x386000_1.length co10, .int .i64 x386001_1] 25 (0, 0)) (zk BK385) hb)
        have NB386_393 := Aside0.mk ((by rw [hg]; exact Nat.ne_of_lt (blk_lt (g := gb386) (o := .cells #[.slice none 0 0, .int .i64 0] 25 (0, 0)) (zk BK386)) : gb386 ≠ gb393))
        have NB393_386 := Aside0.mk ((by rw [hg]; exact Nat.ne_of_gt (blk_lt (g := gb386) (o := .cells #[.slice none 0 0, .int .i64 0] 25 (0, 0)) (zk BK386)) : gb393 ≠ gb386))
        replace BK386 := Aside0.mk (blk_below (g := gb386) (o := .cells #[.slice none 0 0, .int .i64 0] 25 (0, 0)) (zk BK386) hb)
        clear hb hbox hg
        refine hK.out _ _ ⟨(blk_cell BK385.out 0).trans rfl, (blk_cell BK385.out 1).trans rfl, (by first | (show World.cell? ?W10_ _ = _; obtain ⟨_, e_, q0_, q1_, q2_⟩ := at_T36 (HR1.out ?W10_ (by repeat (first | exact HK.out | apply Kept.alloc | apply Kept.drewN | apply Kept.drew | refine Kept.setCell ?_ (.inr GW393.out) _ | refine Kept.setCell ?_ (.inr GW393.out) _))) x7_1 (of_eq_true p387) (of_eq_true q387); cases e_; exact q0_) | (obtain ⟨_, e_, q0_, q1_, q2_⟩ := at_T36 (HR1.out _ (by repeat (first | exact HK.out | apply Kept.alloc | apply Kept.drewN | apply Kept.drew | refine Kept.setCell ?_ (.inr GW393.out) _ | refine Kept.setCell ?_ (.inr GW393.out) _))) x7_1 (of_eq_true p387) (of_eq_true q387); cases e_; exact q0_)), (by first | (show World.cell? ?W11_ _ = _; obtain ⟨_, e_, q0_, q1_, q2_⟩ := at_T36 (HR1.out ?W11_ (by repeat (first | exact HK.out | apply Kept.alloc | apply Kept.drewN | apply Kept.drew | refine Kept.setCell ?_ (.inr GW393.out) _ | refine Kept.setCell ?_ (.inr GW393.out) _))) x7_1 (of_eq_true p387) (of_eq_true q387); cases e_; exact q1_) | (obtain ⟨_, e_, q0_, q1_, q2_⟩ := at_T36 (HR1.out _ (by repeat (first | exact HK.out | apply Kept.alloc | apply Kept.drewN | apply Kept.drew | refine Kept.setCell ?_ (.inr GW393.out) _ | refine Kept.setCell ?_ (.inr GW393.out) _))) x7_1 (of_eq_true p387) (of_eq_true q387); cases e_; exact q1_)), (by first | (show World.cell? ?W12_ _ = _; obtain ⟨_, e_, q0_, q1_, q2_⟩ := at_T36 (HR1.out ?W12_ (by repeat (first | exact HK.out | apply Kept.alloc | apply Kept.drewN | apply Kept.drew | refine Kept.setCell ?_ (.inr GW393.out) _ | refine Kept.setCell ?_ (.inr GW393.out) _))) x7_1 (of_eq_true p387) (of_eq_true q387); cases e_; exact q2_) | (obtain ⟨_, e_, q0_, q1_, q2_⟩ := at_T36 (HR1.out _ (by repeat (first | exact HK.out | apply Kept.alloc | apply Kept.drewN | apply Kept.drew | refine Kept.setCell ?_ (.inr GW393.out) _ | refine Kept.setCell ?_ (.inr GW393.out) _))) x7_1 (of_eq_true p387) (of_eq_true q387); cases e_; exact q2_))⟩ (fun hHeld => ?_)
        clear hK K
        refine nm ?_
        refine one_ (i := 5) (N := some 22) (bm 12 575) rfl rfl (one_of HT_.out (by kernel_rfl)) (by decide) (fun K hK => ?_)
        refine gs Try.func80 #[.agg #[.slice Ao10 x386000_1.length co10, .int .i64 x386001_1], .agg #[.string ((rd_T36 l1 x7_1).f0), .string ((rd_T36 l1 x7_1).f1), .bool ((rd_T36 l1 x7_1).f2)]] ?_
        with_reducible refine (spec_l11Write.calls k1 (fun k_ => some k_ = (.slice Ao10 x386000_1.length co10 : Value).ownBlock) (.slice Ao10 x386000_1.length co10) x386000_1 x386001_1 ((rd_T36 l1 x7_1).f0) ((rd_T36 l1 x7_1).f1) ((rd_T36 l1 x7_1).f2) t388 t391 t392 w0 _ ?side1 ?side2 A8.out).mono ?_
        (case side1 => exact zb HB)
        (case side2 => exact Kd.R_tight rfl HO_386000.out)
        rintro e w13 ⟨v389, rfl, ho0, hb, hkp⟩
        refine ⟨_, rfl, ?_⟩
        replace BK385 := Aside0.mk (blk_kept (zk BK385) hkp (fun hs_ => (fun e_ => (Kd.R_ne HO_386000.out BK385.out (by decide)) e_) hs_))
        replace BK386 := Aside0.mk (blk_kept (zk BK386) hkp (fun hs_ => (fun e_ => (Kd.R_ne HO_386000.out BK386.out (by decide)) e_) hs_))
        replace BK393 := Aside0.mk (blk_kept (zk BK393) hkp (fun hs_ => (fun e_ => (Kd.R_ne HO_386000.out BK393.out (by decide)) e_) hs_))
        have HO390 := Aside0.mk (Kd.R_mono (ok' := fun k_ => (P0_0_ k_ ∨ w.heap.size ≤ k_)) ho0 (fun k_ hk_ => Or.elim hk_ (fun hs_ => (HO_386000.out.1 k_ (hs_).symm)) (fun hn_ => (.inr (Nat.le_trans (by first | exact HK.out.1 | exact (show Kept w _ (fun k_ => P0_0_ k_) from by repeat (first | (with_reducible first | exact HK.out | apply Kept.alloc | apply Kept.drewN | apply Kept.drew | refine Kept.setCell ?_ (.inr GW385.out) _ | refine Kept.setCell ?_ (.inr GW386.out) _ | refine Kept.setCell ?_ (.inr GW393.out) _) | exact HK.out)).1) hn_)))))
        replace HK := Aside0.mk (Kept.then_ (S := (fun k_ => P0_0_ k_)) (by repeat (first | (with_reducible first | exact HK.out | apply Kept.alloc | apply Kept.drewN | apply Kept.drew | refine Kept.setCell ?_ (.inr GW385.out) _ | refine Kept.setCell ?_ (.inr GW386.out) _ | refine Kept.setCell ?_ (.inr GW393.out) _) | exact HK.out)) hkp (fun k_ hs_ => (fun e_ => (HO_386000.out.1 k_ e_.symm)) hs_))
        replace HB := Aside0.mk (hb)
        clear HO_386000
        (try clear hb)
        (try clear hkp)
        (try clear ho0)
        refine hK.out _ _ ⟨(blk_cell BK385.out 0).trans rfl, (blk_cell BK385.out 1).trans rfl, (by first | (show World.cell? ?W13_ _ = _; obtain ⟨_, e_, q0_, q1_, q2_⟩ := at_T36 (HR1.out ?W13_ (by repeat (first | exact HK.out | apply Kept.alloc | apply Kept.drewN | apply Kept.drew | refine Kept.setCell ?_ (.inr GW393.out) _ | refine Kept.setCell ?_ (.inr GW393.out) _))) x7_1 (of_eq_true p387) (of_eq_true q387); cases e_; exact q0_) | (obtain ⟨_, e_, q0_, q1_, q2_⟩ := at_T36 (HR1.out _ (by repeat (first | exact HK.out | apply Kept.alloc | apply Kept.drewN | apply Kept.drew | refine Kept.setCell ?_ (.inr GW393.out) _ | refine Kept.setCell ?_ (.inr GW393.out) _))) x7_1 (of_eq_true p387) (of_eq_true q387); cases e_; exact q0_)), (by first | (show World.cell? ?W14_ _ = _; obtain ⟨_, e_, q0_, q1_, q2_⟩ := at_T36 (HR1.out ?W14_ (by repeat (first | exact HK.out | apply Kept.alloc | apply Kept.drewN | apply Kept.drew | refine Kept.setCell ?_ (.inr GW393.out) _ | refine Kept.setCell ?_ (.inr GW393.out) _))) x7_1 (of_eq_true p387) (of_eq_true q387); cases e_; exact q1_) | (obtain ⟨_, e_, q0_, q1_, q2_⟩ := at_T36 (HR1.out _ (by repeat (first | exact HK.out | apply Kept.alloc | apply Kept.drewN | apply Kept.drew | refine Kept.setCell ?_ (.inr GW393.out) _ | refine Kept.setCell ?_ (.inr GW393.out) _))) x7_1 (of_eq_true p387) (of_eq_true q387); cases e_; exact q1_)), (by first | (show World.cell? ?W15_ _ = _; obtain ⟨_, e_, q0_, q1_, q2_⟩ := at_T36 (HR1.out ?W15_ (by repeat (first | exact HK.out | apply Kept.alloc | apply Kept.drewN | apply Kept.drew | refine Kept.setCell ?_ (.inr GW393.out) _ | refine Kept.setCell ?_ (.inr GW393.out) _))) x7_1 (of_eq_true p387) (of_eq_true q387); cases e_; exact q2_) | (obtain ⟨_, e_, q0_, q1_, q2_⟩ := at_T36 (HR1.out _ (by repeat (first | exact HK.out | apply Kept.alloc | apply Kept.drewN | apply Kept.drew | refine Kept.setCell ?_ (.inr GW393.out) _ | refine Kept.setCell ?_ (.inr GW393.out) _))) x7_1 (of_eq_true p387) (of_eq_true q387); cases e_; exact q2_))⟩ (fun hHeld => ?_)
        clear hK K
        refine nm ?_
        refine pu 6 (some 16) (bm 12 639) rfl rfl ?_
        refine pu 7 (some 23) (bm 12 767) rfl rfl ?_
        refine pu 8 (some 24) (bm 12 1023) rfl rfl ?_
        exact norm_ (by simp only [putAll, Act.put, s1, s2, s3]) (hCont (v389, gb393) _ ⟨hHeld, (zr HO390), (zk BK385), (zk BK386), (zk BK393), GW393.out, GE393.out, NB385_393.out, NB393_385.out, NB386_393.out, NB393_386.out, (by repeat (first | (with_reducible first | exact HK.out | apply Kept.alloc | apply Kept.drewN | apply Kept.drew | refine Kept.setCell ?_ (.inr GW385.out) _ | refine Kept.setCell ?_ (.inr GW386.out) _ | refine Kept.setCell ?_ (.inr GW393.out) _) | exact HK.out)), (zb HB)⟩)
      rintro ⟨v389, gb393⟩ w14 ⟨hS_, h0_, h1_, h2_, h3_, h4_, h5_, h6_, h7_, h8_, h9_, h10_, h11_⟩
      have n0_ : Aside0 (Kd.R k36 36 w14 w0.heap.size (fun k_ => (P0_0_ k_ ∨ w.heap.size ≤ k_)) v389 t388) := ⟨h0_⟩
      have n1_ : Aside0 (w14.heap[gb385]? = some (.cells #[.slice Ao10 x386000_1.length co10, .int .i64 x386001_1] 25 (0, 0))) := ⟨h1_⟩
      have n2_ : Aside0 (w14.heap[gb386]? = some (.cells #[.slice none 0 0, .int .i64 0] 25 (0, 0))) := ⟨h2_⟩
      have n3_ : Aside0 (w14.heap[gb393]? = some (.cells #[.slice none 0 0, .int .i64 0] 25 (0, 0))) := ⟨h3_⟩
      have n4_ : Aside0 (w.heap.size ≤ gb393) := ⟨h4_⟩
      have n5_ : Aside0 (w0.heap.size ≤ gb393) := ⟨h5_⟩
      have n6_ : Aside0 (gb385 ≠ gb393) := ⟨h6_⟩
      have n7_ : Aside0 (gb393 ≠ gb385) := ⟨h7_⟩
      have n8_ : Aside0 (gb386 ≠ gb393) := ⟨h8_⟩
      have n9_ : Aside0 (gb393 ≠ gb386) := ⟨h9_⟩
      have n10_ : Aside0 (Kept w w14 (fun k_ => P0_0_ k_)) := ⟨h10_⟩
      have n11_ : Aside0 (Below w0.heap.size w0 w14) := ⟨h11_⟩
      clear HO_386000
      clear BK385
      clear BK386
      clear HK
      clear HB
      clear h0_ h1_ h2_ h3_ h4_ h5_ h6_ h7_ h8_ h9_ h10_ h11_
      have HO390 := n0_
      have BK385 := n1_
      have BK386 := n2_
      have BK393 := n3_
      have GW393 := n4_
      have GE393 := n5_
      have NB385_393 := n6_
      have NB393_385 := n7_
      have NB386_393 := n8_
      have NB393_386 := n9_
      have HK := n10_
      have HB := n11_
      clear n0_ n1_ n2_ n3_ n4_ n5_ n6_ n7_ n8_ n9_ n10_ n11_
      have hHeld : w14.cell? ⟨gb385, 0, none⟩ = some (.slice Ao10 x386000_1.length co10) ∧ w14.cell? ⟨gb385, 1, none⟩ = some (.int .i64 x386001_1) ∧ w14.cell? (ad387.add ((x7_1).toNat * 3)) = some (.string ((rd_T36 l1 x7_1).f0)) ∧ w14.cell? ⟨(ad387.add ((x7_1).toNat * 3)).block, (ad387.add ((x7_1).toNat * 3)).off + 1, none⟩ = some (.string ((rd_T36 l1 x7_1).f1)) ∧ w14.cell? ⟨(ad387.add ((x7_1).toNat * 3)).block, (ad387.add ((x7_1).toNat * 3)).off + 2, none⟩ = some (.bool ((rd_T36 l1 x7_1).f2)) := hS_
      obtain ⟨Ao15, co15, eo15⟩ := Kd.R_slice HO390.out
      (first | subst eo15 | (injection eo15 with f1_ f2_ f3_; have f4_ := f1_.symm; have f5_ := f3_.symm; clear f1_ f2_ f3_; subst f4_; subst f5_))
      refine norm_ (a' := ?_) ?_ ?_
      rotate_left
      ·simp only [putAll, Act.put, s1, s2, s3]
       rfl
      refine one_ (i := 10) (N := none) (bm 12 2047) rfl rfl (one_of HT_.out (by kernel_rfl)) (by decide) (fun K hK => ?_)
      have hs16 : w14.cell? ⟨gb393, 0, none⟩ = some (.slice none 0 0) := (blk_cell BK393.out 0).trans rfl
      have hfs16 := blk_frozen BK393.out 0
      have hns16_0 := NB385_393.out
      have hns16_1 := NB386_393.out
      have hms16_0 := NB393_385.out
      have hms16_1 := NB393_386.out
      have hs17 : w14.cell? ⟨gb393, 1, none⟩ = some (.int .i64 0) := (blk_cell BK393.out 1).trans rfl
      have hfs17 := blk_frozen BK393.out 1
      have hns17_0 := NB385_393.out
      have hns17_1 := NB386_393.out
      have hms17_0 := NB393_385.out
      have hms17_1 := NB393_386.out
      refine skip_ (w1 := ?_) (by rfl) rfl ?_ ?_
      rotate_left
      ·go_simp
       rfl
      refine hK.out _ _ ⟨((cell_far (p := ⟨gb393, _, none⟩) NB385_393.out _).trans (((cell_far (p := ⟨gb393, _, none⟩) NB385_393.out _).trans (hHeld.1)))), ((cell_far (p := ⟨gb393, _, none⟩) NB385_393.out _).trans (((cell_far (p := ⟨gb393, _, none⟩) NB385_393.out _).trans (hHeld.2.1)))), (by first | (show World.cell? ?W16_ _ = _; obtain ⟨_, e_, q0_, q1_, q2_⟩ := at_T36 (HR1.out ?W16_ (by repeat (first | exact HK.out | apply Kept.alloc | apply Kept.drewN | apply Kept.drew | refine Kept.setCell ?_ (.inr GW393.out) _ | refine Kept.setCell ?_ (.inr GW393.out) _))) x7_1 (of_eq_true p387) (of_eq_true q387); cases e_; exact q0_) | (obtain ⟨_, e_, q0_, q1_, q2_⟩ := at_T36 (HR1.out _ (by repeat (first | exact HK.out | apply Kept.alloc | apply Kept.drewN | apply Kept.drew | refine Kept.setCell ?_ (.inr GW393.out) _ | refine Kept.setCell ?_ (.inr GW393.out) _))) x7_1 (of_eq_true p387) (of_eq_true q387); cases e_; exact q0_)), (by first | (show World.cell? ?W17_ _ = _; obtain ⟨_, e_, q0_, q1_, q2_⟩ := at_T36 (HR1.out ?W17_ (by repeat (first | exact HK.out | apply Kept.alloc | apply Kept.drewN | apply Kept.drew | refine Kept.setCell ?_ (.inr GW393.out) _ | refine Kept.setCell ?_ (.inr GW393.out) _))) x7_1 (of_eq_true p387) (of_eq_true q387); cases e_; exact q1_) | (obtain ⟨_, e_, q0_, q1_, q2_⟩ := at_T36 (HR1.out _ (by repeat (first | exact HK.out | apply Kept.alloc | apply Kept.drewN | apply Kept.drew | refine Kept.setCell ?_ (.inr GW393.out) _ | refine Kept.setCell ?_ (.inr GW393.out) _))) x7_1 (of_eq_true p387) (of_eq_true q387); cases e_; exact q1_)), (by first | (show World.cell? ?W18_ _ = _; obtain ⟨_, e_, q0_, q1_, q2_⟩ := at_T36 (HR1.out ?W18_ (by repeat (first | exact HK.out | apply Kept.alloc | apply Kept.drewN | apply Kept.drew | refine Kept.setCell ?_ (.inr GW393.out) _ | refine Kept.setCell ?_ (.inr GW393.out) _))) x7_1 (of_eq_true p387) (of_eq_true q387); cases e_; exact q2_) | (obtain ⟨_, e_, q0_, q1_, q2_⟩ := at_T36 (HR1.out _ (by repeat (first | exact HK.out | apply Kept.alloc | apply Kept.drewN | apply Kept.drew | refine Kept.setCell ?_ (.inr GW393.out) _ | refine Kept.setCell ?_ (.inr GW393.out) _))) x7_1 (of_eq_true p387) (of_eq_true q387); cases e_; exact q2_))⟩ (fun hHeld => ?_)
      clear hK K
      refine pu 11 (some 9) (bm 12 4095) rfl rfl ?_
      refine done_ (done_of HT_.out (by kernel_rfl)) ?_
      have hnb18 := NB393_385.out
      have hnc18 := NB385_393.out
      have hnb19 := NB393_386.out
      have hnc19 := NB386_393.out
      have hcz20_0 : w14.cell? ⟨gb393, 0, none⟩ = some (.slice none 0 0) := (blk_cell BK393.out 0).trans rfl
      have hcz20_1 : w14.cell? ⟨gb393, 1, none⟩ = some (.int .i64 0) := (blk_cell BK393.out 1).trans rfl
      have hfz20_0 := blk_frozen BK393.out 0
      have hfz20_1 := blk_frozen BK393.out 1
      have hnb21 := NB385_386.out
      have hnc21 := NB386_385.out
      have hcz22_0 : w14.cell? ⟨gb385, 0, none⟩ = some (.slice Ao10 x386000_1.length co10) := (blk_cell BK385.out 0).trans rfl
      have hcz22_1 : w14.cell? ⟨gb385, 1, none⟩ = some (.int .i64 x386001_1) := (blk_cell BK385.out 1).trans rfl
      have hfz22_0 := blk_frozen BK385.out 0
      have hfz22_1 := blk_frozen BK385.out 1
      try go_wp2
      go_roundg k1
      case measure => have := HK1.out; omega
      case rel => exact ⟨(x6_1 ++ t392), (wrap64 (x7_1 + 1)), (t388), (t391), (.slice Ao15 t388.length co15), zs, zs, H', ⟨by have := HK1.out; omega⟩, ⟨by (with_reducible repeat (first | apply Kd.R_alloc | apply Kd.R_drewN | apply Kd.R_drew)); exact Kd.R_mono (Kd.R_far (p := ⟨gb385, 1, none⟩) (Kd.R_far (p := ⟨gb385, 0, none⟩) (Kd.R_far (p := ⟨gb393, 1, none⟩) (Kd.R_far (p := ⟨gb393, 0, none⟩) (Kd.R_types (Kd.R_types HO390.out BK393.out (by decide)) BK385.out (by decide)) (fun _ hk => hk.1.2) (.slice Ao15 t388.length co15)) (fun _ hk => hk.1.2) (.int .i64 t391)) (fun _ hk => hk.2) (.slice Ao15 t388.length co15)) (fun _ hk => hk.2) (.int .i64 t391)) (fun _ hk => hk.1.1)⟩, ⟨by (with_reducible repeat (first | refine blk_drewN ?_ _ | refine blk_drew ?_ | refine blk_alloc ?_ _)); refine blk_put (cs := #[.slice Ao15 t388.length co15, .int .i64 x386001_1]) ?_ 1 _ rfl; (with_reducible repeat (first | refine blk_drewN ?_ _ | refine blk_drew ?_ | refine blk_alloc ?_ _)); refine blk_put (cs := #[.slice Ao10 x386000_1.length co10, .int .i64 x386001_1]) ?_ 0 _ rfl; (with_reducible repeat (first | refine blk_drewN ?_ _ | refine blk_drew ?_ | refine blk_alloc ?_ _)); refine blk_far ?_ NB385_393.out _; (with_reducible repeat (first | refine blk_drewN ?_ _ | refine blk_drew ?_ | refine blk_alloc ?_ _)); refine blk_far ?_ NB385_393.out _; exact zk BK385⟩, ⟨by (with_reducible repeat (first | refine blk_drewN ?_ _ | refine blk_drew ?_ | refine blk_alloc ?_ _)); refine blk_far ?_ NB386_385.out _; (with_reducible repeat (first | refine blk_drewN ?_ _ | refine blk_drew ?_ | refine blk_alloc ?_ _)); refine blk_far ?_ NB386_385.out _; (with_reducible repeat (first | refine blk_drewN ?_ _ | refine blk_drew ?_ | refine blk_alloc ?_ _)); refine blk_far ?_ NB386_393.out _; (with_reducible repeat (first | refine blk_drewN ?_ _ | refine blk_drew ?_ | refine blk_alloc ?_ _)); refine blk_far ?_ NB386_393.out _; exact zk BK386⟩, ⟨by repeat (first | (with_reducible first | exact HK.out | apply Kept.alloc | apply Kept.drewN | apply Kept.drew | refine Kept.setCell ?_ (.inr GW385.out) _ | refine Kept.setCell ?_ (.inr GW386.out) _ | refine Kept.setCell ?_ (.inr GW393.out) _) | exact HK.out)⟩, ⟨zb HB⟩⟩
     ·rw [if_neg c9] at H
      exact absurd H (by simp)
    ·rw [if_neg c7] at H
     exact absurd H (by simp)
   ·rw [if_neg c6] at H
    have c6b0 : decide (x7_1 < (l1.length : Int)) = false := decide_eq_false c6
    clear c6
    simp only [Option.some.injEq, Prod.mk.injEq] at H
    obtain ⟨rfl, rfl, rfl⟩ := H
    have hnb23 := NB385_386.out
    have hnc23 := NB386_385.out
    have hcz24_0 : wr.cell? ⟨gb385, 0, none⟩ = some (u386000) := (blk_cell BK385.out 0).trans rfl
    have hcz24_1 : wr.cell? ⟨gb385, 1, none⟩ = some (.int .i64 x386001_1) := (blk_cell BK385.out 1).trans rfl
    have hfz24_0 := blk_frozen BK385.out 0
    have hfz24_1 := blk_frozen BK385.out 1
    obtain ⟨Ao25, co25, eo25⟩ := Kd.R_slice HO_386000.out
    subst eo25
    have hcz26_0 : wr.cell? ⟨gb386, 0, none⟩ = some (.slice none 0 0) := (blk_cell BK386.out 0).trans rfl
    have hcz26_1 : wr.cell? ⟨gb386, 1, none⟩ = some (.int .i64 0) := (blk_cell BK386.out 1).trans rfl
    have hfz26_0 := blk_frozen BK386.out 0
    have hfz26_1 := blk_frozen BK386.out 1
    go_wp2
    refine bodyPost_ret (results_ct rfl _ _ gb386 25 #[.slice Ao25 x386000_1.length co25, .int .i64 x386001_1] (0, 0) _ rfl (by (with_reducible repeat (first | refine blk_drewN ?_ _ | refine blk_drew ?_ | refine blk_alloc ?_ _)); refine blk_put (cs := #[.slice Ao25 x386000_1.length co25, .int .i64 0]) ?_ 1 _ rfl; (with_reducible repeat (first | refine blk_drewN ?_ _ | refine blk_drew ?_ | refine blk_alloc ?_ _)); refine blk_put (cs := #[.slice none 0 0, .int .i64 0]) ?_ 0 _ rfl; exact zk BK386) Try.underlying25 rfl (by kernel_rfl)) rfl ?_
    exact ⟨_, ze, by (with_reducible repeat (first | apply Kd.R_alloc | apply Kd.R_drewN | apply Kd.R_drew)); exact Kd.R_mono (Kd.R_far (p := ⟨gb386, 1, none⟩) (Kd.R_far (p := ⟨gb386, 0, none⟩) (Kd.R_types HO_386000.out BK386.out (by decide)) (fun _ hk => hk.2) (.slice Ao25 x386000_1.length co25)) (fun _ hk => hk.2) (.int .i64 x386001_1)) (fun _ hk => hk.1), zb HB, by repeat (first | (with_reducible first | exact HK.out | apply Kept.alloc | apply Kept.drewN | apply Kept.drew | refine Kept.setCell ?_ (.inr GW385.out) _ | refine Kept.setCell ?_ (.inr GW386.out) _) | exact HK.out)⟩

/-! ### spec_HeadWrite: function 38 -/
-- thin
def spec_HeadWrite.f (k : Nat) (l0_0 : List (S36)) (a0_1 : Int) (l1 : List (S36)) : Option ((List (S36)) × Int × ByteArray) := (spec_TableOk.f k l0_0 a0_1).bind fun t396 => (if t396 = true then ((spec_HeadOk.f k l1).bind fun t397 => (if t397 = true then ((some (([] : List (S36)) : List (S36))).bind fun y398 => (if y398.length + l0_0.length < 3518437208883 then ((spec_l11All.f k (y398 ++ l0_0) a0_1 l1).bind fun bt404 => (some (bt404.1, bt404.2.1, bt404.2.2))) else (none))) else (some (([] : List (S36)), 0, (⟨#[]⟩ : ByteArray))))) else (some (([] : List (S36)), 0, (⟨#[]⟩ : ByteArray))))
theorem spec_HeadWrite.mono : ∀ a0 a1 a2 k, LeO (spec_HeadWrite.f k a0 a1 a2) (spec_HeadWrite.f (k + 1) a0 a1 a2) := by
 intro a0 a1 a2 k
 unfold spec_HeadWrite.f
 repeat' first
   | (with_reducible exact spec_HeadOk.mono _ _)
   | (with_reducible exact spec_TableOk.mono _ _ _)
   | (with_reducible exact spec_l11All.mono _ _ _ _)
   | (with_reducible exact LeO.refl _)
   | (with_reducible exact LeO.none _)
   | (with_reducible refine LeO.ite ?_ ?_)
   | (with_reducible refine LeO.bind ?_ (fun _ => ?_))
   | exact spec_HeadOk.mono _ _
   | exact spec_TableOk.mono _ _ _
   | exact spec_l11All.mono _ _ _ _
   | exact LeO.none _
   | refine LeO.ite ?_ ?_
   | refine LeO.bind ?_ (fun _ => ?_)
def spec_HeadWrite.T3 : Bool × List (List Nat × List Nat) := (true, [([], []), ([], []), ([1], [1]), ([0, 2], [0, 2]), ([], []), ([4], [4]), ([3, 5], [3, 5]), ([], []), ([6, 7, 3], [6, 7]), ([8], [8]), ([8], [8]), ([9, 8, 0, 1, 2, 3, 4, 5, 6, 7, 8, 9, 10], [9]), ([10, 11, 0, 1, 2, 3, 4, 5, 6, 7, 8, 9, 10, 11], [10])])
def spec_HeadWrite.B3 : List Nat := [0, 0, 2, 7, 0, 16, 63, 0, 255, 511, 511, 2047, 4095]
theorem spec_HeadWrite.tab3 : rtab .any (opsOf Try.f38 3) = spec_HeadWrite.T3 := by kernel_rfl
theorem spec_HeadWrite.bits3 : waitsOk spec_HeadWrite.T3.2 spec_HeadWrite.B3 = true := by kernel_rfl
set_option maxHeartbeats 8000000 in
set_option maxRecDepth 100000 in
theorem spec_HeadWrite.calls (k : Nat) (A0_0 : Option Addr) (c0_0 : Nat) (l0_0 : List (S36)) (a0_1 : Int) (A1 : Option Addr) (c1 : Nat) (l1 : List (S36)) (r1 : List (S36)) (r2 : Int) (r3 : ByteArray) (w : World) (hr0_0 : Kd.C k36 w A0_0 l0_0.length l0_0) (hc0_0 : l0_0.length ≤ c0_0) (hr1 : Kd.C k36 w A1 l1.length l1) (hc1 : l1.length ≤ c1) (h : spec_HeadWrite.f k l0_0 a0_1 l1 = some (r1, r2, r3)) :
  Calls Try.prog 38 #[.agg #[.slice A0_0 l0_0.length c0_0, .int .i64 a0_1], .slice A1 l1.length c1] w fun e w' => ∃ v0_ : Value, e = .returned (.tuple #[.agg #[v0_, .int .i64 r2], .string r3]) ∧ Kd.R k36 36 w' w.heap.size (fun _ => True) v0_ r1 ∧ Below w.heap.size w w' := by
 have hu25 := Try.underlying25
 have HR0_0 := Aside0.mk hr0_0
 have HC0_0 := Aside0.mk hc0_0
 clear hr0_0 hc0_0
 have HR1 := Aside0.mk hr1
 have HC1 := Aside0.mk hc1
 clear hr1 hc1
 have HB := Aside0.mk (Below.refl w.heap.size w)
 have H : ((spec_TableOk.f k l0_0 a0_1).bind fun t396 => (if t396 = true then ((spec_HeadOk.f k l1).bind fun t397 => (if t397 = true then ((some (([] : List (S36)) : List (S36))).bind fun y398 => (if y398.length + l0_0.length < 3518437208883 then ((spec_l11All.f k (y398 ++ l0_0) a0_1 l1).bind fun bt404 => (some (bt404.1, bt404.2.1, bt404.2.2))) else (none))) else (some (([] : List (S36)), 0, (⟨#[]⟩ : ByteArray))))) else (some (([] : List (S36)), 0, (⟨#[]⟩ : ByteArray))))) = some (r1, r2, r3) := h
 clear h
 replace H := Option.bind_eq_some_iff.mp H
 obtain ⟨t396, A30, H⟩ := H
 replace H : (if t396 = true then ((spec_HeadOk.f k l1).bind fun t397 => (if t397 = true then ((some (([] : List (S36)) : List (S36))).bind fun y398 => (if y398.length + l0_0.length < 3518437208883 then ((spec_l11All.f k (y398 ++ l0_0) a0_1 l1).bind fun bt404 => (some (bt404.1, bt404.2.1, bt404.2.2))) else (none))) else (some (([] : List (S36)), 0, (⟨#[]⟩ : ByteArray))))) else (some (([] : List (S36)), 0, (⟨#[]⟩ : ByteArray)))) = some (r1, r2, r3) := H
 have A3 := Aside0.mk A30
 clear A30
 by_cases c4 : t396 = true
 ·subst c4
  have H1 : ((spec_HeadOk.f k l1).bind fun t397 => (if t397 = true then ((some (([] : List (S36)) : List (S36))).bind fun y398 => (if y398.length + l0_0.length < 3518437208883 then ((spec_l11All.f k (y398 ++ l0_0) a0_1 l1).bind fun bt404 => (some (bt404.1, bt404.2.1, bt404.2.2))) else (none))) else (some (([] : List (S36)), 0, (⟨#[]⟩ : ByteArray))))) = some (r1, r2, r3) := by rw [if_pos rfl] at H; exact H
  clear H
  have H := H1
  clear H1
  replace H := Option.bind_eq_some_iff.mp H
  obtain ⟨t397, A50, H⟩ := H
  replace H : (if t397 = true then ((some (([] : List (S36)) : List (S36))).bind fun y398 => (if y398.length + l0_0.length < 3518437208883 then ((spec_l11All.f k (y398 ++ l0_0) a0_1 l1).bind fun bt404 => (some (bt404.1, bt404.2.1, bt404.2.2))) else (none))) else (some (([] : List (S36)), 0, (⟨#[]⟩ : ByteArray)))) = some (r1, r2, r3) := H
  have A5 := Aside0.mk A50
  clear A50
  have HC6 := Aside0.mk H
  clear H
  go_enter Try.func38, Try.ntmps38
  go_upto_if 13 with (first | ((with_reducible refine gd 2 rfl ?_); refine bx (N := 2) (cs := #[.slice A0_0 l0_0.length c0_0, .int .i64 a0_1]) (t := 25) ?_; intro gb394 hg w7 hbox hb; have BK394 := Aside0.mk (hbox); have GW394 := Aside0.mk ((by rw [hg]; exact (below_size (zb HB)) : w.heap.size ≤ gb394)); have GE394 := Aside0.mk ((by rw [hg]; exact (below_size (zb HB)) : w.heap.size ≤ gb394)); replace HB := Aside0.mk (below_step (zb HB) hb); clear hb hbox hg) | ((with_reducible refine gd 4 rfl ?_); refine bx (N := 4) (cs := #[.slice none 0 0, .int .i64 0]) (t := 25) ?_; intro gb395 hg w8 hbox hb; have BK395 := Aside0.mk (hbox); have GW395 := Aside0.mk ((by rw [hg]; exact (below_size (zb HB)) : w.heap.size ≤ gb395)); have GE395 := Aside0.mk ((by rw [hg]; exact (below_size (zb HB)) : w.heap.size ≤ gb395)); replace HB := Aside0.mk (below_step (zb HB) hb); have NB394_395 := Aside0.mk ((by rw [hg]; exact Nat.ne_of_lt (blk_lt (g := gb394) (o := .cells #[.slice A0_0 l0_0.length c0_0, .int .i64 a0_1] 25 (0, 0)) (zk BK394)) : gb394 ≠ gb395)); have NB395_394 := Aside0.mk ((by rw [hg]; exact Nat.ne_of_gt (blk_lt (g := gb394) (o := .cells #[.slice A0_0 l0_0.length c0_0, .int .i64 a0_1] 25 (0, 0)) (zk BK394)) : gb395 ≠ gb394)); replace BK394 := Aside0.mk (blk_below (g := gb394) (o := .cells #[.slice A0_0 l0_0.length c0_0, .int .i64 a0_1] 25 (0, 0)) (zk BK394) hb); clear hb hbox hg; have hnb9 := NB394_395.out; have hnc9 := NB395_394.out; have hcz10_0 : w8.cell? ⟨gb394, 0, none⟩ = some (.slice A0_0 l0_0.length c0_0) := (blk_cell BK394.out 0).trans rfl; have hcz10_1 : w8.cell? ⟨gb394, 1, none⟩ = some (.int .i64 a0_1) := (blk_cell BK394.out 1).trans rfl; have hfz10_0 := blk_frozen BK394.out 0; have hfz10_1 := blk_frozen BK394.out 1) | ((with_reducible refine gq 19 rfl ?_); refine gl (some 7) Try.func19 #[.agg #[.slice A0_0 l0_0.length c0_0, .int .i64 a0_1]] ?_; (with_reducible refine (spec_TableOk.calls k _ _ l0_0 a0_1 true _ ?side1 ?side2 A3.out).mono ?_); (case side1 => exact zc (Kd.C_below HR0_0.out HB.out)); (case side2 => exact HC0_0.out); rintro e w11 ⟨rfl, hb⟩; refine ⟨_, rfl, ?_⟩; replace BK394 := Aside0.mk (blk_below (g := gb394) (o := .cells #[.slice A0_0 l0_0.length c0_0, .int .i64 a0_1] 25 (0, 0)) (zk BK394) hb); replace BK395 := Aside0.mk (blk_below (g := gb395) (o := .cells #[.slice none 0 0, .int .i64 0] 25 (0, 0)) (zk BK395) hb); replace HB := Aside0.mk (below_step (zb HB) hb); (try clear hb)) | (go_at_call 40; (with_reducible refine (spec_HeadOk.calls k _ _ l1 t397 _ ?side1 ?side2 A5.out).mono ?_); (case side1 => exact zc (Kd.C_below HR1.out HB.out)); (case side2 => exact HC1.out); rintro e w12 ⟨rfl, hb⟩; replace BK394 := Aside0.mk (blk_below (g := gb394) (o := .cells #[.slice A0_0 l0_0.length c0_0, .int .i64 a0_1] 25 (0, 0)) (zk BK394) hb); replace BK395 := Aside0.mk (blk_below (g := gb395) (o := .cells #[.slice none 0 0, .int .i64 0] 25 (0, 0)) (zk BK395) hb); replace HB := Aside0.mk (below_step (zb HB) hb); (try clear hb)))
  (try simp only [Act.put, s1, s2, s3])
  have H := HC6.out
  clear HC6
  by_cases c13 : t397 = true
  ·subst c13
   have H1 : ((some (([] : List (S36)) : List (S36))).bind fun y398 => (if y398.length + l0_0.length < 3518437208883 then ((spec_l11All.f k (y398 ++ l0_0) a0_1 l1).bind fun bt404 => (some (bt404.1, bt404.2.1, bt404.2.2))) else (none))) = some (r1, r2, r3) := by rw [if_pos rfl] at H; exact H
   clear H
   have H := H1
   clear H1
   obtain ⟨y398, hy398⟩ : ∃ y_ : List (S36), y_ = (([] : List (S36))) := ⟨_, rfl⟩
   replace H : (if y398.length + l0_0.length < 3518437208883 then ((spec_l11All.f k (y398 ++ l0_0) a0_1 l1).bind fun bt404 => (some (bt404.1, bt404.2.1, bt404.2.2))) else (none)) = some (r1, r2, r3) := by first | (rw [hy398]; with_reducible exact H) | (have H2_ := (Option.bind_some _ _).symm.trans H; rw [hy398]; with_reducible exact H2_) | (have H2_ := (Option.bind_some _ _).symm.trans H; with_reducible exact H2_) | with_reducible exact H | (rw [hy398]; exact H) | exact H
   have Ny398 := Aside0.mk hy398
   clear hy398
   by_cases c14 : y398.length + l0_0.length < 3518437208883
   ·rw [if_pos c14] at H
    have LMc14 := Aside0.mk c14
    clear c14
    obtain ⟨y401, hy401⟩ : ∃ y_ : List (S36), y_ = (y398 ++ l0_0) := ⟨_, rfl⟩
    replace H : ((spec_l11All.f k y401 a0_1 l1).bind fun bt404 => (some (bt404.1, bt404.2.1, bt404.2.2))) = some (r1, r2, r3) := by first | (rw [hy401]; with_reducible exact H) | (have H2_ := (Option.bind_some _ _).symm.trans H; rw [hy401]; with_reducible exact H2_) | (have H2_ := (Option.bind_some _ _).symm.trans H; with_reducible exact H2_) | with_reducible exact H | (rw [hy401]; exact H) | exact H
    have Ny401 := Aside0.mk hy401
    clear hy401
    replace H := Option.bind_eq_some_iff.mp H
    obtain ⟨⟨t404, t407, t408⟩, A150, H⟩ := H
    replace H : (some (t404, t407, t408)) = some (r1, r2, r3) := H
    have A15 := Aside0.mk A150
    clear A150
    simp only [Option.some.injEq, Prod.mk.injEq] at H
    obtain ⟨rfl, rfl, rfl⟩ := H
    try go_wp2
    replace BK394 := Aside0.mk (blk_drew BK394.out)
    replace BK395 := Aside0.mk (blk_drew BK395.out)
    replace HB := Aside0.mk (below_drew1 HB.out)
    refine start_ (n := 13) (S := fun w' => w'.cell? ⟨gb394, 0, none⟩ = some (.slice A0_0 l0_0.length c0_0) ∧ w'.cell? ⟨gb394, 1, none⟩ = some (.int .i64 a0_1)) (ds := []) #[false, false, false, false, false, false, false, false, false, false, false, false, false] (by kernel_rfl) rfl rfl ⟨(blk_cell BK394.out 0).trans rfl, (blk_cell BK394.out 1).trans rfl⟩ (fun hHeld => ?_); refine with_tabW spec_HeadWrite.tab3 spec_HeadWrite.bits3 (fun HT_ HW_ => ?_)
    generalize w12.drew = w16 at BK394 BK395 HB hHeld ⊢
    refine pu 1 (some 16) (bm 13 2) rfl rfl ?_
    refine pu 4 (some 19) (bm 13 18) rfl rfl ?_
    refine pu 7 (some 22) (bm 13 146) rfl rfl ?_
    refine tk2 2 (some 17) (bm 13 150) rfl rfl hHeld ?_
    refine tk2 5 (some 20) (bm 13 182) rfl rfl hHeld ?_
    refine one_ (i := 0) (N := some 15) (bm 13 183) rfl rfl (one_of HT_.out (by kernel_rfl)) (by decide) (fun K hK => ?_)
    refine Kd.R_lit_step k36 _ 36 ?hg (N := 15) ?hd (xs := ([] : List (S36))) (inner := []) (ok := fun _ => True) (okp := fun _ => True) ?hr ?hp (fun _ hk => hk) trivial (Below.refl _ _) (Nat.le_refl _) (by simp) ?_; (case hd => rfl); (case hg => rfl); (case hr => first | (go_simp; done) | (go_simp; rfl)); (case hp => exact (Reps.none _ _))
    intro v399 w17 ho18 hb hg_ hnew_
    clear hg_ hnew_
    (first | rw [← Ny398.out] at ho18 | (simp only [Int.reduceToNat] at ho18; rw [← Ny398.out] at ho18))
    have HO400 := Aside0.mk (Kd.R_lower ho18 (below_size (zb HB)))
    replace BK394 := Aside0.mk (blk_below (g := gb394) (o := .cells #[.slice A0_0 l0_0.length c0_0, .int .i64 a0_1] 25 (0, 0)) (zk BK394) hb)
    replace BK395 := Aside0.mk (blk_below (g := gb395) (o := .cells #[.slice none 0 0, .int .i64 0] 25 (0, 0)) (zk BK395) hb)
    replace HB := Aside0.mk (below_step (zb HB) hb)
    clear hb ho18
    refine hK.out _ _ ⟨(blk_cell BK394.out 0).trans rfl, (blk_cell BK394.out 1).trans rfl⟩ (fun hHeld => ?_)
    clear hK K
    refine nm ?_
    refine one_ (i := 3) (N := some 18) (bm 13 191) rfl rfl (one_of HT_.out (by kernel_rfl)) (by decide) (fun K hK => ?_)
    refine Kd.R_append_rows_step k36 (w0 := w) w.heap.size (by rfl) (.tmp 15) (.tmp 17) 23 36 (.agg #[(.string ⟨#[]⟩), (.string ⟨#[]⟩), (.bool false)]) 40 rfl Try.underlying23 info36 rfl (by decide) (by omega) v399 y398 l0_0 _ _ _ (fun _ => True) (fun _ => False) rfl rfl ?aO ?aR (fun _ _ h => h) (fun _ h => h.elim) ?aF ?aB ?aS ?aL ?_
    (case aR => exact zc (Kd.C_below HR0_0.out HB.out))
    (case aB => exact (zb HB))
    (case aF => exact (fun _ _ => trivial))
    (case aO => exact (zr HO400))
    (case aS => exact (below_size (zb HB)))
    (case aL => have := LMc14.out; omega)
    intro v402 w19 ho hb hg hat
    rw [← Ny401.out] at ho
    replace BK394 := Aside0.mk (blk_grown (g := gb394) (o := .cells #[.slice A0_0 l0_0.length c0_0, .int .i64 a0_1] 25 (0, 0)) (zk BK394) hg (Kd.R_ne HO400.out BK394.out (by decide)))
    replace BK395 := Aside0.mk (blk_grown (g := gb395) (o := .cells #[.slice none 0 0, .int .i64 0] 25 (0, 0)) (zk BK395) hg (Kd.R_ne HO400.out BK395.out (by decide)))
    replace HB := Aside0.mk (hb)
    have HO403 := Aside0.mk (ho)
    clear HO400
    clear ho hb hg hat
    obtain ⟨Ao20, co20, eo20⟩ := Kd.R_slice HO403.out
    (first | subst eo20 | (injection eo20 with f1_ f2_ f3_; have f4_ := f1_.symm; have f5_ := f3_.symm; clear f1_ f2_ f3_; subst f4_; subst f5_))
    refine hK.out _ _ ⟨(blk_cell BK394.out 0).trans rfl, (blk_cell BK394.out 1).trans rfl⟩ (fun hHeld => ?_)
    clear hK K
    refine nm ?_
    refine pu 6 (some 21) (bm 13 255) rfl rfl ?_
    refine one_ (i := 8) (N := some 23) (bm 13 511) rfl rfl (one_of HT_.out (by kernel_rfl)) (by decide) (fun K hK => ?_)
    refine gs Try.func64 #[.agg #[.slice Ao20 y401.length co20, .int .i64 a0_1], .slice A1 l1.length c1] ?_
    with_reducible refine (spec_l11All.calls k (fun k_ => some k_ = (.slice Ao20 y401.length co20 : Value).ownBlock) (.slice Ao20 y401.length co20) y401 a0_1 _ _ l1 t404 t407 t408 w _ ?side1 ?side2 ?side3 ?side4 A15.out).mono ?_
    (case side1 => exact zb HB)
    (case side2 => exact Kd.R_tight rfl HO403.out)
    (case side3 => exact Kd.C_kept_came k36_heap HR1.out (zb HB) (fun k_ hs_ => (fun e_ => Kd.R_base HO403.out k_ e_.symm) hs_))
    (case side4 => exact HC1.out)
    rintro e w21 ⟨v405, rfl, ho0, hb, hkp⟩
    refine ⟨_, rfl, ?_⟩
    replace BK394 := Aside0.mk (blk_kept (zk BK394) hkp (fun hs_ => (fun e_ => (Kd.R_ne HO403.out BK394.out (by decide)) e_) hs_))
    replace BK395 := Aside0.mk (blk_kept (zk BK395) hkp (fun hs_ => (fun e_ => (Kd.R_ne HO403.out BK395.out (by decide)) e_) hs_))
    have HO406 := Aside0.mk (Kd.R_mono (ok' := fun k_ => True) ho0 (fun k_ hk_ => trivial))
    replace HB := Aside0.mk (hb)
    clear HO403
    (try clear hb)
    (try clear hkp)
    (try clear ho0)
    obtain ⟨Ao22, co22, eo22⟩ := Kd.R_slice HO406.out
    (first | subst eo22 | (injection eo22 with f1_ f2_ f3_; have f4_ := f1_.symm; have f5_ := f3_.symm; clear f1_ f2_ f3_; subst f4_; subst f5_))
    refine hK.out _ _ ⟨(blk_cell BK394.out 0).trans rfl, (blk_cell BK394.out 1).trans rfl⟩ (fun hHeld => ?_)
    clear hK K
    refine nm ?_
    refine pu 9 (some 24) (bm 13 1023) rfl rfl ?_
    refine pu 10 (some 25) (bm 13 2047) rfl rfl ?_
    refine one_ (i := 11) (N := none) (bm 13 4095) rfl rfl (one_of HT_.out (by kernel_rfl)) (by decide) (fun K hK => ?_)
    have hs23 : w21.cell? ⟨gb395, 0, none⟩ = some (.slice none 0 0) := (blk_cell BK395.out 0).trans rfl
    have hfs23 := blk_frozen BK395.out 0
    have hns23_0 := NB394_395.out
    have hms23_0 := NB395_394.out
    have hs24 : w21.cell? ⟨gb395, 1, none⟩ = some (.int .i64 0) := (blk_cell BK395.out 1).trans rfl
    have hfs24 := blk_frozen BK395.out 1
    have hns24_0 := NB394_395.out
    have hms24_0 := NB395_394.out
    refine skip_ (w1 := ?_) (by rfl) rfl ?_ ?_
    rotate_left
    ·go_simp
     rfl
    refine hK.out _ _ ⟨((cell_far (p := ⟨gb395, _, none⟩) NB394_395.out _).trans (((cell_far (p := ⟨gb395, _, none⟩) NB394_395.out _).trans (hHeld.1)))), ((cell_far (p := ⟨gb395, _, none⟩) NB394_395.out _).trans (((cell_far (p := ⟨gb395, _, none⟩) NB394_395.out _).trans (hHeld.2))))⟩ (fun hHeld => ?_)
    clear hK K
    refine pu 12 (some 5) (bm 13 8191) rfl rfl ?_
    refine done_ (done_of HT_.out (by kernel_rfl)) ?_
    try go_wp2
    refine bodyPost_ret (results_ct rfl _ _ gb395 25 #[.slice Ao22 t404.length co22, .int .i64 t407] (0, 0) _ rfl (by (with_reducible repeat (first | refine blk_drewN ?_ _ | refine blk_drew ?_ | refine blk_alloc ?_ _)); refine blk_put (cs := #[.slice Ao22 t404.length co22, .int .i64 0]) ?_ 1 _ rfl; (with_reducible repeat (first | refine blk_drewN ?_ _ | refine blk_drew ?_ | refine blk_alloc ?_ _)); refine blk_put (cs := #[.slice none 0 0, .int .i64 0]) ?_ 0 _ rfl; exact zk BK395) Try.underlying25 rfl (by kernel_rfl)) rfl ?_
    exact ⟨_, ze, by (with_reducible repeat (first | apply Kd.R_alloc | apply Kd.R_drewN | apply Kd.R_drew)); exact Kd.R_mono (Kd.R_far (p := ⟨gb395, 1, none⟩) (Kd.R_far (p := ⟨gb395, 0, none⟩) (Kd.R_types HO406.out BK395.out (by decide)) (fun _ hk => hk.2) (.slice Ao22 t404.length co22)) (fun _ hk => hk.2) (.int .i64 t407)) (fun _ hk => trivial), zb HB⟩
   ·rw [if_neg c14] at H
    exact absurd H (by simp)
  ·replace c13 := Bool.eq_false_iff.mpr c13
   subst c13
   have H1 : (some (([] : List (S36)), 0, (⟨#[]⟩ : ByteArray))) = some (r1, r2, r3) := by rw [if_neg (show ¬ (false = true) by decide)] at H; exact H
   clear H
   have H := H1
   clear H1
   simp only [Option.some.injEq, Prod.mk.injEq] at H
   obtain ⟨rfl, rfl, rfl⟩ := H
   have hnb25 := NB395_394.out
   have hnc25 := NB394_395.out
   have hcz26_0 : w12.cell? ⟨gb395, 0, none⟩ = some (.slice none 0 0) := (blk_cell BK395.out 0).trans rfl
   have hcz26_1 : w12.cell? ⟨gb395, 1, none⟩ = some (.int .i64 0) := (blk_cell BK395.out 1).trans rfl
   have hfz26_0 := blk_frozen BK395.out 0
   have hfz26_1 := blk_frozen BK395.out 1
   go_wp2
   refine bodyPost_ret (results_ct rfl _ _ gb395 25 #[.slice none 0 0, .int .i64 0] (0, 0) _ rfl (by (with_reducible repeat (first | refine blk_drewN ?_ _ | refine blk_drew ?_ | refine blk_alloc ?_ _)); refine blk_put (cs := #[.slice none 0 0, .int .i64 0]) ?_ 1 _ rfl; (with_reducible repeat (first | refine blk_drewN ?_ _ | refine blk_drew ?_ | refine blk_alloc ?_ _)); refine blk_put (cs := #[.slice none 0 0, .int .i64 0]) ?_ 0 _ rfl; exact zk BK395) Try.underlying25 rfl (by kernel_rfl)) rfl ?_
   exact ⟨_, ze, by first | exact Kd.R_nil _ _ _ _ _ | exact Kd.N_nil _ _ _ _ _ | exact Kd.V_nil _ _ _ _ _ | exact Kd.Q_nil _ _ _ _ _ | exact Kd.S_nil _ _ _ _ _, zb HB⟩
 ·replace c4 := Bool.eq_false_iff.mpr c4
  subst c4
  have H1 : (some (([] : List (S36)), 0, (⟨#[]⟩ : ByteArray))) = some (r1, r2, r3) := by rw [if_neg (show ¬ (false = true) by decide)] at H; exact H
  clear H
  have H := H1
  clear H1
  simp only [Option.some.injEq, Prod.mk.injEq] at H
  obtain ⟨rfl, rfl, rfl⟩ := H
  go_enter Try.func38, Try.ntmps38
  go_wp2_with (first | ((with_reducible refine gd 2 rfl ?_); refine bx (N := 2) (cs := #[.slice A0_0 l0_0.length c0_0, .int .i64 a0_1]) (t := 25) ?_; intro gb394 hg w27 hbox hb; have BK394 := Aside0.mk (hbox); have GW394 := Aside0.mk ((by rw [hg]; exact (below_size (zb HB)) : w.heap.size ≤ gb394)); have GE394 := Aside0.mk ((by rw [hg]; exact (below_size (zb HB)) : w.heap.size ≤ gb394)); replace HB := Aside0.mk (below_step (zb HB) hb); clear hb hbox hg) | ((with_reducible refine gd 4 rfl ?_); refine bx (N := 4) (cs := #[.slice none 0 0, .int .i64 0]) (t := 25) ?_; intro gb395 hg w28 hbox hb; have BK395 := Aside0.mk (hbox); have GW395 := Aside0.mk ((by rw [hg]; exact (below_size (zb HB)) : w.heap.size ≤ gb395)); have GE395 := Aside0.mk ((by rw [hg]; exact (below_size (zb HB)) : w.heap.size ≤ gb395)); replace HB := Aside0.mk (below_step (zb HB) hb); have NB394_395 := Aside0.mk ((by rw [hg]; exact Nat.ne_of_lt (blk_lt (g := gb394) (o := .cells #[.slice A0_0 l0_0.length c0_0, .int .i64 a0_1] 25 (0, 0)) (zk BK394)) : gb394 ≠ gb395)); have NB395_394 := Aside0.mk ((by rw [hg]; exact Nat.ne_of_gt (blk_lt (g := gb394) (o := .cells #[.slice A0_0 l0_0.length c0_0, .int .i64 a0_1] 25 (0, 0)) (zk BK394)) : gb395 ≠ gb394)); replace BK394 := Aside0.mk (blk_below (g := gb394) (o := .cells #[.slice A0_0 l0_0.length c0_0, .int .i64 a0_1] 25 (0, 0)) (zk BK394) hb); clear hb hbox hg; have hnb29 := NB394_395.out; have hnc29 := NB395_394.out; have hcz30_0 : w28.cell? ⟨gb394, 0, none⟩ = some (.slice A0_0 l0_0.length c0_0) := (blk_cell BK394.out 0).trans rfl; have hcz30_1 : w28.cell? ⟨gb394, 1, none⟩ = some (.int .i64 a0_1) := (blk_cell BK394.out 1).trans rfl; have hfz30_0 := blk_frozen BK394.out 0; have hfz30_1 := blk_frozen BK394.out 1) | ((with_reducible refine gq 19 rfl ?_); refine gl (some 7) Try.func19 #[.agg #[.slice A0_0 l0_0.length c0_0, .int .i64 a0_1]] ?_; (with_reducible refine (spec_TableOk.calls k _ _ l0_0 a0_1 false _ ?side1 ?side2 A3.out).mono ?_); (case side1 => exact zc (Kd.C_below HR0_0.out HB.out)); (case side2 => exact HC0_0.out); rintro e w31 ⟨rfl, hb⟩; refine ⟨_, rfl, ?_⟩; replace BK394 := Aside0.mk (blk_below (g := gb394) (o := .cells #[.slice A0_0 l0_0.length c0_0, .int .i64 a0_1] 25 (0, 0)) (zk BK394) hb); replace BK395 := Aside0.mk (blk_below (g := gb395) (o := .cells #[.slice none 0 0, .int .i64 0] 25 (0, 0)) (zk BK395) hb); replace HB := Aside0.mk (below_step (zb HB) hb); (try clear hb); have hcz32_0 : w31.cell? ⟨gb395, 0, none⟩ = some (.slice none 0 0) := (blk_cell BK395.out 0).trans rfl; have hcz32_1 : w31.cell? ⟨gb395, 1, none⟩ = some (.int .i64 0) := (blk_cell BK395.out 1).trans rfl; have hfz32_0 := blk_frozen BK395.out 0; have hfz32_1 := blk_frozen BK395.out 1))
  refine bodyPost_ret (results_ct rfl _ _ gb395 25 #[.slice none 0 0, .int .i64 0] (0, 0) _ rfl (by (with_reducible repeat (first | refine blk_drewN ?_ _ | refine blk_drew ?_ | refine blk_alloc ?_ _)); refine blk_put (cs := #[.slice none 0 0, .int .i64 0]) ?_ 1 _ rfl; (with_reducible repeat (first | refine blk_drewN ?_ _ | refine blk_drew ?_ | refine blk_alloc ?_ _)); refine blk_put (cs := #[.slice none 0 0, .int .i64 0]) ?_ 0 _ rfl; exact zk BK395) Try.underlying25 rfl (by kernel_rfl)) rfl ?_
  exact ⟨_, ze, by first | exact Kd.R_nil _ _ _ _ _ | exact Kd.N_nil _ _ _ _ _ | exact Kd.V_nil _ _ _ _ _ | exact Kd.Q_nil _ _ _ _ _ | exact Kd.S_nil _ _ _ _ _, zb HB⟩

end Go.Proofs.Ytdhahifdcoinhaa.PFnHeadAgain
