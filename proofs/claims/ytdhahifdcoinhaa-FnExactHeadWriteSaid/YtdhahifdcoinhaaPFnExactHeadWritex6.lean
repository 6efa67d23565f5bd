-- WRITTEN BY a turned print (wip/tools of the prover's repo)
import Derived.Test.YtdhahifdcoinhaaPFnExactHeadWritex0
import Derived.Test.YtdhahifdcoinhaaPFnExactHeadWritex3
import Derived.Test.YtdhahifdcoinhaaPFnExactHeadWritex4
import Derived.Test.YtdhahifdcoinhaaPFnExactHeadWritex5
namespace Go.Proofs.Ytdhahifdcoinhaa.PFnExactHeadWrite
open Go.RowKit Go.Proofs.YtdhahifdcoinhaaW.PrintWords Go.Proofs.YtdhahifdcoinhaaW.PrintLast Go.Proofs.YtdhahifdcoinhaaW.PrintMore Go.Proofs.Ytdhahifdcoinhaa.Lm
attribute [local go_sem] max2_int min2_int max_two min_two max_three min_three max_four min_four   -- for this text's walks alone
set_option linter.unusedVariables false
set_option linter.unusedSimpArgs false

/-! ### spec_l11Write: function 80 -/
-- thin
def spec_l11Write.f (k : Nat) (l0_0 : List (S36)) (a0_1 : Int) (a1_0 : ByteArray) (a1_1 : ByteArray) (a1_2 : Bool) : Option ((List (S36)) × Int × ByteArray) := (spec_l3Find.f k l0_0 a0_1 a1_0 a1_1 a1_2).bind fun bt255 => (if a1_2 = true then ((spec_l11Name.f k bt255.1 4 1 a1_0 a1_1 a1_2).bind fun t257 => ((spec_l2Write.f k a1_1).bind fun t258 => (if t257.size + t258.size ≤ 9223372036854775807 then (some (l0_0, a0_1, t257 ++ t258)) else (none)))) else (if bt255.2 = true then ((spec_l1Write.f k bt255.1 7 1).bind fun t259 => (some (l0_0, a0_1, t259))) else ((spec_l3Add.f k l0_0 a0_1 a1_0 a1_1 a1_2).bind fun bt260 => ((spec_l11Name.f k bt255.1 6 1 a1_0 a1_1 a1_2).bind fun t264 => ((spec_l2Write.f k a1_1).bind fun t265 => (if t264.size + t265.size ≤ 9223372036854775807 then (some (bt260.1, bt260.2, t264 ++ t265)) else (none)))))))
theorem spec_l11Write.mono : ∀ a0 a1 a2 a3 a4 k, LeO (spec_l11Write.f k a0 a1 a2 a3 a4) (spec_l11Write.f (k + 1) a0 a1 a2 a3 a4) := by
 intro a0 a1 a2 a3 a4 k
 unfold spec_l11Write.f
 repeat' first
   | (with_reducible exact spec_l11Name.mono _ _ _ _ _ _ _)
   | (with_reducible exact spec_l1Write.mono _ _ _ _)
   | (with_reducible exact spec_l2Write.mono _ _)
   | (with_reducible exact spec_l3Add.mono _ _ _ _ _ _)
   | (with_reducible exact spec_l3Find.mono _ _ _ _ _ _)
   | (with_reducible exact LeO.refl _)
   | (with_reducible exact LeO.none _)
   | (with_reducible refine LeO.ite ?_ ?_)
   | (with_reducible refine LeO.bind ?_ (fun _ => ?_))
   | exact spec_l11Name.mono _ _ _ _ _ _ _
   | exact spec_l1Write.mono _ _ _ _
   | exact spec_l2Write.mono _ _
   | exact spec_l3Add.mono _ _ _ _ _ _
   | exact spec_l3Find.mono _ _ _ _ _ _
   | exact LeO.none _
   | refine LeO.ite ?_ ?_
   | refine LeO.bind ?_ (fun _ => ?_)
def spec_l11Write.T3 : Bool × List (List Nat × List Nat) := (true, [([], []), ([], []), ([], []), ([1, 2], [1, 2]), ([], []), ([4], [4]), ([5, 3], [5]), ([3, 6], [3, 6]), ([0, 6, 0], [0]), ([7, 8, 0, 1, 2, 3, 4, 5, 6, 7, 8], [7])])
def spec_l11Write.B3 : List Nat := [0, 0, 0, 6, 0, 16, 62, 126, 127, 511]
theorem spec_l11Write.tab3 : rtab .any (opsOf Try.f80 3) = spec_l11Write.T3 := by kernel_rfl
theorem spec_l11Write.bits3 : waitsOk spec_l11Write.T3.2 spec_l11Write.B3 = true := by kernel_rfl
def spec_l11Write.T6 : Bool × List (List Nat × List Nat) := (true, [([], []), ([], []), ([0, 1], [0, 1]), ([], []), ([], []), ([3, 4, 2], [3, 4]), ([], []), ([6], [6]), ([7, 5], [7]), ([5, 8], [5, 8]), ([2, 8, 0, 1, 2], [2]), ([9, 10, 0, 1, 2, 3, 4, 5, 6, 7, 8, 9, 10], [9])])
def spec_l11Write.B6 : List Nat := [0, 0, 3, 0, 0, 31, 0, 64, 255, 511, 511, 2047]
theorem spec_l11Write.tab6 : rtab .any (opsOf Try.f80 6) = spec_l11Write.T6 := by kernel_rfl
theorem spec_l11Write.bits6 : waitsOk spec_l11Write.T6.2 spec_l11Write.B6 = true := by kernel_rfl
set_option maxHeartbeats 8000000 in
set_option maxRecDepth 100000 in
theorem spec_l11Write.calls (k : Nat) (P0_0_ : Nat → Prop) (u9000_ : Value) (l0_0 : List (S36)) (a0_1 : Int) (a1_0 : ByteArray) (a1_1 : ByteArray) (a1_2 : Bool) (r1 : List (S36)) (r2 : Int) (r3 : ByteArray) (w0 w : World) (hB : Below w0.heap.size w0 w) (ho0_0 : Kd.R k36 36 w w0.heap.size P0_0_ u9000_ l0_0) (h : spec_l11Write.f k l0_0 a0_1 a1_0 a1_1 a1_2 = some (r1, r2, r3)) :
  Calls Try.prog 80 #[.agg #[u9000_, .int .i64 a0_1], .agg #[.string a1_0, .string a1_1, .bool a1_2]] w fun e w' => ∃ v0_ : Value, e = .returned (.tuple #[.agg #[v0_, .int .i64 r2], .string r3]) ∧ Kd.R k36 36 w' w0.heap.size (fun k_ => (P0_0_ k_ ∨ w.heap.size ≤ k_)) v0_ r1 ∧ Below w0.heap.size w0 w' ∧ Kept w w' (fun k_ => P0_0_ k_) := by
 have hu25 := Try.underlying25
 have hu36 := Try.underlying36
 have HO0_0 := Aside0.mk (show Kd.R k36 36 w w0.heap.size (fun k_ => (P0_0_ k_ ∨ w.heap.size ≤ k_)) u9000_ l0_0 from Kd.R_mono ho0_0 (fun k_ hk => (.inl hk)))
 have HK := Aside0.mk (Kept.refl w (fun k_ => P0_0_ k_))
 have HW0 := Aside0.mk hB.size
 have HB := Aside0.mk hB
 clear hB
 have H : ((spec_l3Find.f k l0_0 a0_1 a1_0 a1_1 a1_2).bind fun bt255 => (if a1_2 = true then ((spec_l11Name.f k bt255.1 4 1 a1_0 a1_1 a1_2).bind fun t257 => ((spec_l2Write.f k a1_1).bind fun t258 => (if t257.size + t258.size ≤ 9223372036854775807 then (some (l0_0, a0_1, t257 ++ t258)) else (none)))) else (if bt255.2 = true then ((spec_l1Write.f k bt255.1 7 1).bind fun t259 => (some (l0_0, a0_1, t259))) else ((spec_l3Add.f k l0_0 a0_1 a1_0 a1_1 a1_2).bind fun bt260 => ((spec_l11Name.f k bt255.1 6 1 a1_0 a1_1 a1_2).bind fun t264 => ((spec_l2Write.f k a1_1).bind fun t265 => (if t264.size + t265.size ≤ 9223372036854775807 then (some (bt260.1, bt260.2, t264 ++ t265)) else (none)))))))) = some (r1, r2, r3) := h
 clear h
 replace H := Option.bind_eq_some_iff.mp H
 obtain ⟨⟨t255, t256⟩, A30, H⟩ := H
 replace H : (if a1_2 = true then ((spec_l11Name.f k t255 4 1 a1_0 a1_1 a1_2).bind fun t257 => ((spec_l2Write.f k a1_1).bind fun t258 => (if t257.size + t258.size ≤ 9223372036854775807 then (some (l0_0, a0_1, t257 ++ t258)) else (none)))) else (if t256 = true then ((spec_l1Write.f k t255 7 1).bind fun t259 => (some (l0_0, a0_1, t259))) else ((spec_l3Add.f k l0_0 a0_1 a1_0 a1_1 a1_2).bind fun bt260 => ((spec_l11Name.f k t255 6 1 a1_0 a1_1 a1_2).bind fun t264 => ((spec_l2Write.f k a1_1).bind fun t265 => (if t264.size + t265.size ≤ 9223372036854775807 then (some (bt260.1, bt260.2, t264 ++ t265)) else (none))))))) = some (r1, r2, r3) := H
 have A3 := Aside0.mk A30
 clear A30
 have HC4 := Aside0.mk H
 clear H
 obtain ⟨Ao5, co5, eo5⟩ := Kd.R_slice HO0_0.out
 subst eo5
 go_enter Try.func80, Try.ntmps80
 go_upto_if 14 with (first | ((with_reducible refine gd 2 rfl ?_); refine bx (N := 2) (cs := #[.slice Ao5 l0_0.length co5, .int .i64 a0_1]) (t := 25) ?_; intro gb252 hg w6 hbox hb; replace HO0_0 := Aside0.mk (Kd.R_below (zr HO0_0) hb); have BK252 := Aside0.mk (hbox); have GW252 := Aside0.mk ((by rw [hg]; exact (by first | exact HK.out.1 | exact (show Kept w _ (fun k_ => P0_0_ k_) from by repeat (first | (with_reducible first | exact HK.out | apply Kept.alloc | apply Kept.drewN | apply Kept.drew) | exact HK.out)).1) : w.heap.size ≤ gb252)); replace HK := Aside0.mk (Kept.below (S := (fun k_ => P0_0_ k_)) (by repeat (first | (with_reducible first | exact HK.out | apply Kept.alloc | apply Kept.drewN | apply Kept.drew) | exact HK.out)) hb); have GE252 := Aside0.mk ((by rw [hg]; exact (below_size (zb HB)) : w0.heap.size ≤ gb252)); replace HB := Aside0.mk (below_step (zb HB) hb); clear hb hbox hg) | ((with_reducible refine gd 3 rfl ?_); refine bx (N := 3) (cs := #[.string a1_0, .string a1_1, .bool a1_2]) (t := 36) ?_; intro gb253 hg w7 hbox hb; replace HO0_0 := Aside0.mk (Kd.R_below (Kd.R_elderB (zr HO0_0) gb253 (Nat.le_of_eq hg.symm)) hb); have BK253 := Aside0.mk (hbox); have GW253 := Aside0.mk ((by rw [hg]; exact (by first | exact HK.out.1 | exact (show Kept w _ (fun k_ => P0_0_ k_) from by repeat (first | (with_reducible first | exact HK.out | apply Kept.alloc | apply Kept.drewN | apply Kept.drew | refine Kept.setCell ?_ (.inr GW252.out) _) | exact HK.out)).1) : w.heap.size ≤ gb253)); replace HK := Aside0.mk (Kept.below (S := (fun k_ => P0_0_ k_)) (by repeat (first | (with_reducible first | exact HK.out | apply Kept.alloc | apply Kept.drewN | apply Kept.drew | refine Kept.setCell ?_ (.inr GW252.out) _) | exact HK.out)) hb); have GE253 := Aside0.mk ((by rw [hg]; exact (below_size (zb HB)) : w0.heap.size ≤ gb253)); replace HB := Aside0.mk (below_step (zb HB) hb); have NB252_253 := Aside0.mk ((by rw [hg]; exact Nat.ne_of_lt (blk_lt (g := gb252) (o := .cells #[.slice Ao5 l0_0.length co5, .int .i64 a0_1] 25 (0, 0)) (zk BK252)) : gb252 ≠ gb253)); have NB253_252 := Aside0.mk ((by rw [hg]; exact Nat.ne_of_gt (blk_lt (g := gb252) (o := .cells #[.slice Ao5 l0_0.length co5, .int .i64 a0_1] 25 (0, 0)) (zk BK252)) : gb253 ≠ gb252)); replace BK252 := Aside0.mk (blk_below (g := gb252) (o := .cells #[.slice Ao5 l0_0.length co5, .int .i64 a0_1] 25 (0, 0)) (zk BK252) hb); clear hb hbox hg) | ((with_reducible refine gd 4 rfl ?_); refine bx (N := 4) (cs := #[.slice none 0 0, .int .i64 0]) (t := 25) ?_; intro gb254 hg w8 hbox hb; replace HO0_0 := Aside0.mk (Kd.R_below (zr HO0_0) hb); have BK254 := Aside0.mk (hbox); have GW254 := Aside0.mk ((by rw [hg]; exact (by first | exact HK.out.1 | exact (show Kept w _ (fun k_ => P0_0_ k_) from by repeat (first | (with_reducible first | exact HK.out | apply Kept.alloc | apply Kept.drewN | apply Kept.drew | refine Kept.setCell ?_ (.inr GW252.out) _ | refine Kept.setCell ?_ (.inr GW253.out) _) | exact HK.out)).1) : w.heap.size ≤ gb254)); replace HK := Aside0.mk (Kept.below (S := (fun k_ => P0_0_ k_)) (by repeat (first | (with_reducible first | exact HK.out | apply Kept.alloc | apply Kept.drewN | apply Kept.drew | refine Kept.setCell ?_ (.inr GW252.out) _ | refine Kept.setCell ?_ (.inr GW253.out) _) | exact HK.out)) hb); have GE254 := Aside0.mk ((by rw [hg]; exact (below_size (zb HB)) : w0.heap.size ≤ gb254)); replace HB := Aside0.mk (below_step (zb HB) hb); have NB252_254 := Aside0.mk ((by rw [hg]; exact Nat.ne_of_lt (blk_lt (g := gb252) (o := .cells #[.slice Ao5 l0_0.length co5, .int .i64 a0_1] 25 (0, 0)) (zk BK252)) : gb252 ≠ gb254)); have NB254_252 := Aside0.mk ((by rw [hg]; exact Nat.ne_of_gt (blk_lt (g := gb252) (o := .cells #[.slice Ao5 l0_0.length co5, .int .i64 a0_1] 25 (0, 0)) (zk BK252)) : gb254 ≠ gb252)); replace BK252 := Aside0.mk (blk_below (g := gb252) (o := .cells #[.slice Ao5 l0_0.length co5, .int .i64 a0_1] 25 (0, 0)) (zk BK252) hb); have NB253_254 := Aside0.mk ((by rw [hg]; exact Nat.ne_of_lt (blk_lt (g := gb253) (o := .cells #[.string a1_0, .string a1_1, .bool a1_2] 36 (0, 0)) (zk BK253)) : gb253 ≠ gb254)); have NB254_253 := Aside0.mk ((by rw [hg]; exact Nat.ne_of_gt (blk_lt (g := gb253) (o := .cells #[.string a1_0, .string a1_1, .bool a1_2] 36 (0, 0)) (zk BK253)) : gb254 ≠ gb253)); replace BK253 := Aside0.mk (blk_below (g := gb253) (o := .cells #[.string a1_0, .string a1_1, .bool a1_2] 36 (0, 0)) (zk BK253) hb); clear hb hbox hg; have hnb9 := NB252_253.out; have hnc9 := NB253_252.out; have hnb10 := NB252_254.out; have hnc10 := NB254_252.out; have hcz11_0 : w8.cell? ⟨gb252, 0, none⟩ = some (.slice Ao5 l0_0.length co5) := (blk_cell BK252.out 0).trans rfl; have hcz11_1 : w8.cell? ⟨gb252, 1, none⟩ = some (.int .i64 a0_1) := (blk_cell BK252.out 1).trans rfl; have hfz11_0 := blk_frozen BK252.out 0; have hfz11_1 := blk_frozen BK252.out 1; have hnb12 := NB253_254.out; have hnc12 := NB254_253.out; have hcz13_0 : w8.cell? ⟨gb253, 0, none⟩ = some (.string a1_0) := (blk_cell BK253.out 0).trans rfl; have hcz13_1 : w8.cell? ⟨gb253, 1, none⟩ = some (.string a1_1) := (blk_cell BK253.out 1).trans rfl; have hcz13_2 : w8.cell? ⟨gb253, 2, none⟩ = some (.bool a1_2) := (blk_cell BK253.out 2).trans rfl; have hfz13_0 := blk_frozen BK253.out 0; have hfz13_1 := blk_frozen BK253.out 1; have hfz13_2 := blk_frozen BK253.out 2) | ((with_reducible refine gq 89 rfl ?_); refine gl (some 11) Try.func89 #[.agg #[.slice Ao5 l0_0.length co5, .int .i64 a0_1], .agg #[.string a1_0, .string a1_1, .bool a1_2]] ?_; (with_reducible refine (spec_l3Find.calls k _ _ l0_0 a0_1 a1_0 a1_1 a1_2 t255 t256 _ ?side1 ?side2 A3.out).mono ?_); (case side1 => exact zc (Kd.R_reads' HO0_0.out).2.2); (case side2 => exact (Kd.R_reads' HO0_0.out).2.1); rintro e w14 ⟨rfl, hb⟩; refine ⟨_, rfl, ?_⟩; replace HO0_0 := Aside0.mk (Kd.R_below (zr HO0_0) hb); replace BK252 := Aside0.mk (blk_below (g := gb252) (o := .cells #[.slice Ao5 l0_0.length co5, .int .i64 a0_1] 25 (0, 0)) (zk BK252) hb); replace BK253 := Aside0.mk (blk_below (g := gb253) (o := .cells #[.string a1_0, .string a1_1, .bool a1_2] 36 (0, 0)) (zk BK253) hb); replace BK254 := Aside0.mk (blk_below (g := gb254) (o := .cells #[.slice none 0 0, .int .i64 0] 25 (0, 0)) (zk BK254) hb); replace HK := Aside0.mk (Kept.below (S := (fun k_ => P0_0_ k_)) (by repeat (first | (with_reducible first | exact HK.out | apply Kept.alloc | apply Kept.drewN | apply Kept.drew | refine Kept.setCell ?_ (.inr GW252.out) _ | refine Kept.setCell ?_ (.inr GW253.out) _ | refine Kept.setCell ?_ (.inr GW254.out) _) | exact HK.out)) hb); replace HB := Aside0.mk (below_step (zb HB) hb); (try clear hb); have hcz15_0 : w14.cell? ⟨gb253, 0, none⟩ = some (.string a1_0) := (blk_cell BK253.out 0).trans rfl; have hcz15_1 : w14.cell? ⟨gb253, 1, none⟩ = some (.string a1_1) := (blk_cell BK253.out 1).trans rfl; have hcz15_2 : w14.cell? ⟨gb253, 2, none⟩ = some (.bool a1_2) := (blk_cell BK253.out 2).trans rfl; have hfz15_0 := blk_frozen BK253.out 0; have hfz15_1 := blk_frozen BK253.out 1; have hfz15_2 := blk_frozen BK253.out 2))
 (try simp only [Act.put, s1, s2, s3])
 have H := HC4.out
 clear HC4
 by_cases c16 : a1_2 = true
 ·subst c16
  have H1 : ((spec_l11Name.f k t255 4 1 a1_0 a1_1 true).bind fun t257 => ((spec_l2Write.f k a1_1).bind fun t258 => (if t257.size + t258.size ≤ 9223372036854775807 then (some (l0_0, a0_1, t257 ++ t258)) else (none)))) = some (r1, r2, r3) := by rw [if_pos rfl] at H; exact H
  clear H
  have H := H1
  clear H1
  replace H := Option.bind_eq_some_iff.mp H
  obtain ⟨t257, A170, H⟩ := H
  replace H : ((spec_l2Write.f k a1_1).bind fun t258 => (if t257.size + t258.size ≤ 9223372036854775807 then (some (l0_0, a0_1, t257 ++ t258)) else (none))) = some (r1, r2, r3) := H
  have A17 := Aside0.mk A170
  clear A170
  replace H := Option.bind_eq_some_iff.mp H
  obtain ⟨t258, A180, H⟩ := H
  replace H : (if t257.size + t258.size ≤ 9223372036854775807 then (some (l0_0, a0_1, t257 ++ t258)) else (none)) = some (r1, r2, r3) := H
  have A18 := Aside0.mk A180
  clear A180
  by_cases c19 : t257.size + t258.size ≤ 9223372036854775807
  ·rw [if_pos c19] at H
   have c19b0 := eq_true c19
   have c19b1 : decide (t257.size + t258.size ≤ 9223372036854775807) = true := decide_eq_true c19
   try have c19b2 : (9223372036854775807 < t257.size + t258.size) = False := eq_false (Nat.not_lt.2 c19)
   simp only [Option.some.injEq, Prod.mk.injEq] at H
   obtain ⟨rfl, rfl, rfl⟩ := H
   try go_wp2
   replace HO0_0 := Aside0.mk (Kd.R_drew HO0_0.out)
   replace BK252 := Aside0.mk (blk_drew BK252.out)
   replace BK253 := Aside0.mk (blk_drew BK253.out)
   replace BK254 := Aside0.mk (blk_drew BK254.out)
   replace HK := Aside0.mk (Kept.drew HK.out)
   replace HB := Aside0.mk (below_drew1 HB.out)
   refine start_ (n := 10) (S := fun w' => w'.cell? ⟨gb252, 0, none⟩ = some (.slice Ao5 l0_0.length co5) ∧ w'.cell? ⟨gb252, 1, none⟩ = some (.int .i64 a0_1) ∧ w'.cell? ⟨gb253, 0, none⟩ = some (.string a1_0) ∧ w'.cell? ⟨gb253, 1, none⟩ = some (.string a1_1) ∧ w'.cell? ⟨gb253, 2, none⟩ = some (.bool true)) (ds := []) #[false, false, false, false, false, false, false, false, false, false] (by kernel_rfl) rfl rfl ⟨(blk_cell BK252.out 0).trans rfl, (blk_cell BK252.out 1).trans rfl, (blk_cell BK253.out 0).trans rfl, (blk_cell BK253.out 1).trans rfl, (blk_cell BK253.out 2).trans rfl⟩ (fun hHeld => ?_); refine with_tabW spec_l11Write.tab3 spec_l11Write.bits3 (fun HT_ HW_ => ?_)
   generalize w14.drew = w20 at HO0_0 BK252 BK253 BK254 HK HB hHeld ⊢
   refine pu 1 (some 18) (bm 10 2) rfl rfl ?_
   refine pu 4 (some 21) (bm 10 18) rfl rfl ?_
   refine tk5 0 (some 17) (bm 10 19) rfl rfl hHeld ?_
   refine tk5 2 (some 19) (bm 10 23) rfl rfl hHeld ?_
   refine tk5 5 (some 22) (bm 10 55) rfl rfl hHeld ?_
   refine one_ (i := 3) (N := some 20) (bm 10 63) rfl rfl (one_of HT_.out (by kernel_rfl)) (by decide) (fun K hK => ?_)
   refine gs Try.func90 #[.int .i64 t255, .int .i64 4, .int .i64 1, .agg #[.string a1_0, .string a1_1, .bool true]] ?_
   with_reducible refine (spec_l11Name.calls k t255 4 1 a1_0 a1_1 true t257 _ A17.out).mono ?_
   rintro e w21 ⟨rfl, hb⟩
   refine ⟨_, rfl, ?_⟩
   replace HO0_0 := Aside0.mk (Kd.R_below (zr HO0_0) hb)
   replace BK252 := Aside0.mk (blk_below (g := gb252) (o := .cells #[.slice Ao5 l0_0.length co5, .int .i64 a0_1] 25 (0, 0)) (zk BK252) hb)
   replace BK253 := Aside0.mk (blk_below (g := gb253) (o := .cells #[.string a1_0, .string a1_1, .bool true] 36 (0, 0)) (zk BK253) hb)
   replace BK254 := Aside0.mk (blk_below (g := gb254) (o := .cells #[.slice none 0 0, .int .i64 0] 25 (0, 0)) (zk BK254) hb)
   replace HK := Aside0.mk (Kept.below (S := (fun k_ => P0_0_ k_)) (by repeat (first | (with_reducible first | exact HK.out | apply Kept.alloc | apply Kept.drewN | apply Kept.drew | refine Kept.setCell ?_ (.inr GW252.out) _ | refine Kept.setCell ?_ (.inr GW253.out) _ | refine Kept.setCell ?_ (.inr GW254.out) _) | exact HK.out)) hb)
   replace HB := Aside0.mk (below_step (zb HB) hb)
   (try clear hb)
   refine hK.out _ _ ⟨(blk_cell BK252.out 0).trans rfl, (blk_cell BK252.out 1).trans rfl, (blk_cell BK253.out 0).trans rfl, (blk_cell BK253.out 1).trans rfl, (blk_cell BK253.out 2).trans rfl⟩ (fun hHeld => ?_)
   clear hK K
   refine nm ?_
   refine one_ (i := 6) (N := some 23) (bm 10 127) rfl rfl (one_of HT_.out (by kernel_rfl)) (by decide) (fun K hK => ?_)
   refine gs Try.func91 #[.string a1_1] ?_
   with_reducible refine (spec_l2Write.calls k a1_1 t258 _ A18.out).mono ?_
   rintro e w22 ⟨rfl, hb⟩
   refine ⟨_, rfl, ?_⟩
   replace HO0_0 := Aside0.mk (Kd.R_below (zr HO0_0) hb)
   replace BK252 := Aside0.mk (blk_below (g := gb252) (o := .cells #[.slice Ao5 l0_0.length co5, .int .i64 a0_1] 25 (0, 0)) (zk BK252) hb)
   replace BK253 := Aside0.mk (blk_below (g := gb253) (o := .cells #[.string a1_0, .string a1_1, .bool true] 36 (0, 0)) (zk BK253) hb)
   replace BK254 := Aside0.mk (blk_below (g := gb254) (o := .cells #[.slice none 0 0, .int .i64 0] 25 (0, 0)) (zk BK254) hb)
   replace HK := Aside0.mk (Kept.below (S := (fun k_ => P0_0_ k_)) (by repeat (first | (with_reducible first | exact HK.out | apply Kept.alloc | apply Kept.drewN | apply Kept.drew | refine Kept.setCell ?_ (.inr GW252.out) _ | refine Kept.setCell ?_ (.inr GW253.out) _ | refine Kept.setCell ?_ (.inr GW254.out) _) | exact HK.out)) hb)
   replace HB := Aside0.mk (below_step (zb HB) hb)
   (try clear hb)
   refine hK.out _ _ ⟨(blk_cell BK252.out 0).trans rfl, (blk_cell BK252.out 1).trans rfl, (blk_cell BK253.out 0).trans rfl, (blk_cell BK253.out 1).trans rfl, (blk_cell BK253.out 2).trans rfl⟩ (fun hHeld => ?_)
   clear hK K
   refine nm ?_
   refine pu 7 (some 24) (bm 10 255) rfl rfl ?_
   refine one_ (i := 8) (N := none) (bm 10 511) rfl rfl (one_of HT_.out (by kernel_rfl)) (by decide) (fun K hK => ?_)
   have hs23 : w22.cell? ⟨gb254, 0, none⟩ = some (.slice none 0 0) := (blk_cell BK254.out 0).trans rfl
   have hfs23 := blk_frozen BK254.out 0
   have hns23_0 := NB252_254.out
   have hns23_1 := NB253_254.out
   have hms23_0 := NB254_252.out
   have hms23_1 := NB254_253.out
   have hs24 : w22.cell? ⟨gb254, 1, none⟩ = some (.int .i64 0) := (blk_cell BK254.out 1).trans rfl
   have hfs24 := blk_frozen BK254.out 1
   have hns24_0 := NB252_254.out
   have hns24_1 := NB253_254.out
   have hms24_0 := NB254_252.out
   have hms24_1 := NB254_253.out
   refine skip_ (w1 := ?_) (by rfl) rfl ?_ ?_
   rotate_left
   ·go_simp
    rfl
   refine hK.out _ _ ⟨((cell_far (p := ⟨gb254, _, none⟩) NB252_254.out _).trans (((cell_far (p := ⟨gb254, _, none⟩) NB252_254.out _).trans (hHeld.1)))), ((cell_far (p := ⟨gb254, _, none⟩) NB252_254.out _).trans (((cell_far (p := ⟨gb254, _, none⟩) NB252_254.out _).trans (hHeld.2.1)))), ((cell_far (p := ⟨gb254, _, none⟩) NB253_254.out _).trans (((cell_far (p := ⟨gb254, _, none⟩) NB253_254.out _).trans (hHeld.2.2.1)))), ((cell_far (p := ⟨gb254, _, none⟩) NB253_254.out _).trans (((cell_far (p := ⟨gb254, _, none⟩) NB253_254.out _).trans (hHeld.2.2.2.1)))), ((cell_far (p := ⟨gb254, _, none⟩) NB253_254.out _).trans (((cell_far (p := ⟨gb254, _, none⟩) NB253_254.out _).trans (hHeld.2.2.2.2))))⟩ (fun hHeld => ?_)
   clear hK K
   refine pu 9 (some 5) (bm 10 1023) rfl rfl ?_
   refine done_ (done_of HT_.out (by kernel_rfl)) ?_
   try go_wp2
   refine bodyPost_ret (results_ct rfl _ _ gb254 25 #[.slice Ao5 l0_0.length co5, .int .i64 a0_1] (0, 0) _ rfl (by (with_reducible repeat (first | refine blk_drewN ?_ _ | refine blk_drew ?_ | refine blk_alloc ?_ _)); refine blk_put (cs := #[.slice Ao5 l0_0.length co5, .int .i64 0]) ?_ 1 _ rfl; (with_reducible repeat (first | refine blk_drewN ?_ _ | refine blk_drew ?_ | refine blk_alloc ?_ _)); refine blk_put (cs := #[.slice none 0 0, .int .i64 0]) ?_ 0 _ rfl; exact zk BK254) Try.underlying25 rfl (by kernel_rfl)) rfl ?_
   exact ⟨_, ze, by (with_reducible repeat (first | apply Kd.R_alloc | apply Kd.R_drewN | apply Kd.R_drew)); exact Kd.R_mono (Kd.R_far (p := ⟨gb254, 1, none⟩) (Kd.R_far (p := ⟨gb254, 0, none⟩) (Kd.R_types HO0_0.out BK254.out (by decide)) (fun _ hk => hk.2) (.slice Ao5 l0_0.length co5)) (fun _ hk => hk.2) (.int .i64 a0_1)) (fun _ hk => hk.1.1), zb HB, by repeat (first | (with_reducible first | exact HK.out | apply Kept.alloc | apply Kept.drewN | apply Kept.drew | refine Kept.setCell ?_ (.inr GW252.out) _ | refine Kept.setCell ?_ (.inr GW253.out) _ | refine Kept.setCell ?_ (.inr GW254.out) _) | exact HK.out)⟩
  ·rw [if_neg c19] at H
   exact absurd H (by simp)
 ·replace c16 := Bool.eq_false_iff.mpr c16
  subst c16
  have H1 : (if t256 = true then ((spec_l1Write.f k t255 7 1).bind fun t259 => (some (l0_0, a0_1, t259))) else ((spec_l3Add.f k l0_0 a0_1 a1_0 a1_1 false).bind fun bt260 => ((spec_l11Name.f k t255 6 1 a1_0 a1_1 false).bind fun t264 => ((spec_l2Write.f k a1_1).bind fun t265 => (if t264.size + t265.size ≤ 9223372036854775807 then (some (bt260.1, bt260.2, t264 ++ t265)) else (none)))))) = some (r1, r2, r3) := by rw [if_neg (show ¬ (false = true) by decide)] at H; exact H
  clear H
  have H := H1
  clear H1
  by_cases c25 : t256 = true
  ·subst c25
   have H1 : ((spec_l1Write.f k t255 7 1).bind fun t259 => (some (l0_0, a0_1, t259))) = some (r1, r2, r3) := by rw [if_pos rfl] at H; exact H
   clear H
   have H := H1
   clear H1
   replace H := Option.bind_eq_some_iff.mp H
   obtain ⟨t259, A260, H⟩ := H
   replace H : (some (l0_0, a0_1, t259)) = some (r1, r2, r3) := H
   have A26 := Aside0.mk A260
   clear A260
   simp only [Option.some.injEq, Prod.mk.injEq] at H
   obtain ⟨rfl, rfl, rfl⟩ := H
   try go_wp2
   replace HO0_0 := Aside0.mk (Kd.R_drew HO0_0.out)
   replace BK252 := Aside0.mk (blk_drew BK252.out)
   replace BK253 := Aside0.mk (blk_drew BK253.out)
   replace BK254 := Aside0.mk (blk_drew BK254.out)
   replace HK := Aside0.mk (Kept.drew HK.out)
   replace HB := Aside0.mk (below_drew1 HB.out)
   refine start_ (n := 5) (S := fun w' => w'.cell? ⟨gb252, 0, none⟩ = some (.slice Ao5 l0_0.length co5) ∧ w'.cell? ⟨gb252, 1, none⟩ = some (.int .i64 a0_1)) (ds := []) #[false, false, false, false, false] (by kernel_rfl) rfl rfl ⟨(blk_cell BK252.out 0).trans rfl, (blk_cell BK252.out 1).trans rfl⟩ (fun hHeld => ?_)
   generalize w14.drew = w27 at HO0_0 BK252 BK253 BK254 HK HB hHeld ⊢
   refine pu 1 (some 28) (bm 5 2) rfl rfl ?_
   refine tk2 0 (some 27) (bm 5 3) rfl rfl hHeld ?_
   refine one_ (i := 2) (N := some 29) (bm 5 7) rfl rfl (by kernel_rfl) (by decide) (fun K hK => ?_)
   refine gs Try.func92 #[.int .i64 t255, .int .i64 7, .int .i64 1] ?_
   with_reducible refine (spec_l1Write.calls k t255 7 1 t259 _ A26.out).mono ?_
   rintro e w28 ⟨rfl, hb⟩
   refine ⟨_, rfl, ?_⟩
   replace HO0_0 := Aside0.mk (Kd.R_below (zr HO0_0) hb)
   replace BK252 := Aside0.mk (blk_below (g := gb252) (o := .cells #[.slice Ao5 l0_0.length co5, .int .i64 a0_1] 25 (0, 0)) (zk BK252) hb)
   replace BK253 := Aside0.mk (blk_below (g := gb253) (o := .cells #[.string a1_0, .string a1_1, .bool false] 36 (0, 0)) (zk BK253) hb)
   replace BK254 := Aside0.mk (blk_below (g := gb254) (o := .cells #[.slice none 0 0, .int .i64 0] 25 (0, 0)) (zk BK254) hb)
   replace HK := Aside0.mk (Kept.below (S := (fun k_ => P0_0_ k_)) (by repeat (first | (with_reducible first | exact HK.out | apply Kept.alloc | apply Kept.drewN | apply Kept.drew | refine Kept.setCell ?_ (.inr GW252.out) _ | refine Kept.setCell ?_ (.inr GW253.out) _ | refine Kept.setCell ?_ (.inr GW254.out) _) | exact HK.out)) hb)
   replace HB := Aside0.mk (below_step (zb HB) hb)
   (try clear hb)
   refine hK.out _ _ ⟨(blk_cell BK252.out 0).trans rfl, (blk_cell BK252.out 1).trans rfl⟩ (fun hHeld => ?_)
   clear hK K
   refine nm ?_
   refine one_ (i := 3) (N := none) (bm 5 15) rfl rfl (by kernel_rfl) (by decide) (fun K hK => ?_)
   have hs29 : w28.cell? ⟨gb254, 0, none⟩ = some (.slice none 0 0) := (blk_cell BK254.out 0).trans rfl
   have hfs29 := blk_frozen BK254.out 0
   have hns29_0 := NB252_254.out
   have hns29_1 := NB253_254.out
   have hms29_0 := NB254_252.out
   have hms29_1 := NB254_253.out
   have hs30 : w28.cell? ⟨gb254, 1, none⟩ = some (.int .i64 0) := (blk_cell BK254.out 1).trans rfl
   have hfs30 := blk_frozen BK254.out 1
   have hns30_0 := NB252_254.out
   have hns30_1 := NB253_254.out
   have hms30_0 := NB254_252.out
   have hms30_1 := NB254_253.out
   refine skip_ (w1 := ?_) (by rfl) rfl ?_ ?_
   rotate_left
   ·go_simp
    rfl
   refine hK.out _ _ ⟨((cell_far (p := ⟨gb254, _, none⟩) NB252_254.out _).trans (((cell_far (p := ⟨gb254, _, none⟩) NB252_254.out _).trans (hHeld.1)))), ((cell_far (p := ⟨gb254, _, none⟩) NB252_254.out _).trans (((cell_far (p := ⟨gb254, _, none⟩) NB252_254.out _).trans (hHeld.2))))⟩ (fun hHeld => ?_)
   clear hK K
   refine pu 4 (some 5) (bm 5 31) rfl rfl ?_
   refine done_ (by kernel_rfl) ?_
   try go_wp2
   refine bodyPost_ret (results_ct rfl _ _ gb254 25 #[.slice Ao5 l0_0.length co5, .int .i64 a0_1] (0, 0) _ rfl (by (with_reducible repeat (first | refine blk_drewN ?_ _ | refine blk_drew ?_ | refine blk_alloc ?_ _)); refine blk_put (cs := #[.slice Ao5 l0_0.length co5, .int .i64 0]) ?_ 1 _ rfl; (with_reducible repeat (first | refine blk_drewN ?_ _ | refine blk_drew ?_ | refine blk_alloc ?_ _)); refine blk_put (cs := #[.slice none 0 0, .int .i64 0]) ?_ 0 _ rfl; exact zk BK254) Try.underlying25 rfl (by kernel_rfl)) rfl ?_
   exact ⟨_, ze, by (with_reducible repeat (first | apply Kd.R_alloc | apply Kd.R_drewN | apply Kd.R_drew)); exact Kd.R_mono (Kd.R_far (p := ⟨gb254, 1, none⟩) (Kd.R_far (p := ⟨gb254, 0, none⟩) (Kd.R_types HO0_0.out BK254.out (by decide)) (fun _ hk => hk.2) (.slice Ao5 l0_0.length co5)) (fun _ hk => hk.2) (.int .i64 a0_1)) (fun _ hk => hk.1.1), zb HB, by repeat (first | (with_reducible first | exact HK.out | apply Kept.alloc | apply Kept.drewN | apply Kept.drew | refine Kept.setCell ?_ (.inr GW252.out) _ | refine Kept.setCell ?_ (.inr GW253.out) _ | refine Kept.setCell ?_ (.inr GW254.out) _) | exact HK.out)⟩
  ·replace c25 := Bool.eq_false_iff.mpr c25
   subst c25
   have H1 : ((spec_l3Add.f k l0_0 a0_1 a1_0 a1_1 false).bind fun bt260 => ((spec_l11Name.f k t255 6 1 a1_0 a1_1 false).bind fun t264 => ((spec_l2Write.f k a1_1).bind fun t265 => (if t264.size + t265.size ≤ 9223372036854775807 then (some (bt260.1, bt260.2, t264 ++ t265)) else (none))))) = some (r1, r2, r3) := by rw [if_neg (show ¬ (false = true) by decide)] at H; exact H
   clear H
   have H := H1
   clear H1
   replace H := Option.bind_eq_some_iff.mp H
   obtain ⟨⟨t260, t263⟩, A310, H⟩ := H
   replace H : ((spec_l11Name.f k t255 6 1 a1_0 a1_1 false).bind fun t264 => ((spec_l2Write.f k a1_1).bind fun t265 => (if t264.size + t265.size ≤ 9223372036854775807 then (some (t260, t263, t264 ++ t265)) else (none)))) = some (r1, r2, r3) := H
   have A31 := Aside0.mk A310
   clear A310
   replace H := Option.bind_eq_some_iff.mp H
   obtain ⟨t264, A320, H⟩ := H
   replace H : ((spec_l2Write.f k a1_1).bind fun t265 => (if t264.size + t265.size ≤ 9223372036854775807 then (some (t260, t263, t264 ++ t265)) else (none))) = some (r1, r2, r3) := H
   have A32 := Aside0.mk A320
   clear A320
   replace H := Option.bind_eq_some_iff.mp H
   obtain ⟨t265, A330, H⟩ := H
   replace H : (if t264.size + t265.size ≤ 9223372036854775807 then (some (t260, t263, t264 ++ t265)) else (none)) = some (r1, r2, r3) := H
   have A33 := Aside0.mk A330
   clear A330
   by_cases c34 : t264.size + t265.size ≤ 9223372036854775807
   ·rw [if_pos c34] at H
    have c34b0 := eq_true c34
    have c34b1 : decide (t264.size + t265.size ≤ 9223372036854775807) = true := decide_eq_true c34
    try have c34b2 : (9223372036854775807 < t264.size + t265.size) = False := eq_false (Nat.not_lt.2 c34)
    simp only [Option.some.injEq, Prod.mk.injEq] at H
    obtain ⟨rfl, rfl, rfl⟩ := H
    try go_wp2
    replace HO0_0 := Aside0.mk (Kd.R_drew HO0_0.out)
    replace BK252 := Aside0.mk (blk_drew BK252.out)
    replace BK253 := Aside0.mk (blk_drew BK253.out)
    replace BK254 := Aside0.mk (blk_drew BK254.out)
    replace HK := Aside0.mk (Kept.drew HK.out)
    replace HB := Aside0.mk (below_drew1 HB.out)
    refine start_ (n := 12) (S := fun w' => w'.cell? ⟨gb252, 0, none⟩ = some (.slice Ao5 l0_0.length co5) ∧ w'.cell? ⟨gb252, 1, none⟩ = some (.int .i64 a0_1) ∧ w'.cell? ⟨gb253, 0, none⟩ = some (.string a1_0) ∧ w'.cell? ⟨gb253, 1, none⟩ = some (.string a1_1) ∧ w'.cell? ⟨gb253, 2, none⟩ = some (.bool false)) (ds := []) #[false, false, false, false, false, false, false, false, false, false, false, false] (by kernel_rfl) rfl rfl ⟨(blk_cell BK252.out 0).trans rfl, (blk_cell BK252.out 1).trans rfl, (blk_cell BK253.out 0).trans rfl, (blk_cell BK253.out 1).trans rfl, (blk_cell BK253.out 2).trans rfl⟩ (fun hHeld => ?_); refine with_tabW spec_l11Write.tab6 spec_l11Write.bits6 (fun HT_ HW_ => ?_)
    generalize w14.drew = w35 at HO0_0 BK252 BK253 BK254 HK HB hHeld ⊢
    refine pu 3 (some 33) (bm 12 8) rfl rfl ?_
    refine pu 6 (some 36) (bm 12 72) rfl rfl ?_
    refine tk5 0 (some 30) (bm 12 73) rfl rfl hHeld ?_
    refine tk5 1 (some 31) (bm 12 75) rfl rfl hHeld ?_
    refine tk5 4 (some 34) (bm 12 91) rfl rfl hHeld ?_
    refine tk5 7 (some 37) (bm 12 219) rfl rfl hHeld ?_
    refine one_ (i := 2) (N := some 32) (bm 12 223) rfl rfl (one_of HT_.out (by kernel_rfl)) (by decide) (fun K hK => ?_)
    refine gs Try.func60 #[.agg #[.slice Ao5 l0_0.length co5, .int .i64 a0_1], .agg #[.string a1_0, .string a1_1, .bool false]] ?_
    with_reducible refine (spec_l3Add.calls k _ _ l0_0 a0_1 a1_0 a1_1 false t260 t263 _ ?side1 ?side2 A31.out).mono ?_
    (case side1 => exact zc (Kd.R_reads' HO0_0.out).2.2)
    (case side2 => exact (Kd.R_reads' HO0_0.out).2.1)
    rintro e w36 ⟨v261, rfl, ho0, hb⟩
    refine ⟨_, rfl, ?_⟩
    have HO262 := Aside0.mk (Kd.R_lower (Kd.R_newB (Kd.R_new' (Kd.R_newM (M := fun k_ => (P0_0_ k_ ∨ w.heap.size ≤ k_)) ho0 (by first | exact HK.out.1 | exact (show Kept w _ (fun k_ => P0_0_ k_) from by repeat (first | (with_reducible first | exact HK.out | apply Kept.alloc | apply Kept.drewN | apply Kept.drew | refine Kept.setCell ?_ (.inr GW252.out) _ | refine Kept.setCell ?_ (.inr GW253.out) _ | refine Kept.setCell ?_ (.inr GW254.out) _) | exact HK.out)).1) (fun k_ h_ => .inr h_)) (Kd.R_lt (zr HO0_0))) (g := gb253) (o := .cells #[.string a1_0, .string a1_1, .bool false] 36 (0, 0)) (zk BK253)) (below_size (zb HB)))
    replace HO0_0 := Aside0.mk (Kd.R_elder' (zr HO0_0) (Kd.R_base ho0) hb)
    replace BK252 := Aside0.mk (blk_below (g := gb252) (o := .cells #[.slice Ao5 l0_0.length co5, .int .i64 a0_1] 25 (0, 0)) (zk BK252) hb)
    replace BK253 := Aside0.mk (blk_below (g := gb253) (o := .cells #[.string a1_0, .string a1_1, .bool false] 36 (0, 0)) (zk BK253) hb)
    replace BK254 := Aside0.mk (blk_below (g := gb254) (o := .cells #[.slice none 0 0, .int .i64 0] 25 (0, 0)) (zk BK254) hb)
    replace HK := Aside0.mk (Kept.below (S := (fun k_ => P0_0_ k_)) (by repeat (first | (with_reducible first | exact HK.out | apply Kept.alloc | apply Kept.drewN | apply Kept.drew | refine Kept.setCell ?_ (.inr GW252.out) _ | refine Kept.setCell ?_ (.inr GW253.out) _ | refine Kept.setCell ?_ (.inr GW254.out) _) | exact HK.out)) hb)
    replace HB := Aside0.mk (below_step (zb HB) hb)
    (try clear hb)
    (try clear ho0)
    refine hK.out _ _ ⟨(blk_cell BK252.out 0).trans rfl, (blk_cell BK252.out 1).trans rfl, (blk_cell BK253.out 0).trans rfl, (blk_cell BK253.out 1).trans rfl, (blk_cell BK253.out 2).trans rfl⟩ (fun hHeld => ?_)
    clear hK K
    refine nm ?_
    refine one_ (i := 5) (N := some 35) (bm 12 255) rfl rfl (one_of HT_.out (by kernel_rfl)) (by decide) (fun K hK => ?_)
    refine gs Try.func90 #[.int .i64 t255, .int .i64 6, .int .i64 1, .agg #[.string a1_0, .string a1_1, .bool false]] ?_
    with_reducible refine (spec_l11Name.calls k t255 6 1 a1_0 a1_1 false t264 _ A32.out).mono ?_
    rintro e w37 ⟨rfl, hb⟩
    refine ⟨_, rfl, ?_⟩
    replace HO0_0 := Aside0.mk (Kd.R_below (zr HO0_0) hb)
    replace HO262 := Aside0.mk (Kd.R_below (zr HO262) hb)
    replace BK252 := Aside0.mk (blk_below (g := gb252) (o := .cells #[.slice Ao5 l0_0.length co5, .int .i64 a0_1] 25 (0, 0)) (zk BK252) hb)
    replace BK253 := Aside0.mk (blk_below (g := gb253) (o := .cells #[.string a1_0, .string a1_1, .bool false] 36 (0, 0)) (zk BK253) hb)
    replace BK254 := Aside0.mk (blk_below (g := gb254) (o := .cells #[.slice none 0 0, .int .i64 0] 25 (0, 0)) (zk BK254) hb)
    replace HK := Aside0.mk (Kept.below (S := (fun k_ => P0_0_ k_)) (by repeat (first | (with_reducible first | exact HK.out | apply Kept.alloc | apply Kept.drewN | apply Kept.drew | refine Kept.setCell ?_ (.inr GW252.out) _ | refine Kept.setCell ?_ (.inr GW253.out) _ | refine Kept.setCell ?_ (.inr GW254.out) _) | exact HK.out)) hb)
    replace HB := Aside0.mk (below_step (zb HB) hb)
    (try clear hb)
    refine hK.out _ _ ⟨(blk_cell BK252.out 0).trans rfl, (blk_cell BK252.out 1).trans rfl, (blk_cell BK253.out 0).trans rfl, (blk_cell BK253.out 1).trans rfl, (blk_cell BK253.out 2).trans rfl⟩ (fun hHeld => ?_)
    clear hK K
    refine nm ?_
    refine one_ (i := 8) (N := some 38) (bm 12 511) rfl rfl (one_of HT_.out (by kernel_rfl)) (by decide) (fun K hK => ?_)
    refine gs Try.func91 #[.string a1_1] ?_
    with_reducible refine (spec_l2Write.calls k a1_1 t265 _ A33.out).mono ?_
    rintro e w38 ⟨rfl, hb⟩
    refine ⟨_, rfl, ?_⟩
    replace HO0_0 := Aside0.mk (Kd.R_below (zr HO0_0) hb)
    replace HO262 := Aside0.mk (Kd.R_below (zr HO262) hb)
    replace BK252 := Aside0.mk (blk_below (g := gb252) (o := .cells #[.slice Ao5 l0_0.length co5, .int .i64 a0_1] 25 (0, 0)) (zk BK252) hb)
    replace BK253 := Aside0.mk (blk_below (g := gb253) (o := .cells #[.string a1_0, .string a1_1, .bool false] 36 (0, 0)) (zk BK253) hb)
    replace BK254 := Aside0.mk (blk_below (g := gb254) (o := .cells #[.slice none 0 0, .int .i64 0] 25 (0, 0)) (zk BK254) hb)
    replace HK := Aside0.mk (Kept.below (S := (fun k_ => P0_0_ k_)) (by repeat (first | (with_reducible first | exact HK.out | apply Kept.alloc | apply Kept.drewN | apply Kept.drew | refine Kept.setCell ?_ (.inr GW252.out) _ | refine Kept.setCell ?_ (.inr GW253.out) _ | refine Kept.setCell ?_ (.inr GW254.out) _) | exact HK.out)) hb)
    replace HB := Aside0.mk (below_step (zb HB) hb)
    (try clear hb)
    obtain ⟨Ao39, co39, eo39⟩ := Kd.R_slice HO262.out
    (first | subst eo39 | (injection eo39 with f1_ f2_ f3_; have f4_ := f1_.symm; have f5_ := f3_.symm; clear f1_ f2_ f3_; subst f4_; subst f5_))
    refine hK.out _ _ ⟨(blk_cell BK252.out 0).trans rfl, (blk_cell BK252.out 1).trans rfl, (blk_cell BK253.out 0).trans rfl, (blk_cell BK253.out 1).trans rfl, (blk_cell BK253.out 2).trans rfl⟩ (fun hHeld => ?_)
    clear hK K
    refine nm ?_
    refine pu 9 (some 39) (bm 12 1023) rfl rfl ?_
    refine one_ (i := 10) (N := none) (bm 12 2047) rfl rfl (one_of HT_.out (by kernel_rfl)) (by decide) (fun K hK => ?_)
    have hs40 : w38.cell? ⟨gb254, 0, none⟩ = some (.slice none 0 0) := (blk_cell BK254.out 0).trans rfl
    have hfs40 := blk_frozen BK254.out 0
    have hns40_0 := NB252_254.out
    have hns40_1 := NB253_254.out
    have hms40_0 := NB254_252.out
    have hms40_1 := NB254_253.out
    have hs41 : w38.cell? ⟨gb254, 1, none⟩ = some (.int .i64 0) := (blk_cell BK254.out 1).trans rfl
    have hfs41 := blk_frozen BK254.out 1
    have hns41_0 := NB252_254.out
    have hns41_1 := NB253_254.out
    have hms41_0 := NB254_252.out
    have hms41_1 := NB254_253.out
    refine skip_ (w1 := ?_) (by rfl) rfl ?_ ?_
    rotate_left
    ·go_simp
     rfl
    refine hK.out _ _ ⟨((cell_far (p := ⟨gb254, _, none⟩) NB252_254.out _).trans (((cell_far (p := ⟨gb254, _, none⟩) NB252_254.out _).trans (hHeld.1)))), ((cell_far (p := ⟨gb254, _, none⟩) NB252_254.out _).trans (((cell_far (p := ⟨gb254, _, none⟩) NB252_254.out _).trans (hHeld.2.1)))), ((cell_far (p := ⟨gb254, _, none⟩) NB253_254.out _).trans (((cell_far (p := ⟨gb254, _, none⟩) NB253_254.out _).trans (hHeld.2.2.1)))), ((cell_far (p := ⟨gb254, _, none⟩) NB253_254.out _).trans (((cell_far (p := ⟨gb254, _, none⟩) NB253_254.out _).trans (hHeld.2.2.2.1)))), ((cell_far (p := ⟨gb254, _, none⟩) NB253_254.out _).trans (((cell_far (p := ⟨gb254, _, none⟩) NB253_254.out _).trans (hHeld.2.2.2.2))))⟩ (fun hHeld => ?_)
    clear hK K
    refine pu 11 (some 5) (bm 12 4095) rfl rfl ?_
    refine done_ (done_of HT_.out (by kernel_rfl)) ?_
    try go_wp2
    refine bodyPost_ret (results_ct rfl _ _ gb254 25 #[.slice Ao39 t260.length co39, .int .i64 t263] (0, 0) _ rfl (by (with_reducible repeat (first | refine blk_drewN ?_ _ | refine blk_drew ?_ | refine blk_alloc ?_ _)); refine blk_put (cs := #[.slice Ao39 t260.length co39, .int .i64 0]) ?_ 1 _ rfl; (with_reducible repeat (first | refine blk_drewN ?_ _ | refine blk_drew ?_ | refine blk_alloc ?_ _)); refine blk_put (cs := #[.slice none 0 0, .int .i64 0]) ?_ 0 _ rfl; exact zk BK254) Try.underlying25 rfl (by kernel_rfl)) rfl ?_
    exact ⟨_, ze, by (with_reducible repeat (first | apply Kd.R_alloc | apply Kd.R_drewN | apply Kd.R_drew)); exact Kd.R_mono (Kd.R_far (p := ⟨gb254, 1, none⟩) (Kd.R_far (p := ⟨gb254, 0, none⟩) (Kd.R_types HO262.out BK254.out (by decide)) (fun _ hk => hk.2) (.slice Ao39 t260.length co39)) (fun _ hk => hk.2) (.int .i64 t263)) (fun _ hk => hk.1.1.1.1), zb HB, by repeat (first | (with_reducible first | exact HK.out | apply Kept.alloc | apply Kept.drewN | apply Kept.drew | refine Kept.setCell ?_ (.inr GW252.out) _ | refine Kept.setCell ?_ (.inr GW253.out) _ | refine Kept.setCell ?_ (.inr GW254.out) _) | exact HK.out)⟩
   ·rw [if_neg c34] at H
    exact absurd H (by simp)

/-! ### spec_l11All: function 64 -/
-- thin
def spec_l11All.l0 : Nat → List (S36) → ByteArray → Int → List (S36) → Int → Option ((List (S36)) × Int × ByteArray)
 | 0, _, _, _, _, _ => none
 | k + 1, x1, x6, x7, x267000, x267001 => if x7 < (x1.length : Int) then (if 0 ≤ x7 then ((spec_l11Write.f k x267000 x267001 ((rd_T36 x1 x7).f0) ((rd_T36 x1 x7).f1) ((rd_T36 x1 x7).f2)).bind fun bt269 => (if x6.size + bt269.2.2.size ≤ 9223372036854775807 then (spec_l11All.l0 k x1 (x6 ++ bt269.2.2) (wrap64 (x7 + 1)) bt269.1 bt269.2.1) else (none))) else (none)) else (some (x267000, x267001, x6))
def spec_l11All.f (k : Nat) (l0_0 : List (S36)) (a0_1 : Int) (l1 : List (S36)) : Option ((List (S36)) × Int × ByteArray) := spec_l11All.l0 k l1 (⟨#[]⟩ : ByteArray) 0 l0_0 a0_1
theorem spec_l11All.mono_l : ∀ k, (∀ y0 y1 y2 y3 y4, LeO (spec_l11All.l0 k y0 y1 y2 y3 y4) (spec_l11All.l0 (k + 1) y0 y1 y2 y3 y4))
 | 0 => fun _ _ _ _ _ r h => by simp [spec_l11All.l0] at h
 | k + 1 => by
  have ih0 := spec_l11All.mono_l k
  ·intro y0 y1 y2 y3 y4
   unfold spec_l11All.l0
   repeat' first
   | (with_reducible exact ih0 _ _ _ _ _)
   | (with_reducible exact spec_l11Write.mono _ _ _ _ _ _)
   | (with_reducible exact LeO.refl _)
   | (with_reducible exact LeO.none _)
   | (with_reducible refine LeO.ite ?_ ?_)
   | (with_reducible refine LeO.bind ?_ (fun _ => ?_))
   | exact ih0 _ _ _ _ _
   | exact spec_l11Write.mono _ _ _ _ _ _
   | exact LeO.none _
   | refine LeO.ite ?_ ?_
   | refine LeO.bind ?_ (fun _ => ?_)
theorem spec_l11All.mono : ∀ a0 a1 a2 k, LeO (spec_l11All.f k a0 a1 a2) (spec_l11All.f (k + 1) a0 a1 a2) := by
 intro a0 a1 a2 k
 have ih0 := spec_l11All.mono_l k
 unfold spec_l11All.f
 repeat' first
   | (with_reducible exact ih0 _ _ _ _ _)
   | (with_reducible exact spec_l11Write.mono _ _ _ _ _ _)
   | (with_reducible exact LeO.refl _)
   | (with_reducible exact LeO.none _)
   | (with_reducible refine LeO.ite ?_ ?_)
   | (with_reducible refine LeO.bind ?_ (fun _ => ?_))
   | exact ih0 _ _ _ _ _
   | exact spec_l11Write.mono _ _ _ _ _ _
   | exact LeO.none _
   | refine LeO.ite ?_ ?_
   | refine LeO.bind ?_ (fun _ => ?_)
def spec_l11All.T5 : Bool × List (List Nat × List Nat) := (true, [([], []), ([], []), ([], []), ([1, 2], [1, 2]), ([3], [3]), ([0, 4], [0, 4]), ([5], [5]), ([6], [6]), ([6], [6]), ([], []), ([9, 7, 5, 0, 1, 2, 3, 4, 5, 6, 7, 9], [7, 9]), ([8, 10, 0, 1, 2, 3, 4, 5, 6, 7, 8, 9, 10], [8])])
def spec_l11All.B5 : List Nat := [0, 0, 0, 6, 14, 31, 63, 127, 127, 0, 767, 2047]
theorem spec_l11All.tab5 : rtab .any (opsOf Try.f64 5) = spec_l11All.T5 := by kernel_rfl
theorem spec_l11All.bits5 : waitsOk spec_l11All.T5.2 spec_l11All.B5 = true := by kernel_rfl
set_option maxHeartbeats 8000000 in
set_option maxRecDepth 100000 in
theorem spec_l11All.calls (k : Nat) (P0_0_ : Nat → Prop) (u9000_ : Value) (l0_0 : List (S36)) (a0_1 : Int) (A1 : Option Addr) (c1 : Nat) (l1 : List (S36)) (r1 : List (S36)) (r2 : Int) (r3 : ByteArray) (w0 w : World) (hB : Below w0.heap.size w0 w) (ho0_0 : Kd.R k36 36 w w0.heap.size P0_0_ u9000_ l0_0) (hr1 : ∀ W_, Kept w W_ (fun k_ => P0_0_ k_) → Kd.C k36 W_ A1 l1.length l1) (hc1 : l1.length ≤ c1) (h : spec_l11All.f k l0_0 a0_1 l1 = some (r1, r2, r3)) :
  Calls Try.prog 64 #[.agg #[u9000_, .int .i64 a0_1], .slice A1 l1.length c1] w fun e w' => ∃ v0_ : Value, e = .returned (.tuple #[.agg #[v0_, .int .i64 r2], .string r3]) ∧ Kd.R k36 36 w' w0.heap.size (fun k_ => (P0_0_ k_ ∨ w.heap.size ≤ k_)) v0_ r1 ∧ Below w0.heap.size w0 w' ∧ Kept w w' (fun k_ => P0_0_ k_) := by
 have hu25 := Try.underlying25
 have hu36 := Try.underlying36
 have HO0_0 := Aside0.mk (show Kd.R k36 36 w w0.heap.size (fun k_ => (P0_0_ k_ ∨ w.heap.size ≤ k_)) u9000_ l0_0 from Kd.R_mono ho0_0 (fun k_ hk => (.inl hk)))
 have HR1 := Aside0.mk hr1
 have HC1 := Aside0.mk hc1
 clear hr1 hc1
 have HK := Aside0.mk (Kept.refl w (fun k_ => P0_0_ k_))
 have HW0 := Aside0.mk hB.size
 have HB := Aside0.mk hB
 clear hB
 have H : (spec_l11All.l0 k l1 (⟨#[]⟩ : ByteArray) 0 l0_0 a0_1) = some (r1, r2, r3) := h
 clear h
 have H' := Aside0.mk H
 clear H
 obtain ⟨Ao3, co3, eo3⟩ := Kd.R_slice HO0_0.out
 subst eo3
 go_enter Try.func64, Try.ntmps64
 go_wp2_with (first | ((with_reducible refine gd 2 rfl ?_); refine bx (N := 2) (cs := #[.slice Ao3 l0_0.length co3, .int .i64 a0_1]) (t := 25) ?_; intro gb266 hg w4 hbox hb; replace HO0_0 := Aside0.mk (Kd.R_below (zr HO0_0) hb); have BK266 := Aside0.mk (hbox); have GW266 := Aside0.mk ((by rw [hg]; exact (by first | exact HK.out.1 | exact (show Kept w _ (fun k_ => P0_0_ k_) from by repeat (first | (with_reducible first | exact HK.out | apply Kept.alloc | apply Kept.drewN | apply Kept.drew) | exact HK.out)).1) : w.heap.size ≤ gb266)); replace HK := Aside0.mk (Kept.below (S := (fun k_ => P0_0_ k_)) (by repeat (first | (with_reducible first | exact HK.out | apply Kept.alloc | apply Kept.drewN | apply Kept.drew) | exact HK.out)) hb); have GE266 := Aside0.mk ((by rw [hg]; exact (below_size (zb HB)) : w0.heap.size ≤ gb266)); replace HB := Aside0.mk (below_step (zb HB) hb); clear hb hbox hg) | ((with_reducible refine gd 4 rfl ?_); refine bx (N := 4) (cs := #[.slice none 0 0, .int .i64 0]) (t := 25) ?_; intro gb267 hg w5 hbox hb; replace HO0_0 := Aside0.mk (Kd.R_below (zr HO0_0) hb); have BK267 := Aside0.mk (hbox); have GW267 := Aside0.mk ((by rw [hg]; exact (by first | exact HK.out.1 | exact (show Kept w _ (fun k_ => P0_0_ k_) from by repeat (first | (with_reducible first | exact HK.out | apply Kept.alloc | apply Kept.drewN | apply Kept.drew | refine Kept.setCell ?_ (.inr GW266.out) _) | exact HK.out)).1) : w.heap.size ≤ gb267)); replace HK := Aside0.mk (Kept.below (S := (fun k_ => P0_0_ k_)) (by repeat (first | (with_reducible first | exact HK.out | apply Kept.alloc | apply Kept.drewN | apply Kept.drew | refine Kept.setCell ?_ (.inr GW266.out) _) | exact HK.out)) hb); have GE267 := Aside0.mk ((by rw [hg]; exact (below_size (zb HB)) : w0.heap.size ≤ gb267)); replace HB := Aside0.mk (below_step (zb HB) hb); have NB266_267 := Aside0.mk ((by rw [hg]; exact Nat.ne_of_lt (blk_lt (g := gb266) (o := .cells #[.slice Ao3 l0_0.length co3, .int .i64 a0_1] 25 (0, 0)) (zk BK266)) : gb266 ≠ gb267)); have NB267_266 := Aside0.mk ((by rw [hg]; exact Nat.ne_of_gt (blk_lt (g := gb266) (o := .cells #[.slice Ao3 l0_0.length co3, .int .i64 a0_1] 25 (0, 0)) (zk BK266)) : gb267 ≠ gb266)); replace BK266 := Aside0.mk (blk_below (g := gb266) (o := .cells #[.slice Ao3 l0_0.length co3, .int .i64 a0_1] 25 (0, 0)) (zk BK266) hb); clear hb hbox hg))
 go_loopg [6, 7] k (fun kq v6 v7 w' => ∃ (x6_1 : ByteArray) (x7_1 : Int) (x267000_1 : List (S36)) (x267001_1 : Int) (u267000 : Value), v6 = .string x6_1 ∧ v7 = .int .i64 x7_1 ∧ Aside0 (spec_l11All.l0 kq l1 x6_1 x7_1 x267000_1 x267001_1 = some (r1, r2, r3)) ∧ Aside0 (kq ≤ k) ∧ Aside0 (Kd.R k36 36 w' w0.heap.size (fun k_ => (P0_0_ k_ ∨ w.heap.size ≤ k_)) u267000 x267000_1) ∧ Aside0 (w'.heap[gb266]? = some (.cells #[u267000, .int .i64 x267001_1] 25 (0, 0))) ∧ Aside0 (w'.heap[gb267]? = some (.cells #[(.slice none 0 0), .int .i64 0] 25 (0, 0))) ∧ Aside0 (Kept w w' (fun k_ => P0_0_ k_)) ∧ Aside0 (Below w0.heap.size w0 w'))
 case atStart => exact ⟨((⟨#[]⟩ : ByteArray)), (0), (l0_0), (a0_1), (.slice Ao3 l0_0.length co3), zs, zs, H', ⟨Nat.le_refl _⟩, ⟨by exact zr HO0_0⟩, ⟨by exact zk BK266⟩, ⟨by exact zk BK267⟩, ⟨by repeat (first | (with_reducible first | exact HK.out | apply Kept.alloc | apply Kept.drewN | apply Kept.drew | refine Kept.setCell ?_ (.inr GW266.out) _ | refine Kept.setCell ?_ (.inr GW267.out) _) | exact HK.out)⟩, ⟨zb HB⟩⟩
 case round =>
  clear H'
  try clear c1
  try clear p2
  obtain ⟨x6_1, x7_1, x267000_1, x267001_1, u267000, rfl, rfl, HA, HK1, HO_267000, BK266, BK267, HK, HB⟩ := hrel
  cases gk with
  | zero => exact absurd HA.out (by simp [spec_l11All.l0])
  | succ k1 =>
   have H := HA.out
   clear HA
   simp only [spec_l11All.l0] at H
   by_cases c6 : x7_1 < (l1.length : Int)
   ·rw [if_pos c6] at H
    have c6b0 : decide (x7_1 < (l1.length : Int)) = true := decide_eq_true c6
    clear c6
    by_cases c7 : 0 ≤ x7_1
    ·rw [if_pos c7] at H
     have c7b0 : decide (0 ≤ x7_1) = true := decide_eq_true c7
     clear c7
     replace H := Option.bind_eq_some_iff.mp H
     obtain ⟨⟨t269, t272, t273⟩, A80, H⟩ := H
     replace H : (if x6_1.size + t273.size ≤ 9223372036854775807 then (spec_l11All.l0 k1 l1 (x6_1 ++ t273) (wrap64 (x7_1 + 1)) t269 t272) else (none)) = some (r1, r2, r3) := H
     have A8 := Aside0.mk A80
     clear A80
     by_cases c9 : x6_1.size + t273.size ≤ 9223372036854775807
     ·rw [if_pos c9] at H
      have c9b0 := eq_true c9
      have c9b1 : decide (x6_1.size + t273.size ≤ 9223372036854775807) = true := decide_eq_true c9
      try have c9b2 : (9223372036854775807 < x6_1.size + t273.size) = False := eq_false (Nat.not_lt.2 c9)
      have H' := Aside0.mk H
      clear H
      obtain ⟨Ao10, co10, eo10⟩ := Kd.R_slice HO_267000.out
      subst eo10
      try go_wp2
      replace HO_267000 := Aside0.mk (Kd.R_drew HO_267000.out)
      replace BK266 := Aside0.mk (blk_drew BK266.out)
      replace BK267 := Aside0.mk (blk_drew BK267.out)
      replace HK := Aside0.mk (Kept.drew HK.out)
      replace HB := Aside0.mk (below_drew1 HB.out)
      have p268 : 0 ≤ (x7_1 : Int) := of_decide_eq_true za
      have q268 : x7_1 < (l1.length : Int) := of_decide_eq_true za
      obtain ⟨ad268, e268, hx268_0, hx268_1, hx268_2⟩ := at_T36 (Kd.C_kept_now HR1.out HK.out) x7_1 p268 q268
      have hw268_2 := hx268_2
      have hw268_1 := hx268_1
      have hw268_0 := hx268_0
      cases e268
      replace p268 := eq_true p268
      replace q268 := eq_true q268
      refine start_ (n := 12) (S := fun w' => w'.cell? ⟨gb266, 0, none⟩ = some (.slice Ao10 x267000_1.length co10) ∧ w'.cell? ⟨gb266, 1, none⟩ = some (.int .i64 x267001_1) ∧ w'.cell? (ad268.add ((x7_1).toNat * 3)) = some (.string ((rd_T36 l1 x7_1).f0)) ∧ w'.cell? ⟨(ad268.add ((x7_1).toNat * 3)).block, (ad268.add ((x7_1).toNat * 3)).off + 1, none⟩ = some (.string ((rd_T36 l1 x7_1).f1)) ∧ w'.cell? ⟨(ad268.add ((x7_1).toNat * 3)).block, (ad268.add ((x7_1).toNat * 3)).off + 2, none⟩ = some (.bool ((rd_T36 l1 x7_1).f2))) (ds := []) #[false, false, false, false, false, false, false, false, false, false, false, false] (by kernel_rfl) rfl rfl ⟨(blk_cell BK266.out 0).trans rfl, (blk_cell BK266.out 1).trans rfl, (by first | (show World.cell? ?W1_ _ = _; obtain ⟨_, e_, q0_, q1_, q2_⟩ := at_T36 (HR1.out ?W1_ (by repeat (first | exact HK.out | apply Kept.alloc | apply Kept.drewN | apply Kept.drew | refine Kept.setCell ?_ (.inr GW274.out) _ | refine Kept.setCell ?_ (.inr GW274.out) _))) x7_1 (of_eq_true p268) (of_eq_true q268); cases e_; exact q0_) | (obtain ⟨_, e_, q0_, q1_, q2_⟩ := at_T36 (HR1.out _ (by repeat (first | exact HK.out | apply Kept.alloc | apply Kept.drewN | apply Kept.drew | refine Kept.setCell ?_ (.inr GW274.out) _ | refine Kept.setCell ?_ (.inr GW274.out) _))) x7_1 (of_eq_true p268) (of_eq_true q268); cases e_; exact q0_)), (by first | (show World.cell? ?W2_ _ = _; obtain ⟨_, e_, q0_, q1_, q2_⟩ := at_T36 (HR1.out ?W2_ (by repeat (first | exact HK.out | apply Kept.alloc | apply Kept.drewN | apply Kept.drew | refine Kept.setCell ?_ (.inr GW274.out) _ | refine Kept.setCell ?_ (.inr GW274.out) _))) x7_1 (of_eq_true p268) (of_eq_true q268); cases e_; exact q1_) | (obtain ⟨_, e_, q0_, q1_, q2_⟩ := at_T36 (HR1.out _ (by repeat (first | exact HK.out | apply Kept.alloc | apply Kept.drewN | apply Kept.drew | refine Kept.setCell ?_ (.inr GW274.out) _ | refine Kept.setCell ?_ (.inr GW274.out) _))) x7_1 (of_eq_true p268) (of_eq_true q268); cases e_; exact q1_)), (by first | (show World.cell? ?W3_ _ = _; obtain ⟨_, e_, q0_, q1_, q2_⟩ := at_T36 (HR1.out ?W3_ (by repeat (first | exact HK.out | apply Kept.alloc | apply Kept.drewN | apply Kept.drew | refine Kept.setCell ?_ (.inr GW274.out) _ | refine Kept.setCell ?_ (.inr GW274.out) _))) x7_1 (of_eq_true p268) (of_eq_true q268); cases e_; exact q2_) | (obtain ⟨_, e_, q0_, q1_, q2_⟩ := at_T36 (HR1.out _ (by repeat (first | exact HK.out | apply Kept.alloc | apply Kept.drewN | apply Kept.drew | refine Kept.setCell ?_ (.inr GW274.out) _ | refine Kept.setCell ?_ (.inr GW274.out) _))) x7_1 (of_eq_true p268) (of_eq_true q268); cases e_; exact q2_))⟩ (fun hHeld => ?_); refine with_tabW spec_l11All.tab5 spec_l11All.bits5 (fun HT_ HW_ => ?_)
      generalize wr.drew = w11 at HO_267000 BK266 BK267 HK HB hx268_0 hx268_1 hx268_2 hHeld ⊢
      refine pu 1 (some 18) (bm 12 2) rfl rfl ?_
      refine pu 2 (some 19) (bm 12 6) rfl rfl ?_
      refine pu 3 (some 20) (bm 12 14) rfl rfl ?_
      refine tk5 0 (some 17) (bm 12 15) rfl rfl hHeld ?_
      refine tk5 4 (some 21) (bm 12 31) rfl rfl hHeld ?_
      refine join_ (σ := Value × Nat) 2 #[true, true, true, true, true, true, true, true, true, true, false, false] (fun s_ => [(22, .tuple #[.agg #[s_.1, .int .i64 t272], .string t273]), (8, .pointer (some ⟨s_.2, 0, none⟩)), (16, .tuple #[.agg #[s_.1, .int .i64 t272], .string t273]), (23, .agg #[s_.1, .int .i64 t272]), (24, .string t273)]) (fun s_ w' => (w'.cell? ⟨gb266, 0, none⟩ = some (.slice Ao10 x267000_1.length co10) ∧ w'.cell? ⟨gb266, 1, none⟩ = some (.int .i64 x267001_1) ∧ w'.cell? (ad268.add ((x7_1).toNat * 3)) = some (.string ((rd_T36 l1 x7_1).f0)) ∧ w'.cell? ⟨(ad268.add ((x7_1).toNat * 3)).block, (ad268.add ((x7_1).toNat * 3)).off + 1, none⟩ = some (.string ((rd_T36 l1 x7_1).f1)) ∧ w'.cell? ⟨(ad268.add ((x7_1).toNat * 3)).block, (ad268.add ((x7_1).toNat * 3)).off + 2, none⟩ = some (.bool ((rd_T36 l1 x7_1).f2))) ∧ (Kd.R k36 36 w' w0.heap.size (fun k_ => (P0_0_ k_ ∨ w.heap.size ≤ k_)) s_.1 t269) ∧ (w'.heap[gb266]? = some (.cells #[.slice Ao10 x267000_1.length co10, .int .i64 x267001_1] 25 (0, 0))) ∧ (w'.heap[gb267]? = some (.cells #[.slice none 0 0, .int .i64 0] 25 (0, 0))) ∧ (w'.heap[s_.2]? = some (.cells #[.slice none 0 0, .int .i64 0] 25 (0, 0))) ∧ (w.heap.size ≤ s_.2) ∧ (w0.heap.size ≤ s_.2) ∧ (gb266 ≠ s_.2) ∧ (s_.2 ≠ gb266) ∧ (gb267 ≠ s_.2) ∧ (s_.2 ≠ gb267) ∧ (Kept w w' (fun k_ => P0_0_ k_)) ∧ (Below w0.heap.size w0 w')) ?_ ?_
      rotate_left
      ·intro hCont
       refine two_ (i := 5) (j := 9) (Ni := some 22) (Nj := some 8) #[true, true, true, true, true, true, false, false, false, false, false, false] #[true, true, true, true, true, false, false, false, false, true, false, false] rfl rfl rfl rfl (two_of HT_.out (by kernel_rfl)) (by decide) (by decide) (fun K hK => ?_) (fun K hK => ?_)
       ·skip
        refine gs Try.func80 #[.agg #[.slice Ao10 x267000_1.length co10, .int .i64 x267001_1], .agg #[.string ((rd_T36 l1 x7_1).f0), .string ((rd_T36 l1 x7_1).f1), .bool ((rd_T36 l1 x7_1).f2)]] ?_
        with_reducible refine (spec_l11Write.calls k1 (fun k_ => some k_ = (.slice Ao10 x267000_1.length co10 : Value).ownBlock) (.slice Ao10 x267000_1.length co10) x267000_1 x267001_1 ((rd_T36 l1 x7_1).f0) ((rd_T36 l1 x7_1).f1) ((rd_T36 l1 x7_1).f2) t269 t272 t273 w0 _ ?side1 ?side2 A8.out).mono ?_
        (case side1 => exact zb HB)
        (case side2 => exact Kd.R_tight rfl HO_267000.out)
        rintro e w12 ⟨v270, rfl, ho0, hb, hkp⟩
        refine ⟨_, rfl, ?_⟩
        replace BK266 := Aside0.mk (blk_kept (zk BK266) hkp (fun hs_ => (fun e_ => (Kd.R_ne HO_267000.out BK266.out (by decide)) e_) hs_))
        replace BK267 := Aside0.mk (blk_kept (zk BK267) hkp (fun hs_ => (fun e_ => (Kd.R_ne HO_267000.out BK267.out (by decide)) e_) hs_))
        have HO271 := Aside0.mk (Kd.R_mono (ok' := fun k_ => (P0_0_ k_ ∨ w.heap.size ≤ k_)) ho0 (fun k_ hk_ => Or.elim hk_ (fun hs_ => (HO_267000.out.1 k_ (hs_).symm)) (fun hn_ => (.inr (Nat.le_trans (by first | exact HK.out.1 | exact (show Kept w _ (fun k_ => P0_0_ k_) from by repeat (first | (with_reducible first | exact HK.out | apply Kept.alloc | apply Kept.drewN | apply Kept.drew | refine Kept.setCell ?_ (.inr GW266.out) _ | refine Kept.setCell ?_ (.inr GW267.out) _) | exact HK.out)).1) hn_)))))
        replace HK := Aside0.mk (Kept.then_ (S := (fun k_ => P0_0_ k_)) (by repeat (first | (with_reducible first | exact HK.out | apply Kept.alloc | apply Kept.drewN | apply Kept.drew | refine Kept.setCell ?_ (.inr GW266.out) _ | refine Kept.setCell ?_ (.inr GW267.out) _) | exact HK.out)) hkp (fun k_ hs_ => (fun e_ => (HO_267000.out.1 k_ e_.symm)) hs_))
        replace HB := Aside0.mk (hb)
        clear HO_267000
        (try clear hb)
        (try clear hkp)
        (try clear ho0)
        refine hK.out _ _ ⟨(blk_cell BK266.out 0).trans rfl, (blk_cell BK266.out 1).trans rfl, (by first | (show World.cell? ?W4_ _ = _; obtain ⟨_, e_, q0_, q1_, q2_⟩ := at_T36 (HR1.out ?W4_ (by repeat (first | exact HK.out | apply Kept.alloc | apply Kept.drewN | apply Kept.drew | refine Kept.setCell ?_ (.inr GW274.out) _ | refine Kept.setCell ?_ (.inr GW274.out) _))) x7_1 (of_eq_true p268) (of_eq_true q268); cases e_; exact q0_) | (obtain ⟨_, e_, q0_, q1_, q2_⟩ := at_T36 (HR1.out _ (by repeat (first | exact HK.out | apply Kept.alloc | apply Kept.drewN | apply Kept.drew | refine Kept.setCell ?_ (.inr GW274.out) _ | refine Kept.setCell ?_ (.inr GW274.out) _))) x7_1 (of_eq_true p268) (of_eq_true q268); cases e_; exact q0_)), (by first | (show World.cell? ?W5_ _ = _; obtain ⟨_, e_, q0_, q1_, q2_⟩ := at_T36 (HR1.out ?W5_ (by repeat (first | exact HK.out | apply Kept.alloc | apply Kept.drewN | apply Kept.drew | refine Kept.setCell ?_ (.inr GW274.out) _ | refine Kept.setCell ?_ (.inr GW274.out) _))) x7_1 (of_eq_true p268) (of_eq_true q268); cases e_; exact q1_) | (obtain ⟨_, e_, q0_, q1_, q2_⟩ := at_T36 (HR1.out _ (by repeat (first | exact HK.out | apply Kept.alloc | apply Kept.drewN | apply Kept.drew | refine Kept.setCell ?_ (.inr GW274.out) _ | refine Kept.setCell ?_ (.inr GW274.out) _))) x7_1 (of_eq_true p268) (of_eq_true q268); cases e_; exact q1_)), (by first | (show World.cell? ?W6_ _ = _; obtain ⟨_, e_, q0_, q1_, q2_⟩ := at_T36 (HR1.out ?W6_ (by repeat (first | exact HK.out | apply Kept.alloc | apply Kept.drewN | apply Kept.drew | refine Kept.setCell ?_ (.inr GW274.out) _ | refine Kept.setCell ?_ (.inr GW274.out) _))) x7_1 (of_eq_true p268) (of_eq_true q268); cases e_; exact q2_) | (obtain ⟨_, e_, q0_, q1_, q2_⟩ := at_T36 (HR1.out _ (by repeat (first | exact HK.out | apply Kept.alloc | apply Kept.drewN | apply Kept.drew | refine Kept.setCell ?_ (.inr GW274.out) _ | refine Kept.setCell ?_ (.inr GW274.out) _))) x7_1 (of_eq_true p268) (of_eq_true q268); cases e_; exact q2_))⟩ (fun hHeld => ?_)
        clear hK K
        refine nm ?_
        refine pu 6 (some 16) (bm 12 127) rfl rfl ?_
        refine pu 7 (some 23) (bm 12 255) rfl rfl ?_
        refine pu 8 (some 24) (bm 12 511) rfl rfl ?_
        refine one_ (i := 9) (N := some 8) (bm 12 1023) rfl rfl (one_of HT_.out (by kernel_rfl)) (by decide) (fun K hK => ?_)
        refine box_step ?hg (N := 8) ?hd (cs := #[.slice none 0 0, .int .i64 0]) (t := 25) ?hr ?_; (case hd => rfl); (case hg => rfl); (case hr => first | (go_simp; done) | (go_simp; rfl))
        intro gb274 hg w13 hbox hb
        replace HO271 := Aside0.mk (Kd.R_below (zr HO271) hb)
        have BK274 := Aside0.mk (hbox)
        have GW274 := Aside0.mk ((by rw [hg]; exact (by first | exact HK.out.1 | exact (show Kept w _ (fun k_ => P0_0_ k_) from by repeat (first | (with_reducible first | exact HK.out | apply Kept.alloc | apply Kept.drewN | apply Kept.drew | refine Kept.setCell ?_ (.inr GW266.out) _ | refine Kept.setCell ?_ (.inr GW267.out) _) | exact HK.out)).1) : w.heap.size ≤ gb274))
        replace HK := Aside0.mk (Kept.below (S := (fun k_ => P0_0_ k_)) (by repeat (first | (with_reducible first | exact HK.out | apply Kept.alloc | apply Kept.drewN | apply Kept.drew | refine Kept.setCell ?_ (.inr GW266.out) _ | refine Kept.setCell ?_ (.inr GW267.out) _) | exact HK.out)) hb)
        have GE274 := Aside0.mk ((by rw [hg]; exact (below_size (zb HB)) : w0.heap.size ≤ gb274))
        replace HB := Aside0.mk (below_step (zb HB) hb)
        have NB266_274 := Aside0.mk ((by rw [hg]; exact Nat.ne_of_lt (blk_lt (g := gb266) (o := .cells #[.slice Ao10 x267000_1.length co10, .int .i64 x267001_1] 25 (0, 0)) (zk BK266)) : gb266 ≠ gb274))
        have NB274_266 := Aside0.mk ((by rw [hg]; exact Nat.ne_of_gt (blk_lt (g := gb266) (o := .cells #[.slice Ao10 x267000_1.length co10, .int .i64 x267001_1] 25 (0, 0)) (zk BK266)) : gb274 ≠ gb266))
        replace BK266 := Aside0.mk (blk_below (g := gb266) (o := .cells #[.slice Ao10 x267000_1.length co10, .int .i64 x267001_1] 25 (0, 0)) (zk BK266) hb)
        have NB267_274 := Aside0.mk ((by rw [hg]; exact Nat.ne_of_lt (blk_lt (g := gb267) (o := .cells #[.slice none 0 0, .int .i64 0] 25 (0, 0)) (zk BK267)) : gb267 ≠ gb274))
        have NB274_267 := Aside0.mk ((by rw [hg]; exact Nat.ne_of_gt (blk_lt (g := gb267) (o := .cells #[.slice none 0 0, .int .i64 0] 25 (0, 0)) (zk BK267)) : gb274 ≠ gb267))
        replace BK267 := Aside0.mk (blk_below (g := gb267) (o := .cells #[.slice none 0 0, .int .i64 0] 25 (0, 0)) (zk BK267) hb)
        clear hb hbox hg
        refine hK.out _ _ ⟨(blk_cell BK266.out 0).trans rfl, (blk_cell BK266.out 1).trans rfl, (by first | (show World.cell? ?W7_ _ = _; obtain ⟨_, e_, q0_, q1_, q2_⟩ := at_T36 (HR1.out ?W7_ (by repeat (first | exact HK.out | apply Kept.alloc | apply Kept.drewN | apply Kept.drew | refine Kept.setCell ?_ (.inr GW274.out) _ | refine Kept.setCell ?_ (.inr GW274.out) _))) x7_1 (of_eq_true p268) (of_eq_true q268); cases e_; exact q0_) | (obtain ⟨_, e_, q0_, q1_, q2_⟩ := at_T36 (HR1.out _ (by repeat (first | exact HK.out | apply Kept.alloc | apply Kept.drewN | apply Kept.drew | refine Kept.setCell ?_ (.inr GW274.out) _ | refine Kept.setCell ?_ (.inr GW274.out) _))) x7_1 (of_eq_true p268) (of_eq_true q268); cases e_; exact q0_)), (by first | (show World.cell? ?W8_ _ = _; obtain ⟨_, e_, q0_, q1_, q2_⟩ := at_T36 (HR1.out ?W8_ (by repeat (first | exact HK.out | apply Kept.alloc | apply Kept.drewN | apply Kept.drew | refine Kept.setCell ?_ (.inr GW274.out) _ | refine Kept.setCell ?_ (.inr GW274.out) _))) x7_1 (of_eq_true p268) (of_eq_true q268); cases e_; exact q1_) | (obtain ⟨_, e_, q0_, q1_, q2_⟩ := at_T36 (HR1.out _ (by repeat (first | exact HK.out | apply Kept.alloc | apply Kept.drewN | apply Kept.drew | refine Kept.setCell ?_ (.inr GW274.out) _ | refine Kept.setCell ?_ (.inr GW274.out) _))) x7_1 (of_eq_true p268) (of_eq_true q268); cases e_; exact q1_)), (by first | (show World.cell? ?W9_ _ = _; obtain ⟨_, e_, q0_, q1_, q2_⟩ := at_T36 (HR1.out ?W9_ (by repeat (first | exact HK.out | apply Kept.alloc | apply Kept.drewN | apply Kept.drew | refine Kept.setCell ?_ (.inr GW274.out) _ | refine Kept.setCell ?_ (.inr GW274.out) _))) x7_1 (of_eq_true p268) (of_eq_true q268); cases e_; exact q2_) | (obtain ⟨_, e_, q0_, q1_, q2_⟩ := at_T36 (HR1.out _ (by repeat (first | exact HK.out | apply Kept.alloc | apply Kept.drewN | apply Kept.drew | refine Kept.setCell ?_ (.inr GW274.out) _ | refine Kept.setCell ?_ (.inr GW274.out) _))) x7_1 (of_eq_true p268) (of_eq_true q268); cases e_; exact q2_))⟩ (fun hHeld => ?_)
        clear hK K
        refine nm ?_
        exact norm_ (by simp only [putAll, Act.put, s1, s2, s3]) (hCont (v270, gb274) _ ⟨hHeld, (zr HO271), (zk BK266), (zk BK267), (zk BK274), GW274.out, GE274.out, NB266_274.out, NB274_266.out, NB267_274.out, NB274_267.out, (by repeat (first | (with_reducible first | exact HK.out | apply Kept.alloc | apply Kept.drewN | apply Kept.drew | refine Kept.setCell ?_ (.inr GW266.out) _ | refine Kept.setCell ?_ (.inr GW267.out) _ | refine Kept.setCell ?_ (.inr GW274.out) _) | exact HK.out)), (zb HB)⟩)
       ·skip
        refine box_step ?hg (N := 8) ?hd (cs := #[.slice none 0 0, .int .i64 0]) (t := 25) ?hr ?_; (case hd => rfl); (case hg => rfl); (case hr => first | (go_simp; done) | (go_simp; rfl))
        intro gb274 hg w12 hbox hb
        replace HO_267000 := Aside0.mk (Kd.R_below (zr HO_267000) hb)
        have BK274 := Aside0.mk (hbox)
        have GW274 := Aside0.mk ((by rw [hg]; exact (by first | exact HK.out.1 | exact (show Kept w _ (fun k_ => P0_0_ k_) from by repeat (first | (with_reducible first | exact HK.out | apply Kept.alloc | apply Kept.drewN | apply Kept.drew | refine Kept.setCell ?_ (.inr GW266.out) _ | refine Kept.setCell ?_ (.inr GW267.out) _) | exact HK.out)).1) : w.heap.size ≤ gb274))
        replace HK := Aside0.mk (Kept.below (S := (fun k_ => P0_0_ k_)) (by repeat (first | (with_reducible first | exact HK.out | apply Kept.alloc | apply Kept.drewN | apply Kept.drew | refine Kept.setCell ?_ (.inr GW266.out) _ | refine Kept.setCell ?_ (.inr GW267.out) _) | exact HK.out)) hb)
        have GE274 := Aside0.mk ((by rw [hg]; exact (below_size (zb HB)) : w0.heap.size ≤ gb274))
        replace HB := Aside0.mk (below_step (zb HB) hb)
        have NB266_274 := Aside0.mk ((by rw [hg]; exact Nat.ne_of_lt (blk_lt (g := gb266) (o := .cells #[.slice Ao10 x267000_1.length co10, .int .i64 x267001_1] 25 (0, 0)) (zk BK266)) : gb266 ≠ gb274))
        have NB274_266 := Aside0.mk ((by rw [hg]; exact Nat.ne_of_gt (blk_lt (g := gb266) (o := .cells #[.slice Ao10 x267000_1.length co10, .int .i64 x267001_1] 25 (0, 0)) (zk BK266)) : gb274 ≠ gb266))
        replace BK266 := Aside0.mk (blk_below (g := gb266) (o := .cells #[.slice Ao10 x267000_1.length co10, .int .i64 x267001_1] 25 (0, 0)) (zk BK266) hb)
        have NB267_274 := Aside0.mk ((by rw [hg]; exact Nat.ne_of_lt (blk_lt (g := gb267) (o := .cells #[.slice none 0 0, .int .i64 0] 25 (0, 0)) (zk BK267)) : gb267 ≠ gb274))
        have NB274_267 := Aside0.mk ((by rw [hg]; exact Nat.ne_of_gt (blk_lt (g := gb267) (o := .cells #[.slice none 0 0, .int .i64 0] 25 (0, 0)) (zk BK267)) : gb274 ≠ gb267))
        replace BK267 := Aside0.mk (blk_below (g := gb267) (o := .cells #[.slice none 0 0, .int .i64 0] 25 (0, 0)) (zk BK267) hb)
        clear hb hbox hg
        refine hK.out _ _ ⟨(blk_cell BK266.out 0).trans rfl, (blk_cell BK266.out 1).trans rfl, (by first | (show World.cell? ?W10_ _ = _; obtain ⟨_, e_, q0_, q1_, q2_⟩ := at_T36 (HR1.out ?W10_ (by repeat (first | exact HK.out | apply Kept.alloc | apply Kept.drewN | apply Kept.drew | refine Kept.setCell ?_ (.inr GW274.out) _ | refine Kept.setCell ?_ (.inr GW274.out) _))) x7_1 (of_eq_true p268) (of_eq_true q268); cases e_; exact q0_) | (obtain ⟨_, e_, q0_, q1_, q2_⟩ := at_T36 (HR1.out _ (by repeat (first | exact HK.out | apply Kept.alloc | apply Kept.drewN | apply Kept.drew | refine Kept.setCell ?_ (.inr GW274.out) _ | refine Kept.setCell ?_ (.inr GW274.out) _))) x7_1 (of_eq_true p268) (of_eq_true q268); cases e_; exact q0_)), (by first | (show World.cell? ?W11_ _ = _; obtain ⟨_, e_, q0_, q1_, q2_⟩ := at_T36 (HR1.out ?W11_ (by repeat (first | exact HK.out | apply Kept.alloc | apply Kept.drewN | apply Kept.drew | refine Kept.setCell ?_ (.inr GW274.out) _ | refine Kept.setCell ?_ (.inr GW274.out) _))) x7_1 (of_eq_true p268) (of_eq_true q268); cases e_; exact q1_) | (obtain ⟨_, e_, q0_, q1_, q2_⟩ := at_T36 (HR1.out _ (by repeat (first | exact HK.out | apply Kept.alloc | apply Kept.drewN | apply Kept.drew | refine Kept.setCell ?_ (.inr GW274.out) _ | refine Kept.setCell ?_ (.inr GW274.out) _))) x7_1 (of_eq_true p268) (of_eq_true q268); cases e_; exact q1_)), (by first | (show World.cell? ?W12_ _ = _; obtain ⟨_, e_, q0_, q1_, q2_⟩ := at_T36 (HR1.out ?W12_ (by repeat (first | exact HK.out | apply Kept.alloc | apply Kept.drewN | apply Kept.drew | refine Kept.setCell ?_ (.inr GW274.out) _ | refine Kept.setCell ?_ (.inr GW274.out) _))) x7_1 (of_eq_true p268) (of_eq_true q268); cases e_; exact q2_) | (obtain ⟨_, e_, q0_, q1_, q2_⟩ := at_T36 (HR1.out _ (by repeat (first | exact HK.out | apply Kept.alloc | apply Kept.drewN | apply Kept.drew | refine Kept.setCell ?_ (.inr GW274.out) _ | refine Kept.setCell ?_ (.inr GW274.out) _))) x7_1 (of_eq_true p268) (of_eq_true q268); cases e_; exact q2_))⟩ (fun hHeld => ?_)
        clear hK K
        refine nm ?_
        refine one_ (i := 5) (N := some 22) (bm 12 575) rfl rfl (one_of HT_.out (by kernel_rfl)) (by decide) (fun K hK => ?_)
        refine gs Try.func80 #[.agg #[.slice Ao10 x267000_1.length co10, .int .i64 x267001_1], .agg #[.string ((rd_T36 l1 x7_1).f0), .string ((rd_T36 l1 x7_1).f1), .bool ((rd_T36 l1 x7_1).f2)]] ?_
        with_reducible refine (spec_l11Write.calls k1 (fun k_ => some k_ = (.slice Ao10 x267000_1.length co10 : Value).ownBlock) (.slice Ao10 x267000_1.length co10) x267000_1 x267001_1 ((rd_T36 l1 x7_1).f0) ((rd_T36 l1 x7_1).f1) ((rd_T36 l1 x7_1).f2) t269 t272 t273 w0 _ ?side1 ?side2 A8.out).mono ?_
        (case side1 => exact zb HB)
        (case side2 => exact Kd.R_tight rfl HO_267000.out)
        rintro e w13 ⟨v270, rfl, ho0, hb, hkp⟩
        refine ⟨_, rfl, ?_⟩
        replace BK266 := Aside0.mk (blk_kept (zk BK266) hkp (fun hs_ => (fun e_ => (Kd.R_ne HO_267000.out BK266.out (by decide)) e_) hs_))
        replace BK267 := Aside0.mk (blk_kept (zk BK267) hkp (fun hs_ => (fun e_ => (Kd.R_ne HO_267000.out BK267.out (by decide)) e_) hs_))
        replace BK274 := Aside0.mk (blk_kept (zk BK274) hkp (fun hs_ => (fun e_ => (Kd.R_ne HO_267000.out BK274.out (by decide)) e_) hs_))
        have HO271 := Aside0.mk (Kd.R_mono (ok' := fun k_ => (P0_0_ k_ ∨ w.heap.size ≤ k_)) ho0 (fun k_ hk_ => Or.elim hk_ (fun hs_ => (HO_267000.out.1 k_ (hs_).symm)) (fun hn_ => (.inr (Nat.le_trans (by first | exact HK.out.1 | exact (show Kept w _ (fun k_ => P0_0_ k_) from by repeat (first | (with_reducible first | exact HK.out | apply Kept.alloc | apply Kept.drewN | apply Kept.drew | refine Kept.setCell ?_ (.inr GW266.out) _ | refine Kept.setCell ?_ (.inr GW267.out) _ | refine Kept.setCell ?_ (.inr GW274.out) _) | exact HK.out)).1) hn_)))))
        replace HK := Aside0.mk (Kept.then_ (S := (fun k_ => P0_0_ k_)) (by repeat (first | (with_reducible first | exact HK.out | apply Kept.alloc | apply Kept.drewN | apply Kept.drew | refine Kept.setCell ?_ (.inr GW266.out) _ | refine Kept.setCell ?_ (.inr GW267.out) _ | refine Kept.setCell ?_ (.inr GW274.out) _) | exact HK.out)) hkp (fun k_ hs_ => (fun e_ => (HO_267000.out.1 k_ e_.symm)) hs_))
        replace HB := Aside0.mk (hb)
        clear HO_267000
        (try clear hb)
        (try clear hkp)
        (try clear ho0)
        refine hK.out _ _ ⟨(blk_cell BK266.out 0).trans rfl, (blk_cell BK266.out 1).trans rfl, (by first | (show World.cell? ?W13_ _ = _; obtain ⟨_, e_, q0_, q1_, q2_⟩ := at_T36 (HR1.out ?W13_ (by repeat (first | exact HK.out | apply Kept.alloc | apply Kept.drewN | apply Kept.drew | refine Kept.setCell ?_ (.inr GW274.out) _ | refine Kept.setCell ?_ (.inr GW274.out) _))) x7_1 (of_eq_true p268) (of_eq_true q268); cases e_; exact q0_) | (obtain ⟨_, e_, q0_, q1_, q2_⟩ := at_T36 (HR1.out _ (by repeat (first | exact HK.out | apply Kept.alloc | apply Kept.drewN | apply Kept.drew | refine Kept.setCell ?_ (.inr GW274.out) _ | refine Kept.setCell ?_ (.inr GW274.out) _))) x7_1 (of_eq_true p268) (of_eq_true q268); cases e_; exact q0_)), (by first | (show World.cell? ?W14_ _ = _; obtain ⟨_, e_, q0_, q1_, q2_⟩ := at_T36 (HR1.out ?W14_ (by repeat (first | exact HK.out | apply Kept.alloc | apply Kept.drewN | apply Kept.drew | refine Kept.setCell ?_ (.inr GW274.out) _ | refine Kept.setCell ?_ (.inr GW274.out) _))) x7_1 (of_eq_true p268) (of_eq_true q268); cases e_; exact q1_) | (obtain ⟨_, e_, q0_, q1_, q2_⟩ := at_T36 (HR1.out _ (by repeat (first | exact HK.out | apply Kept.alloc | apply Kept.drewN | apply Kept.drew | refine Kept.setCell ?_ (.inr GW274.out) _ | refine Kept.setCell ?_ (.inr GW274.out) _))) x7_1 (of_eq_true p268) (of_eq_true q268); cases e_; exact q1_)), (by first | (show World.cell? ?W15_ _ = _; obtain ⟨_, e_, q0_, q1_, q2_⟩ := at_T36 (HR1.out ?W15_ (by repeat (first | exact HK.out | apply Kept.alloc | apply Kept.drewN | apply Kept.drew | refine Kept.setCell ?_ (.inr GW274.out) _ | refine Kept.setCell ?_ (.inr GW274.out) _))) x7_1 (of_eq_true p268) (of_eq_true q268); cases e_; exact q2_) | (obtain ⟨_, e_, q0_, q1_, q2_⟩ := at_T36 (HR1.out _ (by repeat (first | exact HK.out | apply Kept.alloc | apply Kept.drewN | apply Kept.drew | refine Kept.setCell ?_ (.inr GW274.out) _ | refine Kept.setCell ?_ (.inr GW274.out) _))) x7_1 (of_eq_true p268) (of_eq_true q268); cases e_; exact q2_))⟩ (fun hHeld => ?_)
        clear hK K
        refine nm ?_
        refine pu 6 (some 16) (bm 12 639) rfl rfl ?_
        refine pu 7 (some 23) (bm 12 767) rfl rfl ?_
        refine pu 8 (some 24) (bm 12 1023) rfl rfl ?_
        exact norm_ (by simp only [putAll, Act.put, s1, s2, s3]) (hCont (v270, gb274) _ ⟨hHeld, (zr HO271), (zk BK266), (zk BK267), (zk BK274), GW274.out, GE274.out, NB266_274.out, NB274_266.out, NB267_274.out, NB274_267.out, (by repeat (first | (with_reducible first | exact HK.out | apply Kept.alloc | apply Kept.drewN | apply Kept.drew | refine Kept.setCell ?_ (.inr GW266.out) _ | refine Kept.setCell ?_ (.inr GW267.out) _ | refine Kept.setCell ?_ (.inr GW274.out) _) | exact HK.out)), (zb HB)⟩)
      rintro ⟨v270, gb274⟩ w14 ⟨hS_, h0_, h1_, h2_, h3_, h4_, h5_, h6_, h7_, h8_, h9_, h10_, h11_⟩
      have n0_ : Aside0 (Kd.R k36 36 w14 w0.heap.size (fun k_ => (P0_0_ k_ ∨ w.heap.size ≤ k_)) v270 t269) := ⟨h0_⟩
      have n1_ : Aside0 (w14.heap[gb266]? = some (.cells #[.slice Ao10 x267000_1.length co10, .int .i64 x267001_1] 25 (0, 0))) := ⟨h1_⟩
      have n2_ : Aside0 (w14.heap[gb267]? = some (.cells #[.slice none 0 0, .int .i64 0] 25 (0, 0))) := ⟨h2_⟩
      have n3_ : Aside0 (w14.heap[gb274]? = some (.cells #[.slice none 0 0, .int .i64 0] 25 (0, 0))) := ⟨h3_⟩
      have n4_ : Aside0 (w.heap.size ≤ gb274) := ⟨h4_⟩
      have n5_ : Aside0 (w0.heap.size ≤ gb274) := ⟨h5_⟩
      have n6_ : Aside0 (gb266 ≠ gb274) := ⟨h6_⟩
      have n7_ : Aside0 (gb274 ≠ gb266) := ⟨h7_⟩
      have n8_ : Aside0 (gb267 ≠ gb274) := ⟨h8_⟩
      have n9_ : Aside0 (gb274 ≠ gb267) := ⟨h9_⟩
      have n10_ : Aside0 (Kept w w14 (fun k_ => P0_0_ k_)) := ⟨h10_⟩
      have n11_ : Aside0 (Below w0.heap.size w0 w14) := ⟨h11_⟩
      clear HO_267000
      clear BK266
      clear BK267
      clear HK
      clear HB
      clear h0_ h1_ h2_ h3_ h4_ h5_ h6_ h7_ h8_ h9_ h10_ h11_
      have HO271 := n0_
      have BK266 := n1_
      have BK267 := n2_
      have BK274 := n3_
      have GW274 := n4_
      have GE274 := n5_
      have NB266_274 := n6_
      have NB274_266 := n7_
      have NB267_274 := n8_
      have NB274_267 := n9_
      have HK := n10_
      have HB := n11_
      clear n0_ n1_ n2_ n3_ n4_ n5_ n6_ n7_ n8_ n9_ n10_ n11_
      have hHeld : w14.cell? ⟨gb266, 0, none⟩ = some (.slice Ao10 x267000_1.length co10) ∧ w14.cell? ⟨gb266, 1, none⟩ = some (.int .i64 x267001_1) ∧ w14.cell? (ad268.add ((x7_1).toNat * 3)) = some (.string ((rd_T36 l1 x7_1).f0)) ∧ w14.cell? ⟨(ad268.add ((x7_1).toNat * 3)).block, (ad268.add ((x7_1).toNat * 3)).off + 1, none⟩ = some (.string ((rd_T36 l1 x7_1).f1)) ∧ w14.cell? ⟨(ad268.add ((x7_1).toNat * 3)).block, (ad268.add ((x7_1).toNat * 3)).off + 2, none⟩ = some (.bool ((rd_T36 l1 x7_1).f2)) := hS_
      obtain ⟨Ao15, co15, eo15⟩ := Kd.R_slice HO271.out
      (first | subst eo15 | (injection eo15 with f1_ f2_ f3_; have f4_ := f1_.symm; have f5_ := f3_.symm; clear f1_ f2_ f3_; subst f4_; subst f5_))
      refine norm_ (a' := ?_) ?_ ?_
      rotate_left
      ·simp only [putAll, Act.put, s1, s2, s3]
       rfl
      refine one_ (i := 10) (N := none) (bm 12 2047) rfl rfl (one_of HT_.out (by kernel_rfl)) (by decide) (fun K hK => ?_)
      have hs16 : w14.cell? ⟨gb274, 0, none⟩ = some (.slice none 0 0) := (blk_cell BK274.out 0).trans rfl
      have hfs16 := blk_frozen BK274.out 0
      have hns16_0 := NB266_274.out
      have hns16_1 := NB267_274.out
      have hms16_0 := NB274_266.out
      have hms16_1 := NB274_267.out
      have hs17 : w14.cell? ⟨gb274, 1, none⟩ = some (.int .i64 0) := (blk_cell BK274.out 1).trans rfl
      have hfs17 := blk_frozen BK274.out 1
      have hns17_0 := NB266_274.out
      have hns17_1 := NB267_274.out
      have hms17_0 := NB274_266.out
      have hms17_1 := NB274_267.out
      refine skip_ (w1 := ?_) (by rfl) rfl ?_ ?_
      rotate_left
      ·go_simp
       rfl
      refine hK.out _ _ ⟨((cell_far (p := ⟨gb274, _, none⟩) NB266_274.out _).trans (((cell_far (p := ⟨gb274, _, none⟩) NB266_274.out _).trans (hHeld.1)))), ((cell_far (p := ⟨gb274, _, none⟩) NB266_274.out _).trans (((cell_far (p := ⟨gb274, _, none⟩) NB266_274.out _).trans (hHeld.2.1)))), (by first | (show World.cell? ?W16_ _ = _; obtain ⟨_, e_, q0_, q1_, q2_⟩ := at_T36 (HR1.out ?W16_ (by repeat (first | exact HK.out | apply Kept.alloc | apply Kept.drewN | apply Kept.drew | refine Kept.setCell ?_ (.inr GW274.out) _ | refine Kept.setCell ?_ (.inr GW274.out) _))) x7_1 (of_eq_true p268) (of_eq_true q268); cases e_; exact q0_) | (obtain ⟨_, e_, q0_, q1_, q2_⟩ := at_T36 (HR1.out _ (by repeat (first | exact HK.out | apply Kept.alloc | apply Kept.drewN | apply Kept.drew | refine Kept.setCell ?_ (.inr GW274.out) _ | refine Kept.setCell ?_ (.inr GW274.out) _))) x7_1 (of_eq_true p268) (of_eq_true q268); cases e_; exact q0_)), (by first | (show World.cell? ?W17_ _ = _; obtain ⟨_, e_, q0_, q1_, q2_⟩ := at_T36 (HR1.out ?W17_ (by repeat (first | exact HK.out | apply Kept.alloc | apply Kept.drewN | apply Kept.drew | refine Kept.setCell ?_ (.inr GW274.out) _ | refine Kept.setCell ?_ (.inr GW274.out) _))) x7_1 (of_eq_true p268) (of_eq_true q268); cases e_; exact q1_) | (obtain ⟨_, e_, q0_, q1_, q2_⟩ := at_T36 (HR1.out _ (by repeat (first | exact HK.out | apply Kept.alloc | apply Kept.drewN | apply Kept.drew | refine Kept.setCell ?_ (.inr GW274.out) _ | refine Kept.setCell ?_ (.inr GW274.out) _))) x7_1 (of_eq_true p268) (of_eq_true q268); cases e_; exact q1_)), (by first | (show World.cell? ?W18_ _ = _; obtain ⟨_, e_, q0_, q1_, q2_⟩ := at_T36 (HR1.out ?W18_ (by repeat (first | exact HK.out | apply Kept.alloc | apply Kept.drewN | apply Kept.drew | refine Kept.setCell ?_ (.inr GW274.out) _ | refine Kept.setCell ?_ (.inr GW274.out) _))) x7_1 (of_eq_true p268) (of_eq_true q268); cases e_; exact q2_) | (obtain ⟨_, e_, q0_, q1_, q2_⟩ := at_T36 (HR1.out _ (by repeat (first | exact HK.out | apply Kept.alloc | apply Kept.drewN | apply Kept.drew | refine Kept.setCell ?_ (.inr GW274.out) _ | refine Kept.setCell ?_ (.inr GW274.out) _))) x7_1 (of_eq_true p268) (of_eq_true q268); cases e_; exact q2_))⟩ (fun hHeld => ?_)
      clear hK K
      refine pu 11 (some 9) (bm 12 4095) rfl rfl ?_
      refine done_ (done_of HT_.out (by kernel_rfl)) ?_
      have hnb18 := NB274_266.out
      have hnc18 := NB266_274.out
      have hnb19 := NB274_267.out
      have hnc19 := NB267_274.out
      have hcz20_0 : w14.cell? ⟨gb274, 0, none⟩ = some (.slice none 0 0) := (blk_cell BK274.out 0).trans rfl
      have hcz20_1 : w14.cell? ⟨gb274, 1, none⟩ = some (.int .i64 0) := (blk_cell BK274.out 1).trans rfl
      have hfz20_0 := blk_frozen BK274.out 0
      have hfz20_1 := blk_frozen BK274.out 1
      have hnb21 := NB266_267.out
      have hnc21 := NB267_266.out
      have hcz22_0 : w14.cell? ⟨gb266, 0, none⟩ = some (.slice Ao10 x267000_1.length co10) := (blk_cell BK266.out 0).trans rfl
      have hcz22_1 : w14.cell? ⟨gb266, 1, none⟩ = some (.int .i64 x267001_1) := (blk_cell BK266.out 1).trans rfl
      have hfz22_0 := blk_frozen BK266.out 0
      have hfz22_1 := blk_frozen BK266.out 1
      try go_wp2
      go_roundg k1
      case measure => have := HK1.out; omega
      case rel => exact ⟨(x6_1 ++ t273), (wrap64 (x7_1 + 1)), (t269), (t272), (.slice Ao15 t269.length co15), zs, zs, H', ⟨by have := HK1.out; omega⟩, ⟨by (with_reducible repeat (first | apply Kd.R_alloc | apply Kd.R_drewN | apply Kd.R_drew)); exact Kd.R_mono (Kd.R_far (p := ⟨gb266, 1, none⟩) (Kd.R_far (p := ⟨gb266, 0, none⟩) (Kd.R_far (p := ⟨gb274, 1, none⟩) (Kd.R_far (p := ⟨gb274, 0, none⟩) (Kd.R_types (Kd.R_types HO271.out BK274.out (by decide)) BK266.out (by decide)) (fun _ hk => hk.1.2) (.slice Ao15 t269.length co15)) (fun _ hk => hk.1.2) (.int .i64 t272)) (fun _ hk => hk.2) (.slice Ao15 t269.length co15)) (fun _ hk => hk.2) (.int .i64 t272)) (fun _ hk => hk.1.1)⟩, ⟨by (with_reducible repeat (first | refine blk_drewN ?_ _ | refine blk_drew ?_ | refine blk_alloc ?_ _)); refine blk_put (cs := #[.slice Ao15 t269.length co15, .int .i64 x267001_1]) ?_ 1 _ rfl; (with_reducible repeat (first | refine blk_drewN ?_ _ | refine blk_drew ?_ | refine blk_alloc ?_ _)); refine blk_put (cs := #[.slice Ao10 x267000_1.length co10, .int .i64 x267001_1]) ?_ 0 _ rfl; (with_reducible repeat (first | refine blk_drewN ?_ _ | refine blk_drew ?_ | refine blk_alloc ?_ _)); refine blk_far ?_ NB266_274.out _; (with_reducible repeat (first | refine blk_drewN ?_ _ | refine blk_drew ?_ | refine blk_alloc ?_ _)); refine blk_far ?_ NB266_274.out _; exact zk BK266⟩, ⟨by (with_reducible repeat (first | refine blk_drewN ?_ _ | refine blk_drew ?_ | refine blk_alloc ?_ _)); refine blk_far ?_ NB267_266.out _; (with_reducible repeat (first | refine blk_drewN ?_ _ | refine blk_drew ?_ | refine blk_alloc ?_ _)); refine blk_far ?_ NB267_266.out _; (with_reducible repeat (first | refine blk_drewN ?_ _ | refine blk_drew ?_ | refine blk_alloc ?_ _)); refine blk_far ?_ NB267_274.out _; (with_reducible repeat (first | refine blk_drewN ?_ _ | refine blk_drew ?_ | refine blk_alloc ?_ _)); refine blk_far ?_ NB267_274.out _; exact zk BK267⟩, ⟨by repeat (first | (with_reducible first | exact HK.out | apply Kept.alloc | apply Kept.drewN | apply Kept.drew | refine Kept.setCell ?_ (.inr GW266.out) _ | refine Kept.setCell ?_ (.inr GW267.out) _ | refine Kept.setCell ?_ (.inr GW274.out) _) | exact HK.out)⟩, ⟨zb HB⟩⟩
     ·rw [if_neg c9] at H
      exact absurd H (by simp)
    ·rw [if_neg c7] at H
     exact absurd H (by simp)
   ·rw [if_neg c6] at H
    have c6b0 : decide (x7_1 < (l1.length : Int)) = false := decide_eq_false c6
    clear c6
    simp only [Option.some.injEq, Prod.mk.injEq] at H
    obtain ⟨rfl, rfl, rfl⟩ := H
    have hnb23 := NB266_267.out
    have hnc23 := NB267_266.out
    have hcz24_0 : wr.cell? ⟨gb266, 0, none⟩ = some (u267000) := (blk_cell BK266.out 0).trans rfl
    have hcz24_1 : wr.cell? ⟨gb266, 1, none⟩ = some (.int .i64 x267001_1) := (blk_cell BK266.out 1).trans rfl
    have hfz24_0 := blk_frozen BK266.out 0
    have hfz24_1 := blk_frozen BK266.out 1
    obtain ⟨Ao25, co25, eo25⟩ := Kd.R_slice HO_267000.out
    subst eo25
    have hcz26_0 : wr.cell? ⟨gb267, 0, none⟩ = some (.slice none 0 0) := (blk_cell BK267.out 0).trans rfl
    have hcz26_1 : wr.cell? ⟨gb267, 1, none⟩ = some (.int .i64 0) := (blk_cell BK267.out 1).trans rfl
    have hfz26_0 := blk_frozen BK267.out 0
    have hfz26_1 := blk_frozen BK267.out 1
    go_wp2
    refine bodyPost_ret (results_ct rfl _ _ gb267 25 #[.slice Ao25 x267000_1.length co25, .int .i64 x267001_1] (0, 0) _ rfl (by (with_reducible repeat (first | refine blk_drewN ?_ _ | refine blk_drew ?_ | refine blk_alloc ?_ _)); refine blk_put (cs := #[.slice Ao25 x267000_1.length co25, .int .i64 0]) ?_ 1 _ rfl; (with_reducible repeat (first | refine blk_drewN ?_ _ | refine blk_drew ?_ | refine blk_alloc ?_ _)); refine blk_put (cs := #[.slice none 0 0, .int .i64 0]) ?_ 0 _ rfl; exact zk BK267) Try.underlying25 rfl (by kernel_rfl)) rfl ?_
    exact ⟨_, ze, by (with_reducible repeat (first | apply Kd.R_alloc | apply Kd.R_drewN | apply Kd.R_drew)); exact Kd.R_mono (Kd.R_far (p := ⟨gb267, 1, none⟩) (Kd.R_far (p := ⟨gb267, 0, none⟩) (Kd.R_types HO_267000.out BK267.out (by decide)) (fun _ hk => hk.2) (.slice Ao25 x267000_1.length co25)) (fun _ hk => hk.2) (.int .i64 x267001_1)) (fun _ hk => hk.1), zb HB, by repeat (first | (with_reducible first | exact HK.out | apply Kept.alloc | apply Kept.drewN | apply Kept.drew | refine Kept.setCell ?_ (.inr GW266.out) _ | refine Kept.setCell ?_ (.inr GW267.out) _) | exact HK.out)⟩

/-! ### spec_HeadWrite: function 38 -/
-- thin
def spec_HeadWrite.f (k : Nat) (l0_0 : List (S36)) (a0_1 : Int) (l1 : List (S36)) : Option ((List (S36)) × Int × ByteArray) := (spec_TableOk.f k l0_0 a0_1).bind fun t277 => (if t277 = true then ((spec_HeadOk.f k l1).bind fun t278 => (if t278 = true then ((some (([] : List (S36)) : List (S36))).bind fun y279 => (if y279.length + l0_0.length < 3518437208883 then ((spec_l11All.f k (y279 ++ l0_0) a0_1 l1).bind fun bt285 => (some (bt285.1, bt285.2.1, bt285.2.2))) else (none))) else (some (([] : List (S36)), 0, (⟨#[]⟩ : ByteArray))))) else (some (([] : List (S36)), 0, (⟨#[]⟩ : ByteArray))))
theorem spec_HeadWrite.mono : ∀ a0 a1 a2 k, LeO (spec_HeadWrite.f k a0 a1 a2) (spec_HeadWrite.f (k + 1) a0 a1 a2) := by
 intro a0 a1 a2 k
 unfold spec_HeadWrite.f
 repeat' first
   | (with_reducible exact spec_HeadOk.mono _ _)
   | (with_reducible exact spec_TableOk.mono _ _ _)
   | (with_reducible exact spec_l11All.mono _ _ _ _)
   | (with_reducible exact LeO.refl _)
   | (with_reducible exact LeO.none _)
   | (with_reducible refine LeO.ite ?_ ?_)
   | (with_reducible refine LeO.bind ?_ (fun _ => ?_))
   | exact spec_HeadOk.mono _ _
   | exact spec_TableOk.mono _ _ _
   | exact spec_l11All.mono _ _ _ _
   | exact LeO.none _
   | refine LeO.ite ?_ ?_
   | refine LeO.bind ?_ (fun _ => ?_)
def spec_HeadWrite.T3 : Bool × List (List Nat × List Nat) := (true, [([], []), ([], []), ([1], [1]), ([0, 2], [0, 2]), ([], []), ([4], [4]), ([3, 5], [3, 5]), ([], []), ([6, 7, 3], [6, 7]), ([8], [8]), ([8], [8]), ([9, 8, 0, 1, 2, 3, 4, 5, 6, 7, 8, 9, 10], [9]), ([10, 11, 0, 1, 2, 3, 4, 5, 6, 7, 8, 9, 10, 11], [10])])
def spec_HeadWrite.B3 : List Nat := [0, 0, 2, 7, 0, 16, 63, 0, 255, 511, 511, 2047, 4095]
theorem spec_HeadWrite.tab3 : rtab .any (opsOf Try.f38 3) = spec_HeadWrite.T3 := by kernel_rfl
theorem spec_HeadWrite.bits3 : waitsOk spec_HeadWrite.T3.2 spec_HeadWrite.B3 = true := by kernel_rfl
set_option maxHeartbeats 8000000 in
set_option maxRecDepth 100000 in
theorem spec_HeadWrite.calls (k : Nat) (A0_0 : Option Addr) (c0_0 : Nat) (l0_0 : List (S36)) (a0_1 : Int) (A1 : Option Addr) (c1 : Nat) (l1 : List (S36)) (r1 : List (S36)) (r2 : Int) (r3 : ByteArray) (w : World) (hr0_0 : Kd.C k36 w A0_0 l0_0.length l0_0) (hc0_0 : l0_0.length ≤ c0_0) (hr1 : Kd.C k36 w A1 l1.length l1) (hc1 : l1.length ≤ c1) (h : spec_HeadWrite.f k l0_0 a0_1 l1 = some (r1, r2, r3)) :
  Calls Try.prog 38 #[.agg #[.slice A0_0 l0_0.length c0_0, .int .i64 a0_1], .slice A1 l1.length c1] w fun e w' => ∃ v0_ : Value, e = .returned (.tuple #[.agg #[v0_, .int .i64 r2], .string r3]) ∧ Kd.R k36 36 w' w.heap.size (fun _ => True) v0_ r1 ∧ Below w.heap.size w w' := by
 have hu25 := Try.underlying25
 have HR0_0 := Aside0.mk hr0_0
 have HC0_0 := Aside0.mk hc0_0
 clear hr0_0 hc0_0
 have HR1 := Aside0.mk hr1
 have HC1 := Aside0.mk hc1
 clear hr1 hc1
 have HB := Aside0.mk (Below.refl w.heap.size w)
 have H : ((spec_TableOk.f k l0_0 a0_1).bind fun t277 => (if t277 = true then ((spec_HeadOk.f k l1).bind fun t278 => (if t278 = true then ((some (([] : List (S36)) : List (S36))).bind fun y279 => (if y279.length + l0_0.length < 3518437208883 then ((spec_l11All.f k (y279 ++ l0_0) a0_1 l1).bind fun bt285 => (some (bt285.1, bt285.2.1, bt285.2.2))) else (none))) else (some (([] : List (S36)), 0, (⟨#[]⟩ : ByteArray))))) else (some (([] : List (S36)), 0, (⟨#[]⟩ : ByteArray))))) = some (r1, r2, r3) := h
 clear h
 replace H := Option.bind_eq_some_iff.mp H
 obtain ⟨t277, A30, H⟩ := H
 replace H : (if t277 = true then ((spec_HeadOk.f k l1).bind fun t278 => (if t278 = true then ((some (([] : List (S36)) : List (S36))).bind fun y279 => (if y279.length + l0_0.length < 3518437208883 then ((spec_l11All.f k (y279 ++ l0_0) a0_1 l1).bind fun bt285 => (some (bt285.1, bt285.2.1, bt285.2.2))) else (none))) else (some (([] : List (S36)), 0, (⟨#[]⟩ : ByteArray))))) else (some (([] : List (S36)), 0, (⟨#[]⟩ : ByteArray)))) = some (r1, r2, r3) := H
 have A3 := Aside0.mk A30
 clear A30
 by_cases c4 : t277 = true
 ·subst c4
  have H1 : ((spec_HeadOk.f k l1).bind fun t278 => (if t278 = true then ((some (([] : List (S36)) : List (S36))).bind fun y279 => (if y279.length + l0_0.length < 3518437208883 then ((spec_l11All.f k (y279 ++ l0_0) a0_1 l1).bind fun bt285 => (some (bt285.1, bt285.2.1, bt285.2.2))) else (none))) else (some (([] : List (S36)), 0, (⟨#[]⟩ : ByteArray))))) = some (r1, r2, r3) := by rw [if_pos rfl] at H; exact H
  clear H
  have H := H1
  clear H1
  replace H := Option.bind_eq_some_iff.mp H
  obtain ⟨t278, A50, H⟩ := H
  replace H : (if t278 = true then ((some (([] : List (S36)) : List (S36))).bind fun y279 => (if y279.length + l0_0.length < 3518437208883 then ((spec_l11All.f k (y279 ++ l0_0) a0_1 l1).bind fun bt285 => (some (bt285.1, bt285.2.1, bt285.2.2))) else (none))) else (some (([] : List (S36)), 0, (⟨#[]⟩ : ByteArray)))) = some (r1, r2, r3) := H
  have A5 := Aside0.mk A50
  clear A50
  have HC6 := Aside0.mk H
  clear H
  go_enter Try.func38, Try.ntmps38
  go_upto_if 13 with (first | ((with_reducible refine gd 2 rfl ?_); refine bx (N := 2) (cs := #[.slice A0_0 l0_0.length c0_0, .int .i64 a0_1]) (t := 25) ?_; intro gb275 hg w7 hbox hb; have BK275 := Aside0.mk (hbox); have GW275 := Aside0.mk ((by rw [hg]; exact (below_size (zb HB)) : w.heap.size ≤ gb275)); have GE275 := Aside0.mk ((by rw [hg]; exact (below_size (zb HB)) : w.heap.size ≤ gb275)); replace HB := Aside0.mk (below_step (zb HB) hb); clear hb hbox hg) | ((with_reducible refine gd 4 rfl ?_); refine bx (N := 4) (cs := #[.slice none 0 0, .int .i64 0]) (t := 25) ?_; intro gb276 hg w8 hbox hb; have BK276 := Aside0.mk (hbox); have GW276 := Aside0.mk ((by rw [hg]; exact (below_size (zb HB)) : w.heap.size ≤ gb276)); have GE276 := Aside0.mk ((by rw [hg]; exact (below_size (zb HB)) : w.heap.size ≤ gb276)); replace HB := Aside0.mk (below_step (zb HB) hb); have NB275_276 := Aside0.mk ((by rw [hg]; exact Nat.ne_of_lt (blk_lt (g := gb275) (o := .cells #[.slice A0_0 l0_0.length c0_0, .int .i64 a0_1] 25 (0, 0)) (zk BK275)) : gb275 ≠ gb276)); have NB276_275 := Aside0.mk ((by rw [hg]; exact Nat.ne_of_gt (blk_lt (g := gb275) (o := .cells #[.slice A0_0 l0_0.length c0_0, .int .i64 a0_1] 25 (0, 0)) (zk BK275)) : gb276 ≠ gb275)); replace BK275 := Aside0.mk (blk_below (g := gb275) (o := .cells #[.slice A0_0 l0_0.length c0_0, .int .i64 a0_1] 25 (0, 0)) (zk BK275) hb); clear hb hbox hg; have hnb9 := NB275_276.out; have hnc9 := NB276_275.out; have hcz10_0 : w8.cell? ⟨gb275, 0, none⟩ = some (.slice A0_0 l0_0.length c0_0) := (blk_cell BK275.out 0).trans rfl; have hcz10_1 : w8.cell? ⟨gb275, 1, none⟩ = some (.int .i64 a0_1) := (blk_cell BK275.out 1).trans rfl; have hfz10_0 := blk_frozen BK275.out 0; have hfz10_1 := blk_frozen BK275.out 1) | ((with_reducible refine gq 19 rfl ?_); refine gl (some 7) Try.func19 #[.agg #[.slice A0_0 l0_0.length c0_0, .int .i64 a0_1]] ?_; (with_reducible refine (spec_TableOk.calls k _ _ l0_0 a0_1 true _ ?side1 ?side2 A3.out).mono ?_); (case side1 => exact zc (Kd.C_below HR0_0.out HB.out)); (case side2 => exact HC0_0.out); rintro e w11 ⟨rfl, hb⟩; refine ⟨_, rfl, ?_⟩; replace BK275 := Aside0.mk (blk_below (g := gb275) (o := .cells #[.slice A0_0 l0_0.length c0_0, .int .i64 a0_1] 25 (0, 0)) (zk BK275) hb); replace BK276 := Aside0.mk (blk_below (g := gb276) (o := .cells #[.slice none 0 0, .int .i64 0] 25 (0, 0)) (zk BK276) hb); replace HB := Aside0.mk (below_step (zb HB) hb); (try clear hb)) | (go_at_call 40; (with_reducible refine (spec_HeadOk.calls k _ _ l1 t278 _ ?side1 ?side2 A5.out).mono ?_); (case side1 => exact zc (Kd.C_below HR1.out HB.out)); (case side2 => exact HC1.out); rintro e w12 ⟨rfl, hb⟩; replace BK275 := Aside0.mk (blk_below (g := gb275) (o := .cells #[.slice A0_0 l0_0.length c0_0, .int .i64 a0_1] 25 (0, 0)) (zk BK275) hb); replace BK276 := Aside0.mk (blk_below (g := gb276) (o := .cells #[.slice none 0 0, .int .i64 0] 25 (0, 0)) (zk BK276) hb); replace HB := Aside0.mk (below_step (zb HB) hb); (try clear hb)))
  (try simp only [Act.put, s1, s2, s3])
  have H := HC6.out
  clear HC6
  by_cases c13 : t278 = true
  ·subst c13
   have H1 : ((some (([] : List (S36)) : List (S36))).bind fun y279 => (if y279.length + l0_0.length < 3518437208883 then ((spec_l11All.f k (y279 ++ l0_0) a0_1 l1).bind fun bt285 => (some (bt285.1, bt285.2.1, bt285.2.2))) else (none))) = some (r1, r2, r3) := by rw [if_pos rfl] at H; exact H
   clear H
   have H := H1
   clear H1
   obtain ⟨y279, hy279⟩ : ∃ y_ : List (S36), y_ = (([] : List (S36))) := ⟨_, rfl⟩
   replace H : (if y279.length + l0_0.length < 3518437208883 then ((spec_l11All.f k (y279 ++ l0_0) a0_1 l1).bind fun bt285 => (some (bt285.1, bt285.2.1, bt285.2.2))) else (none)) = some (r1, r2, r3) := by first | (rw [hy279]; with_reducible exact H) | (have H2_ := (Option.bind_some _ _).symm.trans H; rw [hy279]; with_reducible exact H2_) | (have H2_ := (Option.bind_some _ _).symm.trans H; with_reducible exact H2_) | with_reducible exact H | (rw [hy279]; exact H) | exact H
   have Ny279 := Aside0.mk hy279
   clear hy279
   by_cases c14 : y279.length + l0_0.length < 3518437208883
   ·rw [if_pos c14] at H
    have LMc14 := Aside0.mk c14
    clear c14
    obtain ⟨y282, hy282⟩ : ∃ y_ : List (S36), y_ = (y279 ++ l0_0) := ⟨_, rfl⟩
    replace H : ((spec_l11All.f k y282 a0_1 l1).bind fun bt285 => (some (bt285.1, bt285.2.1, bt285.2.2))) = some (r1, r2, r3) := by first | (rw [hy282]; with_reducible exact H) | (have H2_ := (Option.bind_some _ _).symm.trans H; rw [hy282]; with_reducible exact H2_) | (have H2_ := (Option.bind_some _ _).symm.trans H; with_reducible exact H2_) | with_reducible exact H | (rw [hy282]; exact H) | exact H
    have Ny282 := Aside0.mk hy282
    clear hy282
    replace H := Option.bind_eq_some_iff.mp H
    obtain ⟨⟨t285, t288, t289⟩, A150, H⟩ := H
    replace H : (some (t285, t288, t289)) = some (r1, r2, r3) := H
    have A15 := Aside0.mk A150
    clear A150
    simp only [Option.some.injEq, Prod.mk.injEq] at H
    obtain ⟨rfl, rfl, rfl⟩ := H
    try go_wp2
    replace BK275 := Aside0.mk (blk_drew BK275.out)
    replace BK276 := Aside0.mk (blk_drew BK276.out)
    replace HB := Aside0.mk (below_drew1 HB.out)
    refine start_ (n := 13) (S := fun w' => w'.cell? ⟨gb275, 0, none⟩ = some (.slice A0_0 l0_0.length c0_0) ∧ w'.cell? ⟨gb275, 1, none⟩ = some (.int .i64 a0_1)) (ds := []) #[false, false, false, false, false, false, false, false, false, false, false, false, false] (by kernel_rfl) rfl rfl ⟨(blk_cell BK275.out 0).trans rfl, (blk_cell BK275.out 1).trans rfl⟩ (fun hHeld => ?_); refine with_tabW spec_HeadWrite.tab3 spec_HeadWrite.bits3 (fun HT_ HW_ => ?_)
    generalize w12.drew = w16 at BK275 BK276 HB hHeld ⊢
    refine pu 1 (some 16) (bm 13 2) rfl rfl ?_
    refine pu 4 (some 19) (bm 13 18) rfl rfl ?_
    refine pu 7 (some 22) (bm 13 146) rfl rfl ?_
    refine tk2 2 (some 17) (bm 13 150) rfl rfl hHeld ?_
    refine tk2 5 (some 20) (bm 13 182) rfl rfl hHeld ?_
    refine one_ (i := 0) (N := some 15) (bm 13 183) rfl rfl (one_of HT_.out (by kernel_rfl)) (by decide) (fun K hK => ?_)
    refine Kd.R_lit_step k36 _ 36 ?hg (N := 15) ?hd (xs := ([] : List (S36))) (inner := []) (ok := fun _ => True) (okp := fun _ => True) ?hr ?hp (fun _ hk => hk) trivial (Below.refl _ _) (Nat.le_refl _) (by simp) ?_; (case hd => rfl); (case hg => rfl); (case hr => first | (go_simp; done) | (go_simp; rfl)); (case hp => exact (Reps.none _ _))
    intro v280 w17 ho18 hb hg_ hnew_
    clear hg_ hnew_
    (first | rw [← Ny279.out] at ho18 | (simp only [Int.reduceToNat] at ho18; rw [← Ny279.out] at ho18))
    have HO281 := Aside0.mk (Kd.R_lower ho18 (below_size (zb HB)))
    replace BK275 := Aside0.mk (blk_below (g := gb275) (o := .cells #[.slice A0_0 l0_0.length c0_0, .int .i64 a0_1] 25 (0, 0)) (zk BK275) hb)
    replace BK276 := Aside0.mk (blk_below (g := gb276) (o := .cells #[.slice none 0 0, .int .i64 0] 25 (0, 0)) (zk BK276) hb)
    replace HB := Aside0.mk (below_step (zb HB) hb)
    clear hb ho18
    refine hK.out _ _ ⟨(blk_cell BK275.out 0).trans rfl, (blk_cell BK275.out 1).trans rfl⟩ (fun hHeld => ?_)
    clear hK K
    refine nm ?_
    refine one_ (i := 3) (N := some 18) (bm 13 191) rfl rfl (one_of HT_.out (by kernel_rfl)) (by decide) (fun K hK => ?_)
    refine Kd.R_append_rows_step k36 (w0 := w) w.heap.size (by rfl) (.tmp 15) (.tmp 17) 23 36 (.agg #[(.string ⟨#[]⟩), (.string ⟨#[]⟩), (.bool false)]) 40 rfl Try.underlying23 info36 rfl (by decide) (by omega) v280 y279 l0_0 _ _ _ (fun _ => True) (fun _ => False) rfl rfl ?aO ?aR (fun _ _ h => h) (fun _ h => h.elim) ?aF ?aB ?aS ?aL ?_
    (case aR => exact zc (Kd.C_below HR0_0.out HB.out))
    (case aB => exact (zb HB))
    (case aF => exact (fun _ _ => trivial))
    (case aO => exact (zr HO281))
    (case aS => exact (below_size (zb HB)))
    (case aL => have := LMc14.out; omega)
    intro v283 w19 ho hb hg hat
    rw [← Ny282.out] at ho
    replace BK275 := Aside0.mk (blk_grown (g := gb275) (o := .cells #[.slice A0_0 l0_0.length c0_0, .int .i64 a0_1] 25 (0, 0)) (zk BK275) hg (Kd.R_ne HO281.out BK275.out (by decide)))
    replace BK276 := Aside0.mk (blk_grown (g := gb276) (o := .cells #[.slice none 0 0, .int .i64 0] 25 (0, 0)) (zk BK276) hg (Kd.R_ne HO281.out BK276.out (by decide)))
    replace HB := Aside0.mk (hb)
    have HO284 := Aside0.mk (ho)
    clear HO281
    clear ho hb hg hat
    obtain ⟨Ao20, co20, eo20⟩ := Kd.R_slice HO284.out
    (first | subst eo20 | (injection eo20 with f1_ f2_ f3_; have f4_ := f1_.symm; have f5_ := f3_.symm; clear f1_ f2_ f3_; subst f4_; subst f5_))
    refine hK.out _ _ ⟨(blk_cell BK275.out 0).trans rfl, (blk_cell BK275.out 1).trans rfl⟩ (fun hHeld => ?_)
    clear hK K
    refine nm ?_
    refine pu 6 (some 21) (bm 13 255) rfl rfl ?_
    refine one_ (i := 8) (N := some 23) (bm 13 511) rfl rfl (one_of HT_.out (by kernel_rfl)) (by decide) (fun K hK => ?_)
    refine gs Try.func64 #[.agg #[.slice Ao20 y282.length co20, .int .i64 a0_1], .slice A1 l1.length c1] ?_
    with_reducible refine (spec_l11All.calls k (fun k_ => some k_ = (.slice Ao20 y282.length co20 : Value).ownBlock) (.slice Ao20 y282.length co20) y282 a0_1 _ _ l1 t285 t288 t289 w _ ?side1 ?side2 ?side3 ?side4 A15.out).mono ?_
    (case side1 => exact zb HB)
    (case side2 => exact Kd.R_tight rfl HO284.out)
    (case side3 => exact Kd.C_kept_came k36_heap HR1.out (zb HB) (fun k_ hs_ => (fun e_ => Kd.R_base HO284.out k_ e_.symm) hs_))
    (case side4 => exact HC1.out)
    rintro e w21 ⟨v286, rfl, ho0, hb, hkp⟩
    refine ⟨_, rfl, ?_⟩
    replace BK275 := Aside0.mk (blk_kept (zk BK275) hkp (fun hs_ => (fun e_ => (Kd.R_ne HO284.out BK275.out (by decide)) e_) hs_))
    replace BK276 := Aside0.mk (blk_kept (zk BK276) hkp (fun hs_ => (fun e_ => (Kd.R_ne HO284.out BK276.out (by decide)) e_) hs_))
    have HO287 := Aside0.mk (Kd.R_mono (ok' := fun k_ => True) ho0 (fun k_ hk_ => trivial))
    replace HB := Aside0.mk (hb)
    clear HO284
    (try clear hb)
    (try clear hkp)
    (try clear ho0)
    obtain ⟨Ao22, co22, eo22⟩ := Kd.R_slice HO287.out
    (first | subst eo22 | (injection eo22 with f1_ f2_ f3_; have f4_ := f1_.symm; have f5_ := f3_.symm; clear f1_ f2_ f3_; subst f4_; subst f5_))
    refine hK.out _ _ ⟨(blk_cell BK275.out 0).trans rfl, (blk_cell BK275.out 1).trans rfl⟩ (fun hHeld => ?_)
    clear hK K
    refine nm ?_
    refine pu 9 (some 24) (bm 13 1023) rfl rfl ?_
    refine pu 10 (some 25) (bm 13 2047) rfl rfl ?_
    refine one_ (i := 11) (N := none) (bm 13 4095) rfl rfl (one_of HT_.out (by kernel_rfl)) (by decide) (fun K hK => ?_)
    have hs23 : w21.cell? ⟨gb276, 0, none⟩ = some (.slice none 0 0) := (blk_cell BK276.out 0).trans rfl
    have hfs23 := blk_frozen BK276.out 0
    have hns23_0 := NB275_276.out
    have hms23_0 := NB276_275.out
    have hs24 : w21.cell? ⟨gb276, 1, none⟩ = some (.int .i64 0) := (blk_cell BK276.out 1).trans rfl
    have hfs24 := blk_frozen BK276.out 1
    have hns24_0 := NB275_276.out
    have hms24_0 := NB276_275.out
    refine skip_ (w1 := ?_) (by rfl) rfl ?_ ?_
    rotate_left
    ·go_simp
     rfl
    refine hK.out _ _ ⟨((cell_far (p := ⟨gb276, _, none⟩) NB275_276.out _).trans (((cell_far (p := ⟨gb276, _, none⟩) NB275_276.out _).trans (hHeld.1)))), ((cell_far (p := ⟨gb276, _, none⟩) NB275_276.out _).trans (((cell_far (p := ⟨gb276, _, none⟩) NB275_276.out _).trans (hHeld.2))))⟩ (fun hHeld => ?_)
    clear hK K
    refine pu 12 (some 5) (bm 13 8191) rfl rfl ?_
    refine done_ (done_of HT_.out (by kernel_rfl)) ?_
    try go_wp2
    refine bodyPost_ret (results_ct rfl _ _ gb276 25 #[.slice Ao22 t285.length co22, .int .i64 t288] (0, 0) _ rfl (by (with_reducible repeat (first | refine blk_drewN ?_ _ | refine blk_drew ?_ | refine blk_alloc ?_ _)); refine blk_put (cs := #[.slice Ao22 t285.length co22, .int .i64 0]) ?_ 1 _ rfl; (with_reducible repeat (first | refine blk_drewN ?_ _ | refine blk_drew ?_ | refine blk_alloc ?_ _)); refine blk_put (cs := #[.slice none 0 0, .int .i64 0]) ?_ 0 _ rfl; exact zk BK276) Try.underlying25 rfl (by kernel_rfl)) rfl ?_
    exact ⟨_, ze, by (with_reducible repeat (first | apply Kd.R_alloc | apply Kd.R_drewN | apply Kd.R_drew)); exact Kd.R_mono (Kd.R_far (p := ⟨gb276, 1, none⟩) (Kd.R_far (p := ⟨gb276, 0, none⟩) (Kd.R_types HO287.out BK276.out (by decide)) (fun _ hk => hk.2) (.slice Ao22 t285.length co22)) (fun _ hk => hk.2) (.int .i64 t288)) (fun _ hk => trivial), zb HB⟩
   ·rw [if_neg c14] at H
    exact absurd H (by simp)
  ·replace c13 := Bool.eq_false_iff.mpr c13
   subst c13
   have H1 : (some (([] : List (S36)), 0, (⟨#[]⟩ : ByteArray))) = some (r1, r2, r3) := by rw [if_neg (show ¬ (false = true) by decide)] at H; exact H
   clear H
   have H := H1
   clear H1
   simp only [Option.some.injEq, Prod.mk.injEq] at H
   obtain ⟨rfl, rfl, rfl⟩ := H
   have hnb25 := NB276_275.out
   have hnc25 := NB275_276.out
   have hcz26_0 : w12.cell? ⟨gb276, 0, none⟩ = some (.slice none 0 0) := (blk_cell BK276.out 0).trans rfl
   have hcz26_1 : w12.cell? ⟨gb276, 1, none⟩ = some (.int .i64 0) := (blk_cell BK276.out 1).trans rfl
   have hfz26_0 := blk_frozen BK276.out 0
   have hfz26_1 := blk_frozen BK276.out 1
   go_wp2
   refine bodyPost_ret (results_ct rfl _ _ gb276 25 #[.slice none 0 0, .int .i64 0] (0, 0) _ rfl (by (with_reducible repeat (first | refine blk_drewN ?_ _ | refine blk_drew ?_ | refine blk_alloc ?_ _)); refine blk_put (cs := #[.slice none 0 0, .int .i64 0]) ?_ 1 _ rfl; (with_reducible repeat (first | refine blk_drewN ?_ _ | refine blk_drew ?_ | refine blk_alloc ?_ _)); refine blk_put (cs := #[.slice none 0 0, .int .i64 0]) ?_ 0 _ rfl; exact zk BK276) Try.underlying25 rfl (by kernel_rfl)) rfl ?_
   exact ⟨_, ze, by first | exact Kd.R_nil _ _ _ _ _ | exact Kd.N_nil _ _ _ _ _ | exact Kd.V_nil _ _ _ _ _ | exact Kd.Q_nil _ _ _ _ _ | exact Kd.S_nil _ _ _ _ _, zb HB⟩
 ·replace c4 := Bool.eq_false_iff.mpr c4
  subst c4
  have H1 : (some (([] : List (S36)), 0, (⟨#[]⟩ : ByteArray))) = some (r1, r2, r3) := by rw [if_neg (show ¬ (false = true) by decide)] at H; exact H
  clear H
  have H := H1
  clear H1
  simp only [Option.some.injEq, Prod.mk.injEq] at H
  obtain ⟨rfl, rfl, rfl⟩ := H
  go_enter Try.func38, Try.ntmps38
  go_wp2_with (first | ((with_reducible refine gd 2 rfl ?_); refine bx (N := 2) (cs := #[.slice A0_0 l0_0.length c0_0, .int .i64 a0_1]) (t := 25) ?_; intro gb275 hg w27 hbox hb; have BK275 := Aside0.mk (hbox); have GW275 := Aside0.mk ((by rw [hg]; exact (below_size (zb HB)) : w.heap.size ≤ gb275)); have GE275 := Aside0.mk ((by rw [hg]; exact (below_size (zb HB)) : w.heap.size ≤ gb275)); replace HB := Aside0.mk (below_step (zb HB) hb); clear hb hbox hg) | ((with_reducible refine gd 4 rfl ?_); refine bx (N := 4) (cs := #[.slice none 0 0, .int .i64 0]) (t := 25) ?_; intro gb276 hg w28 hbox hb; have BK276 := Aside0.mk (hbox); have GW276 := Aside0.mk ((by rw [hg]; exact (below_size (zb HB)) : w.heap.size ≤ gb276)); have GE276 := Aside0.mk ((by rw [hg]; exact (below_size (zb HB)) : w.heap.size ≤ gb276)); replace HB := Aside0.mk (below_step (zb HB) hb); have NB275_276 := Aside0.mk ((by rw [hg]; exact Nat.ne_of_lt (blk_lt (g := gb275) (o := .cells #[.slice A0_0 l0_0.length c0_0, .int .i64 a0_1] 25 (0, 0)) (zk BK275)) : gb275 ≠ gb276)); have NB276_275 := Aside0.mk ((by rw [hg]; exact Nat.ne_of_gt (blk_lt (g := gb275) (o := .cells #[.slice A0_0 l0_0.length c0_0, .int .i64 a0_1] 25 (0, 0)) (zk BK275)) : gb276 ≠ gb275)); replace BK275 := Aside0.mk (blk_below (g := gb275) (o := .cells #[.slice A0_0 l0_0.length c0_0, .int .i64 a0_1] 25 (0, 0)) (zk BK275) hb); clear hb hbox hg; have hnb29 := NB275_276.out; have hnc29 := NB276_275.out; have hcz30_0 : w28.cell? ⟨gb275, 0, none⟩ = some (.slice A0_0 l0_0.length c0_0) := (blk_cell BK275.out 0).trans rfl; have hcz30_1 : w28.cell? ⟨gb275, 1, none⟩ = some (.int .i64 a0_1) := (blk_cell BK275.out 1).trans rfl; have hfz30_0 := blk_frozen BK275.out 0; have hfz30_1 := blk_frozen BK275.out 1) | ((with_reducible refine gq 19 rfl ?_); refine gl (some 7) Try.func19 #[.agg #[.slice A0_0 l0_0.length c0_0, .int .i64 a0_1]] ?_; (with_reducible refine (spec_TableOk.calls k _ _ l0_0 a0_1 false _ ?side1 ?side2 A3.out).mono ?_); (case side1 => exact zc (Kd.C_below HR0_0.out HB.out)); (case side2 => exact HC0_0.out); rintro e w31 ⟨rfl, hb⟩; refine ⟨_, rfl, ?_⟩; replace BK275 := Aside0.mk (blk_below (g := gb275) (o := .cells #[.slice A0_0 l0_0.length c0_0, .int .i64 a0_1] 25 (0, 0)) (zk BK275) hb); replace BK276 := Aside0.mk (blk_below (g := gb276) (o := .cells #[.slice none 0 0, .int .i64 0] 25 (0, 0)) (zk BK276) hb); replace HB := Aside0.mk (below_step (zb HB) hb); (try clear hb); have hcz32_0 : w31.cell? ⟨gb276, 0, none⟩ = some (.slice none 0 0) := (blk_cell BK276.out 0).trans rfl; have hcz32_1 : w31.cell? ⟨gb276, 1, none⟩ = some (.int .i64 0) := (blk_cell BK276.out 1).trans rfl; have hfz32_0 := blk_frozen BK276.out 0; have hfz32_1 := blk_frozen BK276.out 1))
  refine bodyPost_ret (results_ct rfl _ _ gb276 25 #[.slice none 0 0, .int .i64 0] (0, 0) _ rfl (by (with_reducible repeat (first | refine blk_drewN ?_ _ | refine blk_drew ?_ | refine blk_alloc ?_ _)); refine blk_put (cs := #[.slice none 0 0, .int .i64 0]) ?_ 1 _ rfl; (with_reducible repeat (first | refine blk_drewN ?_ _ | refine blk_drew ?_ | refine blk_alloc ?_ _)); refine blk_put (cs := #[.slice none 0 0, .int .i64 0]) ?_ 0 _ rfl; exact zk BK276) Try.underlying25 rfl (by kernel_rfl)) rfl ?_
  exact ⟨_, ze, by first | exact Kd.R_nil _ _ _ _ _ | exact Kd.N_nil _ _ _ _ _ | exact Kd.V_nil _ _ _ _ _ | exact Kd.Q_nil _ _ _ _ _ | exact Kd.S_nil _ _ _ _ _, zb HB⟩

/-! ### impl_in: function 48 -/
-- thin
def impl_in.f (a0 : Int) (a1 : Int) (a2 : Int) : Option (Bool) := if a1 ≤ a0 then (some (decide (a0 ≤ a2))) else (some false)
set_option maxHeartbeats 8000000 in
set_option maxRecDepth 100000 in
theorem impl_in.calls (a0 : Int) (a1 : Int) (a2 : Int) (r : Bool) (w : World) (h : impl_in.f a0 a1 a2 = some r) :
  Calls Try.prog 48 #[.int .i64 a0, .int .i64 a1, .int .i64 a2] w fun e w' => e = .returned (.bool r) ∧ Drawn0 w w' := by
 have H : (if a1 ≤ a0 then (some (decide (a0 ≤ a2))) else (some false)) = some r := h
 clear h
 by_cases c4 : a1 ≤ a0
 ·rw [if_pos c4] at H
  have c4b0 : decide (a1 ≤ a0) = true := decide_eq_true c4
  clear c4
  obtain rfl := Option.some.inj H
  go_enter Try.func48, Try.ntmps48
  go_wp2
  go_ret
  exact ⟨zs, by repeat (first | exact Drawn0.refl _ | apply Drawn0.step)⟩
 ·rw [if_neg c4] at H
  have c4b0 : decide (a1 ≤ a0) = false := decide_eq_false c4
  clear c4
  obtain rfl := Option.some.inj H
  go_enter Try.func48, Try.ntmps48
  go_wp2
  go_ret
  exact ⟨zs, by repeat (first | exact Drawn0.refl _ | apply Drawn0.step)⟩

-- NOT PRINTED: function 99 (bytealg_IndexByteString)

-- NOT PRINTED: function 94 (stringslite_IndexByte)

end Go.Proofs.Ytdhahifdcoinhaa.PFnExactHeadWrite
