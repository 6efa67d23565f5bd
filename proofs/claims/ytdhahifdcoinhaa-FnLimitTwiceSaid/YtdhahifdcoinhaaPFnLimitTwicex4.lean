-- WRITTEN BY a turned print (wip/tools of the prover's repo)
import Derived.Test.YtdhahifdcoinhaaPFnLimitTwicex0
import Derived.Test.YtdhahifdcoinhaaPFnLimitTwicex2
import Derived.Test.YtdhahifdcoinhaaPFnLimitTwicex3
namespace Go.Proofs.Ytdhahifdcoinhaa.PFnLimitTwice
open Go.RowKit Go.Proofs.YtdhahifdcoinhaaW.PrintWords Go.Proofs.YtdhahifdcoinhaaW.PrintLast Go.Proofs.YtdhahifdcoinhaaW.PrintMore Go.Proofs.Ytdhahifdcoinhaa.Lm
attribute [local go_sem] max2_int min2_int max_two min_two max_three min_three max_four min_four   -- for this text's walks alone
set_option linter.unusedVariables false
set_option linter.unusedSimpArgs false

/-! ### spec_l3Add: function 60 -/
def spec_l3Add.f (k : Nat) (l0_0 : List (S36)) (a0_1 : Int) (a1_0 : ByteArray) (a1_1 : ByteArray) (a1_2 : Bool) : Option ((List (S36)) × Int) := (some (([(⟨a1_0, a1_1, false⟩ : S36)] : List (S36)) : List (S36))).bind fun y175 => (if y175.length + l0_0.length < 3518437208883 then ((spec_l3Fit.f k (y175 ++ l0_0) a0_1).bind fun bt181 => (some (bt181.1, bt181.2))) else (none))
theorem spec_l3Add.mono : ∀ a0 a1 a2 a3 a4 k, LeO (spec_l3Add.f k a0 a1 a2 a3 a4) (spec_l3Add.f (k + 1) a0 a1 a2 a3 a4) := by
 intro a0 a1 a2 a3 a4 k
 unfold spec_l3Add.f
 repeat' first
   | (with_reducible exact spec_l3Fit.mono _ _ _)
   | (with_reducible exact LeO.refl _)
   | (with_reducible exact LeO.none _)
   | (with_reducible refine LeO.ite ?_ ?_)
   | (with_reducible refine LeO.bind ?_ (fun _ => ?_))
   | exact spec_l3Fit.mono _ _ _
   | exact LeO.none _
   | refine LeO.ite ?_ ?_
   | refine LeO.bind ?_ (fun _ => ?_)
def spec_l3Add.T2 : Bool × List (List Nat × List Nat) := (true, [([], []), ([0], [0]), ([], []), ([2], [2]), ([1, 3], [1, 3]), ([], []), ([5], [5]), ([4, 6], [4, 6]), ([7, 4], [7]), ([8, 8, 0, 1, 2, 3, 4, 5, 6, 7, 8], [8])])
def spec_l3Add.B2 : List Nat := [0, 1, 0, 4, 15, 0, 32, 127, 255, 511]
theorem spec_l3Add.tab2 : rtab .any (opsOf Try.f60 2) = spec_l3Add.T2 := by kernel_rfl
theorem spec_l3Add.bits2 : waitsOk spec_l3Add.T2.2 spec_l3Add.B2 = true := by kernel_rfl
set_option maxHeartbeats 8000000 in
set_option maxRecDepth 100000 in
theorem spec_l3Add.calls (k : Nat) (A0_0 : Option Addr) (c0_0 : Nat) (l0_0 : List (S36)) (a0_1 : Int) (a1_0 : ByteArray) (a1_1 : ByteArray) (a1_2 : Bool) (r1 : List (S36)) (r2 : Int) (w : World) (hr0_0 : Kd.C k36 w A0_0 l0_0.length l0_0) (hc0_0 : l0_0.length ≤ c0_0) (h : spec_l3Add.f k l0_0 a0_1 a1_0 a1_1 a1_2 = some (r1, r2)) :
  Calls Try.prog 60 #[.agg #[.slice A0_0 l0_0.length c0_0, .int .i64 a0_1], .agg #[.string a1_0, .string a1_1, .bool a1_2]] w fun e w' => ∃ v0_ : Value, e = .returned (.agg #[v0_, .int .i64 r2]) ∧ Kd.R k36 36 w' w.heap.size (fun _ => True) v0_ r1 ∧ Below w.heap.size w w' := by
 have hu25 := Try.underlying25
 have hu36 := Try.underlying36
 have HR0_0 := Aside0.mk hr0_0
 have HC0_0 := Aside0.mk hc0_0
 clear hr0_0 hc0_0
 have HB := Aside0.mk (Below.refl w.heap.size w)
 have H : ((some (([(⟨a1_0, a1_1, false⟩ : S36)] : List (S36)) : List (S36))).bind fun y175 => (if y175.length + l0_0.length < 3518437208883 then ((spec_l3Fit.f k (y175 ++ l0_0) a0_1).bind fun bt181 => (some (bt181.1, bt181.2))) else (none))) = some (r1, r2) := h
 clear h
 obtain ⟨y175, hy175⟩ : ∃ y_ : List (S36), y_ = (([(⟨a1_0, a1_1, false⟩ : S36)] : List (S36))) := ⟨_, rfl⟩
 replace H : (if y175.length + l0_0.length < 3518437208883 then ((spec_l3Fit.f k (y175 ++ l0_0) a0_1).bind fun bt181 => (some (bt181.1, bt181.2))) else (none)) = some (r1, r2) := by first | (rw [hy175]; with_reducible exact H) | (have H2_ := (Option.bind_some _ _).symm.trans H; rw [hy175]; with_reducible exact H2_) | (have H2_ := (Option.bind_some _ _).symm.trans H; with_reducible exact H2_) | with_reducible exact H | (rw [hy175]; exact H) | exact H
 have Ny175 := Aside0.mk hy175
 clear hy175
 by_cases c3 : y175.length + l0_0.length < 3518437208883
 ·rw [if_pos c3] at H
  have LMc3 := Aside0.mk c3
  clear c3
  obtain ⟨y178, hy178⟩ : ∃ y_ : List (S36), y_ = (y175 ++ l0_0) := ⟨_, rfl⟩
  replace H : ((spec_l3Fit.f k y178 a0_1).bind fun bt181 => (some (bt181.1, bt181.2))) = some (r1, r2) := by first | (rw [hy178]; with_reducible exact H) | (have H2_ := (Option.bind_some _ _).symm.trans H; rw [hy178]; with_reducible exact H2_) | (have H2_ := (Option.bind_some _ _).symm.trans H; with_reducible exact H2_) | with_reducible exact H | (rw [hy178]; exact H) | exact H
  have Ny178 := Aside0.mk hy178
  clear hy178
  replace H := Option.bind_eq_some_iff.mp H
  obtain ⟨⟨t181, t184⟩, A40, H⟩ := H
  replace H : (some (t181, t184)) = some (r1, r2) := H
  have A4 := Aside0.mk A40
  clear A40
  simp only [Option.some.injEq, Prod.mk.injEq] at H
  obtain ⟨rfl, rfl⟩ := H
  go_enter Try.func60, Try.ntmps60
  try go_wp2_with (first | ((with_reducible refine gate_dst (N := 2) rfl ?_); refine box_event ?hg (N := 2) ?hd (cs := #[.slice A0_0 l0_0.length c0_0, .int .i64 a0_1]) (t := 25) ?hr ?_; (case hd => rfl); (case hg => rfl); (case hr => first | (go_simp; done) | (go_simp; rfl)); intro gb172 hg w5 hbox hb; have n0_ := Aside0.mk (below_step (zb HB) hb); have n1_ := Aside0.mk (hbox); have n2_ := Aside0.mk ((by rw [hg]; exact (below_size (zb HB)) : w.heap.size ≤ gb172)); have n3_ := Aside0.mk ((by rw [hg]; exact (below_size (zb HB)) : w.heap.size ≤ gb172)); clear HB; have HB := n0_; have BK172 := n1_; have GW172 := n2_; have GE172 := n3_; clear n0_ n1_ n2_ n3_; clear hb hbox hg) | ((with_reducible refine gate_dst (N := 3) rfl ?_); refine box_event ?hg (N := 3) ?hd (cs := #[.string a1_0, .string a1_1, .bool a1_2]) (t := 36) ?hr ?_; (case hd => rfl); (case hg => rfl); (case hr => first | (go_simp; done) | (go_simp; rfl)); intro gb173 hg w6 hbox hb; have n0_ := Aside0.mk (blk_below (g := gb172) (o := .cells #[.slice A0_0 l0_0.length c0_0, .int .i64 a0_1] 25 (0, 0)) (zk BK172) hb); have n1_ := Aside0.mk (below_step (zb HB) hb); have n2_ := Aside0.mk (hbox); have n3_ := Aside0.mk ((by rw [hg]; exact (below_size (zb HB)) : w.heap.size ≤ gb173)); have n4_ := Aside0.mk ((by rw [hg]; exact (below_size (zb HB)) : w.heap.size ≤ gb173)); have n5_ := Aside0.mk ((by rw [hg]; exact Nat.ne_of_lt (blk_lt (g := gb172) (o := .cells #[.slice A0_0 l0_0.length c0_0, .int .i64 a0_1] 25 (0, 0)) (zk BK172)) : gb172 ≠ gb173)); have n6_ := Aside0.mk ((by rw [hg]; exact Nat.ne_of_gt (blk_lt (g := gb172) (o := .cells #[.slice A0_0 l0_0.length c0_0, .int .i64 a0_1] 25 (0, 0)) (zk BK172)) : gb173 ≠ gb172)); clear BK172; clear HB; have BK172 := n0_; have HB := n1_; have BK173 := n2_; have GW173 := n3_; have GE173 := n4_; have NB172_173 := n5_; have NB173_172 := n6_; clear n0_ n1_ n2_ n3_ n4_ n5_ n6_; clear hb hbox hg) | ((with_reducible refine gate_dst (N := 4) rfl ?_); refine box_event ?hg (N := 4) ?hd (cs := #[.slice none 0 0, .int .i64 0]) (t := 25) ?hr ?_; (case hd => rfl); (case hg => rfl); (case hr => first | (go_simp; done) | (go_simp; rfl)); intro gb174 hg w7 hbox hb; have n0_ := Aside0.mk (blk_below (g := gb172) (o := .cells #[.slice A0_0 l0_0.length c0_0, .int .i64 a0_1] 25 (0, 0)) (zk BK172) hb); have n1_ := Aside0.mk (blk_below (g := gb173) (o := .cells #[.string a1_0, .string a1_1, .bool a1_2] 36 (0, 0)) (zk BK173) hb); have n2_ := Aside0.mk (below_step (zb HB) hb); have n3_ := Aside0.mk (hbox); have n4_ := Aside0.mk ((by rw [hg]; exact (below_size (zb HB)) : w.heap.size ≤ gb174)); have n5_ := Aside0.mk ((by rw [hg]; exact (below_size (zb HB)) : w.heap.size ≤ gb174)); have n6_ := Aside0.mk ((by rw [hg]; exact Nat.ne_of_lt (blk_lt (g := gb172) (o := .cells #[.slice A0_0 l0_0.length c0_0, .int .i64 a0_1] 25 (0, 0)) (zk BK172)) : gb172 ≠ gb174)); have n7_ := Aside0.mk ((by rw [hg]; exact Nat.ne_of_gt (blk_lt (g := gb172) (o := .cells #[.slice A0_0 l0_0.length c0_0, .int .i64 a0_1] 25 (0, 0)) (zk BK172)) : gb174 ≠ gb172)); have n8_ := Aside0.mk ((by rw [hg]; exact Nat.ne_of_lt (blk_lt (g := gb173) (o := .cells #[.string a1_0, .string a1_1, .bool a1_2] 36 (0, 0)) (zk BK173)) : gb173 ≠ gb174)); have n9_ := Aside0.mk ((by rw [hg]; exact Nat.ne_of_gt (blk_lt (g := gb173) (o := .cells #[.string a1_0, .string a1_1, .bool a1_2] 36 (0, 0)) (zk BK173)) : gb174 ≠ gb173)); clear BK172; clear BK173; clear HB; have BK172 := n0_; have BK173 := n1_; have HB := n2_; have BK174 := n3_; have GW174 := n4_; have GE174 := n5_; have NB172_174 := n6_; have NB174_172 := n7_; have NB173_174 := n8_; have NB174_173 := n9_; clear n0_ n1_ n2_ n3_ n4_ n5_ n6_ n7_ n8_ n9_; clear hb hbox hg; have hnb8 := NB173_172.out; have hnc8 := NB172_173.out; have hnb9 := NB173_174.out; have hnc9 := NB174_173.out; have hcz10_0 : w7.cell? ⟨gb173, 0, none⟩ = some (.string a1_0) := (blk_cell BK173.out 0).trans rfl; have hcz10_1 : w7.cell? ⟨gb173, 1, none⟩ = some (.string a1_1) := (blk_cell BK173.out 1).trans rfl; have hcz10_2 : w7.cell? ⟨gb173, 2, none⟩ = some (.bool a1_2) := (blk_cell BK173.out 2).trans rfl; have hfz10_0 := blk_frozen BK173.out 0; have hfz10_1 := blk_frozen BK173.out 1; have hfz10_2 := blk_frozen BK173.out 2))
  have n0_ : Aside0 ((w7.setCell ⟨gb173, 2, none⟩ (.bool false)).heap[gb172]? = some (.cells #[.slice A0_0 l0_0.length c0_0, .int .i64 a0_1] 25 (0, 0))) := ⟨by (with_reducible repeat (first | refine blk_drewN ?_ _ | refine blk_drew ?_ | refine blk_alloc ?_ _)); refine blk_far ?_ NB172_173.out _; exact zk BK172⟩
  have n1_ : Aside0 ((w7.setCell ⟨gb173, 2, none⟩ (.bool false)).heap[gb173]? = some (.cells #[.string a1_0, .string a1_1, .bool false] 36 (0, 0))) := ⟨by (with_reducible repeat (first | refine blk_drewN ?_ _ | refine blk_drew ?_ | refine blk_alloc ?_ _)); refine blk_put (cs := #[.string a1_0, .string a1_1, .bool a1_2]) ?_ 2 _ rfl; exact zk BK173⟩
  have n2_ : Aside0 ((w7.setCell ⟨gb173, 2, none⟩ (.bool false)).heap[gb174]? = some (.cells #[.slice none 0 0, .int .i64 0] 25 (0, 0))) := ⟨by (with_reducible repeat (first | refine blk_drewN ?_ _ | refine blk_drew ?_ | refine blk_alloc ?_ _)); refine blk_far ?_ NB174_173.out _; exact zk BK174⟩
  have n3_ : Aside0 (Below w.heap.size w (w7.setCell ⟨gb173, 2, none⟩ (.bool false))) := ⟨zb HB⟩
  (try clear BK172)
  (try clear BK173)
  (try clear BK174)
  (try clear HB)
  generalize (w7.setCell ⟨gb173, 2, none⟩ (.bool false)) = w11 at n0_ n1_ n2_ n3_ ⊢
  have BK172 := n0_
  have BK173 := n1_
  have BK174 := n2_
  have HB := n3_
  clear n0_ n1_ n2_ n3_
  have n0_ := Aside0.mk (blk_drew BK172.out)
  have n1_ := Aside0.mk (blk_drew BK173.out)
  have n2_ := Aside0.mk (blk_drew BK174.out)
  have n3_ := Aside0.mk (below_drew1 HB.out)
  clear BK172
  clear BK173
  clear BK174
  clear HB
  have BK172 := n0_
  have BK173 := n1_
  have BK174 := n2_
  have HB := n3_
  clear n0_ n1_ n2_ n3_
  refine start_ (n := 10) (S := fun w' => w'.cell? ⟨gb173, 0, none⟩ = some (.string a1_0) ∧ w'.cell? ⟨gb173, 1, none⟩ = some (.string a1_1) ∧ w'.cell? ⟨gb173, 2, none⟩ = some (.bool false) ∧ w'.cell? ⟨gb172, 0, none⟩ = some (.slice A0_0 l0_0.length c0_0) ∧ w'.cell? ⟨gb172, 1, none⟩ = some (.int .i64 a0_1)) (ds := []) #[false, false, false, false, false, false, false, false, false, false] (by kernel_rfl) rfl rfl ⟨(blk_cell BK173.out 0).trans rfl, (blk_cell BK173.out 1).trans rfl, (blk_cell BK173.out 2).trans rfl, (blk_cell BK172.out 0).trans rfl, (blk_cell BK172.out 1).trans rfl⟩ (fun hHeld => ?_); refine with_tabW spec_l3Add.tab2 spec_l3Add.bits2 (fun HT_ HW_ => ?_)
  generalize w11.drew = w12 at BK172 BK173 BK174 HB hHeld ⊢
  refine pure_ (i := 2) (N := some 8) (v := ?_) (a' := ?_) #[false, false, true, false, false, false, false, false, false, false] rfl rfl (any_of HT_.out (by kernel_rfl)) (fun _ _ _ h => h) (Or.inl ⟨by rfl, ?_⟩) ?_ ?_
  rotate_left
  ·intro w'
   go_simp
   with_reducible rfl
  rotate_left
  ·simp only [Act.put, s1, s2, s3, i64_w, i32_w]
   rfl
  refine pure_ (i := 5) (N := some 11) (v := ?_) (a' := ?_) #[false, false, true, false, false, true, false, false, false, false] rfl rfl (any_of HT_.out (by kernel_rfl)) (fun _ _ _ h => h) (Or.inl ⟨by rfl, ?_⟩) ?_ ?_
  rotate_left
  ·intro w'
   go_simp
   with_reducible rfl
  rotate_left
  ·simp only [Act.put, s1, s2, s3, i64_w, i32_w]
   rfl
  refine take_ (i := 0) (N := some 6) (v := ?_) (a' := ?_) #[true, false, true, false, false, true, false, false, false, false] rfl rfl (take_ofW HT_.out HW_.out (by kernel_rfl)) (fun _ _ _ h => h) (Or.inl ⟨by rfl, ?_⟩) hHeld ?_ ?_
  rotate_left
  ·rintro w' ⟨s0, s1, s2, s3, s4⟩
   go_simp
   with_reducible rfl
  rotate_left
  ·simp only [Act.put, s1, s2, s3, i64_w, i32_w]
   rfl
  refine take_ (i := 3) (N := some 9) (v := ?_) (a' := ?_) #[true, false, true, true, false, true, false, false, false, false] rfl rfl (take_ofW HT_.out HW_.out (by kernel_rfl)) (fun _ _ _ h => h) (Or.inl ⟨by rfl, ?_⟩) hHeld ?_ ?_
  rotate_left
  ·rintro w' ⟨s0, s1, s2, s3, s4⟩
   go_simp
   with_reducible rfl
  rotate_left
  ·simp only [Act.put, s1, s2, s3, i64_w, i32_w]
   rfl
  refine take_ (i := 6) (N := some 12) (v := ?_) (a' := ?_) #[true, false, true, true, false, true, true, false, false, false] rfl rfl (take_ofW HT_.out HW_.out (by kernel_rfl)) (fun _ _ _ h => h) (Or.inl ⟨by rfl, ?_⟩) hHeld ?_ ?_
  rotate_left
  ·rintro w' ⟨s0, s1, s2, s3, s4⟩
   go_simp
   with_reducible rfl
  rotate_left
  ·simp only [Act.put, s1, s2, s3, i64_w, i32_w]
   rfl
  refine one_ (i := 1) (N := some 7) #[true, true, true, true, false, true, true, false, false, false] rfl rfl (one_of HT_.out (by kernel_rfl)) (by decide) (fun K hK => ?_)
  refine Kd.R_lit_step k36 _ 36 ?hg (N := 7) ?hd (xs := ([(⟨a1_0, a1_1, false⟩ : S36)] : List (S36))) (inner := [.string a1_0, .string a1_1, .bool false]) (ok := fun _ => True) (okp := fun _ => True) ?hr ?hp (fun _ hk => hk) trivial (Below.refl _ _) (Nat.le_refl _) (by simp) ?_; (case hd => rfl); (case hg => rfl); (case hr => first | (go_simp; done) | (go_simp; rfl)); (case hp => exact (Reps.c3 (show Kd.M k36 _ _ _ (⟨a1_0, a1_1, false⟩ : S36) [.string a1_0, .string a1_1, .bool false] from (k36_mkM _ _ _ (⟨a1_0, a1_1, false⟩ : S36) )) (Reps.none _ _)))
  intro v176 w13 ho14 hb hg_ hnew_
  clear hg_ hnew_
  (first | rw [← Ny175.out] at ho14 | (simp only [Int.reduceToNat] at ho14; rw [← Ny175.out] at ho14))
  have n0_ := Aside0.mk (Kd.R_lower (Kd.R_newB ho14 (g := gb173) (o := .cells #[.string a1_0, .string a1_1, .bool false] 36 (0, 0)) (zk BK173)) (below_size (zb HB)))
  have n1_ := Aside0.mk (blk_below (g := gb172) (o := .cells #[.slice A0_0 l0_0.length c0_0, .int .i64 a0_1] 25 (0, 0)) (zk BK172) hb)
  have n2_ := Aside0.mk (blk_below (g := gb173) (o := .cells #[.string a1_0, .string a1_1, .bool false] 36 (0, 0)) (zk BK173) hb)
  have n3_ := Aside0.mk (blk_below (g := gb174) (o := .cells #[.slice none 0 0, .int .i64 0] 25 (0, 0)) (zk BK174) hb)
  have n4_ := Aside0.mk (below_step (zb HB) hb)
  clear BK172
  clear BK173
  clear BK174
  clear HB
  have HO177 := n0_
  have BK172 := n1_
  have BK173 := n2_
  have BK174 := n3_
  have HB := n4_
  clear n0_ n1_ n2_ n3_ n4_
  clear hb ho14
  refine hK.out _ _ ⟨(blk_cell BK173.out 0).trans rfl, (blk_cell BK173.out 1).trans rfl, (blk_cell BK173.out 2).trans rfl, (blk_cell BK172.out 0).trans rfl, (blk_cell BK172.out 1).trans rfl⟩ (fun hHeld => ?_)
  clear hK K
  refine norm_ (a' := ?_) ?_ ?_
  rotate_left
  ·show Act.put _ (some 7) _ = _
   simp only [Act.put, s1, s2, s3, i64_w, i32_w]
   rfl
  refine one_ (i := 4) (N := some 10) #[true, true, true, true, true, true, true, false, false, false] rfl rfl (one_of HT_.out (by kernel_rfl)) (by decide) (fun K hK => ?_)
  refine Kd.R_append_rows_step k36 (w0 := w) w.heap.size (by rfl) (.tmp 7) (.tmp 9) 23 36 (.agg #[(.string ⟨#[]⟩), (.string ⟨#[]⟩), (.bool false)]) 40 rfl Try.underlying23 info36 rfl (by decide) (by omega) v176 y175 l0_0 _ _ _ (fun k_ => k_ ≠ gb173) (fun _ => False) rfl rfl ?aO ?aR (fun _ _ h => h) (fun _ h => h.elim) ?aF ?aB ?aS ?aL ?_
  (case aR => repeat (first | exact (Kd.C_below HR0_0.out HB.out) | (with_reducible refine Kd.C_alloc ?_ _) | (with_reducible refine Kd.C_drewN ?_ _) | (with_reducible refine Kd.C_drew ?_)))
  (case aB => exact (zb HB))
  (case aF => exact (fun k_ hk => Kd.freshB (g := gb173) (o := .cells #[.string a1_0, .string a1_1, .bool false] 36 (0, 0)) (zk BK173) k_ hk))
  (case aO => exact (by (with_reducible repeat (first | apply Kd.R_alloc | apply Kd.R_drewN | apply Kd.R_drew)); exact Kd.R_mono HO177.out (fun _ hk => hk.2)))
  (case aS => exact (below_size (zb HB)))
  (case aL => have := LMc3.out; omega)
  intro v179 w15 ho hb hg hat
  rw [← Ny178.out] at ho
  have n0_ := Aside0.mk (blk_grown (g := gb172) (o := .cells #[.slice A0_0 l0_0.length c0_0, .int .i64 a0_1] 25 (0, 0)) (zk BK172) hg (Kd.R_ne HO177.out BK172.out (by decide)))
  have n1_ := Aside0.mk (blk_grown (g := gb173) (o := .cells #[.string a1_0, .string a1_1, .bool false] 36 (0, 0)) (zk BK173) hg (Kd.R_away HO177.out (fun _ hk => hk.2)))
  have n2_ := Aside0.mk (blk_grown (g := gb174) (o := .cells #[.slice none 0 0, .int .i64 0] 25 (0, 0)) (zk BK174) hg (Kd.R_ne HO177.out BK174.out (by decide)))
  have n3_ := Aside0.mk (hb)
  have n4_ := Aside0.mk (ho)
  clear BK172
  clear BK173
  clear BK174
  clear HB
  clear HO177
  have BK172 := n0_
  have BK173 := n1_
  have BK174 := n2_
  have HB := n3_
  have HO180 := n4_
  clear n0_ n1_ n2_ n3_ n4_
  clear ho hb hg hat
  obtain ⟨Ao16, co16, eo16⟩ := Kd.R_slice HO180.out
  (first | subst eo16 | (injection eo16 with f1_ f2_ f3_; have f4_ := f1_.symm; have f5_ := f3_.symm; clear f1_ f2_ f3_; subst f4_; subst f5_))
  refine hK.out _ _ ⟨(blk_cell BK173.out 0).trans rfl, (blk_cell BK173.out 1).trans rfl, (blk_cell BK173.out 2).trans rfl, (blk_cell BK172.out 0).trans rfl, (blk_cell BK172.out 1).trans rfl⟩ (fun hHeld => ?_)
  clear hK K
  refine norm_ (a' := ?_) ?_ ?_
  rotate_left
  ·show Act.put _ (some 10) _ = _
   simp only [Act.put, s1, s2, s3, i64_w, i32_w]
   rfl
  refine pure_ (i := 7) (N := some 13) (v := ?_) (a' := ?_) #[true, true, true, true, true, true, true, true, false, false] rfl rfl (any_of HT_.out (by kernel_rfl)) (fun _ _ _ h => h) (Or.inl ⟨by rfl, ?_⟩) ?_ ?_
  rotate_left
  ·intro w'
   go_simp
   with_reducible rfl
  rotate_left
  ·simp only [Act.put, s1, s2, s3, i64_w, i32_w]
   rfl
  refine one_ (i := 8) (N := some 14) #[true, true, true, true, true, true, true, true, true, false] rfl rfl (one_of HT_.out (by kernel_rfl)) (by decide) (fun K hK => ?_)
  refine goes_ Try.func51 (by kernel_rfl) rfl #[.agg #[.slice Ao16 y178.length co16, .int .i64 a0_1]] (by rfl) rfl rfl zl ?_
  with_reducible refine (spec_l3Fit.calls k _ _ y178 a0_1 t181 t184 _ ?side1 ?side2 A4.out).mono ?_
  (case side1 => repeat (first | exact (Kd.R_reads' HO180.out).2.2 | (with_reducible refine Kd.C_alloc ?_ _) | (with_reducible refine Kd.C_drewN ?_ _) | (with_reducible refine Kd.C_drew ?_)))
  (case side2 => exact (Kd.R_reads' HO180.out).2.1)
  rintro e w17 ⟨v182, rfl, ho0, hb⟩
  refine ⟨_, rfl, ?_⟩
  have n0_ := Aside0.mk (Kd.R_elder' (zr HO180) (Kd.R_base ho0) hb)
  have n1_ := Aside0.mk (Kd.R_lower (Kd.R_newB (Kd.R_new' ho0 (Kd.R_lt (zr HO180))) (g := gb173) (o := .cells #[.string a1_0, .string a1_1, .bool false] 36 (0, 0)) (zk BK173)) (below_size (zb HB)))
  have n2_ := Aside0.mk (blk_below (g := gb172) (o := .cells #[.slice A0_0 l0_0.length c0_0, .int .i64 a0_1] 25 (0, 0)) (zk BK172) hb)
  have n3_ := Aside0.mk (blk_below (g := gb173) (o := .cells #[.string a1_0, .string a1_1, .bool false] 36 (0, 0)) (zk BK173) hb)
  have n4_ := Aside0.mk (blk_below (g := gb174) (o := .cells #[.slice none 0 0, .int .i64 0] 25 (0, 0)) (zk BK174) hb)
  have n5_ := Aside0.mk (below_step (zb HB) hb)
  clear HO180
  clear BK172
  clear BK173
  clear BK174
  clear HB
  have HO180 := n0_
  have HO183 := n1_
  have BK172 := n2_
  have BK173 := n3_
  have BK174 := n4_
  have HB := n5_
  clear n0_ n1_ n2_ n3_ n4_ n5_
  (try clear hb)
  (try clear hb2)
  (try clear hk)
  (try clear hi)
  (try clear ho0)
  obtain ⟨Ao18, co18, eo18⟩ := Kd.R_slice HO183.out
  (first | subst eo18 | (injection eo18 with f1_ f2_ f3_; have f4_ := f1_.symm; have f5_ := f3_.symm; clear f1_ f2_ f3_; subst f4_; subst f5_))
  refine hK.out _ _ ⟨(blk_cell BK173.out 0).trans rfl, (blk_cell BK173.out 1).trans rfl, (blk_cell BK173.out 2).trans rfl, (blk_cell BK172.out 0).trans rfl, (blk_cell BK172.out 1).trans rfl⟩ (fun hHeld => ?_)
  clear hK K
  refine norm_ (a' := ?_) ?_ ?_
  rotate_left
  ·show Act.put _ (some 14) _ = _
   simp only [Act.put, s1, s2, s3, i64_w, i32_w]
   rfl
  refine one_ (i := 9) (N := none) #[true, true, true, true, true, true, true, true, true, true] rfl rfl (one_of HT_.out (by kernel_rfl)) (by decide) (fun K hK => ?_)
  have hs19 : w17.cell? ⟨gb174, 0, none⟩ = some (.slice none 0 0) := (blk_cell BK174.out 0).trans rfl
  have hfs19 := blk_frozen BK174.out 0
  have hns19_0 := NB172_174.out
  have hns19_1 := NB173_174.out
  have hms19_0 := NB174_172.out
  have hms19_1 := NB174_173.out
  have hs20 : w17.cell? ⟨gb174, 1, none⟩ = some (.int .i64 0) := (blk_cell BK174.out 1).trans rfl
  have hfs20 := blk_frozen BK174.out 1
  have hns20_0 := NB172_174.out
  have hns20_1 := NB173_174.out
  have hms20_0 := NB174_172.out
  have hms20_1 := NB174_173.out
  refine skip_ (w1 := ?_) (by rfl) rfl ?_ ?_
  rotate_left
  ·go_simp
   rfl
  refine hK.out _ _ ⟨((cell_far (p := ⟨gb174, _, none⟩) NB173_174.out _).trans (((cell_far (p := ⟨gb174, _, none⟩) NB173_174.out _).trans (hHeld.1)))), ((cell_far (p := ⟨gb174, _, none⟩) NB173_174.out _).trans (((cell_far (p := ⟨gb174, _, none⟩) NB173_174.out _).trans (hHeld.2.1)))), ((cell_far (p := ⟨gb174, _, none⟩) NB173_174.out _).trans (((cell_far (p := ⟨gb174, _, none⟩) NB173_174.out _).trans (hHeld.2.2.1)))), ((cell_far (p := ⟨gb174, _, none⟩) NB172_174.out _).trans (((cell_far (p := ⟨gb174, _, none⟩) NB172_174.out _).trans (hHeld.2.2.2.1)))), ((cell_far (p := ⟨gb174, _, none⟩) NB172_174.out _).trans (((cell_far (p := ⟨gb174, _, none⟩) NB172_174.out _).trans (hHeld.2.2.2.2))))⟩ (fun hHeld => ?_)
  clear hK K
  refine done_ (done_of HT_.out (by kernel_rfl)) ?_
  try go_wp2
  refine bodyPost_ret (results_cell_row rfl _ _ gb174 25 #[.slice Ao18 t181.length co18, .int .i64 t184] (0, 0) _ rfl (by (with_reducible repeat (first | refine blk_drewN ?_ _ | refine blk_drew ?_ | refine blk_alloc ?_ _)); refine blk_put (cs := #[.slice Ao18 t181.length co18, .int .i64 0]) ?_ 1 _ rfl; (with_reducible repeat (first | refine blk_drewN ?_ _ | refine blk_drew ?_ | refine blk_alloc ?_ _)); refine blk_put (cs := #[.slice none 0 0, .int .i64 0]) ?_ 0 _ rfl; exact zk BK174) Try.underlying25 rfl (by kernel_rfl)) rfl ?_
  exact ⟨_, ze, by (with_reducible repeat (first | apply Kd.R_alloc | apply Kd.R_drewN | apply Kd.R_drew)); exact Kd.R_mono (Kd.R_far (p := ⟨gb174, 1, none⟩) (Kd.R_far (p := ⟨gb174, 0, none⟩) (Kd.R_types HO183.out BK174.out (by decide)) (fun _ hk => hk.2) (.slice Ao18 t181.length co18)) (fun _ hk => hk.2) (.int .i64 t184)) (fun _ hk => trivial), zb HB⟩
 ·rw [if_neg c3] at H
  exact absurd H (by simp)

/-! ### spec_l71Table: function 46 -/
def spec_l71Table.l0 : Nat → Int → List Int → Int → List (S36) → Int → Option ((List (S36)) × Int × Int)
 | 0, _, _, _, _, _ => none
 | k + 1, x4, x1000, x1001, x196000, x196001 => if x4 > 0 then ((spec_l71Field.f k x1000 x1001).bind fun bt198 => ((spec_FieldOk.f k bt198.1 bt198.2.1 bt198.2.2.1).bind fun t203 => (if t203 = true then ((spec_l3Add.f k x196000 x196001 bt198.1 bt198.2.1 bt198.2.2.1).bind fun bt204 => (spec_l71Table.l0 k (wrap64 (x4 - 1)) x1000 bt198.2.2.2 bt204.1 bt204.2)) else (spec_l71Table.l0 k (wrap64 (x4 - 1)) x1000 bt198.2.2.2 x196000 x196001)))) else ((spec_l6Rd_pick.f k x1000 x1001 24).bind fun bt208 => (if bt208.1 = 0 then ((some (([(-1), 65, 3] : List Int) : List Int)).bind fun y210 => ((spec_l6Rd_pick.f k x1000 bt208.2 3).bind fun bt213 => (if 0 ≤ bt213.1 then (if bt213.1 < (y210.length : Int) then (some (x196000, rd y210 bt213.1, bt213.2)) else (none)) else (none)))) else (if bt208.1 = 1 then ((spec_l71Field.f k x1000 bt208.2).bind fun bt216 => ((spec_l71Field.f k x1000 bt216.2.2.2).bind fun bt220 => ((spec_l71Field.f k x1000 bt220.2.2.2).bind fun bt224 => ((some (([(⟨bt216.1, bt216.2.1, bt216.2.2.1⟩ : S36), (⟨bt220.1, bt220.2.1, bt220.2.2.1⟩ : S36), (⟨bt224.1, bt224.2.1, bt224.2.2.1⟩ : S36)] : List (S36)) : List (S36))).bind fun y228 => (if x196000.length + y228.length < 3518437208883 then (some ((x196000 ++ y228), x196001, bt224.2.2.2)) else (none)))))) else (some (x196000, x196001, bt208.2)))))
def spec_l71Table.f (k : Nat) (s0_0 : List Int) (s0_1 : Int) : Option ((List (S36)) × Int × Int) := (some (([64, 64, 40, 20, 0] : List Int) : List Int)).bind fun y189 => ((spec_l6Rd_pick.f k s0_0 s0_1 5).bind fun bt192 => (if 0 ≤ bt192.1 then (if bt192.1 < (y189.length : Int) then ((spec_l6Rd_pick.f k s0_0 bt192.2 7).bind fun bt196 => (spec_l71Table.l0 k bt196.1 s0_0 bt196.2 (([] : List (S36))) (rd y189 bt192.1))) else (none)) else (none)))
theorem spec_l71Table.mono_l : ∀ k, (∀ y0 y1 y2 y3 y4, LeO (spec_l71Table.l0 k y0 y1 y2 y3 y4) (spec_l71Table.l0 (k + 1) y0 y1 y2 y3 y4))
 | 0 => fun _ _ _ _ _ r h => by simp [spec_l71Table.l0] at h
 | k + 1 => by
  have ih0 := spec_l71Table.mono_l k
  ·intro y0 y1 y2 y3 y4
   unfold spec_l71Table.l0
   repeat' first
   | (with_reducible exact ih0 _ _ _ _ _)
   | (with_reducible exact spec_FieldOk.mono _ _ _ _)
   | (with_reducible exact spec_l3Add.mono _ _ _ _ _ _)
   | (with_reducible exact spec_l6Rd_pick.mono _ _ _ _)
   | (with_reducible exact spec_l71Field.mono _ _ _)
   | (with_reducible exact LeO.refl _)
   | (with_reducible exact LeO.none _)
   | (with_reducible refine LeO.ite ?_ ?_)
   | (with_reducible refine LeO.bind ?_ (fun _ => ?_))
   | exact ih0 _ _ _ _ _
   | exact spec_FieldOk.mono _ _ _ _
   | exact spec_l3Add.mono _ _ _ _ _ _
   | exact spec_l6Rd_pick.mono _ _ _ _
   | exact spec_l71Field.mono _ _ _
   | exact LeO.none _
   | refine LeO.ite ?_ ?_
   | refine LeO.bind ?_ (fun _ => ?_)
theorem spec_l71Table.mono : ∀ a0 a1 k, LeO (spec_l71Table.f k a0 a1) (spec_l71Table.f (k + 1) a0 a1) := by
 intro a0 a1 k
 have ih0 := spec_l71Table.mono_l k
 unfold spec_l71Table.f
 repeat' first
   | (with_reducible exact ih0 _ _ _ _ _)
   | (with_reducible exact spec_FieldOk.mono _ _ _ _)
   | (with_reducible exact spec_l3Add.mono _ _ _ _ _ _)
   | (with_reducible exact spec_l6Rd_pick.mono _ _ _ _)
   | (with_reducible exact spec_l71Field.mono _ _ _)
   | (with_reducible exact LeO.refl _)
   | (with_reducible exact LeO.none _)
   | (with_reducible refine LeO.ite ?_ ?_)
   | (with_reducible refine LeO.bind ?_ (fun _ => ?_))
   | exact ih0 _ _ _ _ _
   | exact spec_FieldOk.mono _ _ _ _
   | exact spec_l3Add.mono _ _ _ _ _ _
   | exact spec_l6Rd_pick.mono _ _ _ _
   | exact spec_l71Field.mono _ _ _
   | exact LeO.none _
   | refine LeO.ite ?_ ?_
   | refine LeO.bind ?_ (fun _ => ?_)
def spec_l71Table.T12 : Bool × List (List Nat × List Nat) := (true, [([], []), ([0], [0]), ([], []), ([2], [2]), ([], []), ([4, 3], [4]), ([], []), ([6, 5], [6]), ([3, 5, 7], [3, 5, 7]), ([1, 8, 7], [1, 8]), ([0, 1, 2, 3, 4, 5, 6, 7, 8, 9], []), ([10, 9, 9, 0, 1, 2, 3, 4, 5, 6, 7, 8, 9], [9, 10])])
def spec_l71Table.B12 : List Nat := [0, 1, 0, 4, 0, 28, 0, 124, 252, 511, 1023, 2047]
theorem spec_l71Table.tab12 : rtab .any (opsOf Try.f46 12) = spec_l71Table.T12 := by kernel_rfl
theorem spec_l71Table.bits12 : waitsOk spec_l71Table.T12.2 spec_l71Table.B12 = true := by kernel_rfl
set_option maxHeartbeats 8000000 in
set_option maxRecDepth 100000 in
theorem spec_l71Table.calls (k : Nat) (g : Nat) (s0_0 : List Int) (s0_1 : Int) (r1 : List (S36)) (r2 : Int) (r3 : Int) (w0 w : World) (hI : IsS85 w0 w g s0_0 s0_1) (hB : Below w0.heap.size w0 w) (h : spec_l71Table.f k s0_0 s0_1 = some (r1, r2, r3)) :
  Calls Try.prog 46 #[.pointer (some ⟨g, 0, none⟩)] w fun e w' => ∃ v0_ : Value, e = .returned (.agg #[v0_, .int .i64 r2]) ∧ Kd.R k36 36 w' w.heap.size (fun _ => True) v0_ r1 ∧ IsS85 w0 w' g s0_0 r3 ∧ Below w0.heap.size w0 w' ∧ KeepBut w w' g none := by
 have hu25 := Try.underlying25
 have hu36 := Try.underlying36
 have HI0 := Aside0.mk hI
 have HK := Aside0.mk (KeepBut.refl w g none)
 have HL := Aside0.mk hB.size
 clear hI
 have HW0 := Aside0.mk hB.size
 have HB := Aside0.mk hB
 clear hB
 have H : ((some (([64, 64, 40, 20, 0] : List Int) : List Int)).bind fun y189 => ((spec_l6Rd_pick.f k s0_0 s0_1 5).bind fun bt192 => (if 0 ≤ bt192.1 then (if bt192.1 < (y189.length : Int) then ((spec_l6Rd_pick.f k s0_0 bt192.2 7).bind fun bt196 => (spec_l71Table.l0 k bt196.1 s0_0 bt196.2 (([] : List (S36))) (rd y189 bt192.1))) else (none)) else (none)))) = some (r1, r2, r3) := h
 clear h
 obtain ⟨y186, hy186⟩ : ∃ y_ : List (S36), y_ = (([] : List (S36))) := ⟨_, rfl⟩
 replace H : ((some (([64, 64, 40, 20, 0] : List Int) : List Int)).bind fun y189 => ((spec_l6Rd_pick.f k s0_0 s0_1 5).bind fun bt192 => (if 0 ≤ bt192.1 then (if bt192.1 < (y189.length : Int) then ((spec_l6Rd_pick.f k s0_0 bt192.2 7).bind fun bt196 => (spec_l71Table.l0 k bt196.1 s0_0 bt196.2 y186 (rd y189 bt192.1))) else (none)) else (none)))) = some (r1, r2, r3) := by first | (rw [hy186]; with_reducible exact H) | (have H2_ := (Option.bind_some _ _).symm.trans H; rw [hy186]; with_reducible exact H2_) | (have H2_ := (Option.bind_some _ _).symm.trans H; with_reducible exact H2_) | with_reducible exact H | (rw [hy186]; exact H) | exact H
 have Ny186 := Aside0.mk hy186
 clear hy186
 obtain ⟨y189, hy189⟩ : ∃ y_ : List Int, y_ = (([64, 64, 40, 20, 0] : List Int)) := ⟨_, rfl⟩
 replace H : ((spec_l6Rd_pick.f k s0_0 s0_1 5).bind fun bt192 => (if 0 ≤ bt192.1 then (if bt192.1 < (y189.length : Int) then ((spec_l6Rd_pick.f k s0_0 bt192.2 7).bind fun bt196 => (spec_l71Table.l0 k bt196.1 s0_0 bt196.2 y186 (rd y189 bt192.1))) else (none)) else (none))) = some (r1, r2, r3) := by first | (rw [hy189]; with_reducible exact H) | (have H2_ := (Option.bind_some _ _).symm.trans H; rw [hy189]; with_reducible exact H2_) | (have H2_ := (Option.bind_some _ _).symm.trans H; with_reducible exact H2_) | with_reducible exact H | (rw [hy189]; exact H) | exact H
 have Ny189 := Aside0.mk hy189
 clear hy189
 replace H := Option.bind_eq_some_iff.mp H
 obtain ⟨⟨t192, t193⟩, A20, H⟩ := H
 replace H : (if 0 ≤ t192 then (if t192 < (y189.length : Int) then ((spec_l6Rd_pick.f k s0_0 t193 7).bind fun bt196 => (spec_l71Table.l0 k bt196.1 s0_0 bt196.2 y186 (rd y189 t192))) else (none)) else (none)) = some (r1, r2, r3) := H
 have A2 := Aside0.mk A20
 clear A20
 by_cases c3 : 0 ≤ t192
 ·rw [if_pos c3] at H
  have c3b0 : decide (0 ≤ t192) = true := decide_eq_true c3
  clear c3
  by_cases c4 : t192 < (y189.length : Int)
  ·rw [if_pos c4] at H
   have c4b0 : decide (t192 < (y189.length : Int)) = true := decide_eq_true c4
   clear c4
   replace H := Option.bind_eq_some_iff.mp H
   obtain ⟨⟨t196, t197⟩, A50, H⟩ := H
   replace H : (spec_l71Table.l0 k t196 s0_0 t197 y186 (rd y189 t192)) = some (r1, r2, r3) := H
   have A5 := Aside0.mk A50
   clear A50
   have H' := Aside0.mk H
   clear H
   go_enter Try.func46, Try.ntmps46
   go_wp2_with (first | ((with_reducible refine gate_dst (N := 2) rfl ?_); refine box_event ?hg (N := 2) ?hd (cs := #[.slice none 0 0, .int .i64 0]) (t := 25) ?hr ?_; (case hd => rfl); (case hg => rfl); (case hr => first | (go_simp; done) | (go_simp; rfl)); intro gb185 hg w6 hbox hb; have n0_ := Aside0.mk (IsS85.below (by repeat (first | (with_reducible first | exact HI0.out | apply IsS85.alloc | apply IsS85.drewN | apply IsS85.drew | apply IsS85.set_1) | exact HI0.out)) hb); have n1_ := Aside0.mk (KeepBut.trans (zh HK) (KeepBut.of_below hb g none) (.inl rfl)); have n2_ := Aside0.mk (below_step (by repeat (first | (with_reducible first | exact HB.out | apply below_alloc | apply pw_below_drewN | apply below_drew1 | refine below_set ?_ (IsS85.ge HI0.out)) | exact HB.out)) hb); have n3_ := Aside0.mk (hbox); have n4_ := Aside0.mk ((by rw [hg]; exact (keep_size (w := w) (g := g) (row := none) (zh HK)) : w.heap.size ≤ gb185)); have n5_ := Aside0.mk ((Nat.le_trans HW0.out (by rw [hg]; exact (keep_size (w := w) (g := g) (row := none) (zh HK)) : w.heap.size ≤ gb185) : w0.heap.size ≤ gb185)); have n6_ := Aside0.mk ((by rw [hg]; exact Nat.ne_of_lt (IsS85.lt (show IsS85 w0 _ g s0_0 s0_1 from by repeat (first | (with_reducible first | exact HI0.out | apply IsS85.alloc | apply IsS85.drewN | apply IsS85.drew | apply IsS85.set_1) | exact HI0.out))) : g ≠ gb185)); have n7_ := Aside0.mk ((by rw [hg]; exact Nat.ne_of_gt (IsS85.lt (show IsS85 w0 _ g s0_0 s0_1 from by repeat (first | (with_reducible first | exact HI0.out | apply IsS85.alloc | apply IsS85.drewN | apply IsS85.drew | apply IsS85.set_1) | exact HI0.out))) : gb185 ≠ g)); clear HI0; clear HK; clear HB; have HI0 := n0_; have HK := n1_; have HB := n2_; have BK185 := n3_; have GW185 := n4_; have GE185 := n5_; have NB0_185 := n6_; have NB185_0 := n7_; clear n0_ n1_ n2_ n3_ n4_ n5_ n6_ n7_; clear hb hbox hg) | ((with_reducible refine gate_dst (N := 6) rfl ?_); refine Kd.R_lit k36 _ 36 ?hg (N := 6) ?hd (xs := ([] : List (S36))) (inner := []) (ok := fun _ => True) (okp := fun _ => True) ?hr ?hp (fun _ hk => hk) trivial (Below.refl _ _) (Nat.le_refl _) (by simp) ?_; (case hd => rfl); (case hg => rfl); (case hr => first | (go_simp; done) | (go_simp; rfl)); (case hp => exact (Reps.none _ _)); intro v187 w7 ho8 hb hg_ hnew_; clear hg_ hnew_; (first | rw [← Ny186.out] at ho8 | (simp only [Int.reduceToNat] at ho8; rw [← Ny186.out] at ho8)); have n0_ := Aside0.mk (Kd.R_lower ho8 (keep_size (w := w) (g := g) (row := none) (zh HK))); have n1_ := Aside0.mk (IsS85.below (by repeat (first | (with_reducible first | exact HI0.out | apply IsS85.alloc | apply IsS85.drewN | apply IsS85.drew | apply IsS85.set_1 | refine IsS85.far ?_ NB0_185.out _) | exact HI0.out)) hb); have n2_ := Aside0.mk (blk_below (g := gb185) (o := .cells #[.slice none 0 0, .int .i64 0] 25 (0, 0)) (zk BK185) hb); have n3_ := Aside0.mk (KeepBut.trans (zh HK) (KeepBut.of_below hb g none) (.inl rfl)); have n4_ := Aside0.mk (below_step (by repeat (first | (with_reducible first | exact HB.out | apply below_alloc | apply pw_below_drewN | apply below_drew1 | refine below_set ?_ (IsS85.ge HI0.out) | refine below_set ?_ GE185.out) | exact HB.out)) hb); clear HI0; clear BK185; clear HK; clear HB; have HO188 := n0_; have HI0 := n1_; have BK185 := n2_; have HK := n3_; have HB := n4_; clear n0_ n1_ n2_ n3_ n4_; clear hb ho8) | ((with_reducible refine gate_dst (N := 7) rfl ?_); refine Kd.R_lit (Kd.int .i64) _ 3 ?hg (N := 7) ?hd (xs := ([64, 64, 40, 20, 0] : List Int)) (inner := [.int .i64 64, .int .i64 64, .int .i64 40, .int .i64 20, .int .i64 0]) (ok := fun _ => True) (okp := fun _ => True) ?hr ?hp (fun _ hk => hk) trivial (Below.refl _ _) (Nat.le_refl _) (by simp) ?_; (case hd => rfl); (case hg => rfl); (case hr => first | (go_simp; done) | (go_simp; rfl)); (case hp => exact (Reps.one (show Kd.M (Kd.int .i64) _ _ _ 64 [.int .i64 64] from rfl) (Reps.one (show Kd.M (Kd.int .i64) _ _ _ 64 [.int .i64 64] from rfl) (Reps.one (show Kd.M (Kd.int .i64) _ _ _ 40 [.int .i64 40] from rfl) (Reps.one (show Kd.M (Kd.int .i64) _ _ _ 20 [.int .i64 20] from rfl) (Reps.one (show Kd.M (Kd.int .i64) _ _ _ 0 [.int .i64 0] from rfl) (Reps.none _ _))))))); intro v190 w9 ho10 hb hg_ hnew_; clear hg_ hnew_; (first | rw [← Ny189.out] at ho10 | (simp only [Int.reduceToNat] at ho10; rw [← Ny189.out] at ho10)); have n0_ := Aside0.mk (Kd.R_below (zr HO188) hb); have n1_ := Aside0.mk (Kd.R_lower ho10 (keep_size (w := w) (g := g) (row := none) (zh HK))); have n2_ := Aside0.mk (IsS85.below (by repeat (first | (with_reducible first | exact HI0.out | apply IsS85.alloc | apply IsS85.drewN | apply IsS85.drew | apply IsS85.set_1 | refine IsS85.far ?_ NB0_185.out _) | exact HI0.out)) hb); have n3_ := Aside0.mk (blk_below (g := gb185) (o := .cells #[.slice none 0 0, .int .i64 0] 25 (0, 0)) (zk BK185) hb); have n4_ := Aside0.mk (KeepBut.trans (zh HK) (KeepBut.of_below hb g none) (.inl rfl)); have n5_ := Aside0.mk (below_step (by repeat (first | (with_reducible first | exact HB.out | apply below_alloc | apply pw_below_drewN | apply below_drew1 | refine below_set ?_ (IsS85.ge HI0.out) | refine below_set ?_ GE185.out) | exact HB.out)) hb); clear HO188; clear HI0; clear BK185; clear HK; clear HB; have HO188 := n0_; have HO191 := n1_; have HI0 := n2_; have BK185 := n3_; have HK := n4_; have HB := n5_; clear n0_ n1_ n2_ n3_ n4_ n5_; clear hb ho10) | ((with_reducible refine gate_callee (f := 47) rfl ?_); refine goesL_ (some 9) rfl rfl Try.func47 (by kernel_rfl) rfl #[.pointer (some ⟨g, 0, none⟩), .int .i64 5] rfl zl ?_; (with_reducible refine (spec_l6Rd_pick.calls k g s0_0 s0_1 5 t192 t193 w0 _ ?side1 ?side2 A2.out).mono ?_); (case side1 => repeat (first | (with_reducible first | exact HI0.out | apply IsS85.alloc | apply IsS85.drewN | apply IsS85.drew | apply IsS85.set_1 | refine IsS85.far ?_ NB0_185.out _) | exact HI0.out)); (case side2 => repeat (first | (with_reducible first | exact HB.out | apply below_alloc | apply pw_below_drewN | apply below_drew1 | refine below_set ?_ (IsS85.ge HI0.out) | refine below_set ?_ GE185.out) | exact HB.out)); rintro e w11 ⟨rfl, hi, hb, hk⟩; refine ⟨_, rfl, ?_⟩; have n0_ := Aside0.mk (KeepBut.blk hk (g' := gb185) (o := .cells #[.slice none 0 0, .int .i64 0] 25 (0, 0)) (zk BK185) NB185_0.out (by simp)); have n1_ := Aside0.mk (Kd.R_mono (Kd.R_keep (IsS85.apart (show IsS85 w0 _ g s0_0 s0_1 from by repeat (first | (with_reducible first | exact HI0.out | apply IsS85.alloc | apply IsS85.drewN | apply IsS85.drew | apply IsS85.set_1 | refine IsS85.far ?_ NB0_185.out _) | exact HI0.out)) (zr HO188) (by decide)) hk (fun _ h => h.2)) (fun _ h => h.1)); have n2_ := Aside0.mk (Kd.R_mono (Kd.R_keep (IsS85.apart (show IsS85 w0 _ g s0_0 s0_1 from by repeat (first | (with_reducible first | exact HI0.out | apply IsS85.alloc | apply IsS85.drewN | apply IsS85.drew | apply IsS85.set_1 | refine IsS85.far ?_ NB0_185.out _) | exact HI0.out)) (zr HO191) (by decide)) hk (fun _ h => h.2)) (fun _ h => h.1)); have n3_ := Aside0.mk (KeepBut.trans (zh HK) hk (.inl rfl)); have n4_ := Aside0.mk (hb); have n5_ := Aside0.mk (hi); clear BK185; clear HO188; clear HO191; clear HK; clear HB; clear HI0; have BK185 := n0_; have HO188 := n1_; have HO191 := n2_; have HK := n3_; have HB := n4_; have HI0 := n5_; clear n0_ n1_ n2_ n3_ n4_ n5_; (try clear hb); (try clear hb2); (try clear hk); (try clear hi); obtain ⟨Ao12, co12, eo12⟩ := Kd.R_slice HO191.out; subst eo12; have p194 : 0 ≤ (t192 : Int) := of_decide_eq_true za; have q194 : t192 < (y189.length : Int) := of_decide_eq_true za; obtain ⟨ad194, e194, hx194_0⟩ := Kd.at_int (Kd.R_reads' HO191.out).2.2 t192 p194 q194; cases e194; replace p194 := eq_true p194; replace q194 := eq_true q194; obtain ⟨Ao13, co13, eo13⟩ := Kd.R_slice HO188.out; subst eo13) | ((with_reducible refine gate_dst (N := 3) rfl ?_); refine box_event ?hg (N := 3) ?hd (cs := #[.slice none 0 0, .int .i64 0]) (t := 25) ?hr ?_; (case hd => rfl); (case hg => rfl); (case hr => first | (go_simp; done) | (go_simp; rfl)); intro gb195 hg w14 hbox hb; have n0_ := Aside0.mk (Kd.R_below (zr HO188) hb); have n1_ := Aside0.mk (Kd.R_below (zr HO191) hb); have n2_ := Aside0.mk (IsS85.below (by repeat (first | (with_reducible first | exact HI0.out | apply IsS85.alloc | apply IsS85.drewN | apply IsS85.drew | apply IsS85.set_1 | refine IsS85.far ?_ NB0_185.out _) | exact HI0.out)) hb); have n3_ := Aside0.mk (blk_below (g := gb185) (o := .cells #[.slice none 0 0, .int .i64 0] 25 (0, 0)) (zk BK185) hb); have n4_ := Aside0.mk (KeepBut.trans (zh HK) (KeepBut.of_below hb g none) (.inl rfl)); have n5_ := Aside0.mk (below_step (by repeat (first | (with_reducible first | exact HB.out | apply below_alloc | apply pw_below_drewN | apply below_drew1 | refine below_set ?_ (IsS85.ge HI0.out) | refine below_set ?_ GE185.out) | exact HB.out)) hb); have n6_ := Aside0.mk (hbox); have n7_ := Aside0.mk ((by rw [hg]; exact (keep_size (w := w) (g := g) (row := none) (zh HK)) : w.heap.size ≤ gb195)); have n8_ := Aside0.mk ((Nat.le_trans HW0.out (by rw [hg]; exact (keep_size (w := w) (g := g) (row := none) (zh HK)) : w.heap.size ≤ gb195) : w0.heap.size ≤ gb195)); have n9_ := Aside0.mk ((by rw [hg]; exact Nat.ne_of_lt (blk_lt (g := gb185) (o := .cells #[.slice none 0 0, .int .i64 0] 25 (0, 0)) (zk BK185)) : gb185 ≠ gb195)); have n10_ := Aside0.mk ((by rw [hg]; exact Nat.ne_of_gt (blk_lt (g := gb185) (o := .cells #[.slice none 0 0, .int .i64 0] 25 (0, 0)) (zk BK185)) : gb195 ≠ gb185)); have n11_ := Aside0.mk ((by rw [hg]; exact Nat.ne_of_lt (IsS85.lt (show IsS85 w0 _ g s0_0 t193 from by repeat (first | (with_reducible first | exact HI0.out | apply IsS85.alloc | apply IsS85.drewN | apply IsS85.drew | apply IsS85.set_1 | refine IsS85.far ?_ NB0_185.out _) | exact HI0.out))) : g ≠ gb195)); have n12_ := Aside0.mk ((by rw [hg]; exact Nat.ne_of_gt (IsS85.lt (show IsS85 w0 _ g s0_0 t193 from by repeat (first | (with_reducible first | exact HI0.out | apply IsS85.alloc | apply IsS85.drewN | apply IsS85.drew | apply IsS85.set_1 | refine IsS85.far ?_ NB0_185.out _) | exact HI0.out))) : gb195 ≠ g)); clear HO188; clear HO191; clear HI0; clear BK185; clear HK; clear HB; have HO188 := n0_; have HO191 := n1_; have HI0 := n2_; have BK185 := n3_; have HK := n4_; have HB := n5_; have BK195 := n6_; have GW195 := n7_; have GE195 := n8_; have NB185_195 := n9_; have NB195_185 := n10_; have NB0_195 := n11_; have NB195_0 := n12_; clear n0_ n1_ n2_ n3_ n4_ n5_ n6_ n7_ n8_ n9_ n10_ n11_ n12_; clear hb hbox hg; have hnb15 := NB195_185.out; have hnc15 := NB185_195.out; have hnb16 := NB195_0.out; have hnc16 := NB0_195.out; have hcz17_0 : w14.cell? ⟨gb195, 0, none⟩ = some (.slice none 0 0) := (blk_cell BK195.out 0).trans rfl; have hcz17_1 : w14.cell? ⟨gb195, 1, none⟩ = some (.int .i64 0) := (blk_cell BK195.out 1).trans rfl; have hfz17_0 := blk_frozen BK195.out 0; have hfz17_1 := blk_frozen BK195.out 1) | ((with_reducible refine gate_callee (f := 47) rfl ?_); refine goesL_ (some 14) rfl rfl Try.func47 (by kernel_rfl) rfl #[.pointer (some ⟨g, 0, none⟩), .int .i64 7] rfl zl ?_; (with_reducible refine (spec_l6Rd_pick.calls k g s0_0 t193 7 t196 t197 w0 _ ?side1 ?side2 A5.out).mono ?_); (case side1 => repeat (first | (with_reducible first | exact HI0.out | apply IsS85.alloc | apply IsS85.drewN | apply IsS85.drew | apply IsS85.set_1 | refine IsS85.far ?_ NB0_185.out _ | refine IsS85.far ?_ NB0_195.out _) | exact HI0.out)); (case side2 => repeat (first | (with_reducible first | exact HB.out | apply below_alloc | apply pw_below_drewN | apply below_drew1 | refine below_set ?_ (IsS85.ge HI0.out) | refine below_set ?_ GE185.out | refine below_set ?_ GE195.out) | exact HB.out)); rintro e w18 ⟨rfl, hi, hb, hk⟩; refine ⟨_, rfl, ?_⟩; have n0_ := Aside0.mk (KeepBut.blk hk (g' := gb185) (o := .cells #[.slice none 0 0, .int .i64 0] 25 (0, 0)) (by (with_reducible repeat (first | refine blk_drewN ?_ _ | refine blk_drew ?_ | refine blk_alloc ?_ _)); refine blk_far ?_ NB185_195.out _; (with_reducible repeat (first | refine blk_drewN ?_ _ | refine blk_drew ?_ | refine blk_alloc ?_ _)); refine blk_far ?_ NB185_195.out _; exact zk BK185) NB185_0.out (by simp)); have n1_ := Aside0.mk (Kd.R_mono (Kd.R_keep (IsS85.apart (show IsS85 w0 _ g s0_0 t193 from by repeat (first | (with_reducible first | exact HI0.out | apply IsS85.alloc | apply IsS85.drewN | apply IsS85.drew | apply IsS85.set_1 | refine IsS85.far ?_ NB0_185.out _ | refine IsS85.far ?_ NB0_195.out _) | exact HI0.out)) (by (with_reducible repeat (first | apply Kd.R_alloc | apply Kd.R_drewN | apply Kd.R_drew)); exact (Kd.R_mono (Kd.R_far (p := ⟨gb195, 1, none⟩) (Kd.R_far (p := ⟨gb195, 0, none⟩) (Kd.R_types HO188.out BK195.out (by decide)) (fun _ hk => hk.2) (.slice Ao13 y186.length co13)) (fun _ hk => hk.2) (.int .i64 (rd y189 t192))) (fun _ h_ => h_.1))) (by decide)) hk (fun _ h => h.2)) (fun _ h => h.1)); have n2_ := Aside0.mk (Kd.R_mono (Kd.R_keep (IsS85.apart (show IsS85 w0 _ g s0_0 t193 from by repeat (first | (with_reducible first | exact HI0.out | apply IsS85.alloc | apply IsS85.drewN | apply IsS85.drew | apply IsS85.set_1 | refine IsS85.far ?_ NB0_185.out _ | refine IsS85.far ?_ NB0_195.out _) | exact HI0.out)) (by (with_reducible repeat (first | apply Kd.R_alloc | apply Kd.R_drewN | apply Kd.R_drew)); exact (Kd.R_mono (Kd.R_far (p := ⟨gb195, 1, none⟩) (Kd.R_far (p := ⟨gb195, 0, none⟩) (Kd.R_types HO191.out BK195.out (by decide)) (fun _ hk => hk.2) (.slice Ao13 y186.length co13)) (fun _ hk => hk.2) (.int .i64 (rd y189 t192))) (fun _ h_ => h_.1))) (by decide)) hk (fun _ h => h.2)) (fun _ h => h.1)); have n3_ := Aside0.mk (KeepBut.blk hk (g' := gb195) (o := .cells #[.slice Ao13 y186.length co13, .int .i64 (rd y189 t192)] 25 (0, 0)) (by (with_reducible repeat (first | refine blk_drewN ?_ _ | refine blk_drew ?_ | refine blk_alloc ?_ _)); refine blk_put (cs := #[.slice Ao13 y186.length co13, .int .i64 0]) ?_ 1 _ rfl; (with_reducible repeat (first | refine blk_drewN ?_ _ | refine blk_drew ?_ | refine blk_alloc ?_ _)); refine blk_put (cs := #[.slice none 0 0, .int .i64 0]) ?_ 0 _ rfl; exact zk BK195) NB195_0.out (by simp)); have n4_ := Aside0.mk (KeepBut.trans (zh HK) hk (.inl rfl)); have n5_ := Aside0.mk (hb); have n6_ := Aside0.mk (hi); clear BK185; clear HO188; clear HO191; clear BK195; clear HK; clear HB; clear HI0; have BK185 := n0_; have HO188 := n1_; have HO191 := n2_; have BK195 := n3_; have HK := n4_; have HB := n5_; have HI0 := n6_; clear n0_ n1_ n2_ n3_ n4_ n5_ n6_; (try clear hb); (try clear hb2); (try clear hk); (try clear hi)))
   go_loopg [4] k (fun kq v4 w' => ∃ (x4_1 : Int) (x1001_1 : Int) (x196000_1 : List (S36)) (x196001_1 : Int) (u196000 : Value), v4 = .int .i64 x4_1 ∧ Aside0 (spec_l71Table.l0 kq x4_1 s0_0 x1001_1 x196000_1 x196001_1 = some (r1, r2, r3)) ∧ Aside0 (kq ≤ k) ∧ Aside0 (Kd.R k36 36 w' w.heap.size (fun _ => True) u196000 x196000_1) ∧ Aside0 (w'.heap[gb185]? = some (.cells #[(.slice none 0 0), .int .i64 0] 25 (0, 0))) ∧ Aside0 (w'.heap[gb195]? = some (.cells #[u196000, .int .i64 x196001_1] 25 (0, 0))) ∧ Aside0 (IsS85 w0 w' g s0_0 x1001_1) ∧ Aside0 (KeepBut w w' g none) ∧ Aside0 (Below w0.heap.size w0 w'))
   case atStart => exact ⟨(t196), (t197), (y186), (rd y189 t192), (.slice Ao13 y186.length co13), zs, H', ⟨Nat.le_refl _⟩, ⟨by exact zr HO188⟩, ⟨by exact zk BK185⟩, ⟨by exact zk BK195⟩, ⟨by repeat (first | (with_reducible first | exact HI0.out | apply IsS85.alloc | apply IsS85.drewN | apply IsS85.drew | apply IsS85.set_1 | refine IsS85.far ?_ NB0_185.out _ | refine IsS85.far ?_ NB0_195.out _) | exact HI0.out)⟩, ⟨zh HK⟩, ⟨by repeat (first | (with_reducible first | exact HB.out | apply below_alloc | apply pw_below_drewN | apply below_drew1 | refine below_set ?_ (IsS85.ge HI0.out) | refine below_set ?_ GE185.out | refine below_set ?_ GE195.out) | exact HB.out)⟩⟩
   case round =>
    clear H'
    try clear c1
    try clear p1
    try clear q1
    try clear hx1
    try clear p2
    try clear c3
    try clear c3b0
    try clear c4
    try clear c4b0
    try clear c15
    try clear c16
    try clear hcz17_0
    try clear hcz17_1
    try clear hfz17_0
    try clear hfz17_1
    try clear hx194_0
    try clear p194
    try clear q194
    obtain ⟨x4_1, x1001_1, x196000_1, x196001_1, u196000, rfl, HA, HK1, HO_196000, BK185, BK195, HI0, HK, HB⟩ := hrel
    cases gk with
    | zero => exact absurd HA.out (by simp [spec_l71Table.l0])
    | succ k1 =>
     have H := HA.out
     clear HA
     simp only [spec_l71Table.l0] at H
     by_cases c19 : x4_1 > 0
     ·rw [if_pos c19] at H
      have c19b0 : decide (0 < x4_1) = true := decide_eq_true c19
      clear c19
      replace H := Option.bind_eq_some_iff.mp H
      obtain ⟨⟨t198, t199, t200, t201⟩, A200, H⟩ := H
      replace H : ((spec_FieldOk.f k1 t198 t199 t200).bind fun t203 => (if t203 = true then ((spec_l3Add.f k1 x196000_1 x196001_1 t198 t199 t200).bind fun bt204 => (spec_l71Table.l0 k1 (wrap64 (x4_1 - 1)) s0_0 t201 bt204.1 bt204.2)) else (spec_l71Table.l0 k1 (wrap64 (x4_1 - 1)) s0_0 t201 x196000_1 x196001_1))) = some (r1, r2, r3) := H
      have A20 := Aside0.mk A200
      clear A200
      replace H := Option.bind_eq_some_iff.mp H
      obtain ⟨t203, A210, H⟩ := H
      replace H : (if t203 = true then ((spec_l3Add.f k1 x196000_1 x196001_1 t198 t199 t200).bind fun bt204 => (spec_l71Table.l0 k1 (wrap64 (x4_1 - 1)) s0_0 t201 bt204.1 bt204.2)) else (spec_l71Table.l0 k1 (wrap64 (x4_1 - 1)) s0_0 t201 x196000_1 x196001_1)) = some (r1, r2, r3) := H
      have A21 := Aside0.mk A210
      clear A210
      have HC22 := Aside0.mk H
      clear H
      go_upto_if 22 with (first | ((with_reducible refine gate_callee (f := 58) rfl ?_); refine goesL_ (some 20) rfl rfl Try.func58 (by kernel_rfl) rfl #[.pointer (some ⟨g, 0, none⟩)] rfl zl ?_; (with_reducible refine (spec_l71Field.calls k1 g s0_0 x1001_1 t198 t199 t200 t201 w0 _ ?side1 ?side2 A20.out).mono ?_); (case side1 => repeat (first | (with_reducible first | exact HI0.out | apply IsS85.alloc | apply IsS85.drewN | apply IsS85.drew | apply IsS85.set_1 | refine IsS85.far ?_ NB0_185.out _ | refine IsS85.far ?_ NB0_195.out _) | exact HI0.out)); (case side2 => repeat (first | (with_reducible first | exact HB.out | apply below_alloc | apply pw_below_drewN | apply below_drew1 | refine below_set ?_ (IsS85.ge HI0.out) | refine below_set ?_ GE185.out | refine below_set ?_ GE195.out) | exact HB.out)); rintro e w23 ⟨rfl, hi, hb, hk⟩; refine ⟨_, rfl, ?_⟩; have n0_ := Aside0.mk (Kd.R_mono (Kd.R_keep (IsS85.apart (show IsS85 w0 _ g s0_0 x1001_1 from by repeat (first | (with_reducible first | exact HI0.out | apply IsS85.alloc | apply IsS85.drewN | apply IsS85.drew | apply IsS85.set_1 | refine IsS85.far ?_ NB0_185.out _ | refine IsS85.far ?_ NB0_195.out _) | exact HI0.out)) (zr HO_196000) (by decide)) hk (fun _ h => h.2)) (fun _ h => h.1)); have n1_ := Aside0.mk (KeepBut.blk hk (g' := gb185) (o := .cells #[.slice none 0 0, .int .i64 0] 25 (0, 0)) (zk BK185) NB185_0.out (by simp)); have n2_ := Aside0.mk (KeepBut.blk hk (g' := gb195) (o := .cells #[u196000, .int .i64 x196001_1] 25 (0, 0)) (zk BK195) NB195_0.out (by simp)); have n3_ := Aside0.mk (KeepBut.trans (zh HK) hk (.inl rfl)); have n4_ := Aside0.mk (hb); have n5_ := Aside0.mk (hi); clear HO_196000; clear BK185; clear BK195; clear HK; clear HB; clear HI0; have HO_196000 := n0_; have BK185 := n1_; have BK195 := n2_; have HK := n3_; have HB := n4_; have HI0 := n5_; clear n0_ n1_ n2_ n3_ n4_ n5_; (try clear hb); (try clear hb2); (try clear hk); (try clear hi)) | ((with_reducible refine gate_dst (N := 5) rfl ?_); refine box_event ?hg (N := 5) ?hd (cs := #[.string (⟨#[]⟩ : ByteArray), .string (⟨#[]⟩ : ByteArray), .bool false]) (t := 36) ?hr ?_; (case hd => rfl); (case hg => rfl); (case hr => first | (go_simp; done) | (go_simp; rfl)); intro gb202 hg w24 hbox hb; have n0_ := Aside0.mk (Kd.R_below (Kd.R_elderB (zr HO_196000) gb202 (Nat.le_of_eq hg.symm)) hb); have n1_ := Aside0.mk (blk_below (g := gb185) (o := .cells #[.slice none 0 0, .int .i64 0] 25 (0, 0)) (zk BK185) hb); have n2_ := Aside0.mk (blk_below (g := gb195) (o := .cells #[u196000, .int .i64 x196001_1] 25 (0, 0)) (zk BK195) hb); have n3_ := Aside0.mk (IsS85.below (by repeat (first | (with_reducible first | exact HI0.out | apply IsS85.alloc | apply IsS85.drewN | apply IsS85.drew | apply IsS85.set_1 | refine IsS85.far ?_ NB0_185.out _ | refine IsS85.far ?_ NB0_195.out _) | exact HI0.out)) hb); have n4_ := Aside0.mk (KeepBut.trans (zh HK) (KeepBut.of_below hb g none) (.inl rfl)); have n5_ := Aside0.mk (below_step (by repeat (first | (with_reducible first | exact HB.out | apply below_alloc | apply pw_below_drewN | apply below_drew1 | refine below_set ?_ (IsS85.ge HI0.out) | refine below_set ?_ GE185.out | refine below_set ?_ GE195.out) | exact HB.out)) hb); have n6_ := Aside0.mk (hbox); have n7_ := Aside0.mk ((by rw [hg]; exact (keep_size (w := w) (g := g) (row := none) (zh HK)) : w.heap.size ≤ gb202)); have n8_ := Aside0.mk ((Nat.le_trans HW0.out (by rw [hg]; exact (keep_size (w := w) (g := g) (row := none) (zh HK)) : w.heap.size ≤ gb202) : w0.heap.size ≤ gb202)); have n9_ := Aside0.mk ((by rw [hg]; exact Nat.ne_of_lt (blk_lt (g := gb185) (o := .cells #[.slice none 0 0, .int .i64 0] 25 (0, 0)) (zk BK185)) : gb185 ≠ gb202)); have n10_ := Aside0.mk ((by rw [hg]; exact Nat.ne_of_gt (blk_lt (g := gb185) (o := .cells #[.slice none 0 0, .int .i64 0] 25 (0, 0)) (zk BK185)) : gb202 ≠ gb185)); have n11_ := Aside0.mk ((by rw [hg]; exact Nat.ne_of_lt (blk_lt (g := gb195) (o := .cells #[u196000, .int .i64 x196001_1] 25 (0, 0)) (zk BK195)) : gb195 ≠ gb202)); have n12_ := Aside0.mk ((by rw [hg]; exact Nat.ne_of_gt (blk_lt (g := gb195) (o := .cells #[u196000, .int .i64 x196001_1] 25 (0, 0)) (zk BK195)) : gb202 ≠ gb195)); have n13_ := Aside0.mk ((by rw [hg]; exact Nat.ne_of_lt (IsS85.lt (show IsS85 w0 _ g s0_0 t201 from by repeat (first | (with_reducible first | exact HI0.out | apply IsS85.alloc | apply IsS85.drewN | apply IsS85.drew | apply IsS85.set_1 | refine IsS85.far ?_ NB0_185.out _ | refine IsS85.far ?_ NB0_195.out _) | exact HI0.out))) : g ≠ gb202)); have n14_ := Aside0.mk ((by rw [hg]; exact Nat.ne_of_gt (IsS85.lt (show IsS85 w0 _ g s0_0 t201 from by repeat (first | (with_reducible first | exact HI0.out | apply IsS85.alloc | apply IsS85.drewN | apply IsS85.drew | apply IsS85.set_1 | refine IsS85.far ?_ NB0_185.out _ | refine IsS85.far ?_ NB0_195.out _) | exact HI0.out))) : gb202 ≠ g)); clear HO_196000; clear BK185; clear BK195; clear HI0; clear HK; clear HB; have HO_196000 := n0_; have BK185 := n1_; have BK195 := n2_; have HI0 := n3_; have HK := n4_; have HB := n5_; have BK202 := n6_; have GW202 := n7_; have GE202 := n8_; have NB185_202 := n9_; have NB202_185 := n10_; have NB195_202 := n11_; have NB202_195 := n12_; have NB0_202 := n13_; have NB202_0 := n14_; clear n0_ n1_ n2_ n3_ n4_ n5_ n6_ n7_ n8_ n9_ n10_ n11_ n12_ n13_ n14_; clear hb hbox hg; have hnb25 := NB202_185.out; have hnc25 := NB185_202.out; have hnb26 := NB202_195.out; have hnc26 := NB195_202.out; have hnb27 := NB202_0.out; have hnc27 := NB0_202.out; have hcz28_0 : w24.cell? ⟨gb202, 0, none⟩ = some (.string (⟨#[]⟩ : ByteArray)) := (blk_cell BK202.out 0).trans rfl; have hcz28_1 : w24.cell? ⟨gb202, 1, none⟩ = some (.string (⟨#[]⟩ : ByteArray)) := (blk_cell BK202.out 1).trans rfl; have hcz28_2 : w24.cell? ⟨gb202, 2, none⟩ = some (.bool false) := (blk_cell BK202.out 2).trans rfl; have hfz28_0 := blk_frozen BK202.out 0; have hfz28_1 := blk_frozen BK202.out 1; have hfz28_2 := blk_frozen BK202.out 2) | ((with_reducible refine gate_callee (f := 32) rfl ?_); refine goesL_ (some 22) rfl rfl Try.func32 (by kernel_rfl) rfl #[.agg #[.string t198, .string t199, .bool t200]] rfl zl ?_; (with_reducible refine (spec_FieldOk.calls k1 t198 t199 t200 t203 _ A21.out).mono ?_); rintro e w29 ⟨rfl, hb⟩; refine ⟨_, rfl, ?_⟩; have n0_ := Aside0.mk (Kd.R_below (by (with_reducible repeat (first | apply Kd.R_alloc | apply Kd.R_drewN | apply Kd.R_drew)); exact (Kd.R_mono (Kd.R_far (p := ⟨gb202, 2, none⟩) (Kd.R_far (p := ⟨gb202, 1, none⟩) (Kd.R_far (p := ⟨gb202, 0, none⟩) (Kd.R_mono HO_196000.out (fun k_ hk => (⟨hk, hk.2⟩ : _ ∧ k_ ≠ gb202))) (fun _ hk => hk.2) (.string t198)) (fun _ hk => hk.2) (.string t199)) (fun _ hk => hk.2) (.bool t200)) (fun _ h_ => h_.1))) hb); have n1_ := Aside0.mk (blk_below (g := gb185) (o := .cells #[.slice none 0 0, .int .i64 0] 25 (0, 0)) (by (with_reducible repeat (first | refine blk_drewN ?_ _ | refine blk_drew ?_ | refine blk_alloc ?_ _)); refine blk_far ?_ NB185_202.out _; (with_reducible repeat (first | refine blk_drewN ?_ _ | refine blk_drew ?_ | refine blk_alloc ?_ _)); refine blk_far ?_ NB185_202.out _; (with_reducible repeat (first | refine blk_drewN ?_ _ | refine blk_drew ?_ | refine blk_alloc ?_ _)); refine blk_far ?_ NB185_202.out _; exact zk BK185) hb); have n2_ := Aside0.mk (blk_below (g := gb195) (o := .cells #[u196000, .int .i64 x196001_1] 25 (0, 0)) (by (with_reducible repeat (first | refine blk_drewN ?_ _ | refine blk_drew ?_ | refine blk_alloc ?_ _)); refine blk_far ?_ NB195_202.out _; (with_reducible repeat (first | refine blk_drewN ?_ _ | refine blk_drew ?_ | refine blk_alloc ?_ _)); refine blk_far ?_ NB195_202.out _; (with_reducible repeat (first | refine blk_drewN ?_ _ | refine blk_drew ?_ | refine blk_alloc ?_ _)); refine blk_far ?_ NB195_202.out _; exact zk BK195) hb); have n3_ := Aside0.mk (IsS85.below (show IsS85 w0 (((w24.setCell ⟨gb202, 0, none⟩ (.string t198)).setCell ⟨gb202, 1, none⟩ (.string t199)).setCell ⟨gb202, 2, none⟩ (.bool t200)) g s0_0 t201 from by repeat (first | (with_reducible first | exact HI0.out | apply IsS85.alloc | apply IsS85.drewN | apply IsS85.drew | apply IsS85.set_1 | refine IsS85.far ?_ NB0_185.out _ | refine IsS85.far ?_ NB0_195.out _ | refine IsS85.far ?_ NB0_202.out _) | exact HI0.out)) hb); have n4_ := Aside0.mk (blk_below (g := gb202) (o := .cells #[.string t198, .string t199, .bool t200] 36 (0, 0)) (by (with_reducible repeat (first | refine blk_drewN ?_ _ | refine blk_drew ?_ | refine blk_alloc ?_ _)); refine blk_put (cs := #[.string t198, .string t199, .bool false]) ?_ 2 _ rfl; (with_reducible repeat (first | refine blk_drewN ?_ _ | refine blk_drew ?_ | refine blk_alloc ?_ _)); refine blk_put (cs := #[.string t198, .string (⟨#[]⟩ : ByteArray), .bool false]) ?_ 1 _ rfl; (with_reducible repeat (first | refine blk_drewN ?_ _ | refine blk_drew ?_ | refine blk_alloc ?_ _)); refine blk_put (cs := #[.string (⟨#[]⟩ : ByteArray), .string (⟨#[]⟩ : ByteArray), .bool false]) ?_ 0 _ rfl; exact zk BK202) hb); have n5_ := Aside0.mk (KeepBut.trans (zh HK) (KeepBut.of_below hb g none) (.inl rfl)); have n6_ := Aside0.mk (below_step (by repeat (first | (with_reducible first | exact HB.out | apply below_alloc | apply pw_below_drewN | apply below_drew1 | refine below_set ?_ (IsS85.ge HI0.out) | refine below_set ?_ GE185.out | refine below_set ?_ GE195.out | refine below_set ?_ GE202.out) | exact HB.out)) hb); clear HO_196000; clear BK185; clear BK195; clear HI0; clear BK202; clear HK; clear HB; have HO_196000 := n0_; have BK185 := n1_; have BK195 := n2_; have HI0 := n3_; have BK202 := n4_; have HK := n5_; have HB := n6_; clear n0_ n1_ n2_ n3_ n4_ n5_ n6_; (try clear hb); (try clear hb2); (try clear hk); (try clear hi)))
      (try simp only [Act.put, s1, s2, s3])
      have H := HC22.out
      clear HC22
      by_cases c30 : t203 = true
      ·subst c30
       have H1 : ((spec_l3Add.f k1 x196000_1 x196001_1 t198 t199 t200).bind fun bt204 => (spec_l71Table.l0 k1 (wrap64 (x4_1 - 1)) s0_0 t201 bt204.1 bt204.2)) = some (r1, r2, r3) := by rw [if_pos rfl] at H; exact H
       clear H
       have H := H1
       clear H1
       replace H := Option.bind_eq_some_iff.mp H
       obtain ⟨⟨t204, t207⟩, A310, H⟩ := H
       replace H : (spec_l71Table.l0 k1 (wrap64 (x4_1 - 1)) s0_0 t201 t204 t207) = some (r1, r2, r3) := H
       have A31 := Aside0.mk A310
       clear A310
       have H' := Aside0.mk H
       clear H
       have hnb32 := NB195_185.out
       have hnc32 := NB185_195.out
       have hnb33 := NB195_202.out
       have hnc33 := NB202_195.out
       have hnb34 := NB195_0.out
       have hnc34 := NB0_195.out
       have hcz35_0 : w29.cell? ⟨gb195, 0, none⟩ = some (u196000) := (blk_cell BK195.out 0).trans rfl
       have hcz35_1 : w29.cell? ⟨gb195, 1, none⟩ = some (.int .i64 x196001_1) := (blk_cell BK195.out 1).trans rfl
       have hfz35_0 := blk_frozen BK195.out 0
       have hfz35_1 := blk_frozen BK195.out 1
       have hnb36 := NB202_185.out
       have hnc36 := NB185_202.out
       have hnb37 := NB202_0.out
       have hnc37 := NB0_202.out
       have hcz38_0 : w29.cell? ⟨gb202, 0, none⟩ = some (.string t198) := (blk_cell BK202.out 0).trans rfl
       have hcz38_1 : w29.cell? ⟨gb202, 1, none⟩ = some (.string t199) := (blk_cell BK202.out 1).trans rfl
       have hcz38_2 : w29.cell? ⟨gb202, 2, none⟩ = some (.bool t200) := (blk_cell BK202.out 2).trans rfl
       have hfz38_0 := blk_frozen BK202.out 0
       have hfz38_1 := blk_frozen BK202.out 1
       have hfz38_2 := blk_frozen BK202.out 2
       obtain ⟨Ao39, co39, eo39⟩ := Kd.R_slice HO_196000.out
       subst eo39
       go_wp2_with (first | ((with_reducible refine gate_callee (f := 60) rfl ?_); refine goesL_ (some 25) rfl rfl Try.func60 (by kernel_rfl) rfl #[.agg #[.slice Ao39 x196000_1.length co39, .int .i64 x196001_1], .agg #[.string t198, .string t199, .bool t200]] rfl zl ?_; (with_reducible refine (spec_l3Add.calls k1 _ _ x196000_1 x196001_1 t198 t199 t200 t204 t207 _ ?side1 ?side2 A31.out).mono ?_); (case side1 => repeat (first | exact (Kd.R_reads' HO_196000.out).2.2 | (with_reducible refine Kd.C_alloc ?_ _) | (with_reducible refine Kd.C_drewN ?_ _) | (with_reducible refine Kd.C_drew ?_))); (case side2 => exact (Kd.R_reads' HO_196000.out).2.1); rintro e w40 ⟨v205, rfl, ho0, hb⟩; refine ⟨_, rfl, ?_⟩; have n0_ := Aside0.mk (Kd.R_elder' (zr HO_196000) (Kd.R_base ho0) hb); have n1_ := Aside0.mk (Kd.R_lower (Kd.R_newB (Kd.R_new' ho0 (Kd.R_lt (zr HO_196000))) (g := gb202) (o := .cells #[.string t198, .string t199, .bool t200] 36 (0, 0)) (zk BK202)) (keep_size (w := w) (g := g) (row := none) (zh HK))); have n2_ := Aside0.mk (blk_below (g := gb185) (o := .cells #[.slice none 0 0, .int .i64 0] 25 (0, 0)) (zk BK185) hb); have n3_ := Aside0.mk (blk_below (g := gb195) (o := .cells #[.slice Ao39 x196000_1.length co39, .int .i64 x196001_1] 25 (0, 0)) (zk BK195) hb); have n4_ := Aside0.mk (IsS85.below (by repeat (first | (with_reducible first | exact HI0.out | apply IsS85.alloc | apply IsS85.drewN | apply IsS85.drew | apply IsS85.set_1 | refine IsS85.far ?_ NB0_185.out _ | refine IsS85.far ?_ NB0_195.out _ | refine IsS85.far ?_ NB0_202.out _) | exact HI0.out)) hb); have n5_ := Aside0.mk (blk_below (g := gb202) (o := .cells #[.string t198, .string t199, .bool t200] 36 (0, 0)) (zk BK202) hb); have n6_ := Aside0.mk (KeepBut.trans (zh HK) (KeepBut.of_below hb g none) (.inl rfl)); have n7_ := Aside0.mk (below_step (by repeat (first | (with_reducible first | exact HB.out | apply below_alloc | apply pw_below_drewN | apply below_drew1 | refine below_set ?_ (IsS85.ge HI0.out) | refine below_set ?_ GE185.out | refine below_set ?_ GE195.out | refine below_set ?_ GE202.out) | exact HB.out)) hb); clear HO_196000; clear BK185; clear BK195; clear HI0; clear BK202; clear HK; clear HB; have HO_196000 := n0_; have HO206 := n1_; have BK185 := n2_; have BK195 := n3_; have HI0 := n4_; have BK202 := n5_; have HK := n6_; have HB := n7_; clear n0_ n1_ n2_ n3_ n4_ n5_ n6_ n7_; (try clear hb); (try clear hb2); (try clear hk); (try clear hi); (try clear ho0); obtain ⟨Ao41, co41, eo41⟩ := Kd.R_slice HO206.out; subst eo41; have hcz42_0 : w40.cell? ⟨gb195, 0, none⟩ = some (.slice Ao39 x196000_1.length co39) := (blk_cell BK195.out 0).trans rfl; have hcz42_1 : w40.cell? ⟨gb195, 1, none⟩ = some (.int .i64 x196001_1) := (blk_cell BK195.out 1).trans rfl; have hfz42_0 := blk_frozen BK195.out 0; have hfz42_1 := blk_frozen BK195.out 1))
       go_roundg k1
       case measure => have := HK1.out; omega
       case rel => exact ⟨(wrap64 (x4_1 - 1)), (t201), (t204), (t207), (.slice Ao41 t204.length co41), zs, H', ⟨by have := HK1.out; omega⟩, ⟨by (with_reducible repeat (first | apply Kd.R_alloc | apply Kd.R_drewN | apply Kd.R_drew)); exact Kd.R_mono (Kd.R_far (p := ⟨gb195, 1, none⟩) (Kd.R_far (p := ⟨gb195, 0, none⟩) (Kd.R_types HO206.out BK195.out (by decide)) (fun _ hk => hk.2) (.slice Ao41 t204.length co41)) (fun _ hk => hk.2) (.int .i64 t207)) (fun _ hk => trivial)⟩, ⟨by (with_reducible repeat (first | refine blk_drewN ?_ _ | refine blk_drew ?_ | refine blk_alloc ?_ _)); refine blk_far ?_ NB185_195.out _; (with_reducible repeat (first | refine blk_drewN ?_ _ | refine blk_drew ?_ | refine blk_alloc ?_ _)); refine blk_far ?_ NB185_195.out _; exact zk BK185⟩, ⟨by (with_reducible repeat (first | refine blk_drewN ?_ _ | refine blk_drew ?_ | refine blk_alloc ?_ _)); refine blk_put (cs := #[.slice Ao41 t204.length co41, .int .i64 x196001_1]) ?_ 1 _ rfl; (with_reducible repeat (first | refine blk_drewN ?_ _ | refine blk_drew ?_ | refine blk_alloc ?_ _)); refine blk_put (cs := #[.slice Ao39 x196000_1.length co39, .int .i64 x196001_1]) ?_ 0 _ rfl; exact zk BK195⟩, ⟨by repeat (first | (with_reducible first | exact HI0.out | apply IsS85.alloc | apply IsS85.drewN | apply IsS85.drew | apply IsS85.set_1 | refine IsS85.far ?_ NB0_185.out _ | refine IsS85.far ?_ NB0_195.out _ | refine IsS85.far ?_ NB0_202.out _) | exact HI0.out)⟩, ⟨zh HK⟩, ⟨by repeat (first | (with_reducible first | exact HB.out | apply below_alloc | apply pw_below_drewN | apply below_drew1 | refine below_set ?_ (IsS85.ge HI0.out) | refine below_set ?_ GE185.out | refine below_set ?_ GE195.out | refine below_set ?_ GE202.out) | exact HB.out)⟩⟩
      ·replace c30 := Bool.eq_false_iff.mpr c30
       subst c30
       have H1 : (spec_l71Table.l0 k1 (wrap64 (x4_1 - 1)) s0_0 t201 x196000_1 x196001_1) = some (r1, r2, r3) := by rw [if_neg (show ¬ (false = true) by decide)] at H; exact H
       clear H
       have H := H1
       clear H1
       have H' := Aside0.mk H
       clear H
       go_wp2
       go_roundg k1
       case measure => have := HK1.out; omega
       case rel => exact ⟨(wrap64 (x4_1 - 1)), (t201), (x196000_1), (x196001_1), (u196000), zs, H', ⟨by have := HK1.out; omega⟩, ⟨by (with_reducible repeat (first | apply Kd.R_alloc | apply Kd.R_drewN | apply Kd.R_drew)); exact Kd.R_mono HO_196000.out (fun _ hk => trivial)⟩, ⟨by exact zk BK185⟩, ⟨by exact zk BK195⟩, ⟨by repeat (first | (with_reducible first | exact HI0.out | apply IsS85.alloc | apply IsS85.drewN | apply IsS85.drew | apply IsS85.set_1 | refine IsS85.far ?_ NB0_185.out _ | refine IsS85.far ?_ NB0_195.out _ | refine IsS85.far ?_ NB0_202.out _) | exact HI0.out)⟩, ⟨zh HK⟩, ⟨by repeat (first | (with_reducible first | exact HB.out | apply below_alloc | apply pw_below_drewN | apply below_drew1 | refine below_set ?_ (IsS85.ge HI0.out) | refine below_set ?_ GE185.out | refine below_set ?_ GE195.out | refine below_set ?_ GE202.out) | exact HB.out)⟩⟩
     ·rw [if_neg c19] at H
      have c19b0 : decide (0 < x4_1) = false := decide_eq_false c19
      clear c19
      replace H := Option.bind_eq_some_iff.mp H
      obtain ⟨⟨t208, t209⟩, A430, H⟩ := H
      replace H : (if t208 = 0 then ((some (([(-1), 65, 3] : List Int) : List Int)).bind fun y210 => ((spec_l6Rd_pick.f k1 s0_0 t209 3).bind fun bt213 => (if 0 ≤ bt213.1 then (if bt213.1 < (y210.length : Int) then (some (x196000_1, rd y210 bt213.1, bt213.2)) else (none)) else (none)))) else (if t208 = 1 then ((spec_l71Field.f k1 s0_0 t209).bind fun bt216 => ((spec_l71Field.f k1 s0_0 bt216.2.2.2).bind fun bt220 => ((spec_l71Field.f k1 s0_0 bt220.2.2.2).bind fun bt224 => ((some (([(⟨bt216.1, bt216.2.1, bt216.2.2.1⟩ : S36), (⟨bt220.1, bt220.2.1, bt220.2.2.1⟩ : S36), (⟨bt224.1, bt224.2.1, bt224.2.2.1⟩ : S36)] : List (S36)) : List (S36))).bind fun y228 => (if x196000_1.length + y228.length < 3518437208883 then (some ((x196000_1 ++ y228), x196001_1, bt224.2.2.2)) else (none)))))) else (some (x196000_1, x196001_1, t209)))) = some (r1, r2, r3) := H
      have A43 := Aside0.mk A430
      clear A430
      by_cases c44 : t208 = 0
      ·rw [if_pos c44] at H
       have c44b0 : (t208 == 0) = true := beq_iff_eq.mpr c44
       have c44b1 : (t208 != 0) = false := bne_eq_false_iff_eq.mpr c44
       clear c44
       obtain ⟨y210, hy210⟩ : ∃ y_ : List Int, y_ = (([(-1), 65, 3] : List Int)) := ⟨_, rfl⟩
       replace H : ((spec_l6Rd_pick.f k1 s0_0 t209 3).bind fun bt213 => (if 0 ≤ bt213.1 then (if bt213.1 < (y210.length : Int) then (some (x196000_1, rd y210 bt213.1, bt213.2)) else (none)) else (none))) = some (r1, r2, r3) := by first | (rw [hy210]; with_reducible exact H) | (have H2_ := (Option.bind_some _ _).symm.trans H; rw [hy210]; with_reducible exact H2_) | (have H2_ := (Option.bind_some _ _).symm.trans H; with_reducible exact H2_) | with_reducible exact H | (rw [hy210]; exact H) | exact H
       have Ny210 := Aside0.mk hy210
       clear hy210
       replace H := Option.bind_eq_some_iff.mp H
       obtain ⟨⟨t213, t214⟩, A450, H⟩ := H
       replace H : (if 0 ≤ t213 then (if t213 < (y210.length : Int) then (some (x196000_1, rd y210 t213, t214)) else (none)) else (none)) = some (r1, r2, r3) := H
       have A45 := Aside0.mk A450
       clear A450
       by_cases c46 : 0 ≤ t213
       ·rw [if_pos c46] at H
        have c46b0 : decide (0 ≤ t213) = true := decide_eq_true c46
        clear c46
        by_cases c47 : t213 < (y210.length : Int)
        ·rw [if_pos c47] at H
         have c47b0 : decide (t213 < (y210.length : Int)) = true := decide_eq_true c47
         clear c47
         simp only [Option.some.injEq, Prod.mk.injEq] at H
         obtain ⟨rfl, rfl, rfl⟩ := H
         go_wp2_with (first | ((with_reducible refine gate_callee (f := 47) rfl ?_); refine goesL_ (some 27) rfl rfl Try.func47 (by kernel_rfl) rfl #[.pointer (some ⟨g, 0, none⟩), .int .i64 24] rfl zl ?_; (with_reducible refine (spec_l6Rd_pick.calls k1 g s0_0 x1001_1 24 t208 t209 w0 _ ?side1 ?side2 A43.out).mono ?_); (case side1 => repeat (first | (with_reducible first | exact HI0.out | apply IsS85.alloc | apply IsS85.drewN | apply IsS85.drew | apply IsS85.set_1 | refine IsS85.far ?_ NB0_185.out _ | refine IsS85.far ?_ NB0_195.out _) | exact HI0.out)); (case side2 => repeat (first | (with_reducible first | exact HB.out | apply below_alloc | apply pw_below_drewN | apply below_drew1 | refine below_set ?_ (IsS85.ge HI0.out) | refine below_set ?_ GE185.out | refine below_set ?_ GE195.out) | exact HB.out)); rintro e w48 ⟨rfl, hi, hb, hk⟩; refine ⟨_, rfl, ?_⟩; have n0_ := Aside0.mk (Kd.R_mono (Kd.R_keep (IsS85.apart (show IsS85 w0 _ g s0_0 x1001_1 from by repeat (first | (with_reducible first | exact HI0.out | apply IsS85.alloc | apply IsS85.drewN | apply IsS85.drew | apply IsS85.set_1 | refine IsS85.far ?_ NB0_185.out _ | refine IsS85.far ?_ NB0_195.out _) | exact HI0.out)) (zr HO_196000) (by decide)) hk (fun _ h => h.2)) (fun _ h => h.1)); have n1_ := Aside0.mk (KeepBut.blk hk (g' := gb185) (o := .cells #[.slice none 0 0, .int .i64 0] 25 (0, 0)) (zk BK185) NB185_0.out (by simp)); have n2_ := Aside0.mk (KeepBut.blk hk (g' := gb195) (o := .cells #[u196000, .int .i64 x196001_1] 25 (0, 0)) (zk BK195) NB195_0.out (by simp)); have n3_ := Aside0.mk (KeepBut.trans (zh HK) hk (.inl rfl)); have n4_ := Aside0.mk (hb); have n5_ := Aside0.mk (hi); clear HO_196000; clear BK185; clear BK195; clear HK; clear HB; clear HI0; have HO_196000 := n0_; have BK185 := n1_; have BK195 := n2_; have HK := n3_; have HB := n4_; have HI0 := n5_; clear n0_ n1_ n2_ n3_ n4_ n5_; (try clear hb); (try clear hb2); (try clear hk); (try clear hi)) | ((with_reducible refine gate_dst (N := 30) rfl ?_); refine Kd.R_lit (Kd.int .i64) _ 3 ?hg (N := 30) ?hd (xs := ([(-1), 65, 3] : List Int)) (inner := [.int .i64 (-1), .int .i64 65, .int .i64 3]) (ok := fun _ => True) (okp := fun _ => True) ?hr ?hp (fun _ hk => hk) trivial (Below.refl _ _) (Nat.le_refl _) (by simp) ?_; (case hd => rfl); (case hg => rfl); (case hr => first | (go_simp; done) | (go_simp; rfl)); (case hp => exact (Reps.one (show Kd.M (Kd.int .i64) _ _ _ (-1) [.int .i64 (-1)] from rfl) (Reps.one (show Kd.M (Kd.int .i64) _ _ _ 65 [.int .i64 65] from rfl) (Reps.one (show Kd.M (Kd.int .i64) _ _ _ 3 [.int .i64 3] from rfl) (Reps.none _ _))))); intro v211 w49 ho50 hb hg_ hnew_; clear hg_ hnew_; (first | rw [← Ny210.out] at ho50 | (simp only [Int.reduceToNat] at ho50; rw [← Ny210.out] at ho50)); have n0_ := Aside0.mk (Kd.R_below (zr HO_196000) hb); have n1_ := Aside0.mk (Kd.R_lower ho50 (keep_size (w := w) (g := g) (row := none) (zh HK))); have n2_ := Aside0.mk (blk_below (g := gb185) (o := .cells #[.slice none 0 0, .int .i64 0] 25 (0, 0)) (zk BK185) hb); have n3_ := Aside0.mk (blk_below (g := gb195) (o := .cells #[u196000, .int .i64 x196001_1] 25 (0, 0)) (zk BK195) hb); have n4_ := Aside0.mk (IsS85.below (by repeat (first | (with_reducible first | exact HI0.out | apply IsS85.alloc | apply IsS85.drewN | apply IsS85.drew | apply IsS85.set_1 | refine IsS85.far ?_ NB0_185.out _ | refine IsS85.far ?_ NB0_195.out _) | exact HI0.out)) hb); have n5_ := Aside0.mk (KeepBut.trans (zh HK) (KeepBut.of_below hb g none) (.inl rfl)); have n6_ := Aside0.mk (below_step (by repeat (first | (with_reducible first | exact HB.out | apply below_alloc | apply pw_below_drewN | apply below_drew1 | refine below_set ?_ (IsS85.ge HI0.out) | refine below_set ?_ GE185.out | refine below_set ?_ GE195.out) | exact HB.out)) hb); clear HO_196000; clear BK185; clear BK195; clear HI0; clear HK; clear HB; have HO_196000 := n0_; have HO212 := n1_; have BK185 := n2_; have BK195 := n3_; have HI0 := n4_; have HK := n5_; have HB := n6_; clear n0_ n1_ n2_ n3_ n4_ n5_ n6_; clear hb ho50) | ((with_reducible refine gate_callee (f := 47) rfl ?_); refine goesL_ (some 32) rfl rfl Try.func47 (by kernel_rfl) rfl #[.pointer (some ⟨g, 0, none⟩), .int .i64 3] rfl zl ?_; (with_reducible refine (spec_l6Rd_pick.calls k1 g s0_0 t209 3 t213 t214 w0 _ ?side1 ?side2 A45.out).mono ?_); (case side1 => repeat (first | (with_reducible first | exact HI0.out | apply IsS85.alloc | apply IsS85.drewN | apply IsS85.drew | apply IsS85.set_1 | refine IsS85.far ?_ NB0_185.out _ | refine IsS85.far ?_ NB0_195.out _) | exact HI0.out)); (case side2 => repeat (first | (with_reducible first | exact HB.out | apply below_alloc | apply pw_below_drewN | apply below_drew1 | refine below_set ?_ (IsS85.ge HI0.out) | refine below_set ?_ GE185.out | refine below_set ?_ GE195.out) | exact HB.out)); rintro e w51 ⟨rfl, hi, hb, hk⟩; refine ⟨_, rfl, ?_⟩; have n0_ := Aside0.mk (Kd.R_mono (Kd.R_keep (IsS85.apart (show IsS85 w0 _ g s0_0 t209 from by repeat (first | (with_reducible first | exact HI0.out | apply IsS85.alloc | apply IsS85.drewN | apply IsS85.drew | apply IsS85.set_1 | refine IsS85.far ?_ NB0_185.out _ | refine IsS85.far ?_ NB0_195.out _) | exact HI0.out)) (zr HO_196000) (by decide)) hk (fun _ h => h.2)) (fun _ h => h.1)); have n1_ := Aside0.mk (KeepBut.blk hk (g' := gb185) (o := .cells #[.slice none 0 0, .int .i64 0] 25 (0, 0)) (zk BK185) NB185_0.out (by simp)); have n2_ := Aside0.mk (KeepBut.blk hk (g' := gb195) (o := .cells #[u196000, .int .i64 x196001_1] 25 (0, 0)) (zk BK195) NB195_0.out (by simp)); have n3_ := Aside0.mk (Kd.R_mono (Kd.R_keep (IsS85.apart (show IsS85 w0 _ g s0_0 t209 from by repeat (first | (with_reducible first | exact HI0.out | apply IsS85.alloc | apply IsS85.drewN | apply IsS85.drew | apply IsS85.set_1 | refine IsS85.far ?_ NB0_185.out _ | refine IsS85.far ?_ NB0_195.out _) | exact HI0.out)) (zr HO212) (by decide)) hk (fun _ h => h.2)) (fun _ h => h.1)); have n4_ := Aside0.mk (KeepBut.trans (zh HK) hk (.inl rfl)); have n5_ := Aside0.mk (hb); have n6_ := Aside0.mk (hi); clear HO_196000; clear BK185; clear BK195; clear HO212; clear HK; clear HB; clear HI0; have HO_196000 := n0_; have BK185 := n1_; have BK195 := n2_; have HO212 := n3_; have HK := n4_; have HB := n5_; have HI0 := n6_; clear n0_ n1_ n2_ n3_ n4_ n5_ n6_; (try clear hb); (try clear hb2); (try clear hk); (try clear hi); obtain ⟨Ao52, co52, eo52⟩ := Kd.R_slice HO212.out; subst eo52; have p215 : 0 ≤ (t213 : Int) := of_decide_eq_true za; have q215 : t213 < (y210.length : Int) := of_decide_eq_true za; obtain ⟨ad215, e215, hx215_0⟩ := Kd.at_int (Kd.R_reads' HO212.out).2.2 t213 p215 q215; cases e215; replace p215 := eq_true p215; replace q215 := eq_true q215; have hnb53 := NB195_185.out; have hnc53 := NB185_195.out; have hnb54 := NB195_0.out; have hnc54 := NB0_195.out; have hcz55_0 : w51.cell? ⟨gb195, 0, none⟩ = some (u196000) := (blk_cell BK195.out 0).trans rfl; have hcz55_1 : w51.cell? ⟨gb195, 1, none⟩ = some (.int .i64 x196001_1) := (blk_cell BK195.out 1).trans rfl; have hfz55_0 := blk_frozen BK195.out 0; have hfz55_1 := blk_frozen BK195.out 1; obtain ⟨Ao56, co56, eo56⟩ := Kd.R_slice HO_196000.out; subst eo56; have hnb57 := NB185_0.out; have hnc57 := NB0_185.out; have hcz58_0 : w51.cell? ⟨gb185, 0, none⟩ = some (.slice none 0 0) := (blk_cell BK185.out 0).trans rfl; have hcz58_1 : w51.cell? ⟨gb185, 1, none⟩ = some (.int .i64 0) := (blk_cell BK185.out 1).trans rfl; have hfz58_0 := blk_frozen BK185.out 0; have hfz58_1 := blk_frozen BK185.out 1))
         refine bodyPost_ret (results_cell_row rfl _ _ gb185 25 #[.slice Ao56 x196000_1.length co56, .int .i64 (rd y210 t213)] (0, 0) _ rfl (by (with_reducible repeat (first | refine blk_drewN ?_ _ | refine blk_drew ?_ | refine blk_alloc ?_ _)); refine blk_put (cs := #[.slice Ao56 x196000_1.length co56, .int .i64 0]) ?_ 1 _ rfl; (with_reducible repeat (first | refine blk_drewN ?_ _ | refine blk_drew ?_ | refine blk_alloc ?_ _)); refine blk_put (cs := #[.slice none 0 0, .int .i64 0]) ?_ 0 _ rfl; (with_reducible repeat (first | refine blk_drewN ?_ _ | refine blk_drew ?_ | refine blk_alloc ?_ _)); refine blk_far ?_ NB185_195.out _; exact zk BK185) Try.underlying25 rfl (by kernel_rfl)) rfl ?_
         exact ⟨_, ze, by (with_reducible repeat (first | apply Kd.R_alloc | apply Kd.R_drewN | apply Kd.R_drew)); exact Kd.R_mono (Kd.R_far (p := ⟨gb185, 1, none⟩) (Kd.R_far (p := ⟨gb185, 0, none⟩) (Kd.R_far (p := ⟨gb195, 1, none⟩) (Kd.R_types (Kd.R_types HO_196000.out BK195.out (by decide)) BK185.out (by decide)) (fun _ hk => hk.1.2) (.int .i64 (rd y210 t213))) (fun _ hk => hk.2) (.slice Ao56 x196000_1.length co56)) (fun _ hk => hk.2) (.int .i64 (rd y210 t213))) (fun _ hk => trivial), by repeat (first | (with_reducible first | exact HI0.out | apply IsS85.alloc | apply IsS85.drewN | apply IsS85.drew | apply IsS85.set_1 | refine IsS85.far ?_ NB0_185.out _ | refine IsS85.far ?_ NB0_195.out _) | exact HI0.out), by repeat (first | (with_reducible first | exact HB.out | apply below_alloc | apply pw_below_drewN | apply below_drew1 | refine below_set ?_ (IsS85.ge HI0.out) | refine below_set ?_ GE185.out | refine below_set ?_ GE195.out) | exact HB.out), zh HK⟩
        ·rw [if_neg c47] at H
         exact absurd H (by simp)
       ·rw [if_neg c46] at H
        exact absurd H (by simp)
      ·rw [if_neg c44] at H
       have c44b0 : (t208 == 0) = false := beq_eq_false_iff_ne.mpr c44
       have c44b1 : (t208 != 0) = true := bne_iff_ne.mpr c44
       by_cases c59 : t208 = 1
       ·rw [if_pos c59] at H
        have c59b0 : (t208 == 1) = true := beq_iff_eq.mpr c59
        have c59b1 : (t208 != 1) = false := bne_eq_false_iff_eq.mpr c59
        clear c59
        replace H := Option.bind_eq_some_iff.mp H
        obtain ⟨⟨t216, t217, t218, t219⟩, A600, H⟩ := H
        replace H : ((spec_l71Field.f k1 s0_0 t219).bind fun bt220 => ((spec_l71Field.f k1 s0_0 bt220.2.2.2).bind fun bt224 => ((some (([(⟨t216, t217, t218⟩ : S36), (⟨bt220.1, bt220.2.1, bt220.2.2.1⟩ : S36), (⟨bt224.1, bt224.2.1, bt224.2.2.1⟩ : S36)] : List (S36)) : List (S36))).bind fun y228 => (if x196000_1.length + y228.length < 3518437208883 then (some ((x196000_1 ++ y228), x196001_1, bt224.2.2.2)) else (none))))) = some (r1, r2, r3) := H
        have A60 := Aside0.mk A600
        clear A600
        replace H := Option.bind_eq_some_iff.mp H
        obtain ⟨⟨t220, t221, t222, t223⟩, A610, H⟩ := H
        replace H : ((spec_l71Field.f k1 s0_0 t223).bind fun bt224 => ((some (([(⟨t216, t217, t218⟩ : S36), (⟨t220, t221, t222⟩ : S36), (⟨bt224.1, bt224.2.1, bt224.2.2.1⟩ : S36)] : List (S36)) : List (S36))).bind fun y228 => (if x196000_1.length + y228.length < 3518437208883 then (some ((x196000_1 ++ y228), x196001_1, bt224.2.2.2)) else (none)))) = some (r1, r2, r3) := H
        have A61 := Aside0.mk A610
        clear A610
        replace H := Option.bind_eq_some_iff.mp H
        obtain ⟨⟨t224, t225, t226, t227⟩, A620, H⟩ := H
        replace H : ((some (([(⟨t216, t217, t218⟩ : S36), (⟨t220, t221, t222⟩ : S36), (⟨t224, t225, t226⟩ : S36)] : List (S36)) : List (S36))).bind fun y228 => (if x196000_1.length + y228.length < 3518437208883 then (some ((x196000_1 ++ y228), x196001_1, t227)) else (none))) = some (r1, r2, r3) := H
        have A62 := Aside0.mk A620
        clear A620
        obtain ⟨y228, hy228⟩ : ∃ y_ : List (S36), y_ = (([(⟨t216, t217, t218⟩ : S36), (⟨t220, t221, t222⟩ : S36), (⟨t224, t225, t226⟩ : S36)] : List (S36))) := ⟨_, rfl⟩
        replace H : (if x196000_1.length + y228.length < 3518437208883 then (some ((x196000_1 ++ y228), x196001_1, t227)) else (none)) = some (r1, r2, r3) := by first | (rw [hy228]; with_reducible exact H) | (have H2_ := (Option.bind_some _ _).symm.trans H; rw [hy228]; with_reducible exact H2_) | (have H2_ := (Option.bind_some _ _).symm.trans H; with_reducible exact H2_) | with_reducible exact H | (rw [hy228]; exact H) | exact H
        have Ny228 := Aside0.mk hy228
        clear hy228
        by_cases c63 : x196000_1.length + y228.length < 3518437208883
        ·rw [if_pos c63] at H
         have LMc63 := Aside0.mk c63
         clear c63
         obtain ⟨y231, hy231⟩ : ∃ y_ : List (S36), y_ = (x196000_1 ++ y228) := ⟨_, rfl⟩
         replace H : (some (y231, x196001_1, t227)) = some (r1, r2, r3) := by first | (rw [hy231]; with_reducible exact H) | (have H2_ := (Option.bind_some _ _).symm.trans H; rw [hy231]; with_reducible exact H2_) | (have H2_ := (Option.bind_some _ _).symm.trans H; with_reducible exact H2_) | with_reducible exact H | (rw [hy231]; exact H) | exact H
         have Ny231 := Aside0.mk hy231
         clear hy231
         simp only [Option.some.injEq, Prod.mk.injEq] at H
         obtain ⟨rfl, rfl, rfl⟩ := H
         try go_wp2_with (first | ((with_reducible refine gate_callee (f := 47) rfl ?_); refine goesL_ (some 27) rfl rfl Try.func47 (by kernel_rfl) rfl #[.pointer (some ⟨g, 0, none⟩), .int .i64 24] rfl zl ?_; (with_reducible refine (spec_l6Rd_pick.calls k1 g s0_0 x1001_1 24 t208 t209 w0 _ ?side1 ?side2 A43.out).mono ?_); (case side1 => repeat (first | (with_reducible first | exact HI0.out | apply IsS85.alloc | apply IsS85.drewN | apply IsS85.drew | apply IsS85.set_1 | refine IsS85.far ?_ NB0_185.out _ | refine IsS85.far ?_ NB0_195.out _) | exact HI0.out)); (case side2 => repeat (first | (with_reducible first | exact HB.out | apply below_alloc | apply pw_below_drewN | apply below_drew1 | refine below_set ?_ (IsS85.ge HI0.out) | refine below_set ?_ GE185.out | refine below_set ?_ GE195.out) | exact HB.out)); rintro e w64 ⟨rfl, hi, hb, hk⟩; refine ⟨_, rfl, ?_⟩; have n0_ := Aside0.mk (Kd.R_mono (Kd.R_keep (IsS85.apart (show IsS85 w0 _ g s0_0 x1001_1 from by repeat (first | (with_reducible first | exact HI0.out | apply IsS85.alloc | apply IsS85.drewN | apply IsS85.drew | apply IsS85.set_1 | refine IsS85.far ?_ NB0_185.out _ | refine IsS85.far ?_ NB0_195.out _) | exact HI0.out)) (zr HO_196000) (by decide)) hk (fun _ h => h.2)) (fun _ h => h.1)); have n1_ := Aside0.mk (KeepBut.blk hk (g' := gb185) (o := .cells #[.slice none 0 0, .int .i64 0] 25 (0, 0)) (zk BK185) NB185_0.out (by simp)); have n2_ := Aside0.mk (KeepBut.blk hk (g' := gb195) (o := .cells #[u196000, .int .i64 x196001_1] 25 (0, 0)) (zk BK195) NB195_0.out (by simp)); have n3_ := Aside0.mk (KeepBut.trans (zh HK) hk (.inl rfl)); have n4_ := Aside0.mk (hb); have n5_ := Aside0.mk (hi); clear HO_196000; clear BK185; clear BK195; clear HK; clear HB; clear HI0; have HO_196000 := n0_; have BK185 := n1_; have BK195 := n2_; have HK := n3_; have HB := n4_; have HI0 := n5_; clear n0_ n1_ n2_ n3_ n4_ n5_; (try clear hb); (try clear hb2); (try clear hk); (try clear hi)))
         have n0_ := Aside0.mk (Kd.R_drew HO_196000.out)
         have n1_ := Aside0.mk (blk_drew BK185.out)
         have n2_ := Aside0.mk (blk_drew BK195.out)
         have n3_ := Aside0.mk (IsS85.drew HI0.out)
         have n4_ := Aside0.mk (keep_drew HK.out)
         have n5_ := Aside0.mk (below_drew1 HB.out)
         clear HO_196000
         clear BK185
         clear BK195
         clear HI0
         clear HK
         clear HB
         have HO_196000 := n0_
         have BK185 := n1_
         have BK195 := n2_
         have HI0 := n3_
         have HK := n4_
         have HB := n5_
         clear n0_ n1_ n2_ n3_ n4_ n5_
         refine start_ (n := 12) (S := fun w' => w'.cell? ⟨gb195, 0, none⟩ = some (u196000) ∧ w'.cell? ⟨gb195, 1, none⟩ = some (.int .i64 x196001_1)) (ds := [11]) #[false, false, false, false, false, false, false, false, false, false, false, false] (by kernel_rfl) rfl rfl ⟨(blk_cell BK195.out 0).trans rfl, (blk_cell BK195.out 1).trans rfl⟩ (fun hHeld => ?_); refine with_tabW spec_l71Table.tab12 spec_l71Table.bits12 (fun HT_ HW_ => ?_)
         generalize w64.drew = w65 at HO_196000 BK185 BK195 HI0 HK HB hHeld ⊢
         refine pure_ (i := 0) (N := some 38) (v := ?_) (a' := ?_) #[true, false, false, false, false, false, false, false, false, false, false, false] rfl rfl (any_of HT_.out (by kernel_rfl)) (fun _ _ _ h => h) (Or.inl ⟨by rfl, ?_⟩) ?_ ?_
         rotate_left
         ·intro w'
          go_simp
          with_reducible rfl
         rotate_left
         ·simp only [Act.put, s1, s2, s3, i64_w, i32_w]
          rfl
         refine pure_ (i := 2) (N := some 40) (v := ?_) (a' := ?_) #[true, false, true, false, false, false, false, false, false, false, false, false] rfl rfl (any_of HT_.out (by kernel_rfl)) (fun _ _ _ h => h) (Or.inl ⟨by rfl, ?_⟩) ?_ ?_
         rotate_left
         ·intro w'
          go_simp
          with_reducible rfl
         rotate_left
         ·simp only [Act.put, s1, s2, s3, i64_w, i32_w]
          rfl
         refine pure_ (i := 4) (N := some 42) (v := ?_) (a' := ?_) #[true, false, true, false, true, false, false, false, false, false, false, false] rfl rfl (any_of HT_.out (by kernel_rfl)) (fun _ _ _ h => h) (Or.inl ⟨by rfl, ?_⟩) ?_ ?_
         rotate_left
         ·intro w'
          go_simp
          with_reducible rfl
         rotate_left
         ·simp only [Act.put, s1, s2, s3, i64_w, i32_w]
          rfl
         refine pure_ (i := 6) (N := some 44) (v := ?_) (a' := ?_) #[true, false, true, false, true, false, true, false, false, false, false, false] rfl rfl (any_of HT_.out (by kernel_rfl)) (fun _ _ _ h => h) (Or.inl ⟨by rfl, ?_⟩) ?_ ?_
         rotate_left
         ·intro w'
          go_simp
          with_reducible rfl
         rotate_left
         ·simp only [Act.put, s1, s2, s3, i64_w, i32_w]
          rfl
         refine take_ (i := 1) (N := some 39) (v := ?_) (a' := ?_) #[true, true, true, false, true, false, true, false, false, false, false, false] rfl rfl (take_ofW HT_.out HW_.out (by kernel_rfl)) (fun _ _ _ h => h) (Or.inl ⟨by rfl, ?_⟩) hHeld ?_ ?_
         rotate_left
         ·rintro w' ⟨s0, s1⟩
          go_simp
          with_reducible rfl
         rotate_left
         ·simp only [Act.put, s1, s2, s3, i64_w, i32_w]
          rfl
         refine one_ (i := 3) (N := some 41) #[true, true, true, true, true, false, true, false, false, false, false, false] rfl rfl (one_of HT_.out (by kernel_rfl)) (by decide) (fun K hK => ?_)
         refine goes_ Try.func58 (by kernel_rfl) rfl #[.pointer (some ⟨g, 0, none⟩)] (by rfl) rfl rfl zl ?_
         with_reducible refine (spec_l71Field.calls k1 g s0_0 t209 t216 t217 t218 t219 w0 _ ?side1 ?side2 A60.out).mono ?_
         (case side1 => repeat (first | (with_reducible first | exact HI0.out | apply IsS85.alloc | apply IsS85.drewN | apply IsS85.drew | apply IsS85.set_1 | refine IsS85.far ?_ NB0_185.out _ | refine IsS85.far ?_ NB0_195.out _) | exact HI0.out))
         (case side2 => repeat (first | (with_reducible first | exact HB.out | apply below_alloc | apply pw_below_drewN | apply below_drew1 | refine below_set ?_ (IsS85.ge HI0.out) | refine below_set ?_ GE185.out | refine below_set ?_ GE195.out) | exact HB.out))
         rintro e w66 ⟨rfl, hi, hb, hk⟩
         refine ⟨_, rfl, ?_⟩
         have n0_ := Aside0.mk (Kd.R_mono (Kd.R_keep (IsS85.apart (show IsS85 w0 _ g s0_0 t209 from by repeat (first | (with_reducible first | exact HI0.out | apply IsS85.alloc | apply IsS85.drewN | apply IsS85.drew | apply IsS85.set_1 | refine IsS85.far ?_ NB0_185.out _ | refine IsS85.far ?_ NB0_195.out _) | exact HI0.out)) (zr HO_196000) (by decide)) hk (fun _ h => h.2)) (fun _ h => h.1))
         have n1_ := Aside0.mk (KeepBut.blk hk (g' := gb185) (o := .cells #[.slice none 0 0, .int .i64 0] 25 (0, 0)) (zk BK185) NB185_0.out (by simp))
         have n2_ := Aside0.mk (KeepBut.blk hk (g' := gb195) (o := .cells #[u196000, .int .i64 x196001_1] 25 (0, 0)) (zk BK195) NB195_0.out (by simp))
         have n3_ := Aside0.mk (KeepBut.trans (zh HK) hk (.inl rfl))
         have n4_ := Aside0.mk (hb)
         have n5_ := Aside0.mk (hi)
         clear HO_196000
         clear BK185
         clear BK195
         clear HK
         clear HB
         clear HI0
         have HO_196000 := n0_
         have BK185 := n1_
         have BK195 := n2_
         have HK := n3_
         have HB := n4_
         have HI0 := n5_
         clear n0_ n1_ n2_ n3_ n4_ n5_
         (try clear hb)
         (try clear hb2)
         (try clear hk)
         (try clear hi)
         refine hK.out _ _ ⟨(blk_cell BK195.out 0).trans rfl, (blk_cell BK195.out 1).trans rfl⟩ (fun hHeld => ?_)
         clear hK K
         refine norm_ (a' := ?_) ?_ ?_
         rotate_left
         ·show Act.put _ (some 41) _ = _
          simp only [Act.put, s1, s2, s3, i64_w, i32_w]
          rfl
         refine one_ (i := 5) (N := some 43) #[true, true, true, true, true, true, true, false, false, false, false, false] rfl rfl (one_of HT_.out (by kernel_rfl)) (by decide) (fun K hK => ?_)
         refine goes_ Try.func58 (by kernel_rfl) rfl #[.pointer (some ⟨g, 0, none⟩)] (by rfl) rfl rfl zl ?_
         with_reducible refine (spec_l71Field.calls k1 g s0_0 t219 t220 t221 t222 t223 w0 _ ?side1 ?side2 A61.out).mono ?_
         (case side1 => repeat (first | (with_reducible first | exact HI0.out | apply IsS85.alloc | apply IsS85.drewN | apply IsS85.drew | apply IsS85.set_1 | refine IsS85.far ?_ NB0_185.out _ | refine IsS85.far ?_ NB0_195.out _) | exact HI0.out))
         (case side2 => repeat (first | (with_reducible first | exact HB.out | apply below_alloc | apply pw_below_drewN | apply below_drew1 | refine below_set ?_ (IsS85.ge HI0.out) | refine below_set ?_ GE185.out | refine below_set ?_ GE195.out) | exact HB.out))
         rintro e w67 ⟨rfl, hi, hb, hk⟩
         refine ⟨_, rfl, ?_⟩
         have n0_ := Aside0.mk (Kd.R_mono (Kd.R_keep (IsS85.apart (show IsS85 w0 _ g s0_0 t219 from by repeat (first | (with_reducible first | exact HI0.out | apply IsS85.alloc | apply IsS85.drewN | apply IsS85.drew | apply IsS85.set_1 | refine IsS85.far ?_ NB0_185.out _ | refine IsS85.far ?_ NB0_195.out _) | exact HI0.out)) (zr HO_196000) (by decide)) hk (fun _ h => h.2)) (fun _ h => h.1))
         have n1_ := Aside0.mk (KeepBut.blk hk (g' := gb185) (o := .cells #[.slice none 0 0, .int .i64 0] 25 (0, 0)) (zk BK185) NB185_0.out (by simp))
         have n2_ := Aside0.mk (KeepBut.blk hk (g' := gb195) (o := .cells #[u196000, .int .i64 x196001_1] 25 (0, 0)) (zk BK195) NB195_0.out (by simp))
         have n3_ := Aside0.mk (KeepBut.trans (zh HK) hk (.inl rfl))
         have n4_ := Aside0.mk (hb)
         have n5_ := Aside0.mk (hi)
         clear HO_196000
         clear BK185
         clear BK195
         clear HK
         clear HB
         clear HI0
         have HO_196000 := n0_
         have BK185 := n1_
         have BK195 := n2_
         have HK := n3_
         have HB := n4_
         have HI0 := n5_
         clear n0_ n1_ n2_ n3_ n4_ n5_
         (try clear hb)
         (try clear hb2)
         (try clear hk)
         (try clear hi)
         refine hK.out _ _ ⟨(blk_cell BK195.out 0).trans rfl, (blk_cell BK195.out 1).trans rfl⟩ (fun hHeld => ?_)
         clear hK K
         refine norm_ (a' := ?_) ?_ ?_
         rotate_left
         ·show Act.put _ (some 43) _ = _
          simp only [Act.put, s1, s2, s3, i64_w, i32_w]
          rfl
         refine one_ (i := 7) (N := some 45) #[true, true, true, true, true, true, true, true, false, false, false, false] rfl rfl (one_of HT_.out (by kernel_rfl)) (by decide) (fun K hK => ?_)
         refine goes_ Try.func58 (by kernel_rfl) rfl #[.pointer (some ⟨g, 0, none⟩)] (by rfl) rfl rfl zl ?_
         with_reducible refine (spec_l71Field.calls k1 g s0_0 t223 t224 t225 t226 t227 w0 _ ?side1 ?side2 A62.out).mono ?_
         (case side1 => repeat (first | (with_reducible first | exact HI0.out | apply IsS85.alloc | apply IsS85.drewN | apply IsS85.drew | apply IsS85.set_1 | refine IsS85.far ?_ NB0_185.out _ | refine IsS85.far ?_ NB0_195.out _) | exact HI0.out))
         (case side2 => repeat (first | (with_reducible first | exact HB.out | apply below_alloc | apply pw_below_drewN | apply below_drew1 | refine below_set ?_ (IsS85.ge HI0.out) | refine below_set ?_ GE185.out | refine below_set ?_ GE195.out) | exact HB.out))
         rintro e w68 ⟨rfl, hi, hb, hk⟩
         refine ⟨_, rfl, ?_⟩
         have n0_ := Aside0.mk (Kd.R_mono (Kd.R_keep (IsS85.apart (show IsS85 w0 _ g s0_0 t223 from by repeat (first | (with_reducible first | exact HI0.out | apply IsS85.alloc | apply IsS85.drewN | apply IsS85.drew | apply IsS85.set_1 | refine IsS85.far ?_ NB0_185.out _ | refine IsS85.far ?_ NB0_195.out _) | exact HI0.out)) (zr HO_196000) (by decide)) hk (fun _ h => h.2)) (fun _ h => h.1))
         have n1_ := Aside0.mk (KeepBut.blk hk (g' := gb185) (o := .cells #[.slice none 0 0, .int .i64 0] 25 (0, 0)) (zk BK185) NB185_0.out (by simp))
         have n2_ := Aside0.mk (KeepBut.blk hk (g' := gb195) (o := .cells #[u196000, .int .i64 x196001_1] 25 (0, 0)) (zk BK195) NB195_0.out (by simp))
         have n3_ := Aside0.mk (KeepBut.trans (zh HK) hk (.inl rfl))
         have n4_ := Aside0.mk (hb)
         have n5_ := Aside0.mk (hi)
         clear HO_196000
         clear BK185
         clear BK195
         clear HK
         clear HB
         clear HI0
         have HO_196000 := n0_
         have BK185 := n1_
         have BK195 := n2_
         have HK := n3_
         have HB := n4_
         have HI0 := n5_
         clear n0_ n1_ n2_ n3_ n4_ n5_
         (try clear hb)
         (try clear hb2)
         (try clear hk)
         (try clear hi)
         refine hK.out _ _ ⟨(blk_cell BK195.out 0).trans rfl, (blk_cell BK195.out 1).trans rfl⟩ (fun hHeld => ?_)
         clear hK K
         refine norm_ (a' := ?_) ?_ ?_
         rotate_left
         ·show Act.put _ (some 45) _ = _
          simp only [Act.put, s1, s2, s3, i64_w, i32_w]
          rfl
         refine one_ (i := 8) (N := some 46) #[true, true, true, true, true, true, true, true, true, false, false, false] rfl rfl (one_of HT_.out (by kernel_rfl)) (by decide) (fun K hK => ?_)
         refine Kd.R_lit_step k36 _ 36 ?hg (N := 46) ?hd (xs := ([(⟨t216, t217, t218⟩ : S36), (⟨t220, t221, t222⟩ : S36), (⟨t224, t225, t226⟩ : S36)] : List (S36))) (inner := [.string t216, .string t217, .bool t218, .string t220, .string t221, .bool t222, .string t224, .string t225, .bool t226]) (ok := fun _ => True) (okp := fun _ => True) ?hr ?hp (fun _ hk => hk) trivial (Below.refl _ _) (Nat.le_refl _) (by simp) ?_; (case hd => rfl); (case hg => rfl); (case hr => first | (go_simp; done) | (go_simp; rfl)); (case hp => exact (Reps.c3 (show Kd.M k36 _ _ _ (⟨t216, t217, t218⟩ : S36) [.string t216, .string t217, .bool t218] from (k36_mkM _ _ _ (⟨t216, t217, t218⟩ : S36) )) (Reps.c3 (show Kd.M k36 _ _ _ (⟨t220, t221, t222⟩ : S36) [.string t220, .string t221, .bool t222] from (k36_mkM _ _ _ (⟨t220, t221, t222⟩ : S36) )) (Reps.c3 (show Kd.M k36 _ _ _ (⟨t224, t225, t226⟩ : S36) [.string t224, .string t225, .bool t226] from (k36_mkM _ _ _ (⟨t224, t225, t226⟩ : S36) )) (Reps.none _ _)))))
         intro v229 w69 ho70 hb hg_ hnew_
         clear hg_ hnew_
         (first | rw [← Ny228.out] at ho70 | (simp only [Int.reduceToNat] at ho70; rw [← Ny228.out] at ho70))
         have n0_ := Aside0.mk (Kd.R_elder' (zr HO_196000) (Kd.R_base ho70) hb)
         have n1_ := Aside0.mk (Kd.R_lower (Kd.R_new' ho70 (Kd.R_lt (zr HO_196000))) (keep_size (w := w) (g := g) (row := none) (zh HK)))
         have n2_ := Aside0.mk (blk_below (g := gb185) (o := .cells #[.slice none 0 0, .int .i64 0] 25 (0, 0)) (zk BK185) hb)
         have n3_ := Aside0.mk (blk_below (g := gb195) (o := .cells #[u196000, .int .i64 x196001_1] 25 (0, 0)) (zk BK195) hb)
         have n4_ := Aside0.mk (IsS85.below (by repeat (first | (with_reducible first | exact HI0.out | apply IsS85.alloc | apply IsS85.drewN | apply IsS85.drew | apply IsS85.set_1 | refine IsS85.far ?_ NB0_185.out _ | refine IsS85.far ?_ NB0_195.out _) | exact HI0.out)) hb)
         have n5_ := Aside0.mk (KeepBut.trans (zh HK) (KeepBut.of_below hb g none) (.inl rfl))
         have n6_ := Aside0.mk (below_step (by repeat (first | (with_reducible first | exact HB.out | apply below_alloc | apply pw_below_drewN | apply below_drew1 | refine below_set ?_ (IsS85.ge HI0.out) | refine below_set ?_ GE185.out | refine below_set ?_ GE195.out) | exact HB.out)) hb)
         clear HO_196000
         clear BK185
         clear BK195
         clear HI0
         clear HK
         clear HB
         have HO_196000 := n0_
         have HO230 := n1_
         have BK185 := n2_
         have BK195 := n3_
         have HI0 := n4_
         have HK := n5_
         have HB := n6_
         clear n0_ n1_ n2_ n3_ n4_ n5_ n6_
         clear hb ho70
         obtain ⟨Ao72, co72, eo72⟩ := Kd.R_slice HO230.out
         (first | subst eo72 | (injection eo72 with f1_ f2_ f3_; have f4_ := f1_.symm; have f5_ := f3_.symm; clear f1_ f2_ f3_; subst f4_; subst f5_))
         refine hK.out _ _ ⟨(blk_cell BK195.out 0).trans rfl, (blk_cell BK195.out 1).trans rfl⟩ (fun hHeld => ?_)
         clear hK K
         refine norm_ (a' := ?_) ?_ ?_
         rotate_left
         ·show Act.put _ (some 46) _ = _
          simp only [Act.put, s1, s2, s3, i64_w, i32_w]
          rfl
         refine one_ (i := 9) (N := some 47) #[true, true, true, true, true, true, true, true, true, true, false, false] rfl rfl (one_of HT_.out (by kernel_rfl)) (by decide) (fun K hK => ?_)
         refine Kd.R_append_rows_step k36 w.heap.size (by rfl) (.tmp 39) (.tmp 46) 23 36 (.agg #[(.string ⟨#[]⟩), (.string ⟨#[]⟩), (.bool false)]) 40 rfl Try.underlying23 info36 rfl (by decide) (by omega) u196000 x196000_1 y228 _ _ _ (fun k_ => some k_ ≠ (.slice Ao72 y228.length co72 : Value).ownBlock) (fun _ => False) rfl rfl ?aO ?aR (fun _ _ h => h) (fun _ h => h.elim) ?aF (Below.refl _ _) ?aS ?aL ?_
         (case aR => repeat (first | exact (Kd.R_reads' HO230.out).2.2 | (with_reducible refine Kd.C_alloc ?_ _) | (with_reducible refine Kd.C_drewN ?_ _) | (with_reducible refine Kd.C_drew ?_)))
         (case aF => exact (fun k_ hk => Kd.fresh' (Kd.R_lt (zr HO230)) k_ hk))
         (case aO => exact (by (with_reducible repeat (first | apply Kd.R_alloc | apply Kd.R_drewN | apply Kd.R_drew)); exact Kd.R_mono HO_196000.out (fun _ hk => hk.2)))
         (case aS => exact (keep_size (w := w) (g := g) (row := none) (zh HK)))
         (case aL => have := LMc63.out; omega)
         intro v232 w71 ho hb hg hat
         rw [← Ny231.out] at ho
         have n0_ := Aside0.mk (blk_grown (g := gb185) (o := .cells #[.slice none 0 0, .int .i64 0] 25 (0, 0)) (zk BK185) hg (Kd.R_ne HO_196000.out BK185.out (by decide)))
         have n1_ := Aside0.mk (blk_grown (g := gb195) (o := .cells #[u196000, .int .i64 x196001_1] 25 (0, 0)) (zk BK195) hg (Kd.R_ne HO_196000.out BK195.out (by decide)))
         have n2_ := Aside0.mk (IsS85.grown (by repeat (first | (with_reducible first | exact HI0.out | apply IsS85.alloc | apply IsS85.drewN | apply IsS85.drew | apply IsS85.set_1 | refine IsS85.far ?_ NB0_185.out _ | refine IsS85.far ?_ NB0_195.out _) | exact HI0.out)) hg (IsS85.own_ne HI0.out HO_196000.out (by decide)))
         have n3_ := Aside0.mk (Kd.R_after (ok := (fun _ => True)) (zr HO230) hg hat)
         have n4_ := Aside0.mk (below_weaken (by repeat (first | (with_reducible first | exact HB.out | apply below_alloc | apply pw_below_drewN | apply below_drew1 | refine below_set ?_ (IsS85.ge HI0.out) | refine below_set ?_ GE185.out | refine below_set ?_ GE195.out) | exact HB.out)) HL.out hb)
         have n5_ := Aside0.mk (KeepBut.trans (zh HK) (KeepBut.of_grown hg g) (Kd.R_base2 HO_196000.out))
         have n6_ := Aside0.mk (ho)
         clear BK185
         clear BK195
         clear HI0
         clear HO230
         clear HB
         clear HK
         clear HO_196000
         have BK185 := n0_
         have BK195 := n1_
         have HI0 := n2_
         have HO230 := n3_
         have HB := n4_
         have HK := n5_
         have HO233 := n6_
         clear n0_ n1_ n2_ n3_ n4_ n5_ n6_
         clear ho hb hg hat
         obtain ⟨Ao73, co73, eo73⟩ := Kd.R_slice HO233.out
         (first | subst eo73 | (injection eo73 with f1_ f2_ f3_; have f4_ := f1_.symm; have f5_ := f3_.symm; clear f1_ f2_ f3_; subst f4_; subst f5_))
         refine hK.out _ _ ⟨(blk_cell BK195.out 0).trans rfl, (blk_cell BK195.out 1).trans rfl⟩ (fun hHeld => ?_)
         clear hK K
         refine norm_ (a' := ?_) ?_ ?_
         rotate_left
         ·show Act.put _ (some 47) _ = _
          simp only [Act.put, s1, s2, s3, i64_w, i32_w]
          rfl
         refine pure_ (i := 10) (N := some 48) (v := ?_) (a' := ?_) #[true, true, true, true, true, true, true, true, true, true, true, false] rfl rfl (any_of HT_.out (by kernel_rfl)) (fun _ _ _ h => h) (Or.inl ⟨by rfl, ?_⟩) ?_ ?_
         rotate_left
         ·intro w'
          go_simp
          with_reducible rfl
         rotate_left
         ·simp only [Act.put, s1, s2, s3, i64_w, i32_w]
          rfl
         refine last_ (i := 11) (N := none) #[true, true, true, true, true, true, true, true, true, true, true, true] rfl rfl (one_of HT_.out (by kernel_rfl)) (by decide) (fun K hK => ?_)
         have hs74 : w71.cell? ⟨gb195, 0, none⟩ = some (u196000) := (blk_cell BK195.out 0).trans rfl
         have hfs74 := blk_frozen BK195.out 0
         have hns74_0 := NB185_195.out
         have hms74_0 := NB195_185.out
         refine skip_ (w1 := ?_) (by rfl) rfl ?_ ?_
         rotate_left
         ·go_simp
          rfl
         refine hK.out _ _ ?_
         clear hK K
         refine done_ (done_of HT_.out (by kernel_rfl)) ?_
         have hnb75 := NB195_185.out
         have hnc75 := NB185_195.out
         have hnb76 := NB195_0.out
         have hnc76 := NB0_195.out
         have hcz77_0 : w71.cell? ⟨gb195, 0, none⟩ = some (u196000) := (blk_cell BK195.out 0).trans rfl
         have hcz77_1 : w71.cell? ⟨gb195, 1, none⟩ = some (.int .i64 x196001_1) := (blk_cell BK195.out 1).trans rfl
         have hfz77_0 := blk_frozen BK195.out 0
         have hfz77_1 := blk_frozen BK195.out 1
         have hnb78 := NB185_0.out
         have hnc78 := NB0_185.out
         have hcz79_0 : w71.cell? ⟨gb185, 0, none⟩ = some (.slice none 0 0) := (blk_cell BK185.out 0).trans rfl
         have hcz79_1 : w71.cell? ⟨gb185, 1, none⟩ = some (.int .i64 0) := (blk_cell BK185.out 1).trans rfl
         have hfz79_0 := blk_frozen BK185.out 0
         have hfz79_1 := blk_frozen BK185.out 1
         try go_wp2
         refine bodyPost_ret (results_cell_row rfl _ _ gb185 25 #[.slice Ao73 y231.length co73, .int .i64 x196001_1] (0, 0) _ rfl (by (with_reducible repeat (first | refine blk_drewN ?_ _ | refine blk_drew ?_ | refine blk_alloc ?_ _)); refine blk_put (cs := #[.slice Ao73 y231.length co73, .int .i64 0]) ?_ 1 _ rfl; (with_reducible repeat (first | refine blk_drewN ?_ _ | refine blk_drew ?_ | refine blk_alloc ?_ _)); refine blk_put (cs := #[.slice none 0 0, .int .i64 0]) ?_ 0 _ rfl; (with_reducible repeat (first | refine blk_drewN ?_ _ | refine blk_drew ?_ | refine blk_alloc ?_ _)); refine blk_far ?_ NB185_195.out _; exact zk BK185) Try.underlying25 rfl (by kernel_rfl)) rfl ?_
         exact ⟨_, ze, by (with_reducible repeat (first | apply Kd.R_alloc | apply Kd.R_drewN | apply Kd.R_drew)); exact Kd.R_mono (Kd.R_far (p := ⟨gb185, 1, none⟩) (Kd.R_far (p := ⟨gb185, 0, none⟩) (Kd.R_far (p := ⟨gb195, 0, none⟩) (Kd.R_types (Kd.R_types HO233.out BK195.out (by decide)) BK185.out (by decide)) (fun _ hk => hk.1.2) (.slice Ao73 y231.length co73)) (fun _ hk => hk.2) (.slice Ao73 y231.length co73)) (fun _ hk => hk.2) (.int .i64 x196001_1)) (fun _ hk => trivial), by repeat (first | (with_reducible first | exact HI0.out | apply IsS85.alloc | apply IsS85.drewN | apply IsS85.drew | apply IsS85.set_1 | refine IsS85.far ?_ NB0_185.out _ | refine IsS85.far ?_ NB0_195.out _) | exact HI0.out), by repeat (first | (with_reducible first | exact HB.out | apply below_alloc | apply pw_below_drewN | apply below_drew1 | refine below_set ?_ (IsS85.ge HI0.out) | refine below_set ?_ GE185.out | refine below_set ?_ GE195.out) | exact HB.out), zh HK⟩
        ·rw [if_neg c63] at H
         exact absurd H (by simp)
       ·rw [if_neg c59] at H
        have c59b0 : (t208 == 1) = false := beq_eq_false_iff_ne.mpr c59
        have c59b1 : (t208 != 1) = true := bne_iff_ne.mpr c59
        simp only [Option.some.injEq, Prod.mk.injEq] at H
        obtain ⟨rfl, rfl, rfl⟩ := H
        go_wp2_with (first | ((with_reducible refine gate_callee (f := 47) rfl ?_); refine goesL_ (some 27) rfl rfl Try.func47 (by kernel_rfl) rfl #[.pointer (some ⟨g, 0, none⟩), .int .i64 24] rfl zl ?_; (with_reducible refine (spec_l6Rd_pick.calls k1 g s0_0 x1001_1 24 t208 t209 w0 _ ?side1 ?side2 A43.out).mono ?_); (case side1 => repeat (first | (with_reducible first | exact HI0.out | apply IsS85.alloc | apply IsS85.drewN | apply IsS85.drew | apply IsS85.set_1 | refine IsS85.far ?_ NB0_185.out _ | refine IsS85.far ?_ NB0_195.out _) | exact HI0.out)); (case side2 => repeat (first | (with_reducible first | exact HB.out | apply below_alloc | apply pw_below_drewN | apply below_drew1 | refine below_set ?_ (IsS85.ge HI0.out) | refine below_set ?_ GE185.out | refine below_set ?_ GE195.out) | exact HB.out)); rintro e w80 ⟨rfl, hi, hb, hk⟩; refine ⟨_, rfl, ?_⟩; have n0_ := Aside0.mk (Kd.R_mono (Kd.R_keep (IsS85.apart (show IsS85 w0 _ g s0_0 x1001_1 from by repeat (first | (with_reducible first | exact HI0.out | apply IsS85.alloc | apply IsS85.drewN | apply IsS85.drew | apply IsS85.set_1 | refine IsS85.far ?_ NB0_185.out _ | refine IsS85.far ?_ NB0_195.out _) | exact HI0.out)) (zr HO_196000) (by decide)) hk (fun _ h => h.2)) (fun _ h => h.1)); have n1_ := Aside0.mk (KeepBut.blk hk (g' := gb185) (o := .cells #[.slice none 0 0, .int .i64 0] 25 (0, 0)) (zk BK185) NB185_0.out (by simp)); have n2_ := Aside0.mk (KeepBut.blk hk (g' := gb195) (o := .cells #[u196000, .int .i64 x196001_1] 25 (0, 0)) (zk BK195) NB195_0.out (by simp)); have n3_ := Aside0.mk (KeepBut.trans (zh HK) hk (.inl rfl)); have n4_ := Aside0.mk (hb); have n5_ := Aside0.mk (hi); clear HO_196000; clear BK185; clear BK195; clear HK; clear HB; clear HI0; have HO_196000 := n0_; have BK185 := n1_; have BK195 := n2_; have HK := n3_; have HB := n4_; have HI0 := n5_; clear n0_ n1_ n2_ n3_ n4_ n5_; (try clear hb); (try clear hb2); (try clear hk); (try clear hi); have hnb81 := NB195_185.out; have hnc81 := NB185_195.out; have hnb82 := NB195_0.out; have hnc82 := NB0_195.out; have hcz83_0 : w80.cell? ⟨gb195, 0, none⟩ = some (u196000) := (blk_cell BK195.out 0).trans rfl; have hcz83_1 : w80.cell? ⟨gb195, 1, none⟩ = some (.int .i64 x196001_1) := (blk_cell BK195.out 1).trans rfl; have hfz83_0 := blk_frozen BK195.out 0; have hfz83_1 := blk_frozen BK195.out 1; obtain ⟨Ao84, co84, eo84⟩ := Kd.R_slice HO_196000.out; subst eo84; have hnb85 := NB185_0.out; have hnc85 := NB0_185.out; have hcz86_0 : w80.cell? ⟨gb185, 0, none⟩ = some (.slice none 0 0) := (blk_cell BK185.out 0).trans rfl; have hcz86_1 : w80.cell? ⟨gb185, 1, none⟩ = some (.int .i64 0) := (blk_cell BK185.out 1).trans rfl; have hfz86_0 := blk_frozen BK185.out 0; have hfz86_1 := blk_frozen BK185.out 1))
        refine bodyPost_ret (results_cell_row rfl _ _ gb185 25 #[.slice Ao84 x196000_1.length co84, .int .i64 x196001_1] (0, 0) _ rfl (by (with_reducible repeat (first | refine blk_drewN ?_ _ | refine blk_drew ?_ | refine blk_alloc ?_ _)); refine blk_put (cs := #[.slice Ao84 x196000_1.length co84, .int .i64 0]) ?_ 1 _ rfl; (with_reducible repeat (first | refine blk_drewN ?_ _ | refine blk_drew ?_ | refine blk_alloc ?_ _)); refine blk_put (cs := #[.slice none 0 0, .int .i64 0]) ?_ 0 _ rfl; exact zk BK185) Try.underlying25 rfl (by kernel_rfl)) rfl ?_
        exact ⟨_, ze, by (with_reducible repeat (first | apply Kd.R_alloc | apply Kd.R_drewN | apply Kd.R_drew)); exact Kd.R_mono (Kd.R_far (p := ⟨gb185, 1, none⟩) (Kd.R_far (p := ⟨gb185, 0, none⟩) (Kd.R_types HO_196000.out BK185.out (by decide)) (fun _ hk => hk.2) (.slice Ao84 x196000_1.length co84)) (fun _ hk => hk.2) (.int .i64 x196001_1)) (fun _ hk => trivial), by repeat (first | (with_reducible first | exact HI0.out | apply IsS85.alloc | apply IsS85.drewN | apply IsS85.drew | apply IsS85.set_1 | refine IsS85.far ?_ NB0_185.out _ | refine IsS85.far ?_ NB0_195.out _) | exact HI0.out), by repeat (first | (with_reducible first | exact HB.out | apply below_alloc | apply pw_below_drewN | apply below_drew1 | refine below_set ?_ (IsS85.ge HI0.out) | refine below_set ?_ GE185.out | refine below_set ?_ GE195.out) | exact HB.out), zh HK⟩
  ·rw [if_neg c4] at H
   exact absurd H (by simp)
 ·rw [if_neg c3] at H
  exact absurd H (by simp)

/-! ### spec_DrawTableLimit: function 15 -/
def spec_DrawTableLimit.f (k : Nat) (l0 : List Int) : Option ((List (S36)) × Int × Int) := (spec_l6Open.f l0).bind fun bt235 => ((spec_l71Table.f k bt235.1 bt235.2).bind fun bt238 => ((spec_l6Rd_pick.f k bt235.1 bt238.2.2 66).bind fun bt243 => ((spec_l6Rd_pick.f k bt235.1 bt243.2 24).bind fun bt245 => (some (bt238.1, bt238.2.1, wrap64 (bt243.1 - (wrap64 ((wrap64 (Int.tdiv bt245.1 23)) * 70))))))))
theorem spec_DrawTableLimit.mono : ∀ a0 k, LeO (spec_DrawTableLimit.f k a0) (spec_DrawTableLimit.f (k + 1) a0) := by
 intro a0 k
 unfold spec_DrawTableLimit.f
 repeat' first
   | (with_reducible exact spec_l6Rd_pick.mono _ _ _ _)
   | (with_reducible exact spec_l71Table.mono _ _ _)
   | (with_reducible exact LeO.refl _)
   | (with_reducible exact LeO.none _)
   | (with_reducible refine LeO.ite ?_ ?_)
   | (with_reducible refine LeO.bind ?_ (fun _ => ?_))
   | exact spec_l6Rd_pick.mono _ _ _ _
   | exact spec_l71Table.mono _ _ _
   | exact LeO.none _
   | refine LeO.ite ?_ ?_
   | refine LeO.bind ?_ (fun _ => ?_)
set_option maxHeartbeats 8000000 in
set_option maxRecDepth 100000 in
theorem spec_DrawTableLimit.calls (k : Nat) (A0 : Option Addr) (c0 : Nat) (l0 : List Int) (r1 : List (S36)) (r2 : Int) (r3 : Int) (w : World) (hr0 : Kd.C (Kd.int .u8) w A0 l0.length l0) (hc0 : l0.length ≤ c0) (h : spec_DrawTableLimit.f k l0 = some (r1, r2, r3)) :
  Calls Try.prog 15 #[.slice A0 l0.length c0] w fun e w' => ∃ v0_ : Value, e = .returned (.tuple #[.agg #[v0_, .int .i64 r2], .int .i64 r3]) ∧ Kd.R k36 36 w' w.heap.size (fun _ => True) v0_ r1 ∧ Below w.heap.size w w' := by
 have hu25 := Try.underlying25
 have HR0 := Aside0.mk hr0
 have HC0 := Aside0.mk hc0
 clear hr0 hc0
 have HB := Aside0.mk (Below.refl w.heap.size w)
 have H : ((spec_l6Open.f l0).bind fun bt235 => ((spec_l71Table.f k bt235.1 bt235.2).bind fun bt238 => ((spec_l6Rd_pick.f k bt235.1 bt238.2.2 66).bind fun bt243 => ((spec_l6Rd_pick.f k bt235.1 bt243.2 24).bind fun bt245 => (some (bt238.1, bt238.2.1, wrap64 (bt243.1 - (wrap64 ((wrap64 (Int.tdiv bt245.1 23)) * 70))))))))) = some (r1, r2, r3) := h
 clear h
 replace H := Option.bind_eq_some_iff.mp H
 obtain ⟨⟨t235, t236⟩, A20, H⟩ := H
 replace H : ((spec_l71Table.f k t235 t236).bind fun bt238 => ((spec_l6Rd_pick.f k t235 bt238.2.2 66).bind fun bt243 => ((spec_l6Rd_pick.f k t235 bt243.2 24).bind fun bt245 => (some (bt238.1, bt238.2.1, wrap64 (bt243.1 - (wrap64 ((wrap64 (Int.tdiv bt245.1 23)) * 70)))))))) = some (r1, r2, r3) := H
 have A2 := Aside0.mk A20
 clear A20
 replace H := Option.bind_eq_some_iff.mp H
 obtain ⟨⟨t238, t241, t242⟩, A30, H⟩ := H
 replace H : ((spec_l6Rd_pick.f k t235 t242 66).bind fun bt243 => ((spec_l6Rd_pick.f k t235 bt243.2 24).bind fun bt245 => (some (t238, t241, wrap64 (bt243.1 - (wrap64 ((wrap64 (Int.tdiv bt245.1 23)) * 70))))))) = some (r1, r2, r3) := H
 have A3 := Aside0.mk A30
 clear A30
 replace H := Option.bind_eq_some_iff.mp H
 obtain ⟨⟨t243, t244⟩, A40, H⟩ := H
 replace H : ((spec_l6Rd_pick.f k t235 t244 24).bind fun bt245 => (some (t238, t241, wrap64 (t243 - (wrap64 ((wrap64 (Int.tdiv bt245.1 23)) * 70)))))) = some (r1, r2, r3) := H
 have A4 := Aside0.mk A40
 clear A40
 replace H := Option.bind_eq_some_iff.mp H
 obtain ⟨⟨t245, t246⟩, A50, H⟩ := H
 replace H : (some (t238, t241, wrap64 (t243 - (wrap64 ((wrap64 (Int.tdiv t245 23)) * 70))))) = some (r1, r2, r3) := H
 have A5 := Aside0.mk A50
 clear A50
 simp only [Option.some.injEq, Prod.mk.injEq] at H
 obtain ⟨rfl, rfl, rfl⟩ := H
 go_enter Try.func15, Try.ntmps15
 go_wp2_with (first | ((with_reducible refine gate_dst (N := 2) rfl ?_); refine box_event ?hg (N := 2) ?hd (cs := #[.slice none 0 0, .int .i64 0]) (t := 25) ?hr ?_; (case hd => rfl); (case hg => rfl); (case hr => first | (go_simp; done) | (go_simp; rfl)); intro gb234 hg w6 hbox hb; have n0_ := Aside0.mk (below_step (zb HB) hb); have n1_ := Aside0.mk (hbox); have n2_ := Aside0.mk ((by rw [hg]; exact (below_size (zb HB)) : w.heap.size ≤ gb234)); have n3_ := Aside0.mk ((by rw [hg]; exact (below_size (zb HB)) : w.heap.size ≤ gb234)); clear HB; have HB := n0_; have BK234 := n1_; have GW234 := n2_; have GE234 := n3_; clear n0_ n1_ n2_ n3_; clear hb hbox hg) | ((with_reducible refine gate_callee (f := 45) rfl ?_); refine goesL_ (some 6) rfl rfl Try.func45 (by kernel_rfl) rfl #[.slice A0 l0.length c0] rfl zl ?_; (with_reducible refine (spec_l6Open.calls _ _ l0 t235 t236 w _ ?side1 ?side2 ?side3 A2.out).mono ?_); (case side1 => repeat (first | (with_reducible first | exact HB.out | apply below_alloc | apply pw_below_drewN | apply below_drew1 | refine below_set ?_ GE234.out) | exact HB.out)); (case side2 => exact HR0.out); (case side3 => exact HC0.out); rintro e w7 ⟨g237, rfl, hi, hb, hb2⟩; refine ⟨_, rfl, ?_⟩; have n0_ := Aside0.mk (blk_below (g := gb234) (o := .cells #[.slice none 0 0, .int .i64 0] 25 (0, 0)) (zk BK234) hb2); have n1_ := Aside0.mk (hb); have n2_ := Aside0.mk (hi); have n3_ := Aside0.mk (IsS85.ne_blk hi (blk_below (g := gb234) (o := .cells #[.slice none 0 0, .int .i64 0] 25 (0, 0)) (zk BK234) hb2) (by decide)); have n4_ := Aside0.mk (Ne.symm (IsS85.ne_blk hi (blk_below (g := gb234) (o := .cells #[.slice none 0 0, .int .i64 0] 25 (0, 0)) (zk BK234) hb2) (by decide))); clear BK234; clear HB; have BK234 := n0_; have HB := n1_; have HI237 := n2_; have NB237_234 := n3_; have NB234_237 := n4_; clear n0_ n1_ n2_ n3_ n4_; (try clear hb); (try clear hb2); (try clear hk); (try clear hi)) | ((with_reducible refine gate_callee (f := 46) rfl ?_); refine goesL_ (some 8) rfl rfl Try.func46 (by kernel_rfl) rfl #[.pointer (some ⟨g237, 0, none⟩)] rfl zl ?_; (with_reducible refine (spec_l71Table.calls k g237 t235 t236 t238 t241 t242 w _ ?side1 ?side2 A3.out).mono ?_); (case side1 => repeat (first | (with_reducible first | exact HI237.out | apply IsS85.alloc | apply IsS85.drewN | apply IsS85.drew | apply IsS85.set_1 | refine IsS85.far ?_ NB237_234.out _) | exact HI237.out)); (case side2 => repeat (first | (with_reducible first | exact HB.out | apply below_alloc | apply pw_below_drewN | apply below_drew1 | refine below_set ?_ (IsS85.ge HI237.out) | refine below_set ?_ GE234.out) | exact HB.out)); rintro e w8 ⟨v239, rfl, ho0, hi, hb, hk⟩; refine ⟨_, rfl, ?_⟩; have n0_ := Aside0.mk (KeepBut.blk hk (g' := gb234) (o := .cells #[.slice none 0 0, .int .i64 0] 25 (0, 0)) (zk BK234) NB234_237.out (by simp)); have n1_ := Aside0.mk (Kd.R_lower ho0 (below_size (by repeat (first | (with_reducible first | exact HB.out | apply below_alloc | apply pw_below_drewN | apply below_drew1 | refine below_set ?_ (IsS85.ge HI237.out) | refine below_set ?_ GE234.out) | exact HB.out)))); have n2_ := Aside0.mk (hb); have n3_ := Aside0.mk (hi); clear BK234; clear HB; clear HI237; have BK234 := n0_; have HO240 := n1_; have HB := n2_; have HI237 := n3_; clear n0_ n1_ n2_ n3_; (try clear hb); (try clear hb2); (try clear hk); (try clear hi); (try clear ho0)) | ((with_reducible refine gate_callee (f := 47) rfl ?_); refine goesL_ (some 10) rfl rfl Try.func47 (by kernel_rfl) rfl #[.pointer (some ⟨g237, 0, none⟩), .int .i64 66] rfl zl ?_; (with_reducible refine (spec_l6Rd_pick.calls k g237 t235 t242 66 t243 t244 w _ ?side1 ?side2 A4.out).mono ?_); (case side1 => repeat (first | (with_reducible first | exact HI237.out | apply IsS85.alloc | apply IsS85.drewN | apply IsS85.drew | apply IsS85.set_1 | refine IsS85.far ?_ NB237_234.out _) | exact HI237.out)); (case side2 => repeat (first | (with_reducible first | exact HB.out | apply below_alloc | apply pw_below_drewN | apply below_drew1 | refine below_set ?_ (IsS85.ge HI237.out) | refine below_set ?_ GE234.out) | exact HB.out)); rintro e w9 ⟨rfl, hi, hb, hk⟩; refine ⟨_, rfl, ?_⟩; have n0_ := Aside0.mk (KeepBut.blk hk (g' := gb234) (o := .cells #[.slice none 0 0, .int .i64 0] 25 (0, 0)) (zk BK234) NB234_237.out (by simp)); have n1_ := Aside0.mk (Kd.R_mono (Kd.R_keep (IsS85.apart (show IsS85 w _ g237 t235 t242 from by repeat (first | (with_reducible first | exact HI237.out | apply IsS85.alloc | apply IsS85.drewN | apply IsS85.drew | apply IsS85.set_1 | refine IsS85.far ?_ NB237_234.out _) | exact HI237.out)) (zr HO240) (by decide)) hk (fun _ h => h.2)) (fun _ h => h.1)); have n2_ := Aside0.mk (hb); have n3_ := Aside0.mk (hi); clear BK234; clear HO240; clear HB; clear HI237; have BK234 := n0_; have HO240 := n1_; have HB := n2_; have HI237 := n3_; clear n0_ n1_ n2_ n3_; (try clear hb); (try clear hb2); (try clear hk); (try clear hi)) | ((with_reducible refine gate_callee (f := 47) rfl ?_); refine goesL_ (some 12) rfl rfl Try.func47 (by kernel_rfl) rfl #[.pointer (some ⟨g237, 0, none⟩), .int .i64 24] rfl zl ?_; (with_reducible refine (spec_l6Rd_pick.calls k g237 t235 t244 24 t245 t246 w _ ?side1 ?side2 A5.out).mono ?_); (case side1 => repeat (first | (with_reducible first | exact HI237.out | apply IsS85.alloc | apply IsS85.drewN | apply IsS85.drew | apply IsS85.set_1 | refine IsS85.far ?_ NB237_234.out _) | exact HI237.out)); (case side2 => repeat (first | (with_reducible first | exact HB.out | apply below_alloc | apply pw_below_drewN | apply below_drew1 | refine below_set ?_ (IsS85.ge HI237.out) | refine below_set ?_ GE234.out) | exact HB.out)); rintro e w10 ⟨rfl, hi, hb, hk⟩; refine ⟨_, rfl, ?_⟩; have n0_ := Aside0.mk (KeepBut.blk hk (g' := gb234) (o := .cells #[.slice none 0 0, .int .i64 0] 25 (0, 0)) (zk BK234) NB234_237.out (by simp)); have n1_ := Aside0.mk (Kd.R_mono (Kd.R_keep (IsS85.apart (show IsS85 w _ g237 t235 t244 from by repeat (first | (with_reducible first | exact HI237.out | apply IsS85.alloc | apply IsS85.drewN | apply IsS85.drew | apply IsS85.set_1 | refine IsS85.far ?_ NB237_234.out _) | exact HI237.out)) (zr HO240) (by decide)) hk (fun _ h => h.2)) (fun _ h => h.1)); have n2_ := Aside0.mk (hb); have n3_ := Aside0.mk (hi); clear BK234; clear HO240; clear HB; clear HI237; have BK234 := n0_; have HO240 := n1_; have HB := n2_; have HI237 := n3_; clear n0_ n1_ n2_ n3_; (try clear hb); (try clear hb2); (try clear hk); (try clear hi); obtain ⟨Ao11, co11, eo11⟩ := Kd.R_slice HO240.out; subst eo11; have hnb12 := NB234_237.out; have hnc12 := NB237_234.out; have hcz13_0 : w10.cell? ⟨gb234, 0, none⟩ = some (.slice none 0 0) := (blk_cell BK234.out 0).trans rfl; have hcz13_1 : w10.cell? ⟨gb234, 1, none⟩ = some (.int .i64 0) := (blk_cell BK234.out 1).trans rfl; have hfz13_0 := blk_frozen BK234.out 0; have hfz13_1 := blk_frozen BK234.out 1))
 refine bodyPost_ret (results_ct rfl _ _ gb234 25 #[.slice Ao11 t238.length co11, .int .i64 t241] (0, 0) _ rfl (by (with_reducible repeat (first | refine blk_drewN ?_ _ | refine blk_drew ?_ | refine blk_alloc ?_ _)); refine blk_put (cs := #[.slice Ao11 t238.length co11, .int .i64 0]) ?_ 1 _ rfl; (with_reducible repeat (first | refine blk_drewN ?_ _ | refine blk_drew ?_ | refine blk_alloc ?_ _)); refine blk_put (cs := #[.slice none 0 0, .int .i64 0]) ?_ 0 _ rfl; exact zk BK234) Try.underlying25 rfl (by kernel_rfl)) rfl ?_
 exact ⟨_, ze, by (with_reducible repeat (first | apply Kd.R_alloc | apply Kd.R_drewN | apply Kd.R_drew)); exact Kd.R_mono (Kd.R_far (p := ⟨gb234, 1, none⟩) (Kd.R_far (p := ⟨gb234, 0, none⟩) (Kd.R_types HO240.out BK234.out (by decide)) (fun _ hk => hk.2) (.slice Ao11 t238.length co11)) (fun _ hk => hk.2) (.int .i64 t241)) (fun _ hk => trivial), by repeat (first | (with_reducible first | exact HB.out | apply below_alloc | apply pw_below_drewN | apply below_drew1 | refine below_set ?_ (IsS85.ge HI237.out) | refine below_set ?_ GE234.out) | exact HB.out)⟩

end Go.Proofs.Ytdhahifdcoinhaa.PFnLimitTwice
