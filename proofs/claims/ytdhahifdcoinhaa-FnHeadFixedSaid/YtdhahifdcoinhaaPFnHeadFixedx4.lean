-- WRITTEN BY a turned print (wip/tools of the prover's repo)
import Derived.Test.YtdhahifdcoinhaaPFnHeadFixedx0
import Derived.Test.YtdhahifdcoinhaaPFnHeadFixedx2
import Derived.Test.YtdhahifdcoinhaaPFnHeadFixedx3
namespace Go.Proofs.Ytdhahifdcoinhaa.PFnHeadFixed
open Go.RowKit Go.Proofs.YtdhahifdcoinhaaW.PrintWords Go.Proofs.YtdhahifdcoinhaaW.PrintLast Go.Proofs.YtdhahifdcoinhaaW.PrintMore Go.Proofs.Ytdhahifdcoinhaa.Lm
attribute [local go_sem] max2_int min2_int max_two min_two max_three min_three max_four min_four   -- for this text's walks alone
set_option linter.unusedVariables false
set_option linter.unusedSimpArgs false

/-! ### spec_l3Add: function 60 -/
-- thin
def spec_l3Add.f (k : Nat) (l0_0 : List (S36)) (a0_1 : Int) (a1_0 : ByteArray) (a1_1 : ByteArray) (a1_2 : Bool) : Option ((List (S36)) × Int) := (some (([(⟨a1_0, a1_1, false⟩ : S36)] : List (S36)) : List (S36))).bind fun y189 => (if y189.length + l0_0.length < 3518437208883 then ((spec_l3Fit.f k (y189 ++ l0_0) a0_1).bind fun bt195 => (some (bt195.1, bt195.2))) else (none))
theorem spec_l3Add.mono : ∀ a0 a1 a2 a3 a4 k, LeO (spec_l3Add.f k a0 a1 a2 a3 a4) (spec_l3Add.f (k + 1) a0 a1 a2 a3 a4) := by
 intro a0 a1 a2 a3 a4 k
 unfold spec_l3Add.f
 have m0 := @spec_l3Fit.mono
 exact zm
def spec_l3Add.T2 : Bool × List (List Nat × List Nat) := (true, [([], []), ([0], [0]), ([], []), ([2], [2]), ([1, 3], [1, 3]), ([], []), ([5], [5]), ([4, 6], [4, 6]), ([7, 4], [7]), ([8, 8, 0, 1, 2, 3, 4, 5, 6, 7, 8], [8])])
def spec_l3Add.B2 : List Nat := [0, 1, 0, 4, 15, 0, 32, 127, 255, 511]
theorem spec_l3Add.tab2 : rtab .any (opsOf Try.f60 2) = spec_l3Add.T2 := by kernel_rfl
theorem spec_l3Add.bits2 : waitsOk spec_l3Add.T2.2 spec_l3Add.B2 = true := by kernel_rfl
set_option maxHeartbeats 8000000 in
set_option maxRecDepth 100000 in
theorem spec_l3Add.calls (k : Nat) (A0_0 : Option Addr) (c0_0 : Nat) (l0_0 : List (S36)) (a0_1 : Int) (a1_0 : ByteArray) (a1_1 : ByteArray) (a1_2 : Bool) (r1 : List (S36)) (r2 : Int) (w : World) (hr0_0 : Kd.C k36 w A0_0 l0_0.length l0_0) (hc0_0 : l0_0.length ≤ c0_0) (h : spec_l3Add.f k l0_0 a0_1 a1_0 a1_1 a1_2 = some (r1, r2)) :
  Calls Try.prog 60 #[.agg #[.slice A0_0 l0_0.length c0_0, .int .i64 a0_1], .agg #[.string a1_0, .string a1_1, .bool a1_2]] w fun e w' => ∃ v0_ : Value, e = .returned (.agg #[v0_, .int .i64 r2]) ∧ Kd.R k36 36 w' w.heap.size (fun _ => True) v0_ r1 ∧ Below w.heap.size w w' := by
 have hu25 := Try.underlying25
 have hu36 := Try.underlying36
 have HR0_0 := Aside0.mk hr0_0
 have HC0_0 := Aside0.mk hc0_0
 clear hr0_0 hc0_0
 have HB := Aside0.mk (Below.refl w.heap.size w)
 have H : ((some (([(⟨a1_0, a1_1, false⟩ : S36)] : List (S36)) : List (S36))).bind fun y189 => (if y189.length + l0_0.length < 3518437208883 then ((spec_l3Fit.f k (y189 ++ l0_0) a0_1).bind fun bt195 => (some (bt195.1, bt195.2))) else (none))) = some (r1, r2) := h
 clear h
 obtain ⟨y189, hy189⟩ : ∃ y_ : List (S36), y_ = (([(⟨a1_0, a1_1, false⟩ : S36)] : List (S36))) := ⟨_, rfl⟩
 replace H : (if y189.length + l0_0.length < 3518437208883 then ((spec_l3Fit.f k (y189 ++ l0_0) a0_1).bind fun bt195 => (some (bt195.1, bt195.2))) else (none)) = some (r1, r2) := by first | (rw [hy189]; with_reducible exact H) | (have H2_ := (Option.bind_some _ _).symm.trans H; rw [hy189]; with_reducible exact H2_) | (have H2_ := (Option.bind_some _ _).symm.trans H; with_reducible exact H2_) | with_reducible exact H | (rw [hy189]; exact H) | exact H
 have Ny189 := Aside0.mk hy189
 clear hy189
 replace H := sp H
 rcases H with ⟨c3, H⟩ | ⟨c3, H⟩
 ·skip
  have LMc3 := Aside0.mk c3
  clear c3
  obtain ⟨y192, hy192⟩ : ∃ y_ : List (S36), y_ = (y189 ++ l0_0) := ⟨_, rfl⟩
  replace H : ((spec_l3Fit.f k y192 a0_1).bind fun bt195 => (some (bt195.1, bt195.2))) = some (r1, r2) := by first | (rw [hy192]; with_reducible exact H) | (have H2_ := (Option.bind_some _ _).symm.trans H; rw [hy192]; with_reducible exact H2_) | (have H2_ := (Option.bind_some _ _).symm.trans H; with_reducible exact H2_) | with_reducible exact H | (rw [hy192]; exact H) | exact H
  have Ny192 := Aside0.mk hy192
  clear hy192
  obtain ⟨⟨t195, t198⟩, A4, H⟩ := ob H
  (try dsimp only at H)
  simp only [Option.some.injEq, Prod.mk.injEq] at H
  obtain ⟨rfl, rfl⟩ := H
  go_enter Try.func60, Try.ntmps60
  try go_wp2_with (first | ((with_reducible refine gd 2 rfl ?_); refine bx (N := 2) (cs := #[.slice A0_0 l0_0.length c0_0, .int .i64 a0_1]) (t := 25) ?_; intro gb186 hg w5 hbox hb; have BK186 := Aside0.mk (hbox); have GW186 := gw HB hg; have GE186 := GW186; replace HB := Aside0.mk (below_step (zb HB) hb); clear hb hbox hg) | ((with_reducible refine gd 3 rfl ?_); refine bx (N := 3) (cs := #[.string a1_0, .string a1_1, .bool a1_2]) (t := 36) ?_; intro gb187 hg w6 hbox hb; have BK187 := Aside0.mk (hbox); have GW187 := gw HB hg; have GE187 := GW187; replace HB := Aside0.mk (below_step (zb HB) hb); obtain ⟨NB186_187, NB187_186⟩ := nb BK186 hg; replace BK186 := kb BK186 hb; clear hb hbox hg) | ((with_reducible refine gd 4 rfl ?_); refine bx (N := 4) (cs := #[.slice none 0 0, .int .i64 0]) (t := 25) ?_; intro gb188 hg w7 hbox hb; have BK188 := Aside0.mk (hbox); have GW188 := gw HB hg; have GE188 := GW188; replace HB := Aside0.mk (below_step (zb HB) hb); obtain ⟨NB186_188, NB188_186⟩ := nb BK186 hg; replace BK186 := kb BK186 hb; obtain ⟨NB187_188, NB188_187⟩ := nb BK187 hg; replace BK187 := kb BK187 hb; clear hb hbox hg; have hnb8 := NB187_186.out; have hnc8 := NB186_187.out; have hnb9 := NB187_188.out; have hnc9 := NB188_187.out; obtain ⟨hcz10_0, hcz10_1, hcz10_2, hfz10_0, hfz10_1, hfz10_2⟩ := c3 BK187))
  have n0_ : Aside0 ((w7.setCell ⟨gb187, 2, none⟩ (.bool false)).heap[gb186]? = some (.cells #[.slice A0_0 l0_0.length c0_0, .int .i64 a0_1] 25 (0, 0))) := ⟨zp BK186⟩
  have n1_ : Aside0 ((w7.setCell ⟨gb187, 2, none⟩ (.bool false)).heap[gb187]? = some (.cells #[.string a1_0, .string a1_1, .bool false] 36 (0, 0))) := ⟨zp BK187⟩
  have n2_ : Aside0 ((w7.setCell ⟨gb187, 2, none⟩ (.bool false)).heap[gb188]? = some (.cells #[.slice none 0 0, .int .i64 0] 25 (0, 0))) := ⟨zp BK188⟩
  have n3_ : Aside0 (Below w.heap.size w (w7.setCell ⟨gb187, 2, none⟩ (.bool false))) := ⟨zb HB⟩
  (try clear BK186)
  (try clear BK187)
  (try clear BK188)
  (try clear HB)
  generalize (w7.setCell ⟨gb187, 2, none⟩ (.bool false)) = w11 at n0_ n1_ n2_ n3_ ⊢
  have BK186 := n0_
  have BK187 := n1_
  have BK188 := n2_
  have HB := n3_
  clear n0_ n1_ n2_ n3_
  replace BK186 := Aside0.mk (blk_drew BK186.out)
  replace BK187 := Aside0.mk (blk_drew BK187.out)
  replace BK188 := Aside0.mk (blk_drew BK188.out)
  replace HB := Aside0.mk (below_drew1 HB.out)
  refine st 10 (an (b3 BK187) (b2 BK186)) (fun hHeld => ?_); refine with_tabW spec_l3Add.tab2 spec_l3Add.bits2 (fun HT_ HW_ => ?_)
  generalize w11.drew = w12 at BK186 BK187 BK188 HB hHeld ⊢
  refine pu 2 (some 8) (bm 10 4) rfl rfl ?_
  refine pu 5 (some 11) (bm 10 36) rfl rfl ?_
  refine tk 0 (some 6) (bm 10 37) rfl rfl hHeld ?_
  refine tk 3 (some 9) (bm 10 45) rfl rfl hHeld ?_
  refine tk 6 (some 12) (bm 10 109) rfl rfl hHeld ?_
  refine one_ (i := 1) (N := some 7) (bm 10 111) rfl rfl (one_of HT_.out (by kernel_rfl)) (by decide) (fun K hK => ?_)
  refine Kd.R_lit_step k36 _ 36 ?hg (N := 7) ?hd (xs := ([(⟨a1_0, a1_1, false⟩ : S36)] : List (S36))) (inner := [.string a1_0, .string a1_1, .bool false]) (ok := fun _ => True) (okp := fun _ => True) ?hr ?hp (fun _ hk => hk) trivial (Below.refl _ _) (Nat.le_refl _) (by simp) ?_; (case hd => rfl); (case hg => rfl); (case hr => first | (go_simp; done) | (go_simp; rfl)); (case hp => exact (Reps.c3 (show Kd.M k36 _ _ _ (⟨a1_0, a1_1, false⟩ : S36) [.string a1_0, .string a1_1, .bool false] from (k36_mkM _ _ _ (⟨a1_0, a1_1, false⟩ : S36) )) (Reps.none _ _)))
  intro v190 w13 ho14 hb hg_ hnew_
  clear hg_ hnew_
  (first | rw [← Ny189.out] at ho14 | (simp only [Int.reduceToNat] at ho14; rw [← Ny189.out] at ho14))
  have HO191 := Aside0.mk (Kd.R_lower (Kd.R_newB ho14 (zk BK187)) (below_size (zb HB)))
  replace BK186 := kb BK186 hb
  replace BK187 := kb BK187 hb
  replace BK188 := kb BK188 hb
  replace HB := Aside0.mk (below_step (zb HB) hb)
  clear hb ho14
  refine hK.out _ _ (an (b3 BK187) (b2 BK186)) (fun hHeld => ?_)
  clear hK K
  refine nm ?_
  refine one_ (i := 4) (N := some 10) (bm 10 127) rfl rfl (one_of HT_.out (by kernel_rfl)) (by decide) (fun K hK => ?_)
  refine Kd.R_append_rows_step k36 (w0 := w) w.heap.size (by rfl) (.tmp 7) (.tmp 9) 23 36 (.agg #[(.string ⟨#[]⟩), (.string ⟨#[]⟩), (.bool false)]) 40 rfl Try.underlying23 info36 rfl (by decide) (by omega) v190 y189 l0_0 _ _ _ (fun k_ => k_ ≠ gb187) (fun _ => False) rfl rfl ?aO ?aR (fun _ _ h => h) (fun _ h => h.elim) ?aF ?aB ?aS ?aL ?_
  (case aR => exact zc (Kd.C_below HR0_0.out HB.out))
  (case aB => exact (zb HB))
  (case aF => exact (fun k_ hk => Kd.freshB (zk BK187) k_ hk))
  (case aO => exact (zq (Kd.R_mono HO191.out (fun _ hk => hk.2))))
  (case aS => exact (below_size (zb HB)))
  (case aL => have := LMc3.out; omega)
  intro v193 w15 ho hb hg hat
  rw [← Ny192.out] at ho
  replace BK186 := Aside0.mk (blk_grown (zk BK186) hg (Kd.R_ne HO191.out BK186.out (by decide)))
  replace BK187 := Aside0.mk (blk_grown (zk BK187) hg (Kd.R_away HO191.out (fun _ hk => hk.2)))
  replace BK188 := Aside0.mk (blk_grown (zk BK188) hg (Kd.R_ne HO191.out BK188.out (by decide)))
  replace HB := Aside0.mk (hb)
  have HO194 := Aside0.mk (ho)
  clear HO191
  clear ho hb hg hat
  obtain ⟨Ao16, co16, eo16⟩ := Kd.R_slice HO194.out
  (first | subst eo16 | (injection eo16 with f1_ f2_ f3_; have f4_ := f1_.symm; have f5_ := f3_.symm; clear f1_ f2_ f3_; subst f4_; subst f5_))
  refine hK.out _ _ (an (b3 BK187) (b2 BK186)) (fun hHeld => ?_)
  clear hK K
  refine nm ?_
  refine pu 7 (some 13) (bm 10 255) rfl rfl ?_
  refine one_ (i := 8) (N := some 14) (bm 10 511) rfl rfl (one_of HT_.out (by kernel_rfl)) (by decide) (fun K hK => ?_)
  refine gs Try.func51 #[.agg #[.slice Ao16 y192.length co16, .int .i64 a0_1]] ?_
  with_reducible refine (spec_l3Fit.calls k _ _ y192 a0_1 t195 t198 _ ?side1 ?side2 A4.out).mono ?_
  (case side1 => exact zc (Kd.R_reads' HO194.out).2.2)
  (case side2 => exact (Kd.R_reads' HO194.out).2.1)
  rintro e w17 ⟨v196, rfl, ho0, hb⟩
  refine ⟨_, rfl, ?_⟩
  have HO197 := Aside0.mk (Kd.R_lower (Kd.R_newB (Kd.R_new' ho0 (Kd.R_lt (zr HO194))) (zk BK187)) (below_size (zb HB)))
  replace HO194 := Aside0.mk (Kd.R_elder' (zr HO194) (Kd.R_base ho0) hb)
  replace BK186 := kb BK186 hb
  replace BK187 := kb BK187 hb
  replace BK188 := kb BK188 hb
  replace HB := Aside0.mk (below_step (zb HB) hb)
  (try clear hb)
  (try clear ho0)
  obtain ⟨Ao18, co18, eo18⟩ := Kd.R_slice HO197.out
  (first | subst eo18 | (injection eo18 with f1_ f2_ f3_; have f4_ := f1_.symm; have f5_ := f3_.symm; clear f1_ f2_ f3_; subst f4_; subst f5_))
  refine hK.out _ _ (an (b3 BK187) (b2 BK186)) (fun hHeld => ?_)
  clear hK K
  refine nm ?_
  refine one_ (i := 9) (N := none) (bm 10 1023) rfl rfl (one_of HT_.out (by kernel_rfl)) (by decide) (fun K hK => ?_)
  have hs19 : w17.cell? ⟨gb188, 0, none⟩ = some (.slice none 0 0) := (blk_cell BK188.out 0).trans rfl
  have hfs19 := blk_frozen BK188.out 0
  have hns19_0 := NB186_188.out
  have hns19_1 := NB187_188.out
  have hms19_0 := NB188_186.out
  have hms19_1 := NB188_187.out
  have hs20 : w17.cell? ⟨gb188, 1, none⟩ = some (.int .i64 0) := (blk_cell BK188.out 1).trans rfl
  have hfs20 := blk_frozen BK188.out 1
  have hns20_0 := NB186_188.out
  have hns20_1 := NB187_188.out
  have hms20_0 := NB188_186.out
  have hms20_1 := NB188_187.out
  refine skip_ (w1 := ?_) (by rfl) rfl ?_ ?_
  rotate_left
  ·go_simp
   rfl
  refine hK.out _ _ (an ⟨((cell_far (p := ⟨gb188, _, none⟩) NB187_188.out _).trans (((cell_far (p := ⟨gb188, _, none⟩) NB187_188.out _).trans (hHeld.1.1)))), ((cell_far (p := ⟨gb188, _, none⟩) NB187_188.out _).trans (((cell_far (p := ⟨gb188, _, none⟩) NB187_188.out _).trans (hHeld.1.2.1)))), ((cell_far (p := ⟨gb188, _, none⟩) NB187_188.out _).trans (((cell_far (p := ⟨gb188, _, none⟩) NB187_188.out _).trans (hHeld.1.2.2))))⟩ ⟨((cell_far (p := ⟨gb188, _, none⟩) NB186_188.out _).trans (((cell_far (p := ⟨gb188, _, none⟩) NB186_188.out _).trans (hHeld.2.1)))), ((cell_far (p := ⟨gb188, _, none⟩) NB186_188.out _).trans (((cell_far (p := ⟨gb188, _, none⟩) NB186_188.out _).trans (hHeld.2.2))))⟩) (fun hHeld => ?_)
  clear hK K
  refine done_ (done_of HT_.out (by kernel_rfl)) ?_
  try go_wp2
  refine bodyPost_ret (results_cell_row rfl _ _ gb188 25 #[.slice Ao18 t195.length co18, .int .i64 t198] (0, 0) _ rfl (zp BK188) Try.underlying25 rfl (by kernel_rfl)) rfl ?_
  exact ⟨_, ze, (Kd.R_mono (ztR (Kd.R_types HO197.out BK188.out (by decide))) (fun _ hk => trivial)), zb HB⟩
 ·skip
  exact absurd H (by simp)

/-! ### spec_l71Table: function 46 -/
-- thin
def spec_l71Table.l0 : Nat → Int → List Int → Int → List (S36) → Int → Option ((List (S36)) × Int × Int)
 | 0, _, _, _, _, _ => none
 | k + 1, x4, x1000, x1001, x210000, x210001 => if x4 > 0 then ((spec_l71Field.f k x1000 x1001).bind fun bt212 => ((spec_FieldOk.f k bt212.1 bt212.2.1 bt212.2.2.1).bind fun t217 => (if t217 = true then ((spec_l3Add.f k x210000 x210001 bt212.1 bt212.2.1 bt212.2.2.1).bind fun bt218 => (spec_l71Table.l0 k (wrap64 (x4 - 1)) x1000 bt212.2.2.2 bt218.1 bt218.2)) else (spec_l71Table.l0 k (wrap64 (x4 - 1)) x1000 bt212.2.2.2 x210000 x210001)))) else ((spec_l6Rd_pick.f k x1000 x1001 24).bind fun bt222 => (if bt222.1 = 0 then ((some (([(-1), 65, 3] : List Int) : List Int)).bind fun y224 => ((spec_l6Rd_pick.f k x1000 bt222.2 3).bind fun bt227 => (if 0 ≤ bt227.1 then (if bt227.1 < (y224.length : Int) then (some (x210000, rd y224 bt227.1, bt227.2)) else (none)) else (none)))) else (if bt222.1 = 1 then ((spec_l71Field.f k x1000 bt222.2).bind fun bt230 => ((spec_l71Field.f k x1000 bt230.2.2.2).bind fun bt234 => ((spec_l71Field.f k x1000 bt234.2.2.2).bind fun bt238 => ((some (([(⟨bt230.1, bt230.2.1, bt230.2.2.1⟩ : S36), (⟨bt234.1, bt234.2.1, bt234.2.2.1⟩ : S36), (⟨bt238.1, bt238.2.1, bt238.2.2.1⟩ : S36)] : List (S36)) : List (S36))).bind fun y242 => (if x210000.length + y242.length < 3518437208883 then (some ((x210000 ++ y242), x210001, bt238.2.2.2)) else (none)))))) else (some (x210000, x210001, bt222.2)))))
def spec_l71Table.f (k : Nat) (s0_0 : List Int) (s0_1 : Int) : Option ((List (S36)) × Int × Int) := (some (([64, 64, 40, 20, 0] : List Int) : List Int)).bind fun y203 => ((spec_l6Rd_pick.f k s0_0 s0_1 5).bind fun bt206 => (if 0 ≤ bt206.1 then (if bt206.1 < (y203.length : Int) then ((spec_l6Rd_pick.f k s0_0 bt206.2 7).bind fun bt210 => (spec_l71Table.l0 k bt210.1 s0_0 bt210.2 (([] : List (S36))) (rd y203 bt206.1))) else (none)) else (none)))
theorem spec_l71Table.mono_l : ∀ k, (∀ y0 y1 y2 y3 y4, LeO (spec_l71Table.l0 k y0 y1 y2 y3 y4) (spec_l71Table.l0 (k + 1) y0 y1 y2 y3 y4))
 | 0 => fun _ _ _ _ _ r h => by simp [spec_l71Table.l0] at h
 | k + 1 => by
  have ih0 := spec_l71Table.mono_l k
  ·intro y0 y1 y2 y3 y4
   unfold spec_l71Table.l0
   have m0 := @spec_FieldOk.mono
   have m1 := @spec_l3Add.mono
   have m2 := @spec_l6Rd_pick.mono
   have m3 := @spec_l71Field.mono
   exact zm
theorem spec_l71Table.mono : ∀ a0 a1 k, LeO (spec_l71Table.f k a0 a1) (spec_l71Table.f (k + 1) a0 a1) := by
 intro a0 a1 k
 have ih0 := spec_l71Table.mono_l k
 unfold spec_l71Table.f
 have m0 := @spec_FieldOk.mono
 have m1 := @spec_l3Add.mono
 have m2 := @spec_l6Rd_pick.mono
 have m3 := @spec_l71Field.mono
 exact zm
def spec_l71Table.T12 : Bool × List (List Nat × List Nat) := (true, [([], []), ([0], [0]), ([], []), ([2], [2]), ([], []), ([4, 3], [4]), ([], []), ([6, 5], [6]), ([3, 5, 7], [3, 5, 7]), ([1, 8, 7], [1, 8]), ([0, 1, 2, 3, 4, 5, 6, 7, 8, 9], []), ([10, 9, 9, 0, 1, 2, 3, 4, 5, 6, 7, 8, 9], [9, 10])])
def spec_l71Table.B12 : List Nat := [0, 1, 0, 4, 0, 28, 0, 124, 252, 511, 1023, 2047]
theorem spec_l71Table.tab12 : rtab .any (opsOf Try.f46 12) = spec_l71Table.T12 := by kernel_rfl
theorem spec_l71Table.bits12 : waitsOk spec_l71Table.T12.2 spec_l71Table.B12 = true := by kernel_rfl
set_option maxHeartbeats 8000000 in
set_option maxRecDepth 100000 in
theorem spec_l71Table.calls (k : Nat) (g : Nat) (s0_0 : List Int) (s0_1 : Int) (r1 : List (S36)) (r2 : Int) (r3 : Int) (w0 w : World) (hI : IsS85 w0 w g s0_0 s0_1) (hB : Below w0.heap.size w0 w) (h : spec_l71Table.f k s0_0 s0_1 = some (r1, r2, r3)) :
  Calls Try.prog 46 #[.pointer (some ⟨g, 0, none⟩)] w fun e w' => ∃ v0_ : Value, e = .returned (.agg #[v0_, .int .i64 r2]) ∧ Kd.R k36 36 w' w.heap.size (fun _ => True) v0_ r1 ∧ IsS85 w0 w' g s0_0 r3 ∧ Below w0.heap.size w0 w' ∧ KeepBut w w' g none := by
 have hu25 := Try.underlying25
 have hu36 := Try.underlying36
 have HI0 := Aside0.mk hI
 have HK := Aside0.mk (KeepBut.refl w g none)
 have HL := Aside0.mk hB.size
 clear hI
 have HW0 := Aside0.mk hB.size
 have HB := Aside0.mk hB
 clear hB
 have H : ((some (([64, 64, 40, 20, 0] : List Int) : List Int)).bind fun y203 => ((spec_l6Rd_pick.f k s0_0 s0_1 5).bind fun bt206 => (if 0 ≤ bt206.1 then (if bt206.1 < (y203.length : Int) then ((spec_l6Rd_pick.f k s0_0 bt206.2 7).bind fun bt210 => (spec_l71Table.l0 k bt210.1 s0_0 bt210.2 (([] : List (S36))) (rd y203 bt206.1))) else (none)) else (none)))) = some (r1, r2, r3) := h
 clear h
 obtain ⟨y200, hy200⟩ : ∃ y_ : List (S36), y_ = (([] : List (S36))) := ⟨_, rfl⟩
 replace H : ((some (([64, 64, 40, 20, 0] : List Int) : List Int)).bind fun y203 => ((spec_l6Rd_pick.f k s0_0 s0_1 5).bind fun bt206 => (if 0 ≤ bt206.1 then (if bt206.1 < (y203.length : Int) then ((spec_l6Rd_pick.f k s0_0 bt206.2 7).bind fun bt210 => (spec_l71Table.l0 k bt210.1 s0_0 bt210.2 y200 (rd y203 bt206.1))) else (none)) else (none)))) = some (r1, r2, r3) := by first | (rw [hy200]; with_reducible exact H) | (have H2_ := (Option.bind_some _ _).symm.trans H; rw [hy200]; with_reducible exact H2_) | (have H2_ := (Option.bind_some _ _).symm.trans H; with_reducible exact H2_) | with_reducible exact H | (rw [hy200]; exact H) | exact H
 have Ny200 := Aside0.mk hy200
 clear hy200
 obtain ⟨y203, hy203⟩ : ∃ y_ : List Int, y_ = (([64, 64, 40, 20, 0] : List Int)) := ⟨_, rfl⟩
 replace H : ((spec_l6Rd_pick.f k s0_0 s0_1 5).bind fun bt206 => (if 0 ≤ bt206.1 then (if bt206.1 < (y203.length : Int) then ((spec_l6Rd_pick.f k s0_0 bt206.2 7).bind fun bt210 => (spec_l71Table.l0 k bt210.1 s0_0 bt210.2 y200 (rd y203 bt206.1))) else (none)) else (none))) = some (r1, r2, r3) := by first | (rw [hy203]; with_reducible exact H) | (have H2_ := (Option.bind_some _ _).symm.trans H; rw [hy203]; with_reducible exact H2_) | (have H2_ := (Option.bind_some _ _).symm.trans H; with_reducible exact H2_) | with_reducible exact H | (rw [hy203]; exact H) | exact H
 have Ny203 := Aside0.mk hy203
 clear hy203
 obtain ⟨⟨t206, t207⟩, A2, H⟩ := ob H
 (try dsimp only at H)
 replace H := sp H
 rcases H with ⟨c3, H⟩ | ⟨c3, H⟩
 ·skip
  have c3b0 := decide_eq_true c3
  clear c3
  by_cases c4 : t206 < (y203.length : Int)
  ·rw [if_pos c4] at H
   have c4b0 := decide_eq_true c4
   clear c4
   obtain ⟨⟨t210, t211⟩, A5, H⟩ := ob H
   (try dsimp only at H)
   have H' := Aside0.mk H
   clear H
   go_enter Try.func46, Try.ntmps46
   go_wp2_with (first | ((with_reducible refine gd 2 rfl ?_); refine bx (N := 2) (cs := #[.slice none 0 0, .int .i64 0]) (t := 25) ?_; intro gb199 hg w6 hbox hb; replace HB := Aside0.mk (below_step (zg85 HB) hb); have BK199 := Aside0.mk (hbox); have GW199 := Aside0.mk ((by rw [hg]; exact (keep_size (w := w) (g := g) (row := none) (zh HK)) : w.heap.size ≤ gb199)); have GE199 := Aside0.mk ((Nat.le_trans HW0.out (by rw [hg]; exact (keep_size (w := w) (g := g) (row := none) (zh HK)) : w.heap.size ≤ gb199) : w0.heap.size ≤ gb199)); replace HK := Aside0.mk (KeepBut.trans (zh HK) (KeepBut.of_below hb g none) (.inl rfl)); have NB0_199 := Aside0.mk ((by rw [hg]; exact Nat.ne_of_lt (IsS85.lt (show IsS85 w0 _ g s0_0 s0_1 from zi85 HI0)) : g ≠ gb199)); have NB199_0 := Aside0.mk ((by rw [hg]; exact Nat.ne_of_gt (IsS85.lt (show IsS85 w0 _ g s0_0 s0_1 from zi85 HI0)) : gb199 ≠ g)); replace HI0 := Aside0.mk (IsS85.below (zi85 HI0) hb); clear hb hbox hg) | ((with_reducible refine gd 6 rfl ?_); refine Kd.R_lit k36 _ 36 ?hg (N := 6) ?hd (xs := ([] : List (S36))) (inner := []) (ok := fun _ => True) (okp := fun _ => True) ?hr ?hp (fun _ hk => hk) trivial (Below.refl _ _) (Nat.le_refl _) (by simp) ?_; (case hd => rfl); (case hg => rfl); (case hr => first | (go_simp; done) | (go_simp; rfl)); (case hp => exact (Reps.none _ _)); intro v201 w7 ho8 hb hg_ hnew_; clear hg_ hnew_; (first | rw [← Ny200.out] at ho8 | (simp only [Int.reduceToNat] at ho8; rw [← Ny200.out] at ho8)); have HO202 := Aside0.mk (Kd.R_lower ho8 (keep_size (w := w) (g := g) (row := none) (zh HK))); replace HI0 := Aside0.mk (IsS85.below (zi85 HI0) hb); replace BK199 := kb BK199 hb; replace HK := Aside0.mk (KeepBut.trans (zh HK) (KeepBut.of_below hb g none) (.inl rfl)); replace HB := Aside0.mk (below_step (zg85 HB) hb); clear hb ho8) | ((with_reducible refine gd 7 rfl ?_); refine Kd.R_lit (Kd.int .i64) _ 3 ?hg (N := 7) ?hd (xs := ([64, 64, 40, 20, 0] : List Int)) (inner := [.int .i64 64, .int .i64 64, .int .i64 40, .int .i64 20, .int .i64 0]) (ok := fun _ => True) (okp := fun _ => True) ?hr ?hp (fun _ hk => hk) trivial (Below.refl _ _) (Nat.le_refl _) (by simp) ?_; (case hd => rfl); (case hg => rfl); (case hr => first | (go_simp; done) | (go_simp; rfl)); (case hp => exact (Reps.one (show Kd.M (Kd.int .i64) _ _ _ 64 [.int .i64 64] from rfl) (Reps.one (show Kd.M (Kd.int .i64) _ _ _ 64 [.int .i64 64] from rfl) (Reps.one (show Kd.M (Kd.int .i64) _ _ _ 40 [.int .i64 40] from rfl) (Reps.one (show Kd.M (Kd.int .i64) _ _ _ 20 [.int .i64 20] from rfl) (Reps.one (show Kd.M (Kd.int .i64) _ _ _ 0 [.int .i64 0] from rfl) (Reps.none _ _))))))); intro v204 w9 ho10 hb hg_ hnew_; clear hg_ hnew_; (first | rw [← Ny203.out] at ho10 | (simp only [Int.reduceToNat] at ho10; rw [← Ny203.out] at ho10)); replace HO202 := Aside0.mk (Kd.R_below (zr HO202) hb); have HO205 := Aside0.mk (Kd.R_lower ho10 (keep_size (w := w) (g := g) (row := none) (zh HK))); replace HI0 := Aside0.mk (IsS85.below (zi85 HI0) hb); replace BK199 := kb BK199 hb; replace HK := Aside0.mk (KeepBut.trans (zh HK) (KeepBut.of_below hb g none) (.inl rfl)); replace HB := Aside0.mk (below_step (zg85 HB) hb); clear hb ho10) | ((with_reducible refine gq 47 rfl ?_); refine gl (some 9) Try.func47 #[.pointer (some ⟨g, 0, none⟩), .int .i64 5] ?_; (with_reducible refine (spec_l6Rd_pick.calls k g s0_0 s0_1 5 t206 t207 w0 _ ?side1 ?side2 A2.out).mono ?_); (case side1 => exact zi85 HI0); (case side2 => exact zg85 HB); rintro e w11 ⟨rfl, hi, hb, hk⟩; refine ⟨_, rfl, ?_⟩; replace BK199 := Aside0.mk (KeepBut.blk hk (g' := gb199) (o := .cells #[.slice none 0 0, .int .i64 0] 25 (0, 0)) (zk BK199) NB199_0.out (by simp)); replace HO202 := Aside0.mk (Kd.R_mono (Kd.R_keep (IsS85.apart (show IsS85 w0 _ g s0_0 s0_1 from zi85 HI0) (zr HO202) (by decide)) hk (fun _ h => h.2)) (fun _ h => h.1)); replace HO205 := Aside0.mk (Kd.R_mono (Kd.R_keep (IsS85.apart (show IsS85 w0 _ g s0_0 s0_1 from zi85 HI0) (zr HO205) (by decide)) hk (fun _ h => h.2)) (fun _ h => h.1)); replace HK := Aside0.mk (KeepBut.trans (zh HK) hk (.inl rfl)); replace HB := Aside0.mk (hb); replace HI0 := Aside0.mk (hi); (try clear hb); (try clear hk); (try clear hi); obtain ⟨Ao12, co12, eo12⟩ := Kd.R_slice HO205.out; subst eo12; have p208 : 0 ≤ (t206 : Int) := of_decide_eq_true za; have q208 : t206 < (y203.length : Int) := of_decide_eq_true za; obtain ⟨ad208, e208, hx208_0⟩ := Kd.at_int (Kd.R_reads' HO205.out).2.2 t206 p208 q208; cases e208; replace p208 := eq_true p208; replace q208 := eq_true q208; obtain ⟨Ao13, co13, eo13⟩ := Kd.R_slice HO202.out; subst eo13) | ((with_reducible refine gd 3 rfl ?_); refine bx (N := 3) (cs := #[.slice none 0 0, .int .i64 0]) (t := 25) ?_; intro gb209 hg w14 hbox hb; replace HO202 := Aside0.mk (Kd.R_below (zr HO202) hb); replace HO205 := Aside0.mk (Kd.R_below (zr HO205) hb); replace HB := Aside0.mk (below_step (zg85 HB) hb); have BK209 := Aside0.mk (hbox); have GW209 := Aside0.mk ((by rw [hg]; exact (keep_size (w := w) (g := g) (row := none) (zh HK)) : w.heap.size ≤ gb209)); have GE209 := Aside0.mk ((Nat.le_trans HW0.out (by rw [hg]; exact (keep_size (w := w) (g := g) (row := none) (zh HK)) : w.heap.size ≤ gb209) : w0.heap.size ≤ gb209)); replace HK := Aside0.mk (KeepBut.trans (zh HK) (KeepBut.of_below hb g none) (.inl rfl)); obtain ⟨NB199_209, NB209_199⟩ := nb BK199 hg; replace BK199 := kb BK199 hb; have NB0_209 := Aside0.mk ((by rw [hg]; exact Nat.ne_of_lt (IsS85.lt (show IsS85 w0 _ g s0_0 t207 from zi85 HI0)) : g ≠ gb209)); have NB209_0 := Aside0.mk ((by rw [hg]; exact Nat.ne_of_gt (IsS85.lt (show IsS85 w0 _ g s0_0 t207 from zi85 HI0)) : gb209 ≠ g)); replace HI0 := Aside0.mk (IsS85.below (zi85 HI0) hb); clear hb hbox hg; have hnb15 := NB209_199.out; have hnc15 := NB199_209.out; have hnb16 := NB209_0.out; have hnc16 := NB0_209.out; obtain ⟨hcz17_0, hcz17_1, hfz17_0, hfz17_1⟩ := c2 BK209) | ((with_reducible refine gq 47 rfl ?_); refine gl (some 14) Try.func47 #[.pointer (some ⟨g, 0, none⟩), .int .i64 7] ?_; (with_reducible refine (spec_l6Rd_pick.calls k g s0_0 t207 7 t210 t211 w0 _ ?side1 ?side2 A5.out).mono ?_); (case side1 => exact zi85 HI0); (case side2 => exact zg85 HB); rintro e w18 ⟨rfl, hi, hb, hk⟩; refine ⟨_, rfl, ?_⟩; replace BK199 := Aside0.mk (KeepBut.blk hk (g' := gb199) (o := .cells #[.slice none 0 0, .int .i64 0] 25 (0, 0)) (zp BK199) NB199_0.out (by simp)); replace HO202 := Aside0.mk (Kd.R_mono (Kd.R_keep (IsS85.apart (show IsS85 w0 _ g s0_0 t207 from zi85 HI0) (((Kd.R_mono (ztR (Kd.R_types HO202.out BK209.out (by decide))) (fun _ h_ => h_.1)))) (by decide)) hk (fun _ h => h.2)) (fun _ h => h.1)); replace HO205 := Aside0.mk (Kd.R_mono (Kd.R_keep (IsS85.apart (show IsS85 w0 _ g s0_0 t207 from zi85 HI0) (((Kd.R_mono (ztR (Kd.R_types HO205.out BK209.out (by decide))) (fun _ h_ => h_.1)))) (by decide)) hk (fun _ h => h.2)) (fun _ h => h.1)); replace BK209 := Aside0.mk (KeepBut.blk hk (g' := gb209) (o := .cells #[.slice Ao13 y200.length co13, .int .i64 (rd y203 t206)] 25 (0, 0)) (zp BK209) NB209_0.out (by simp)); replace HK := Aside0.mk (KeepBut.trans (zh HK) hk (.inl rfl)); replace HB := Aside0.mk (hb); replace HI0 := Aside0.mk (hi); (try clear hb); (try clear hk); (try clear hi)))
   go_loopg [4] k (fun kq v4 w' => ∃ (x4_1 : Int) (x1001_1 : Int) (x210000_1 : List (S36)) (x210001_1 : Int) (u210000 : Value), v4 = .int .i64 x4_1 ∧ Aside0 (spec_l71Table.l0 kq x4_1 s0_0 x1001_1 x210000_1 x210001_1 = some (r1, r2, r3)) ∧ Aside0 (kq ≤ k) ∧ Aside0 (Kd.R k36 36 w' w.heap.size (fun _ => True) u210000 x210000_1) ∧ Aside0 (w'.heap[gb199]? = some (.cells #[(.slice none 0 0), .int .i64 0] 25 (0, 0))) ∧ Aside0 (w'.heap[gb209]? = some (.cells #[u210000, .int .i64 x210001_1] 25 (0, 0))) ∧ Aside0 (IsS85 w0 w' g s0_0 x1001_1) ∧ Aside0 (KeepBut w w' g none) ∧ Aside0 (Below w0.heap.size w0 w'))
   case atStart => exact ⟨(t210), (t211), (y200), (rd y203 t206), (.slice Ao13 y200.length co13), zs, H', ⟨Nat.le_refl _⟩, ⟨by exact zr HO202⟩, ⟨by exact zk BK199⟩, ⟨by exact zk BK209⟩, ⟨zi85 HI0⟩, ⟨zh HK⟩, ⟨zg85 HB⟩⟩
   case round =>
    clear H'
    try clear c1
    try clear p2
    try clear q2
    try clear hx2
    try clear c3
    try clear c3b0
    try clear c4
    try clear c4b0
    try clear c15
    try clear c16
    try clear hcz17_0
    try clear hcz17_1
    try clear hfz17_0
    try clear hfz17_1
    try clear hx208_0
    try clear p208
    try clear q208
    obtain ⟨x4_1, x1001_1, x210000_1, x210001_1, u210000, rfl, HA, HK1, HO_210000, BK199, BK209, HI0, HK, HB⟩ := hrel
    cases gk with
    | zero => exact absurd HA.out (by simp [spec_l71Table.l0])
    | succ k1 =>
     have H := HA.out
     clear HA
     simp only [spec_l71Table.l0] at H
     by_cases c19 : x4_1 > 0
     ·rw [if_pos c19] at H
      have c19b0 := decide_eq_true c19
      clear c19
      obtain ⟨⟨t212, t213, t214, t215⟩, A20, H⟩ := ob H
      (try dsimp only at H)
      obtain ⟨t217, A21, H⟩ := ob H
      (try dsimp only at H)
      have HC22 := Aside0.mk H
      clear H
      go_upto_if 22 with (first | ((with_reducible refine gq 58 rfl ?_); refine gl (some 20) Try.func58 #[.pointer (some ⟨g, 0, none⟩)] ?_; (with_reducible refine (spec_l71Field.calls k1 g s0_0 x1001_1 t212 t213 t214 t215 w0 _ ?side1 ?side2 A20.out).mono ?_); (case side1 => exact zi85 HI0); (case side2 => exact zg85 HB); rintro e w23 ⟨rfl, hi, hb, hk⟩; refine ⟨_, rfl, ?_⟩; replace HO_210000 := Aside0.mk (Kd.R_mono (Kd.R_keep (IsS85.apart (show IsS85 w0 _ g s0_0 x1001_1 from zi85 HI0) (zr HO_210000) (by decide)) hk (fun _ h => h.2)) (fun _ h => h.1)); replace BK199 := Aside0.mk (KeepBut.blk hk (g' := gb199) (o := .cells #[.slice none 0 0, .int .i64 0] 25 (0, 0)) (zk BK199) NB199_0.out (by simp)); replace BK209 := Aside0.mk (KeepBut.blk hk (g' := gb209) (o := .cells #[u210000, .int .i64 x210001_1] 25 (0, 0)) (zk BK209) NB209_0.out (by simp)); replace HK := Aside0.mk (KeepBut.trans (zh HK) hk (.inl rfl)); replace HB := Aside0.mk (hb); replace HI0 := Aside0.mk (hi); (try clear hb); (try clear hk); (try clear hi)) | ((with_reducible refine gd 5 rfl ?_); refine bx (N := 5) (cs := #[.string (⟨#[]⟩ : ByteArray), .string (⟨#[]⟩ : ByteArray), .bool false]) (t := 36) ?_; intro gb216 hg w24 hbox hb; replace HO_210000 := Aside0.mk (Kd.R_below (Kd.R_elderB (zr HO_210000) gb216 (Nat.le_of_eq hg.symm)) hb); replace HB := Aside0.mk (below_step (zg85 HB) hb); have BK216 := Aside0.mk (hbox); have GW216 := Aside0.mk ((by rw [hg]; exact (keep_size (w := w) (g := g) (row := none) (zh HK)) : w.heap.size ≤ gb216)); have GE216 := Aside0.mk ((Nat.le_trans HW0.out (by rw [hg]; exact (keep_size (w := w) (g := g) (row := none) (zh HK)) : w.heap.size ≤ gb216) : w0.heap.size ≤ gb216)); replace HK := Aside0.mk (KeepBut.trans (zh HK) (KeepBut.of_below hb g none) (.inl rfl)); obtain ⟨NB199_216, NB216_199⟩ := nb BK199 hg; replace BK199 := kb BK199 hb; obtain ⟨NB209_216, NB216_209⟩ := nb BK209 hg; replace BK209 := kb BK209 hb; have NB0_216 := Aside0.mk ((by rw [hg]; exact Nat.ne_of_lt (IsS85.lt (show IsS85 w0 _ g s0_0 t215 from zi85 HI0)) : g ≠ gb216)); have NB216_0 := Aside0.mk ((by rw [hg]; exact Nat.ne_of_gt (IsS85.lt (show IsS85 w0 _ g s0_0 t215 from zi85 HI0)) : gb216 ≠ g)); replace HI0 := Aside0.mk (IsS85.below (zi85 HI0) hb); clear hb hbox hg; have hnb25 := NB216_199.out; have hnc25 := NB199_216.out; have hnb26 := NB216_209.out; have hnc26 := NB209_216.out; have hnb27 := NB216_0.out; have hnc27 := NB0_216.out; obtain ⟨hcz28_0, hcz28_1, hcz28_2, hfz28_0, hfz28_1, hfz28_2⟩ := c3 BK216) | ((with_reducible refine gq 32 rfl ?_); refine gl (some 22) Try.func32 #[.agg #[.string t212, .string t213, .bool t214]] ?_; (with_reducible refine (spec_FieldOk.calls k1 t212 t213 t214 t217 _ A21.out).mono ?_); rintro e w29 ⟨rfl, hb⟩; refine ⟨_, rfl, ?_⟩; replace HO_210000 := Aside0.mk (Kd.R_below (((Kd.R_mono (ztR (Kd.R_mono HO_210000.out (fun k_ hk => (⟨hk, hk.2⟩ : _ ∧ k_ ≠ gb216)))) (fun _ h_ => h_.1)))) hb); replace BK199 := Aside0.mk (blk_below (g := gb199) (o := .cells #[.slice none 0 0, .int .i64 0] 25 (0, 0)) (zp BK199) hb); replace BK209 := Aside0.mk (blk_below (g := gb209) (o := .cells #[u210000, .int .i64 x210001_1] 25 (0, 0)) (zp BK209) hb); replace HI0 := Aside0.mk (IsS85.below (show IsS85 w0 (((w24.setCell ⟨gb216, 0, none⟩ (.string t212)).setCell ⟨gb216, 1, none⟩ (.string t213)).setCell ⟨gb216, 2, none⟩ (.bool t214)) g s0_0 t215 from zi85 HI0) hb); replace BK216 := Aside0.mk (blk_below (g := gb216) (o := .cells #[.string t212, .string t213, .bool t214] 36 (0, 0)) (zp BK216) hb); replace HK := Aside0.mk (KeepBut.trans (zh HK) (KeepBut.of_below hb g none) (.inl rfl)); replace HB := Aside0.mk (below_step (zg85 HB) hb); (try clear hb)))
      (try simp only [Act.put, s1, s2, s3])
      have H := HC22.out
      clear HC22
      by_cases c30 : t217 = true
      ·subst c30
       rw [if_pos rfl] at H
       obtain ⟨⟨t218, t221⟩, A31, H⟩ := ob H
       (try dsimp only at H)
       have H' := Aside0.mk H
       clear H
       have hnb32 := NB209_199.out
       have hnc32 := NB199_209.out
       have hnb33 := NB209_216.out
       have hnc33 := NB216_209.out
       have hnb34 := NB209_0.out
       have hnc34 := NB0_209.out
       obtain ⟨hcz35_0, hcz35_1, hfz35_0, hfz35_1⟩ := c2 BK209
       have hnb36 := NB216_199.out
       have hnc36 := NB199_216.out
       have hnb37 := NB216_0.out
       have hnc37 := NB0_216.out
       obtain ⟨hcz38_0, hcz38_1, hcz38_2, hfz38_0, hfz38_1, hfz38_2⟩ := c3 BK216
       obtain ⟨Ao39, co39, eo39⟩ := Kd.R_slice HO_210000.out
       subst eo39
       go_wp2_with (first | ((with_reducible refine gq 60 rfl ?_); refine gl (some 25) Try.func60 #[.agg #[.slice Ao39 x210000_1.length co39, .int .i64 x210001_1], .agg #[.string t212, .string t213, .bool t214]] ?_; (with_reducible refine (spec_l3Add.calls k1 _ _ x210000_1 x210001_1 t212 t213 t214 t218 t221 _ ?side1 ?side2 A31.out).mono ?_); (case side1 => exact zc (Kd.R_reads' HO_210000.out).2.2); (case side2 => exact (Kd.R_reads' HO_210000.out).2.1); rintro e w40 ⟨v219, rfl, ho0, hb⟩; refine ⟨_, rfl, ?_⟩; have HO220 := Aside0.mk (Kd.R_lower (Kd.R_newB (Kd.R_new' ho0 (Kd.R_lt (zr HO_210000))) (zk BK216)) (keep_size (w := w) (g := g) (row := none) (zh HK))); replace HO_210000 := Aside0.mk (Kd.R_elder' (zr HO_210000) (Kd.R_base ho0) hb); replace BK199 := kb BK199 hb; replace BK209 := kb BK209 hb; replace HI0 := Aside0.mk (IsS85.below (zi85 HI0) hb); replace BK216 := kb BK216 hb; replace HK := Aside0.mk (KeepBut.trans (zh HK) (KeepBut.of_below hb g none) (.inl rfl)); replace HB := Aside0.mk (below_step (zg85 HB) hb); (try clear hb); (try clear ho0); obtain ⟨Ao41, co41, eo41⟩ := Kd.R_slice HO220.out; subst eo41; obtain ⟨hcz42_0, hcz42_1, hfz42_0, hfz42_1⟩ := c2 BK209))
       go_roundg k1
       case measure => have := HK1.out; omega
       case rel => exact ⟨(wrap64 (x4_1 - 1)), (t215), (t218), (t221), (.slice Ao41 t218.length co41), zs, H', ⟨by have := HK1.out; omega⟩, ⟨(Kd.R_mono (ztR (Kd.R_types HO220.out BK209.out (by decide))) (fun _ hk => trivial))⟩, ⟨zp BK199⟩, ⟨zp BK209⟩, ⟨zi85 HI0⟩, ⟨zh HK⟩, ⟨zg85 HB⟩⟩
      ·replace c30 := Bool.eq_false_iff.mpr c30
       subst c30
       rw [if_neg (show ¬ (false = true) by decide)] at H
       have H' := Aside0.mk H
       clear H
       go_wp2
       go_roundg k1
       case measure => have := HK1.out; omega
       case rel => exact ⟨(wrap64 (x4_1 - 1)), (t215), (x210000_1), (x210001_1), (u210000), zs, H', ⟨by have := HK1.out; omega⟩, ⟨zq (Kd.R_mono HO_210000.out (fun _ hk => trivial))⟩, ⟨by exact zk BK199⟩, ⟨by exact zk BK209⟩, ⟨zi85 HI0⟩, ⟨zh HK⟩, ⟨zg85 HB⟩⟩
     ·rw [if_neg c19] at H
      have c19b0 := decide_eq_false c19
      clear c19
      obtain ⟨⟨t222, t223⟩, A43, H⟩ := ob H
      (try dsimp only at H)
      by_cases c44 : t222 = 0
      ·rw [if_pos c44] at H
       have c44b0 : (t222 == 0) = true := beq_iff_eq.mpr c44
       have c44b1 : (t222 != 0) = false := bne_eq_false_iff_eq.mpr c44
       clear c44
       obtain ⟨y224, hy224⟩ : ∃ y_ : List Int, y_ = (([(-1), 65, 3] : List Int)) := ⟨_, rfl⟩
       replace H : ((spec_l6Rd_pick.f k1 s0_0 t223 3).bind fun bt227 => (if 0 ≤ bt227.1 then (if bt227.1 < (y224.length : Int) then (some (x210000_1, rd y224 bt227.1, bt227.2)) else (none)) else (none))) = some (r1, r2, r3) := by first | (rw [hy224]; with_reducible exact H) | (have H2_ := (Option.bind_some _ _).symm.trans H; rw [hy224]; with_reducible exact H2_) | (have H2_ := (Option.bind_some _ _).symm.trans H; with_reducible exact H2_) | with_reducible exact H | (rw [hy224]; exact H) | exact H
       have Ny224 := Aside0.mk hy224
       clear hy224
       obtain ⟨⟨t227, t228⟩, A45, H⟩ := ob H
       (try dsimp only at H)
       by_cases c46 : 0 ≤ t227
       ·rw [if_pos c46] at H
        have c46b0 := decide_eq_true c46
        clear c46
        by_cases c47 : t227 < (y224.length : Int)
        ·rw [if_pos c47] at H
         have c47b0 := decide_eq_true c47
         clear c47
         simp only [Option.some.injEq, Prod.mk.injEq] at H
         obtain ⟨rfl, rfl, rfl⟩ := H
         go_wp2_with (first | ((with_reducible refine gq 47 rfl ?_); refine gl (some 27) Try.func47 #[.pointer (some ⟨g, 0, none⟩), .int .i64 24] ?_; (with_reducible refine (spec_l6Rd_pick.calls k1 g s0_0 x1001_1 24 t222 t223 w0 _ ?side1 ?side2 A43.out).mono ?_); (case side1 => exact zi85 HI0); (case side2 => exact zg85 HB); rintro e w48 ⟨rfl, hi, hb, hk⟩; refine ⟨_, rfl, ?_⟩; replace HO_210000 := Aside0.mk (Kd.R_mono (Kd.R_keep (IsS85.apart (show IsS85 w0 _ g s0_0 x1001_1 from zi85 HI0) (zr HO_210000) (by decide)) hk (fun _ h => h.2)) (fun _ h => h.1)); replace BK199 := Aside0.mk (KeepBut.blk hk (g' := gb199) (o := .cells #[.slice none 0 0, .int .i64 0] 25 (0, 0)) (zk BK199) NB199_0.out (by simp)); replace BK209 := Aside0.mk (KeepBut.blk hk (g' := gb209) (o := .cells #[u210000, .int .i64 x210001_1] 25 (0, 0)) (zk BK209) NB209_0.out (by simp)); replace HK := Aside0.mk (KeepBut.trans (zh HK) hk (.inl rfl)); replace HB := Aside0.mk (hb); replace HI0 := Aside0.mk (hi); (try clear hb); (try clear hk); (try clear hi)) | ((with_reducible refine gd 30 rfl ?_); refine Kd.R_lit (Kd.int .i64) _ 3 ?hg (N := 30) ?hd (xs := ([(-1), 65, 3] : List Int)) (inner := [.int .i64 (-1), .int .i64 65, .int .i64 3]) (ok := fun _ => True) (okp := fun _ => True) ?hr ?hp (fun _ hk => hk) trivial (Below.refl _ _) (Nat.le_refl _) (by simp) ?_; (case hd => rfl); (case hg => rfl); (case hr => first | (go_simp; done) | (go_simp; rfl)); (case hp => exact (Reps.one (show Kd.M (Kd.int .i64) _ _ _ (-1) [.int .i64 (-1)] from rfl) (Reps.one (show Kd.M (Kd.int .i64) _ _ _ 65 [.int .i64 65] from rfl) (Reps.one (show Kd.M (Kd.int .i64) _ _ _ 3 [.int .i64 3] from rfl) (Reps.none _ _))))); intro v225 w49 ho50 hb hg_ hnew_; clear hg_ hnew_; (first | rw [← Ny224.out] at ho50 | (simp only [Int.reduceToNat] at ho50; rw [← Ny224.out] at ho50)); replace HO_210000 := Aside0.mk (Kd.R_below (zr HO_210000) hb); have HO226 := Aside0.mk (Kd.R_lower ho50 (keep_size (w := w) (g := g) (row := none) (zh HK))); replace BK199 := kb BK199 hb; replace BK209 := kb BK209 hb; replace HI0 := Aside0.mk (IsS85.below (zi85 HI0) hb); replace HK := Aside0.mk (KeepBut.trans (zh HK) (KeepBut.of_below hb g none) (.inl rfl)); replace HB := Aside0.mk (below_step (zg85 HB) hb); clear hb ho50) | ((with_reducible refine gq 47 rfl ?_); refine gl (some 32) Try.func47 #[.pointer (some ⟨g, 0, none⟩), .int .i64 3] ?_; (with_reducible refine (spec_l6Rd_pick.calls k1 g s0_0 t223 3 t227 t228 w0 _ ?side1 ?side2 A45.out).mono ?_); (case side1 => exact zi85 HI0); (case side2 => exact zg85 HB); rintro e w51 ⟨rfl, hi, hb, hk⟩; refine ⟨_, rfl, ?_⟩; replace HO_210000 := Aside0.mk (Kd.R_mono (Kd.R_keep (IsS85.apart (show IsS85 w0 _ g s0_0 t223 from zi85 HI0) (zr HO_210000) (by decide)) hk (fun _ h => h.2)) (fun _ h => h.1)); replace BK199 := Aside0.mk (KeepBut.blk hk (g' := gb199) (o := .cells #[.slice none 0 0, .int .i64 0] 25 (0, 0)) (zk BK199) NB199_0.out (by simp)); replace BK209 := Aside0.mk (KeepBut.blk hk (g' := gb209) (o := .cells #[u210000, .int .i64 x210001_1] 25 (0, 0)) (zk BK209) NB209_0.out (by simp)); replace HO226 := Aside0.mk (Kd.R_mono (Kd.R_keep (IsS85.apart (show IsS85 w0 _ g s0_0 t223 from zi85 HI0) (zr HO226) (by decide)) hk (fun _ h => h.2)) (fun _ h => h.1)); replace HK := Aside0.mk (KeepBut.trans (zh HK) hk (.inl rfl)); replace HB := Aside0.mk (hb); replace HI0 := Aside0.mk (hi); (try clear hb); (try clear hk); (try clear hi); obtain ⟨Ao52, co52, eo52⟩ := Kd.R_slice HO226.out; subst eo52; have p229 : 0 ≤ (t227 : Int) := of_decide_eq_true za; have q229 : t227 < (y224.length : Int) := of_decide_eq_true za; obtain ⟨ad229, e229, hx229_0⟩ := Kd.at_int (Kd.R_reads' HO226.out).2.2 t227 p229 q229; cases e229; replace p229 := eq_true p229; replace q229 := eq_true q229; have hnb53 := NB209_199.out; have hnc53 := NB199_209.out; have hnb54 := NB209_0.out; have hnc54 := NB0_209.out; obtain ⟨hcz55_0, hcz55_1, hfz55_0, hfz55_1⟩ := c2 BK209; obtain ⟨Ao56, co56, eo56⟩ := Kd.R_slice HO_210000.out; subst eo56; have hnb57 := NB199_0.out; have hnc57 := NB0_199.out; obtain ⟨hcz58_0, hcz58_1, hfz58_0, hfz58_1⟩ := c2 BK199))
         refine bodyPost_ret (results_cell_row rfl _ _ gb199 25 #[.slice Ao56 x210000_1.length co56, .int .i64 (rd y224 t227)] (0, 0) _ rfl (zp BK199) Try.underlying25 rfl (by kernel_rfl)) rfl ?_
         exact ⟨_, ze, (Kd.R_mono (ztR (Kd.R_types (Kd.R_types HO_210000.out BK209.out (by decide)) BK199.out (by decide))) (fun _ hk => trivial)), zi85 HI0, zg85 HB, zh HK⟩
        ·rw [if_neg c47] at H
         exact absurd H (by simp)
       ·rw [if_neg c46] at H
        exact absurd H (by simp)
      ·rw [if_neg c44] at H
       have c44b0 : (t222 == 0) = false := beq_eq_false_iff_ne.mpr c44
       have c44b1 : (t222 != 0) = true := bne_iff_ne.mpr c44
       by_cases c59 : t222 = 1
       ·rw [if_pos c59] at H
        have c59b0 : (t222 == 1) = true := beq_iff_eq.mpr c59
        have c59b1 : (t222 != 1) = false := bne_eq_false_iff_eq.mpr c59
        clear c59
        obtain ⟨⟨t230, t231, t232, t233⟩, A60, H⟩ := ob H
        (try dsimp only at H)
        obtain ⟨⟨t234, t235, t236, t237⟩, A61, H⟩ := ob H
        (try dsimp only at H)
        obtain ⟨⟨t238, t239, t240, t241⟩, A62, H⟩ := ob H
        (try dsimp only at H)
        obtain ⟨y242, hy242⟩ : ∃ y_ : List (S36), y_ = (([(⟨t230, t231, t232⟩ : S36), (⟨t234, t235, t236⟩ : S36), (⟨t238, t239, t240⟩ : S36)] : List (S36))) := ⟨_, rfl⟩
        replace H : (if x210000_1.length + y242.length < 3518437208883 then (some ((x210000_1 ++ y242), x210001_1, t241)) else (none)) = some (r1, r2, r3) := by first | (rw [hy242]; with_reducible exact H) | (have H2_ := (Option.bind_some _ _).symm.trans H; rw [hy242]; with_reducible exact H2_) | (have H2_ := (Option.bind_some _ _).symm.trans H; with_reducible exact H2_) | with_reducible exact H | (rw [hy242]; exact H) | exact H
        have Ny242 := Aside0.mk hy242
        clear hy242
        by_cases c63 : x210000_1.length + y242.length < 3518437208883
        ·rw [if_pos c63] at H
         have LMc63 := Aside0.mk c63
         clear c63
         obtain ⟨y245, hy245⟩ : ∃ y_ : List (S36), y_ = (x210000_1 ++ y242) := ⟨_, rfl⟩
         replace H : (some (y245, x210001_1, t241)) = some (r1, r2, r3) := by first | (rw [hy245]; with_reducible exact H) | (have H2_ := (Option.bind_some _ _).symm.trans H; rw [hy245]; with_reducible exact H2_) | (have H2_ := (Option.bind_some _ _).symm.trans H; with_reducible exact H2_) | with_reducible exact H | (rw [hy245]; exact H) | exact H
         have Ny245 := Aside0.mk hy245
         clear hy245
         simp only [Option.some.injEq, Prod.mk.injEq] at H
         obtain ⟨rfl, rfl, rfl⟩ := H
         try go_wp2_with (first | ((with_reducible refine gq 47 rfl ?_); refine gl (some 27) Try.func47 #[.pointer (some ⟨g, 0, none⟩), .int .i64 24] ?_; (with_reducible refine (spec_l6Rd_pick.calls k1 g s0_0 x1001_1 24 t222 t223 w0 _ ?side1 ?side2 A43.out).mono ?_); (case side1 => exact zi85 HI0); (case side2 => exact zg85 HB); rintro e w64 ⟨rfl, hi, hb, hk⟩; refine ⟨_, rfl, ?_⟩; replace HO_210000 := Aside0.mk (Kd.R_mono (Kd.R_keep (IsS85.apart (show IsS85 w0 _ g s0_0 x1001_1 from zi85 HI0) (zr HO_210000) (by decide)) hk (fun _ h => h.2)) (fun _ h => h.1)); replace BK199 := Aside0.mk (KeepBut.blk hk (g' := gb199) (o := .cells #[.slice none 0 0, .int .i64 0] 25 (0, 0)) (zk BK199) NB199_0.out (by simp)); replace BK209 := Aside0.mk (KeepBut.blk hk (g' := gb209) (o := .cells #[u210000, .int .i64 x210001_1] 25 (0, 0)) (zk BK209) NB209_0.out (by simp)); replace HK := Aside0.mk (KeepBut.trans (zh HK) hk (.inl rfl)); replace HB := Aside0.mk (hb); replace HI0 := Aside0.mk (hi); (try clear hb); (try clear hk); (try clear hi)))
         replace HO_210000 := Aside0.mk (Kd.R_drew HO_210000.out)
         replace BK199 := Aside0.mk (blk_drew BK199.out)
         replace BK209 := Aside0.mk (blk_drew BK209.out)
         replace HI0 := Aside0.mk (IsS85.drew HI0.out)
         replace HK := Aside0.mk (keep_drew HK.out)
         replace HB := Aside0.mk (below_drew1 HB.out)
         refine start_ (n := 12) (S := fun w' => w'.cell? ⟨gb209, 0, none⟩ = some (u210000) ∧ w'.cell? ⟨gb209, 1, none⟩ = some (.int .i64 x210001_1)) (ds := [11]) #[false, false, false, false, false, false, false, false, false, false, false, false] (by kernel_rfl) rfl rfl ⟨(blk_cell BK209.out 0).trans rfl, (blk_cell BK209.out 1).trans rfl⟩ (fun hHeld => ?_); refine with_tabW spec_l71Table.tab12 spec_l71Table.bits12 (fun HT_ HW_ => ?_)
         generalize w64.drew = w65 at HO_210000 BK199 BK209 HI0 HK HB hHeld ⊢
         refine pu 0 (some 38) (bm 12 1) rfl rfl ?_
         refine pu 2 (some 40) (bm 12 5) rfl rfl ?_
         refine pu 4 (some 42) (bm 12 21) rfl rfl ?_
         refine pu 6 (some 44) (bm 12 85) rfl rfl ?_
         refine tk 1 (some 39) (bm 12 87) rfl rfl hHeld ?_
         refine one_ (i := 3) (N := some 41) (bm 12 95) rfl rfl (one_of HT_.out (by kernel_rfl)) (by decide) (fun K hK => ?_)
         refine gs Try.func58 #[.pointer (some ⟨g, 0, none⟩)] ?_
         with_reducible refine (spec_l71Field.calls k1 g s0_0 t223 t230 t231 t232 t233 w0 _ ?side1 ?side2 A60.out).mono ?_
         (case side1 => exact zi85 HI0)
         (case side2 => exact zg85 HB)
         rintro e w66 ⟨rfl, hi, hb, hk⟩
         refine ⟨_, rfl, ?_⟩
         replace HO_210000 := Aside0.mk (Kd.R_mono (Kd.R_keep (IsS85.apart (show IsS85 w0 _ g s0_0 t223 from zi85 HI0) (zr HO_210000) (by decide)) hk (fun _ h => h.2)) (fun _ h => h.1))
         replace BK199 := Aside0.mk (KeepBut.blk hk (g' := gb199) (o := .cells #[.slice none 0 0, .int .i64 0] 25 (0, 0)) (zk BK199) NB199_0.out (by simp))
         replace BK209 := Aside0.mk (KeepBut.blk hk (g' := gb209) (o := .cells #[u210000, .int .i64 x210001_1] 25 (0, 0)) (zk BK209) NB209_0.out (by simp))
         replace HK := Aside0.mk (KeepBut.trans (zh HK) hk (.inl rfl))
         replace HB := Aside0.mk (hb)
         replace HI0 := Aside0.mk (hi)
         (try clear hb)
         (try clear hk)
         (try clear hi)
         refine hK.out _ _ ⟨(blk_cell BK209.out 0).trans rfl, (blk_cell BK209.out 1).trans rfl⟩ (fun hHeld => ?_)
         clear hK K
         refine nm ?_
         refine one_ (i := 5) (N := some 43) (bm 12 127) rfl rfl (one_of HT_.out (by kernel_rfl)) (by decide) (fun K hK => ?_)
         refine gs Try.func58 #[.pointer (some ⟨g, 0, none⟩)] ?_
         with_reducible refine (spec_l71Field.calls k1 g s0_0 t233 t234 t235 t236 t237 w0 _ ?side1 ?side2 A61.out).mono ?_
         (case side1 => exact zi85 HI0)
         (case side2 => exact zg85 HB)
         rintro e w67 ⟨rfl, hi, hb, hk⟩
         refine ⟨_, rfl, ?_⟩
         replace HO_210000 := Aside0.mk (Kd.R_mono (Kd.R_keep (IsS85.apart (show IsS85 w0 _ g s0_0 t233 from zi85 HI0) (zr HO_210000) (by decide)) hk (fun _ h => h.2)) (fun _ h => h.1))
         replace BK199 := Aside0.mk (KeepBut.blk hk (g' := gb199) (o := .cells #[.slice none 0 0, .int .i64 0] 25 (0, 0)) (zk BK199) NB199_0.out (by simp))
         replace BK209 := Aside0.mk (KeepBut.blk hk (g' := gb209) (o := .cells #[u210000, .int .i64 x210001_1] 25 (0, 0)) (zk BK209) NB209_0.out (by simp))
         replace HK := Aside0.mk (KeepBut.trans (zh HK) hk (.inl rfl))
         replace HB := Aside0.mk (hb)
         replace HI0 := Aside0.mk (hi)
         (try clear hb)
         (try clear hk)
         (try clear hi)
         refine hK.out _ _ ⟨(blk_cell BK209.out 0).trans rfl, (blk_cell BK209.out 1).trans rfl⟩ (fun hHeld => ?_)
         clear hK K
         refine nm ?_
         refine one_ (i := 7) (N := some 45) (bm 12 255) rfl rfl (one_of HT_.out (by kernel_rfl)) (by decide) (fun K hK => ?_)
         refine gs Try.func58 #[.pointer (some ⟨g, 0, none⟩)] ?_
         with_reducible refine (spec_l71Field.calls k1 g s0_0 t237 t238 t239 t240 t241 w0 _ ?side1 ?side2 A62.out).mono ?_
         (case side1 => exact zi85 HI0)
         (case side2 => exact zg85 HB)
         rintro e w68 ⟨rfl, hi, hb, hk⟩
         refine ⟨_, rfl, ?_⟩
         replace HO_210000 := Aside0.mk (Kd.R_mono (Kd.R_keep (IsS85.apart (show IsS85 w0 _ g s0_0 t237 from zi85 HI0) (zr HO_210000) (by decide)) hk (fun _ h => h.2)) (fun _ h => h.1))
         replace BK199 := Aside0.mk (KeepBut.blk hk (g' := gb199) (o := .cells #[.slice none 0 0, .int .i64 0] 25 (0, 0)) (zk BK199) NB199_0.out (by simp))
         replace BK209 := Aside0.mk (KeepBut.blk hk (g' := gb209) (o := .cells #[u210000, .int .i64 x210001_1] 25 (0, 0)) (zk BK209) NB209_0.out (by simp))
         replace HK := Aside0.mk (KeepBut.trans (zh HK) hk (.inl rfl))
         replace HB := Aside0.mk (hb)
         replace HI0 := Aside0.mk (hi)
         (try clear hb)
         (try clear hk)
         (try clear hi)
         refine hK.out _ _ ⟨(blk_cell BK209.out 0).trans rfl, (blk_cell BK209.out 1).trans rfl⟩ (fun hHeld => ?_)
         clear hK K
         refine nm ?_
         refine one_ (i := 8) (N := some 46) (bm 12 511) rfl rfl (one_of HT_.out (by kernel_rfl)) (by decide) (fun K hK => ?_)
         refine Kd.R_lit_step k36 _ 36 ?hg (N := 46) ?hd (xs := ([(⟨t230, t231, t232⟩ : S36), (⟨t234, t235, t236⟩ : S36), (⟨t238, t239, t240⟩ : S36)] : List (S36))) (inner := [.string t230, .string t231, .bool t232, .string t234, .string t235, .bool t236, .string t238, .string t239, .bool t240]) (ok := fun _ => True) (okp := fun _ => True) ?hr ?hp (fun _ hk => hk) trivial (Below.refl _ _) (Nat.le_refl _) (by simp) ?_; (case hd => rfl); (case hg => rfl); (case hr => first | (go_simp; done) | (go_simp; rfl)); (case hp => exact (Reps.c3 (show Kd.M k36 _ _ _ (⟨t230, t231, t232⟩ : S36) [.string t230, .string t231, .bool t232] from (k36_mkM _ _ _ (⟨t230, t231, t232⟩ : S36) )) (Reps.c3 (show Kd.M k36 _ _ _ (⟨t234, t235, t236⟩ : S36) [.string t234, .string t235, .bool t236] from (k36_mkM _ _ _ (⟨t234, t235, t236⟩ : S36) )) (Reps.c3 (show Kd.M k36 _ _ _ (⟨t238, t239, t240⟩ : S36) [.string t238, .string t239, .bool t240] from (k36_mkM _ _ _ (⟨t238, t239, t240⟩ : S36) )) (Reps.none _ _)))))
         intro v243 w69 ho70 hb hg_ hnew_
         clear hg_ hnew_
         (first | rw [← Ny242.out] at ho70 | (simp only [Int.reduceToNat] at ho70; rw [← Ny242.out] at ho70))
         have HO244 := Aside0.mk (Kd.R_lower (Kd.R_new' ho70 (Kd.R_lt (zr HO_210000))) (keep_size (w := w) (g := g) (row := none) (zh HK)))
         replace HO_210000 := Aside0.mk (Kd.R_elder' (zr HO_210000) (Kd.R_base ho70) hb)
         replace BK199 := kb BK199 hb
         replace BK209 := kb BK209 hb
         replace HI0 := Aside0.mk (IsS85.below (zi85 HI0) hb)
         replace HK := Aside0.mk (KeepBut.trans (zh HK) (KeepBut.of_below hb g none) (.inl rfl))
         replace HB := Aside0.mk (below_step (zg85 HB) hb)
         clear hb ho70
         obtain ⟨Ao72, co72, eo72⟩ := Kd.R_slice HO244.out
         (first | subst eo72 | (injection eo72 with f1_ f2_ f3_; have f4_ := f1_.symm; have f5_ := f3_.symm; clear f1_ f2_ f3_; subst f4_; subst f5_))
         refine hK.out _ _ ⟨(blk_cell BK209.out 0).trans rfl, (blk_cell BK209.out 1).trans rfl⟩ (fun hHeld => ?_)
         clear hK K
         refine nm ?_
         refine one_ (i := 9) (N := some 47) (bm 12 1023) rfl rfl (one_of HT_.out (by kernel_rfl)) (by decide) (fun K hK => ?_)
         refine Kd.R_append_rows_step k36 w.heap.size (by rfl) (.tmp 39) (.tmp 46) 23 36 (.agg #[(.string ⟨#[]⟩), (.string ⟨#[]⟩), (.bool false)]) 40 rfl Try.underlying23 info36 rfl (by decide) (by omega) u210000 x210000_1 y242 _ _ _ (fun k_ => some k_ ≠ (.slice Ao72 y242.length co72 : Value).ownBlock) (fun _ => False) rfl rfl ?aO ?aR (fun _ _ h => h) (fun _ h => h.elim) ?aF (Below.refl _ _) ?aS ?aL ?_
         (case aR => exact zc (Kd.R_reads' HO244.out).2.2)
         (case aF => exact (fun k_ hk => Kd.fresh' (Kd.R_lt (zr HO244)) k_ hk))
         (case aO => exact (zq (Kd.R_mono HO_210000.out (fun _ hk => hk.2))))
         (case aS => exact (keep_size (w := w) (g := g) (row := none) (zh HK)))
         (case aL => have := LMc63.out; omega)
         intro v246 w71 ho hb hg hat
         rw [← Ny245.out] at ho
         replace BK199 := Aside0.mk (blk_grown (zk BK199) hg (Kd.R_ne HO_210000.out BK199.out (by decide)))
         replace BK209 := Aside0.mk (blk_grown (zk BK209) hg (Kd.R_ne HO_210000.out BK209.out (by decide)))
         replace HI0 := Aside0.mk (IsS85.grown (zi85 HI0) hg (IsS85.own_ne HI0.out HO_210000.out (by decide)))
         replace HO244 := Aside0.mk (Kd.R_after (ok := (fun _ => True)) (zr HO244) hg hat)
         replace HB := Aside0.mk (below_weaken (zg85 HB) HL.out hb)
         replace HK := Aside0.mk (KeepBut.trans (zh HK) (KeepBut.of_grown hg g) (Kd.R_base2 HO_210000.out))
         have HO247 := Aside0.mk (ho)
         clear HO_210000
         clear ho hb hg hat
         obtain ⟨Ao73, co73, eo73⟩ := Kd.R_slice HO247.out
         (first | subst eo73 | (injection eo73 with f1_ f2_ f3_; have f4_ := f1_.symm; have f5_ := f3_.symm; clear f1_ f2_ f3_; subst f4_; subst f5_))
         refine hK.out _ _ ⟨(blk_cell BK209.out 0).trans rfl, (blk_cell BK209.out 1).trans rfl⟩ (fun hHeld => ?_)
         clear hK K
         refine nm ?_
         refine pu 10 (some 48) (bm 12 2047) rfl rfl ?_
         refine last_ (i := 11) (N := none) #[true, true, true, true, true, true, true, true, true, true, true, true] rfl rfl (one_of HT_.out (by kernel_rfl)) (by decide) (fun K hK => ?_)
         have hs74 : w71.cell? ⟨gb209, 0, none⟩ = some (u210000) := (blk_cell BK209.out 0).trans rfl
         have hfs74 := blk_frozen BK209.out 0
         have hns74_0 := NB199_209.out
         have hms74_0 := NB209_199.out
         refine skip_ (w1 := ?_) (by rfl) rfl ?_ ?_
         rotate_left
         ·go_simp
          rfl
         refine hK.out _ _ ?_
         clear hK K
         refine done_ (done_of HT_.out (by kernel_rfl)) ?_
         have hnb75 := NB209_199.out
         have hnc75 := NB199_209.out
         have hnb76 := NB209_0.out
         have hnc76 := NB0_209.out
         obtain ⟨hcz77_0, hcz77_1, hfz77_0, hfz77_1⟩ := c2 BK209
         have hnb78 := NB199_0.out
         have hnc78 := NB0_199.out
         obtain ⟨hcz79_0, hcz79_1, hfz79_0, hfz79_1⟩ := c2 BK199
         try go_wp2
         refine bodyPost_ret (results_cell_row rfl _ _ gb199 25 #[.slice Ao73 y245.length co73, .int .i64 x210001_1] (0, 0) _ rfl (zp BK199) Try.underlying25 rfl (by kernel_rfl)) rfl ?_
         exact ⟨_, ze, (Kd.R_mono (ztR (Kd.R_types (Kd.R_types HO247.out BK209.out (by decide)) BK199.out (by decide))) (fun _ hk => trivial)), zi85 HI0, zg85 HB, zh HK⟩
        ·rw [if_neg c63] at H
         exact absurd H (by simp)
       ·rw [if_neg c59] at H
        have c59b0 : (t222 == 1) = false := beq_eq_false_iff_ne.mpr c59
        have c59b1 : (t222 != 1) = true := bne_iff_ne.mpr c59
        simp only [Option.some.injEq, Prod.mk.injEq] at H
        obtain ⟨rfl, rfl, rfl⟩ := H
        go_wp2_with (first | ((with_reducible refine gq 47 rfl ?_); refine gl (some 27) Try.func47 #[.pointer (some ⟨g, 0, none⟩), .int .i64 24] ?_; (with_reducible refine (spec_l6Rd_pick.calls k1 g s0_0 x1001_1 24 t222 t223 w0 _ ?side1 ?side2 A43.out).mono ?_); (case side1 => exact zi85 HI0); (case side2 => exact zg85 HB); rintro e w80 ⟨rfl, hi, hb, hk⟩; refine ⟨_, rfl, ?_⟩; replace HO_210000 := Aside0.mk (Kd.R_mono (Kd.R_keep (IsS85.apart (show IsS85 w0 _ g s0_0 x1001_1 from zi85 HI0) (zr HO_210000) (by decide)) hk (fun _ h => h.2)) (fun _ h => h.1)); replace BK199 := Aside0.mk (KeepBut.blk hk (g' := gb199) (o := .cells #[.slice none 0 0, .int .i64 0] 25 (0, 0)) (zk BK199) NB199_0.out (by simp)); replace BK209 := Aside0.mk (KeepBut.blk hk (g' := gb209) (o := .cells #[u210000, .int .i64 x210001_1] 25 (0, 0)) (zk BK209) NB209_0.out (by simp)); replace HK := Aside0.mk (KeepBut.trans (zh HK) hk (.inl rfl)); replace HB := Aside0.mk (hb); replace HI0 := Aside0.mk (hi); (try clear hb); (try clear hk); (try clear hi); have hnb81 := NB209_199.out; have hnc81 := NB199_209.out; have hnb82 := NB209_0.out; have hnc82 := NB0_209.out; obtain ⟨hcz83_0, hcz83_1, hfz83_0, hfz83_1⟩ := c2 BK209; obtain ⟨Ao84, co84, eo84⟩ := Kd.R_slice HO_210000.out; subst eo84; have hnb85 := NB199_0.out; have hnc85 := NB0_199.out; obtain ⟨hcz86_0, hcz86_1, hfz86_0, hfz86_1⟩ := c2 BK199))
        refine bodyPost_ret (results_cell_row rfl _ _ gb199 25 #[.slice Ao84 x210000_1.length co84, .int .i64 x210001_1] (0, 0) _ rfl (zp BK199) Try.underlying25 rfl (by kernel_rfl)) rfl ?_
        exact ⟨_, ze, (Kd.R_mono (ztR (Kd.R_types HO_210000.out BK199.out (by decide))) (fun _ hk => trivial)), zi85 HI0, zg85 HB, zh HK⟩
  ·rw [if_neg c4] at H
   exact absurd H (by simp)
 ·skip
  exact absurd H (by simp)

/-! ### spec_l71Head: function 63 -/
-- thin
mutual
def spec_l71Head.l0 : Nat → List (S36) → Int → List Int → Int → Option ((List (S36)) × Int)
 | 0, _, _, _, _ => none
 | k + 1, x3, x4, x1000, x1001 => if x4 > 0 then ((spec_l71Field.f k x1000 x1001).bind fun bt253 => (if x3.length < 3518437208883 then (spec_l71Head.l0 k (x3 ++ [(⟨bt253.1, bt253.2.1, bt253.2.2.1⟩ : S36)]) (wrap64 (x4 - 1)) x1000 bt253.2.2.2) else (none))) else ((spec_l6Rd_pick.f k x1000 x1001 24).bind fun bt260 => (if bt260.1 = 0 then (spec_l71Head.l1 k x3 x1000 bt260.2) else (some (x3, bt260.2))))
def spec_l71Head.l1 : Nat → List (S36) → List Int → Int → Option ((List (S36)) × Int)
 | 0, _, _, _ => none
 | k + 1, x3, x1000, x1001 => if (x3.length : Int) ≤ 6 then (if x3.length < 3518437208883 then (spec_l71Head.l1 k (x3 ++ [(⟨(⟨#[116, 101]⟩ : ByteArray), (⟨#[]⟩ : ByteArray), false⟩ : S36)]) x1000 x1001) else (none)) else (some (x3, x1001))
end
def spec_l71Head.f (k : Nat) (s0_0 : List Int) (s0_1 : Int) : Option ((List (S36)) × Int) := (spec_l6Rd_pick.f k s0_0 s0_1 6).bind fun bt251 => (spec_l71Head.l0 k (([] : List (S36))) bt251.1 s0_0 bt251.2)
theorem spec_l71Head.mono_l : ∀ k, (∀ y0 y1 y2 y3, LeO (spec_l71Head.l0 k y0 y1 y2 y3) (spec_l71Head.l0 (k + 1) y0 y1 y2 y3)) ∧ (∀ y0 y1 y2, LeO (spec_l71Head.l1 k y0 y1 y2) (spec_l71Head.l1 (k + 1) y0 y1 y2))
 | 0 => ⟨fun _ _ _ _ r h => by simp [spec_l71Head.l0] at h, fun _ _ _ r h => by simp [spec_l71Head.l1] at h⟩
 | k + 1 => by
  obtain ⟨ih0, ih1⟩ := spec_l71Head.mono_l k
  refine ⟨?_, ?_⟩
  ·intro y0 y1 y2 y3
   unfold spec_l71Head.l0
   have m0 := @spec_l6Rd_pick.mono
   have m1 := @spec_l71Field.mono
   exact zm
  ·intro y0 y1 y2
   unfold spec_l71Head.l1
   have m0 := @spec_l6Rd_pick.mono
   have m1 := @spec_l71Field.mono
   exact zm
theorem spec_l71Head.mono : ∀ a0 a1 k, LeO (spec_l71Head.f k a0 a1) (spec_l71Head.f (k + 1) a0 a1) := by
 intro a0 a1 k
 obtain ⟨ih0, ih1⟩ := spec_l71Head.mono_l k
 unfold spec_l71Head.f
 have m0 := @spec_l6Rd_pick.mono
 have m1 := @spec_l71Field.mono
 exact zm
set_option maxHeartbeats 8000000 in
set_option maxRecDepth 100000 in
theorem spec_l71Head.calls (k : Nat) (g : Nat) (s0_0 : List Int) (s0_1 : Int) (r1 : List (S36)) (r2 : Int) (w0 w : World) (hI : IsS85 w0 w g s0_0 s0_1) (hB : Below w0.heap.size w0 w) (h : spec_l71Head.f k s0_0 s0_1 = some (r1, r2)) :
  Calls Try.prog 63 #[.pointer (some ⟨g, 0, none⟩)] w fun e w' => ∃ v0_ : Value, e = .returned (v0_) ∧ Kd.R k36 36 w' w.heap.size (fun _ => True) v0_ r1 ∧ IsS85 w0 w' g s0_0 r2 ∧ Below w0.heap.size w0 w' ∧ KeepBut w w' g none := by
 have hu36 := Try.underlying36
 have HI0 := Aside0.mk hI
 have HK := Aside0.mk (KeepBut.refl w g none)
 have HL := Aside0.mk hB.size
 clear hI
 have HW0 := Aside0.mk hB.size
 have HB := Aside0.mk hB
 clear hB
 have H : ((spec_l6Rd_pick.f k s0_0 s0_1 6).bind fun bt251 => (spec_l71Head.l0 k (([] : List (S36))) bt251.1 s0_0 bt251.2)) = some (r1, r2) := h
 clear h
 obtain ⟨y248, hy248⟩ : ∃ y_ : List (S36), y_ = (([] : List (S36))) := ⟨_, rfl⟩
 replace H : ((spec_l6Rd_pick.f k s0_0 s0_1 6).bind fun bt251 => (spec_l71Head.l0 k y248 bt251.1 s0_0 bt251.2)) = some (r1, r2) := by first | (rw [hy248]; with_reducible exact H) | (have H2_ := (Option.bind_some _ _).symm.trans H; rw [hy248]; with_reducible exact H2_) | (have H2_ := (Option.bind_some _ _).symm.trans H; with_reducible exact H2_) | with_reducible exact H | (rw [hy248]; exact H) | exact H
 have Ny248 := Aside0.mk hy248
 clear hy248
 obtain ⟨⟨t251, t252⟩, A2, H⟩ := ob H
 (try dsimp only at H)
 have H' := Aside0.mk H
 clear H
 go_enter Try.func63, Try.ntmps63
 go_wp2_with (first | ((with_reducible refine gd 5 rfl ?_); refine Kd.R_lit k36 _ 36 ?hg (N := 5) ?hd (xs := ([] : List (S36))) (inner := []) (ok := fun _ => True) (okp := fun _ => True) ?hr ?hp (fun _ hk => hk) trivial (Below.refl _ _) (Nat.le_refl _) (by simp) ?_; (case hd => rfl); (case hg => rfl); (case hr => first | (go_simp; done) | (go_simp; rfl)); (case hp => exact (Reps.none _ _)); intro v249 w3 ho4 hb hg_ hnew_; clear hg_ hnew_; (first | rw [← Ny248.out] at ho4 | (simp only [Int.reduceToNat] at ho4; rw [← Ny248.out] at ho4)); have HO250 := Aside0.mk (Kd.R_lower ho4 (keep_size (w := w) (g := g) (row := none) (zh HK))); replace HI0 := Aside0.mk (IsS85.below (zi85 HI0) hb); replace HK := Aside0.mk (KeepBut.trans (zh HK) (KeepBut.of_below hb g none) (.inl rfl)); replace HB := Aside0.mk (below_step (zg85 HB) hb); clear hb ho4) | ((with_reducible refine gq 47 rfl ?_); refine gl (some 7) Try.func47 #[.pointer (some ⟨g, 0, none⟩), .int .i64 6] ?_; (with_reducible refine (spec_l6Rd_pick.calls k g s0_0 s0_1 6 t251 t252 w0 _ ?side1 ?side2 A2.out).mono ?_); (case side1 => exact zi85 HI0); (case side2 => exact zg85 HB); rintro e w5 ⟨rfl, hi, hb, hk⟩; refine ⟨_, rfl, ?_⟩; replace HO250 := Aside0.mk (Kd.R_mono (Kd.R_keep (IsS85.apart (show IsS85 w0 _ g s0_0 s0_1 from zi85 HI0) (zr HO250) (by decide)) hk (fun _ h => h.2)) (fun _ h => h.1)); replace HK := Aside0.mk (KeepBut.trans (zh HK) hk (.inl rfl)); replace HB := Aside0.mk (hb); replace HI0 := Aside0.mk (hi); (try clear hb); (try clear hk); (try clear hi)))
 go_loopg [3, 4] k (fun kq v3 v4 w' => ∃ (x3_1 : List (S36)) (x4_1 : Int) (x1001_1 : Int), v4 = .int .i64 x4_1 ∧ Aside0 (spec_l71Head.l0 kq x3_1 x4_1 s0_0 x1001_1 = some (r1, r2)) ∧ Aside0 (kq ≤ k) ∧ Aside0 (Kd.R k36 36 w' w.heap.size (fun _ => True) v3 x3_1) ∧ Aside0 (IsS85 w0 w' g s0_0 x1001_1) ∧ Aside0 (KeepBut w w' g none) ∧ Aside0 (Below w0.heap.size w0 w'))
 case atStart => exact ⟨(y248), (t251), (t252), zs, H', ⟨Nat.le_refl _⟩, ⟨by exact zr HO250⟩, ⟨zi85 HI0⟩, ⟨zh HK⟩, ⟨zg85 HB⟩⟩
 case round =>
  clear H'
  try clear p2
  try clear c4
  obtain ⟨x3_1, x4_1, x1001_1, rfl, HA, HK1, HO_3, HI0, HK, HB⟩ := hrel
  cases gk with
  | zero => exact absurd HA.out (by simp [spec_l71Head.l0])
  | succ k1 =>
   have H := HA.out
   clear HA
   simp only [spec_l71Head.l0] at H
   replace H := sp H
   rcases H with ⟨c6, H⟩ | ⟨c6, H⟩
   ·skip
    have c6b0 := decide_eq_true c6
    clear c6
    obtain ⟨⟨t253, t254, t255, t256⟩, A7, H⟩ := ob H
    (try dsimp only at H)
    by_cases c8 : x3_1.length < 3518437208883
    ·rw [if_pos c8] at H
     have LMc8 := Aside0.mk c8
     clear c8
     obtain ⟨y257, hy257⟩ : ∃ y_ : List (S36), y_ = (x3_1 ++ [(⟨t253, t254, t255⟩ : S36)]) := ⟨_, rfl⟩
     replace H : (spec_l71Head.l0 k1 y257 (wrap64 (x4_1 - 1)) s0_0 t256) = some (r1, r2) := by first | (rw [hy257]; with_reducible exact H) | (have H2_ := (Option.bind_some _ _).symm.trans H; rw [hy257]; with_reducible exact H2_) | (have H2_ := (Option.bind_some _ _).symm.trans H; with_reducible exact H2_) | with_reducible exact H | (rw [hy257]; exact H) | exact H
     have Ny257 := Aside0.mk hy257
     clear hy257
     have H' := Aside0.mk H
     clear H
     go_wp2_with (first | ((with_reducible refine gq 58 rfl ?_); refine gl (some 14) Try.func58 #[.pointer (some ⟨g, 0, none⟩)] ?_; (with_reducible refine (spec_l71Field.calls k1 g s0_0 x1001_1 t253 t254 t255 t256 w0 _ ?side1 ?side2 A7.out).mono ?_); (case side1 => exact zi85 HI0); (case side2 => exact zg85 HB); rintro e w9 ⟨rfl, hi, hb, hk⟩; refine ⟨_, rfl, ?_⟩; replace HO_3 := Aside0.mk (Kd.R_mono (Kd.R_keep (IsS85.apart (show IsS85 w0 _ g s0_0 x1001_1 from zi85 HI0) (zr HO_3) (by decide)) hk (fun _ h => h.2)) (fun _ h => h.1)); replace HK := Aside0.mk (KeepBut.trans (zh HK) hk (.inl rfl)); replace HB := Aside0.mk (hb); replace HI0 := Aside0.mk (hi); (try clear hb); (try clear hk); (try clear hi)) | ((with_reducible refine gate_builtin (b := .append) (xs := #[.tmp 12, .tmp 15]) rfl ?_); at_builtin; refine Kd.R_append k36 w.heap.size rfl (.tmp 12) (.tmp 15) 23 36 (.agg #[(.string ⟨#[]⟩), (.string ⟨#[]⟩), (.bool false)]) 40 rfl Try.underlying23 info36 rfl (by decide) (by omega) u3 x3_1 (⟨t253, t254, t255⟩ : S36) [.string t253, .string t254, .bool t255] (fun _ => True) (fun _ => False) rfl rfl ?aP (fun _ hk => hk.elim) ?aF ?aO (Below.refl _ _) ?aS ?aL ?_; (case aP => exact k36_mkM _ _ _ (⟨t253, t254, t255⟩ : S36)); (case aF => exact (fun _ _ => trivial)); (case aO => exact (zr HO_3)); (case aS => exact (keep_size (w := w) (g := g) (row := none) (zh HK))); (case aL => have := LMc8.out; omega); intro v258 w10 ho hb hg hat; rw [← Ny257.out] at ho; replace HI0 := Aside0.mk (IsS85.grown (zi85 HI0) hg (IsS85.own_ne HI0.out HO_3.out (by decide))); replace HB := Aside0.mk (below_weaken (zg85 HB) HL.out hb); replace HK := Aside0.mk (KeepBut.trans (zh HK) (KeepBut.of_grown hg g) (Kd.R_base2 HO_3.out)); have HO259 := Aside0.mk (ho); clear HO_3; clear ho hb hg hat))
     go_roundg k1
     case measure => have := HK1.out; omega
     case rel => exact ⟨(y257), (wrap64 (x4_1 - 1)), (t256), zs, H', ⟨by have := HK1.out; omega⟩, ⟨by exact zr HO259⟩, ⟨zi85 HI0⟩, ⟨zh HK⟩, ⟨zg85 HB⟩⟩
    ·rw [if_neg c8] at H
     exact absurd H (by simp)
   ·skip
    have c6b0 := decide_eq_false c6
    clear c6
    obtain ⟨⟨t260, t261⟩, A11, H⟩ := ob H
    (try dsimp only at H)
    replace H := sp H
    rcases H with ⟨c12, H⟩ | ⟨c12, H⟩
    ·skip
     have c12b0 : (t260 == 0) = true := beq_iff_eq.mpr c12
     have c12b1 : (t260 != 0) = false := bne_eq_false_iff_eq.mpr c12
     clear c12
     have H' := Aside0.mk H
     clear H
     go_wp2_with (first | ((with_reducible refine gq 47 rfl ?_); refine gl (some 18) Try.func47 #[.pointer (some ⟨g, 0, none⟩), .int .i64 24] ?_; (with_reducible refine (spec_l6Rd_pick.calls k1 g s0_0 x1001_1 24 t260 t261 w0 _ ?side1 ?side2 A11.out).mono ?_); (case side1 => exact zi85 HI0); (case side2 => exact zg85 HB); rintro e w13 ⟨rfl, hi, hb, hk⟩; refine ⟨_, rfl, ?_⟩; replace HO_3 := Aside0.mk (Kd.R_mono (Kd.R_keep (IsS85.apart (show IsS85 w0 _ g s0_0 x1001_1 from zi85 HI0) (zr HO_3) (by decide)) hk (fun _ h => h.2)) (fun _ h => h.1)); replace HK := Aside0.mk (KeepBut.trans (zh HK) hk (.inl rfl)); replace HB := Aside0.mk (hb); replace HI0 := Aside0.mk (hi); (try clear hb); (try clear hk); (try clear hi)))
     go_loopg [3] k1 (fun kq v3 w' => ∃ (x3_2 : List (S36)), Aside0 (spec_l71Head.l1 kq x3_2 s0_0 t261 = some (r1, r2)) ∧ Aside0 (kq ≤ k1) ∧ Aside0 (Kd.R k36 36 w' w.heap.size (fun _ => True) v3 x3_2) ∧ Aside0 (IsS85 w0 w' g s0_0 t261) ∧ Aside0 (KeepBut w w' g none) ∧ Aside0 (Below w0.heap.size w0 w'))
     case atStart => exact ⟨(x3_1), H', ⟨Nat.le_refl _⟩, ⟨by exact zr HO_3⟩, ⟨zi85 HI0⟩, ⟨zh HK⟩, ⟨zg85 HB⟩⟩
     case round =>
      clear H'
      try clear c1
      try clear p2
      try clear c4
      try clear c5
      try clear c6
      try clear c6b0
      try clear p6
      try clear c8
      try clear c12
      try clear c12b0
      try clear c12b1
      try clear p2
      obtain ⟨x3_2, HA, HK2, HO_3, HI0, HK, HB⟩ := hrel
      cases gk with
      | zero => exact absurd HA.out (by simp [spec_l71Head.l1])
      | succ k2 =>
       have H := HA.out
       clear HA
       simp only [spec_l71Head.l1] at H
       by_cases c14 : (x3_2.length : Int) ≤ 6
       ·rw [if_pos c14] at H
        have c14b0 := decide_eq_true c14
        have c14b1 := decide_eq_true (by omega)
        clear c14
        by_cases c15 : x3_2.length < 3518437208883
        ·rw [if_pos c15] at H
         have LMc15 := Aside0.mk c15
         clear c15
         obtain ⟨y262, hy262⟩ : ∃ y_ : List (S36), y_ = (x3_2 ++ [(⟨(⟨#[116, 101]⟩ : ByteArray), (⟨#[]⟩ : ByteArray), false⟩ : S36)]) := ⟨_, rfl⟩
         replace H : (spec_l71Head.l1 k2 y262 s0_0 t261) = some (r1, r2) := by first | (rw [hy262]; with_reducible exact H) | (have H2_ := (Option.bind_some _ _).symm.trans H; rw [hy262]; with_reducible exact H2_) | (have H2_ := (Option.bind_some _ _).symm.trans H; with_reducible exact H2_) | with_reducible exact H | (rw [hy262]; exact H) | exact H
         have Ny262 := Aside0.mk hy262
         clear hy262
         have H' := Aside0.mk H
         clear H
         obtain ⟨Ao16, co16, eo16⟩ := Kd.R_slice HO_3.out
         subst eo16
         go_wp2_with (first | ((with_reducible refine gate_builtin (b := .append) (xs := #[.tmp 23, .tmp 25]) rfl ?_); at_builtin; refine Kd.R_append k36 w.heap.size rfl (.tmp 23) (.tmp 25) 23 36 (.agg #[(.string ⟨#[]⟩), (.string ⟨#[]⟩), (.bool false)]) 40 rfl Try.underlying23 info36 rfl (by decide) (by omega) (.slice Ao16 x3_2.length co16) x3_2 (⟨(⟨#[116, 101]⟩ : ByteArray), (⟨#[]⟩ : ByteArray), false⟩ : S36) [.string (⟨#[116, 101]⟩ : ByteArray), .string (⟨#[]⟩ : ByteArray), .bool false] (fun _ => True) (fun _ => False) rfl rfl ?aP (fun _ hk => hk.elim) ?aF ?aO (Below.refl _ _) ?aS ?aL ?_; (case aP => exact k36_mkM _ _ _ (⟨(⟨#[116, 101]⟩ : ByteArray), (⟨#[]⟩ : ByteArray), false⟩ : S36)); (case aF => exact (fun _ _ => trivial)); (case aO => exact (zr HO_3)); (case aS => exact (keep_size (w := w) (g := g) (row := none) (zh HK))); (case aL => have := LMc15.out; omega); intro v263 w17 ho hb hg hat; rw [← Ny262.out] at ho; replace HI0 := Aside0.mk (IsS85.grown (zi85 HI0) hg (IsS85.own_ne HI0.out HO_3.out (by decide))); replace HB := Aside0.mk (below_weaken (zg85 HB) HL.out hb); replace HK := Aside0.mk (KeepBut.trans (zh HK) (KeepBut.of_grown hg g) (Kd.R_base2 HO_3.out)); have HO264 := Aside0.mk (ho); clear HO_3; clear ho hb hg hat))
         go_roundg k2
         case measure => have := HK1.out; have := HK2.out; omega
         case rel => exact ⟨(y262), H', ⟨by have := HK1.out; have := HK2.out; omega⟩, ⟨by exact zr HO264⟩, ⟨zi85 HI0⟩, ⟨zh HK⟩, ⟨zg85 HB⟩⟩
        ·rw [if_neg c15] at H
         exact absurd H (by simp)
       ·rw [if_neg c14] at H
        have c14b0 := decide_eq_false c14
        have c14b1 := decide_eq_false (by omega)
        clear c14
        simp only [Option.some.injEq, Prod.mk.injEq] at H
        obtain ⟨rfl, rfl⟩ := H
        obtain ⟨Ao18, co18, eo18⟩ := Kd.R_slice HO_3.out
        subst eo18
        go_wp2
        go_ret
        exact ⟨_, ze, zq (HO_3.out), zi85 HI0, zg85 HB, zh HK⟩
    ·skip
     have c12b0 : (t260 == 0) = false := beq_eq_false_iff_ne.mpr c12
     have c12b1 : (t260 != 0) = true := bne_iff_ne.mpr c12
     simp only [Option.some.injEq, Prod.mk.injEq] at H
     obtain ⟨rfl, rfl⟩ := H
     go_wp2_with (first | ((with_reducible refine gq 47 rfl ?_); refine gl (some 18) Try.func47 #[.pointer (some ⟨g, 0, none⟩), .int .i64 24] ?_; (with_reducible refine (spec_l6Rd_pick.calls k1 g s0_0 x1001_1 24 t260 t261 w0 _ ?side1 ?side2 A11.out).mono ?_); (case side1 => exact zi85 HI0); (case side2 => exact zg85 HB); rintro e w19 ⟨rfl, hi, hb, hk⟩; refine ⟨_, rfl, ?_⟩; replace HO_3 := Aside0.mk (Kd.R_mono (Kd.R_keep (IsS85.apart (show IsS85 w0 _ g s0_0 x1001_1 from zi85 HI0) (zr HO_3) (by decide)) hk (fun _ h => h.2)) (fun _ h => h.1)); replace HK := Aside0.mk (KeepBut.trans (zh HK) hk (.inl rfl)); replace HB := Aside0.mk (hb); replace HI0 := Aside0.mk (hi); (try clear hb); (try clear hk); (try clear hi)))
     go_ret
     exact ⟨_, ze, zq (HO_3.out), zi85 HI0, zg85 HB, zh HK⟩

/-! ### spec_DrawHeadWrite: function 37 -/
-- thin
def spec_DrawHeadWrite.f (k : Nat) (l0 : List Int) : Option ((List (S36)) × Int × (List (S36))) := (spec_l6Open.f l0).bind fun bt266 => ((spec_l71Table.f k bt266.1 bt266.2).bind fun bt269 => ((spec_l71Head.f k bt266.1 bt269.2.2).bind fun bt274 => (some (bt269.1, bt269.2.1, bt274.1))))
theorem spec_DrawHeadWrite.mono : ∀ a0 k, LeO (spec_DrawHeadWrite.f k a0) (spec_DrawHeadWrite.f (k + 1) a0) := by
 intro a0 k
 unfold spec_DrawHeadWrite.f
 have m0 := @spec_l71Head.mono
 have m1 := @spec_l71Table.mono
 exact zm
set_option maxHeartbeats 8000000 in
set_option maxRecDepth 100000 in
theorem spec_DrawHeadWrite.calls (k : Nat) (A0 : Option Addr) (c0 : Nat) (l0 : List Int) (r1 : List (S36)) (r2 : Int) (r3 : List (S36)) (w : World) (hr0 : Kd.C (Kd.int .u8) w A0 l0.length l0) (hc0 : l0.length ≤ c0) (h : spec_DrawHeadWrite.f k l0 = some (r1, r2, r3)) :
  Calls Try.prog 37 #[.slice A0 l0.length c0] w fun e w' => ∃ v0_ v2_ : Value, e = .returned (.tuple #[.agg #[v0_, .int .i64 r2], v2_]) ∧ Kd.R k36 36 w' w.heap.size (fun k_ => some k_ ≠ (v2_ : Value).ownBlock) v0_ r1 ∧ Kd.R k36 36 w' w.heap.size (fun k_ => some k_ ≠ (v0_ : Value).ownBlock) v2_ r3 ∧ Below w.heap.size w w' := by
 have hu25 := Try.underlying25
 have HR0 := Aside0.mk hr0
 have HC0 := Aside0.mk hc0
 clear hr0 hc0
 have HB := Aside0.mk (Below.refl w.heap.size w)
 have H : ((spec_l6Open.f l0).bind fun bt266 => ((spec_l71Table.f k bt266.1 bt266.2).bind fun bt269 => ((spec_l71Head.f k bt266.1 bt269.2.2).bind fun bt274 => (some (bt269.1, bt269.2.1, bt274.1))))) = some (r1, r2, r3) := h
 clear h
 obtain ⟨⟨t266, t267⟩, A2, H⟩ := ob H
 (try dsimp only at H)
 obtain ⟨⟨t269, t272, t273⟩, A3, H⟩ := ob H
 (try dsimp only at H)
 obtain ⟨⟨t274, t277⟩, A4, H⟩ := ob H
 (try dsimp only at H)
 simp only [Option.some.injEq, Prod.mk.injEq] at H
 obtain ⟨rfl, rfl, rfl⟩ := H
 go_enter Try.func37, Try.ntmps37
 go_wp2_with (first | ((with_reducible refine gd 2 rfl ?_); refine bx (N := 2) (cs := #[.slice none 0 0, .int .i64 0]) (t := 25) ?_; intro gb265 hg w5 hbox hb; have BK265 := Aside0.mk (hbox); have GW265 := gw HB hg; have GE265 := GW265; replace HB := Aside0.mk (below_step (zb HB) hb); clear hb hbox hg) | ((with_reducible refine gq 45 rfl ?_); refine gl (some 6) Try.func45 #[.slice A0 l0.length c0] ?_; (with_reducible refine (spec_l6Open.calls _ _ l0 t266 t267 w _ ?side1 ?side2 ?side3 A2.out).mono ?_); (case side1 => exact zb HB); (case side2 => exact HR0.out); (case side3 => exact HC0.out); rintro e w6 ⟨g268, rfl, hi, hb, hb2⟩; refine ⟨_, rfl, ?_⟩; replace HB := Aside0.mk (hb); have HI268 := Aside0.mk (hi); have NB268_265 := Aside0.mk (IsS85.ne_blk hi (blk_below (zk BK265) hb2) (by decide)); have NB265_268 := Aside0.mk (Ne.symm (IsS85.ne_blk hi (blk_below (zk BK265) hb2) (by decide))); replace BK265 := Aside0.mk (blk_below (zk BK265) hb2); (try clear hb); (try clear hb2); (try clear hi)) | ((with_reducible refine gq 46 rfl ?_); refine gl (some 8) Try.func46 #[.pointer (some ⟨g268, 0, none⟩)] ?_; (with_reducible refine (spec_l71Table.calls k g268 t266 t267 t269 t272 t273 w _ ?side1 ?side2 A3.out).mono ?_); (case side1 => exact zi85 HI268); (case side2 => exact zg85 HB); rintro e w7 ⟨v270, rfl, ho0, hi, hb, hk⟩; refine ⟨_, rfl, ?_⟩; replace BK265 := Aside0.mk (KeepBut.blk hk (g' := gb265) (o := .cells #[.slice none 0 0, .int .i64 0] 25 (0, 0)) (zk BK265) NB265_268.out (by simp)); have HO271 := Aside0.mk (Kd.R_lower ho0 (below_size (zg85 HB))); replace HB := Aside0.mk (hb); replace HI268 := Aside0.mk (hi); (try clear hb); (try clear hk); (try clear hi); (try clear ho0)) | ((with_reducible refine gq 63 rfl ?_); refine gl (some 10) Try.func63 #[.pointer (some ⟨g268, 0, none⟩)] ?_; (with_reducible refine (spec_l71Head.calls k g268 t266 t273 t274 t277 w _ ?side1 ?side2 A4.out).mono ?_); (case side1 => exact zi85 HI268); (case side2 => exact zg85 HB); rintro e w8 ⟨v275, rfl, ho0, hi, hb, hk⟩; refine ⟨_, rfl, ?_⟩; replace BK265 := Aside0.mk (KeepBut.blk hk (g' := gb265) (o := .cells #[.slice none 0 0, .int .i64 0] 25 (0, 0)) (zk BK265) NB265_268.out (by simp)); have HO276 := Aside0.mk (Kd.R_lower (Kd.R_new' ho0 (Kd.R_lt (zr HO271))) (below_size (zg85 HB))); replace HO271 := Aside0.mk (Kd.R_mono (Kd.R_told (Kd.R_oldK (IsS85.apart (show IsS85 w _ g268 t266 t273 from zi85 HI268) (zr HO271) (by decide)) hk) (Kd.R_base ho0)) (fun _ h_ => h_.1)); replace HB := Aside0.mk (hb); replace HI268 := Aside0.mk (hi); (try clear hb); (try clear hk); (try clear hi); (try clear ho0); obtain ⟨Ao9, co9, eo9⟩ := Kd.R_slice HO271.out; subst eo9; have hnb10 := NB265_268.out; have hnc10 := NB268_265.out; obtain ⟨hcz11_0, hcz11_1, hfz11_0, hfz11_1⟩ := c2 BK265))
 refine bodyPost_ret (results_ct rfl _ _ gb265 25 #[.slice Ao9 t269.length co9, .int .i64 t272] (0, 0) _ rfl (zp BK265) Try.underlying25 rfl (by kernel_rfl)) rfl ?_
 exact ⟨_, _, ze, (Kd.R_mono (ztR (Kd.R_types HO271.out BK265.out (by decide))) (fun _ hk => hk.1.2)), (Kd.R_mono (ztR (Kd.R_types HO276.out BK265.out (by decide))) (fun _ hk => hk.1.2)), zg85 HB⟩

/-! ### spec_HeadOk: function 40 -/
-- thin
def spec_HeadOk.l0 : Nat → List (S36) → Int → Option (Bool)
 | 0, _, _ => none
 | k + 1, x0, x3 => if x3 < (x0.length : Int) then (if 0 ≤ x3 then ((spec_FieldOk.f k ((rd_T36 x0 x3).f0) ((rd_T36 x0 x3).f1) ((rd_T36 x0 x3).f2)).bind fun t279 => (if t279 = true then (spec_HeadOk.l0 k x0 (wrap64 (x3 + 1))) else (some false))) else (none)) else (some (decide ((x0.length : Int) ≤ 6)))
def spec_HeadOk.f (k : Nat) (l0 : List (S36)) : Option (Bool) := spec_HeadOk.l0 k l0 0
theorem spec_HeadOk.mono_l : ∀ k, (∀ y0 y1, LeO (spec_HeadOk.l0 k y0 y1) (spec_HeadOk.l0 (k + 1) y0 y1))
 | 0 => fun _ _ r h => by simp [spec_HeadOk.l0] at h
 | k + 1 => by
  have ih0 := spec_HeadOk.mono_l k
  ·intro y0 y1
   unfold spec_HeadOk.l0
   have m0 := @spec_FieldOk.mono
   exact zm
theorem spec_HeadOk.mono : ∀ a0 k, LeO (spec_HeadOk.f k a0) (spec_HeadOk.f (k + 1) a0) := by
 intro a0 k
 have ih0 := spec_HeadOk.mono_l k
 unfold spec_HeadOk.f
 have m0 := @spec_FieldOk.mono
 exact zm
set_option maxHeartbeats 8000000 in
set_option maxRecDepth 100000 in
theorem spec_HeadOk.calls (k : Nat) (A0 : Option Addr) (c0 : Nat) (l0 : List (S36)) (r : Bool) (w : World) (hr0 : Kd.C k36 w A0 l0.length l0) (hc0 : l0.length ≤ c0) (h : spec_HeadOk.f k l0 = some r) :
  Calls Try.prog 40 #[.slice A0 l0.length c0] w fun e w' => e = .returned (.bool r) ∧ Below w.heap.size w w' := by
 have hu36 := Try.underlying36
 have HR0 := Aside0.mk hr0
 have HC0 := Aside0.mk hc0
 clear hr0 hc0
 have HB := Aside0.mk (Below.refl w.heap.size w)
 have H : (spec_HeadOk.l0 k l0 0) = some r := h
 clear h
 have H' := Aside0.mk H
 clear H
 go_enter Try.func40, Try.ntmps40
 go_wp2
 go_loopg [3] k (fun kq v3 w' => ∃ (x3_1 : Int), v3 = .int .i64 x3_1 ∧ Aside0 (spec_HeadOk.l0 kq l0 x3_1 = some r) ∧ Aside0 (kq ≤ k) ∧ Aside0 (Below w.heap.size w w'))
 case atStart => exact ⟨(0), zs, H', ⟨Nat.le_refl _⟩, ⟨zb HB⟩⟩
 case round =>
  clear H'
  obtain ⟨x3_1, rfl, HA, HK1, HB⟩ := hrel
  cases gk with
  | zero => exact absurd HA.out (by simp [spec_HeadOk.l0])
  | succ k1 =>
   have H := HA.out
   clear HA
   simp only [spec_HeadOk.l0] at H
   replace H := sp H
   rcases H with ⟨c2, H⟩ | ⟨c2, H⟩
   ·skip
    have c2b0 := decide_eq_true c2
    clear c2
    by_cases c3 : 0 ≤ x3_1
    ·rw [if_pos c3] at H
     have c3b0 := decide_eq_true c3
     clear c3
     obtain ⟨t279, A4, H⟩ := ob H
     (try dsimp only at H)
     have HC5 := Aside0.mk H
     clear H
     have p278 : 0 ≤ (x3_1 : Int) := of_decide_eq_true za
     have q278 : x3_1 < (l0.length : Int) := of_decide_eq_true za
     obtain ⟨ad278, e278, hx278_0, hx278_1, hx278_2⟩ := at_T36 HR0.out x3_1 p278 q278
     cases e278
     replace hx278_0 := cb0 hx278_0 HB
     replace hx278_1 := cb0 hx278_1 HB
     replace hx278_2 := cb0 hx278_2 HB
     replace p278 := eq_true p278
     replace q278 := eq_true q278
     go_upto_if 15 with (first | ((with_reducible refine gq 32 rfl ?_); refine gl (some 14) Try.func32 #[.agg #[.string ((rd_T36 l0 x3_1).f0), .string ((rd_T36 l0 x3_1).f1), .bool ((rd_T36 l0 x3_1).f2)]] ?_; (with_reducible refine (spec_FieldOk.calls k1 ((rd_T36 l0 x3_1).f0) ((rd_T36 l0 x3_1).f1) ((rd_T36 l0 x3_1).f2) t279 _ A4.out).mono ?_); rintro e w6 ⟨rfl, hb⟩; refine ⟨_, rfl, ?_⟩; replace HB := Aside0.mk (below_step (zb HB) hb); (try clear hb)))
     (try simp only [Act.put, s1, s2, s3])
     have H := HC5.out
     clear HC5
     by_cases c7 : t279 = true
     ·subst c7
      rw [if_pos rfl] at H
      have H' := Aside0.mk H
      clear H
      go_wp2
      go_roundg k1
      case measure => have := HK1.out; omega
      case rel => exact ⟨(wrap64 (x3_1 + 1)), zs, H', ⟨by have := HK1.out; omega⟩, ⟨zb HB⟩⟩
     ·replace c7 := Bool.eq_false_iff.mpr c7
      subst c7
      rw [if_neg (show ¬ (false = true) by decide)] at H
      obtain rfl := Option.some.inj H
      go_wp2
      go_ret
      exact ⟨ze, zb HB⟩
    ·rw [if_neg c3] at H
     exact absurd H (by simp)
   ·skip
    have c2b0 := decide_eq_false c2
    clear c2
    obtain rfl := Option.some.inj H
    go_wp2
    go_ret
    exact ⟨ze, zb HB⟩

/-! ### spec_TableFixed: function 100 -/
-- thin
def spec_TableFixed.f  : Option ((List (S36))) := some (([(⟨(⟨#[58, 112, 97, 116, 104]⟩ : ByteArray), (⟨#[]⟩ : ByteArray), false⟩ : S36), (⟨(⟨#[58, 115, 116, 97, 116, 117, 115]⟩ : ByteArray), (⟨#[48]⟩ : ByteArray), false⟩ : S36), (⟨(⟨#[58, 115, 116, 97, 116, 117, 115]⟩ : ByteArray), (⟨#[49, 50]⟩ : ByteArray), false⟩ : S36), (⟨(⟨#[107, 105, 110, 100]⟩ : ByteArray), (⟨#[116, 101, 120, 116]⟩ : ByteArray), false⟩ : S36), (⟨(⟨#[115, 105, 122, 101]⟩ : ByteArray), (⟨#[]⟩ : ByteArray), false⟩ : S36), (⟨(⟨#[116, 101]⟩ : ByteArray), (⟨#[116, 114, 97, 105, 108, 101, 114, 115]⟩ : ByteArray), false⟩ : S36)] : List (S36)))
set_option maxHeartbeats 8000000 in
set_option maxRecDepth 100000 in
theorem spec_TableFixed.calls  (r : List (S36)) (w : World) (h : spec_TableFixed.f  = some r) :
  Calls Try.prog 100 #[] w fun e w' => ∃ v0_ : Value, e = .returned (v0_) ∧ Kd.R k36 36 w' w.heap.size (fun _ => True) v0_ r ∧ Below w.heap.size w w' := by
 have hu36 := Try.underlying36
 have HB := Aside0.mk (Below.refl w.heap.size w)
 have H : (some (([(⟨(⟨#[58, 112, 97, 116, 104]⟩ : ByteArray), (⟨#[]⟩ : ByteArray), false⟩ : S36), (⟨(⟨#[58, 115, 116, 97, 116, 117, 115]⟩ : ByteArray), (⟨#[48]⟩ : ByteArray), false⟩ : S36), (⟨(⟨#[58, 115, 116, 97, 116, 117, 115]⟩ : ByteArray), (⟨#[49, 50]⟩ : ByteArray), false⟩ : S36), (⟨(⟨#[107, 105, 110, 100]⟩ : ByteArray), (⟨#[116, 101, 120, 116]⟩ : ByteArray), false⟩ : S36), (⟨(⟨#[115, 105, 122, 101]⟩ : ByteArray), (⟨#[]⟩ : ByteArray), false⟩ : S36), (⟨(⟨#[116, 101]⟩ : ByteArray), (⟨#[116, 114, 97, 105, 108, 101, 114, 115]⟩ : ByteArray), false⟩ : S36)] : List (S36)))) = some r := h
 clear h
 obtain ⟨y280, hy280⟩ : ∃ y_ : List (S36), y_ = (([(⟨(⟨#[58, 112, 97, 116, 104]⟩ : ByteArray), (⟨#[]⟩ : ByteArray), false⟩ : S36), (⟨(⟨#[58, 115, 116, 97, 116, 117, 115]⟩ : ByteArray), (⟨#[48]⟩ : ByteArray), false⟩ : S36), (⟨(⟨#[58, 115, 116, 97, 116, 117, 115]⟩ : ByteArray), (⟨#[49, 50]⟩ : ByteArray), false⟩ : S36), (⟨(⟨#[107, 105, 110, 100]⟩ : ByteArray), (⟨#[116, 101, 120, 116]⟩ : ByteArray), false⟩ : S36), (⟨(⟨#[115, 105, 122, 101]⟩ : ByteArray), (⟨#[]⟩ : ByteArray), false⟩ : S36), (⟨(⟨#[116, 101]⟩ : ByteArray), (⟨#[116, 114, 97, 105, 108, 101, 114, 115]⟩ : ByteArray), false⟩ : S36)] : List (S36))) := ⟨_, rfl⟩
 replace H : (some y280) = some r := by first | (rw [hy280]; with_reducible exact H) | (have H2_ := (Option.bind_some _ _).symm.trans H; rw [hy280]; with_reducible exact H2_) | (have H2_ := (Option.bind_some _ _).symm.trans H; with_reducible exact H2_) | with_reducible exact H | (rw [hy280]; exact H) | exact H
 have Ny280 := Aside0.mk hy280
 clear hy280
 obtain rfl := Option.some.inj H
 go_enter Try.func100, Try.ntmps100
 go_wp2_with (first | ((with_reducible refine gd 7 rfl ?_); refine Kd.R_lit k36 _ 36 ?hg (N := 7) ?hd (xs := ([(⟨(⟨#[58, 112, 97, 116, 104]⟩ : ByteArray), (⟨#[]⟩ : ByteArray), false⟩ : S36), (⟨(⟨#[58, 115, 116, 97, 116, 117, 115]⟩ : ByteArray), (⟨#[48]⟩ : ByteArray), false⟩ : S36), (⟨(⟨#[58, 115, 116, 97, 116, 117, 115]⟩ : ByteArray), (⟨#[49, 50]⟩ : ByteArray), false⟩ : S36), (⟨(⟨#[107, 105, 110, 100]⟩ : ByteArray), (⟨#[116, 101, 120, 116]⟩ : ByteArray), false⟩ : S36), (⟨(⟨#[115, 105, 122, 101]⟩ : ByteArray), (⟨#[]⟩ : ByteArray), false⟩ : S36), (⟨(⟨#[116, 101]⟩ : ByteArray), (⟨#[116, 114, 97, 105, 108, 101, 114, 115]⟩ : ByteArray), false⟩ : S36)] : List (S36))) (inner := [.string (⟨#[58, 112, 97, 116, 104]⟩ : ByteArray), .string (⟨#[]⟩ : ByteArray), .bool false, .string (⟨#[58, 115, 116, 97, 116, 117, 115]⟩ : ByteArray), .string (⟨#[48]⟩ : ByteArray), .bool false, .string (⟨#[58, 115, 116, 97, 116, 117, 115]⟩ : ByteArray), .string (⟨#[49, 50]⟩ : ByteArray), .bool false, .string (⟨#[107, 105, 110, 100]⟩ : ByteArray), .string (⟨#[116, 101, 120, 116]⟩ : ByteArray), .bool false, .string (⟨#[115, 105, 122, 101]⟩ : ByteArray), .string (⟨#[]⟩ : ByteArray), .bool false, .string (⟨#[116, 101]⟩ : ByteArray), .string (⟨#[116, 114, 97, 105, 108, 101, 114, 115]⟩ : ByteArray), .bool false]) (ok := fun _ => True) (okp := fun _ => True) ?hr ?hp (fun _ hk => hk) trivial (Below.refl _ _) (Nat.le_refl _) (by simp) ?_; (case hd => rfl); (case hg => rfl); (case hr => first | (go_simp; done) | (go_simp; rfl)); (case hp => exact (Reps.c3 (show Kd.M k36 _ _ _ (⟨(⟨#[58, 112, 97, 116, 104]⟩ : ByteArray), (⟨#[]⟩ : ByteArray), false⟩ : S36) [.string (⟨#[58, 112, 97, 116, 104]⟩ : ByteArray), .string (⟨#[]⟩ : ByteArray), .bool false] from (k36_mkM _ _ _ (⟨(⟨#[58, 112, 97, 116, 104]⟩ : ByteArray), (⟨#[]⟩ : ByteArray), false⟩ : S36) )) (Reps.c3 (show Kd.M k36 _ _ _ (⟨(⟨#[58, 115, 116, 97, 116, 117, 115]⟩ : ByteArray), (⟨#[48]⟩ : ByteArray), false⟩ : S36) [.string (⟨#[58, 115, 116, 97, 116, 117, 115]⟩ : ByteArray), .string (⟨#[48]⟩ : ByteArray), .bool false] from (k36_mkM _ _ _ (⟨(⟨#[58, 115, 116, 97, 116, 117, 115]⟩ : ByteArray), (⟨#[48]⟩ : ByteArray), false⟩ : S36) )) (Reps.c3 (show Kd.M k36 _ _ _ (⟨(⟨#[58, 115, 116, 97, 116, 117, 115]⟩ : ByteArray), (⟨#[49, 50]⟩ : ByteArray), false⟩ : S36) [.string (⟨#[58, 115, 116, 97, 116, 117, 115]⟩ : ByteArray), .string (⟨#[49, 50]⟩ : ByteArray), .bool false] from (k36_mkM _ _ _ (⟨(⟨#[58, 115, 116, 97, 116, 117, 115]⟩ : ByteArray), (⟨#[49, 50]⟩ : ByteArray), false⟩ : S36) )) (Reps.c3 (show Kd.M k36 _ _ _ (⟨(⟨#[107, 105, 110, 100]⟩ : ByteArray), (⟨#[116, 101, 120, 116]⟩ : ByteArray), false⟩ : S36) [.string (⟨#[107, 105, 110, 100]⟩ : ByteArray), .string (⟨#[116, 101, 120, 116]⟩ : ByteArray), .bool false] from (k36_mkM _ _ _ (⟨(⟨#[107, 105, 110, 100]⟩ : ByteArray), (⟨#[116, 101, 120, 116]⟩ : ByteArray), false⟩ : S36) )) (Reps.c3 (show Kd.M k36 _ _ _ (⟨(⟨#[115, 105, 122, 101]⟩ : ByteArray), (⟨#[]⟩ : ByteArray), false⟩ : S36) [.string (⟨#[115, 105, 122, 101]⟩ : ByteArray), .string (⟨#[]⟩ : ByteArray), .bool false] from (k36_mkM _ _ _ (⟨(⟨#[115, 105, 122, 101]⟩ : ByteArray), (⟨#[]⟩ : ByteArray), false⟩ : S36) )) (Reps.c3 (show Kd.M k36 _ _ _ (⟨(⟨#[116, 101]⟩ : ByteArray), (⟨#[116, 114, 97, 105, 108, 101, 114, 115]⟩ : ByteArray), false⟩ : S36) [.string (⟨#[116, 101]⟩ : ByteArray), .string (⟨#[116, 114, 97, 105, 108, 101, 114, 115]⟩ : ByteArray), .bool false] from (k36_mkM _ _ _ (⟨(⟨#[116, 101]⟩ : ByteArray), (⟨#[116, 114, 97, 105, 108, 101, 114, 115]⟩ : ByteArray), false⟩ : S36) )) (Reps.none _ _)))))))); intro v281 w1 ho2 hb hg_ hnew_; clear hg_ hnew_; (first | rw [← Ny280.out] at ho2 | (simp only [Int.reduceToNat] at ho2; rw [← Ny280.out] at ho2)); have HO282 := Aside0.mk (Kd.R_lower ho2 (below_size (zb HB))); replace HB := Aside0.mk (below_step (zb HB) hb); clear hb ho2))
 go_ret
 exact ⟨_, ze, zq (HO282.out), zb HB⟩

/-! ### spec_l3All: function 95 -/
-- thin
def spec_l3All.f (l0_0 : List (S36)) (a0_1 : Int) : Option ((List (S36))) := (spec_TableFixed.f).bind fun t284 => (if t284.length + l0_0.length < 3518437208883 then (some (t284 ++ l0_0)) else (none))
set_option maxHeartbeats 8000000 in
set_option maxRecDepth 100000 in
theorem spec_l3All.calls (A0_0 : Option Addr) (c0_0 : Nat) (l0_0 : List (S36)) (a0_1 : Int) (r : List (S36)) (w : World) (hr0_0 : Kd.C k36 w A0_0 l0_0.length l0_0) (hc0_0 : l0_0.length ≤ c0_0) (h : spec_l3All.f l0_0 a0_1 = some r) :
  Calls Try.prog 95 #[.agg #[.slice A0_0 l0_0.length c0_0, .int .i64 a0_1]] w fun e w' => ∃ v0_ : Value, e = .returned (v0_) ∧ Kd.R k36 36 w' w.heap.size (fun _ => True) v0_ r ∧ Below w.heap.size w w' := by
 have hu25 := Try.underlying25
 have HR0_0 := Aside0.mk hr0_0
 have HC0_0 := Aside0.mk hc0_0
 clear hr0_0 hc0_0
 have HB := Aside0.mk (Below.refl w.heap.size w)
 have H : ((spec_TableFixed.f).bind fun t284 => (if t284.length + l0_0.length < 3518437208883 then (some (t284 ++ l0_0)) else (none))) = some r := h
 clear h
 obtain ⟨t284, A2, H⟩ := ob H
 (try dsimp only at H)
 replace H := sp H
 rcases H with ⟨c3, H⟩ | ⟨c3, H⟩
 ·skip
  have LMc3 := Aside0.mk c3
  clear c3
  obtain ⟨y287, hy287⟩ : ∃ y_ : List (S36), y_ = (t284 ++ l0_0) := ⟨_, rfl⟩
  replace H : (some y287) = some r := by first | (rw [hy287]; with_reducible exact H) | (have H2_ := (Option.bind_some _ _).symm.trans H; rw [hy287]; with_reducible exact H2_) | (have H2_ := (Option.bind_some _ _).symm.trans H; with_reducible exact H2_) | with_reducible exact H | (rw [hy287]; exact H) | exact H
  have Ny287 := Aside0.mk hy287
  clear hy287
  obtain rfl := Option.some.inj H
  go_enter Try.func95, Try.ntmps95
  try go_wp2_with (first | ((with_reducible refine gd 1 rfl ?_); refine bx (N := 1) (cs := #[.slice A0_0 l0_0.length c0_0, .int .i64 a0_1]) (t := 25) ?_; intro gb283 hg w4 hbox hb; have BK283 := Aside0.mk (hbox); have GW283 := gw HB hg; have GE283 := GW283; replace HB := Aside0.mk (below_step (zb HB) hb); clear hb hbox hg))
  replace BK283 := Aside0.mk (blk_drew BK283.out)
  replace HB := Aside0.mk (below_drew1 HB.out)
  refine st 5 (b2 BK283) (fun hHeld => ?_)
  generalize w4.drew = w5 at BK283 HB hHeld ⊢
  refine pu 1 (some 4) (bm 5 2) rfl rfl ?_
  refine tk 2 (some 5) (bm 5 6) rfl rfl hHeld ?_
  refine one_ (i := 0) (N := some 3) (bm 5 7) rfl rfl (by kernel_rfl) (by decide) (fun K hK => ?_)
  refine gs Try.func100 #[] ?_
  with_reducible refine (spec_TableFixed.calls  t284 _ A2.out).mono ?_
  rintro e w6 ⟨v285, rfl, ho0, hb⟩
  refine ⟨_, rfl, ?_⟩
  have HO286 := Aside0.mk (Kd.R_lower ho0 (below_size (zb HB)))
  replace BK283 := kb BK283 hb
  replace HB := Aside0.mk (below_step (zb HB) hb)
  (try clear hb)
  (try clear ho0)
  refine hK.out _ _ (b2 BK283) (fun hHeld => ?_)
  clear hK K
  refine nm ?_
  refine one_ (i := 3) (N := some 6) (bm 5 15) rfl rfl (by kernel_rfl) (by decide) (fun K hK => ?_)
  refine Kd.R_append_rows_step k36 (w0 := w) w.heap.size (by rfl) (.tmp 3) (.tmp 5) 23 36 (.agg #[(.string ⟨#[]⟩), (.string ⟨#[]⟩), (.bool false)]) 40 rfl Try.underlying23 info36 rfl (by decide) (by omega) v285 t284 l0_0 _ _ _ (fun _ => True) (fun _ => False) rfl rfl ?aO ?aR (fun _ _ h => h) (fun _ h => h.elim) ?aF ?aB ?aS ?aL ?_
  (case aR => exact zc (Kd.C_below HR0_0.out HB.out))
  (case aB => exact (zb HB))
  (case aF => exact (fun _ _ => trivial))
  (case aO => exact (zr HO286))
  (case aS => exact (below_size (zb HB)))
  (case aL => have := LMc3.out; omega)
  intro v288 w7 ho hb hg hat
  rw [← Ny287.out] at ho
  replace BK283 := Aside0.mk (blk_grown (zk BK283) hg (Kd.R_ne HO286.out BK283.out (by decide)))
  replace HB := Aside0.mk (hb)
  have HO289 := Aside0.mk (ho)
  clear HO286
  clear ho hb hg hat
  refine hK.out _ _ (b2 BK283) (fun hHeld => ?_)
  clear hK K
  refine nm ?_
  refine pu 4 (some 2) (bm 5 31) rfl rfl ?_
  refine done_ (by kernel_rfl) ?_
  try go_wp2
  go_ret
  exact ⟨_, ze, zq (HO289.out), zb HB⟩
 ·skip
  exact absurd H (by simp)

end Go.Proofs.Ytdhahifdcoinhaa.PFnHeadFixed
