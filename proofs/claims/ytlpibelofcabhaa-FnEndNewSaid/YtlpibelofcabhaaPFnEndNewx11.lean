-- WRITTEN BY a turned print (wip/tools of the prover's repo)
import Derived.Test.YtlpibelofcabhaaPFnEndNewx0
import Derived.Test.YtlpibelofcabhaaPFnEndNewx7
import Derived.Test.YtlpibelofcabhaaPFnEndNewx10
namespace Go.Proofs.Ytlpibelofcabhaa.PFnEndNew
open Go.RowKit Go.Proofs.YtlpibelofcabhaaW.PrintWords Go.Proofs.YtlpibelofcabhaaW.PrintLast Go.Proofs.YtlpibelofcabhaaW.PrintMore Go.Proofs.Ytlpibelofcabhaa.Lm
attribute [local go_sem] max2_int min2_int max_two min_two max_three min_three max_four min_four   -- for this text's walks alone
set_option linter.unusedVariables false
set_option linter.unusedSimpArgs false

/-! ### impl_Table_fit: function 119 -/
-- thin
def impl_Table_fit.l0 : Nat → List (S88) → Int → Option ((List (S88)) × Int)
 | 0, _, _ => none
 | k + 1, x246000, x246001 => (impl_Table_size.f k x246000 x246001).bind fun t246 => (if t246 > x246001 then (if 0 ≤ (wrap64 ((x246000.length : Int) - 1)) then (if (wrap64 ((x246000.length : Int) - 1)) ≤ (x246000.length : Int) then (impl_Table_fit.l0 k (x246000.take ((wrap64 ((x246000.length : Int) - 1)) : Int).toNat) x246001) else (none)) else (none)) else ((impl_Table_clone.f x246000 x246001).bind fun bt250 => (some (bt250.1, bt250.2))))
def impl_Table_fit.f (k : Nat) (l0_0 : List (S88)) (a0_1 : Int) : Option ((List (S88)) × Int) := (impl_Table_clone.f l0_0 a0_1).bind fun bt241 => (impl_Table_fit.l0 k bt241.1 bt241.2)
theorem impl_Table_fit.mono_l : ∀ k, (∀ y0 y1, LeO (impl_Table_fit.l0 k y0 y1) (impl_Table_fit.l0 (k + 1) y0 y1))
 | 0 => fun _ _ r h => by simp [impl_Table_fit.l0] at h
 | k + 1 => by
  have ih0 := impl_Table_fit.mono_l k
  ·intro y0 y1
   unfold impl_Table_fit.l0
   have m0 := @impl_Table_size.mono
   exact zm
theorem impl_Table_fit.mono : ∀ a0 a1 k, LeO (impl_Table_fit.f k a0 a1) (impl_Table_fit.f (k + 1) a0 a1) := by
 intro a0 a1 k
 have ih0 := impl_Table_fit.mono_l k
 unfold impl_Table_fit.f
 have m0 := @impl_Table_size.mono
 exact zm
set_option maxHeartbeats 8000000 in
set_option maxRecDepth 100000 in
theorem impl_Table_fit.calls (k : Nat) (A0_0 : Option Addr) (c0_0 : Nat) (l0_0 : List (S88)) (a0_1 : Int) (r1 : List (S88)) (r2 : Int) (w : World) (hr0_0 : Kd.C k88 w A0_0 l0_0.length l0_0) (hc0_0 : l0_0.length ≤ c0_0) (h : impl_Table_fit.f k l0_0 a0_1 = some (r1, r2)) :
  Calls Try.prog 119 #[.agg #[.slice A0_0 l0_0.length c0_0, .int .i64 a0_1]] w fun e w' => ∃ v0_ : Value, e = .returned (.agg #[v0_, .int .i64 r2]) ∧ Kd.R k88 88 w' w.heap.size (fun _ => True) v0_ r1 ∧ Below w.heap.size w w' := by
 have hu25 := Try.underlying25
 have HR0_0 := Aside0.mk hr0_0
 have HC0_0 := Aside0.mk hc0_0
 clear hr0_0 hc0_0
 have HB := Aside0.mk (Below.refl w.heap.size w)
 have H : ((impl_Table_clone.f l0_0 a0_1).bind fun bt241 => (impl_Table_fit.l0 k bt241.1 bt241.2)) = some (r1, r2) := h
 clear h
 obtain ⟨⟨t241, t244⟩, A2, H⟩ := ob H
 (try dsimp only at H)
 have H' := Aside0.mk H
 clear H
 go_enter Try.func119, Try.ntmps119
 go_wp2_with (first | ((with_reducible refine gd 1 rfl ?_); refine bx (N := 1) (cs := #[.slice A0_0 l0_0.length c0_0, .int .i64 a0_1]) (t := 25) ?_; intro gb239 hg w3 hbox hb; have BK239 := Aside0.mk (hbox); have GW239 := gw HB hg; have GE239 := GW239; replace HB := Aside0.mk (below_step (zb HB) hb); clear hb hbox hg) | ((with_reducible refine gd 2 rfl ?_); refine bx (N := 2) (cs := #[.slice none 0 0, .int .i64 0]) (t := 25) ?_; intro gb240 hg w4 hbox hb; have BK240 := Aside0.mk (hbox); have GW240 := gw HB hg; have GE240 := GW240; replace HB := Aside0.mk (below_step (zb HB) hb); obtain ⟨NB239_240, NB240_239⟩ := nb BK239 hg; replace BK239 := kb BK239 hb; clear hb hbox hg; have hnb5 := NB239_240.out; have hnc5 := NB240_239.out; obtain ⟨hcz6_0, hcz6_1, hfz6_0, hfz6_1⟩ := c2 BK239) | ((with_reducible refine gq 60 rfl ?_); refine gl (some 5) Try.func60 #[.agg #[.slice A0_0 l0_0.length c0_0, .int .i64 a0_1]] ?_; (with_reducible refine (impl_Table_clone.calls _ _ l0_0 a0_1 t241 t244 _ ?side1 ?side2 A2.out).mono ?_); (case side1 => exact zc (Kd.C_below HR0_0.out HB.out)); (case side2 => exact HC0_0.out); rintro e w7 ⟨v242, rfl, ho0, hb⟩; refine ⟨_, rfl, ?_⟩; have HO243 := Aside0.mk (Kd.R_lower ho0 (below_size (zb HB))); replace BK239 := kb BK239 hb; replace BK240 := kb BK240 hb; replace HB := Aside0.mk (below_step (zb HB) hb); (try clear hb); (try clear ho0)) | ((with_reducible refine gd 3 rfl ?_); refine bx (N := 3) (cs := #[.slice none 0 0, .int .i64 0]) (t := 25) ?_; intro gb245 hg w8 hbox hb; replace HO243 := Aside0.mk (Kd.R_below (zr HO243) hb); have BK245 := Aside0.mk (hbox); have GW245 := gw HB hg; have GE245 := GW245; replace HB := Aside0.mk (below_step (zb HB) hb); obtain ⟨NB239_245, NB245_239⟩ := nb BK239 hg; replace BK239 := kb BK239 hb; obtain ⟨NB240_245, NB245_240⟩ := nb BK240 hg; replace BK240 := kb BK240 hb; clear hb hbox hg; obtain ⟨Ao9, co9, eo9⟩ := Kd.R_slice HO243.out; subst eo9; have hnb10 := NB245_239.out; have hnc10 := NB239_245.out; have hnb11 := NB245_240.out; have hnc11 := NB240_245.out; obtain ⟨hcz12_0, hcz12_1, hfz12_0, hfz12_1⟩ := c2 BK245))
 go_loopg [] k (fun kq w' => ∃ (x246000_1 : List (S88)) (u246000 : Value), Aside0 (impl_Table_fit.l0 kq x246000_1 t244 = some (r1, r2)) ∧ Aside0 (kq ≤ k) ∧ Aside0 (Kd.R k88 88 w' w.heap.size (fun _ => True) u246000 x246000_1) ∧ Aside0 (w'.heap[gb239]? = some (.cells #[(.slice A0_0 l0_0.length c0_0), .int .i64 a0_1] 25 (0, 0))) ∧ Aside0 (w'.heap[gb240]? = some (.cells #[(.slice none 0 0), .int .i64 0] 25 (0, 0))) ∧ Aside0 (w'.heap[gb245]? = some (.cells #[u246000, .int .i64 t244] 25 (0, 0))) ∧ Aside0 (Below w.heap.size w w'))
 case atStart => exact ⟨(t241), (.slice Ao9 t241.length co9), H', ⟨Nat.le_refl _⟩, ⟨(Kd.R_mono (ztR (Kd.R_types HO243.out BK245.out (by decide))) (fun _ hk => trivial))⟩, ⟨zp BK239⟩, ⟨zp BK240⟩, ⟨zp BK245⟩, ⟨zb HB⟩⟩
 case round =>
  clear H'
  try clear c1
  try clear p2
  try clear c5
  try clear c6
  try clear c10
  try clear c11
  try clear hcz12_0
  try clear hcz12_1
  try clear hcz6_0
  try clear hcz6_1
  try clear hfz12_0
  try clear hfz12_1
  try clear hfz6_0
  try clear hfz6_1
  obtain ⟨x246000_1, u246000, HA, HK1, HO_246000, BK239, BK240, BK245, HB⟩ := hrel
  cases gk with
  | zero => exact absurd HA.out (by simp [impl_Table_fit.l0])
  | succ k1 =>
   have H := HA.out
   clear HA
   simp only [impl_Table_fit.l0] at H
   obtain ⟨t246, A13, H⟩ := ob H
   (try dsimp only at H)
   replace H := sp H
   rcases H with ⟨c14, H⟩ | ⟨c14, H⟩
   ·skip
    have c14b0 := decide_eq_true c14
    clear c14
    obtain ⟨ji15, hji15⟩ : ∃ j_ : Int, (wrap64 ((x246000_1.length : Int) - 1)) = j_ := ⟨_, rfl⟩
    replace H : (if 0 ≤ (ji15) then (if (ji15) ≤ (x246000_1.length : Int) then (impl_Table_fit.l0 k1 (x246000_1.take ((ji15) : Int).toNat) t244) else (none)) else (none)) = some (r1, r2) := by first | (rw [hji15] at H; exact H) | (simp only [hji15] at H ⊢; exact H)
    (try rw [hji15] at A13)
    have hji15w : (IntKind.i64.wrap ((x246000_1.length : Int) - 1)) = ji15 := (i64_w _).trans hji15
    by_cases c16 : 0 ≤ (ji15)
    ·rw [if_pos c16] at H
     have c16b0 := eq_true c16
     have c16b1 := decide_eq_true c16
     clear c16
     by_cases c17 : (ji15) ≤ (x246000_1.length : Int)
     ·rw [if_pos c17] at H
      have c17b0 := eq_true c17
      have c17b1 := decide_eq_true c17
      clear c17
      obtain ⟨y247, hy247⟩ : ∃ y_ : List (S88), y_ = (x246000_1.take ((ji15) : Int).toNat) := ⟨_, rfl⟩
      replace H : (impl_Table_fit.l0 k1 y247 t244) = some (r1, r2) := by first | (rw [hy247]; with_reducible exact H) | (have H2_ := (Option.bind_some _ _).symm.trans H; rw [hy247]; with_reducible exact H2_) | (have H2_ := (Option.bind_some _ _).symm.trans H; with_reducible exact H2_) | with_reducible exact H | (rw [hy247]; exact H) | exact H
      have Ny247 := Aside0.mk hy247
      clear hy247
      have H' := Aside0.mk H
      clear H
      try go_wp2
      replace HO_246000 := Aside0.mk (Kd.R_drew HO_246000.out)
      replace BK239 := Aside0.mk (blk_drew BK239.out)
      replace BK240 := Aside0.mk (blk_drew BK240.out)
      replace BK245 := Aside0.mk (blk_drew BK245.out)
      replace HB := Aside0.mk (below_drew1 HB.out)
      obtain ⟨Ao19, co19, eo19⟩ := Kd.R_slice HO_246000.out
      (first | subst eo19 | (injection eo19 with f1_ f2_ f3_; have f4_ := f1_.symm; have f5_ := f3_.symm; clear f1_ f2_ f3_; subst f4_; subst f5_))
      refine st 5 (b2 BK245) (fun hHeld => ?_)
      generalize wr.drew = w18 at HO_246000 BK239 BK240 BK245 HB hHeld ⊢
      refine pu 2 (some 8) (bm 5 4) rfl rfl ?_
      refine tk 0 (some 6) (bm 5 5) rfl rfl hHeld ?_
      refine tk 3 (some 9) (bm 5 13) rfl rfl hHeld ?_
      refine one_ (i := 1) (N := some 7) (bm 5 15) rfl rfl (by kernel_rfl) (by decide) (fun K hK => ?_)
      refine gs Try.func65 #[.agg #[.slice Ao19 x246000_1.length co19, .int .i64 t244]] ?_
      with_reducible refine (impl_Table_size.calls k1 _ _ x246000_1 t244 t246 _ ?side1 ?side2 A13.out).mono ?_
      (case side1 => exact zc (Kd.R_reads' HO_246000.out).2.2)
      (case side2 => exact (Kd.R_reads' HO_246000.out).2.1)
      rintro e w20 ⟨rfl, hb⟩
      refine ⟨_, rfl, ?_⟩
      replace HO_246000 := Aside0.mk (Kd.R_below (zr HO_246000) hb)
      replace BK239 := kb BK239 hb
      replace BK240 := kb BK240 hb
      replace BK245 := kb BK245 hb
      replace HB := Aside0.mk (below_step (zb HB) hb)
      (try clear hb)
      refine hK.out _ _ (b2 BK245) (fun hHeld => ?_)
      clear hK K
      refine nm ?_
      refine pu 4 (some 10) (bm 5 31) rfl rfl ?_
      refine done_ (by kernel_rfl) ?_
      have hnb21 := NB245_239.out
      have hnc21 := NB239_245.out
      have hnb22 := NB245_240.out
      have hnc22 := NB240_245.out
      obtain ⟨hcz23_0, hcz23_1, hfz23_0, hfz23_1⟩ := c2 BK245
      have q24 : ((ji15) : Int) ≤ ((x246000_1.length : Int) : Int) := of_decide_eq_true za
      obtain ⟨i024, hi024, _, hsz24, _⟩ := info_parts info88
      have hcut24 := cut_to (P := Try.prog) 23 88 .i64 Try.underlying23 hi024 Ao19 x246000_1.length co19 (ji15) (of_decide_eq_true za) q24 (Kd.R_reads' HO_246000.out).2.1
      have hr24 := Kd.R_take (m := ((ji15) : Int).toNat) HO_246000.out (by omega)
      have hy24 : y247.length = ((ji15) : Int).toNat := (by rw [Ny247.out, List.length_take]; omega)
      rw [← Ny247.out] at hr24
      rw [← hy24] at hr24 hcut24
      clear hy24 hi024 hsz24 HO_246000
      have HO249 := Aside0.mk hr24
      clear hr24
      replace q24 := eq_true q24
      try go_wp2
      go_roundg k1
      case measure => have := HK1.out; omega
      case rel => exact ⟨(y247), (.slice Ao19 y247.length co19), H', ⟨by have := HK1.out; omega⟩, ⟨(Kd.R_mono (ztR (Kd.R_types HO249.out BK245.out (by decide))) (fun _ hk => trivial))⟩, ⟨zp BK239⟩, ⟨zp BK240⟩, ⟨zp BK245⟩, ⟨zb HB⟩⟩
     ·rw [if_neg c17] at H
      exact absurd H (by simp)
    ·rw [if_neg c16] at H
     exact absurd H (by simp)
   ·skip
    have c14b0 := decide_eq_false c14
    clear c14
    obtain ⟨⟨t250, t253⟩, A25, H⟩ := ob H
    (try dsimp only at H)
    simp only [Option.some.injEq, Prod.mk.injEq] at H
    obtain ⟨rfl, rfl⟩ := H
    try go_wp2
    replace HO_246000 := Aside0.mk (Kd.R_drew HO_246000.out)
    replace BK239 := Aside0.mk (blk_drew BK239.out)
    replace BK240 := Aside0.mk (blk_drew BK240.out)
    replace BK245 := Aside0.mk (blk_drew BK245.out)
    replace HB := Aside0.mk (below_drew1 HB.out)
    obtain ⟨Ao27, co27, eo27⟩ := Kd.R_slice HO_246000.out
    (first | subst eo27 | (injection eo27 with f1_ f2_ f3_; have f4_ := f1_.symm; have f5_ := f3_.symm; clear f1_ f2_ f3_; subst f4_; subst f5_))
    refine st 5 (b2 BK245) (fun hHeld => ?_)
    generalize wr.drew = w26 at HO_246000 BK239 BK240 BK245 HB hHeld ⊢
    refine pu 2 (some 8) (bm 5 4) rfl rfl ?_
    refine tk 0 (some 6) (bm 5 5) rfl rfl hHeld ?_
    refine tk 3 (some 9) (bm 5 13) rfl rfl hHeld ?_
    refine one_ (i := 1) (N := some 7) (bm 5 15) rfl rfl (by kernel_rfl) (by decide) (fun K hK => ?_)
    refine gs Try.func65 #[.agg #[.slice Ao27 x246000_1.length co27, .int .i64 t244]] ?_
    with_reducible refine (impl_Table_size.calls k1 _ _ x246000_1 t244 t246 _ ?side1 ?side2 A13.out).mono ?_
    (case side1 => exact zc (Kd.R_reads' HO_246000.out).2.2)
    (case side2 => exact (Kd.R_reads' HO_246000.out).2.1)
    rintro e w28 ⟨rfl, hb⟩
    refine ⟨_, rfl, ?_⟩
    replace HO_246000 := Aside0.mk (Kd.R_below (zr HO_246000) hb)
    replace BK239 := kb BK239 hb
    replace BK240 := kb BK240 hb
    replace BK245 := kb BK245 hb
    replace HB := Aside0.mk (below_step (zb HB) hb)
    (try clear hb)
    refine hK.out _ _ (b2 BK245) (fun hHeld => ?_)
    clear hK K
    refine nm ?_
    refine pu 4 (some 10) (bm 5 31) rfl rfl ?_
    refine done_ (by kernel_rfl) ?_
    have hnb29 := NB245_239.out
    have hnc29 := NB239_245.out
    have hnb30 := NB245_240.out
    have hnc30 := NB240_245.out
    obtain ⟨hcz31_0, hcz31_1, hfz31_0, hfz31_1⟩ := c2 BK245
    try go_wp2_with (first | ((with_reducible refine gq 60 rfl ?_); refine gl (some 20) Try.func60 #[.agg #[.slice Ao27 x246000_1.length co27, .int .i64 t244]] ?_; (with_reducible refine (impl_Table_clone.calls _ _ x246000_1 t244 t250 t253 _ ?side1 ?side2 A25.out).mono ?_); (case side1 => exact zc (Kd.R_reads' HO_246000.out).2.2); (case side2 => exact (Kd.R_reads' HO_246000.out).2.1); rintro e w32 ⟨v251, rfl, ho0, hb⟩; refine ⟨_, rfl, ?_⟩; have HO252 := Aside0.mk (Kd.R_lower (Kd.R_new' ho0 (Kd.R_lt (zr HO_246000))) (below_size (zb HB))); replace HO_246000 := Aside0.mk (Kd.R_elder' (zr HO_246000) (Kd.R_base ho0) hb); replace BK239 := kb BK239 hb; replace BK240 := kb BK240 hb; replace BK245 := kb BK245 hb; replace HB := Aside0.mk (below_step (zb HB) hb); (try clear hb); (try clear ho0); obtain ⟨Ao33, co33, eo33⟩ := Kd.R_slice HO252.out; subst eo33; have hnb34 := NB240_239.out; have hnc34 := NB239_240.out; obtain ⟨hcz35_0, hcz35_1, hfz35_0, hfz35_1⟩ := c2 BK240))
    refine bodyPost_ret (results_cell_row rfl _ _ gb240 25 #[.slice Ao33 t250.length co33, .int .i64 t253] (0, 0) _ rfl (zp BK240) Try.underlying25 rfl (by kernel_rfl)) rfl ?_
    exact ⟨_, ze, (Kd.R_mono (ztR (Kd.R_types HO252.out BK240.out (by decide))) (fun _ hk => trivial)), zb HB⟩

/-! ### impl_Table_add: function 59 -/
-- thin
def impl_Table_add.f (k : Nat) (l0_0 : List (S88)) (a0_1 : Int) (a1_0 : ByteArray) (a1_1 : ByteArray) (a1_2 : Bool) : Option ((List (S88)) × Int) := (Concat_Field.f (([(([(⟨a1_0, a1_1, a1_2⟩ : S88)] : List (S88))), l0_0] : List (List (S88))))).bind fun t263 => ((impl_Table_fit.f k t263 a0_1).bind fun bt266 => (some (bt266.1, bt266.2)))
theorem impl_Table_add.mono : ∀ a0 a1 a2 a3 a4 k, LeO (impl_Table_add.f k a0 a1 a2 a3 a4) (impl_Table_add.f (k + 1) a0 a1 a2 a3 a4) := by
 intro a0 a1 a2 a3 a4 k
 unfold impl_Table_add.f
 have m0 := @impl_Table_fit.mono
 exact zm
def impl_Table_add.T1 : Bool × List (List Nat × List Nat) := (true, [([], []), ([0], [0]), ([], []), ([2], [2]), ([1, 3], [1, 3]), ([4], [4]), ([], []), ([6], [6]), ([5, 7], [5, 7]), ([8, 5], [8]), ([9, 9, 0, 1, 2, 3, 4, 5, 6, 7, 8, 9], [9])])
def impl_Table_add.B1 : List Nat := [0, 1, 0, 4, 15, 31, 0, 64, 255, 511, 1023]
theorem impl_Table_add.tab1 : rtab .any (opsOf Try.f59 1) = impl_Table_add.T1 := by kernel_rfl
theorem impl_Table_add.bits1 : waitsOk impl_Table_add.T1.2 impl_Table_add.B1 = true := by kernel_rfl
set_option maxHeartbeats 8000000 in
set_option maxRecDepth 100000 in
theorem impl_Table_add.calls (k : Nat) (P0_0_ : Nat → Prop) (A0_0 : Option Addr) (c0_0 : Nat) (l0_0 : List (S88)) (a0_1 : Int) (a1_0 : ByteArray) (a1_1 : ByteArray) (a1_2 : Bool) (r1 : List (S88)) (r2 : Int) (w : World) (hs0_0 : Kd.V k88 88 w w.heap.size (fun k_ => P0_0_ k_) (.slice A0_0 l0_0.length c0_0) l0_0) (h : impl_Table_add.f k l0_0 a0_1 a1_0 a1_1 a1_2 = some (r1, r2)) :
  Calls Try.prog 59 #[.agg #[.slice A0_0 l0_0.length c0_0, .int .i64 a0_1], .agg #[.string a1_0, .string a1_1, .bool a1_2]] w fun e w' => ∃ v0_ : Value, e = .returned (.agg #[v0_, .int .i64 r2]) ∧ Kd.R k88 88 w' w.heap.size (fun k_ => (w.heap.size ≤ k_)) v0_ r1 ∧ Below w.heap.size w w' := by
 have hu25 := Try.underlying25
 have hu88 := Try.underlying88
 have HO0_0 := Aside0.mk (show Kd.V k88 88 w w.heap.size (fun k_ => (P0_0_ k_ ∨ w.heap.size ≤ k_)) (.slice A0_0 l0_0.length c0_0) l0_0 from Kd.V_mono hs0_0 (fun k_ hk => .inl hk))
 have HB := Aside0.mk (Below.refl w.heap.size w)
 have H : ((Concat_Field.f (([(([(⟨a1_0, a1_1, a1_2⟩ : S88)] : List (S88))), l0_0] : List (List (S88))))).bind fun t263 => ((impl_Table_fit.f k t263 a0_1).bind fun bt266 => (some (bt266.1, bt266.2)))) = some (r1, r2) := h
 clear h
 obtain ⟨y257, hy257⟩ : ∃ y_ : List (S88), y_ = (([(⟨a1_0, a1_1, a1_2⟩ : S88)] : List (S88))) := ⟨_, rfl⟩
 replace H : ((Concat_Field.f (([y257, l0_0] : List (List (S88))))).bind fun t263 => ((impl_Table_fit.f k t263 a0_1).bind fun bt266 => (some (bt266.1, bt266.2)))) = some (r1, r2) := by first | (rw [hy257]; with_reducible exact H) | (have H2_ := (Option.bind_some _ _).symm.trans H; rw [hy257]; with_reducible exact H2_) | (have H2_ := (Option.bind_some _ _).symm.trans H; with_reducible exact H2_) | with_reducible exact H | (rw [hy257]; exact H) | exact H
 have Ny257 := Aside0.mk hy257
 clear hy257
 obtain ⟨y260, hy260⟩ : ∃ y_ : List (List (S88)), y_ = (([y257, l0_0] : List (List (S88)))) := ⟨_, rfl⟩
 replace H : ((Concat_Field.f y260).bind fun t263 => ((impl_Table_fit.f k t263 a0_1).bind fun bt266 => (some (bt266.1, bt266.2)))) = some (r1, r2) := by first | (rw [hy260]; with_reducible exact H) | (have H2_ := (Option.bind_some _ _).symm.trans H; rw [hy260]; with_reducible exact H2_) | (have H2_ := (Option.bind_some _ _).symm.trans H; with_reducible exact H2_) | with_reducible exact H | (rw [hy260]; exact H) | exact H
 have Ny260 := Aside0.mk hy260
 clear hy260
 obtain ⟨t263, A3, H⟩ := ob H
 (try dsimp only at H)
 obtain ⟨⟨t266, t269⟩, A4, H⟩ := ob H
 (try dsimp only at H)
 simp only [Option.some.injEq, Prod.mk.injEq] at H
 obtain ⟨rfl, rfl⟩ := H
 go_enter Try.func59, Try.ntmps59
 try go_wp2_with (first | ((with_reducible refine gd 2 rfl ?_); refine bx (N := 2) (cs := #[.slice A0_0 l0_0.length c0_0, .int .i64 a0_1]) (t := 25) ?_; intro gb254 hg w5 hbox hb; replace HO0_0 := Aside0.mk (Kd.V_below (Kd.V_elderB (zV HO0_0) gb254 (Nat.le_of_eq hg.symm)) hb); have BK254 := Aside0.mk (hbox); have GW254 := gw HB hg; have GE254 := GW254; replace HB := Aside0.mk (below_step (zb HB) hb); clear hb hbox hg) | ((with_reducible refine gd 3 rfl ?_); refine bx (N := 3) (cs := #[.string a1_0, .string a1_1, .bool a1_2]) (t := 88) ?_; intro gb255 hg w6 hbox hb; replace HO0_0 := Aside0.mk (Kd.V_below (Kd.V_elderB (zV HO0_0) gb255 (Nat.le_of_eq hg.symm)) hb); have BK255 := Aside0.mk (hbox); have GW255 := gw HB hg; have GE255 := GW255; replace HB := Aside0.mk (below_step (zb HB) hb); obtain ⟨NB254_255, NB255_254⟩ := nb BK254 hg; replace BK254 := kb BK254 hb; clear hb hbox hg) | ((with_reducible refine gd 4 rfl ?_); refine bx (N := 4) (cs := #[.slice none 0 0, .int .i64 0]) (t := 25) ?_; intro gb256 hg w7 hbox hb; replace HO0_0 := Aside0.mk (Kd.V_below (Kd.V_elderB (zV HO0_0) gb256 (Nat.le_of_eq hg.symm)) hb); have BK256 := Aside0.mk (hbox); have GW256 := gw HB hg; have GE256 := GW256; replace HB := Aside0.mk (below_step (zb HB) hb); obtain ⟨NB254_256, NB256_254⟩ := nb BK254 hg; replace BK254 := kb BK254 hb; obtain ⟨NB255_256, NB256_255⟩ := nb BK255 hg; replace BK255 := kb BK255 hb; clear hb hbox hg))
 replace HO0_0 := Aside0.mk (Kd.V_drew HO0_0.out)
 replace BK254 := Aside0.mk (blk_drew BK254.out)
 replace BK255 := Aside0.mk (blk_drew BK255.out)
 replace BK256 := Aside0.mk (blk_drew BK256.out)
 replace HB := Aside0.mk (below_drew1 HB.out)
 refine st 11 (an (b3 BK255) (b2 BK254)) (fun hHeld => ?_); refine with_tabW impl_Table_add.tab1 impl_Table_add.bits1 (fun HT_ HW_ => ?_)
 generalize w7.drew = w8 at HO0_0 BK254 BK255 BK256 HB hHeld ⊢
 refine pu 2 (some 7) (bm 11 4) rfl rfl ?_
 refine pu 6 (some 11) (bm 11 68) rfl rfl ?_
 refine tk 0 (some 5) (bm 11 69) rfl rfl hHeld ?_
 refine tk 3 (some 8) (bm 11 77) rfl rfl hHeld ?_
 refine tk 7 (some 12) (bm 11 205) rfl rfl hHeld ?_
 refine one_ (i := 1) (N := some 6) (bm 11 207) rfl rfl (one_of HT_.out (by kernel_rfl)) (by decide) (fun K hK => ?_)
 refine Kd.R_lit_step k88 _ 88 ?hg (N := 6) ?hd (xs := ([(⟨a1_0, a1_1, a1_2⟩ : S88)] : List (S88))) (inner := [.string a1_0, .string a1_1, .bool a1_2]) (ok := fun _ => True) (okp := fun _ => True) ?hr ?hp (fun _ hk => hk) trivial (Below.refl _ _) (Nat.le_refl _) (by simp) ?_; (case hd => rfl); (case hg => rfl); (case hr => first | (go_simp; done) | (go_simp; rfl)); (case hp => exact (Reps.c3 (show Kd.M k88 _ _ _ (⟨a1_0, a1_1, a1_2⟩ : S88) [.string a1_0, .string a1_1, .bool a1_2] from (k88_mkM _ _ _ (⟨a1_0, a1_1, a1_2⟩ : S88) )) (Reps.none _ _)))
 intro v258 w9 ho10 hb hg_ hnew_
 clear hg_ hnew_
 (first | rw [← Ny257.out] at ho10 | (simp only [Int.reduceToNat] at ho10; rw [← Ny257.out] at ho10))
 replace HO0_0 := Aside0.mk (Kd.V_elder' (zV HO0_0) (Kd.R_base ho10) hb)
 have HO259 := Aside0.mk (Kd.R_lower (Kd.R_newB (Kd.R_newM (M := fun k_ => (w.heap.size ≤ k_)) ho10 (below_size (zb HB)) (fun k_ h_ => h_)) (zk BK255)) (below_size (zb HB)))
 replace BK254 := kb BK254 hb
 replace BK255 := kb BK255 hb
 replace BK256 := kb BK256 hb
 replace HB := Aside0.mk (below_step (zb HB) hb)
 clear hb ho10
 obtain ⟨Ao11, co11, eo11⟩ := Kd.R_slice HO259.out
 (first | subst eo11 | (injection eo11 with f1_ f2_ f3_; have f4_ := f1_.symm; have f5_ := f3_.symm; clear f1_ f2_ f3_; subst f4_; subst f5_))
 refine hK.out _ _ (an (b3 BK255) (b2 BK254)) (fun hHeld => ?_)
 clear hK K
 refine nm ?_
 refine one_ (i := 4) (N := some 9) (bm 11 223) rfl rfl (one_of HT_.out (by kernel_rfl)) (by decide) (fun K hK => ?_)
 refine Kd.N_lit_step (Kd.slice 88 k88) _ 23 ?hg (N' := 9) ?hd (xs := ([y257, l0_0] : List (List (S88)))) (inner := [.slice Ao11 y257.length co11, .slice A0_0 l0_0.length c0_0]) (ok := (fun k_ => (P0_0_ k_ ∨ w.heap.size ≤ k_) ∧ k_ ≠ gb254 ∧ k_ ≠ gb255 ∧ k_ ≠ gb256)) (okp := (fun k_ => (P0_0_ k_ ∨ w.heap.size ≤ k_) ∧ k_ ≠ gb254 ∧ k_ ≠ gb255 ∧ k_ ≠ gb256)) ?hr ?hp (fun _ hk => hk) ((show ∀ k_, w9.heap.size ≤ k_ → (fun k_ => (P0_0_ k_ ∨ w.heap.size ≤ k_) ∧ k_ ≠ gb254 ∧ k_ ≠ gb255 ∧ k_ ≠ gb256) k_ from fun k_ hk => ⟨(.inr (Nat.le_trans (below_size (zb HB)) hk)), Kd.freshB (zk BK254) k_ hk, Kd.freshB (zk BK255) k_ hk, Kd.freshB (zk BK256) k_ hk⟩) _ (Nat.le_refl _)) (Below.refl _ _) (Nat.le_refl _) (by simp) ?_; (case hd => rfl); (case hg => rfl); (case hr => first | (go_simp; done) | (go_simp; rfl)); (case hp => exact (Reps.one (show Kd.FK (Kd.slice 88 k88) _ _ y257 [.slice Ao11 y257.length co11] from (Kd.FK_slice_mk (Kd.R_reads' (Kd.R_mono (ok' := (fun k_ => (P0_0_ k_ ∨ w.heap.size ≤ k_) ∧ k_ ≠ gb254 ∧ k_ ≠ gb255 ∧ k_ ≠ gb256)) (Kd.R_types (Kd.R_types (HO259.out) BK254.out (by decide)) BK256.out (by decide)) (fun k_ hk => ⟨(.inr (hk.1.1.1.1)), ⟨hk.1.2, ⟨hk.1.1.2, hk.2⟩⟩⟩))).2.1 (Kd.R_F (Kd.R_mono (ok' := (fun k_ => (P0_0_ k_ ∨ w.heap.size ≤ k_) ∧ k_ ≠ gb254 ∧ k_ ≠ gb255 ∧ k_ ≠ gb256)) (Kd.R_types (Kd.R_types (HO259.out) BK254.out (by decide)) BK256.out (by decide)) (fun k_ hk => ⟨(.inr (hk.1.1.1.1)), ⟨hk.1.2, ⟨hk.1.1.2, hk.2⟩⟩⟩))))) (Reps.one (show Kd.FK (Kd.slice 88 k88) _ _ l0_0 [.slice A0_0 l0_0.length c0_0] from (Kd.FK_slice_mk (Kd.V_reads' (Kd.V_mono (ok' := (fun k_ => (P0_0_ k_ ∨ w.heap.size ≤ k_) ∧ k_ ≠ gb254 ∧ k_ ≠ gb255 ∧ k_ ≠ gb256)) (HO0_0.out) (fun k_ hk => ⟨hk.1.1.1.1, ⟨hk.1.1.1.2, ⟨hk.1.1.2, hk.1.2⟩⟩⟩))).2.1 (Kd.V_F (Kd.V_mono (ok' := (fun k_ => (P0_0_ k_ ∨ w.heap.size ≤ k_) ∧ k_ ≠ gb254 ∧ k_ ≠ gb255 ∧ k_ ≠ gb256)) (HO0_0.out) (fun k_ hk => ⟨hk.1.1.1.1, ⟨hk.1.1.1.2, ⟨hk.1.1.2, hk.1.2⟩⟩⟩))))) (Reps.none _ _))))
 intro v261 w12 ho13 hb hg_ hnew_
 clear hg_ hnew_
 (first | rw [← Ny260.out] at ho13 | (simp only [Int.reduceToNat] at ho13; rw [← Ny260.out] at ho13))
 replace HO0_0 := Aside0.mk (Kd.V_elder' (zV HO0_0) (Kd.N_base ho13) hb)
 have HO262 := Aside0.mk (Kd.N_lower ho13 (below_size (zb HB)))
 replace BK254 := kb BK254 hb
 replace BK255 := kb BK255 hb
 replace BK256 := kb BK256 hb
 replace HB := Aside0.mk (below_step (zb HB) hb)
 clear HO259
 clear hb ho13
 obtain ⟨Ao14, co14, eo14⟩ := Kd.N_slice HO262.out
 (first | subst eo14 | (injection eo14 with f1_ f2_ f3_; have f4_ := f1_.symm; have f5_ := f3_.symm; clear f1_ f2_ f3_; subst f4_; subst f5_))
 refine hK.out _ _ (an (b3 BK255) (b2 BK254)) (fun hHeld => ?_)
 clear hK K
 refine nm ?_
 refine one_ (i := 5) (N := some 10) (bm 11 255) rfl rfl (one_of HT_.out (by kernel_rfl)) (by decide) (fun K hK => ?_)
 refine gs Try.func118 #[.slice Ao14 y260.length co14] ?_
 with_reducible refine (Concat_Field.calls _ _ y260 t263 _ ?side1 ?side2 A3.out).mono ?_
 (case side1 => exact zc (Kd.N_reads' HO262.out).2.2)
 (case side2 => exact (Kd.N_reads' HO262.out).2.1)
 rintro e w15 ⟨v264, rfl, ho0, hb⟩
 refine ⟨_, rfl, ?_⟩
 replace HO0_0 := Aside0.mk (Kd.V_elder' (zV HO0_0) (Kd.R_base ho0) hb)
 replace HO262 := Aside0.mk (Kd.N_elder' (zN HO262) (Kd.R_base ho0) hb)
 have HO265 := Aside0.mk (Kd.R_lower (Kd.R_newB (Kd.R_newM (M := fun k_ => (w.heap.size ≤ k_)) ho0 (below_size (zb HB)) (fun k_ h_ => h_)) (zk BK255)) (below_size (zb HB)))
 replace BK254 := kb BK254 hb
 replace BK255 := kb BK255 hb
 replace BK256 := kb BK256 hb
 replace HB := Aside0.mk (below_step (zb HB) hb)
 (try clear hb)
 (try clear ho0)
 obtain ⟨Ao16, co16, eo16⟩ := Kd.R_slice HO265.out
 (first | subst eo16 | (injection eo16 with f1_ f2_ f3_; have f4_ := f1_.symm; have f5_ := f3_.symm; clear f1_ f2_ f3_; subst f4_; subst f5_))
 refine hK.out _ _ (an (b3 BK255) (b2 BK254)) (fun hHeld => ?_)
 clear hK K
 refine nm ?_
 refine pu 8 (some 13) (bm 11 511) rfl rfl ?_
 refine one_ (i := 9) (N := some 14) (bm 11 1023) rfl rfl (one_of HT_.out (by kernel_rfl)) (by decide) (fun K hK => ?_)
 refine gs Try.func119 #[.agg #[.slice Ao16 t263.length co16, .int .i64 a0_1]] ?_
 with_reducible refine (impl_Table_fit.calls k _ _ t263 a0_1 t266 t269 _ ?side1 ?side2 A4.out).mono ?_
 (case side1 => exact zc (Kd.R_reads' HO265.out).2.2)
 (case side2 => exact (Kd.R_reads' HO265.out).2.1)
 rintro e w17 ⟨v267, rfl, ho0, hb⟩
 refine ⟨_, rfl, ?_⟩
 replace HO0_0 := Aside0.mk (Kd.V_elder' (zV HO0_0) (Kd.R_base ho0) hb)
 replace HO262 := Aside0.mk (Kd.N_elder' (zN HO262) (Kd.R_base ho0) hb)
 have HO268 := Aside0.mk (Kd.R_lower (Kd.R_newB (Kd.R_new' (Kd.R_newM (M := fun k_ => (w.heap.size ≤ k_)) ho0 (below_size (zb HB)) (fun k_ h_ => h_)) (Kd.R_lt (zr HO265))) (zk BK255)) (below_size (zb HB)))
 replace HO265 := Aside0.mk (Kd.R_elder' (zr HO265) (Kd.R_base ho0) hb)
 replace BK254 := kb BK254 hb
 replace BK255 := kb BK255 hb
 replace BK256 := kb BK256 hb
 replace HB := Aside0.mk (below_step (zb HB) hb)
 (try clear hb)
 (try clear ho0)
 obtain ⟨Ao18, co18, eo18⟩ := Kd.R_slice HO268.out
 (first | subst eo18 | (injection eo18 with f1_ f2_ f3_; have f4_ := f1_.symm; have f5_ := f3_.symm; clear f1_ f2_ f3_; subst f4_; subst f5_))
 refine hK.out _ _ (an (b3 BK255) (b2 BK254)) (fun hHeld => ?_)
 clear hK K
 refine nm ?_
 refine one_ (i := 10) (N := none) (bm 11 2047) rfl rfl (one_of HT_.out (by kernel_rfl)) (by decide) (fun K hK => ?_)
 have hs19 : w17.cell? ⟨gb256, 0, none⟩ = some (.slice none 0 0) := (blk_cell BK256.out 0).trans rfl
 have hfs19 := blk_frozen BK256.out 0
 have hns19_0 := NB254_256.out
 have hns19_1 := NB255_256.out
 have hms19_0 := NB256_254.out
 have hms19_1 := NB256_255.out
 have hs20 : w17.cell? ⟨gb256, 1, none⟩ = some (.int .i64 0) := (blk_cell BK256.out 1).trans rfl
 have hfs20 := blk_frozen BK256.out 1
 have hns20_0 := NB254_256.out
 have hns20_1 := NB255_256.out
 have hms20_0 := NB256_254.out
 have hms20_1 := NB256_255.out
 refine skip_ (w1 := ?_) (by rfl) rfl ?_ ?_
 rotate_left
 ·go_simp
  rfl
 refine hK.out _ _ (an ⟨((cell_far (p := ⟨gb256, _, none⟩) NB255_256.out _).trans (((cell_far (p := ⟨gb256, _, none⟩) NB255_256.out _).trans (hHeld.1.1)))), ((cell_far (p := ⟨gb256, _, none⟩) NB255_256.out _).trans (((cell_far (p := ⟨gb256, _, none⟩) NB255_256.out _).trans (hHeld.1.2.1)))), ((cell_far (p := ⟨gb256, _, none⟩) NB255_256.out _).trans (((cell_far (p := ⟨gb256, _, none⟩) NB255_256.out _).trans (hHeld.1.2.2))))⟩ ⟨((cell_far (p := ⟨gb256, _, none⟩) NB254_256.out _).trans (((cell_far (p := ⟨gb256, _, none⟩) NB254_256.out _).trans (hHeld.2.1)))), ((cell_far (p := ⟨gb256, _, none⟩) NB254_256.out _).trans (((cell_far (p := ⟨gb256, _, none⟩) NB254_256.out _).trans (hHeld.2.2))))⟩) (fun hHeld => ?_)
 clear hK K
 refine done_ (done_of HT_.out (by kernel_rfl)) ?_
 try go_wp2
 refine bodyPost_ret (results_cell_row rfl _ _ gb256 25 #[.slice Ao18 t266.length co18, .int .i64 t269] (0, 0) _ rfl (zp BK256) Try.underlying25 rfl (by kernel_rfl)) rfl ?_
 exact ⟨_, ze, (Kd.R_mono (ztR (Kd.R_types HO268.out BK256.out (by decide))) (fun _ hk => hk.1.1.1.1)), zb HB⟩

/-! ### impl_TableFixed: function 163 -/
-- thin
def impl_TableFixed.f  : Option ((List (S88))) := some (([(⟨(⟨#[58, 112, 97, 116, 104]⟩ : ByteArray), (⟨#[]⟩ : ByteArray), false⟩ : S88), (⟨(⟨#[58, 115, 116, 97, 116, 117, 115]⟩ : ByteArray), (⟨#[48]⟩ : ByteArray), false⟩ : S88), (⟨(⟨#[58, 115, 116, 97, 116, 117, 115]⟩ : ByteArray), (⟨#[49, 50]⟩ : ByteArray), false⟩ : S88), (⟨(⟨#[107, 105, 110, 100]⟩ : ByteArray), (⟨#[116, 101, 120, 116]⟩ : ByteArray), false⟩ : S88), (⟨(⟨#[115, 105, 122, 101]⟩ : ByteArray), (⟨#[]⟩ : ByteArray), false⟩ : S88), (⟨(⟨#[116, 101]⟩ : ByteArray), (⟨#[116, 114, 97, 105, 108, 101, 114, 115]⟩ : ByteArray), false⟩ : S88)] : List (S88)))
set_option maxHeartbeats 8000000 in
set_option maxRecDepth 100000 in
theorem impl_TableFixed.calls  (r : List (S88)) (w : World) (h : impl_TableFixed.f  = some r) :
  Calls Try.prog 163 #[] w fun e w' => ∃ v0_ : Value, e = .returned (v0_) ∧ Kd.R k88 88 w' w.heap.size (fun _ => True) v0_ r ∧ Below w.heap.size w w' := by
 have hu88 := Try.underlying88
 have HB := Aside0.mk (Below.refl w.heap.size w)
 have H : (some (([(⟨(⟨#[58, 112, 97, 116, 104]⟩ : ByteArray), (⟨#[]⟩ : ByteArray), false⟩ : S88), (⟨(⟨#[58, 115, 116, 97, 116, 117, 115]⟩ : ByteArray), (⟨#[48]⟩ : ByteArray), false⟩ : S88), (⟨(⟨#[58, 115, 116, 97, 116, 117, 115]⟩ : ByteArray), (⟨#[49, 50]⟩ : ByteArray), false⟩ : S88), (⟨(⟨#[107, 105, 110, 100]⟩ : ByteArray), (⟨#[116, 101, 120, 116]⟩ : ByteArray), false⟩ : S88), (⟨(⟨#[115, 105, 122, 101]⟩ : ByteArray), (⟨#[]⟩ : ByteArray), false⟩ : S88), (⟨(⟨#[116, 101]⟩ : ByteArray), (⟨#[116, 114, 97, 105, 108, 101, 114, 115]⟩ : ByteArray), false⟩ : S88)] : List (S88)))) = some r := h
 clear h
 obtain ⟨y270, hy270⟩ : ∃ y_ : List (S88), y_ = (([(⟨(⟨#[58, 112, 97, 116, 104]⟩ : ByteArray), (⟨#[]⟩ : ByteArray), false⟩ : S88), (⟨(⟨#[58, 115, 116, 97, 116, 117, 115]⟩ : ByteArray), (⟨#[48]⟩ : ByteArray), false⟩ : S88), (⟨(⟨#[58, 115, 116, 97, 116, 117, 115]⟩ : ByteArray), (⟨#[49, 50]⟩ : ByteArray), false⟩ : S88), (⟨(⟨#[107, 105, 110, 100]⟩ : ByteArray), (⟨#[116, 101, 120, 116]⟩ : ByteArray), false⟩ : S88), (⟨(⟨#[115, 105, 122, 101]⟩ : ByteArray), (⟨#[]⟩ : ByteArray), false⟩ : S88), (⟨(⟨#[116, 101]⟩ : ByteArray), (⟨#[116, 114, 97, 105, 108, 101, 114, 115]⟩ : ByteArray), false⟩ : S88)] : List (S88))) := ⟨_, rfl⟩
 replace H : (some y270) = some r := by first | (rw [hy270]; with_reducible exact H) | (have H2_ := (Option.bind_some _ _).symm.trans H; rw [hy270]; with_reducible exact H2_) | (have H2_ := (Option.bind_some _ _).symm.trans H; with_reducible exact H2_) | with_reducible exact H | (rw [hy270]; exact H) | exact H
 have Ny270 := Aside0.mk hy270
 clear hy270
 obtain rfl := Option.some.inj H
 go_enter Try.func163, Try.ntmps163
 go_wp2_with (first | ((with_reducible refine gd 7 rfl ?_); refine Kd.R_lit k88 _ 88 ?hg (N := 7) ?hd (xs := ([(⟨(⟨#[58, 112, 97, 116, 104]⟩ : ByteArray), (⟨#[]⟩ : ByteArray), false⟩ : S88), (⟨(⟨#[58, 115, 116, 97, 116, 117, 115]⟩ : ByteArray), (⟨#[48]⟩ : ByteArray), false⟩ : S88), (⟨(⟨#[58, 115, 116, 97, 116, 117, 115]⟩ : ByteArray), (⟨#[49, 50]⟩ : ByteArray), false⟩ : S88), (⟨(⟨#[107, 105, 110, 100]⟩ : ByteArray), (⟨#[116, 101, 120, 116]⟩ : ByteArray), false⟩ : S88), (⟨(⟨#[115, 105, 122, 101]⟩ : ByteArray), (⟨#[]⟩ : ByteArray), false⟩ : S88), (⟨(⟨#[116, 101]⟩ : ByteArray), (⟨#[116, 114, 97, 105, 108, 101, 114, 115]⟩ : ByteArray), false⟩ : S88)] : List (S88))) (inner := [.string (⟨#[58, 112, 97, 116, 104]⟩ : ByteArray), .string (⟨#[]⟩ : ByteArray), .bool false, .string (⟨#[58, 115, 116, 97, 116, 117, 115]⟩ : ByteArray), .string (⟨#[48]⟩ : ByteArray), .bool false, .string (⟨#[58, 115, 116, 97, 116, 117, 115]⟩ : ByteArray), .string (⟨#[49, 50]⟩ : ByteArray), .bool false, .string (⟨#[107, 105, 110, 100]⟩ : ByteArray), .string (⟨#[116, 101, 120, 116]⟩ : ByteArray), .bool false, .string (⟨#[115, 105, 122, 101]⟩ : ByteArray), .string (⟨#[]⟩ : ByteArray), .bool false, .string (⟨#[116, 101]⟩ : ByteArray), .string (⟨#[116, 114, 97, 105, 108, 101, 114, 115]⟩ : ByteArray), .bool false]) (ok := fun _ => True) (okp := fun _ => True) ?hr ?hp (fun _ hk => hk) trivial (Below.refl _ _) (Nat.le_refl _) (by simp) ?_; (case hd => rfl); (case hg => rfl); (case hr => first | (go_simp; done) | (go_simp; rfl)); (case hp => exact (Reps.c3 (show Kd.M k88 _ _ _ (⟨(⟨#[58, 112, 97, 116, 104]⟩ : ByteArray), (⟨#[]⟩ : ByteArray), false⟩ : S88) [.string (⟨#[58, 112, 97, 116, 104]⟩ : ByteArray), .string (⟨#[]⟩ : ByteArray), .bool false] from (k88_mkM _ _ _ (⟨(⟨#[58, 112, 97, 116, 104]⟩ : ByteArray), (⟨#[]⟩ : ByteArray), false⟩ : S88) )) (Reps.c3 (show Kd.M k88 _ _ _ (⟨(⟨#[58, 115, 116, 97, 116, 117, 115]⟩ : ByteArray), (⟨#[48]⟩ : ByteArray), false⟩ : S88) [.string (⟨#[58, 115, 116, 97, 116, 117, 115]⟩ : ByteArray), .string (⟨#[48]⟩ : ByteArray), .bool false] from (k88_mkM _ _ _ (⟨(⟨#[58, 115, 116, 97, 116, 117, 115]⟩ : ByteArray), (⟨#[48]⟩ : ByteArray), false⟩ : S88) )) (Reps.c3 (show Kd.M k88 _ _ _ (⟨(⟨#[58, 115, 116, 97, 116, 117, 115]⟩ : ByteArray), (⟨#[49, 50]⟩ : ByteArray), false⟩ : S88) [.string (⟨#[58, 115, 116, 97, 116, 117, 115]⟩ : ByteArray), .string (⟨#[49, 50]⟩ : ByteArray), .bool false] from (k88_mkM _ _ _ (⟨(⟨#[58, 115, 116, 97, 116, 117, 115]⟩ : ByteArray), (⟨#[49, 50]⟩ : ByteArray), false⟩ : S88) )) (Reps.c3 (show Kd.M k88 _ _ _ (⟨(⟨#[107, 105, 110, 100]⟩ : ByteArray), (⟨#[116, 101, 120, 116]⟩ : ByteArray), false⟩ : S88) [.string (⟨#[107, 105, 110, 100]⟩ : ByteArray), .string (⟨#[116, 101, 120, 116]⟩ : ByteArray), .bool false] from (k88_mkM _ _ _ (⟨(⟨#[107, 105, 110, 100]⟩ : ByteArray), (⟨#[116, 101, 120, 116]⟩ : ByteArray), false⟩ : S88) )) (Reps.c3 (show Kd.M k88 _ _ _ (⟨(⟨#[115, 105, 122, 101]⟩ : ByteArray), (⟨#[]⟩ : ByteArray), false⟩ : S88) [.string (⟨#[115, 105, 122, 101]⟩ : ByteArray), .string (⟨#[]⟩ : ByteArray), .bool false] from (k88_mkM _ _ _ (⟨(⟨#[115, 105, 122, 101]⟩ : ByteArray), (⟨#[]⟩ : ByteArray), false⟩ : S88) )) (Reps.c3 (show Kd.M k88 _ _ _ (⟨(⟨#[116, 101]⟩ : ByteArray), (⟨#[116, 114, 97, 105, 108, 101, 114, 115]⟩ : ByteArray), false⟩ : S88) [.string (⟨#[116, 101]⟩ : ByteArray), .string (⟨#[116, 114, 97, 105, 108, 101, 114, 115]⟩ : ByteArray), .bool false] from (k88_mkM _ _ _ (⟨(⟨#[116, 101]⟩ : ByteArray), (⟨#[116, 114, 97, 105, 108, 101, 114, 115]⟩ : ByteArray), false⟩ : S88) )) (Reps.none _ _)))))))); intro v271 w1 ho2 hb hg_ hnew_; clear hg_ hnew_; (first | rw [← Ny270.out] at ho2 | (simp only [Int.reduceToNat] at ho2; rw [← Ny270.out] at ho2)); have HO272 := Aside0.mk (Kd.R_lower ho2 (below_size (zb HB))); replace HB := Aside0.mk (below_step (zb HB) hb); clear hb ho2))
 go_ret
 exact ⟨_, ze, zq (HO272.out), zb HB⟩

/-! ### impl_Table_all: function 146 -/
-- thin
def impl_Table_all.f (l0_0 : List (S88)) (a0_1 : Int) : Option ((List (S88))) := (impl_TableFixed.f).bind fun t274 => ((Concat_Field.f (([t274, l0_0] : List (List (S88))))).bind fun t280 => (some t280))
set_option maxHeartbeats 8000000 in
set_option maxRecDepth 100000 in
theorem impl_Table_all.calls (P0_0_ : Nat → Prop) (A0_0 : Option Addr) (c0_0 : Nat) (l0_0 : List (S88)) (a0_1 : Int) (r : List (S88)) (w : World) (hs0_0 : Kd.V k88 88 w w.heap.size (fun k_ => P0_0_ k_) (.slice A0_0 l0_0.length c0_0) l0_0) (h : impl_Table_all.f l0_0 a0_1 = some r) :
  Calls Try.prog 146 #[.agg #[.slice A0_0 l0_0.length c0_0, .int .i64 a0_1]] w fun e w' => ∃ v0_ : Value, e = .returned (v0_) ∧ Kd.R k88 88 w' w.heap.size (fun k_ => (w.heap.size ≤ k_)) v0_ r ∧ Below w.heap.size w w' := by
 have hu25 := Try.underlying25
 have HO0_0 := Aside0.mk (show Kd.V k88 88 w w.heap.size (fun k_ => (P0_0_ k_ ∨ w.heap.size ≤ k_)) (.slice A0_0 l0_0.length c0_0) l0_0 from Kd.V_mono hs0_0 (fun k_ hk => .inl hk))
 have HB := Aside0.mk (Below.refl w.heap.size w)
 have H : ((impl_TableFixed.f).bind fun t274 => ((Concat_Field.f (([t274, l0_0] : List (List (S88))))).bind fun t280 => (some t280))) = some r := h
 clear h
 obtain ⟨t274, A2, H⟩ := ob H
 (try dsimp only at H)
 obtain ⟨y277, hy277⟩ : ∃ y_ : List (List (S88)), y_ = (([t274, l0_0] : List (List (S88)))) := ⟨_, rfl⟩
 replace H : ((Concat_Field.f y277).bind fun t280 => (some t280)) = some r := by first | (rw [hy277]; with_reducible exact H) | (have H2_ := (Option.bind_some _ _).symm.trans H; rw [hy277]; with_reducible exact H2_) | (have H2_ := (Option.bind_some _ _).symm.trans H; with_reducible exact H2_) | with_reducible exact H | (rw [hy277]; exact H) | exact H
 have Ny277 := Aside0.mk hy277
 clear hy277
 obtain ⟨t280, A3, H⟩ := ob H
 (try dsimp only at H)
 obtain rfl := Option.some.inj H
 go_enter Try.func146, Try.ntmps146
 try go_wp2_with (first | ((with_reducible refine gd 1 rfl ?_); refine bx (N := 1) (cs := #[.slice A0_0 l0_0.length c0_0, .int .i64 a0_1]) (t := 25) ?_; intro gb273 hg w4 hbox hb; replace HO0_0 := Aside0.mk (Kd.V_below (Kd.V_elderB (zV HO0_0) gb273 (Nat.le_of_eq hg.symm)) hb); have BK273 := Aside0.mk (hbox); have GW273 := gw HB hg; have GE273 := GW273; replace HB := Aside0.mk (below_step (zb HB) hb); clear hb hbox hg))
 replace HO0_0 := Aside0.mk (Kd.V_drew HO0_0.out)
 replace BK273 := Aside0.mk (blk_drew BK273.out)
 replace HB := Aside0.mk (below_drew1 HB.out)
 refine st 6 (b2 BK273) (fun hHeld => ?_)
 generalize w4.drew = w5 at HO0_0 BK273 HB hHeld ⊢
 refine pu 1 (some 4) (bm 6 2) rfl rfl ?_
 refine tk 2 (some 5) (bm 6 6) rfl rfl hHeld ?_
 refine one_ (i := 0) (N := some 3) (bm 6 7) rfl rfl (by kernel_rfl) (by decide) (fun K hK => ?_)
 refine gs Try.func163 #[] ?_
 with_reducible refine (impl_TableFixed.calls  t274 _ A2.out).mono ?_
 rintro e w6 ⟨v275, rfl, ho0, hb⟩
 refine ⟨_, rfl, ?_⟩
 replace HO0_0 := Aside0.mk (Kd.V_elder' (zV HO0_0) (Kd.R_base ho0) hb)
 have HO276 := Aside0.mk (Kd.R_lower (Kd.R_newM (M := fun k_ => (w.heap.size ≤ k_)) ho0 (below_size (zb HB)) (fun k_ h_ => h_)) (below_size (zb HB)))
 replace BK273 := kb BK273 hb
 replace HB := Aside0.mk (below_step (zb HB) hb)
 (try clear hb)
 (try clear ho0)
 obtain ⟨Ao7, co7, eo7⟩ := Kd.R_slice HO276.out
 (first | subst eo7 | (injection eo7 with f1_ f2_ f3_; have f4_ := f1_.symm; have f5_ := f3_.symm; clear f1_ f2_ f3_; subst f4_; subst f5_))
 refine hK.out _ _ (b2 BK273) (fun hHeld => ?_)
 clear hK K
 refine nm ?_
 refine one_ (i := 3) (N := some 6) (bm 6 15) rfl rfl (by kernel_rfl) (by decide) (fun K hK => ?_)
 refine Kd.N_lit_step (Kd.slice 88 k88) _ 23 ?hg (N' := 6) ?hd (xs := ([t274, l0_0] : List (List (S88)))) (inner := [.slice Ao7 t274.length co7, .slice A0_0 l0_0.length c0_0]) (ok := (fun k_ => (P0_0_ k_ ∨ w.heap.size ≤ k_) ∧ k_ ≠ gb273)) (okp := (fun k_ => (P0_0_ k_ ∨ w.heap.size ≤ k_) ∧ k_ ≠ gb273)) ?hr ?hp (fun _ hk => hk) ((show ∀ k_, w6.heap.size ≤ k_ → (fun k_ => (P0_0_ k_ ∨ w.heap.size ≤ k_) ∧ k_ ≠ gb273) k_ from fun k_ hk => ⟨(.inr (Nat.le_trans (below_size (zb HB)) hk)), Kd.freshB (zk BK273) k_ hk⟩) _ (Nat.le_refl _)) (Below.refl _ _) (Nat.le_refl _) (by simp) ?_; (case hd => rfl); (case hg => rfl); (case hr => first | (go_simp; done) | (go_simp; rfl)); (case hp => exact (Reps.one (show Kd.FK (Kd.slice 88 k88) _ _ t274 [.slice Ao7 t274.length co7] from (Kd.FK_slice_mk (Kd.R_reads' (Kd.R_mono (ok' := (fun k_ => (P0_0_ k_ ∨ w.heap.size ≤ k_) ∧ k_ ≠ gb273)) (Kd.R_types (HO276.out) BK273.out (by decide)) (fun k_ hk => ⟨(.inr (hk.1.1)), hk.2⟩))).2.1 (Kd.R_F (Kd.R_mono (ok' := (fun k_ => (P0_0_ k_ ∨ w.heap.size ≤ k_) ∧ k_ ≠ gb273)) (Kd.R_types (HO276.out) BK273.out (by decide)) (fun k_ hk => ⟨(.inr (hk.1.1)), hk.2⟩))))) (Reps.one (show Kd.FK (Kd.slice 88 k88) _ _ l0_0 [.slice A0_0 l0_0.length c0_0] from (Kd.FK_slice_mk (Kd.V_reads' (Kd.V_mono (ok' := (fun k_ => (P0_0_ k_ ∨ w.heap.size ≤ k_) ∧ k_ ≠ gb273)) (HO0_0.out) (fun k_ hk => ⟨hk.1.1, hk.1.2⟩))).2.1 (Kd.V_F (Kd.V_mono (ok' := (fun k_ => (P0_0_ k_ ∨ w.heap.size ≤ k_) ∧ k_ ≠ gb273)) (HO0_0.out) (fun k_ hk => ⟨hk.1.1, hk.1.2⟩))))) (Reps.none _ _))))
 intro v278 w8 ho9 hb hg_ hnew_
 clear hg_ hnew_
 (first | rw [← Ny277.out] at ho9 | (simp only [Int.reduceToNat] at ho9; rw [← Ny277.out] at ho9))
 replace HO0_0 := Aside0.mk (Kd.V_elder' (zV HO0_0) (Kd.N_base ho9) hb)
 have HO279 := Aside0.mk (Kd.N_lower ho9 (below_size (zb HB)))
 replace BK273 := kb BK273 hb
 replace HB := Aside0.mk (below_step (zb HB) hb)
 clear HO276
 clear hb ho9
 obtain ⟨Ao10, co10, eo10⟩ := Kd.N_slice HO279.out
 (first | subst eo10 | (injection eo10 with f1_ f2_ f3_; have f4_ := f1_.symm; have f5_ := f3_.symm; clear f1_ f2_ f3_; subst f4_; subst f5_))
 refine hK.out _ _ (b2 BK273) (fun hHeld => ?_)
 clear hK K
 refine nm ?_
 refine one_ (i := 4) (N := some 7) (bm 6 31) rfl rfl (by kernel_rfl) (by decide) (fun K hK => ?_)
 refine gs Try.func118 #[.slice Ao10 y277.length co10] ?_
 with_reducible refine (Concat_Field.calls _ _ y277 t280 _ ?side1 ?side2 A3.out).mono ?_
 (case side1 => exact zc (Kd.N_reads' HO279.out).2.2)
 (case side2 => exact (Kd.N_reads' HO279.out).2.1)
 rintro e w11 ⟨v281, rfl, ho0, hb⟩
 refine ⟨_, rfl, ?_⟩
 replace HO0_0 := Aside0.mk (Kd.V_elder' (zV HO0_0) (Kd.R_base ho0) hb)
 replace HO279 := Aside0.mk (Kd.N_elder' (zN HO279) (Kd.R_base ho0) hb)
 have HO282 := Aside0.mk (Kd.R_lower (Kd.R_newM (M := fun k_ => (w.heap.size ≤ k_)) ho0 (below_size (zb HB)) (fun k_ h_ => h_)) (below_size (zb HB)))
 replace BK273 := kb BK273 hb
 replace HB := Aside0.mk (below_step (zb HB) hb)
 (try clear hb)
 (try clear ho0)
 refine hK.out _ _ (b2 BK273) (fun hHeld => ?_)
 clear hK K
 refine nm ?_
 refine pu 5 (some 2) (bm 6 63) rfl rfl ?_
 refine done_ (by kernel_rfl) ?_
 try go_wp2
 go_ret
 exact ⟨_, ze, zq (Kd.R_mono HO282.out (fun _ hk => hk.1)), zb HB⟩

/-! ### impl_Table_find: function 110 -/
-- by hand
set_option maxHeartbeats 4000000 in
set_option maxRecDepth 100000 in
theorem find1_calls (a b : ByteArray) (f2 : Bool) (x : S88) (W : World) (gb : Nat) (hbk : W.heap[gb]? = some (.cells #[.string a, .string b, .bool f2] 88 (0, 0))) :
    Calls Try.prog 147 #[.agg #[.string x.f0, .string x.f1, .bool x.f2], .pointer (some ⟨gb, 0, none⟩)] W fun e w' => e = .returned (.bool (x.f0.toList == a.toList && x.f1.toList == b.toList)) ∧ Below W.heap.size W w' := by
  have hu88 := Try.underlying88
  have HBK := Aside0.mk hbk
  have hlt := blk_lt hbk
  clear hbk
  by_cases h1 : x.f0.toList == a.toList
  · go_enter Try.func147, Try.ntmps147
    go_wp2_with (first | ((with_reducible refine gd 2 rfl ?_); refine bx (N := 2) (cs := #[.string x.f0, .string x.f1, .bool x.f2]) (t := 88) ?_; intro gb2 hg w2 hbox hb; have BK2 := Aside0.mk hbox; have BK := Aside0.mk (blk_below HBK.out hb); have HB := Aside0.mk hb; have hne : gb2 ≠ gb := (by rw [hg]; omega); clear hg hbox hb; have c0 := blk_cell BK2.out 0; have c1 := blk_cell BK2.out 1; have d0 := blk_cell BK.out 0; have d1 := blk_cell BK.out 1; simp at c0 c1 d0 d1))
    go_ret
    exact ⟨by simp [h1], HB.out⟩
  · go_enter Try.func147, Try.ntmps147
    go_wp2_with (first | ((with_reducible refine gd 2 rfl ?_); refine bx (N := 2) (cs := #[.string x.f0, .string x.f1, .bool x.f2]) (t := 88) ?_; intro gb2 hg w2 hbox hb; have BK2 := Aside0.mk hbox; have BK := Aside0.mk (blk_below HBK.out hb); have HB := Aside0.mk hb; have hne : gb2 ≠ gb := (by rw [hg]; omega); clear hg hbox hb; have c0 := blk_cell BK2.out 0; have c1 := blk_cell BK2.out 1; have d0 := blk_cell BK.out 0; have d1 := blk_cell BK.out 1; simp at c0 c1 d0 d1))
    go_ret
    exact ⟨by simp [h1], HB.out⟩
set_option maxHeartbeats 4000000 in
set_option maxRecDepth 100000 in
theorem find2_calls (a b : ByteArray) (f2 : Bool) (x : S88) (W : World) (gb : Nat) (hbk : W.heap[gb]? = some (.cells #[.string a, .string b, .bool f2] 88 (0, 0))) :
    Calls Try.prog 148 #[.agg #[.string x.f0, .string x.f1, .bool x.f2], .pointer (some ⟨gb, 0, none⟩)] W fun e w' => e = .returned (.bool (x.f0.toList == a.toList)) ∧ Below W.heap.size W w' := by
  have hu88 := Try.underlying88
  have HBK := Aside0.mk hbk
  have hlt := blk_lt hbk
  clear hbk
  go_enter Try.func148, Try.ntmps148
  go_wp2_with (first | ((with_reducible refine gd 2 rfl ?_); refine bx (N := 2) (cs := #[.string x.f0, .string x.f1, .bool x.f2]) (t := 88) ?_; intro gb2 hg w2 hbox hb; have BK2 := Aside0.mk hbox; have BK := Aside0.mk (blk_below HBK.out hb); have HB := Aside0.mk hb; have hne : gb2 ≠ gb := (by rw [hg]; omega); clear hg hbox hb; have c0 := blk_cell BK2.out 0; have c1 := blk_cell BK2.out 1; have d0 := blk_cell BK.out 0; have d1 := blk_cell BK.out 1; simp at c0 c1 d0 d1))
  go_ret
  exact ⟨rfl, HB.out⟩
theorem find1_enters : ∀ args w, (callFunc 147 args).run Try.prog w = .ok (.enter 147 args) w := enters_of Try.func147 (by kernel_rfl) rfl
theorem find2_enters : ∀ args w, (callFunc 148 args).run Try.prog w = .ok (.enter 148 args) w := enters_of Try.func148 (by kernel_rfl) rfl
theorem find1_pred (a b : ByteArray) (f2 : Bool) (gb : Nat) (W : World) (hbk : W.heap[gb]? = some (.cells #[.string a, .string b, .bool f2] 88 (0, 0))) :
    PredIs Try.prog 147 #[.pointer (some ⟨gb, 0, none⟩)] (fun x => some (x.f0.toList == a.toList && x.f1.toList == b.toList)) W := by
  intro W1 x r hW h
  obtain rfl := Option.some.inj h
  exact (calls_of_args (by simp) (find1_calls a b f2 x W1 gb (blk_below hbk hW))).mono fun e w2 h2 => ⟨h2.1, below_step hW h2.2⟩
theorem find2_pred (a b : ByteArray) (f2 : Bool) (gb : Nat) (W : World) (hbk : W.heap[gb]? = some (.cells #[.string a, .string b, .bool f2] 88 (0, 0))) :
    PredIs Try.prog 148 #[.pointer (some ⟨gb, 0, none⟩)] (fun x => some (x.f0.toList == a.toList)) W := by
  intro W1 x r hW h
  obtain rfl := Option.some.inj h
  exact (calls_of_args (by simp) (find2_calls a b f2 x W1 gb (blk_below hbk hW))).mono fun e w2 h2 => ⟨h2.1, below_step hW h2.2⟩
def impl_Table_find.f (l0_0 : List (S88)) (a0_1 : Int) (a1_0 a1_1 : ByteArray) (a1_2 : Bool) : Option (Int × Bool) :=
  (impl_Table_all.f l0_0 a0_1).bind fun l => if l.length ≤ 1000000000 then (idxFrom (fun x => some (x.f0.toList == a1_0.toList && x.f1.toList == a1_1.toList)) l 0).bind fun i => if i ≥ 0 then some (wrap64 (i + 1), true) else (idxFrom (fun x => some (x.f0.toList == a1_0.toList)) l 0).bind fun j => some (wrap64 (j + 1), false) else none
set_option maxHeartbeats 4000000 in
set_option maxRecDepth 100000 in
theorem impl_Table_find.calls (A0_0 : Option Addr) (c0_0 : Nat) (l0_0 : List (S88)) (a0_1 : Int) (a1_0 a1_1 : ByteArray) (a1_2 : Bool) (r1 : Int) (r2 : Bool) (w : World) (hr0_0 : Kd.C k88 w A0_0 l0_0.length l0_0) (hc0_0 : l0_0.length ≤ c0_0) (h : impl_Table_find.f l0_0 a0_1 a1_0 a1_1 a1_2 = some (r1, r2)) :
    Calls Try.prog 110 #[.agg #[.slice A0_0 l0_0.length c0_0, .int .i64 a0_1], .agg #[.string a1_0, .string a1_1, .bool a1_2]] w fun e w' => e = .returned (.tuple #[.int .i64 r1, .bool r2]) ∧ Below w.heap.size w w' := by
  unfold impl_Table_find.f at h
  obtain ⟨l, hl, h⟩ := Option.bind_eq_some_iff.1 h
  split at h
  case isFalse => cases h
  rename_i hlen
  obtain ⟨i, hi, h⟩ := Option.bind_eq_some_iff.1 h
  have HV := Aside0.mk (Kd.V_mk (e := 88) (base := w.heap.size) hc0_0 (Kd.C_F (Kd.heap_iso _ (Kd.heap_pair Kd.heap_string (Kd.heap_pair Kd.heap_string Kd.heap_bool))) hr0_0))
  have HL := Aside0.mk hl
  have HI := Aside0.mk hi
  have H := Aside0.mk h
  have HLEN := Aside0.mk hlen
  clear hr0_0 hc0_0 hl hi h hlen
  have HB := Aside0.mk (Below.refl w.heap.size w)
  have hu88 := Try.underlying88
  have hu25 := Try.underlying25
  go_enter Try.func110, Try.ntmps110
  by_cases hi : i ≥ 0
  · have H1 := H.out
    rw [if_pos hi] at H1
    simp only [Option.some.injEq, Prod.mk.injEq] at H1
    obtain ⟨rfl, rfl⟩ := H1
    have c1 : decide (0 ≤ i) = true := decide_eq_true hi
    clear H hi
    go_wp2_with (first
      | ((with_reducible refine gd 2 rfl ?_); refine bx (N := 2) (cs := #[.slice A0_0 l0_0.length c0_0, .int .i64 a0_1]) (t := 25) ?_; intro gb2 hg w2 hbox hb; have BK2 := Aside0.mk hbox; replace HB := Aside0.mk (below_step HB.out hb); clear hg hbox hb; have c20 := blk_cell BK2.out 0; have c21 := blk_cell BK2.out 1; simp at c20 c21)
      | ((with_reducible refine gd 3 rfl ?_); refine bx (N := 3) (cs := #[.string a1_0, .string a1_1, .bool a1_2]) (t := 88) ?_; intro gb3 hg w3 hbox hb; have BK3 := Aside0.mk hbox; replace BK2 := Aside0.mk (blk_below BK2.out hb); replace HB := Aside0.mk (below_step HB.out hb); clear c20 c21; have c20 := blk_cell BK2.out 0; have c21 := blk_cell BK2.out 1; simp at c20 c21; clear hg hbox hb)
      | ((with_reducible refine gq 146 rfl ?_); refine gl (some 9) Try.func146 #[.agg #[.slice A0_0 l0_0.length c0_0, .int .i64 a0_1]] ?_; (with_reducible refine (impl_Table_all.calls (fun k => k < w.heap.size) _ _ l0_0 a0_1 l _ ?side1 HL.out).mono ?_); (case side1 => exact Kd.V_below HV.out HB.out); rintro e w4 ⟨v0, rfl, ho, hb⟩; refine ⟨_, rfl, ?_⟩; obtain ⟨A1, c1, rfl⟩ := Kd.R_slice ho; have HC := Aside0.mk (Kd.R_reads' ho).2.2; have HCC := Aside0.mk (Kd.R_reads' ho).2.1; replace BK3 := Aside0.mk (blk_below BK3.out hb); replace HB := Aside0.mk (below_step HB.out hb); clear ho hb c20 c21)
      | ((with_reducible refine gd 12 rfl ?_); (with_reducible refine gq 121 rfl ?_); refine gl (some 12) Try.func121 #[.slice A1 l.length c1, .func (.func 147) #[] #[.pointer (some ⟨gb3, 0, none⟩)]] ?_; (with_reducible refine (IndexFunc_calls 147 #[.pointer (some ⟨gb3, 0, none⟩)] (fun x => some (x.f0.toList == a1_0.toList && x.f1.toList == a1_1.toList)) find1_enters A1 c1 l i _ HC.out HCC.out ?hp HI.out HLEN.out).mono ?_); (case hp => exact find1_pred a1_0 a1_1 a1_2 gb3 _ BK3.out); rintro e w5 ⟨rfl, hb⟩; refine ⟨_, rfl, ?_⟩; replace BK3 := Aside0.mk (blk_below BK3.out hb); replace HC := Aside0.mk (Kd.C_below HC.out hb); replace HB := Aside0.mk (below_step HB.out hb); clear hb))
    go_ret2
    exact ⟨rfl, HB.out⟩
  · have H1 := H.out
    rw [if_neg hi] at H1
    obtain ⟨j, hj, H1⟩ := Option.bind_eq_some_iff.1 H1
    simp only [Option.some.injEq, Prod.mk.injEq] at H1
    obtain ⟨rfl, rfl⟩ := H1
    have HJ := Aside0.mk hj
    have c1 : decide (0 ≤ i) = false := decide_eq_false hi
    clear H hi hj
    go_wp2_with (first
      | ((with_reducible refine gd 2 rfl ?_); refine bx (N := 2) (cs := #[.slice A0_0 l0_0.length c0_0, .int .i64 a0_1]) (t := 25) ?_; intro gb2 hg w2 hbox hb; have BK2 := Aside0.mk hbox; replace HB := Aside0.mk (below_step HB.out hb); clear hg hbox hb; have c20 := blk_cell BK2.out 0; have c21 := blk_cell BK2.out 1; simp at c20 c21)
      | ((with_reducible refine gd 3 rfl ?_); refine bx (N := 3) (cs := #[.string a1_0, .string a1_1, .bool a1_2]) (t := 88) ?_; intro gb3 hg w3 hbox hb; have BK3 := Aside0.mk hbox; replace BK2 := Aside0.mk (blk_below BK2.out hb); replace HB := Aside0.mk (below_step HB.out hb); clear c20 c21; have c20 := blk_cell BK2.out 0; have c21 := blk_cell BK2.out 1; simp at c20 c21; clear hg hbox hb)
      | ((with_reducible refine gq 146 rfl ?_); refine gl (some 9) Try.func146 #[.agg #[.slice A0_0 l0_0.length c0_0, .int .i64 a0_1]] ?_; (with_reducible refine (impl_Table_all.calls (fun k => k < w.heap.size) _ _ l0_0 a0_1 l _ ?side1 HL.out).mono ?_); (case side1 => exact Kd.V_below HV.out HB.out); rintro e w4 ⟨v0, rfl, ho, hb⟩; refine ⟨_, rfl, ?_⟩; obtain ⟨A1, c1, rfl⟩ := Kd.R_slice ho; have HC := Aside0.mk (Kd.R_reads' ho).2.2; have HCC := Aside0.mk (Kd.R_reads' ho).2.1; replace BK3 := Aside0.mk (blk_below BK3.out hb); replace HB := Aside0.mk (below_step HB.out hb); clear ho hb c20 c21)
      | ((with_reducible refine gd 12 rfl ?_); (with_reducible refine gq 121 rfl ?_); refine gl (some 12) Try.func121 #[.slice A1 l.length c1, .func (.func 147) #[] #[.pointer (some ⟨gb3, 0, none⟩)]] ?_; (with_reducible refine (IndexFunc_calls 147 #[.pointer (some ⟨gb3, 0, none⟩)] (fun x => some (x.f0.toList == a1_0.toList && x.f1.toList == a1_1.toList)) find1_enters A1 c1 l i _ HC.out HCC.out ?hp HI.out HLEN.out).mono ?_); (case hp => exact find1_pred a1_0 a1_1 a1_2 gb3 _ BK3.out); rintro e w5 ⟨rfl, hb⟩; refine ⟨_, rfl, ?_⟩; replace BK3 := Aside0.mk (blk_below BK3.out hb); replace HC := Aside0.mk (Kd.C_below HC.out hb); replace HB := Aside0.mk (below_step HB.out hb); clear hb)
      | ((with_reducible refine gd 19 rfl ?_); (with_reducible refine gq 121 rfl ?_); refine gl (some 19) Try.func121 #[.slice A1 l.length c1, .func (.func 148) #[] #[.pointer (some ⟨gb3, 0, none⟩)]] ?_; (with_reducible refine (IndexFunc_calls 148 #[.pointer (some ⟨gb3, 0, none⟩)] (fun x => some (x.f0.toList == a1_0.toList)) find2_enters A1 c1 l j _ HC.out HCC.out ?hp HJ.out HLEN.out).mono ?_); (case hp => exact find2_pred a1_0 a1_1 a1_2 gb3 _ BK3.out); rintro e w5 ⟨rfl, hb⟩; refine ⟨_, rfl, ?_⟩; replace BK3 := Aside0.mk (blk_below BK3.out hb); replace HC := Aside0.mk (Kd.C_below HC.out hb); replace HB := Aside0.mk (below_step HB.out hb); clear hb))
    go_ret2
    exact ⟨rfl, HB.out⟩

/-! ### impl_NumWrite: function 112 -/
-- thin
mutual
def impl_NumWrite.j0 : Nat → Int → Int → Int → Bool → Option (ByteArray)
 | 0, _, _, _, _ => none
 | k + 1, x0, x1, x2, x25 => if x25 = true then (some (⟨#[]⟩ : ByteArray)) else (if 0 ≤ x1 then (if x0 < (wrap64 ((shl .i64 1 x1) - 1)) then (some (strOfNums (([(Go.bits .or .i64 (shl .i64 x2 x1) x0) % 256] : List Int)))) else (impl_NumWrite.l0 k (wrap64 (x0 - (wrap64 ((shl .i64 1 x1) - 1)))) (([(Go.bits .or .i64 (shl .i64 x2 x1) (wrap64 ((shl .i64 1 x1) - 1))) % 256] : List Int)))) else (none))
def impl_NumWrite.l0 : Nat → Int → List Int → Option (ByteArray)
 | 0, _, _ => none
 | k + 1, x0, x8 => if x0 > 127 then (if x8.length < 140737488355328 then (impl_NumWrite.l0 k (x0 / 128) (x8 ++ [(Go.bits .or .i64 128 (Go.bits .and .i64 x0 127)) % 256])) else (none)) else (if x8.length < 140737488355328 then (some (strOfNums (x8 ++ [(x0) % 256]))) else (none))
end
def impl_NumWrite.f (k : Nat) (a0 : Int) (a1 : Int) (a2 : Int) : Option (ByteArray) := (impl_in.f a0 0 9999).bind fun t283 => (if t283 = true then ((impl_in.f a1 3 7).bind fun t284 => (if t284 = true then (if 0 ≤ (wrap64 (8 - a1)) then ((impl_in.f a2 0 (wrap64 ((shl .i64 1 (wrap64 (8 - a1))) - 1))).bind fun t285 => (impl_NumWrite.j0 k a0 a1 a2 (!t285))) else (none)) else (impl_NumWrite.j0 k a0 a1 a2 true))) else (impl_NumWrite.j0 k a0 a1 a2 true))
theorem impl_NumWrite.mono_l : ∀ k, (∀ y0 y1 y2 y3, LeO (impl_NumWrite.j0 k y0 y1 y2 y3) (impl_NumWrite.j0 (k + 1) y0 y1 y2 y3)) ∧ (∀ y0 y1, LeO (impl_NumWrite.l0 k y0 y1) (impl_NumWrite.l0 (k + 1) y0 y1))
 | 0 => ⟨fun _ _ _ _ r h => by simp [impl_NumWrite.j0] at h, fun _ _ r h => by simp [impl_NumWrite.l0] at h⟩
 | k + 1 => by
  obtain ⟨ih0, ih1⟩ := impl_NumWrite.mono_l k
  refine ⟨?_, ?_⟩
  ·intro y0 y1 y2 y3
   unfold impl_NumWrite.j0
   exact zm
  ·intro y0 y1
   unfold impl_NumWrite.l0
   exact zm
theorem impl_NumWrite.mono : ∀ a0 a1 a2 k, LeO (impl_NumWrite.f k a0 a1 a2) (impl_NumWrite.f (k + 1) a0 a1 a2) := by
 intro a0 a1 a2 k
 obtain ⟨ih0, ih1⟩ := impl_NumWrite.mono_l k
 unfold impl_NumWrite.f
 exact zm
set_option maxHeartbeats 8000000 in
set_option maxRecDepth 100000 in
theorem impl_NumWrite.calls (k : Nat) (a0 : Int) (a1 : Int) (a2 : Int) (r : ByteArray) (w : World) (h : impl_NumWrite.f k a0 a1 a2 = some r) :
  Calls Try.prog 112 #[.int .i64 a0, .int .i64 a1, .int .i64 a2] w fun e w' => e = .returned (.string r) ∧ Below w.heap.size w w' := by
 have HB := Aside0.mk (Below.refl w.heap.size w)
 have H : ((impl_in.f a0 0 9999).bind fun t283 => (if t283 = true then ((impl_in.f a1 3 7).bind fun t284 => (if t284 = true then (if 0 ≤ (wrap64 (8 - a1)) then ((impl_in.f a2 0 (wrap64 ((shl .i64 1 (wrap64 (8 - a1))) - 1))).bind fun t285 => (impl_NumWrite.j0 k a0 a1 a2 (!t285))) else (none)) else (impl_NumWrite.j0 k a0 a1 a2 true))) else (impl_NumWrite.j0 k a0 a1 a2 true))) = some r := h
 clear h
 have HC4 := Aside0.mk H
 clear H
 go_enter Try.func112, Try.ntmps112
 go_upto_region 1 with (fail)
 go_cut [25] (fun v25 wc => ∃ (kq : Nat) (x25_3 : Bool), v25 = .bool x25_3 ∧ Aside0 (impl_NumWrite.j0 kq a0 a1 a2 x25_3 = some r) ∧ Aside0 (kq ≤ k) ∧ Aside0 (Below w.heap.size w wc))
 case first =>
  have H := HC4.out
  clear HC4
  obtain ⟨t283, A5, H⟩ := ob H
  (try dsimp only at H)
  by_cases c6 : t283 = true
  ·subst c6
   rw [if_pos rfl] at H
   obtain ⟨t284, A7, H⟩ := ob H
   (try dsimp only at H)
   by_cases c8 : t284 = true
   ·subst c8
    rw [if_pos rfl] at H
    obtain ⟨ji9, hji9⟩ : ∃ j_ : Int, (wrap64 (8 - a1)) = j_ := ⟨_, rfl⟩
    replace H : (if 0 ≤ (ji9) then ((impl_in.f a2 0 (wrap64 ((shl .i64 1 (ji9)) - 1))).bind fun t285 => (impl_NumWrite.j0 k a0 a1 a2 (!t285))) else (none)) = some r := by first | (rw [hji9] at H; exact H) | (simp only [hji9] at H ⊢; exact H)
    (try rw [hji9] at A5)
    (try rw [hji9] at A7)
    have hji9w : (IntKind.i64.wrap (8 - a1)) = ji9 := (i64_w _).trans hji9
    replace H := sp H
    rcases H with ⟨c10, H⟩ | ⟨c10, H⟩
    ·skip
     have c10b0 := eq_true c10
     have c10b1 := decide_eq_true c10
     clear c10
     obtain ⟨ji11, hji11⟩ : ∃ j_ : Int, (shl .i64 1 (ji9)) = j_ := ⟨_, rfl⟩
     replace H : ((impl_in.f a2 0 (wrap64 ((ji11) - 1))).bind fun t285 => (impl_NumWrite.j0 k a0 a1 a2 (!t285))) = some r := by first | (rw [hji11] at H; exact H) | (simp only [hji11] at H ⊢; exact H)
     (try rw [hji11] at A5)
     (try rw [hji11] at A7)
     have hji11_ : (IntKind.i64.wrap (1 * 2 ^ min (ji9).toNat 64)) = ji11 := hji11
     have hji11z : (ji9) ≤ 64 → (IntKind.i64.wrap (1 * 2 ^ (ji9).toNat)) = ji11 := shl_small hji11
     have hji11u : (IntKind.i64.wrap (2 ^ min (ji9).toNat 64)) = ji11 := by have h_ := hji11_; rw [Int.one_mul] at h_; exact h_
     have hji11v : (ji9) ≤ 64 → (IntKind.i64.wrap (2 ^ (ji9).toNat)) = ji11 := fun hle_ => by have h_ := hji11z hle_; rw [Int.one_mul] at h_; exact h_
     have hji11y : (wrap64 (1 * 2 ^ min (ji9).toNat 64)) = ji11 := (i64_w _).symm.trans hji11_
     have hji11x : (ji9) ≤ 64 → (wrap64 (1 * 2 ^ (ji9).toNat)) = ji11 := fun h_ => (i64_w _).symm.trans (hji11z h_)
     obtain ⟨t285, A12, H⟩ := ob H
     (try dsimp only at H)
     have H' := Aside0.mk H
     clear H
     go_wp2_with (first | ((with_reducible refine gq 61 rfl ?_); refine gl (some 10) Try.func61 #[.int .i64 a0, .int .i64 0, .int .i64 9999] ?_; (with_reducible refine (impl_in.calls a0 0 9999 true _ A5.out).mono ?_); rintro e w' ⟨rfl, ⟨nd, rfl⟩⟩; refine ⟨_, rfl, ?_⟩) | (go_at_call 61; (with_reducible refine (impl_in.calls a1 3 7 true _ A7.out).mono ?_); rintro e w' ⟨rfl, ⟨nd, rfl⟩⟩) | (go_at_call 61; (with_reducible refine (impl_in.calls a2 0 (wrap64 ((ji11) - 1)) t285 _ A12.out).mono ?_); rintro e w' ⟨rfl, ⟨nd, rfl⟩⟩))
     go_meet
     case rel => exact ⟨_, (!t285), zs, H', ⟨by first | omega | exact Nat.le_refl _⟩, ⟨zb HB⟩⟩
    ·skip
     exact absurd H (by simp)
   ·replace c8 := Bool.eq_false_iff.mpr c8
    subst c8
    rw [if_neg (show ¬ (false = true) by decide)] at H
    have H' := Aside0.mk H
    clear H
    go_wp2_with (first | ((with_reducible refine gq 61 rfl ?_); refine gl (some 10) Try.func61 #[.int .i64 a0, .int .i64 0, .int .i64 9999] ?_; (with_reducible refine (impl_in.calls a0 0 9999 true _ A5.out).mono ?_); rintro e w' ⟨rfl, ⟨nd, rfl⟩⟩; refine ⟨_, rfl, ?_⟩) | (go_at_call 61; (with_reducible refine (impl_in.calls a1 3 7 false _ A7.out).mono ?_); rintro e w' ⟨rfl, ⟨nd, rfl⟩⟩))
    go_meet
    case rel => exact ⟨_, (true), zs, H', ⟨by first | omega | exact Nat.le_refl _⟩, ⟨zb HB⟩⟩
  ·replace c6 := Bool.eq_false_iff.mpr c6
   subst c6
   rw [if_neg (show ¬ (false = true) by decide)] at H
   have H' := Aside0.mk H
   clear H
   go_wp2_with (first | ((with_reducible refine gq 61 rfl ?_); refine gl (some 10) Try.func61 #[.int .i64 a0, .int .i64 0, .int .i64 9999] ?_; (with_reducible refine (impl_in.calls a0 0 9999 false _ A5.out).mono ?_); rintro e w' ⟨rfl, ⟨nd, rfl⟩⟩; refine ⟨_, rfl, ?_⟩))
   go_meet
   case rel => exact ⟨_, (true), zs, H', ⟨by first | omega | exact Nat.le_refl _⟩, ⟨zb HB⟩⟩
 case rest =>
  clear HC4
  try clear c1
  try clear p2
  try clear c6
  try clear p6
  try clear c8
  try clear c10
  try clear c10b0
  try clear c10b1
  try clear c11
  obtain ⟨kq, x25_3, rfl, HA, HJ3, HB⟩ := hcut
  cases kq with
  | zero => exact absurd HA.out (by simp [impl_NumWrite.j0])
  | succ kj3 =>
   have H := HA.out
   clear HA
   simp only [impl_NumWrite.j0] at H
   by_cases c13 : x25_3 = true
   ·subst c13
    rw [if_pos rfl] at H
    obtain rfl := Option.some.inj H
    go_wp2
    go_ret
    exact ⟨ze, zb HB⟩
   ·replace c13 := Bool.eq_false_iff.mpr c13
    subst c13
    rw [if_neg (show ¬ (false = true) by decide)] at H
    replace H := sp H
    rcases H with ⟨c14, H⟩ | ⟨c14, H⟩
    ·skip
     have c14b0 := eq_true c14
     have c14b1 := decide_eq_true c14
     clear c14
     obtain ⟨ji15, hji15⟩ : ∃ j_ : Int, (shl .i64 1 a1) = j_ := ⟨_, rfl⟩
     replace H : (if a0 < (wrap64 ((ji15) - 1)) then (some (strOfNums (([(Go.bits .or .i64 (shl .i64 a2 a1) a0) % 256] : List Int)))) else (impl_NumWrite.l0 kj3 (wrap64 (a0 - (wrap64 ((ji15) - 1)))) (([(Go.bits .or .i64 (shl .i64 a2 a1) (wrap64 ((ji15) - 1))) % 256] : List Int)))) = some r := by first | (rw [hji15] at H; exact H) | (simp only [hji15] at H ⊢; exact H)
     have hji15_ : (IntKind.i64.wrap (1 * 2 ^ min a1.toNat 64)) = ji15 := hji15
     have hji15z : a1 ≤ 64 → (IntKind.i64.wrap (1 * 2 ^ a1.toNat)) = ji15 := shl_small hji15
     have hji15u : (IntKind.i64.wrap (2 ^ min a1.toNat 64)) = ji15 := by have h_ := hji15_; rw [Int.one_mul] at h_; exact h_
     have hji15v : a1 ≤ 64 → (IntKind.i64.wrap (2 ^ a1.toNat)) = ji15 := fun hle_ => by have h_ := hji15z hle_; rw [Int.one_mul] at h_; exact h_
     have hji15y : (wrap64 (1 * 2 ^ min a1.toNat 64)) = ji15 := (i64_w _).symm.trans hji15_
     have hji15x : a1 ≤ 64 → (wrap64 (1 * 2 ^ a1.toNat)) = ji15 := fun h_ => (i64_w _).symm.trans (hji15z h_)
     by_cases c16 : a0 < (wrap64 ((ji15) - 1))
     ·rw [if_pos c16] at H
      have c16b0 := decide_eq_true c16
      clear c16
      have c17b0 := eq_true (of_decide_eq_true za : 0 ≤ a1)
      obtain ⟨ji18, hji18⟩ : ∃ j_ : Int, (shl .i64 a2 a1) = j_ := ⟨_, rfl⟩
      replace H : (some (strOfNums (([(Go.bits .or .i64 (ji18) a0) % 256] : List Int)))) = some r := by first | (rw [hji18] at H; exact H) | (simp only [hji18] at H ⊢; exact H)
      have hji18_ : (IntKind.i64.wrap (a2 * 2 ^ min a1.toNat 64)) = ji18 := hji18
      have hji18z : a1 ≤ 64 → (IntKind.i64.wrap (a2 * 2 ^ a1.toNat)) = ji18 := shl_small hji18
      have hji18y : (wrap64 (a2 * 2 ^ min a1.toNat 64)) = ji18 := (i64_w _).symm.trans hji18_
      have hji18x : a1 ≤ 64 → (wrap64 (a2 * 2 ^ a1.toNat)) = ji18 := fun h_ => (i64_w _).symm.trans (hji18z h_)
      obtain ⟨y286, hy286⟩ : ∃ y_ : List Int, y_ = (([(Go.bits .or .i64 (ji18) a0) % 256] : List Int)) := ⟨_, rfl⟩
      replace H : (some (strOfNums y286)) = some r := by first | (rw [hy286]; with_reducible exact H) | (have H2_ := (Option.bind_some _ _).symm.trans H; rw [hy286]; with_reducible exact H2_) | (have H2_ := (Option.bind_some _ _).symm.trans H; with_reducible exact H2_) | with_reducible exact H | (rw [hy286]; exact H) | exact H
      have Ny286 := Aside0.mk hy286
      clear hy286
      obtain rfl := Option.some.inj H
      go_wp2_with (first | ((with_reducible refine gd 38 rfl ?_); refine Kd.R_lit (Kd.int .u8) _ 5 ?hg (N := 38) ?hd (xs := ([(Go.bits .or .i64 (ji18) a0) % 256] : List Int)) (inner := [.int .u8 ((Go.bits .or .i64 (ji18) a0) % 256)]) (ok := fun _ => True) (okp := fun _ => True) ?hr ?hp (fun _ hk => hk) trivial (Below.refl _ _) (Nat.le_refl _) (by simp) ?_; (case hd => rfl); (case hg => rfl); (case hr => first | (go_simp; done) | (go_simp; rfl)); (case hp => exact (Reps.one (show Kd.M (Kd.int .u8) _ _ _ ((Go.bits .or .i64 (ji18) a0) % 256) [.int .u8 ((Go.bits .or .i64 (ji18) a0) % 256)] from rfl) (Reps.none _ _))); intro v287 w19 ho20 hb hg_ hnew_; clear hg_ hnew_; (first | rw [← Ny286.out] at ho20 | (simp only [Int.reduceToNat] at ho20; rw [← Ny286.out] at ho20)); have HO288 := Aside0.mk (Kd.R_lower ho20 (below_size (zb HB))); replace HB := Aside0.mk (below_step (zb HB) hb); clear hb ho20; have hcv21 := own_string (P := Try.prog) Try.underlying22 Try.underlying5 Try.underlying9 (Kd.own_of_R HO288.out)))
      go_ret
      exact ⟨by first | rfl | (simp [errW_none, errW_some] <;> rfl) | (simp only [← hji15, ← hji18]; first | rfl | (simp [errW_none, errW_some] <;> rfl)) | (simp [*, errW_none, errW_some] <;> rfl) | (simp [errW_none, errW_some]; exact (by intro l_; cases l_ <;> rfl : ∀ l_ : List UInt8, l_.isEmpty = !(l_ != [])) _), zb HB⟩
     ·rw [if_neg c16] at H
      have c16b0 := decide_eq_false c16
      clear c16
      have c22b0 := eq_true (of_decide_eq_true za : 0 ≤ a1)
      obtain ⟨ji23, hji23⟩ : ∃ j_ : Int, (shl .i64 a2 a1) = j_ := ⟨_, rfl⟩
      replace H : (impl_NumWrite.l0 kj3 (wrap64 (a0 - (wrap64 ((ji15) - 1)))) (([(Go.bits .or .i64 (ji23) (wrap64 ((ji15) - 1))) % 256] : List Int))) = some r := by first | (rw [hji23] at H; exact H) | (simp only [hji23] at H ⊢; exact H)
      have hji23_ : (IntKind.i64.wrap (a2 * 2 ^ min a1.toNat 64)) = ji23 := hji23
      have hji23z : a1 ≤ 64 → (IntKind.i64.wrap (a2 * 2 ^ a1.toNat)) = ji23 := shl_small hji23
      have hji23y : (wrap64 (a2 * 2 ^ min a1.toNat 64)) = ji23 := (i64_w _).symm.trans hji23_
      have hji23x : a1 ≤ 64 → (wrap64 (a2 * 2 ^ a1.toNat)) = ji23 := fun h_ => (i64_w _).symm.trans (hji23z h_)
      obtain ⟨y289, hy289⟩ : ∃ y_ : List Int, y_ = (([(Go.bits .or .i64 (ji23) (wrap64 ((ji15) - 1))) % 256] : List Int)) := ⟨_, rfl⟩
      replace H : (impl_NumWrite.l0 kj3 (wrap64 (a0 - (wrap64 ((ji15) - 1)))) y289) = some r := by first | (rw [hy289]; with_reducible exact H) | (have H2_ := (Option.bind_some _ _).symm.trans H; rw [hy289]; with_reducible exact H2_) | (have H2_ := (Option.bind_some _ _).symm.trans H; with_reducible exact H2_) | with_reducible exact H | (rw [hy289]; exact H) | exact H
      have Ny289 := Aside0.mk hy289
      clear hy289
      have H' := Aside0.mk H
      clear H
      go_wp2_with (first | ((with_reducible refine gd 46 rfl ?_); refine Kd.R_lit (Kd.int .u8) _ 5 ?hg (N := 46) ?hd (xs := ([(Go.bits .or .i64 (ji23) (wrap64 ((ji15) - 1))) % 256] : List Int)) (inner := [.int .u8 ((Go.bits .or .i64 (ji23) (wrap64 ((ji15) - 1))) % 256)]) (ok := fun _ => True) (okp := fun _ => True) ?hr ?hp (fun _ hk => hk) trivial (Below.refl _ _) (Nat.le_refl _) (by simp) ?_; (case hd => rfl); (case hg => rfl); (case hr => first | (go_simp; done) | (go_simp; rfl)); (case hp => exact (Reps.one (show Kd.M (Kd.int .u8) _ _ _ ((Go.bits .or .i64 (ji23) (wrap64 ((ji15) - 1))) % 256) [.int .u8 ((Go.bits .or .i64 (ji23) (wrap64 ((ji15) - 1))) % 256)] from rfl) (Reps.none _ _))); intro v290 w24 ho25 hb hg_ hnew_; clear hg_ hnew_; (first | rw [← Ny289.out] at ho25 | (simp only [Int.reduceToNat] at ho25; rw [← Ny289.out] at ho25)); have HO291 := Aside0.mk (Kd.R_lower ho25 (below_size (zb HB))); replace HB := Aside0.mk (below_step (zb HB) hb); clear hb ho25))
      go_loopg [0, 8] kj3 (fun kq v0 v8 w' => ∃ (x0_2 : Int) (x8_2 : List Int), v0 = .int .i64 x0_2 ∧ Aside0 (impl_NumWrite.l0 kq x0_2 x8_2 = some r) ∧ Aside0 (kq ≤ kj3) ∧ Aside0 (Kd.R (Kd.int .u8) 5 w' w.heap.size (fun _ => True) v8 x8_2) ∧ Aside0 (Below w.heap.size w w'))
      case atStart => exact ⟨(wrap64 (a0 - (wrap64 ((ji15) - 1)))), (y289), (by first | rfl | (simp; done) | (simp only [← hji15] <;> (first | rfl | simp)) | (simp [*]; done)), H', ⟨Nat.le_refl _⟩, ⟨by exact zr HO291⟩, ⟨zb HB⟩⟩
      case round =>
       clear H'
       try clear c1
       try clear c2
       try clear p2
       try clear hcv2
       try clear c6
       try clear p6
       try clear c8
       try clear c10
       try clear c10b0
       try clear c10b1
       try clear c11
       try clear c13
       try clear c14
       try clear c14b0
       try clear c14b1
       try clear c16
       try clear c16b0
       try clear c17
       try clear c17b0
       try clear hcv21
       try clear c22
       try clear c22b0
       try clear p2
       try clear p6
       obtain ⟨x0_2, x8_2, rfl, HA, HK2, HO_8, HB⟩ := hrel
       cases gk with
       | zero => exact absurd HA.out (by simp [impl_NumWrite.l0])
       | succ k2 =>
        have H := HA.out
        clear HA
        simp only [impl_NumWrite.l0] at H
        by_cases c26 : x0_2 > 127
        ·rw [if_pos c26] at H
         have c26b0 := decide_eq_true c26
         clear c26
         by_cases c27 : x8_2.length < 140737488355328
         ·rw [if_pos c27] at H
          have LMc27 := Aside0.mk c27
          clear c27
          obtain ⟨y292, hy292⟩ : ∃ y_ : List Int, y_ = (x8_2 ++ [(Go.bits .or .i64 128 (Go.bits .and .i64 x0_2 127)) % 256]) := ⟨_, rfl⟩
          replace H : (impl_NumWrite.l0 k2 (x0_2 / 128) y292) = some r := by first | (rw [hy292]; with_reducible exact H) | (have H2_ := (Option.bind_some _ _).symm.trans H; rw [hy292]; with_reducible exact H2_) | (have H2_ := (Option.bind_some _ _).symm.trans H; with_reducible exact H2_) | with_reducible exact H | (rw [hy292]; exact H) | exact H
          have Ny292 := Aside0.mk hy292
          clear hy292
          have H' := Aside0.mk H
          clear H
          go_wp2_with (first | ((with_reducible refine gate_builtin (b := .append) (xs := #[.tmp 54, .tmp 59]) rfl ?_); at_builtin; refine Kd.R_append (Kd.int .u8) (w0 := w) w.heap.size rfl (.tmp 54) (.tmp 59) 22 5 (.int .u8 0) 1 rfl Try.underlying22 info5 rfl (by decide) (by omega) u8 x8_2 ((Go.bits .or .i64 128 (Go.bits .and .i64 x0_2 127)) % 256) [.int .u8 ((Go.bits .or .i64 128 (Go.bits .and .i64 x0_2 127)) % 256)] (fun _ => True) (fun _ => False) rfl rfl ?aP (fun _ hk => hk.elim) ?aF ?aO ?aB ?aS ?aL ?_; (case aP => exact rfl); (case aB => exact (zb HB)); (case aF => exact (fun _ _ => trivial)); (case aO => exact (zr HO_8)); (case aS => exact (below_size (zb HB))); (case aL => have := LMc27.out; omega); intro v293 w28 ho hb hg hat; rw [← Ny292.out] at ho; replace HB := Aside0.mk (hb); have HO294 := Aside0.mk (ho); clear HO_8; clear ho hb hg hat))
          go_roundg k2
          case measure => have := HJ3.out; have := HK2.out; omega
          case rel => exact ⟨(x0_2 / 128), (y292), zs, H', ⟨by have := HJ3.out; have := HK2.out; omega⟩, ⟨by exact zr HO294⟩, ⟨zb HB⟩⟩
         ·rw [if_neg c27] at H
          exact absurd H (by simp)
        ·rw [if_neg c26] at H
         have c26b0 := decide_eq_false c26
         clear c26
         by_cases c29 : x8_2.length < 140737488355328
         ·rw [if_pos c29] at H
          have LMc29 := Aside0.mk c29
          clear c29
          obtain ⟨y295, hy295⟩ : ∃ y_ : List Int, y_ = (x8_2 ++ [(x0_2) % 256]) := ⟨_, rfl⟩
          replace H : (some (strOfNums y295)) = some r := by first | (rw [hy295]; with_reducible exact H) | (have H2_ := (Option.bind_some _ _).symm.trans H; rw [hy295]; with_reducible exact H2_) | (have H2_ := (Option.bind_some _ _).symm.trans H; with_reducible exact H2_) | with_reducible exact H | (rw [hy295]; exact H) | exact H
          have Ny295 := Aside0.mk hy295
          clear hy295
          obtain rfl := Option.some.inj H
          go_wp2_with (first | ((with_reducible refine gate_builtin (b := .append) (xs := #[.tmp 61, .tmp 64]) rfl ?_); at_builtin; refine Kd.R_append (Kd.int .u8) (w0 := w) w.heap.size rfl (.tmp 61) (.tmp 64) 22 5 (.int .u8 0) 1 rfl Try.underlying22 info5 rfl (by decide) (by omega) u8 x8_2 ((x0_2) % 256) [.int .u8 ((x0_2) % 256)] (fun _ => True) (fun _ => False) rfl rfl ?aP (fun _ hk => hk.elim) ?aF ?aO ?aB ?aS ?aL ?_; (case aP => exact rfl); (case aB => exact (zb HB)); (case aF => exact (fun _ _ => trivial)); (case aO => exact (zr HO_8)); (case aS => exact (below_size (zb HB))); (case aL => have := LMc29.out; omega); intro v296 w30 ho hb hg hat; rw [← Ny295.out] at ho; replace HB := Aside0.mk (hb); have HO297 := Aside0.mk (ho); clear HO_8; clear ho hb hg hat; have hcv31 := own_string (P := Try.prog) Try.underlying22 Try.underlying5 Try.underlying9 (Kd.own_of_R HO297.out)))
          go_ret
          exact ⟨by first | rfl | (simp [errW_none, errW_some] <;> rfl) | (simp only [← hji15, ← hji23]; first | rfl | (simp [errW_none, errW_some] <;> rfl)) | (simp [*, errW_none, errW_some] <;> rfl) | (simp [errW_none, errW_some]; exact (by intro l_; cases l_ <;> rfl : ∀ l_ : List UInt8, l_.isEmpty = !(l_ != [])) _), zb HB⟩
         ·rw [if_neg c29] at H
          exact absurd H (by simp)
    ·skip
     exact absurd H (by simp)

/-! ### impl_bitRow_add: function 165 -/
-- by hand
set_option maxHeartbeats 4000000 in
set_option maxRecDepth 100000 in
theorem add_calls (g : Nat) (n bits : Int) (xs : List Int) (v : Value) (w0 w : World) (hB : Below w0.heap.size w0 w) (hg : w.heap[g]? = some (.cells #[v] 196 (0, 0))) (hge : w0.heap.size ≤ g)
   (ho : Kd.R (Kd.int .u8) 5 w w0.heap.size (fun _ => True) v xs) (hn : 0 ≤ n) (hn1 : n < 1000) (hb0 : 0 ≤ bits) (hb1 : bits ≤ 8) (hl : xs.length ≤ 1000000) :
   Calls Try.prog 165 #[.pointer (some ⟨g, 0, none⟩), .int .i64 n, .int .i64 bits] w fun e w' => e = .returned (.tuple #[]) ∧ Below w0.heap.size w0 w' ∧
     ∃ v', w'.heap[g]? = some (.cells #[v'] 196 (0, 0)) ∧ Kd.R (Kd.int .u8) 5 w' w0.heap.size (fun _ => True) v' (xs ++ bitsL n bits.toNat) := by
  obtain ⟨i0, hi, hz0, hz1, hz2⟩ := info_parts info5
  have HG := Aside0.mk hg
  have HO := Aside0.mk ho
  have HB := Aside0.mk hB
  clear hg ho hB
  go_enter Try.func165, Try.ntmps165
  go_wp2
  go_loopg [2] (bits.toNat) (fun kq v2 w' => ∃ (x : Int) (v' : Value) (ys : List Int), v2 = .int .i64 x ∧ Aside0 (kq = (x + 1).toNat ∧ -1 ≤ x ∧ x < bits) ∧ Aside0 (w'.heap[g]? = some (.cells #[v'] 196 (0, 0))) ∧ Aside0 (Kd.R (Kd.int .u8) 5 w' w0.heap.size (fun _ => True) v' ys) ∧ Aside0 (ys ++ bitsL n (x+1).toNat = xs ++ bitsL n bits.toNat) ∧ Aside0 (ys.length ≤ xs.length + 8) ∧ Aside0 (Below w0.heap.size w0 w'))
  case atStart => exact ⟨bits - 1, v, xs, rfl, ⟨by omega, by omega, by omega⟩, HG, HO, ⟨by rw [show (bits - 1 + 1) = bits by omega]⟩, ⟨by omega⟩, HB⟩
  case round =>
    obtain ⟨x, v', ys, rfl, HK, HG', HO', HY, HL, HB'⟩ := hrel
    have hx0 := HK.out.2.1
    have hx1 := HK.out.2.2
    by_cases hx : 0 ≤ x
    · have hc : wr.cell? ⟨g, 0, none⟩ = some v' := (blk_cell HG'.out 0).trans rfl
      have hf := blk_frozen HG'.out 0
      have hown := Kd.own_of_R HO'.out
      have hlt := blk_lt HG'.out
      have hne := own_ne hown HG'.out (by decide)
      have hbs := HB'.out.size
      have hyl := HL.out
      have hk1 := HK.out.1
      cases gk with
      | zero => omega
      | succ k1 =>
      have HBit := Aside0.mk (bit_spelled n x.toNat hn hn1)
      generalize hbt : bitAt n x.toNat = bt at HBit
      have HBt := Aside0.mk hbt
      clear hbt hk1
      go_wp2
      go_region_law
        ((refine step_append_lies _ (by rfl) _ _ _ (by rfl) w0.heap.size 5 i0 _ 1 1 Try.underlying196 hi hz0 hz1 hz2 rfl (by omega) v' ys.length (encs (Value.int .u8) ys) (by rfl) ((hown.alloc _).drew)
            ⟨wr.heap.size, 0, none⟩ 1 1 [.int .u8 (IntKind.u8.wrap (Go.bits .and .i64 (n / 2 ^ x.toNat) 1))] (by rfl) (by rfl) (World.news_of_block (cs := #[.int .u8 (IntKind.u8.wrap (Go.bits .and .i64 (n / 2 ^ x.toNat) 1))]) (t := 5) (fr := (0, 0)) (heap_alloc_new wr _)) (by simp [Value.oneCell'])
            (by omega) (by unfold maxLen; omega) (by omega) (by simp; omega) (wr.heap.size + 1) (by simp) ?_; intro gg cap w1 hown1 hgrow hat hlt1
          have hh1 := blk_grown (blk_drew (blk_alloc HG'.out (.cells #[.int .u8 (IntKind.u8.wrap (Go.bits .and .i64 (n / 2 ^ x.toNat) 1))] 5))) hgrow hne
          have hc1 : w1.cell? ⟨g, 0, none⟩ = some v' := (blk_cell hh1 0).trans rfl
          have hf1 := blk_frozen hh1 0))
      all_goals
        have hgg := own_ne hown1 hh1 (by decide)
        have N1 := Aside0.mk (blk_put (cs' := #[.slice (some ⟨gg, 0, none⟩) (ys.length + 1) cap]) hh1 0 (.slice (some ⟨gg, 0, none⟩) (ys.length + 1) cap) rfl)
        have N2 := Aside0.mk (below_set (j := 0) (v := .slice (some ⟨gg, 0, none⟩) (ys.length + 1) cap) (Below.grown (below_drew (HB'.out.alloc hbs (.cells #[.int .u8 (IntKind.u8.wrap (Go.bits .and .i64 (n / 2 ^ x.toNat) 1))] 5))) hgrow (by simp; omega) (fun k hk => own_base hown k hk)) hge)
        have N3 := Aside0.mk (own_setCell hown1 (p := ⟨g, 0, none⟩) hgg (.slice (some ⟨gg, 0, none⟩) (ys.length + 1) cap))
        clear hgg hh1 hc1 hf1 hc hf hown hne hat hlt1 hown1 hgrow
        go_wp2
        go_roundg k1
        case measure => have := HK.out.1; omega
        case rel =>
          refine ⟨x - 1, _, ys ++ [bt], rfl, ⟨by have := HK.out.1; omega, by omega, by omega⟩, N1, ⟨?_⟩, ⟨?_⟩, ⟨?_⟩, N2⟩
          · rw [HBit.out] at N3
            refine Kd.R_of_own ?_ (fun _ _ => trivial)
            have := N3.out
            rw [List.length_append, encs_append]
            exact this
          · have h1 : (x + 1).toNat = x.toNat + 1 := by omega
            have h2 := HY.out
            rw [h1, bitsL, HBt.out] at h2
            rw [show (x - 1 + 1) = x by omega, List.append_assoc]
            exact h2
          · have h1 := congrArg List.length HY.out
            simp [bitsL_length] at h1 ⊢
            omega
    · go_wp2
      go_end0
      refine ⟨rfl, HB'.out, v', HG'.out, ?_⟩
      have e : (x + 1).toNat = 0 := by omega
      have hy := HY.out
      rw [e] at hy
      simp only [bitsL, List.append_nil] at hy
      rw [← hy]
      exact HO'.out

end Go.Proofs.Ytlpibelofcabhaa.PFnEndNew
