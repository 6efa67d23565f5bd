-- WRITTEN BY a turned print (wip/tools of the prover's repo)
import Derived.Test.YtdhahifdcoinhaaPFnHeadFixedx0
import Derived.Test.YtdhahifdcoinhaaPFnHeadFixedx2
import Derived.Test.YtdhahifdcoinhaaPFnHeadFixedx7
import Derived.Test.YtdhahifdcoinhaaPFnHeadFixedx8
namespace Go.Proofs.Ytdhahifdcoinhaa.PFnHeadFixed
open Go.RowKit Go.Proofs.YtdhahifdcoinhaaW.PrintWords Go.Proofs.YtdhahifdcoinhaaW.PrintLast Go.Proofs.YtdhahifdcoinhaaW.PrintMore Go.Proofs.Ytdhahifdcoinhaa.Lm
attribute [local go_sem] max2_int min2_int max_two min_two max_three min_three max_four min_four   -- for this text's walks alone
set_option linter.unusedVariables false
set_option linter.unusedSimpArgs false

/-! ### impl_Table_all: function 77 -/
-- thin
def impl_Table_all.f (l0_0 : List (S36)) (a0_1 : Int) : Option ((List (S36))) := (impl_TableFixed.f).bind fun t431 => ((Concat_Field.f (([t431, l0_0] : List (List (S36))))).bind fun t437 => (some t437))
set_option maxHeartbeats 8000000 in
set_option maxRecDepth 100000 in
theorem impl_Table_all.calls (P0_0_ : Nat → Prop) (A0_0 : Option Addr) (c0_0 : Nat) (l0_0 : List (S36)) (a0_1 : Int) (r : List (S36)) (w : World) (hs0_0 : Kd.V k36 36 w w.heap.size (fun k_ => P0_0_ k_) (.slice A0_0 l0_0.length c0_0) l0_0) (h : impl_Table_all.f l0_0 a0_1 = some r) :
  Calls Try.prog 77 #[.agg #[.slice A0_0 l0_0.length c0_0, .int .i64 a0_1]] w fun e w' => ∃ v0_ : Value, e = .returned (v0_) ∧ Kd.R k36 36 w' w.heap.size (fun k_ => (w.heap.size ≤ k_)) v0_ r ∧ Below w.heap.size w w' := by
 have hu25 := Try.underlying25
 have HO0_0 := Aside0.mk (show Kd.V k36 36 w w.heap.size (fun k_ => (P0_0_ k_ ∨ w.heap.size ≤ k_)) (.slice A0_0 l0_0.length c0_0) l0_0 from Kd.V_mono hs0_0 (fun k_ hk => .inl hk))
 have HB := Aside0.mk (Below.refl w.heap.size w)
 have H : ((impl_TableFixed.f).bind fun t431 => ((Concat_Field.f (([t431, l0_0] : List (List (S36))))).bind fun t437 => (some t437))) = some r := h
 clear h
 obtain ⟨t431, A2, H⟩ := ob H
 (try dsimp only at H)
 obtain ⟨y434, hy434⟩ : ∃ y_ : List (List (S36)), y_ = (([t431, l0_0] : List (List (S36)))) := ⟨_, rfl⟩
 replace H : ((Concat_Field.f y434).bind fun t437 => (some t437)) = some r := by first | (rw [hy434]; with_reducible exact H) | (have H2_ := (Option.bind_some _ _).symm.trans H; rw [hy434]; with_reducible exact H2_) | (have H2_ := (Option.bind_some _ _).symm.trans H; with_reducible exact H2_) | with_reducible exact H | (rw [hy434]; exact H) | exact H
 have Ny434 := Aside0.mk hy434
 clear hy434
 obtain ⟨t437, A3, H⟩ := ob H
 (try dsimp only at H)
 obtain rfl := Option.some.inj H
 go_enter Try.func77, Try.ntmps77
 try go_wp2_with (first | ((with_reducible refine gd 1 rfl ?_); refine bx (N := 1) (cs := #[.slice A0_0 l0_0.length c0_0, .int .i64 a0_1]) (t := 25) ?_; intro gb430 hg w4 hbox hb; replace HO0_0 := Aside0.mk (Kd.V_below (Kd.V_elderB (zV HO0_0) gb430 (Nat.le_of_eq hg.symm)) hb); have BK430 := Aside0.mk (hbox); have GW430 := gw HB hg; have GE430 := GW430; replace HB := Aside0.mk (below_step (zb HB) hb); clear hb hbox hg))
 replace HO0_0 := Aside0.mk (Kd.V_drew HO0_0.out)
 replace BK430 := Aside0.mk (blk_drew BK430.out)
 replace HB := Aside0.mk (below_drew1 HB.out)
 refine st 6 (b2 BK430) (fun hHeld => ?_)
 generalize w4.drew = w5 at HO0_0 BK430 HB hHeld ⊢
 refine pu 1 (some 4) (bm 6 2) rfl rfl ?_
 refine tk 2 (some 5) (bm 6 6) rfl rfl hHeld ?_
 refine one_ (i := 0) (N := some 3) (bm 6 7) rfl rfl (by kernel_rfl) (by decide) (fun K hK => ?_)
 refine gs Try.func34 #[] ?_
 with_reducible refine (impl_TableFixed.calls  t431 _ A2.out).mono ?_
 rintro e w6 ⟨v432, rfl, ho0, hb⟩
 refine ⟨_, rfl, ?_⟩
 replace HO0_0 := Aside0.mk (Kd.V_elder' (zV HO0_0) (Kd.R_base ho0) hb)
 have HO433 := Aside0.mk (Kd.R_lower (Kd.R_newM (M := fun k_ => (w.heap.size ≤ k_)) ho0 (below_size (zb HB)) (fun k_ h_ => h_)) (below_size (zb HB)))
 replace BK430 := kb BK430 hb
 replace HB := Aside0.mk (below_step (zb HB) hb)
 (try clear hb)
 (try clear ho0)
 obtain ⟨Ao7, co7, eo7⟩ := Kd.R_slice HO433.out
 (first | subst eo7 | (injection eo7 with f1_ f2_ f3_; have f4_ := f1_.symm; have f5_ := f3_.symm; clear f1_ f2_ f3_; subst f4_; subst f5_))
 refine hK.out _ _ (b2 BK430) (fun hHeld => ?_)
 clear hK K
 refine nm ?_
 refine one_ (i := 3) (N := some 6) (bm 6 15) rfl rfl (by kernel_rfl) (by decide) (fun K hK => ?_)
 refine Kd.N_lit_step (Kd.slice 36 k36) _ 23 ?hg (N' := 6) ?hd (xs := ([t431, l0_0] : List (List (S36)))) (inner := [.slice Ao7 t431.length co7, .slice A0_0 l0_0.length c0_0]) (ok := (fun k_ => (P0_0_ k_ ∨ w.heap.size ≤ k_) ∧ k_ ≠ gb430)) (okp := (fun k_ => (P0_0_ k_ ∨ w.heap.size ≤ k_) ∧ k_ ≠ gb430)) ?hr ?hp (fun _ hk => hk) ((show ∀ k_, w6.heap.size ≤ k_ → (fun k_ => (P0_0_ k_ ∨ w.heap.size ≤ k_) ∧ k_ ≠ gb430) k_ from fun k_ hk => ⟨(.inr (Nat.le_trans (below_size (zb HB)) hk)), Kd.freshB (zk BK430) k_ hk⟩) _ (Nat.le_refl _)) (Below.refl _ _) (Nat.le_refl _) (by simp) ?_; (case hd => rfl); (case hg => rfl); (case hr => first | (go_simp; done) | (go_simp; rfl)); (case hp => exact (Reps.one (show Kd.FK (Kd.slice 36 k36) _ _ t431 [.slice Ao7 t431.length co7] from (Kd.FK_slice_mk (Kd.R_reads' (Kd.R_mono (ok' := (fun k_ => (P0_0_ k_ ∨ w.heap.size ≤ k_) ∧ k_ ≠ gb430)) (Kd.R_types (HO433.out) BK430.out (by decide)) (fun k_ hk => ⟨(.inr (hk.1.1)), hk.2⟩))).2.1 (Kd.R_F (Kd.R_mono (ok' := (fun k_ => (P0_0_ k_ ∨ w.heap.size ≤ k_) ∧ k_ ≠ gb430)) (Kd.R_types (HO433.out) BK430.out (by decide)) (fun k_ hk => ⟨(.inr (hk.1.1)), hk.2⟩))))) (Reps.one (show Kd.FK (Kd.slice 36 k36) _ _ l0_0 [.slice A0_0 l0_0.length c0_0] from (Kd.FK_slice_mk (Kd.V_reads' (Kd.V_mono (ok' := (fun k_ => (P0_0_ k_ ∨ w.heap.size ≤ k_) ∧ k_ ≠ gb430)) (HO0_0.out) (fun k_ hk => ⟨hk.1.1, hk.1.2⟩))).2.1 (Kd.V_F (Kd.V_mono (ok' := (fun k_ => (P0_0_ k_ ∨ w.heap.size ≤ k_) ∧ k_ ≠ gb430)) (HO0_0.out) (fun k_ hk => ⟨hk.1.1, hk.1.2⟩))))) (Reps.none _ _))))
 intro v435 w8 ho9 hb hg_ hnew_
 clear hg_ hnew_
 (first | rw [← Ny434.out] at ho9 | (simp only [Int.reduceToNat] at ho9; rw [← Ny434.out] at ho9))
 replace HO0_0 := Aside0.mk (Kd.V_elder' (zV HO0_0) (Kd.N_base ho9) hb)
 have HO436 := Aside0.mk (Kd.N_lower ho9 (below_size (zb HB)))
 replace BK430 := kb BK430 hb
 replace HB := Aside0.mk (below_step (zb HB) hb)
 clear HO433
 clear hb ho9
 obtain ⟨Ao10, co10, eo10⟩ := Kd.N_slice HO436.out
 (first | subst eo10 | (injection eo10 with f1_ f2_ f3_; have f4_ := f1_.symm; have f5_ := f3_.symm; clear f1_ f2_ f3_; subst f4_; subst f5_))
 refine hK.out _ _ (b2 BK430) (fun hHeld => ?_)
 clear hK K
 refine nm ?_
 refine one_ (i := 4) (N := some 7) (bm 6 31) rfl rfl (by kernel_rfl) (by decide) (fun K hK => ?_)
 refine gs Try.func75 #[.slice Ao10 y434.length co10] ?_
 with_reducible refine (Concat_Field.calls _ _ y434 t437 _ ?side1 ?side2 A3.out).mono ?_
 (case side1 => exact zc (Kd.N_reads' HO436.out).2.2)
 (case side2 => exact (Kd.N_reads' HO436.out).2.1)
 rintro e w11 ⟨v438, rfl, ho0, hb⟩
 refine ⟨_, rfl, ?_⟩
 replace HO0_0 := Aside0.mk (Kd.V_elder' (zV HO0_0) (Kd.R_base ho0) hb)
 replace HO436 := Aside0.mk (Kd.N_elder' (zN HO436) (Kd.R_base ho0) hb)
 have HO439 := Aside0.mk (Kd.R_lower (Kd.R_newM (M := fun k_ => (w.heap.size ≤ k_)) ho0 (below_size (zb HB)) (fun k_ h_ => h_)) (below_size (zb HB)))
 replace BK430 := kb BK430 hb
 replace HB := Aside0.mk (below_step (zb HB) hb)
 (try clear hb)
 (try clear ho0)
 refine hK.out _ _ (b2 BK430) (fun hHeld => ?_)
 clear hK K
 refine nm ?_
 refine pu 5 (some 2) (bm 6 63) rfl rfl ?_
 refine done_ (by kernel_rfl) ?_
 try go_wp2
 go_ret
 exact ⟨_, ze, zq (Kd.R_mono HO439.out (fun _ hk => hk.1)), zb HB⟩

/-! ### impl_Table_find: function 62 -/
-- by hand
set_option maxHeartbeats 4000000 in
set_option maxRecDepth 100000 in
theorem find1_calls (a b : ByteArray) (f2 : Bool) (x : S36) (W : World) (gb : Nat) (hbk : W.heap[gb]? = some (.cells #[.string a, .string b, .bool f2] 36 (0, 0))) :
    Calls Try.prog 78 #[.agg #[.string x.f0, .string x.f1, .bool x.f2], .pointer (some ⟨gb, 0, none⟩)] W fun e w' => e = .returned (.bool (x.f0.toList == a.toList && x.f1.toList == b.toList)) ∧ Below W.heap.size W w' := by
  have hu36 := Try.underlying36
  have HBK := Aside0.mk hbk
  have hlt := blk_lt hbk
  clear hbk
  by_cases h1 : x.f0.toList == a.toList
  · go_enter Try.func78, Try.ntmps78
    go_wp2_with (first | ((with_reducible refine gd 2 rfl ?_); refine bx (N := 2) (cs := #[.string x.f0, .string x.f1, .bool x.f2]) (t := 36) ?_; intro gb2 hg w2 hbox hb; have BK2 := Aside0.mk hbox; have BK := Aside0.mk (blk_below HBK.out hb); have HB := Aside0.mk hb; have hne : gb2 ≠ gb := (by rw [hg]; omega); clear hg hbox hb; have c0 := blk_cell BK2.out 0; have c1 := blk_cell BK2.out 1; have d0 := blk_cell BK.out 0; have d1 := blk_cell BK.out 1; simp at c0 c1 d0 d1))
    go_ret
    exact ⟨by simp [h1], HB.out⟩
  · go_enter Try.func78, Try.ntmps78
    go_wp2_with (first | ((with_reducible refine gd 2 rfl ?_); refine bx (N := 2) (cs := #[.string x.f0, .string x.f1, .bool x.f2]) (t := 36) ?_; intro gb2 hg w2 hbox hb; have BK2 := Aside0.mk hbox; have BK := Aside0.mk (blk_below HBK.out hb); have HB := Aside0.mk hb; have hne : gb2 ≠ gb := (by rw [hg]; omega); clear hg hbox hb; have c0 := blk_cell BK2.out 0; have c1 := blk_cell BK2.out 1; have d0 := blk_cell BK.out 0; have d1 := blk_cell BK.out 1; simp at c0 c1 d0 d1))
    go_ret
    exact ⟨by simp [h1], HB.out⟩
set_option maxHeartbeats 4000000 in
set_option maxRecDepth 100000 in
theorem find2_calls (a b : ByteArray) (f2 : Bool) (x : S36) (W : World) (gb : Nat) (hbk : W.heap[gb]? = some (.cells #[.string a, .string b, .bool f2] 36 (0, 0))) :
    Calls Try.prog 79 #[.agg #[.string x.f0, .string x.f1, .bool x.f2], .pointer (some ⟨gb, 0, none⟩)] W fun e w' => e = .returned (.bool (x.f0.toList == a.toList)) ∧ Below W.heap.size W w' := by
  have hu36 := Try.underlying36
  have HBK := Aside0.mk hbk
  have hlt := blk_lt hbk
  clear hbk
  go_enter Try.func79, Try.ntmps79
  go_wp2_with (first | ((with_reducible refine gd 2 rfl ?_); refine bx (N := 2) (cs := #[.string x.f0, .string x.f1, .bool x.f2]) (t := 36) ?_; intro gb2 hg w2 hbox hb; have BK2 := Aside0.mk hbox; have BK := Aside0.mk (blk_below HBK.out hb); have HB := Aside0.mk hb; have hne : gb2 ≠ gb := (by rw [hg]; omega); clear hg hbox hb; have c0 := blk_cell BK2.out 0; have c1 := blk_cell BK2.out 1; have d0 := blk_cell BK.out 0; have d1 := blk_cell BK.out 1; simp at c0 c1 d0 d1))
  go_ret
  exact ⟨rfl, HB.out⟩
theorem find1_enters : ∀ args w, (callFunc 78 args).run Try.prog w = .ok (.enter 78 args) w := enters_of Try.func78 (by kernel_rfl) rfl
theorem find2_enters : ∀ args w, (callFunc 79 args).run Try.prog w = .ok (.enter 79 args) w := enters_of Try.func79 (by kernel_rfl) rfl
theorem find1_pred (a b : ByteArray) (f2 : Bool) (gb : Nat) (W : World) (hbk : W.heap[gb]? = some (.cells #[.string a, .string b, .bool f2] 36 (0, 0))) :
    PredIs Try.prog 78 #[.pointer (some ⟨gb, 0, none⟩)] (fun x => some (x.f0.toList == a.toList && x.f1.toList == b.toList)) W := by
  intro W1 x r hW h
  obtain rfl := Option.some.inj h
  exact (calls_of_args (by simp) (find1_calls a b f2 x W1 gb (blk_below hbk hW))).mono fun e w2 h2 => ⟨h2.1, below_step hW h2.2⟩
theorem find2_pred (a b : ByteArray) (f2 : Bool) (gb : Nat) (W : World) (hbk : W.heap[gb]? = some (.cells #[.string a, .string b, .bool f2] 36 (0, 0))) :
    PredIs Try.prog 79 #[.pointer (some ⟨gb, 0, none⟩)] (fun x => some (x.f0.toList == a.toList)) W := by
  intro W1 x r hW h
  obtain rfl := Option.some.inj h
  exact (calls_of_args (by simp) (find2_calls a b f2 x W1 gb (blk_below hbk hW))).mono fun e w2 h2 => ⟨h2.1, below_step hW h2.2⟩
def impl_Table_find.f (l0_0 : List (S36)) (a0_1 : Int) (a1_0 a1_1 : ByteArray) (a1_2 : Bool) : Option (Int × Bool) :=
  (impl_Table_all.f l0_0 a0_1).bind fun l => if l.length ≤ 1000000000 then (idxFrom (fun x => some (x.f0.toList == a1_0.toList && x.f1.toList == a1_1.toList)) l 0).bind fun i => if i ≥ 0 then some (wrap64 (i + 1), true) else (idxFrom (fun x => some (x.f0.toList == a1_0.toList)) l 0).bind fun j => some (wrap64 (j + 1), false) else none
set_option maxHeartbeats 4000000 in
set_option maxRecDepth 100000 in
theorem impl_Table_find.calls (A0_0 : Option Addr) (c0_0 : Nat) (l0_0 : List (S36)) (a0_1 : Int) (a1_0 a1_1 : ByteArray) (a1_2 : Bool) (r1 : Int) (r2 : Bool) (w : World) (hr0_0 : Kd.C k36 w A0_0 l0_0.length l0_0) (hc0_0 : l0_0.length ≤ c0_0) (h : impl_Table_find.f l0_0 a0_1 a1_0 a1_1 a1_2 = some (r1, r2)) :
    Calls Try.prog 62 #[.agg #[.slice A0_0 l0_0.length c0_0, .int .i64 a0_1], .agg #[.string a1_0, .string a1_1, .bool a1_2]] w fun e w' => e = .returned (.tuple #[.int .i64 r1, .bool r2]) ∧ Below w.heap.size w w' := by
  unfold impl_Table_find.f at h
  obtain ⟨l, hl, h⟩ := Option.bind_eq_some_iff.1 h
  split at h
  case isFalse => cases h
  rename_i hlen
  obtain ⟨i, hi, h⟩ := Option.bind_eq_some_iff.1 h
  have HV := Aside0.mk (Kd.V_mk (e := 36) (base := w.heap.size) hc0_0 (Kd.C_F (Kd.heap_iso _ (Kd.heap_pair Kd.heap_string (Kd.heap_pair Kd.heap_string Kd.heap_bool))) hr0_0))
  have HL := Aside0.mk hl
  have HI := Aside0.mk hi
  have H := Aside0.mk h
  have HLEN := Aside0.mk hlen
  clear hr0_0 hc0_0 hl hi h hlen
  have HB := Aside0.mk (Below.refl w.heap.size w)
  have hu36 := Try.underlying36
  have hu25 := Try.underlying25
  go_enter Try.func62, Try.ntmps62
  by_cases hi : i ≥ 0
  · have H1 := H.out
    rw [if_pos hi] at H1
    simp only [Option.some.injEq, Prod.mk.injEq] at H1
    obtain ⟨rfl, rfl⟩ := H1
    have c1 : decide (0 ≤ i) = true := decide_eq_true hi
    clear H hi
    go_wp2_with (first
      | ((with_reducible refine gd 2 rfl ?_); refine bx (N := 2) (cs := #[.slice A0_0 l0_0.length c0_0, .int .i64 a0_1]) (t := 25) ?_; intro gb2 hg w2 hbox hb; have BK2 := Aside0.mk hbox; replace HB := Aside0.mk (below_step HB.out hb); clear hg hbox hb; have c20 := blk_cell BK2.out 0; have c21 := blk_cell BK2.out 1; simp at c20 c21)
      | ((with_reducible refine gd 3 rfl ?_); refine bx (N := 3) (cs := #[.string a1_0, .string a1_1, .bool a1_2]) (t := 36) ?_; intro gb3 hg w3 hbox hb; have BK3 := Aside0.mk hbox; replace BK2 := Aside0.mk (blk_below BK2.out hb); replace HB := Aside0.mk (below_step HB.out hb); clear c20 c21; have c20 := blk_cell BK2.out 0; have c21 := blk_cell BK2.out 1; simp at c20 c21; clear hg hbox hb)
      | ((with_reducible refine gq 77 rfl ?_); refine gl (some 9) Try.func77 #[.agg #[.slice A0_0 l0_0.length c0_0, .int .i64 a0_1]] ?_; (with_reducible refine (impl_Table_all.calls (fun k => k < w.heap.size) _ _ l0_0 a0_1 l _ ?side1 HL.out).mono ?_); (case side1 => exact Kd.V_below HV.out HB.out); rintro e w4 ⟨v0, rfl, ho, hb⟩; refine ⟨_, rfl, ?_⟩; obtain ⟨A1, c1, rfl⟩ := Kd.R_slice ho; have HC := Aside0.mk (Kd.R_reads' ho).2.2; have HCC := Aside0.mk (Kd.R_reads' ho).2.1; replace BK3 := Aside0.mk (blk_below BK3.out hb); replace HB := Aside0.mk (below_step HB.out hb); clear ho hb c20 c21)
      | ((with_reducible refine gd 12 rfl ?_); (with_reducible refine gq 71 rfl ?_); refine gl (some 12) Try.func71 #[.slice A1 l.length c1, .func (.func 78) #[] #[.pointer (some ⟨gb3, 0, none⟩)]] ?_; (with_reducible refine (IndexFunc_calls 78 #[.pointer (some ⟨gb3, 0, none⟩)] (fun x => some (x.f0.toList == a1_0.toList && x.f1.toList == a1_1.toList)) find1_enters A1 c1 l i _ HC.out HCC.out ?hp HI.out HLEN.out).mono ?_); (case hp => exact find1_pred a1_0 a1_1 a1_2 gb3 _ BK3.out); rintro e w5 ⟨rfl, hb⟩; refine ⟨_, rfl, ?_⟩; replace BK3 := Aside0.mk (blk_below BK3.out hb); replace HC := Aside0.mk (Kd.C_below HC.out hb); replace HB := Aside0.mk (below_step HB.out hb); clear hb))
    go_ret2
    exact ⟨rfl, HB.out⟩
  · have H1 := H.out
    rw [if_neg hi] at H1
    obtain ⟨j, hj, H1⟩ := Option.bind_eq_some_iff.1 H1
    simp only [Option.some.injEq, Prod.mk.injEq] at H1
    obtain ⟨rfl, rfl⟩ := H1
    have HJ := Aside0.mk hj
    have c1 : decide (0 ≤ i) = false := decide_eq_false hi
    clear H hi hj
    go_wp2_with (first
      | ((with_reducible refine gd 2 rfl ?_); refine bx (N := 2) (cs := #[.slice A0_0 l0_0.length c0_0, .int .i64 a0_1]) (t := 25) ?_; intro gb2 hg w2 hbox hb; have BK2 := Aside0.mk hbox; replace HB := Aside0.mk (below_step HB.out hb); clear hg hbox hb; have c20 := blk_cell BK2.out 0; have c21 := blk_cell BK2.out 1; simp at c20 c21)
      | ((with_reducible refine gd 3 rfl ?_); refine bx (N := 3) (cs := #[.string a1_0, .string a1_1, .bool a1_2]) (t := 36) ?_; intro gb3 hg w3 hbox hb; have BK3 := Aside0.mk hbox; replace BK2 := Aside0.mk (blk_below BK2.out hb); replace HB := Aside0.mk (below_step HB.out hb); clear c20 c21; have c20 := blk_cell BK2.out 0; have c21 := blk_cell BK2.out 1; simp at c20 c21; clear hg hbox hb)
      | ((with_reducible refine gq 77 rfl ?_); refine gl (some 9) Try.func77 #[.agg #[.slice A0_0 l0_0.length c0_0, .int .i64 a0_1]] ?_; (with_reducible refine (impl_Table_all.calls (fun k => k < w.heap.size) _ _ l0_0 a0_1 l _ ?side1 HL.out).mono ?_); (case side1 => exact Kd.V_below HV.out HB.out); rintro e w4 ⟨v0, rfl, ho, hb⟩; refine ⟨_, rfl, ?_⟩; obtain ⟨A1, c1, rfl⟩ := Kd.R_slice ho; have HC := Aside0.mk (Kd.R_reads' ho).2.2; have HCC := Aside0.mk (Kd.R_reads' ho).2.1; replace BK3 := Aside0.mk (blk_below BK3.out hb); replace HB := Aside0.mk (below_step HB.out hb); clear ho hb c20 c21)
      | ((with_reducible refine gd 12 rfl ?_); (with_reducible refine gq 71 rfl ?_); refine gl (some 12) Try.func71 #[.slice A1 l.length c1, .func (.func 78) #[] #[.pointer (some ⟨gb3, 0, none⟩)]] ?_; (with_reducible refine (IndexFunc_calls 78 #[.pointer (some ⟨gb3, 0, none⟩)] (fun x => some (x.f0.toList == a1_0.toList && x.f1.toList == a1_1.toList)) find1_enters A1 c1 l i _ HC.out HCC.out ?hp HI.out HLEN.out).mono ?_); (case hp => exact find1_pred a1_0 a1_1 a1_2 gb3 _ BK3.out); rintro e w5 ⟨rfl, hb⟩; refine ⟨_, rfl, ?_⟩; replace BK3 := Aside0.mk (blk_below BK3.out hb); replace HC := Aside0.mk (Kd.C_below HC.out hb); replace HB := Aside0.mk (below_step HB.out hb); clear hb)
      | ((with_reducible refine gd 19 rfl ?_); (with_reducible refine gq 71 rfl ?_); refine gl (some 19) Try.func71 #[.slice A1 l.length c1, .func (.func 79) #[] #[.pointer (some ⟨gb3, 0, none⟩)]] ?_; (with_reducible refine (IndexFunc_calls 79 #[.pointer (some ⟨gb3, 0, none⟩)] (fun x => some (x.f0.toList == a1_0.toList)) find2_enters A1 c1 l j _ HC.out HCC.out ?hp HJ.out HLEN.out).mono ?_); (case hp => exact find2_pred a1_0 a1_1 a1_2 gb3 _ BK3.out); rintro e w5 ⟨rfl, hb⟩; refine ⟨_, rfl, ?_⟩; replace BK3 := Aside0.mk (blk_below BK3.out hb); replace HC := Aside0.mk (Kd.C_below HC.out hb); replace HB := Aside0.mk (below_step HB.out hb); clear hb))
    go_ret2
    exact ⟨rfl, HB.out⟩

/-! ### impl_NumWrite: function 83 -/
-- thin
mutual
def impl_NumWrite.j0 : Nat → Int → Int → Int → Bool → Option (ByteArray)
 | 0, _, _, _, _ => none
 | k + 1, x0, x1, x2, x25 => if x25 = true then (some (⟨#[]⟩ : ByteArray)) else (if 0 ≤ x1 then (if x0 < (wrap64 ((shl .i64 1 x1) - 1)) then (some (strOfNums (([(Go.bits .or .i64 (shl .i64 x2 x1) x0) % 256] : List Int)))) else (impl_NumWrite.l0 k (wrap64 (x0 - (wrap64 ((shl .i64 1 x1) - 1)))) (([(Go.bits .or .i64 (shl .i64 x2 x1) (wrap64 ((shl .i64 1 x1) - 1))) % 256] : List Int)))) else (none))
def impl_NumWrite.l0 : Nat → Int → List Int → Option (ByteArray)
 | 0, _, _ => none
 | k + 1, x0, x8 => if x0 > 127 then (if x8.length < 140737488355328 then (impl_NumWrite.l0 k (x0 / 128) (x8 ++ [(Go.bits .or .i64 128 (Go.bits .and .i64 x0 127)) % 256])) else (none)) else (if x8.length < 140737488355328 then (some (strOfNums (x8 ++ [(x0) % 256]))) else (none))
end
def impl_NumWrite.f (k : Nat) (a0 : Int) (a1 : Int) (a2 : Int) : Option (ByteArray) := (impl_in.f a0 0 9999).bind fun t440 => (if t440 = true then ((impl_in.f a1 3 7).bind fun t441 => (if t441 = true then (if 0 ≤ (wrap64 (8 - a1)) then ((impl_in.f a2 0 (wrap64 ((shl .i64 1 (wrap64 (8 - a1))) - 1))).bind fun t442 => (impl_NumWrite.j0 k a0 a1 a2 (!t442))) else (none)) else (impl_NumWrite.j0 k a0 a1 a2 true))) else (impl_NumWrite.j0 k a0 a1 a2 true))
theorem impl_NumWrite.mono_l : ∀ k, (∀ y0 y1 y2 y3, LeO (impl_NumWrite.j0 k y0 y1 y2 y3) (impl_NumWrite.j0 (k + 1) y0 y1 y2 y3)) ∧ (∀ y0 y1, LeO (impl_NumWrite.l0 k y0 y1) (impl_NumWrite.l0 (k + 1) y0 y1))
 | 0 => ⟨fun _ _ _ _ r h => by simp [impl_NumWrite.j0] at h, fun _ _ r h => by simp [impl_NumWrite.l0] at h⟩
 | k + 1 => by
  obtain ⟨ih0, ih1⟩ := impl_NumWrite.mono_l k
  refine ⟨?_, ?_⟩
  ·intro y0 y1 y2 y3
   unfold impl_NumWrite.j0
   exact zm
  ·intro y0 y1
   unfold impl_NumWrite.l0
   exact zm
theorem impl_NumWrite.mono : ∀ a0 a1 a2 k, LeO (impl_NumWrite.f k a0 a1 a2) (impl_NumWrite.f (k + 1) a0 a1 a2) := by
 intro a0 a1 a2 k
 obtain ⟨ih0, ih1⟩ := impl_NumWrite.mono_l k
 unfold impl_NumWrite.f
 exact zm
set_option maxHeartbeats 8000000 in
set_option maxRecDepth 100000 in
theorem impl_NumWrite.calls (k : Nat) (a0 : Int) (a1 : Int) (a2 : Int) (r : ByteArray) (w : World) (h : impl_NumWrite.f k a0 a1 a2 = some r) :
  Calls Try.prog 83 #[.int .i64 a0, .int .i64 a1, .int .i64 a2] w fun e w' => e = .returned (.string r) ∧ Below w.heap.size w w' := by
 have HB := Aside0.mk (Below.refl w.heap.size w)
 have H : ((impl_in.f a0 0 9999).bind fun t440 => (if t440 = true then ((impl_in.f a1 3 7).bind fun t441 => (if t441 = true then (if 0 ≤ (wrap64 (8 - a1)) then ((impl_in.f a2 0 (wrap64 ((shl .i64 1 (wrap64 (8 - a1))) - 1))).bind fun t442 => (impl_NumWrite.j0 k a0 a1 a2 (!t442))) else (none)) else (impl_NumWrite.j0 k a0 a1 a2 true))) else (impl_NumWrite.j0 k a0 a1 a2 true))) = some r := h
 clear h
 have HC4 := Aside0.mk H
 clear H
 go_enter Try.func83, Try.ntmps83
 go_upto_region 1 with (fail)
 go_cut [25] (fun v25 wc => ∃ (kq : Nat) (x25_3 : Bool), v25 = .bool x25_3 ∧ Aside0 (impl_NumWrite.j0 kq a0 a1 a2 x25_3 = some r) ∧ Aside0 (kq ≤ k) ∧ Aside0 (Below w.heap.size w wc))
 case first =>
  have H := HC4.out
  clear HC4
  obtain ⟨t440, A5, H⟩ := ob H
  (try dsimp only at H)
  by_cases c6 : t440 = true
  ·subst c6
   rw [if_pos rfl] at H
   obtain ⟨t441, A7, H⟩ := ob H
   (try dsimp only at H)
   by_cases c8 : t441 = true
   ·subst c8
    rw [if_pos rfl] at H
    obtain ⟨ji9, hji9⟩ : ∃ j_ : Int, (wrap64 (8 - a1)) = j_ := ⟨_, rfl⟩
    replace H : (if 0 ≤ (ji9) then ((impl_in.f a2 0 (wrap64 ((shl .i64 1 (ji9)) - 1))).bind fun t442 => (impl_NumWrite.j0 k a0 a1 a2 (!t442))) else (none)) = some r := by first | (rw [hji9] at H; exact H) | (simp only [hji9] at H ⊢; exact H)
    (try rw [hji9] at A5)
    (try rw [hji9] at A7)
    have hji9w : (IntKind.i64.wrap (8 - a1)) = ji9 := (i64_w _).trans hji9
    replace H := sp H
    rcases H with ⟨c10, H⟩ | ⟨c10, H⟩
    ·skip
     have c10b0 := eq_true c10
     have c10b1 := decide_eq_true c10
     clear c10
     obtain ⟨ji11, hji11⟩ : ∃ j_ : Int, (shl .i64 1 (ji9)) = j_ := ⟨_, rfl⟩
     replace H : ((impl_in.f a2 0 (wrap64 ((ji11) - 1))).bind fun t442 => (impl_NumWrite.j0 k a0 a1 a2 (!t442))) = some r := by first | (rw [hji11] at H; exact H) | (simp only [hji11] at H ⊢; exact H)
     (try rw [hji11] at A5)
     (try rw [hji11] at A7)
     have hji11_ : (IntKind.i64.wrap (1 * 2 ^ min (ji9).toNat 64)) = ji11 := hji11
     have hji11z : (ji9) ≤ 64 → (IntKind.i64.wrap (1 * 2 ^ (ji9).toNat)) = ji11 := shl_small hji11
     have hji11u : (IntKind.i64.wrap (2 ^ min (ji9).toNat 64)) = ji11 := by have h_ := hji11_; rw [Int.one_mul] at h_; exact h_
     have hji11v : (ji9) ≤ 64 → (IntKind.i64.wrap (2 ^ (ji9).toNat)) = ji11 := fun hle_ => by have h_ := hji11z hle_; rw [Int.one_mul] at h_; exact h_
     have hji11y : (wrap64 (1 * 2 ^ min (ji9).toNat 64)) = ji11 := (i64_w _).symm.trans hji11_
     have hji11x : (ji9) ≤ 64 → (wrap64 (1 * 2 ^ (ji9).toNat)) = ji11 := fun h_ => (i64_w _).symm.trans (hji11z h_)
     obtain ⟨t442, A12, H⟩ := ob H
     (try dsimp only at H)
     have H' := Aside0.mk H
     clear H
     go_wp2_with (first | ((with_reducible refine gq 48 rfl ?_); refine gl (some 10) Try.func48 #[.int .i64 a0, .int .i64 0, .int .i64 9999] ?_; (with_reducible refine (impl_in.calls a0 0 9999 true _ A5.out).mono ?_); rintro e w' ⟨rfl, ⟨nd, rfl⟩⟩; refine ⟨_, rfl, ?_⟩) | (go_at_call 48; (with_reducible refine (impl_in.calls a1 3 7 true _ A7.out).mono ?_); rintro e w' ⟨rfl, ⟨nd, rfl⟩⟩) | (go_at_call 48; (with_reducible refine (impl_in.calls a2 0 (wrap64 ((ji11) - 1)) t442 _ A12.out).mono ?_); rintro e w' ⟨rfl, ⟨nd, rfl⟩⟩))
     go_meet
     case rel => exact ⟨_, (!t442), zs, H', ⟨by first | omega | exact Nat.le_refl _⟩, ⟨zb HB⟩⟩
    ·skip
     exact absurd H (by simp)
   ·replace c8 := Bool.eq_false_iff.mpr c8
    subst c8
    rw [if_neg (show ¬ (false = true) by decide)] at H
    have H' := Aside0.mk H
    clear H
    go_wp2_with (first | ((with_reducible refine gq 48 rfl ?_); refine gl (some 10) Try.func48 #[.int .i64 a0, .int .i64 0, .int .i64 9999] ?_; (with_reducible refine (impl_in.calls a0 0 9999 true _ A5.out).mono ?_); rintro e w' ⟨rfl, ⟨nd, rfl⟩⟩; refine ⟨_, rfl, ?_⟩) | (go_at_call 48; (with_reducible refine (impl_in.calls a1 3 7 false _ A7.out).mono ?_); rintro e w' ⟨rfl, ⟨nd, rfl⟩⟩))
    go_meet
    case rel => exact ⟨_, (true), zs, H', ⟨by first | omega | exact Nat.le_refl _⟩, ⟨zb HB⟩⟩
  ·replace c6 := Bool.eq_false_iff.mpr c6
   subst c6
   rw [if_neg (show ¬ (false = true) by decide)] at H
   have H' := Aside0.mk H
   clear H
   go_wp2_with (first | ((with_reducible refine gq 48 rfl ?_); refine gl (some 10) Try.func48 #[.int .i64 a0, .int .i64 0, .int .i64 9999] ?_; (with_reducible refine (impl_in.calls a0 0 9999 false _ A5.out).mono ?_); rintro e w' ⟨rfl, ⟨nd, rfl⟩⟩; refine ⟨_, rfl, ?_⟩))
   go_meet
   case rel => exact ⟨_, (true), zs, H', ⟨by first | omega | exact Nat.le_refl _⟩, ⟨zb HB⟩⟩
 case rest =>
  clear HC4
  try clear c1
  try clear p2
  try clear c4
  try clear c6
  try clear p6
  try clear c8
  try clear c10
  try clear c10b0
  try clear c10b1
  obtain ⟨kq, x25_3, rfl, HA, HJ3, HB⟩ := hcut
  cases kq with
  | zero => exact absurd HA.out (by simp [impl_NumWrite.j0])
  | succ kj3 =>
   have H := HA.out
   clear HA
   simp only [impl_NumWrite.j0] at H
   by_cases c13 : x25_3 = true
   ·subst c13
    rw [if_pos rfl] at H
    obtain rfl := Option.some.inj H
    go_wp2
    go_ret
    exact ⟨ze, zb HB⟩
   ·replace c13 := Bool.eq_false_iff.mpr c13
    subst c13
    rw [if_neg (show ¬ (false = true) by decide)] at H
    replace H := sp H
    rcases H with ⟨c14, H⟩ | ⟨c14, H⟩
    ·skip
     have c14b0 := eq_true c14
     have c14b1 := decide_eq_true c14
     clear c14
     obtain ⟨ji15, hji15⟩ : ∃ j_ : Int, (shl .i64 1 a1) = j_ := ⟨_, rfl⟩
     replace H : (if a0 < (wrap64 ((ji15) - 1)) then (some (strOfNums (([(Go.bits .or .i64 (shl .i64 a2 a1) a0) % 256] : List Int)))) else (impl_NumWrite.l0 kj3 (wrap64 (a0 - (wrap64 ((ji15) - 1)))) (([(Go.bits .or .i64 (shl .i64 a2 a1) (wrap64 ((ji15) - 1))) % 256] : List Int)))) = some r := by first | (rw [hji15] at H; exact H) | (simp only [hji15] at H ⊢; exact H)
     have hji15_ : (IntKind.i64.wrap (1 * 2 ^ min a1.toNat 64)) = ji15 := hji15
     have hji15z : a1 ≤ 64 → (IntKind.i64.wrap (1 * 2 ^ a1.toNat)) = ji15 := shl_small hji15
     have hji15u : (IntKind.i64.wrap (2 ^ min a1.toNat 64)) = ji15 := by have h_ := hji15_; rw [Int.one_mul] at h_; exact h_
     have hji15v : a1 ≤ 64 → (IntKind.i64.wrap (2 ^ a1.toNat)) = ji15 := fun hle_ => by have h_ := hji15z hle_; rw [Int.one_mul] at h_; exact h_
     have hji15y : (wrap64 (1 * 2 ^ min a1.toNat 64)) = ji15 := (i64_w _).symm.trans hji15_
     have hji15x : a1 ≤ 64 → (wrap64 (1 * 2 ^ a1.toNat)) = ji15 := fun h_ => (i64_w _).symm.trans (hji15z h_)
     by_cases c16 : a0 < (wrap64 ((ji15) - 1))
     ·rw [if_pos c16] at H
      have c16b0 := decide_eq_true c16
      clear c16
      have c17b0 := eq_true (of_decide_eq_true za : 0 ≤ a1)
      obtain ⟨ji18, hji18⟩ : ∃ j_ : Int, (shl .i64 a2 a1) = j_ := ⟨_, rfl⟩
      replace H : (some (strOfNums (([(Go.bits .or .i64 (ji18) a0) % 256] : List Int)))) = some r := by first | (rw [hji18] at H; exact H) | (simp only [hji18] at H ⊢; exact H)
      have hji18_ : (IntKind.i64.wrap (a2 * 2 ^ min a1.toNat 64)) = ji18 := hji18
      have hji18z : a1 ≤ 64 → (IntKind.i64.wrap (a2 * 2 ^ a1.toNat)) = ji18 := shl_small hji18
      have hji18y : (wrap64 (a2 * 2 ^ min a1.toNat 64)) = ji18 := (i64_w _).symm.trans hji18_
      have hji18x : a1 ≤ 64 → (wrap64 (a2 * 2 ^ a1.toNat)) = ji18 := fun h_ => (i64_w _).symm.trans (hji18z h_)
      obtain ⟨y443, hy443⟩ : ∃ y_ : List Int, y_ = (([(Go.bits .or .i64 (ji18) a0) % 256] : List Int)) := ⟨_, rfl⟩
      replace H : (some (strOfNums y443)) = some r := by first | (rw [hy443]; with_reducible exact H) | (have H2_ := (Option.bind_some _ _).symm.trans H; rw [hy443]; with_reducible exact H2_) | (have H2_ := (Option.bind_some _ _).symm.trans H; with_reducible exact H2_) | with_reducible exact H | (rw [hy443]; exact H) | exact H
      have Ny443 := Aside0.mk hy443
      clear hy443
      obtain rfl := Option.some.inj H
      go_wp2_with (first | ((with_reducible refine gd 38 rfl ?_); refine Kd.R_lit (Kd.int .u8) _ 5 ?hg (N := 38) ?hd (xs := ([(Go.bits .or .i64 (ji18) a0) % 256] : List Int)) (inner := [.int .u8 ((Go.bits .or .i64 (ji18) a0) % 256)]) (ok := fun _ => True) (okp := fun _ => True) ?hr ?hp (fun _ hk => hk) trivial (Below.refl _ _) (Nat.le_refl _) (by simp) ?_; (case hd => rfl); (case hg => rfl); (case hr => first | (go_simp; done) | (go_simp; rfl)); (case hp => exact (Reps.one (show Kd.M (Kd.int .u8) _ _ _ ((Go.bits .or .i64 (ji18) a0) % 256) [.int .u8 ((Go.bits .or .i64 (ji18) a0) % 256)] from rfl) (Reps.none _ _))); intro v444 w19 ho20 hb hg_ hnew_; clear hg_ hnew_; (first | rw [← Ny443.out] at ho20 | (simp only [Int.reduceToNat] at ho20; rw [← Ny443.out] at ho20)); have HO445 := Aside0.mk (Kd.R_lower ho20 (below_size (zb HB))); replace HB := Aside0.mk (below_step (zb HB) hb); clear hb ho20; have hcv21 := own_string (P := Try.prog) Try.underlying22 Try.underlying5 Try.underlying9 (Kd.own_of_R HO445.out)))
      go_ret
      exact ⟨by first | rfl | (simp [errW_none, errW_some] <;> rfl) | (simp only [← hji15, ← hji18]; first | rfl | (simp [errW_none, errW_some] <;> rfl)) | (simp [*, errW_none, errW_some] <;> rfl) | (simp [errW_none, errW_some]; exact (by intro l_; cases l_ <;> rfl : ∀ l_ : List UInt8, l_.isEmpty = !(l_ != [])) _), zb HB⟩
     ·rw [if_neg c16] at H
      have c16b0 := decide_eq_false c16
      clear c16
      have c22b0 := eq_true (of_decide_eq_true za : 0 ≤ a1)
      obtain ⟨ji23, hji23⟩ : ∃ j_ : Int, (shl .i64 a2 a1) = j_ := ⟨_, rfl⟩
      replace H : (impl_NumWrite.l0 kj3 (wrap64 (a0 - (wrap64 ((ji15) - 1)))) (([(Go.bits .or .i64 (ji23) (wrap64 ((ji15) - 1))) % 256] : List Int))) = some r := by first | (rw [hji23] at H; exact H) | (simp only [hji23] at H ⊢; exact H)
      have hji23_ : (IntKind.i64.wrap (a2 * 2 ^ min a1.toNat 64)) = ji23 := hji23
      have hji23z : a1 ≤ 64 → (IntKind.i64.wrap (a2 * 2 ^ a1.toNat)) = ji23 := shl_small hji23
      have hji23y : (wrap64 (a2 * 2 ^ min a1.toNat 64)) = ji23 := (i64_w _).symm.trans hji23_
      have hji23x : a1 ≤ 64 → (wrap64 (a2 * 2 ^ a1.toNat)) = ji23 := fun h_ => (i64_w _).symm.trans (hji23z h_)
      obtain ⟨y446, hy446⟩ : ∃ y_ : List Int, y_ = (([(Go.bits .or .i64 (ji23) (wrap64 ((ji15) - 1))) % 256] : List Int)) := ⟨_, rfl⟩
      replace H : (impl_NumWrite.l0 kj3 (wrap64 (a0 - (wrap64 ((ji15) - 1)))) y446) = some r := by first | (rw [hy446]; with_reducible exact H) | (have H2_ := (Option.bind_some _ _).symm.trans H; rw [hy446]; with_reducible exact H2_) | (have H2_ := (Option.bind_some _ _).symm.trans H; with_reducible exact H2_) | with_reducible exact H | (rw [hy446]; exact H) | exact H
      have Ny446 := Aside0.mk hy446
      clear hy446
      have H' := Aside0.mk H
      clear H
      go_wp2_with (first | ((with_reducible refine gd 46 rfl ?_); refine Kd.R_lit (Kd.int .u8) _ 5 ?hg (N := 46) ?hd (xs := ([(Go.bits .or .i64 (ji23) (wrap64 ((ji15) - 1))) % 256] : List Int)) (inner := [.int .u8 ((Go.bits .or .i64 (ji23) (wrap64 ((ji15) - 1))) % 256)]) (ok := fun _ => True) (okp := fun _ => True) ?hr ?hp (fun _ hk => hk) trivial (Below.refl _ _) (Nat.le_refl _) (by simp) ?_; (case hd => rfl); (case hg => rfl); (case hr => first | (go_simp; done) | (go_simp; rfl)); (case hp => exact (Reps.one (show Kd.M (Kd.int .u8) _ _ _ ((Go.bits .or .i64 (ji23) (wrap64 ((ji15) - 1))) % 256) [.int .u8 ((Go.bits .or .i64 (ji23) (wrap64 ((ji15) - 1))) % 256)] from rfl) (Reps.none _ _))); intro v447 w24 ho25 hb hg_ hnew_; clear hg_ hnew_; (first | rw [← Ny446.out] at ho25 | (simp only [Int.reduceToNat] at ho25; rw [← Ny446.out] at ho25)); have HO448 := Aside0.mk (Kd.R_lower ho25 (below_size (zb HB))); replace HB := Aside0.mk (below_step (zb HB) hb); clear hb ho25))
      go_loopg [0, 8] kj3 (fun kq v0 v8 w' => ∃ (x0_2 : Int) (x8_2 : List Int), v0 = .int .i64 x0_2 ∧ Aside0 (impl_NumWrite.l0 kq x0_2 x8_2 = some r) ∧ Aside0 (kq ≤ kj3) ∧ Aside0 (Kd.R (Kd.int .u8) 5 w' w.heap.size (fun _ => True) v8 x8_2) ∧ Aside0 (Below w.heap.size w w'))
      case atStart => exact ⟨(wrap64 (a0 - (wrap64 ((ji15) - 1)))), (y446), (by first | rfl | (simp; done) | (simp only [← hji15] <;> (first | rfl | simp)) | (simp [*]; done)), H', ⟨Nat.le_refl _⟩, ⟨by exact zr HO448⟩, ⟨zb HB⟩⟩
      case round =>
       clear H'
       try clear c1
       try clear c2
       try clear p2
       try clear hcv2
       try clear c4
       try clear c6
       try clear p6
       try clear c8
       try clear c10
       try clear c10b0
       try clear c10b1
       try clear c13
       try clear c14
       try clear c14b0
       try clear c14b1
       try clear c16
       try clear c16b0
       try clear c17
       try clear c17b0
       try clear hcv21
       try clear c22
       try clear c22b0
       try clear p2
       try clear p6
       obtain ⟨x0_2, x8_2, rfl, HA, HK2, HO_8, HB⟩ := hrel
       cases gk with
       | zero => exact absurd HA.out (by simp [impl_NumWrite.l0])
       | succ k2 =>
        have H := HA.out
        clear HA
        simp only [impl_NumWrite.l0] at H
        by_cases c26 : x0_2 > 127
        ·rw [if_pos c26] at H
         have c26b0 := decide_eq_true c26
         clear c26
         by_cases c27 : x8_2.length < 140737488355328
         ·rw [if_pos c27] at H
          have LMc27 := Aside0.mk c27
          clear c27
          obtain ⟨y449, hy449⟩ : ∃ y_ : List Int, y_ = (x8_2 ++ [(Go.bits .or .i64 128 (Go.bits .and .i64 x0_2 127)) % 256]) := ⟨_, rfl⟩
          replace H : (impl_NumWrite.l0 k2 (x0_2 / 128) y449) = some r := by first | (rw [hy449]; with_reducible exact H) | (have H2_ := (Option.bind_some _ _).symm.trans H; rw [hy449]; with_reducible exact H2_) | (have H2_ := (Option.bind_some _ _).symm.trans H; with_reducible exact H2_) | with_reducible exact H | (rw [hy449]; exact H) | exact H
          have Ny449 := Aside0.mk hy449
          clear hy449
          have H' := Aside0.mk H
          clear H
          go_wp2_with (first | ((with_reducible refine gate_builtin (b := .append) (xs := #[.tmp 54, .tmp 59]) rfl ?_); at_builtin; refine Kd.R_append (Kd.int .u8) (w0 := w) w.heap.size rfl (.tmp 54) (.tmp 59) 22 5 (.int .u8 0) 1 rfl Try.underlying22 info5 rfl (by decide) (by omega) u8 x8_2 ((Go.bits .or .i64 128 (Go.bits .and .i64 x0_2 127)) % 256) [.int .u8 ((Go.bits .or .i64 128 (Go.bits .and .i64 x0_2 127)) % 256)] (fun _ => True) (fun _ => False) rfl rfl ?aP (fun _ hk => hk.elim) ?aF ?aO ?aB ?aS ?aL ?_; (case aP => exact rfl); (case aB => exact (zb HB)); (case aF => exact (fun _ _ => trivial)); (case aO => exact (zr HO_8)); (case aS => exact (below_size (zb HB))); (case aL => have := LMc27.out; omega); intro v450 w28 ho hb hg hat; rw [← Ny449.out] at ho; replace HB := Aside0.mk (hb); have HO451 := Aside0.mk (ho); clear HO_8; clear ho hb hg hat))
          go_roundg k2
          case measure => have := HJ3.out; have := HK2.out; omega
          case rel => exact ⟨(x0_2 / 128), (y449), zs, H', ⟨by have := HJ3.out; have := HK2.out; omega⟩, ⟨by exact zr HO451⟩, ⟨zb HB⟩⟩
         ·rw [if_neg c27] at H
          exact absurd H (by simp)
        ·rw [if_neg c26] at H
         have c26b0 := decide_eq_false c26
         clear c26
         by_cases c29 : x8_2.length < 140737488355328
         ·rw [if_pos c29] at H
          have LMc29 := Aside0.mk c29
          clear c29
          obtain ⟨y452, hy452⟩ : ∃ y_ : List Int, y_ = (x8_2 ++ [(x0_2) % 256]) := ⟨_, rfl⟩
          replace H : (some (strOfNums y452)) = some r := by first | (rw [hy452]; with_reducible exact H) | (have H2_ := (Option.bind_some _ _).symm.trans H; rw [hy452]; with_reducible exact H2_) | (have H2_ := (Option.bind_some _ _).symm.trans H; with_reducible exact H2_) | with_reducible exact H | (rw [hy452]; exact H) | exact H
          have Ny452 := Aside0.mk hy452
          clear hy452
          obtain rfl := Option.some.inj H
          go_wp2_with (first | ((with_reducible refine gate_builtin (b := .append) (xs := #[.tmp 61, .tmp 64]) rfl ?_); at_builtin; refine Kd.R_append (Kd.int .u8) (w0 := w) w.heap.size rfl (.tmp 61) (.tmp 64) 22 5 (.int .u8 0) 1 rfl Try.underlying22 info5 rfl (by decide) (by omega) u8 x8_2 ((x0_2) % 256) [.int .u8 ((x0_2) % 256)] (fun _ => True) (fun _ => False) rfl rfl ?aP (fun _ hk => hk.elim) ?aF ?aO ?aB ?aS ?aL ?_; (case aP => exact rfl); (case aB => exact (zb HB)); (case aF => exact (fun _ _ => trivial)); (case aO => exact (zr HO_8)); (case aS => exact (below_size (zb HB))); (case aL => have := LMc29.out; omega); intro v453 w30 ho hb hg hat; rw [← Ny452.out] at ho; replace HB := Aside0.mk (hb); have HO454 := Aside0.mk (ho); clear HO_8; clear ho hb hg hat; have hcv31 := own_string (P := Try.prog) Try.underlying22 Try.underlying5 Try.underlying9 (Kd.own_of_R HO454.out)))
          go_ret
          exact ⟨by first | rfl | (simp [errW_none, errW_some] <;> rfl) | (simp only [← hji15, ← hji23]; first | rfl | (simp [errW_none, errW_some] <;> rfl)) | (simp [*, errW_none, errW_some] <;> rfl) | (simp [errW_none, errW_some]; exact (by intro l_; cases l_ <;> rfl : ∀ l_ : List UInt8, l_.isEmpty = !(l_ != [])) _), zb HB⟩
         ·rw [if_neg c29] at H
          exact absurd H (by simp)
    ·skip
     exact absurd H (by simp)

/-! ### impl_bitRow_add: function 103 -/
-- by hand
set_option maxHeartbeats 4000000 in
set_option maxRecDepth 100000 in
theorem add_calls (g : Nat) (n bits : Int) (xs : List Int) (v : Value) (w0 w : World) (hB : Below w0.heap.size w0 w) (hg : w.heap[g]? = some (.cells #[v] 106 (0, 0))) (hge : w0.heap.size ≤ g)
   (ho : Kd.R (Kd.int .u8) 5 w w0.heap.size (fun _ => True) v xs) (hn : 0 ≤ n) (hn1 : n < 1000) (hb0 : 0 ≤ bits) (hb1 : bits ≤ 8) (hl : xs.length ≤ 1000000) :
   Calls Try.prog 103 #[.pointer (some ⟨g, 0, none⟩), .int .i64 n, .int .i64 bits] w fun e w' => e = .returned (.tuple #[]) ∧ Below w0.heap.size w0 w' ∧
     ∃ v', w'.heap[g]? = some (.cells #[v'] 106 (0, 0)) ∧ Kd.R (Kd.int .u8) 5 w' w0.heap.size (fun _ => True) v' (xs ++ bitsL n bits.toNat) := by
  obtain ⟨i0, hi, hz0, hz1, hz2⟩ := info_parts info5
  have HG := Aside0.mk hg
  have HO := Aside0.mk ho
  have HB := Aside0.mk hB
  clear hg ho hB
  go_enter Try.func103, Try.ntmps103
  go_wp2
  go_loopg [2] (bits.toNat) (fun kq v2 w' => ∃ (x : Int) (v' : Value) (ys : List Int), v2 = .int .i64 x ∧ Aside0 (kq = (x + 1).toNat ∧ -1 ≤ x ∧ x < bits) ∧ Aside0 (w'.heap[g]? = some (.cells #[v'] 106 (0, 0))) ∧ Aside0 (Kd.R (Kd.int .u8) 5 w' w0.heap.size (fun _ => True) v' ys) ∧ Aside0 (ys ++ bitsL n (x+1).toNat = xs ++ bitsL n bits.toNat) ∧ Aside0 (ys.length ≤ xs.length + 8) ∧ Aside0 (Below w0.heap.size w0 w'))
  case atStart => exact ⟨bits - 1, v, xs, rfl, ⟨by omega, by omega, by omega⟩, HG, HO, ⟨by rw [show (bits - 1 + 1) = bits by omega]⟩, ⟨by omega⟩, HB⟩
  case round =>
    obtain ⟨x, v', ys, rfl, HK, HG', HO', HY, HL, HB'⟩ := hrel
    have hx0 := HK.out.2.1
    have hx1 := HK.out.2.2
    by_cases hx : 0 ≤ x
    · have hc : wr.cell? ⟨g, 0, none⟩ = some v' := (blk_cell HG'.out 0).trans rfl
      have hf := blk_frozen HG'.out 0
      have hown := Kd.own_of_R HO'.out
      have hlt := blk_lt HG'.out
      have hne := own_ne hown HG'.out (by decide)
      have hbs := HB'.out.size
      have hyl := HL.out
      have hk1 := HK.out.1
      cases gk with
      | zero => omega
      | succ k1 =>
      have HBit := Aside0.mk (bit_spelled n x.toNat hn hn1)
      generalize hbt : bitAt n x.toNat = bt at HBit
      have HBt := Aside0.mk hbt
      clear hbt hk1
      go_wp2
      go_region_law
        ((refine step_append_lies _ (by rfl) _ _ _ (by rfl) w0.heap.size 5 i0 _ 1 1 Try.underlying106 hi hz0 hz1 hz2 rfl (by omega) v' ys.length (encs (Value.int .u8) ys) (by rfl) ((hown.alloc _).drew)
            ⟨wr.heap.size, 0, none⟩ 1 1 [.int .u8 (IntKind.u8.wrap (Go.bits .and .i64 (n / 2 ^ x.toNat) 1))] (by rfl) (by rfl) (World.news_of_block (cs := #[.int .u8 (IntKind.u8.wrap (Go.bits .and .i64 (n / 2 ^ x.toNat) 1))]) (t := 5) (fr := (0, 0)) (heap_alloc_new wr _)) (by simp [Value.oneCell'])
            (by omega) (by unfold maxLen; omega) (by omega) (by simp; omega) (wr.heap.size + 1) (by simp) ?_; intro gg cap w1 hown1 hgrow hat hlt1
          have hh1 := blk_grown (blk_drew (blk_alloc HG'.out (.cells #[.int .u8 (IntKind.u8.wrap (Go.bits .and .i64 (n / 2 ^ x.toNat) 1))] 5))) hgrow hne
          have hc1 : w1.cell? ⟨g, 0, none⟩ = some v' := (blk_cell hh1 0).trans rfl
          have hf1 := blk_frozen hh1 0))
      all_goals
        have hgg := own_ne hown1 hh1 (by decide)
        have N1 := Aside0.mk (blk_put (cs' := #[.slice (some ⟨gg, 0, none⟩) (ys.length + 1) cap]) hh1 0 (.slice (some ⟨gg, 0, none⟩) (ys.length + 1) cap) rfl)
        have N2 := Aside0.mk (below_set (j := 0) (v := .slice (some ⟨gg, 0, none⟩) (ys.length + 1) cap) (Below.grown (below_drew (HB'.out.alloc hbs (.cells #[.int .u8 (IntKind.u8.wrap (Go.bits .and .i64 (n / 2 ^ x.toNat) 1))] 5))) hgrow (by simp; omega) (fun k hk => own_base hown k hk)) hge)
        have N3 := Aside0.mk (own_setCell hown1 (p := ⟨g, 0, none⟩) hgg (.slice (some ⟨gg, 0, none⟩) (ys.length + 1) cap))
        clear hgg hh1 hc1 hf1 hc hf hown hne hat hlt1 hown1 hgrow
        go_wp2
        go_roundg k1
        case measure => have := HK.out.1; omega
        case rel =>
          refine ⟨x - 1, _, ys ++ [bt], rfl, ⟨by have := HK.out.1; omega, by omega, by omega⟩, N1, ⟨?_⟩, ⟨?_⟩, ⟨?_⟩, N2⟩
          · rw [HBit.out] at N3
            refine Kd.R_of_own ?_ (fun _ _ => trivial)
            have := N3.out
            rw [List.length_append, encs_append]
            exact this
          · have h1 : (x + 1).toNat = x.toNat + 1 := by omega
            have h2 := HY.out
            rw [h1, bitsL, HBt.out] at h2
            rw [show (x - 1 + 1) = x by omega, List.append_assoc]
            exact h2
          · have h1 := congrArg List.length HY.out
            simp [bitsL_length] at h1 ⊢
            omega
    · go_wp2
      go_end0
      refine ⟨rfl, HB'.out, v', HG'.out, ?_⟩
      have e : (x + 1).toNat = 0 := by omega
      have hy := HY.out
      rw [e] at hy
      simp only [bitsL, List.append_nil] at hy
      rw [← hy]
      exact HO'.out

/-! ### impl_bitRow_number: function 104 -/
-- by hand
set_option maxHeartbeats 4000000 in
set_option maxRecDepth 100000 in
theorem number_calls (A0 : Option Addr) (c0 : Nat) (l0 : List Int) (a1 a2 : Int) (w : World) (hr0 : Kd.C (Kd.int .u8) w A0 l0.length l0) (hc0 : l0.length ≤ c0)
    (ha : 0 ≤ a1) (hb : 0 ≤ a2) (hb8 : a2 ≤ 8) (hab : a1 + a2 ≤ l0.length) (hl : l0.length ≤ 1000000) (h01 : ∀ x ∈ l0, x = 0 ∨ x = 1) :
    Calls Try.prog 104 #[.slice A0 l0.length c0, .int .i64 a1, .int .i64 a2] w fun e w' => e = .returned (.int .i64 (numL ((l0.drop a1.toNat).take a2.toNat))) ∧ Drawn0 w w' := by
  obtain ⟨a, rfl⟩ := Int.eq_ofNat_of_zero_le ha
  obtain ⟨b, rfl⟩ := Int.eq_ofNat_of_zero_le hb
  obtain ⟨i0, hi, _, hsz, _⟩ := info_parts info5
  obtain ⟨A1, hcut, hA, hC⟩ := print_mid_of (P := Try.prog) (Value.int .u8) 0 106 5 .i64 .i64 Try.underlying106 hi hsz A0 c0 l0 (a : Int) ((a : Int) + (b : Int)) ha (by omega) (by omega) hc0
  have es : ((l0.take ((a : Int) + (b : Int)).toNat).drop (a : Int).toNat) = (l0.drop a).take b := by
    rw [show ((a : Int) + (b : Int)).toNat = a + b by omega, show (a : Int).toNat = a by omega, List.drop_take]
    congr 1
    omega
  have hrd := hA w (Kd.reads_of_C hr0)
  rw [es] at hcut hrd
  rw [show (a : Int).toNat = a by omega, show (b : Int).toNat = b by omega]
  have hs01 : ∀ x ∈ (l0.drop a).take b, x = 0 ∨ x = 1 := fun x hx => h01 x (List.mem_of_mem_drop (List.mem_of_mem_take hx))
  have hlen : ((l0.drop a).take b).length = b := by rw [List.length_take, List.length_drop]; omega
  generalize (l0.drop a).take b = s at *
  subst hlen
  clear hA hC hi hsz hr0
  have H01 := Aside0.mk hs01
  have HR : Aside0 (Kd.C (Kd.int .u8) w A1 s.length s) := Aside0.mk (Kd.C_of_reads (h1 := fun _ => rfl) hrd)
  clear hs01 hrd h01 es
  go_enter Try.func104, Try.ntmps104
  go_wp2
  go_loopg [7, 17] (s.length) (fun kq v7 v17 w' => ∃ (j : Nat), v7 = .int .i64 (numL (s.take j)) ∧ v17 = .int .i64 j ∧ Aside0 (kq + j = s.length) ∧ Drawn0 w w')
  case atStart => exact ⟨0, rfl, rfl, ⟨by omega⟩, Drawn0.refl _⟩
  case round =>
    obtain ⟨j, rfl, rfl, HK, ⟨m1, rfl⟩⟩ := hrel
    have hk := HK.out
    by_cases hj : j < s.length
    · have hr := numL_range s H01.out j (by omega)
      have hp := pow8 j (by omega)
      have h2 := rd_01 s H01.out j hj
      have HS := Aside0.mk (or_spelled (numL (s.take j)) (rd s j) hr.1 (by omega) h2)
      have HT := Aside0.mk (numL_take s j hj)
      obtain ⟨ad, e1, hcell⟩ := Kd.at_int HR.out (j : Int) (by omega) (by omega)
      subst e1
      rw [show ((j : Int)).toNat = j by omega] at hcell
      generalize hnj : numL (s.take j) = nj at *
      generalize hrj : rd s j = rj at *
      have h0 : (0 : Int) ≤ (j : Int) := by omega
      have h1 : (j : Int) < (s.length : Int) := by omega
      have hrj0 : 0 ≤ rj := by omega
      have hrj1 : rj ≤ 1 := by omega
      have hnj0 : 0 ≤ nj := by omega
      have hnj1 : nj ≤ 10000 := by omega
      cases gk with
      | zero => omega
      | succ k1 =>
      clear hr hp h2 hnj hrj hk
      go_wp2
      go_roundg k1
      case measure => omega
      case rel => exact ⟨j + 1, by rw [HT.out, ← HS.out], by go_num, ⟨by have := HK.out; omega⟩, by repeat (first | exact Drawn0.refl _ | apply Drawn0.step)⟩
    · have e : j = s.length := by omega
      subst e
      go_wp2
      go_ret
      exact ⟨by first | rfl | (simp; done) | (rw [List.take_length]), by repeat (first | exact Drawn0.refl _ | apply Drawn0.step)⟩

/-! ### impl_WordPack: function 98 -/
-- by hand
def impl_WordPack.f (k : Nat) (a0 : ByteArray) : Option (ByteArray) := (impl_WordOk.f k a0).bind fun b => if b = true then (if packOk a0 then some (packB a0) else none) else some ⟨#[]⟩
theorem impl_WordPack.mono : ∀ a0 k, LeO (impl_WordPack.f k a0) (impl_WordPack.f (k + 1) a0) := by
  intro a0 k
  unfold impl_WordPack.f
  exact LeO.bind (impl_WordOk.mono _ _) (fun _ => LeO.refl _)
set_option maxHeartbeats 4000000 in
set_option maxRecDepth 100000 in
theorem impl_WordPack.calls (k : Nat) (a0 : ByteArray) (r : ByteArray) (w : World) (h : impl_WordPack.f k a0 = some r) :
    Calls Try.prog 98 #[.string a0] w fun e w' => e = .returned (.string r) ∧ Below w.heap.size w w' := by
  unfold impl_WordPack.f at h
  obtain ⟨b, hA, h⟩ := Option.bind_eq_some_iff.mp h
  cases b with
  | false =>
    simp only [if_neg (show ¬ (false = true) by decide), Option.some.injEq] at h
    subst h
    go_enter Try.func98, Try.ntmps98
    go_wp2_with (go_at_call 72; refine (impl_WordOk.calls k a0 false _ hA).mono ?_; rintro e w' ⟨rfl, ⟨nd, rfl⟩⟩)
    go_ret
    exact ⟨rfl, (Drawn0.step (Drawn0.refl w) nd).below⟩
  | true =>
    rw [if_pos rfl] at h
    by_cases hp : packOk a0
    · rw [if_pos hp] at h
      simp only [Option.some.injEq] at h
      have HP := Aside0.mk hp
      have HR := Aside0.mk h
      have HA := Aside0.mk hA
      have hsz := hp.1
      clear h hA hp
      go_enter Try.func98, Try.ntmps98
      go_wp2_with (go_at_call 72; refine (impl_WordOk.calls k a0 true _ HA.out).mono ?_; rintro e w' ⟨rfl, ⟨nd, rfl⟩⟩)
      go_loopg [13] (a0.size) (fun kq v13 w' => ∃ (x : Int) (v' : Value), v13 = .int .i64 x ∧ Aside0 (kq + x.toNat = a0.size ∧ 0 ≤ x) ∧ Aside0 (w'.heap[w.heap.size]? = some (.cells #[v'] 106 (0, 0))) ∧ Aside0 (Kd.R (Kd.int .u8) 5 w' w.heap.size (fun _ => True) v' (packBits a0 x.toNat)) ∧ Aside0 (Below w.heap.size w w'))
      case atStart => exact ⟨0, .slice none 0 0, rfl, ⟨by omega, by omega⟩, ⟨by simpa using heap_alloc_new (w.drewN nd) _⟩, ⟨Kd.R_nil _ _ _ _ _⟩, ⟨below_alloc (pw_below_drewN (Below.refl _ _) nd) _⟩⟩
      case round =>
        obtain ⟨x, v', rfl, HK, HG, HO, HB⟩ := hrel
        obtain ⟨hk, h0⟩ := HK.out
        by_cases hj : x < a0.size
        · have hpl := HP.out.2 x.toNat (by omega)
          rw [show ((x.toNat : Nat) : Int) = x by omega] at hpl
          cases gk with
          | zero => omega
          | succ k1 =>
          have hle : (packBits a0 x.toNat).length ≤ 1000 := by have := packBits_len a0 x.toNat; omega
          generalize hpe : place (bt a0 x) = p at hpl
          have HPE := Aside0.mk hpe
          clear hpe hk
          obtain ⟨hp0, hp1⟩ := hpl
          have hx := bt_at a0 x
          have q0 := eq_true h0
          have q1 := eq_true hj
          clear h0 hj
          by_cases hp : p < 24
          · go_wp2_with (first | (go_at_call 85; refine (strings_IndexByte.calls _ (bt a0 x) p _ (by rw [← HPE.out]; rfl)).mono ?_; rintro e w' ⟨rfl, ⟨nd, rfl⟩⟩) | (go_at_call 103; refine (add_calls w.heap.size p 5 (packBits a0 x.toNat) v' w _ (pw_below_drewN HB.out _) (blk_drewN HG.out _) (Nat.le_refl _) (Kd.R_drewN HO.out _) (by omega) (by omega) (by omega) (by omega) (by omega)).mono ?_; rintro e w2 ⟨rfl, hb2, v2, hg2, ho2⟩; have N1 := Aside0.mk hb2; have N2 := Aside0.mk hg2; have N3 := Aside0.mk ho2; clear hb2 hg2 ho2))
            go_roundg k1
            case measure => have := HK.out.1; omega
            case rel =>
              have h0 := of_eq_true q0
              have hj := of_eq_true q1
              have h64 : wrap64 (x + 1) = x + 1 := by unfold wrap64; omega
              refine ⟨x + 1, v2, by rw [h64], ⟨by have := HK.out.1; omega, by omega⟩, N2, ⟨?_⟩, N1⟩
              · have h9 := N3.out
                rw [show (x + 1).toNat = x.toNat + 1 by omega, packBits, show ((x.toNat : Nat) : Int) = x by omega, HPE.out]
                unfold signBits
                rw [if_pos hp]
                exact h9
          · go_wp2_with (first | (go_at_call 85; refine (strings_IndexByte.calls _ (bt a0 x) p _ (by rw [← HPE.out]; rfl)).mono ?_; rintro e w' ⟨rfl, ⟨nd, rfl⟩⟩) | (go_at_call 103; refine (add_calls w.heap.size (96 + p - 24) 7 (packBits a0 x.toNat) v' w _ (pw_below_drewN HB.out _) (blk_drewN HG.out _) (Nat.le_refl _) (Kd.R_drewN HO.out _) (by omega) (by omega) (by omega) (by omega) (by omega)).mono ?_; rintro e w2 ⟨rfl, hb2, v2, hg2, ho2⟩; have N1 := Aside0.mk hb2; have N2 := Aside0.mk hg2; have N3 := Aside0.mk ho2; clear hb2 hg2 ho2))
            go_roundg k1
            case measure => have := HK.out.1; omega
            case rel =>
              have h0 := of_eq_true q0
              have hj := of_eq_true q1
              have h64 : wrap64 (x + 1) = x + 1 := by unfold wrap64; omega
              refine ⟨x + 1, v2, by rw [h64], ⟨by have := HK.out.1; omega, by omega⟩, N2, ⟨?_⟩, N1⟩
              · have h9 := N3.out
                rw [show (x + 1).toNat = x.toNat + 1 by omega, packBits, show ((x.toNat : Nat) : Int) = x by omega, HPE.out]
                unfold signBits
                rw [if_neg (by omega)]
                exact h9
        · have e : x.toNat = a0.size := by omega
          have HO1 := HO.out
          rw [e] at HO1
          have HO' := Aside0.mk HO1
          have hle : (packBits a0 a0.size).length ≤ 1000 := by have := packBits_len a0 a0.size; omega
          clear HO HO1 e hk h0
          have h01 := pack01 a0 a0.size
          generalize hP : packBits a0 a0.size = ys0 at *
          have HP0 := Aside0.mk hP
          have H01 := Aside0.mk h01
          clear hP h01
          go_wp2
          go_loopg [] (8) (fun kq w' => ∃ (v' : Value) (ys : List Int), Aside0 ((8 - ys.length % 8) % 8 ≤ kq ∧ kq + ys.length ≤ ys0.length + 8) ∧ Aside0 (padBits ys = padBits ys0) ∧ Aside0 (∀ x ∈ ys, x = 0 ∨ x = 1) ∧ Aside0 (w'.heap[w.heap.size]? = some (.cells #[v'] 106 (0, 0))) ∧ Aside0 (Kd.R (Kd.int .u8) 5 w' w.heap.size (fun _ => True) v' ys) ∧ Aside0 (Below w.heap.size w w'))
          case atStart => exact ⟨v', ys0, ⟨by omega, by omega⟩, ⟨rfl⟩, H01, HG, HO', HB⟩
          case round =>
            clear HG HO' HB HK hj
            obtain ⟨v', ys, HK, HPY, H01y, HG, HO, HB⟩ := hrel
            obtain ⟨hk, hkl⟩ := HK.out
            obtain ⟨A, c, hv, hlc, hC⟩ := Kd.R_reads HO.out
            subst hv
            have hc : wr.cell? ⟨w.heap.size, 0, none⟩ = some (.slice A ys.length c) := (blk_cell HG.out 0).trans rfl
            have hf := blk_frozen HG.out 0
            by_cases hm : ys.length % 8 = 0
            · have t1 : ((((ys.length : Nat) : Int) % 8) != 0) = false := by rw [bne_eq_false_iff_eq]; omega
              have t2 : ((((ys.length : Nat) : Int) % 8) == 0) = true := by rw [beq_iff_eq]; omega
              have hle : ys.length ≤ 1010 := by omega
              have HCr := Aside0.mk hC
              have HF := Aside0.mk (show r = strOfNums (bytesL ys (ys.length / 8)) by
                rw [← HR.out]; unfold packB; rw [HP0.out, ← HPY.out, pad_done ys hm])
              clear hC
              go_wp2
              obtain ⟨wl, hwl⟩ : ∃ wl : World, wl = wr := ⟨_, rfl⟩
              subst hwl
              go_loopg [6, 7] (ys.length / 8) (fun kq v6 v7 w' => ∃ (m : Nat), v7 = .int .i64 (8 * (m : Int)) ∧ Aside0 (kq + m = ys.length / 8) ∧ Aside0 (Kd.R (Kd.int .u8) 5 w' wl.heap.size (fun _ => True) v6 (bytesL ys m)) ∧ Aside0 (Below wl.heap.size wl w'))
              case atStart => exact ⟨0, rfl, ⟨by omega⟩, ⟨Kd.R_nil _ _ _ _ _⟩, ⟨Below.refl _ _⟩⟩
              case round =>
                clear hc hf t1 t2
                obtain ⟨m, rfl, HK3, HO6, HB3⟩ := hrel
                have hk3 := HK3.out
                obtain ⟨Ao, co, hv6, _, _⟩ := Kd.R_reads HO6.out
                subst hv6
                have hcw : wr.cell? ⟨w.heap.size, 0, none⟩ = some (.slice A ys.length c) := (blk_cell (blk_below HG.out HB3.out) 0).trans rfl
                by_cases h3 : 8 * (m : Int) < (ys.length : Int)
                · cases gk with
                  | zero => omega
                  | succ k1 =>
                  have hnr := numL_range ((ys.drop (8 * m)).take 8) (fun z hz => H01y.out z (List.mem_of_mem_drop (List.mem_of_mem_take hz))) ((ys.drop (8 * m)).take 8).length (Nat.le_refl _)
                  rw [List.take_length] at hnr
                  have hn8 := pow8 ((ys.drop (8 * m)).take 8).length (by rw [List.length_take]; omega)
                  have hnl : numL (List.take (8 : Int).toNat (List.drop (8 * (m : Int)).toNat ys)) = numL ((ys.drop (8 * m)).take 8) := by
                    rw [show (8 * (m : Int)).toNat = 8 * m by omega]; rfl
                  have hbl : (bytesL ys m).length ≤ 1000 := by rw [bytesL_len]; omega
                  generalize hpp : numL ((ys.drop (8 * m)).take 8) = p at hnr hnl
                  have HPP := Aside0.mk hpp
                  have HNL := Aside0.mk hnl
                  have hp0 : 0 ≤ p := hnr.1
                  have hp1 : p ≤ 255 := by omega
                  have hb9 := HB3.out.size
                  clear hpp hnl hnr hn8 hk3
                  go_wp2_with (first | (go_at_call 104; refine (number_calls A c ys (8 * (m : Int)) 8 _ (Kd.C_below HCr.out HB3.out) hlc (by omega) (by omega) (by omega) (by omega) (by omega) H01y.out).mono ?_; rw [HNL.out]; rintro e w' ⟨rfl, ⟨nd, rfl⟩⟩) | (at_builtin; refine Kd.R_append (Kd.int .u8) (w0 := wl) wl.heap.size rfl (.tmp 40) (.tmp 45) 22 5 (.int .u8 0) 1 rfl Try.underlying22 info5 rfl (by decide) (by omega) (.slice Ao (bytesL ys m).length co) (bytesL ys m) p [.int .u8 p] (fun _ => True) (fun _ => False) rfl rfl ?aP (fun _ hk => hk.elim) ?aF ?aO ?aB ?aS ?aL ?_; (case aP => exact rfl); (case aB => exact pw_below_drewN HB3.out _); (case aF => exact (fun _ _ => trivial)); (case aO => exact Kd.R_drewN HO6.out _); (case aS => exact hb9); (case aL => omega); intro v138 w22 ho hb hg hat; have N1 := Aside0.mk hb; have N2 := Aside0.mk ho; clear ho hb hg hat))
                  go_roundg k1
                  case measure => have := HK3.out; omega
                  case rel =>
                    refine ⟨m + 1, by rw [show 8 * ((m + 1 : Nat) : Int) = 8 * (m : Int) + 8 by omega], ⟨by have := HK3.out; omega⟩, ⟨?_⟩, N1⟩
                    have h9 := N2.out
                    rw [← HPP.out] at h9
                    exact h9
                · have hcv := own_string (P := Try.prog) Try.underlying22 Try.underlying5 Try.underlying9 (Kd.own_of_R HO6.out)
                  have em := Aside0.mk (show m = ys.length / 8 by omega)
                  clear hk3
                  go_wp2
                  go_ret
                  have h9 := HF.out
                  rw [← em.out] at h9
                  subst h9
                  refine ⟨by first | rfl | (simp; done) | (simp <;> rfl), ?_⟩
                  exact below_then HB.out HB.out.size HB3.out
            · have t1 : ((((ys.length : Nat) : Int) % 8) != 0) = true := by rw [bne_iff_ne]; omega
              have t2 : ((((ys.length : Nat) : Int) % 8) == 0) = false := by rw [beq_eq_false_iff_ne]; omega
              cases gk with
              | zero => omega
              | succ k1 =>
              go_wp2_with (go_at_call 103; refine (add_calls w.heap.size 1 1 ys _ w _ HB.out HG.out (Nat.le_refl _) HO.out (by omega) (by omega) (by omega) (by omega) (by omega)).mono ?_; rintro e w2 ⟨rfl, hb2, v2, hg2, ho2⟩; have N1 := Aside0.mk hb2; have N2 := Aside0.mk hg2; have N3 := Aside0.mk ho2; clear hb2 hg2 ho2)
              go_roundg k1
              case measure => omega
              case rel => exact ⟨v2, ys ++ [1], ⟨by simp; omega, by simp; omega⟩, ⟨by rw [pad_step ys hm]; exact HPY.out⟩, ⟨by intro z hz; simp at hz; rcases hz with hz | hz; exact H01y.out z hz; exact .inr hz⟩, N2, ⟨by have h9 := N3.out; rw [bitsL_one] at h9; exact h9⟩, N1⟩
    · rw [if_neg hp] at h
      cases h

/-! ### impl_WordWrite: function 93 -/
-- thin
def impl_WordWrite.f (k : Nat) (a0 : ByteArray) : Option (ByteArray) := (impl_WordOk.f k a0).bind fun t455 => (if t455 = true then ((impl_WordPack.f k a0).bind fun t456 => (if (t456.size : Int) < (a0.size : Int) then ((impl_NumWrite.f k (t456.size : Int) 7 1).bind fun t457 => (if t457.size + t456.size ≤ 9223372036854775807 then (some (t457 ++ t456)) else (none))) else ((impl_NumWrite.f k (a0.size : Int) 7 0).bind fun t458 => (if t458.size + a0.size ≤ 9223372036854775807 then (some (t458 ++ a0)) else (none))))) else (some (⟨#[]⟩ : ByteArray)))
theorem impl_WordWrite.mono : ∀ a0 k, LeO (impl_WordWrite.f k a0) (impl_WordWrite.f (k + 1) a0) := by
 intro a0 k
 unfold impl_WordWrite.f
 have m0 := @impl_NumWrite.mono
 have m1 := @impl_WordOk.mono
 have m2 := @impl_WordPack.mono
 exact zm
set_option maxHeartbeats 8000000 in
set_option maxRecDepth 100000 in
theorem impl_WordWrite.calls (k : Nat) (a0 : ByteArray) (r : ByteArray) (w : World) (h : impl_WordWrite.f k a0 = some r) :
  Calls Try.prog 93 #[.string a0] w fun e w' => e = .returned (.string r) ∧ Below w.heap.size w w' := by
 have HB := Aside0.mk (Below.refl w.heap.size w)
 have H : ((impl_WordOk.f k a0).bind fun t455 => (if t455 = true then ((impl_WordPack.f k a0).bind fun t456 => (if (t456.size : Int) < (a0.size : Int) then ((impl_NumWrite.f k (t456.size : Int) 7 1).bind fun t457 => (if t457.size + t456.size ≤ 9223372036854775807 then (some (t457 ++ t456)) else (none))) else ((impl_NumWrite.f k (a0.size : Int) 7 0).bind fun t458 => (if t458.size + a0.size ≤ 9223372036854775807 then (some (t458 ++ a0)) else (none))))) else (some (⟨#[]⟩ : ByteArray)))) = some r := h
 clear h
 obtain ⟨t455, A2, H⟩ := ob H
 (try dsimp only at H)
 by_cases c3 : t455 = true
 ·subst c3
  rw [if_pos rfl] at H
  obtain ⟨t456, A4, H⟩ := ob H
  (try dsimp only at H)
  have HC5 := Aside0.mk H
  clear H
  go_enter Try.func93, Try.ntmps93
  go_upto_if 13 with (first | ((with_reducible refine gq 72 rfl ?_); refine gl (some 5) Try.func72 #[.string a0] ?_; (with_reducible refine (impl_WordOk.calls k a0 true _ A2.out).mono ?_); rintro e w' ⟨rfl, ⟨nd, rfl⟩⟩; refine ⟨_, rfl, ?_⟩) | ((with_reducible refine gq 98 rfl ?_); refine gl (some 8) Try.func98 #[.string a0] ?_; (with_reducible refine (impl_WordPack.calls k a0 t456 _ A4.out).mono ?_); rintro e w6 ⟨rfl, hb⟩; refine ⟨_, rfl, ?_⟩; replace HB := Aside0.mk (below_step (zb HB) hb); (try clear hb)))
  (try simp only [Act.put, s1, s2, s3])
  have H := HC5.out
  clear HC5
  replace H := sp H
  rcases H with ⟨c7, H⟩ | ⟨c7, H⟩
  ·skip
   have c7b0 := decide_eq_true c7
   have c7b1 := decide_eq_true (Int.ofNat_lt.mp c7)
   clear c7
   (first | rw [c7b0] | rw [c7b1] | rw [c7b2] | (simp only [i64_w, i32_w]; rw [c7b0]) | skip)
   obtain ⟨t457, A8, H⟩ := ob H
   (try dsimp only at H)
   by_cases c9 : t457.size + t456.size ≤ 9223372036854775807
   ·rw [if_pos c9] at H
    have c9b0 := eq_true c9
    have c9b1 := decide_eq_true c9
    try have c9b2 : (9223372036854775807 < t457.size + t456.size) = False := eq_false (Nat.not_lt.2 c9)
    obtain rfl := Option.some.inj H
    go_wp2_with (first | ((with_reducible refine gq 83 rfl ?_); refine gl (some 16) Try.func83 #[.int .i64 (t456.size : Int), .int .i64 7, .int .i64 1] ?_; (with_reducible refine (impl_NumWrite.calls k (t456.size : Int) 7 1 t457 _ A8.out).mono ?_); rintro e w10 ⟨rfl, hb⟩; refine ⟨_, rfl, ?_⟩; replace HB := Aside0.mk (below_step (zb HB) hb); (try clear hb)))
    go_ret
    exact ⟨ze, zb HB⟩
   ·rw [if_neg c9] at H
    exact absurd H (by simp)
  ·skip
   have c7b0 := decide_eq_false c7
   have c7b1 := decide_eq_false (fun h => c7 (Int.ofNat_lt.mpr h))
   clear c7
   (first | rw [c7b0] | rw [c7b1] | rw [c7b2] | (simp only [i64_w, i32_w]; rw [c7b0]) | skip)
   obtain ⟨t458, A11, H⟩ := ob H
   (try dsimp only at H)
   replace H := sp H
   rcases H with ⟨c12, H⟩ | ⟨c12, H⟩
   ·skip
    have c12b0 := eq_true c12
    have c12b1 := decide_eq_true c12
    try have c12b2 : (9223372036854775807 < t458.size + a0.size) = False := eq_false (Nat.not_lt.2 c12)
    obtain rfl := Option.some.inj H
    go_wp2_with (first | ((with_reducible refine gq 83 rfl ?_); refine gl (some 21) Try.func83 #[.int .i64 (a0.size : Int), .int .i64 7, .int .i64 0] ?_; (with_reducible refine (impl_NumWrite.calls k (a0.size : Int) 7 0 t458 _ A11.out).mono ?_); rintro e w13 ⟨rfl, hb⟩; refine ⟨_, rfl, ?_⟩; replace HB := Aside0.mk (below_step (zb HB) hb); (try clear hb)))
    go_ret
    exact ⟨ze, zb HB⟩
   ·skip
    exact absurd H (by simp)
 ·replace c3 := Bool.eq_false_iff.mpr c3
  subst c3
  rw [if_neg (show ¬ (false = true) by decide)] at H
  obtain rfl := Option.some.inj H
  go_enter Try.func93, Try.ntmps93
  go_wp2_with (first | ((with_reducible refine gq 72 rfl ?_); refine gl (some 5) Try.func72 #[.string a0] ?_; (with_reducible refine (impl_WordOk.calls k a0 false _ A2.out).mono ?_); rintro e w' ⟨rfl, ⟨nd, rfl⟩⟩; refine ⟨_, rfl, ?_⟩))
  go_ret
  exact ⟨ze, zb HB⟩

/-! ### impl_named: function 82 -/
-- thin
def impl_named.f (k : Nat) (a0_0 : ByteArray) (a0_1 : ByteArray) (a0_2 : Bool) (a1 : Int) (a2 : Int) : Option (ByteArray) := (impl_NumWrite.f k a1 a2 1).bind fun t460 => (if a1 = 0 then ((impl_WordWrite.f k a0_0).bind fun t461 => (if t460.size + t461.size ≤ 9223372036854775807 then ((impl_WordWrite.f k a0_1).bind fun t462 => (if (t460 ++ t461).size + t462.size ≤ 9223372036854775807 then (some ((t460 ++ t461) ++ t462)) else (none))) else (none))) else ((impl_WordWrite.f k a0_1).bind fun t463 => (if t460.size + t463.size ≤ 9223372036854775807 then (some (t460 ++ t463)) else (none))))
theorem impl_named.mono : ∀ a0 a1 a2 a3 a4 k, LeO (impl_named.f k a0 a1 a2 a3 a4) (impl_named.f (k + 1) a0 a1 a2 a3 a4) := by
 intro a0 a1 a2 a3 a4 k
 unfold impl_named.f
 have m0 := @impl_NumWrite.mono
 have m1 := @impl_WordWrite.mono
 exact zm
set_option maxHeartbeats 8000000 in
set_option maxRecDepth 100000 in
theorem impl_named.calls (k : Nat) (a0_0 : ByteArray) (a0_1 : ByteArray) (a0_2 : Bool) (a1 : Int) (a2 : Int) (r : ByteArray) (w : World) (h : impl_named.f k a0_0 a0_1 a0_2 a1 a2 = some r) :
  Calls Try.prog 82 #[.agg #[.string a0_0, .string a0_1, .bool a0_2], .int .i64 a1, .int .i64 a2] w fun e w' => e = .returned (.string r) ∧ Below w.heap.size w w' := by
 have hu36 := Try.underlying36
 have HB := Aside0.mk (Below.refl w.heap.size w)
 have H : ((impl_NumWrite.f k a1 a2 1).bind fun t460 => (if a1 = 0 then ((impl_WordWrite.f k a0_0).bind fun t461 => (if t460.size + t461.size ≤ 9223372036854775807 then ((impl_WordWrite.f k a0_1).bind fun t462 => (if (t460 ++ t461).size + t462.size ≤ 9223372036854775807 then (some ((t460 ++ t461) ++ t462)) else (none))) else (none))) else ((impl_WordWrite.f k a0_1).bind fun t463 => (if t460.size + t463.size ≤ 9223372036854775807 then (some (t460 ++ t463)) else (none))))) = some r := h
 clear h
 obtain ⟨t460, A4, H⟩ := ob H
 (try dsimp only at H)
 have HC5 := Aside0.mk H
 clear H
 go_enter Try.func82, Try.ntmps82
 go_upto_if 12 with (first | ((with_reducible refine gd 3 rfl ?_); refine bx (N := 3) (cs := #[.string a0_0, .string a0_1, .bool a0_2]) (t := 36) ?_; intro gb459 hg w6 hbox hb; have BK459 := Aside0.mk (hbox); have GW459 := gw HB hg; have GE459 := GW459; replace HB := Aside0.mk (below_step (zb HB) hb); clear hb hbox hg) | ((with_reducible refine gq 83 rfl ?_); refine gl (some 10) Try.func83 #[.int .i64 a1, .int .i64 a2, .int .i64 1] ?_; (with_reducible refine (impl_NumWrite.calls k a1 a2 1 t460 _ A4.out).mono ?_); rintro e w7 ⟨rfl, hb⟩; refine ⟨_, rfl, ?_⟩; replace BK459 := kb BK459 hb; replace HB := Aside0.mk (below_step (zb HB) hb); (try clear hb)))
 (try simp only [Act.put, s1, s2, s3])
 have H := HC5.out
 clear HC5
 replace H := sp H
 rcases H with ⟨c8, H⟩ | ⟨c8, H⟩
 ·skip
  have c8b0 : (a1 == 0) = true := beq_iff_eq.mpr c8
  have c8b1 : (a1 != 0) = false := bne_eq_false_iff_eq.mpr c8
  clear c8
  (first | rw [c8b0] | rw [c8b1] | rw [c8b2] | (simp only [i64_w, i32_w]; rw [c8b0]) | skip)
  obtain ⟨t461, A9, H⟩ := ob H
  (try dsimp only at H)
  by_cases c10 : t460.size + t461.size ≤ 9223372036854775807
  ·rw [if_pos c10] at H
   have c10b0 := eq_true c10
   have c10b1 := decide_eq_true c10
   try have c10b2 : (9223372036854775807 < t460.size + t461.size) = False := eq_false (Nat.not_lt.2 c10)
   obtain ⟨t462, A11, H⟩ := ob H
   (try dsimp only at H)
   by_cases c12 : (t460 ++ t461).size + t462.size ≤ 9223372036854775807
   ·rw [if_pos c12] at H
    have c12b0 := eq_true c12
    have c12b1 := decide_eq_true c12
    try have c12b2 : (9223372036854775807 < (t460 ++ t461).size + t462.size) = False := eq_false (Nat.not_lt.2 c12)
    try (have c12b3 := c12b2; rw [ByteArray.size_append] at c12b3)
    obtain rfl := Option.some.inj H
    obtain ⟨hcz13_0, hcz13_1, hcz13_2, hfz13_0, hfz13_1, hfz13_2⟩ := c3 BK459
    go_wp2_with (first | ((with_reducible refine gq 93 rfl ?_); refine gl (some 16) Try.func93 #[.string a0_0] ?_; (with_reducible refine (impl_WordWrite.calls k a0_0 t461 _ A9.out).mono ?_); rintro e w14 ⟨rfl, hb⟩; refine ⟨_, rfl, ?_⟩; replace BK459 := kb BK459 hb; replace HB := Aside0.mk (below_step (zb HB) hb); (try clear hb); obtain ⟨hcz15_0, hcz15_1, hcz15_2, hfz15_0, hfz15_1, hfz15_2⟩ := c3 BK459) | ((with_reducible refine gq 93 rfl ?_); refine gl (some 21) Try.func93 #[.string a0_1] ?_; (with_reducible refine (impl_WordWrite.calls k a0_1 t462 _ A11.out).mono ?_); rintro e w16 ⟨rfl, hb⟩; refine ⟨_, rfl, ?_⟩; replace BK459 := kb BK459 hb; replace HB := Aside0.mk (below_step (zb HB) hb); (try clear hb)))
    go_ret
    exact ⟨ze, zb HB⟩
   ·rw [if_neg c12] at H
    exact absurd H (by simp)
  ·rw [if_neg c10] at H
   exact absurd H (by simp)
 ·skip
  have c8b0 : (a1 == 0) = false := beq_eq_false_iff_ne.mpr c8
  have c8b1 : (a1 != 0) = true := bne_iff_ne.mpr c8
  (first | rw [c8b0] | rw [c8b1] | rw [c8b2] | (simp only [i64_w, i32_w]; rw [c8b0]) | skip)
  obtain ⟨t463, A17, H⟩ := ob H
  (try dsimp only at H)
  replace H := sp H
  rcases H with ⟨c18, H⟩ | ⟨c18, H⟩
  ·skip
   have c18b0 := eq_true c18
   have c18b1 := decide_eq_true c18
   try have c18b2 : (9223372036854775807 < t460.size + t463.size) = False := eq_false (Nat.not_lt.2 c18)
   obtain rfl := Option.some.inj H
   obtain ⟨hcz19_0, hcz19_1, hcz19_2, hfz19_0, hfz19_1, hfz19_2⟩ := c3 BK459
   go_wp2_with (first | ((with_reducible refine gq 93 rfl ?_); refine gl (some 21) Try.func93 #[.string a0_1] ?_; (with_reducible refine (impl_WordWrite.calls k a0_1 t463 _ A17.out).mono ?_); rintro e w20 ⟨rfl, hb⟩; refine ⟨_, rfl, ?_⟩; replace BK459 := kb BK459 hb; replace HB := Aside0.mk (below_step (zb HB) hb); (try clear hb)))
   go_ret
   exact ⟨ze, zb HB⟩
  ·skip
   exact absurd H (by simp)

end Go.Proofs.Ytdhahifdcoinhaa.PFnHeadFixed
