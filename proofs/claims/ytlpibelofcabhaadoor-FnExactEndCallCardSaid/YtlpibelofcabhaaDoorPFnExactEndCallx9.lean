-- WRITTEN BY a turned print (wip/tools of the prover's repo)
import Derived.Test.YtlpibelofcabhaaDoorPFnExactEndCallx0
namespace Go.Proofs.YtlpibelofcabhaaDoor.PFnExactEndCall
open Go.RowKit Go.Proofs.YtlpibelofcabhaaDoorW.PrintWords Go.Proofs.YtlpibelofcabhaaDoorW.PrintLast Go.Proofs.YtlpibelofcabhaaDoorW.PrintMore Go.Proofs.YtlpibelofcabhaaDoor.Lm
attribute [local go_sem] max2_int min2_int max_two min_two max_three min_three max_four min_four   -- for this text's walks alone
set_option linter.unusedVariables false
set_option linter.unusedSimpArgs false

/-! ### impl_cloneFields: function 59 -/
-- by hand
/-- A row like the one that came in. -/
def impl_cloneFields.f (l0 : List (S61)) : Option (List (S61)) := if l0.length < 3518437208883 then some l0 else none
set_option maxHeartbeats 4000000 in
set_option maxRecDepth 100000 in
theorem impl_cloneFields.calls (A0 : Option Addr) (c0 : Nat) (l0 : List (S61)) (r : List (S61)) (w : World) (hr0 : Kd.C k61 w A0 l0.length l0) (hc0 : l0.length ≤ c0) (h : impl_cloneFields.f l0 = some r) :
    Calls Tryd.prog 59 #[.slice A0 l0.length c0] w fun e w' => ∃ v0_ : Value, e = .returned (v0_) ∧ Kd.R k61 61 w' w.heap.size (fun _ => True) v0_ r ∧ Below w.heap.size w w' := by
  unfold impl_cloneFields.f at h
  split at h
  case isFalse => cases h
  rename_i hl
  obtain rfl := Option.some.inj h
  clear h
  have HR0 := Aside0.mk hr0
  clear hr0
  go_enter Tryd.func59, Tryd.ntmps59
  go_wp2_with (first | (at_builtin; refine Kd.R_append_rows k61 (w0 := w) w.heap.size rfl (.const (.slice none 0 0)) (.tmp 3) 32 61 (.agg #[(.string ⟨#[]⟩), (.string ⟨#[]⟩), (.bool false)]) 40 rfl Tryd.underlying32 info61 rfl (by decide) (by omega) (.slice none 0 0) [] l0 _ _ _ (fun _ => True) (fun _ => False) rfl rfl ?aO ?aR (fun _ _ h => h) (fun _ h => h.elim) ?aF ?aB ?aS ?aL ?_; (case aR => exact HR0.out); (case aB => exact Below.refl _ _); (case aF => exact (fun _ _ => trivial)); (case aO => exact Kd.R_nil _ _ _ _ _); (case aS => exact Nat.le_refl _); (case aL => simp only [List.length_nil]; omega); intro v1 w1 ho hb hg hat; rw [List.nil_append] at ho; have N1 := Aside0.mk ho; have N2 := Aside0.mk hb; clear ho hb hg hat))
  go_ret
  exact ⟨_, rfl, N1.out, N2.out⟩

/-! ### impl_Table_clone: function 58 -/
-- thin
def impl_Table_clone.f (l0_0 : List (S61)) (a0_1 : Int) : Option ((List (S61)) × Int) := (impl_cloneFields.f l0_0).bind fun t394 => (some (t394, a0_1))
set_option maxHeartbeats 8000000 in
set_option maxRecDepth 100000 in
theorem impl_Table_clone.calls (A0_0 : Option Addr) (c0_0 : Nat) (l0_0 : List (S61)) (a0_1 : Int) (r1 : List (S61)) (r2 : Int) (w : World) (hr0_0 : Kd.C k61 w A0_0 l0_0.length l0_0) (hc0_0 : l0_0.length ≤ c0_0) (h : impl_Table_clone.f l0_0 a0_1 = some (r1, r2)) :
  Calls Tryd.prog 58 #[.agg #[.slice A0_0 l0_0.length c0_0, .int .i64 a0_1]] w fun e w' => ∃ v0_ : Value, e = .returned (.agg #[v0_, .int .i64 r2]) ∧ Kd.R k61 61 w' w.heap.size (fun _ => True) v0_ r1 ∧ Below w.heap.size w w' := by
 have hu34 := Tryd.underlying34
 have HR0_0 := Aside0.mk hr0_0
 have HC0_0 := Aside0.mk hc0_0
 clear hr0_0 hc0_0
 have HB := Aside0.mk (Below.refl w.heap.size w)
 have H : ((impl_cloneFields.f l0_0).bind fun t394 => (some (t394, a0_1))) = some (r1, r2) := h
 clear h
 obtain ⟨t394, A2, H⟩ := ob H
 (try dsimp only at H)
 simp only [Option.some.injEq, Prod.mk.injEq] at H
 obtain ⟨rfl, rfl⟩ := H
 go_enter Tryd.func58, Tryd.ntmps58
 try go_wp2_with (first | ((with_reducible refine gd 1 rfl ?_); refine bx (N := 1) (cs := #[.slice A0_0 l0_0.length c0_0, .int .i64 a0_1]) (t := 34) ?_; intro gb392 hg w3 hbox hb; have BK392 := Aside0.mk (hbox); have GW392 := gw HB hg; have GE392 := GW392; replace HB := Aside0.mk (below_step (zb HB) hb); clear hb hbox hg) | ((with_reducible refine gd 2 rfl ?_); refine bx (N := 2) (cs := #[.slice none 0 0, .int .i64 0]) (t := 34) ?_; intro gb393 hg w4 hbox hb; have BK393 := Aside0.mk (hbox); have GW393 := gw HB hg; have GE393 := GW393; replace HB := Aside0.mk (below_step (zb HB) hb); obtain ⟨NB392_393, NB393_392⟩ := nb BK392 hg; replace BK392 := kb BK392 hb; clear hb hbox hg))
 replace BK392 := Aside0.mk (blk_drew BK392.out)
 replace BK393 := Aside0.mk (blk_drew BK393.out)
 replace HB := Aside0.mk (below_drew1 HB.out)
 refine st 7 (b2 BK392) (fun hHeld => ?_)
 generalize w4.drew = w5 at BK392 BK393 HB hHeld ⊢
 refine pu 0 (some 3) (bm 7 1) rfl rfl ?_
 refine pu 3 (some 6) (bm 7 9) rfl rfl ?_
 refine tk 1 (some 4) (bm 7 11) rfl rfl hHeld ?_
 refine tk 4 (some 7) (bm 7 27) rfl rfl hHeld ?_
 refine one_ (i := 2) (N := some 5) (bm 7 31) rfl rfl (by kernel_rfl) (by decide) (fun K hK => ?_)
 refine gs Tryd.func59 #[.slice A0_0 l0_0.length c0_0] ?_
 with_reducible refine (impl_cloneFields.calls _ _ l0_0 t394 _ ?side1 ?side2 A2.out).mono ?_
 (case side1 => exact zc (Kd.C_below HR0_0.out HB.out))
 (case side2 => exact HC0_0.out)
 rintro e w6 ⟨v395, rfl, ho0, hb⟩
 refine ⟨_, rfl, ?_⟩
 have HO396 := Aside0.mk (Kd.R_lower ho0 (below_size (zb HB)))
 replace BK392 := kb BK392 hb
 replace BK393 := kb BK393 hb
 replace HB := Aside0.mk (below_step (zb HB) hb)
 (try clear hb)
 (try clear ho0)
 obtain ⟨Ao7, co7, eo7⟩ := Kd.R_slice HO396.out
 (first | subst eo7 | (injection eo7 with f1_ f2_ f3_; have f4_ := f1_.symm; have f5_ := f3_.symm; clear f1_ f2_ f3_; subst f4_; subst f5_))
 refine hK.out _ _ (b2 BK392) (fun hHeld => ?_)
 clear hK K
 refine nm ?_
 refine pu 5 (some 8) (bm 7 63) rfl rfl ?_
 refine one_ (i := 6) (N := none) (bm 7 127) rfl rfl (by kernel_rfl) (by decide) (fun K hK => ?_)
 have hs8 : w6.cell? ⟨gb393, 0, none⟩ = some (.slice none 0 0) := (blk_cell BK393.out 0).trans rfl
 have hfs8 := blk_frozen BK393.out 0
 have hns8_0 := NB392_393.out
 have hms8_0 := NB393_392.out
 have hs9 : w6.cell? ⟨gb393, 1, none⟩ = some (.int .i64 0) := (blk_cell BK393.out 1).trans rfl
 have hfs9 := blk_frozen BK393.out 1
 have hns9_0 := NB392_393.out
 have hms9_0 := NB393_392.out
 refine skip_ (w1 := ?_) (by rfl) rfl ?_ ?_
 rotate_left
 ·go_simp
  rfl
 refine hK.out _ _ ⟨((cell_far (p := ⟨gb393, _, none⟩) NB392_393.out _).trans (((cell_far (p := ⟨gb393, _, none⟩) NB392_393.out _).trans (hHeld.1)))), ((cell_far (p := ⟨gb393, _, none⟩) NB392_393.out _).trans (((cell_far (p := ⟨gb393, _, none⟩) NB392_393.out _).trans (hHeld.2))))⟩ (fun hHeld => ?_)
 clear hK K
 refine done_ (by kernel_rfl) ?_
 try go_wp2
 refine bodyPost_ret (results_cell_row rfl _ _ gb393 34 #[.slice Ao7 t394.length co7, .int .i64 a0_1] (0, 0) _ rfl (zp BK393) Tryd.underlying34 rfl (by kernel_rfl)) rfl ?_
 exact ⟨_, ze, (Kd.R_mono (ztR (Kd.R_types HO396.out BK393.out (by decide))) (fun _ hk => trivial)), zb HB⟩

/-! ### impl_End_clone: function 22 -/
-- thin
def impl_End_clone.l0 : Nat → List (S58) → List (S58) → Int → Int → Bool → List (S61) → Int → List (S61) → Int → ByteArray → List (S58) → Int → Int → List (S79) → Bool → Option (Bool × (List (S61)) × Int × (List (S61)) × Int × ByteArray × (List (S58)) × Int × Int × (List (S79)) × Bool)
 | 0, _, _, _, _, _, _, _, _, _, _, _, _, _, _, _ => none
 | k + 1, x3, x19, x20, x21, x398000, x398001, x398002, x398003, x398004, x398005, x398006, x398007, x398008, x398009, x398010 => if x21 < x20 then (if 0 ≤ x21 then (if x21 < (x19.length : Int) then ((impl_cloneFields.f ((rd_T58 x19 x21).f2)).bind fun t412 => ((impl_cloneFields.f ((rd_T58 x19 x21).f7)).bind fun t415 => (if x3.length < 1034834473200 then (impl_End_clone.l0 k (x3 ++ [(⟨(rd_T58 x19 x21).f0, (rd_T58 x19 x21).f1, t412, (rd_T58 x19 x21).f3, (rd_T58 x19 x21).f4, (rd_T58 x19 x21).f5, (rd_T58 x19 x21).f6, t415, (rd_T58 x19 x21).f8, (rd_T58 x19 x21).f9, (⟨(rd_T58 x19 x21).f10.f0, (rd_T58 x19 x21).f10.f1⟩ : S36)⟩ : S58)]) x19 x20 (wrap64 (x21 + 1)) x398000 x398001 x398002 x398003 x398004 x398005 x398006 x398007 x398008 x398009 x398010) else (none)))) else (none)) else (none)) else (some (x398000, x398001, x398002, x398003, x398004, x398005, x3, x398007, x398008, x398009, x398010))
def impl_End_clone.f (k : Nat) (a0_0 : Bool) (l0_1 : List (S61)) (a0_2 : Int) (l0_3 : List (S61)) (a0_4 : Int) (a0_5 : ByteArray) (l0_6 : List (S58)) (a0_7 : Int) (a0_8 : Int) (l0_9 : List (S79)) (a0_10 : Bool) : Option (Bool × (List (S61)) × Int × (List (S61)) × Int × ByteArray × (List (S58)) × Int × Int × (List (S79)) × Bool) := (impl_Table_clone.f l0_1 a0_2).bind fun bt399 => ((impl_Table_clone.f l0_3 a0_4).bind fun bt403 => (if ([] : List (S79)).length + l0_9.length < 3518437208883 then (impl_End_clone.l0 k ([] : List (S58)) l0_6 (l0_6.length : Int) 0 a0_0 bt399.1 bt399.2 bt403.1 bt403.2 a0_5 l0_6 a0_7 a0_8 (([] : List (S79)) ++ l0_9) a0_10) else (none)))
theorem impl_End_clone.mono_l : ∀ k, (∀ y0 y1 y2 y3 y4 y5 y6 y7 y8 y9 y10 y11 y12 y13 y14, LeO (impl_End_clone.l0 k y0 y1 y2 y3 y4 y5 y6 y7 y8 y9 y10 y11 y12 y13 y14) (impl_End_clone.l0 (k + 1) y0 y1 y2 y3 y4 y5 y6 y7 y8 y9 y10 y11 y12 y13 y14))
 | 0 => fun _ _ _ _ _ _ _ _ _ _ _ _ _ _ _ r h => by simp [impl_End_clone.l0] at h
 | k + 1 => by
  have ih0 := impl_End_clone.mono_l k
  ·intro y0 y1 y2 y3 y4 y5 y6 y7 y8 y9 y10 y11 y12 y13 y14
   unfold impl_End_clone.l0
   exact zm
theorem impl_End_clone.mono : ∀ a0 a1 a2 a3 a4 a5 a6 a7 a8 a9 a10 k, LeO (impl_End_clone.f k a0 a1 a2 a3 a4 a5 a6 a7 a8 a9 a10) (impl_End_clone.f (k + 1) a0 a1 a2 a3 a4 a5 a6 a7 a8 a9 a10) := by
 intro a0 a1 a2 a3 a4 a5 a6 a7 a8 a9 a10 k
 have ih0 := impl_End_clone.mono_l k
 unfold impl_End_clone.f
 exact zm
def impl_End_clone.T1 : Bool × List (List Nat × List Nat) := (true, [([], []), ([0], [0]), ([1], [1]), ([], []), ([3], [3]), ([4, 2], [4]), ([], []), ([6], [6]), ([7, 5], [7]), ([0, 1, 2, 3, 4, 6, 7], []), ([9, 2, 8, 0, 1, 2, 3, 4, 6, 7], [2, 9]), ([0, 1, 2, 3, 4, 5, 6, 7, 9, 10], []), ([11, 5, 10, 0, 1, 2, 3, 4, 5, 6, 7, 9, 10], [5, 11]), ([0, 1, 2, 3, 4, 5, 6, 7, 8, 9, 10, 11, 12], []), ([13, 8, 12, 0, 1, 2, 3, 4, 5, 6, 7, 8, 9, 10, 11, 12], [8, 13])])
def impl_End_clone.B1 : List Nat := [0, 1, 3, 0, 8, 31, 0, 64, 255, 223, 1023, 2047, 4095, 8191, 16383]
theorem impl_End_clone.tab1 : rtab .any (opsOf Tryd.f22 1) = impl_End_clone.T1 := by kernel_rfl
theorem impl_End_clone.bits1 : waitsOk impl_End_clone.T1.2 impl_End_clone.B1 = true := by kernel_rfl
def impl_End_clone.T6 : Bool × List (List Nat × List Nat) := (true, [([], []), ([0], [0]), ([1], [1]), ([], []), ([3], [3]), ([4, 2], [4]), ([0, 1, 2, 3, 4], []), ([6, 2, 5, 0, 1, 2, 3, 4], [2, 6]), ([0, 1, 2, 3, 4, 5, 6, 7], []), ([8, 5, 7, 0, 1, 2, 3, 4, 5, 6, 7], [5, 8])])
def impl_End_clone.B6 : List Nat := [0, 1, 3, 0, 8, 31, 31, 127, 255, 511]
theorem impl_End_clone.tab6 : rtab .any (opsOf Tryd.f22 6) = impl_End_clone.T6 := by kernel_rfl
theorem impl_End_clone.bits6 : waitsOk impl_End_clone.T6.2 impl_End_clone.B6 = true := by kernel_rfl
set_option maxHeartbeats 8000000 in
set_option maxRecDepth 100000 in
theorem impl_End_clone.calls (k : Nat) (a0_0 : Bool) (A0_1 : Option Addr) (c0_1 : Nat) (l0_1 : List (S61)) (a0_2 : Int) (A0_3 : Option Addr) (c0_3 : Nat) (l0_3 : List (S61)) (a0_4 : Int) (a0_5 : ByteArray) (A0_6 : Option Addr) (c0_6 : Nat) (l0_6 : List (S58)) (a0_7 : Int) (a0_8 : Int) (A0_9 : Option Addr) (c0_9 : Nat) (l0_9 : List (S79)) (a0_10 : Bool) (r1 : Bool) (r2 : List (S61)) (r3 : Int) (r4 : List (S61)) (r5 : Int) (r6 : ByteArray) (r7 : List (S58)) (r8 : Int) (r9 : Int) (r10 : List (S79)) (r11 : Bool) (w : World) (hr0_1 : Kd.C k61 w A0_1 l0_1.length l0_1) (hc0_1 : l0_1.length ≤ c0_1) (hr0_3 : Kd.C k61 w A0_3 l0_3.length l0_3) (hc0_3 : l0_3.length ≤ c0_3) (hr0_6 : Kd.C k58 w A0_6 l0_6.length l0_6) (hc0_6 : l0_6.length ≤ c0_6) (hr0_9 : Kd.C k79 w A0_9 l0_9.length l0_9) (hc0_9 : l0_9.length ≤ c0_9) (h : impl_End_clone.f k a0_0 l0_1 a0_2 l0_3 a0_4 a0_5 l0_6 a0_7 a0_8 l0_9 a0_10 = some (r1, r2, r3, r4, r5, r6, r7, r8, r9, r10, r11)) :
  Calls Tryd.prog 22 #[.agg #[.bool a0_0, .slice A0_1 l0_1.length c0_1, .int .i64 a0_2, .slice A0_3 l0_3.length c0_3, .int .i64 a0_4, .string a0_5, .slice A0_6 l0_6.length c0_6, .int .i64 a0_7, .int .i64 a0_8, .slice A0_9 l0_9.length c0_9, .bool a0_10]] w fun e w' => ∃ v1_ v3_ v6_ v9_ : Value, e = .returned (.agg #[.bool r1, v1_, .int .i64 r3, v3_, .int .i64 r5, .string r6, v6_, .int .i64 r8, .int .i64 r9, v9_, .bool r11]) ∧ Kd.R k61 61 w' w.heap.size (fun k_ => some k_ ≠ (v3_ : Value).ownBlock) v1_ r2 ∧ Kd.R k61 61 w' w.heap.size (fun k_ => some k_ ≠ (v1_ : Value).ownBlock) v3_ r4 ∧ Kd.S k58 58 w' w.heap.size (fun k_ => some k_ ≠ (v1_ : Value).ownBlock ∧ some k_ ≠ (v3_ : Value).ownBlock) v6_ r7 ∧ Kd.R k79 79 w' w.heap.size (fun _ => True) v9_ r10 ∧ Below w.heap.size w w' := by
 have hu39 := Tryd.underlying39
 have hu34 := Tryd.underlying34
 have hu58 := Tryd.underlying58
 have HR0_1 := Aside0.mk hr0_1
 have HC0_1 := Aside0.mk hc0_1
 clear hr0_1 hc0_1
 have HR0_3 := Aside0.mk hr0_3
 have HC0_3 := Aside0.mk hc0_3
 clear hr0_3 hc0_3
 have HR0_6 := Aside0.mk hr0_6
 have HC0_6 := Aside0.mk hc0_6
 clear hr0_6 hc0_6
 have HR0_9 := Aside0.mk hr0_9
 have HC0_9 := Aside0.mk hc0_9
 clear hr0_9 hc0_9
 have HB := Aside0.mk (Below.refl w.heap.size w)
 have H : ((impl_Table_clone.f l0_1 a0_2).bind fun bt399 => ((impl_Table_clone.f l0_3 a0_4).bind fun bt403 => (if ([] : List (S79)).length + l0_9.length < 3518437208883 then (impl_End_clone.l0 k ([] : List (S58)) l0_6 (l0_6.length : Int) 0 a0_0 bt399.1 bt399.2 bt403.1 bt403.2 a0_5 l0_6 a0_7 a0_8 (([] : List (S79)) ++ l0_9) a0_10) else (none)))) = some (r1, r2, r3, r4, r5, r6, r7, r8, r9, r10, r11) := h
 clear h
 obtain ⟨⟨t399, t402⟩, A2, H⟩ := ob H
 (try dsimp only at H)
 obtain ⟨⟨t403, t406⟩, A3, H⟩ := ob H
 (try dsimp only at H)
 replace H := sp H
 rcases H with ⟨c4, H⟩ | ⟨c4, H⟩
 ·skip
  have LMc4 := Aside0.mk c4
  clear c4
  obtain ⟨y407, hy407⟩ : ∃ y_ : List (S79), y_ = (([] : List (S79)) ++ l0_9) := ⟨_, rfl⟩
  replace H : (impl_End_clone.l0 k ([] : List (S58)) l0_6 (l0_6.length : Int) 0 a0_0 t399 t402 t403 t406 a0_5 l0_6 a0_7 a0_8 y407 a0_10) = some (r1, r2, r3, r4, r5, r6, r7, r8, r9, r10, r11) := by first | (rw [hy407]; with_reducible exact H) | (have H2_ := (Option.bind_some _ _).symm.trans H; rw [hy407]; with_reducible exact H2_) | (have H2_ := (Option.bind_some _ _).symm.trans H; with_reducible exact H2_) | with_reducible exact H | (rw [hy407]; exact H) | exact H
  have Ny407 := Aside0.mk hy407
  clear hy407
  have H' := Aside0.mk H
  clear H
  go_enter Tryd.func22, Tryd.ntmps22
  try go_wp2_with (first | ((with_reducible refine gd 1 rfl ?_); refine bx (N := 1) (cs := #[.bool a0_0, .slice A0_1 l0_1.length c0_1, .int .i64 a0_2, .slice A0_3 l0_3.length c0_3, .int .i64 a0_4, .string a0_5, .slice A0_6 l0_6.length c0_6, .int .i64 a0_7, .int .i64 a0_8, .slice A0_9 l0_9.length c0_9, .bool a0_10]) (t := 39) ?_; intro gb397 hg w5 hbox hb; have BK397 := Aside0.mk (hbox); have GW397 := gw HB hg; have GE397 := GW397; replace HB := Aside0.mk (below_step (zb HB) hb); clear hb hbox hg) | ((with_reducible refine gd 2 rfl ?_); refine bx (N := 2) (cs := #[.bool false, .slice none 0 0, .int .i64 0, .slice none 0 0, .int .i64 0, .string (⟨#[]⟩ : ByteArray), .slice none 0 0, .int .i64 0, .int .i64 0, .slice none 0 0, .bool false]) (t := 39) ?_; intro gb398 hg w6 hbox hb; have BK398 := Aside0.mk (hbox); have GW398 := gw HB hg; have GE398 := GW398; replace HB := Aside0.mk (below_step (zb HB) hb); obtain ⟨NB397_398, NB398_397⟩ := nb BK397 hg; replace BK397 := kb BK397 hb; clear hb hbox hg))
  replace BK397 := Aside0.mk (blk_drew BK397.out)
  replace BK398 := Aside0.mk (blk_drew BK398.out)
  replace HB := Aside0.mk (below_drew1 HB.out)
  refine start_ (n := 15) (S := fun w' => w'.cell? ⟨gb397, 0, none⟩ = some (.bool a0_0) ∧ w'.cell? ⟨gb397, 1, none⟩ = some (.slice A0_1 l0_1.length c0_1) ∧ w'.cell? ⟨gb397, 2, none⟩ = some (.int .i64 a0_2) ∧ w'.cell? ⟨gb397, 3, none⟩ = some (.slice A0_3 l0_3.length c0_3) ∧ w'.cell? ⟨gb397, 4, none⟩ = some (.int .i64 a0_4) ∧ w'.cell? ⟨gb397, 5, none⟩ = some (.string a0_5) ∧ w'.cell? ⟨gb397, 6, none⟩ = some (.slice A0_6 l0_6.length c0_6) ∧ w'.cell? ⟨gb397, 7, none⟩ = some (.int .i64 a0_7) ∧ w'.cell? ⟨gb397, 8, none⟩ = some (.int .i64 a0_8) ∧ w'.cell? ⟨gb397, 9, none⟩ = some (.slice A0_9 l0_9.length c0_9) ∧ w'.cell? ⟨gb397, 10, none⟩ = some (.bool a0_10)) (ds := [10, 12, 14]) #[false, false, false, false, false, false, false, false, false, false, false, false, false, false, false] (by kernel_rfl) rfl rfl ⟨(blk_cell BK397.out 0).trans rfl, (blk_cell BK397.out 1).trans rfl, (blk_cell BK397.out 2).trans rfl, (blk_cell BK397.out 3).trans rfl, (blk_cell BK397.out 4).trans rfl, (blk_cell BK397.out 5).trans rfl, (blk_cell BK397.out 6).trans rfl, (blk_cell BK397.out 7).trans rfl, (blk_cell BK397.out 8).trans rfl, (blk_cell BK397.out 9).trans rfl, (blk_cell BK397.out 10).trans rfl⟩ (fun hHeld => ?_); refine with_tabW impl_End_clone.tab1 impl_End_clone.bits1 (fun HT_ HW_ => ?_)
  generalize w6.drew = w7 at BK397 BK398 HB hHeld ⊢
  refine pu 0 (some 6) (bm 15 1) rfl rfl ?_
  refine pu 3 (some 9) (bm 15 9) rfl rfl ?_
  refine pu 6 (some 12) (bm 15 73) rfl rfl ?_
  refine tk 1 (some 7) (bm 15 75) rfl rfl hHeld ?_
  refine tk 4 (some 10) (bm 15 91) rfl rfl hHeld ?_
  refine tk 7 (some 13) (bm 15 219) rfl rfl hHeld ?_
  refine one_ (i := 2) (N := some 8) (bm 15 223) rfl rfl (one_of HT_.out (by kernel_rfl)) (by decide) (fun K hK => ?_)
  refine gs Tryd.func58 #[.agg #[.slice A0_1 l0_1.length c0_1, .int .i64 a0_2]] ?_
  with_reducible refine (impl_Table_clone.calls _ _ l0_1 a0_2 t399 t402 _ ?side1 ?side2 A2.out).mono ?_
  (case side1 => exact zc (Kd.C_below HR0_1.out HB.out))
  (case side2 => exact HC0_1.out)
  rintro e w8 ⟨v400, rfl, ho0, hb⟩
  refine ⟨_, rfl, ?_⟩
  have HO401 := Aside0.mk (Kd.R_lower ho0 (below_size (zb HB)))
  replace BK397 := kb BK397 hb
  replace BK398 := kb BK398 hb
  replace HB := Aside0.mk (below_step (zb HB) hb)
  (try clear hb)
  (try clear ho0)
  refine hK.out _ _ ⟨(blk_cell BK397.out 0).trans rfl, (blk_cell BK397.out 1).trans rfl, (blk_cell BK397.out 2).trans rfl, (blk_cell BK397.out 3).trans rfl, (blk_cell BK397.out 4).trans rfl, (blk_cell BK397.out 5).trans rfl, (blk_cell BK397.out 6).trans rfl, (blk_cell BK397.out 7).trans rfl, (blk_cell BK397.out 8).trans rfl, (blk_cell BK397.out 9).trans rfl, (blk_cell BK397.out 10).trans rfl⟩ (fun hHeld => ?_)
  clear hK K
  refine nm ?_
  refine pu 9 (some 15) (bm 15 735) rfl rfl ?_
  refine one_ (i := 5) (N := some 11) (bm 15 767) rfl rfl (one_of HT_.out (by kernel_rfl)) (by decide) (fun K hK => ?_)
  refine gs Tryd.func58 #[.agg #[.slice A0_3 l0_3.length c0_3, .int .i64 a0_4]] ?_
  with_reducible refine (impl_Table_clone.calls _ _ l0_3 a0_4 t403 t406 _ ?side1 ?side2 A3.out).mono ?_
  (case side1 => exact zc (Kd.C_below HR0_3.out HB.out))
  (case side2 => exact HC0_3.out)
  rintro e w9 ⟨v404, rfl, ho0, hb⟩
  refine ⟨_, rfl, ?_⟩
  have HO405 := Aside0.mk (Kd.R_lower (Kd.R_new' ho0 (Kd.R_lt (zr HO401))) (below_size (zb HB)))
  replace HO401 := Aside0.mk (Kd.R_elder' (zr HO401) (Kd.R_base ho0) hb)
  replace BK397 := kb BK397 hb
  replace BK398 := kb BK398 hb
  replace HB := Aside0.mk (below_step (zb HB) hb)
  (try clear hb)
  (try clear ho0)
  refine hK.out _ _ ⟨(blk_cell BK397.out 0).trans rfl, (blk_cell BK397.out 1).trans rfl, (blk_cell BK397.out 2).trans rfl, (blk_cell BK397.out 3).trans rfl, (blk_cell BK397.out 4).trans rfl, (blk_cell BK397.out 5).trans rfl, (blk_cell BK397.out 6).trans rfl, (blk_cell BK397.out 7).trans rfl, (blk_cell BK397.out 8).trans rfl, (blk_cell BK397.out 9).trans rfl, (blk_cell BK397.out 10).trans rfl⟩ (fun hHeld => ?_)
  clear hK K
  refine nm ?_
  refine one_ (i := 8) (N := some 14) (bm 15 1023) rfl rfl (one_of HT_.out (by kernel_rfl)) (by decide) (fun K hK => ?_)
  refine Kd.R_append_rows_step k79 (w0 := w) w.heap.size (by rfl) (.const (.slice none 0 0)) (.tmp 13) 37 79 (.agg #[(.int .i64 0), (.bool false), (.int .i64 0), (.string ⟨#[]⟩)]) 40 rfl Tryd.underlying37 info79 rfl (by decide) (by omega) (.slice none 0 0) ([] : List (S79)) l0_9 _ _ _ (fun _ => True) (fun _ => False) rfl rfl ?aO ?aR (fun _ _ h => h) (fun _ h => h.elim) ?aF ?aB ?aS ?aL ?_
  (case aR => exact zc (Kd.C_below HR0_9.out HB.out))
  (case aB => exact (zb HB))
  (case aF => exact (fun _ _ => trivial))
  (case aO => exact ((Kd.R_nil _ _ _ _ (fun _ => True))))
  (case aS => exact (below_size (zb HB)))
  (case aL => have := LMc4.out; omega)
  intro v408 w10 ho hb hg hat
  rw [← Ny407.out] at ho
  replace BK397 := Aside0.mk (blk_grown (zk BK397) hg (by simp [Value.ownBlock]))
  replace BK398 := Aside0.mk (blk_grown (zk BK398) hg (by simp [Value.ownBlock]))
  replace HO401 := Aside0.mk (Kd.R_step (zr HO401) (fun k_ _ h_ => hg.block k_ h_ (by simp [Value.ownBlock])))
  replace HO405 := Aside0.mk (Kd.R_step (zr HO405) (fun k_ _ h_ => hg.block k_ h_ (by simp [Value.ownBlock])))
  replace HB := Aside0.mk (hb)
  have HO409 := Aside0.mk (ho)
  clear ho hb hg hat
  obtain ⟨Ao11, co11, eo11⟩ := Kd.R_slice HO401.out
  (first | subst eo11 | (injection eo11 with f1_ f2_ f3_; have f4_ := f1_.symm; have f5_ := f3_.symm; clear f1_ f2_ f3_; subst f4_; subst f5_))
  obtain ⟨Ao14, co14, eo14⟩ := Kd.R_slice HO405.out
  (first | subst eo14 | (injection eo14 with f1_ f2_ f3_; have f4_ := f1_.symm; have f5_ := f3_.symm; clear f1_ f2_ f3_; subst f4_; subst f5_))
  obtain ⟨Ao17, co17, eo17⟩ := Kd.R_slice HO409.out
  (first | subst eo17 | (injection eo17 with f1_ f2_ f3_; have f4_ := f1_.symm; have f5_ := f3_.symm; clear f1_ f2_ f3_; subst f4_; subst f5_))
  refine hK.out _ _ ⟨(blk_cell BK397.out 0).trans rfl, (blk_cell BK397.out 1).trans rfl, (blk_cell BK397.out 2).trans rfl, (blk_cell BK397.out 3).trans rfl, (blk_cell BK397.out 4).trans rfl, (blk_cell BK397.out 5).trans rfl, (blk_cell BK397.out 6).trans rfl, (blk_cell BK397.out 7).trans rfl, (blk_cell BK397.out 8).trans rfl, (blk_cell BK397.out 9).trans rfl, (blk_cell BK397.out 10).trans rfl⟩ (fun hHeld => ?_)
  clear hK K
  refine nm ?_
  refine last_ (i := 10) (N := none) #[true, true, true, true, true, true, true, true, true, true, true, false, false, false, false] rfl rfl (one_of HT_.out (by kernel_rfl)) (by decide) (fun K hK => ?_)
  have hs12 : w10.cell? ⟨gb397, 1, none⟩ = some (.slice A0_1 l0_1.length c0_1) := (blk_cell BK397.out 1).trans rfl
  have hfs12 := blk_frozen BK397.out 1
  have hns12_1 := NB398_397.out
  have hms12_1 := NB397_398.out
  have hs13 : w10.cell? ⟨gb397, 2, none⟩ = some (.int .i64 a0_2) := (blk_cell BK397.out 2).trans rfl
  have hfs13 := blk_frozen BK397.out 2
  have hns13_1 := NB398_397.out
  have hms13_1 := NB397_398.out
  refine skip_ (w1 := ?_) (by rfl) rfl ?_ ?_
  rotate_left
  ·go_simp
   rfl
  refine hK.out _ _ ?_
  clear hK K
  refine pu 11 (some 16) (bm 15 4095) rfl rfl ?_
  refine last_ (i := 12) (N := none) #[true, true, true, true, true, true, true, true, true, true, true, true, true, false, false] rfl rfl (one_of HT_.out (by kernel_rfl)) (by decide) (fun K hK => ?_)
  have hs15 : w10.cell? ⟨gb397, 3, none⟩ = some (.slice A0_3 l0_3.length c0_3) := (blk_cell BK397.out 3).trans rfl
  have hfs15 := blk_frozen BK397.out 3
  have hns15_1 := NB398_397.out
  have hms15_1 := NB397_398.out
  have hs16 : w10.cell? ⟨gb397, 4, none⟩ = some (.int .i64 a0_4) := (blk_cell BK397.out 4).trans rfl
  have hfs16 := blk_frozen BK397.out 4
  have hns16_1 := NB398_397.out
  have hms16_1 := NB397_398.out
  refine skip_ (w1 := ?_) (by rfl) rfl ?_ ?_
  rotate_left
  ·go_simp
   rfl
  refine hK.out _ _ ?_
  clear hK K
  refine pu 13 (some 17) (bm 15 16383) rfl rfl ?_
  refine last_ (i := 14) (N := none) #[true, true, true, true, true, true, true, true, true, true, true, true, true, true, true] rfl rfl (one_of HT_.out (by kernel_rfl)) (by decide) (fun K hK => ?_)
  have hs18 : w10.cell? ⟨gb397, 9, none⟩ = some (.slice A0_9 l0_9.length c0_9) := (blk_cell BK397.out 9).trans rfl
  have hfs18 := blk_frozen BK397.out 9
  have hns18_1 := NB398_397.out
  have hms18_1 := NB397_398.out
  refine skip_ (w1 := ?_) (by rfl) rfl ?_ ?_
  rotate_left
  ·go_simp
   rfl
  refine hK.out _ _ ?_
  clear hK K
  refine done_ (done_of HT_.out (by kernel_rfl)) ?_
  have hnb19 := NB397_398.out
  have hnc19 := NB398_397.out
  obtain ⟨hcz20_0, hcz20_1, hcz20_2, hcz20_3, hcz20_4, hcz20_5, hcz20_6, hcz20_7, hcz20_8, hcz20_9, hcz20_10, hfz20_0, hfz20_1, hfz20_2, hfz20_3, hfz20_4, hfz20_5, hfz20_6, hfz20_7, hfz20_8, hfz20_9, hfz20_10⟩ := c11 BK397
  try go_wp2
  go_loopg [3, 21] k (fun kq v3 v21 w' => ∃ (x3_1 : List (S58)) (x21_1 : Int), v21 = .int .i64 x21_1 ∧ Aside0 (impl_End_clone.l0 kq x3_1 l0_6 (l0_6.length : Int) x21_1 a0_0 t399 t402 t403 t406 a0_5 l0_6 a0_7 a0_8 y407 a0_10 = some (r1, r2, r3, r4, r5, r6, r7, r8, r9, r10, r11)) ∧ Aside0 (kq ≤ k) ∧ Aside0 (Kd.S k58 58 w' w.heap.size (fun k_ => some k_ ≠ ((.slice Ao11 t399.length co11) : Value).ownBlock ∧ some k_ ≠ ((.slice Ao14 t403.length co14) : Value).ownBlock) v3 x3_1) ∧ Aside0 (Kd.R k61 61 w' w.heap.size (fun k_ => some k_ ≠ ((.slice Ao14 t403.length co14) : Value).ownBlock) (.slice Ao11 t399.length co11) t399) ∧ Aside0 (Kd.R k61 61 w' w.heap.size (fun k_ => some k_ ≠ ((.slice Ao11 t399.length co11) : Value).ownBlock) (.slice Ao14 t403.length co14) t403) ∧ Aside0 (Kd.R k79 79 w' w.heap.size (fun _ => True) (.slice Ao17 y407.length co17) y407) ∧ Aside0 (w'.heap[gb397]? = some (.cells #[.bool a0_0, (.slice Ao11 t399.length co11), .int .i64 t402, (.slice Ao14 t403.length co14), .int .i64 t406, .string a0_5, (.slice A0_6 l0_6.length c0_6), .int .i64 a0_7, .int .i64 a0_8, (.slice Ao17 y407.length co17), .bool a0_10] 39 (0, 0))) ∧ Aside0 (w'.heap[gb398]? = some (.cells #[.bool false, (.slice none 0 0), .int .i64 0, (.slice none 0 0), .int .i64 0, .string (⟨#[]⟩ : ByteArray), (.slice none 0 0), .int .i64 0, .int .i64 0, (.slice none 0 0), .bool false] 39 (0, 0))) ∧ Aside0 (Below w.heap.size w w'))
  case atStart => exact ⟨(([] : List (S58))), (0), zs, H', ⟨Nat.le_refl _⟩, ⟨by first | exact Kd.S_nil _ _ _ _ _ | exact Kd.N_nil _ _ _ _ _ | exact Kd.V_nil _ _ _ _ _ | exact Kd.Q_nil _ _ _ _ _ | exact Kd.R_nil _ _ _ _ _⟩, ⟨(Kd.R_mono (ztR (Kd.R_types HO401.out BK397.out (by decide))) (fun _ hk => hk.1.2))⟩, ⟨(Kd.R_mono (ztR (Kd.R_types HO405.out BK397.out (by decide))) (fun _ hk => hk.1.2))⟩, ⟨(Kd.R_mono (ztR (Kd.R_types HO409.out BK397.out (by decide))) (fun _ hk => trivial))⟩, ⟨zp BK397⟩, ⟨zp BK398⟩, ⟨zb HB⟩⟩
  case round =>
   clear H'
   try clear c1
   try clear c2
   try clear p2
   try clear c4
   try clear c5
   try clear c19
   try clear hcz20_0
   try clear hcz20_1
   try clear hcz20_10
   try clear hcz20_2
   try clear hcz20_3
   try clear hcz20_4
   try clear hcz20_5
   try clear hcz20_6
   try clear hcz20_7
   try clear hcz20_8
   try clear hcz20_9
   try clear hfz20_0
   try clear hfz20_1
   try clear hfz20_10
   try clear hfz20_2
   try clear hfz20_3
   try clear hfz20_4
   try clear hfz20_5
   try clear hfz20_6
   try clear hfz20_7
   try clear hfz20_8
   try clear hfz20_9
   obtain ⟨x3_1, x21_1, rfl, HA, HK1, HO_3, HO_398001, HO_398003, HO_398009, BK397, BK398, HB⟩ := hrel
   cases gk with
   | zero => exact absurd HA.out (by simp [impl_End_clone.l0])
   | succ k1 =>
    have H := HA.out
    clear HA
    simp only [impl_End_clone.l0] at H
    by_cases c21 : x21_1 < (l0_6.length : Int)
    ·rw [if_pos c21] at H
     have c21b0 := decide_eq_true c21
     clear c21
     by_cases c22 : 0 ≤ x21_1
     ·rw [if_pos c22] at H
      have c22b0 := decide_eq_true c22
      clear c22
      by_cases c23 : x21_1 < (l0_6.length : Int)
      ·rw [if_pos c23] at H
       have c23b0 := decide_eq_true c23
       clear c23
       obtain ⟨t412, A24, H⟩ := ob H
       (try dsimp only at H)
       obtain ⟨t415, A25, H⟩ := ob H
       (try dsimp only at H)
       by_cases c26 : x3_1.length < 1034834473200
       ·rw [if_pos c26] at H
        have LMc26 := Aside0.mk c26
        clear c26
        obtain ⟨y418, hy418⟩ : ∃ y_ : List (S58), y_ = (x3_1 ++ [(⟨(rd_T58 l0_6 x21_1).f0, (rd_T58 l0_6 x21_1).f1, t412, (rd_T58 l0_6 x21_1).f3, (rd_T58 l0_6 x21_1).f4, (rd_T58 l0_6 x21_1).f5, (rd_T58 l0_6 x21_1).f6, t415, (rd_T58 l0_6 x21_1).f8, (rd_T58 l0_6 x21_1).f9, (⟨(rd_T58 l0_6 x21_1).f10.f0, (rd_T58 l0_6 x21_1).f10.f1⟩ : S36)⟩ : S58)]) := ⟨_, rfl⟩
        replace H : (impl_End_clone.l0 k1 y418 l0_6 (l0_6.length : Int) (wrap64 (x21_1 + 1)) a0_0 t399 t402 t403 t406 a0_5 l0_6 a0_7 a0_8 y407 a0_10) = some (r1, r2, r3, r4, r5, r6, r7, r8, r9, r10, r11) := by first | (rw [hy418]; with_reducible exact H) | (have H2_ := (Option.bind_some _ _).symm.trans H; rw [hy418]; with_reducible exact H2_) | (have H2_ := (Option.bind_some _ _).symm.trans H; with_reducible exact H2_) | with_reducible exact H | (rw [hy418]; exact H) | exact H
        have Ny418 := Aside0.mk hy418
        clear hy418
        have H' := Aside0.mk H
        clear H
        have p410 : 0 ≤ (x21_1 : Int) := of_decide_eq_true za
        have q410 : x21_1 < (l0_6.length : Int) := of_decide_eq_true za
        obtain ⟨ad410, A410_2, c410_2, A410_7, c410_7, e410, hx410_0, hx410_1, hx410_2, hx410_3, hx410_4, hx410_5, hx410_6, hx410_7, hx410_8, hx410_9, hx410_10, hx410_11, hl410_2, hi410_2, hl410_7, hi410_7⟩ := at_T58 HR0_6.out x21_1 p410 q410
        cases e410
        replace hx410_0 := cb0 hx410_0 HB
        replace hx410_1 := cb0 hx410_1 HB
        replace hx410_2 := cb0 hx410_2 HB
        replace hx410_3 := cb0 hx410_3 HB
        replace hx410_4 := cb0 hx410_4 HB
        replace hx410_5 := cb0 hx410_5 HB
        replace hx410_6 := cb0 hx410_6 HB
        replace hx410_7 := cb0 hx410_7 HB
        replace hx410_8 := cb0 hx410_8 HB
        replace hx410_9 := cb0 hx410_9 HB
        replace hx410_10 := cb0 hx410_10 HB
        replace hx410_11 := cb0 hx410_11 HB
        have HR410_2 := Aside0.mk hi410_2
        have HC410_2 := Aside0.mk hl410_2
        clear hi410_2 hl410_2
        have HR410_7 := Aside0.mk hi410_7
        have HC410_7 := Aside0.mk hl410_7
        clear hi410_7 hl410_7
        replace p410 := eq_true p410
        replace q410 := eq_true q410
        try go_wp2_with (first | ((with_reducible refine gd 5 rfl ?_); refine bx (N := 5) (cs := #[.int .i64 0, .int .i64 0, .slice none 0 0, .string (⟨#[]⟩ : ByteArray), .bool false, .bool false, .int .i64 0, .slice none 0 0, .string (⟨#[]⟩ : ByteArray), .bool false, .int .i64 0, .int .i64 0]) (t := 58) ?_; intro gb411 hg w27 hbox hb; replace HO_3 := Aside0.mk (Kd.S_below (Kd.S_elderB (by (with_reducible repeat (first | apply Kd.S_alloc | apply Kd.S_drewN | apply Kd.S_drew)); exact HO_3.out) gb411 (Nat.le_of_eq hg.symm)) hb); replace HO_398001 := Aside0.mk (Kd.R_below (zr HO_398001) hb); replace HO_398003 := Aside0.mk (Kd.R_below (zr HO_398003) hb); replace HO_398009 := Aside0.mk (Kd.R_below (zr HO_398009) hb); have BK411 := Aside0.mk (hbox); have GW411 := gw HB hg; have GE411 := GW411; replace HB := Aside0.mk (below_step (zb HB) hb); obtain ⟨NB397_411, NB411_397⟩ := nb BK397 hg; replace BK397 := kb BK397 hb; obtain ⟨NB398_411, NB411_398⟩ := nb BK398 hg; replace BK398 := kb BK398 hb; clear hb hbox hg; have hnb28 := NB411_397.out; have hnc28 := NB397_411.out; have hnb29 := NB411_398.out; have hnc29 := NB398_411.out; obtain ⟨hcz30_0, hcz30_1, hcz30_2, hcz30_3, hcz30_4, hcz30_5, hcz30_6, hcz30_7, hcz30_8, hcz30_9, hcz30_10, hcz30_11, hfz30_0, hfz30_1, hfz30_2, hfz30_3, hfz30_4, hfz30_5, hfz30_6, hfz30_7, hfz30_8, hfz30_9, hfz30_10, hfz30_11⟩ := c12 BK411))
        have n0_ : Aside0 (Kd.S k58 58 ((((((((((((w27.setCell ⟨gb411, 0, none⟩ (.int .i64 ((rd_T58 l0_6 x21_1).f0))).setCell ⟨gb411, 1, none⟩ (.int .i64 ((rd_T58 l0_6 x21_1).f1))).setCell ⟨gb411, 2, none⟩ (.slice A410_2 ((rd_T58 l0_6 x21_1).f2).length c410_2)).setCell ⟨gb411, 3, none⟩ (.string ((rd_T58 l0_6 x21_1).f3))).setCell ⟨gb411, 4, none⟩ (.bool ((rd_T58 l0_6 x21_1).f4))).setCell ⟨gb411, 5, none⟩ (.bool ((rd_T58 l0_6 x21_1).f5))).setCell ⟨gb411, 6, none⟩ (.int .i64 ((rd_T58 l0_6 x21_1).f6))).setCell ⟨gb411, 7, none⟩ (.slice A410_7 ((rd_T58 l0_6 x21_1).f7).length c410_7)).setCell ⟨gb411, 8, none⟩ (.string ((rd_T58 l0_6 x21_1).f8))).setCell ⟨gb411, 9, none⟩ (.bool ((rd_T58 l0_6 x21_1).f9))).setCell ⟨gb411, 10, none⟩ (.int .i64 ((rd_T58 l0_6 x21_1).f10.f0))).setCell ⟨gb411, 11, none⟩ (.int .i64 ((rd_T58 l0_6 x21_1).f10.f1))) w.heap.size (fun k_ => some k_ ≠ (.slice Ao11 t399.length co11 : Value).ownBlock ∧ some k_ ≠ (.slice Ao14 t403.length co14 : Value).ownBlock ∧ k_ ≠ gb411) u3 x3_1) := ⟨by (with_reducible repeat (first | apply Kd.S_alloc | apply Kd.S_drewN | apply Kd.S_drew)); exact Kd.S_mono (ztS (Kd.S_mono HO_3.out (fun k_ hk => (⟨hk, hk.2⟩ : _ ∧ k_ ≠ gb411)))) (fun _ hk => ⟨hk.1.1.1, ⟨hk.1.1.2, hk.1.2⟩⟩)⟩
        have n1_ : Aside0 (Kd.R k61 61 ((((((((((((w27.setCell ⟨gb411, 0, none⟩ (.int .i64 ((rd_T58 l0_6 x21_1).f0))).setCell ⟨gb411, 1, none⟩ (.int .i64 ((rd_T58 l0_6 x21_1).f1))).setCell ⟨gb411, 2, none⟩ (.slice A410_2 ((rd_T58 l0_6 x21_1).f2).length c410_2)).setCell ⟨gb411, 3, none⟩ (.string ((rd_T58 l0_6 x21_1).f3))).setCell ⟨gb411, 4, none⟩ (.bool ((rd_T58 l0_6 x21_1).f4))).setCell ⟨gb411, 5, none⟩ (.bool ((rd_T58 l0_6 x21_1).f5))).setCell ⟨gb411, 6, none⟩ (.int .i64 ((rd_T58 l0_6 x21_1).f6))).setCell ⟨gb411, 7, none⟩ (.slice A410_7 ((rd_T58 l0_6 x21_1).f7).length c410_7)).setCell ⟨gb411, 8, none⟩ (.string ((rd_T58 l0_6 x21_1).f8))).setCell ⟨gb411, 9, none⟩ (.bool ((rd_T58 l0_6 x21_1).f9))).setCell ⟨gb411, 10, none⟩ (.int .i64 ((rd_T58 l0_6 x21_1).f10.f0))).setCell ⟨gb411, 11, none⟩ (.int .i64 ((rd_T58 l0_6 x21_1).f10.f1))) w.heap.size (fun k_ => some k_ ≠ (.slice Ao14 t403.length co14 : Value).ownBlock) (.slice Ao11 t399.length co11) t399) := ⟨(Kd.R_mono (ztR (Kd.R_types HO_398001.out BK411.out (by decide))) (fun _ hk => hk.1))⟩
        have n2_ : Aside0 (Kd.R k61 61 ((((((((((((w27.setCell ⟨gb411, 0, none⟩ (.int .i64 ((rd_T58 l0_6 x21_1).f0))).setCell ⟨gb411, 1, none⟩ (.int .i64 ((rd_T58 l0_6 x21_1).f1))).setCell ⟨gb411, 2, none⟩ (.slice A410_2 ((rd_T58 l0_6 x21_1).f2).length c410_2)).setCell ⟨gb411, 3, none⟩ (.string ((rd_T58 l0_6 x21_1).f3))).setCell ⟨gb411, 4, none⟩ (.bool ((rd_T58 l0_6 x21_1).f4))).setCell ⟨gb411, 5, none⟩ (.bool ((rd_T58 l0_6 x21_1).f5))).setCell ⟨gb411, 6, none⟩ (.int .i64 ((rd_T58 l0_6 x21_1).f6))).setCell ⟨gb411, 7, none⟩ (.slice A410_7 ((rd_T58 l0_6 x21_1).f7).length c410_7)).setCell ⟨gb411, 8, none⟩ (.string ((rd_T58 l0_6 x21_1).f8))).setCell ⟨gb411, 9, none⟩ (.bool ((rd_T58 l0_6 x21_1).f9))).setCell ⟨gb411, 10, none⟩ (.int .i64 ((rd_T58 l0_6 x21_1).f10.f0))).setCell ⟨gb411, 11, none⟩ (.int .i64 ((rd_T58 l0_6 x21_1).f10.f1))) w.heap.size (fun k_ => some k_ ≠ (.slice Ao11 t399.length co11 : Value).ownBlock) (.slice Ao14 t403.length co14) t403) := ⟨(Kd.R_mono (ztR (Kd.R_types HO_398003.out BK411.out (by decide))) (fun _ hk => hk.1))⟩
        have n3_ : Aside0 (Kd.R k79 79 ((((((((((((w27.setCell ⟨gb411, 0, none⟩ (.int .i64 ((rd_T58 l0_6 x21_1).f0))).setCell ⟨gb411, 1, none⟩ (.int .i64 ((rd_T58 l0_6 x21_1).f1))).setCell ⟨gb411, 2, none⟩ (.slice A410_2 ((rd_T58 l0_6 x21_1).f2).length c410_2)).setCell ⟨gb411, 3, none⟩ (.string ((rd_T58 l0_6 x21_1).f3))).setCell ⟨gb411, 4, none⟩ (.bool ((rd_T58 l0_6 x21_1).f4))).setCell ⟨gb411, 5, none⟩ (.bool ((rd_T58 l0_6 x21_1).f5))).setCell ⟨gb411, 6, none⟩ (.int .i64 ((rd_T58 l0_6 x21_1).f6))).setCell ⟨gb411, 7, none⟩ (.slice A410_7 ((rd_T58 l0_6 x21_1).f7).length c410_7)).setCell ⟨gb411, 8, none⟩ (.string ((rd_T58 l0_6 x21_1).f8))).setCell ⟨gb411, 9, none⟩ (.bool ((rd_T58 l0_6 x21_1).f9))).setCell ⟨gb411, 10, none⟩ (.int .i64 ((rd_T58 l0_6 x21_1).f10.f0))).setCell ⟨gb411, 11, none⟩ (.int .i64 ((rd_T58 l0_6 x21_1).f10.f1))) w.heap.size (fun _ => True) (.slice Ao17 y407.length co17) y407) := ⟨(Kd.R_mono (ztR (Kd.R_types HO_398009.out BK411.out (by decide))) (fun _ hk => trivial))⟩
        have n4_ : Aside0 (((((((((((((w27.setCell ⟨gb411, 0, none⟩ (.int .i64 ((rd_T58 l0_6 x21_1).f0))).setCell ⟨gb411, 1, none⟩ (.int .i64 ((rd_T58 l0_6 x21_1).f1))).setCell ⟨gb411, 2, none⟩ (.slice A410_2 ((rd_T58 l0_6 x21_1).f2).length c410_2)).setCell ⟨gb411, 3, none⟩ (.string ((rd_T58 l0_6 x21_1).f3))).setCell ⟨gb411, 4, none⟩ (.bool ((rd_T58 l0_6 x21_1).f4))).setCell ⟨gb411, 5, none⟩ (.bool ((rd_T58 l0_6 x21_1).f5))).setCell ⟨gb411, 6, none⟩ (.int .i64 ((rd_T58 l0_6 x21_1).f6))).setCell ⟨gb411, 7, none⟩ (.slice A410_7 ((rd_T58 l0_6 x21_1).f7).length c410_7)).setCell ⟨gb411, 8, none⟩ (.string ((rd_T58 l0_6 x21_1).f8))).setCell ⟨gb411, 9, none⟩ (.bool ((rd_T58 l0_6 x21_1).f9))).setCell ⟨gb411, 10, none⟩ (.int .i64 ((rd_T58 l0_6 x21_1).f10.f0))).setCell ⟨gb411, 11, none⟩ (.int .i64 ((rd_T58 l0_6 x21_1).f10.f1))).heap[gb397]? = some (.cells #[.bool a0_0, .slice Ao11 t399.length co11, .int .i64 t402, .slice Ao14 t403.length co14, .int .i64 t406, .string a0_5, .slice (some ad410) l0_6.length c0_6, .int .i64 a0_7, .int .i64 a0_8, .slice Ao17 y407.length co17, .bool a0_10] 39 (0, 0))) := ⟨zp BK397⟩
        have n5_ : Aside0 (((((((((((((w27.setCell ⟨gb411, 0, none⟩ (.int .i64 ((rd_T58 l0_6 x21_1).f0))).setCell ⟨gb411, 1, none⟩ (.int .i64 ((rd_T58 l0_6 x21_1).f1))).setCell ⟨gb411, 2, none⟩ (.slice A410_2 ((rd_T58 l0_6 x21_1).f2).length c410_2)).setCell ⟨gb411, 3, none⟩ (.string ((rd_T58 l0_6 x21_1).f3))).setCell ⟨gb411, 4, none⟩ (.bool ((rd_T58 l0_6 x21_1).f4))).setCell ⟨gb411, 5, none⟩ (.bool ((rd_T58 l0_6 x21_1).f5))).setCell ⟨gb411, 6, none⟩ (.int .i64 ((rd_T58 l0_6 x21_1).f6))).setCell ⟨gb411, 7, none⟩ (.slice A410_7 ((rd_T58 l0_6 x21_1).f7).length c410_7)).setCell ⟨gb411, 8, none⟩ (.string ((rd_T58 l0_6 x21_1).f8))).setCell ⟨gb411, 9, none⟩ (.bool ((rd_T58 l0_6 x21_1).f9))).setCell ⟨gb411, 10, none⟩ (.int .i64 ((rd_T58 l0_6 x21_1).f10.f0))).setCell ⟨gb411, 11, none⟩ (.int .i64 ((rd_T58 l0_6 x21_1).f10.f1))).heap[gb398]? = some (.cells #[.bool false, .slice none 0 0, .int .i64 0, .slice none 0 0, .int .i64 0, .string (⟨#[]⟩ : ByteArray), .slice none 0 0, .int .i64 0, .int .i64 0, .slice none 0 0, .bool false] 39 (0, 0))) := ⟨zp BK398⟩
        have n6_ : Aside0 (((((((((((((w27.setCell ⟨gb411, 0, none⟩ (.int .i64 ((rd_T58 l0_6 x21_1).f0))).setCell ⟨gb411, 1, none⟩ (.int .i64 ((rd_T58 l0_6 x21_1).f1))).setCell ⟨gb411, 2, none⟩ (.slice A410_2 ((rd_T58 l0_6 x21_1).f2).length c410_2)).setCell ⟨gb411, 3, none⟩ (.string ((rd_T58 l0_6 x21_1).f3))).setCell ⟨gb411, 4, none⟩ (.bool ((rd_T58 l0_6 x21_1).f4))).setCell ⟨gb411, 5, none⟩ (.bool ((rd_T58 l0_6 x21_1).f5))).setCell ⟨gb411, 6, none⟩ (.int .i64 ((rd_T58 l0_6 x21_1).f6))).setCell ⟨gb411, 7, none⟩ (.slice A410_7 ((rd_T58 l0_6 x21_1).f7).length c410_7)).setCell ⟨gb411, 8, none⟩ (.string ((rd_T58 l0_6 x21_1).f8))).setCell ⟨gb411, 9, none⟩ (.bool ((rd_T58 l0_6 x21_1).f9))).setCell ⟨gb411, 10, none⟩ (.int .i64 ((rd_T58 l0_6 x21_1).f10.f0))).setCell ⟨gb411, 11, none⟩ (.int .i64 ((rd_T58 l0_6 x21_1).f10.f1))).heap[gb411]? = some (.cells #[.int .i64 ((rd_T58 l0_6 x21_1).f0), .int .i64 ((rd_T58 l0_6 x21_1).f1), .slice A410_2 ((rd_T58 l0_6 x21_1).f2).length c410_2, .string ((rd_T58 l0_6 x21_1).f3), .bool ((rd_T58 l0_6 x21_1).f4), .bool ((rd_T58 l0_6 x21_1).f5), .int .i64 ((rd_T58 l0_6 x21_1).f6), .slice A410_7 ((rd_T58 l0_6 x21_1).f7).length c410_7, .string ((rd_T58 l0_6 x21_1).f8), .bool ((rd_T58 l0_6 x21_1).f9), .int .i64 ((rd_T58 l0_6 x21_1).f10.f0), .int .i64 ((rd_T58 l0_6 x21_1).f10.f1)] 58 (0, 0))) := ⟨zp BK411⟩
        have n7_ : Aside0 (Below w.heap.size w ((((((((((((w27.setCell ⟨gb411, 0, none⟩ (.int .i64 ((rd_T58 l0_6 x21_1).f0))).setCell ⟨gb411, 1, none⟩ (.int .i64 ((rd_T58 l0_6 x21_1).f1))).setCell ⟨gb411, 2, none⟩ (.slice A410_2 ((rd_T58 l0_6 x21_1).f2).length c410_2)).setCell ⟨gb411, 3, none⟩ (.string ((rd_T58 l0_6 x21_1).f3))).setCell ⟨gb411, 4, none⟩ (.bool ((rd_T58 l0_6 x21_1).f4))).setCell ⟨gb411, 5, none⟩ (.bool ((rd_T58 l0_6 x21_1).f5))).setCell ⟨gb411, 6, none⟩ (.int .i64 ((rd_T58 l0_6 x21_1).f6))).setCell ⟨gb411, 7, none⟩ (.slice A410_7 ((rd_T58 l0_6 x21_1).f7).length c410_7)).setCell ⟨gb411, 8, none⟩ (.string ((rd_T58 l0_6 x21_1).f8))).setCell ⟨gb411, 9, none⟩ (.bool ((rd_T58 l0_6 x21_1).f9))).setCell ⟨gb411, 10, none⟩ (.int .i64 ((rd_T58 l0_6 x21_1).f10.f0))).setCell ⟨gb411, 11, none⟩ (.int .i64 ((rd_T58 l0_6 x21_1).f10.f1)))) := ⟨zb HB⟩
        (try clear HO_3)
        (try clear HO_398001)
        (try clear HO_398003)
        (try clear HO_398009)
        (try clear BK397)
        (try clear BK398)
        (try clear BK411)
        (try clear HB)
        generalize ((((((((((((w27.setCell ⟨gb411, 0, none⟩ (.int .i64 ((rd_T58 l0_6 x21_1).f0))).setCell ⟨gb411, 1, none⟩ (.int .i64 ((rd_T58 l0_6 x21_1).f1))).setCell ⟨gb411, 2, none⟩ (.slice A410_2 ((rd_T58 l0_6 x21_1).f2).length c410_2)).setCell ⟨gb411, 3, none⟩ (.string ((rd_T58 l0_6 x21_1).f3))).setCell ⟨gb411, 4, none⟩ (.bool ((rd_T58 l0_6 x21_1).f4))).setCell ⟨gb411, 5, none⟩ (.bool ((rd_T58 l0_6 x21_1).f5))).setCell ⟨gb411, 6, none⟩ (.int .i64 ((rd_T58 l0_6 x21_1).f6))).setCell ⟨gb411, 7, none⟩ (.slice A410_7 ((rd_T58 l0_6 x21_1).f7).length c410_7)).setCell ⟨gb411, 8, none⟩ (.string ((rd_T58 l0_6 x21_1).f8))).setCell ⟨gb411, 9, none⟩ (.bool ((rd_T58 l0_6 x21_1).f9))).setCell ⟨gb411, 10, none⟩ (.int .i64 ((rd_T58 l0_6 x21_1).f10.f0))).setCell ⟨gb411, 11, none⟩ (.int .i64 ((rd_T58 l0_6 x21_1).f10.f1))) = w31 at n0_ n1_ n2_ n3_ n4_ n5_ n6_ n7_ ⊢
        have HO_3 := n0_
        have HO_398001 := n1_
        have HO_398003 := n2_
        have HO_398009 := n3_
        have BK397 := n4_
        have BK398 := n5_
        have BK411 := n6_
        have HB := n7_
        clear n0_ n1_ n2_ n3_ n4_ n5_ n6_ n7_
        replace HO_3 := Aside0.mk (Kd.S_drew HO_3.out)
        replace HO_398001 := Aside0.mk (Kd.R_drew HO_398001.out)
        replace HO_398003 := Aside0.mk (Kd.R_drew HO_398003.out)
        replace HO_398009 := Aside0.mk (Kd.R_drew HO_398009.out)
        replace BK397 := Aside0.mk (blk_drew BK397.out)
        replace BK398 := Aside0.mk (blk_drew BK398.out)
        replace BK411 := Aside0.mk (blk_drew BK411.out)
        replace HB := Aside0.mk (below_drew1 HB.out)
        refine start_ (n := 10) (S := fun w' => w'.cell? ⟨gb411, 0, none⟩ = some (.int .i64 ((rd_T58 l0_6 x21_1).f0)) ∧ w'.cell? ⟨gb411, 1, none⟩ = some (.int .i64 ((rd_T58 l0_6 x21_1).f1)) ∧ w'.cell? ⟨gb411, 2, none⟩ = some (.slice A410_2 ((rd_T58 l0_6 x21_1).f2).length c410_2) ∧ w'.cell? ⟨gb411, 3, none⟩ = some (.string ((rd_T58 l0_6 x21_1).f3)) ∧ w'.cell? ⟨gb411, 4, none⟩ = some (.bool ((rd_T58 l0_6 x21_1).f4)) ∧ w'.cell? ⟨gb411, 5, none⟩ = some (.bool ((rd_T58 l0_6 x21_1).f5)) ∧ w'.cell? ⟨gb411, 6, none⟩ = some (.int .i64 ((rd_T58 l0_6 x21_1).f6)) ∧ w'.cell? ⟨gb411, 7, none⟩ = some (.slice A410_7 ((rd_T58 l0_6 x21_1).f7).length c410_7) ∧ w'.cell? ⟨gb411, 8, none⟩ = some (.string ((rd_T58 l0_6 x21_1).f8)) ∧ w'.cell? ⟨gb411, 9, none⟩ = some (.bool ((rd_T58 l0_6 x21_1).f9)) ∧ w'.cell? ⟨gb411, 10, none⟩ = some (.int .i64 ((rd_T58 l0_6 x21_1).f10.f0)) ∧ w'.cell? ⟨gb411, 11, none⟩ = some (.int .i64 ((rd_T58 l0_6 x21_1).f10.f1))) (ds := [7, 9]) #[false, false, false, false, false, false, false, false, false, false] (by kernel_rfl) rfl rfl ⟨(blk_cell BK411.out 0).trans rfl, (blk_cell BK411.out 1).trans rfl, (blk_cell BK411.out 2).trans rfl, (blk_cell BK411.out 3).trans rfl, (blk_cell BK411.out 4).trans rfl, (blk_cell BK411.out 5).trans rfl, (blk_cell BK411.out 6).trans rfl, (blk_cell BK411.out 7).trans rfl, (blk_cell BK411.out 8).trans rfl, (blk_cell BK411.out 9).trans rfl, (blk_cell BK411.out 10).trans rfl, (blk_cell BK411.out 11).trans rfl⟩ (fun hHeld => ?_); refine with_tabW impl_End_clone.tab6 impl_End_clone.bits6 (fun HT_ HW_ => ?_)
        generalize w31.drew = w32 at HO_3 HO_398001 HO_398003 HO_398009 BK397 BK398 BK411 HB hHeld ⊢
        refine pu 0 (some 25) (bm 10 1) rfl rfl ?_
        refine pu 3 (some 28) (bm 10 9) rfl rfl ?_
        refine tk 1 (some 26) (bm 10 11) rfl rfl hHeld ?_
        refine tk 4 (some 29) (bm 10 27) rfl rfl hHeld ?_
        refine one_ (i := 2) (N := some 27) (bm 10 31) rfl rfl (one_of HT_.out (by kernel_rfl)) (by decide) (fun K hK => ?_)
        refine gs Tryd.func59 #[.slice A410_2 ((rd_T58 l0_6 x21_1).f2).length c410_2] ?_
        with_reducible refine (impl_cloneFields.calls _ _ ((rd_T58 l0_6 x21_1).f2) t412 _ ?side1 ?side2 A24.out).mono ?_
        (case side1 => exact zc (Kd.C_below HR410_2.out HB.out))
        (case side2 => exact HC410_2.out)
        rintro e w33 ⟨v413, rfl, ho0, hb⟩
        refine ⟨_, rfl, ?_⟩
        replace HO_3 := Aside0.mk (Kd.S_elder' (by (with_reducible repeat (first | apply Kd.S_alloc | apply Kd.S_drewN | apply Kd.S_drew)); exact HO_3.out) (Kd.R_base ho0) hb)
        replace HO_398009 := Aside0.mk (Kd.R_below (zr HO_398009) hb)
        have HO414 := Aside0.mk (Kd.R_lower (Kd.R_new' (Kd.R_new' ho0 (Kd.R_lt (zr HO_398001))) (Kd.R_lt (zr HO_398003))) (below_size (zb HB)))
        replace HO_398001 := Aside0.mk (Kd.R_elder' (zr HO_398001) (Kd.R_base ho0) hb)
        replace HO_398003 := Aside0.mk (Kd.R_elder' (zr HO_398003) (Kd.R_base ho0) hb)
        replace BK397 := kb BK397 hb
        replace BK398 := kb BK398 hb
        replace BK411 := kb BK411 hb
        replace HB := Aside0.mk (below_step (zb HB) hb)
        (try clear hb)
        (try clear ho0)
        refine hK.out _ _ ⟨(blk_cell BK411.out 0).trans rfl, (blk_cell BK411.out 1).trans rfl, (blk_cell BK411.out 2).trans rfl, (blk_cell BK411.out 3).trans rfl, (blk_cell BK411.out 4).trans rfl, (blk_cell BK411.out 5).trans rfl, (blk_cell BK411.out 6).trans rfl, (blk_cell BK411.out 7).trans rfl, (blk_cell BK411.out 8).trans rfl, (blk_cell BK411.out 9).trans rfl, (blk_cell BK411.out 10).trans rfl, (blk_cell BK411.out 11).trans rfl⟩ (fun hHeld => ?_)
        clear hK K
        refine nm ?_
        refine pu 6 (some 31) (bm 10 95) rfl rfl ?_
        refine one_ (i := 5) (N := some 30) (bm 10 127) rfl rfl (one_of HT_.out (by kernel_rfl)) (by decide) (fun K hK => ?_)
        refine gs Tryd.func59 #[.slice A410_7 ((rd_T58 l0_6 x21_1).f7).length c410_7] ?_
        with_reducible refine (impl_cloneFields.calls _ _ ((rd_T58 l0_6 x21_1).f7) t415 _ ?side1 ?side2 A25.out).mono ?_
        (case side1 => exact zc (Kd.C_below HR410_7.out HB.out))
        (case side2 => exact HC410_7.out)
        rintro e w34 ⟨v416, rfl, ho0, hb⟩
        refine ⟨_, rfl, ?_⟩
        replace HO_3 := Aside0.mk (Kd.S_elder' (by (with_reducible repeat (first | apply Kd.S_alloc | apply Kd.S_drewN | apply Kd.S_drew)); exact HO_3.out) (Kd.R_base ho0) hb)
        replace HO_398009 := Aside0.mk (Kd.R_below (zr HO_398009) hb)
        have HO417 := Aside0.mk (Kd.R_lower (Kd.R_new' (Kd.R_new' (Kd.R_new' ho0 (Kd.R_lt (zr HO_398001))) (Kd.R_lt (zr HO_398003))) (Kd.R_lt (zr HO414))) (below_size (zb HB)))
        replace HO_398001 := Aside0.mk (Kd.R_elder' (zr HO_398001) (Kd.R_base ho0) hb)
        replace HO_398003 := Aside0.mk (Kd.R_elder' (zr HO_398003) (Kd.R_base ho0) hb)
        replace HO414 := Aside0.mk (Kd.R_elder' (zr HO414) (Kd.R_base ho0) hb)
        replace BK397 := kb BK397 hb
        replace BK398 := kb BK398 hb
        replace BK411 := kb BK411 hb
        replace HB := Aside0.mk (below_step (zb HB) hb)
        (try clear hb)
        (try clear ho0)
        obtain ⟨Ao35, co35, eo35⟩ := Kd.R_slice HO414.out
        (first | subst eo35 | (injection eo35 with f1_ f2_ f3_; have f4_ := f1_.symm; have f5_ := f3_.symm; clear f1_ f2_ f3_; subst f4_; subst f5_))
        obtain ⟨Ao37, co37, eo37⟩ := Kd.R_slice HO417.out
        (first | subst eo37 | (injection eo37 with f1_ f2_ f3_; have f4_ := f1_.symm; have f5_ := f3_.symm; clear f1_ f2_ f3_; subst f4_; subst f5_))
        refine hK.out _ _ ⟨(blk_cell BK411.out 0).trans rfl, (blk_cell BK411.out 1).trans rfl, (blk_cell BK411.out 2).trans rfl, (blk_cell BK411.out 3).trans rfl, (blk_cell BK411.out 4).trans rfl, (blk_cell BK411.out 5).trans rfl, (blk_cell BK411.out 6).trans rfl, (blk_cell BK411.out 7).trans rfl, (blk_cell BK411.out 8).trans rfl, (blk_cell BK411.out 9).trans rfl, (blk_cell BK411.out 10).trans rfl, (blk_cell BK411.out 11).trans rfl⟩ (fun hHeld => ?_)
        clear hK K
        refine nm ?_
        refine last_ (i := 7) (N := none) #[true, true, true, true, true, true, true, true, false, false] rfl rfl (one_of HT_.out (by kernel_rfl)) (by decide) (fun K hK => ?_)
        have hs36 : w34.cell? ⟨gb411, 2, none⟩ = some (.slice A410_2 ((rd_T58 l0_6 x21_1).f2).length c410_2) := (blk_cell BK411.out 2).trans rfl
        have hfs36 := blk_frozen BK411.out 2
        have hns36_0 := NB397_411.out
        have hns36_1 := NB398_411.out
        have hms36_0 := NB411_397.out
        have hms36_1 := NB411_398.out
        refine skip_ (w1 := ?_) (by rfl) rfl ?_ ?_
        rotate_left
        ·go_simp
         rfl
        refine hK.out _ _ ?_
        clear hK K
        refine pu 8 (some 32) (bm 10 511) rfl rfl ?_
        refine last_ (i := 9) (N := none) #[true, true, true, true, true, true, true, true, true, true] rfl rfl (one_of HT_.out (by kernel_rfl)) (by decide) (fun K hK => ?_)
        have hs38 : w34.cell? ⟨gb411, 7, none⟩ = some (.slice A410_7 ((rd_T58 l0_6 x21_1).f7).length c410_7) := (blk_cell BK411.out 7).trans rfl
        have hfs38 := blk_frozen BK411.out 7
        have hns38_0 := NB397_411.out
        have hns38_1 := NB398_411.out
        have hms38_0 := NB411_397.out
        have hms38_1 := NB411_398.out
        refine skip_ (w1 := ?_) (by rfl) rfl ?_ ?_
        rotate_left
        ·go_simp
         rfl
        refine hK.out _ _ ?_
        clear hK K
        refine done_ (done_of HT_.out (by kernel_rfl)) ?_
        have n0_ : Aside0 (Kd.S k58 58 ((w34.setCell ⟨gb411, 2, none⟩ (.slice Ao35 t412.length co35)).setCell ⟨gb411, 7, none⟩ (.slice Ao37 t415.length co37)) w.heap.size (fun k_ => some k_ ≠ (.slice Ao11 t399.length co11 : Value).ownBlock ∧ some k_ ≠ (.slice Ao14 t403.length co14 : Value).ownBlock ∧ some k_ ≠ (.slice Ao35 t412.length co35 : Value).ownBlock ∧ some k_ ≠ (.slice Ao37 t415.length co37 : Value).ownBlock ∧ k_ ≠ gb411) u3 x3_1) := ⟨by (with_reducible repeat (first | apply Kd.S_alloc | apply Kd.S_drewN | apply Kd.S_drew)); exact Kd.S_mono (ztS (Kd.S_mono HO_3.out (fun k_ hk => (⟨hk, hk.1.1.2.2⟩ : _ ∧ k_ ≠ gb411)))) (fun _ hk => ⟨hk.1.1.1.1, ⟨hk.1.1.1.2.1, ⟨hk.1.1.2, ⟨hk.1.2, hk.1.1.1.2.2⟩⟩⟩⟩)⟩
        have n1_ : Aside0 (Kd.R k61 61 ((w34.setCell ⟨gb411, 2, none⟩ (.slice Ao35 t412.length co35)).setCell ⟨gb411, 7, none⟩ (.slice Ao37 t415.length co37)) w.heap.size (fun k_ => some k_ ≠ (.slice Ao14 t403.length co14 : Value).ownBlock ∧ some k_ ≠ (.slice Ao35 t412.length co35 : Value).ownBlock ∧ some k_ ≠ (.slice Ao37 t415.length co37 : Value).ownBlock) (.slice Ao11 t399.length co11) t399) := ⟨(Kd.R_mono (ztR (Kd.R_types HO_398001.out BK411.out (by decide))) (fun _ hk => ⟨hk.1.1.1, ⟨hk.1.1.2, hk.1.2⟩⟩))⟩
        have n2_ : Aside0 (Kd.R k61 61 ((w34.setCell ⟨gb411, 2, none⟩ (.slice Ao35 t412.length co35)).setCell ⟨gb411, 7, none⟩ (.slice Ao37 t415.length co37)) w.heap.size (fun k_ => some k_ ≠ (.slice Ao11 t399.length co11 : Value).ownBlock ∧ some k_ ≠ (.slice Ao35 t412.length co35 : Value).ownBlock ∧ some k_ ≠ (.slice Ao37 t415.length co37 : Value).ownBlock) (.slice Ao14 t403.length co14) t403) := ⟨(Kd.R_mono (ztR (Kd.R_types HO_398003.out BK411.out (by decide))) (fun _ hk => ⟨hk.1.1.1, ⟨hk.1.1.2, hk.1.2⟩⟩))⟩
        have n3_ : Aside0 (Kd.R k79 79 ((w34.setCell ⟨gb411, 2, none⟩ (.slice Ao35 t412.length co35)).setCell ⟨gb411, 7, none⟩ (.slice Ao37 t415.length co37)) w.heap.size (fun _ => True) (.slice Ao17 y407.length co17) y407) := ⟨(Kd.R_mono (ztR (Kd.R_types HO_398009.out BK411.out (by decide))) (fun _ hk => trivial))⟩
        have n4_ : Aside0 (Kd.R k61 61 ((w34.setCell ⟨gb411, 2, none⟩ (.slice Ao35 t412.length co35)).setCell ⟨gb411, 7, none⟩ (.slice Ao37 t415.length co37)) w.heap.size (fun k_ => some k_ ≠ (.slice Ao11 t399.length co11 : Value).ownBlock ∧ some k_ ≠ (.slice Ao14 t403.length co14 : Value).ownBlock ∧ some k_ ≠ (.slice Ao37 t415.length co37 : Value).ownBlock) (.slice Ao35 t412.length co35) t412) := ⟨(Kd.R_mono (ztR (Kd.R_types HO414.out BK411.out (by decide))) (fun _ hk => ⟨hk.1.1.1.2, ⟨hk.1.1.2, hk.1.2⟩⟩))⟩
        have n5_ : Aside0 (Kd.R k61 61 ((w34.setCell ⟨gb411, 2, none⟩ (.slice Ao35 t412.length co35)).setCell ⟨gb411, 7, none⟩ (.slice Ao37 t415.length co37)) w.heap.size (fun k_ => some k_ ≠ (.slice Ao11 t399.length co11 : Value).ownBlock ∧ some k_ ≠ (.slice Ao14 t403.length co14 : Value).ownBlock ∧ some k_ ≠ (.slice Ao35 t412.length co35 : Value).ownBlock) (.slice Ao37 t415.length co37) t415) := ⟨(Kd.R_mono (ztR (Kd.R_types HO417.out BK411.out (by decide))) (fun _ hk => ⟨hk.1.1.1.2, ⟨hk.1.1.2, hk.1.2⟩⟩))⟩
        have n6_ : Aside0 (((w34.setCell ⟨gb411, 2, none⟩ (.slice Ao35 t412.length co35)).setCell ⟨gb411, 7, none⟩ (.slice Ao37 t415.length co37)).heap[gb397]? = some (.cells #[.bool a0_0, .slice Ao11 t399.length co11, .int .i64 t402, .slice Ao14 t403.length co14, .int .i64 t406, .string a0_5, .slice (some ad410) l0_6.length c0_6, .int .i64 a0_7, .int .i64 a0_8, .slice Ao17 y407.length co17, .bool a0_10] 39 (0, 0))) := ⟨zp BK397⟩
        have n7_ : Aside0 (((w34.setCell ⟨gb411, 2, none⟩ (.slice Ao35 t412.length co35)).setCell ⟨gb411, 7, none⟩ (.slice Ao37 t415.length co37)).heap[gb398]? = some (.cells #[.bool false, .slice none 0 0, .int .i64 0, .slice none 0 0, .int .i64 0, .string (⟨#[]⟩ : ByteArray), .slice none 0 0, .int .i64 0, .int .i64 0, .slice none 0 0, .bool false] 39 (0, 0))) := ⟨zp BK398⟩
        have n8_ : Aside0 (((w34.setCell ⟨gb411, 2, none⟩ (.slice Ao35 t412.length co35)).setCell ⟨gb411, 7, none⟩ (.slice Ao37 t415.length co37)).heap[gb411]? = some (.cells #[.int .i64 ((rd_T58 l0_6 x21_1).f0), .int .i64 ((rd_T58 l0_6 x21_1).f1), .slice Ao35 t412.length co35, .string ((rd_T58 l0_6 x21_1).f3), .bool ((rd_T58 l0_6 x21_1).f4), .bool ((rd_T58 l0_6 x21_1).f5), .int .i64 ((rd_T58 l0_6 x21_1).f6), .slice Ao37 t415.length co37, .string ((rd_T58 l0_6 x21_1).f8), .bool ((rd_T58 l0_6 x21_1).f9), .int .i64 ((rd_T58 l0_6 x21_1).f10.f0), .int .i64 ((rd_T58 l0_6 x21_1).f10.f1)] 58 (0, 0))) := ⟨zp BK411⟩
        have n9_ : Aside0 (Below w.heap.size w ((w34.setCell ⟨gb411, 2, none⟩ (.slice Ao35 t412.length co35)).setCell ⟨gb411, 7, none⟩ (.slice Ao37 t415.length co37))) := ⟨zb HB⟩
        (try clear HO_3)
        (try clear HO_398001)
        (try clear HO_398003)
        (try clear HO_398009)
        (try clear HO414)
        (try clear HO417)
        (try clear BK397)
        (try clear BK398)
        (try clear BK411)
        (try clear HB)
        generalize ((w34.setCell ⟨gb411, 2, none⟩ (.slice Ao35 t412.length co35)).setCell ⟨gb411, 7, none⟩ (.slice Ao37 t415.length co37)) = w39 at n0_ n1_ n2_ n3_ n4_ n5_ n6_ n7_ n8_ n9_ ⊢
        have HO_3 := n0_
        have HO_398001 := n1_
        have HO_398003 := n2_
        have HO_398009 := n3_
        have HO414 := n4_
        have HO417 := n5_
        have BK397 := n6_
        have BK398 := n7_
        have BK411 := n8_
        have HB := n9_
        clear n0_ n1_ n2_ n3_ n4_ n5_ n6_ n7_ n8_ n9_
        obtain ⟨hcz40_0, hcz40_1, hcz40_2, hcz40_3, hcz40_4, hcz40_5, hcz40_6, hcz40_7, hcz40_8, hcz40_9, hcz40_10, hcz40_11, hfz40_0, hfz40_1, hfz40_2, hfz40_3, hfz40_4, hfz40_5, hfz40_6, hfz40_7, hfz40_8, hfz40_9, hfz40_10, hfz40_11⟩ := c12 BK411
        try go_wp2_with (first | ((with_reducible refine gate_builtin (b := .append) (xs := #[.tmp 33, .tmp 35]) rfl ?_); at_builtin; refine Kd.S_append k58 (w0 := w) w.heap.size rfl (.tmp 33) (.tmp 35) 35 58 (.agg #[(.int .i64 0), (.int .i64 0), (.slice none 0 0), (.string ⟨#[]⟩), (.bool false), (.bool false), (.int .i64 0), (.slice none 0 0), (.string ⟨#[]⟩), (.bool false), (.int .i64 0), (.int .i64 0)]) 136 rfl Tryd.underlying35 info58 rfl (by decide) (by omega) u3 x3_1 (⟨(rd_T58 l0_6 x21_1).f0, (rd_T58 l0_6 x21_1).f1, t412, (rd_T58 l0_6 x21_1).f3, (rd_T58 l0_6 x21_1).f4, (rd_T58 l0_6 x21_1).f5, (rd_T58 l0_6 x21_1).f6, t415, (rd_T58 l0_6 x21_1).f8, (rd_T58 l0_6 x21_1).f9, (⟨(rd_T58 l0_6 x21_1).f10.f0, (rd_T58 l0_6 x21_1).f10.f1⟩ : S36)⟩ : S58) [.int .i64 ((rd_T58 l0_6 x21_1).f0), .int .i64 ((rd_T58 l0_6 x21_1).f1), .slice Ao35 t412.length co35, .string ((rd_T58 l0_6 x21_1).f3), .bool ((rd_T58 l0_6 x21_1).f4), .bool ((rd_T58 l0_6 x21_1).f5), .int .i64 ((rd_T58 l0_6 x21_1).f6), .slice Ao37 t415.length co37, .string ((rd_T58 l0_6 x21_1).f8), .bool ((rd_T58 l0_6 x21_1).f9), .int .i64 ((rd_T58 l0_6 x21_1).f10.f0), .int .i64 ((rd_T58 l0_6 x21_1).f10.f1)] (fun k_ => some k_ ≠ (.slice Ao11 t399.length co11 : Value).ownBlock ∧ some k_ ≠ (.slice Ao14 t403.length co14 : Value).ownBlock ∧ k_ ≠ gb411) (fun k_ => some k_ = (.slice Ao35 t412.length co35 : Value).ownBlock ∨ some k_ = (.slice Ao37 t415.length co37 : Value).ownBlock) rfl rfl ?aP (fun k_ hk_ => hk_.elim (fun h_ => ((Kd.R_mono (ok' := fun k_ => ((fun k_ => some k_ ≠ (.slice Ao11 t399.length co11 : Value).ownBlock ∧ some k_ ≠ (.slice Ao14 t403.length co14 : Value).ownBlock ∧ k_ ≠ gb411)) k_ ∧ some k_ ≠ (u3 : Value).ownBlock) (Kd.R_types (Kd.R_apart' (HO414.out) (Kd.S_typed HO_3.out) (by decide)) BK411.out (by decide)) (fun k_ hk => ⟨⟨hk.1.1.1, ⟨hk.1.1.2.1, hk.2⟩⟩, hk.1.2⟩))).1 k_ h_.symm) (fun h_ => ((Kd.R_mono (ok' := fun k_ => ((fun k_ => some k_ ≠ (.slice Ao11 t399.length co11 : Value).ownBlock ∧ some k_ ≠ (.slice Ao14 t403.length co14 : Value).ownBlock ∧ k_ ≠ gb411)) k_ ∧ some k_ ≠ (u3 : Value).ownBlock) (Kd.R_types (Kd.R_apart' (HO417.out) (Kd.S_typed HO_3.out) (by decide)) BK411.out (by decide)) (fun k_ hk => ⟨⟨hk.1.1.1, ⟨hk.1.1.2.1, hk.2⟩⟩, hk.1.2⟩))).1 k_ h_.symm)) ?aF ?aO ?aB ?aS ?aL ?_; (case aP => exact k58_mkM _ _ _ (⟨(rd_T58 l0_6 x21_1).f0, (rd_T58 l0_6 x21_1).f1, t412, (rd_T58 l0_6 x21_1).f3, (rd_T58 l0_6 x21_1).f4, (rd_T58 l0_6 x21_1).f5, (rd_T58 l0_6 x21_1).f6, t415, (rd_T58 l0_6 x21_1).f8, (rd_T58 l0_6 x21_1).f9, (⟨(rd_T58 l0_6 x21_1).f10.f0, (rd_T58 l0_6 x21_1).f10.f1⟩ : S36)⟩ : S58) (Kd.R_mono (Kd.R_tight rfl (Kd.R_mono (ok' := fun k_ => ((fun k_ => some k_ ≠ (.slice Ao11 t399.length co11 : Value).ownBlock ∧ some k_ ≠ (.slice Ao14 t403.length co14 : Value).ownBlock ∧ k_ ≠ gb411)) k_ ∧ some k_ ≠ (u3 : Value).ownBlock) (Kd.R_types (Kd.R_apart' (HO414.out) (Kd.S_typed HO_3.out) (by decide)) BK411.out (by decide)) (fun k_ hk => ⟨⟨hk.1.1.1, ⟨hk.1.1.2.1, hk.2⟩⟩, hk.1.2⟩))) (fun _ h_ => Or.inl h_)) (Kd.R_mono (Kd.R_tight rfl (Kd.R_mono (ok' := fun k_ => ((fun k_ => some k_ ≠ (.slice Ao11 t399.length co11 : Value).ownBlock ∧ some k_ ≠ (.slice Ao14 t403.length co14 : Value).ownBlock ∧ k_ ≠ gb411)) k_ ∧ some k_ ≠ (u3 : Value).ownBlock) (Kd.R_types (Kd.R_apart' (HO417.out) (Kd.S_typed HO_3.out) (by decide)) BK411.out (by decide)) (fun k_ hk => ⟨⟨hk.1.1.1, ⟨hk.1.1.2.1, hk.2⟩⟩, hk.1.2⟩))) (fun _ h_ => Or.inr (h_))) (fun k_ h_ h2_ => by have h3_ := HO414.out.1 k_ h_; have h4_ := HO417.out.1 k_ h2_; first | exact h3_ h2_.symm | exact h3_.1 h2_.symm | exact h3_.2 h2_.symm | exact h3_.1.1 h2_.symm | exact h3_.1.2 h2_.symm | exact h3_.2.1 h2_.symm | exact h3_.2.2 h2_.symm | exact h3_.1.1.1 h2_.symm | exact h3_.1.1.2 h2_.symm | exact h3_.1.2.1 h2_.symm | exact h3_.1.2.2 h2_.symm | exact h3_.2.1.1 h2_.symm | exact h3_.2.1.2 h2_.symm | exact h3_.2.2.1 h2_.symm | exact h3_.2.2.2 h2_.symm | exact h3_.1.1.1.1 h2_.symm | exact h3_.1.1.1.2 h2_.symm | exact h3_.1.1.2.1 h2_.symm | exact h3_.1.1.2.2 h2_.symm | exact h3_.1.2.1.1 h2_.symm | exact h3_.1.2.1.2 h2_.symm | exact h3_.1.2.2.1 h2_.symm | exact h3_.1.2.2.2 h2_.symm | exact h3_.2.1.1.1 h2_.symm | exact h3_.2.1.1.2 h2_.symm | exact h3_.2.1.2.1 h2_.symm | exact h3_.2.1.2.2 h2_.symm | exact h3_.2.2.1.1 h2_.symm | exact h3_.2.2.1.2 h2_.symm | exact h3_.2.2.2.1 h2_.symm | exact h3_.2.2.2.2 h2_.symm | exact h4_ h_.symm | exact h4_.1 h_.symm | exact h4_.2 h_.symm | exact h4_.1.1 h_.symm | exact h4_.1.2 h_.symm | exact h4_.2.1 h_.symm | exact h4_.2.2 h_.symm | exact h4_.1.1.1 h_.symm | exact h4_.1.1.2 h_.symm | exact h4_.1.2.1 h_.symm | exact h4_.1.2.2 h_.symm | exact h4_.2.1.1 h_.symm | exact h4_.2.1.2 h_.symm | exact h4_.2.2.1 h_.symm | exact h4_.2.2.2 h_.symm | exact h4_.1.1.1.1 h_.symm | exact h4_.1.1.1.2 h_.symm | exact h4_.1.1.2.1 h_.symm | exact h4_.1.1.2.2 h_.symm | exact h4_.1.2.1.1 h_.symm | exact h4_.1.2.1.2 h_.symm | exact h4_.1.2.2.1 h_.symm | exact h4_.1.2.2.2 h_.symm | exact h4_.2.1.1.1 h_.symm | exact h4_.2.1.1.2 h_.symm | exact h4_.2.1.2.1 h_.symm | exact h4_.2.1.2.2 h_.symm | exact h4_.2.2.1.1 h_.symm | exact h4_.2.2.1.2 h_.symm | exact h4_.2.2.2.1 h_.symm | exact h4_.2.2.2.2 h_.symm)); (case aB => exact (zb HB)); (case aF => exact (fun k_ hk => ⟨Kd.fresh' (Kd.R_lt (zr HO_398001)) k_ hk, Kd.fresh' (Kd.R_lt (zr HO_398003)) k_ hk, Kd.freshB (zk BK411) k_ hk⟩)); (case aO => exact (by (with_reducible repeat (first | apply Kd.S_alloc | apply Kd.S_drewN | apply Kd.S_drew)); exact Kd.S_mono HO_3.out (fun k_ hk => ⟨⟨hk.1, ⟨hk.2.1, hk.2.2.2.2⟩⟩, fun e_ => e_.elim (fun h_ => hk.2.2.1 h_) (fun h_ => hk.2.2.2.1 h_)⟩))); (case aS => exact (below_size (zb HB))); (case aL => have := LMc26.out; omega); intro v419 w41 ho hb hg hat; rw [← Ny418.out] at ho; replace HO_398001 := Aside0.mk (Kd.R_over' (zr HO_398001) (Kd.S_typed (by (with_reducible repeat (first | apply Kd.S_alloc | apply Kd.S_drewN | apply Kd.S_drew)); exact HO_3.out)) (by decide) hg); replace HO_398003 := Aside0.mk (Kd.R_over' (zr HO_398003) (Kd.S_typed (by (with_reducible repeat (first | apply Kd.S_alloc | apply Kd.S_drewN | apply Kd.S_drew)); exact HO_3.out)) (by decide) hg); replace HO_398009 := Aside0.mk (Kd.R_over' (zr HO_398009) (Kd.S_typed (by (with_reducible repeat (first | apply Kd.S_alloc | apply Kd.S_drewN | apply Kd.S_drew)); exact HO_3.out)) (by decide) hg); replace BK397 := Aside0.mk (blk_grown (zk BK397) hg (Kd.S_ne HO_3.out BK397.out (by decide))); replace BK398 := Aside0.mk (blk_grown (zk BK398) hg (Kd.S_ne HO_3.out BK398.out (by decide))); replace BK411 := Aside0.mk (blk_grown (zk BK411) hg (Kd.S_away HO_3.out (fun _ hk => hk.2.2.2.2))); replace HB := Aside0.mk (hb); have HO420 := Aside0.mk (ho); clear HO_3; clear HO414; clear HO417; clear ho hb hg hat))
        go_roundg k1
        case measure => have := HK1.out; omega
        case rel => exact ⟨(y418), (wrap64 (x21_1 + 1)), zs, H', ⟨by have := HK1.out; omega⟩, ⟨by (with_reducible repeat (first | apply Kd.S_alloc | apply Kd.S_drewN | apply Kd.S_drew)); exact Kd.S_mono HO420.out (fun _ hk => ⟨hk.1, hk.2.1⟩)⟩, ⟨zq (Kd.R_mono HO_398001.out (fun _ hk => hk.1))⟩, ⟨zq (Kd.R_mono HO_398003.out (fun _ hk => hk.1))⟩, ⟨by exact zr HO_398009⟩, ⟨by exact zk BK397⟩, ⟨by exact zk BK398⟩, ⟨zb HB⟩⟩
       ·rw [if_neg c26] at H
        exact absurd H (by simp)
      ·rw [if_neg c23] at H
       exact absurd H (by simp)
     ·rw [if_neg c22] at H
      exact absurd H (by simp)
    ·rw [if_neg c21] at H
     have c21b0 := decide_eq_false c21
     clear c21
     simp only [Option.some.injEq, Prod.mk.injEq] at H
     obtain ⟨rfl, rfl, rfl, rfl, rfl, rfl, rfl, rfl, rfl, rfl, rfl⟩ := H
     obtain ⟨Ao42, co42, eo42⟩ := Kd.S_slice HO_3.out
     subst eo42
     have hnb43 := NB397_398.out
     have hnc43 := NB398_397.out
     obtain ⟨hcz44_0, hcz44_1, hcz44_2, hcz44_3, hcz44_4, hcz44_5, hcz44_6, hcz44_7, hcz44_8, hcz44_9, hcz44_10, hfz44_0, hfz44_1, hfz44_2, hfz44_3, hfz44_4, hfz44_5, hfz44_6, hfz44_7, hfz44_8, hfz44_9, hfz44_10⟩ := c11 BK397
     obtain ⟨hcz45_0, hcz45_1, hcz45_2, hcz45_3, hcz45_4, hcz45_5, hcz45_6, hcz45_7, hcz45_8, hcz45_9, hcz45_10, hfz45_0, hfz45_1, hfz45_2, hfz45_3, hfz45_4, hfz45_5, hfz45_6, hfz45_7, hfz45_8, hfz45_9, hfz45_10⟩ := c11 BK398
     go_wp2
     refine bodyPost_ret (results_cell_row rfl _ _ gb398 39 #[.bool a0_0, .slice Ao11 t399.length co11, .int .i64 t402, .slice Ao14 t403.length co14, .int .i64 t406, .string a0_5, .slice Ao42 x3_1.length co42, .int .i64 a0_7, .int .i64 a0_8, .slice Ao17 y407.length co17, .bool a0_10] (0, 0) _ rfl (zp BK398) Tryd.underlying39 rfl (by kernel_rfl)) rfl ?_
     exact ⟨_, _, _, _, ze, (Kd.R_mono (ztR (Kd.R_types (Kd.R_types HO_398001.out BK397.out (by decide)) BK398.out (by decide))) (fun _ hk => hk.1.1)), (Kd.R_mono (ztR (Kd.R_types (Kd.R_types HO_398003.out BK397.out (by decide)) BK398.out (by decide))) (fun _ hk => hk.1.1)), by (with_reducible repeat (first | apply Kd.S_alloc | apply Kd.S_drewN | apply Kd.S_drew)); exact Kd.S_mono (ztS (Kd.S_types (Kd.S_types HO_3.out BK397.out (by decide)) BK398.out (by decide))) (fun _ hk => ⟨hk.1.1.1, hk.1.1.2⟩), (Kd.R_mono (ztR (Kd.R_types (Kd.R_types HO_398009.out BK397.out (by decide)) BK398.out (by decide))) (fun _ hk => trivial)), zb HB⟩
 ·skip
  exact absurd H (by simp)

/-! ### impl_newStream: function 24 -/
-- thin
def impl_newStream.f (a0 : Int) : Option (Int × Int × (List (S61)) × ByteArray × Bool × Bool × Int × (List (S61)) × ByteArray × Bool × Int × Int) := some (a0, 1, ([] : List (S61)), (⟨#[]⟩ : ByteArray), false, false, 0, ([] : List (S61)), (⟨#[]⟩ : ByteArray), false, 8, 8)
set_option maxHeartbeats 8000000 in
set_option maxRecDepth 100000 in
theorem impl_newStream.calls (a0 : Int) (r1 : Int) (r2 : Int) (r3 : List (S61)) (r4 : ByteArray) (r5 : Bool) (r6 : Bool) (r7 : Int) (r8 : List (S61)) (r9 : ByteArray) (r10 : Bool) (r11 : Int) (r12 : Int) (w : World) (h : impl_newStream.f a0 = some (r1, r2, r3, r4, r5, r6, r7, r8, r9, r10, r11, r12)) :
  Calls Tryd.prog 24 #[.int .i64 a0] w fun e w' => ∃ v2_ v7_ : Value, e = .returned (.agg #[.int .i64 r1, .int .i64 r2, v2_, .string r4, .bool r5, .bool r6, .int .i64 r7, v7_, .string r9, .bool r10, .int .i64 r11, .int .i64 r12]) ∧ Kd.R k61 61 w' w.heap.size (fun k_ => some k_ ≠ (v7_ : Value).ownBlock) v2_ r3 ∧ Kd.R k61 61 w' w.heap.size (fun k_ => some k_ ≠ (v2_ : Value).ownBlock) v7_ r8 ∧ Below w.heap.size w w' := by
 have hu58 := Tryd.underlying58
 have hu36 := Tryd.underlying36
 have HB := Aside0.mk (Below.refl w.heap.size w)
 have H : (some (a0, 1, ([] : List (S61)), (⟨#[]⟩ : ByteArray), false, false, 0, ([] : List (S61)), (⟨#[]⟩ : ByteArray), false, 8, 8)) = some (r1, r2, r3, r4, r5, r6, r7, r8, r9, r10, r11, r12) := h
 clear h
 simp only [Option.some.injEq, Prod.mk.injEq] at H
 obtain ⟨rfl, rfl, rfl, rfl, rfl, rfl, rfl, rfl, rfl, rfl, rfl, rfl⟩ := H
 go_enter Tryd.func24, Tryd.ntmps24
 go_wp2_with (first | ((with_reducible refine gd 2 rfl ?_); refine bx (N := 2) (cs := #[.int .i64 0, .int .i64 0, .slice none 0 0, .string (⟨#[]⟩ : ByteArray), .bool false, .bool false, .int .i64 0, .slice none 0 0, .string (⟨#[]⟩ : ByteArray), .bool false, .int .i64 0, .int .i64 0]) (t := 58) ?_; intro gb421 hg w2 hbox hb; have BK421 := Aside0.mk (hbox); have GW421 := gw HB hg; have GE421 := GW421; replace HB := Aside0.mk (below_step (zb HB) hb); clear hb hbox hg; obtain ⟨hcz3_0, hcz3_1, hcz3_2, hcz3_3, hcz3_4, hcz3_5, hcz3_6, hcz3_7, hcz3_8, hcz3_9, hcz3_10, hcz3_11, hfz3_0, hfz3_1, hfz3_2, hfz3_3, hfz3_4, hfz3_5, hfz3_6, hfz3_7, hfz3_8, hfz3_9, hfz3_10, hfz3_11⟩ := c12 BK421))
 refine bodyPost_ret (results_cell_row rfl _ _ gb421 58 #[.int .i64 a0, .int .i64 1, .slice none 0 0, .string (⟨#[]⟩ : ByteArray), .bool false, .bool false, .int .i64 0, .slice none 0 0, .string (⟨#[]⟩ : ByteArray), .bool false, .int .i64 8, .int .i64 8] (0, 0) _ rfl (zp BK421) Tryd.underlying58 rfl (by kernel_rfl)) rfl ?_
 exact ⟨_, _, ze, by first | exact Kd.R_nil _ _ _ _ _ | exact Kd.N_nil _ _ _ _ _ | exact Kd.V_nil _ _ _ _ _ | exact Kd.Q_nil _ _ _ _ _ | exact Kd.S_nil _ _ _ _ _, by first | exact Kd.R_nil _ _ _ _ _ | exact Kd.N_nil _ _ _ _ _ | exact Kd.V_nil _ _ _ _ _ | exact Kd.Q_nil _ _ _ _ _ | exact Kd.S_nil _ _ _ _ _, zb HB⟩

-- NOT PRINTED: function 89 (strconv_small)

-- NOT PRINTED: function 93 (strconv_log10Pow2)

-- NOT PRINTED: function 94 (bits_Len64)

-- NOT PRINTED: function 95 (strconv_bool2_int)

-- NOT PRINTED: function 90 (strconv_numDigits)

-- NOT PRINTED: function 91 (strconv_formatBase10)

-- NOT PRINTED: function 96 (strconv_isPowerOfTwo)

-- NOT PRINTED: function 98 (bits_TrailingZeros32)

-- NOT PRINTED: function 99 (bits_TrailingZeros64)

-- NOT PRINTED: function 97 (bits_TrailingZeros)

-- NOT PRINTED: function 92 (strconv_formatBits)

-- NOT PRINTED: function 83 (strconv_FormatInt)

-- NOT PRINTED: function 61 (strconv_Itoa_61)

/-! ### strconv_Itoa_25: function 25 -/
-- by hand
open Go.Shelf in
shelf_lay Lays.n246 Nm 246 at Tryd as TrydL.lays246
def strconv_Itoa.f (a0 : Int) : Option (ByteArray) := if 0 ≤ a0 ∧ a0 < 100 then some ⟨(Lib.decDigits a0.toNat).toArray⟩ else none
theorem strconv_Itoa.calls (a0 : Int) (r : ByteArray) (w : World) (h : strconv_Itoa.f a0 = some r) :
    Calls Tryd.prog 25 #[.int .i64 a0] w fun e w' => e = .returned (.string r) ∧ Drawn0 w w' := by
  unfold strconv_Itoa.f at h
  split at h
  · rename_i h1
    simp only [Option.some.injEq] at h
    subst h
    obtain ⟨n, rfl⟩ := Int.eq_ofNat_of_zero_le h1.1
    have hn : n < 100 := by omega
    clear h1
    go_enter Tryd.func25, Tryd.ntmps25
    go_wp2_with (first
      | (go_at_call 83; refine (Go.Proofs.Any.internal_strconv_FormatInt_10_small TrydL.lays246 n hn _).mono ?_; rintro e w' ⟨rfl, rfl⟩)
      | go_in)
    go_ret
    exact ⟨rfl, Drawn0.refl _⟩
  · cases h

-- NOT PRINTED: function 7 (impl_EndCall)

/-! ### laws_eqField: function 84 -/
-- thin
def laws_eqField.f (a0_0 : ByteArray) (a0_1 : ByteArray) (a0_2 : Bool) (a1_0 : ByteArray) (a1_1 : ByteArray) (a1_2 : Bool) : Option (Bool) := if a0_0.toList = a1_0.toList then (if a0_1.toList = a1_1.toList then (if (a0_2 != a1_2) = true then (some false) else (some true)) else (some false)) else (some false)
set_option maxHeartbeats 8000000 in
set_option maxRecDepth 100000 in
theorem laws_eqField.calls (a0_0 : ByteArray) (a0_1 : ByteArray) (a0_2 : Bool) (a1_0 : ByteArray) (a1_1 : ByteArray) (a1_2 : Bool) (r : Bool) (w : World) (h : laws_eqField.f a0_0 a0_1 a0_2 a1_0 a1_1 a1_2 = some r) :
  Calls Tryd.prog 84 #[.agg #[.string a0_0, .string a0_1, .bool a0_2], .agg #[.string a1_0, .string a1_1, .bool a1_2]] w fun e w' => e = .returned (.bool r) ∧ Below w.heap.size w w' := by
 have hu61 := Tryd.underlying61
 have HB := Aside0.mk (Below.refl w.heap.size w)
 have H : (if a0_0.toList = a1_0.toList then (if a0_1.toList = a1_1.toList then (if (a0_2 != a1_2) = true then (some false) else (some true)) else (some false)) else (some false)) = some r := h
 clear h
 have HC3 := Aside0.mk H
 clear H
 go_enter Tryd.func84, Tryd.ntmps84
 go_upto_if 9 with (first | ((with_reducible refine gd 2 rfl ?_); refine bx (N := 2) (cs := #[.string a0_0, .string a0_1, .bool a0_2]) (t := 61) ?_; intro gb490 hg w4 hbox hb; have BK490 := Aside0.mk (hbox); have GW490 := gw HB hg; have GE490 := GW490; replace HB := Aside0.mk (below_step (zb HB) hb); clear hb hbox hg) | ((with_reducible refine gd 3 rfl ?_); refine bx (N := 3) (cs := #[.string a1_0, .string a1_1, .bool a1_2]) (t := 61) ?_; intro gb491 hg w5 hbox hb; have BK491 := Aside0.mk (hbox); have GW491 := gw HB hg; have GE491 := GW491; replace HB := Aside0.mk (below_step (zb HB) hb); obtain ⟨NB490_491, NB491_490⟩ := nb BK490 hg; replace BK490 := kb BK490 hb; clear hb hbox hg; have hnb6 := NB490_491.out; have hnc6 := NB491_490.out; obtain ⟨hcz7_0, hcz7_1, hcz7_2, hfz7_0, hfz7_1, hfz7_2⟩ := c3 BK490; obtain ⟨hcz8_0, hcz8_1, hcz8_2, hfz8_0, hfz8_1, hfz8_2⟩ := c3 BK491))
 (try simp only [Act.put, s1, s2, s3])
 have H := HC3.out
 clear HC3
 replace H := sp H
 rcases H with ⟨c9, H⟩ | ⟨c9, H⟩
 ·skip
  have c9b0 : (a0_0.toList == a1_0.toList) = true := beq_iff_eq.mpr c9
  have c9b1 : (a0_0.toList != a1_0.toList) = false := bne_eq_false_iff_eq.mpr c9
  clear c9
  (first | rw [c9b0] | rw [c9b1] | rw [c9b2] | (simp only [i64_w, i32_w]; rw [c9b0]) | skip)
  by_cases c10 : a0_1.toList = a1_1.toList
  ·rw [if_pos c10] at H
   have c10b0 : (a0_1.toList == a1_1.toList) = true := beq_iff_eq.mpr c10
   have c10b1 : (a0_1.toList != a1_1.toList) = false := bne_eq_false_iff_eq.mpr c10
   clear c10
   by_cases c11 : (a0_2 != a1_2) = true
   ·rw [if_pos c11] at H
    have c11b0 : (a0_2 != a1_2) = true := c11
    (try (have c11b1 : decide (a0_2 = a1_2) = false := by simpa using c11))
    (try (have c11b2 : (a0_2 == a1_2) = false := by simpa using c11))
    (try (have c11b3 : ¬ (a0_2 = a1_2) := by simpa using c11))
    clear c11
    obtain rfl := Option.some.inj H
    have hnb12 := NB490_491.out
    have hnc12 := NB491_490.out
    obtain ⟨hcz13_0, hcz13_1, hcz13_2, hfz13_0, hfz13_1, hfz13_2⟩ := c3 BK490
    obtain ⟨hcz14_0, hcz14_1, hcz14_2, hfz14_0, hfz14_1, hfz14_2⟩ := c3 BK491
    go_wp2
    go_ret
    exact ⟨ze, zb HB⟩
   ·rw [if_neg c11] at H
    have c11b0 : (a0_2 != a1_2) = false := by simpa using c11
    (try (have c11b1 : decide (a0_2 = a1_2) = true := by simpa using c11))
    (try (have c11b2 : (a0_2 == a1_2) = true := by simpa using c11))
    clear c11
    obtain rfl := Option.some.inj H
    have hnb15 := NB490_491.out
    have hnc15 := NB491_490.out
    obtain ⟨hcz16_0, hcz16_1, hcz16_2, hfz16_0, hfz16_1, hfz16_2⟩ := c3 BK490
    obtain ⟨hcz17_0, hcz17_1, hcz17_2, hfz17_0, hfz17_1, hfz17_2⟩ := c3 BK491
    go_wp2
    go_ret
    exact ⟨ze, zb HB⟩
  ·rw [if_neg c10] at H
   have c10b0 : (a0_1.toList == a1_1.toList) = false := beq_eq_false_iff_ne.mpr c10
   have c10b1 : (a0_1.toList != a1_1.toList) = true := bne_iff_ne.mpr c10
   obtain rfl := Option.some.inj H
   have hnb18 := NB490_491.out
   have hnc18 := NB491_490.out
   obtain ⟨hcz19_0, hcz19_1, hcz19_2, hfz19_0, hfz19_1, hfz19_2⟩ := c3 BK490
   obtain ⟨hcz20_0, hcz20_1, hcz20_2, hfz20_0, hfz20_1, hfz20_2⟩ := c3 BK491
   go_wp2
   go_ret
   exact ⟨ze, zb HB⟩
 ·skip
  have c9b0 : (a0_0.toList == a1_0.toList) = false := beq_eq_false_iff_ne.mpr c9
  have c9b1 : (a0_0.toList != a1_0.toList) = true := bne_iff_ne.mpr c9
  (first | rw [c9b0] | rw [c9b1] | rw [c9b2] | (simp only [i64_w, i32_w]; rw [c9b0]) | skip)
  obtain rfl := Option.some.inj H
  go_wp2
  go_ret
  exact ⟨ze, zb HB⟩

/-! ### laws_eqFieldS: function 62 -/
-- thin
def laws_eqFieldS.l0 : Nat → List (S61) → List (S61) → Int → Option (Bool)
 | 0, _, _, _ => none
 | k + 1, x0, x1, x5 => if x5 < (x0.length : Int) then (if 0 ≤ x5 then (if x5 < (x1.length : Int) then ((laws_eqField.f ((rd_T61 x0 x5).f0) ((rd_T61 x0 x5).f1) ((rd_T61 x0 x5).f2) ((rd_T61 x1 x5).f0) ((rd_T61 x1 x5).f1) ((rd_T61 x1 x5).f2)).bind fun t494 => (if t494 = true then (laws_eqFieldS.l0 k x0 x1 (wrap64 (x5 + 1))) else (some false))) else (none)) else (none)) else (some true)
def laws_eqFieldS.f (k : Nat) (l0 : List (S61)) (l1 : List (S61)) : Option (Bool) := if (l0.length : Int) = (l1.length : Int) then (laws_eqFieldS.l0 k l0 l1 0) else (some false)
theorem laws_eqFieldS.mono_l : ∀ k, (∀ y0 y1 y2, LeO (laws_eqFieldS.l0 k y0 y1 y2) (laws_eqFieldS.l0 (k + 1) y0 y1 y2))
 | 0 => fun _ _ _ r h => by simp [laws_eqFieldS.l0] at h
 | k + 1 => by
  have ih0 := laws_eqFieldS.mono_l k
  ·intro y0 y1 y2
   unfold laws_eqFieldS.l0
   exact zm
theorem laws_eqFieldS.mono : ∀ a0 a1 k, LeO (laws_eqFieldS.f k a0 a1) (laws_eqFieldS.f (k + 1) a0 a1) := by
 intro a0 a1 k
 have ih0 := laws_eqFieldS.mono_l k
 unfold laws_eqFieldS.f
 exact zm
def laws_eqFieldS.T6 : Bool × List (List Nat × List Nat) := (true, [([], []), ([], []), ([0, 1], [0, 1]), ([2], [2]), ([], []), ([], []), ([4, 5], [4, 5]), ([6], [6]), ([3, 7], [3, 7]), ([8], [8])])
def laws_eqFieldS.B6 : List Nat := [0, 0, 3, 7, 0, 0, 48, 112, 255, 511]
theorem laws_eqFieldS.tab6 : rtab .any (opsOf Tryd.f62 6) = laws_eqFieldS.T6 := by kernel_rfl
theorem laws_eqFieldS.bits6 : waitsOk laws_eqFieldS.T6.2 laws_eqFieldS.B6 = true := by kernel_rfl
set_option maxHeartbeats 8000000 in
set_option maxRecDepth 100000 in
theorem laws_eqFieldS.calls (k : Nat) (A0 : Option Addr) (c0 : Nat) (l0 : List (S61)) (A1 : Option Addr) (c1 : Nat) (l1 : List (S61)) (r : Bool) (w : World) (hr0 : Kd.C k61 w A0 l0.length l0) (hc0 : l0.length ≤ c0) (hr1 : Kd.C k61 w A1 l1.length l1) (hc1 : l1.length ≤ c1) (h : laws_eqFieldS.f k l0 l1 = some r) :
  Calls Tryd.prog 62 #[.slice A0 l0.length c0, .slice A1 l1.length c1] w fun e w' => e = .returned (.bool r) ∧ Below w.heap.size w w' := by
 have hu61 := Tryd.underlying61
 have HR0 := Aside0.mk hr0
 have HC0 := Aside0.mk hc0
 clear hr0 hc0
 have HR1 := Aside0.mk hr1
 have HC1 := Aside0.mk hc1
 clear hr1 hc1
 have HB := Aside0.mk (Below.refl w.heap.size w)
 have H : (if (l0.length : Int) = (l1.length : Int) then (laws_eqFieldS.l0 k l0 l1 0) else (some false)) = some r := h
 clear h
 replace H := sp H
 rcases H with ⟨c3, H⟩ | ⟨c3, H⟩
 ·skip
  have c3b0 : ((l0.length : Int) == (l1.length : Int)) = true := beq_iff_eq.mpr c3
  have c3b1 : ((l0.length : Int) != (l1.length : Int)) = false := bne_eq_false_iff_eq.mpr c3
  have c3b2 : (l0.length == l1.length) = true := by first | simpa using c3 | (simp at c3 ⊢; omega)
  clear c3
  have H' := Aside0.mk H
  clear H
  go_enter Tryd.func62, Tryd.ntmps62
  go_wp2
  go_loopg [5] k (fun kq v5 w' => ∃ (x5_1 : Int), v5 = .int .i64 x5_1 ∧ Aside0 (laws_eqFieldS.l0 kq l0 l1 x5_1 = some r) ∧ Aside0 (kq ≤ k) ∧ Aside0 (Below w.heap.size w w'))
  case atStart => exact ⟨(0), zs, H', ⟨Nat.le_refl _⟩, ⟨zb HB⟩⟩
  case round =>
   clear H'
   try clear c1
   try clear p2
   try clear c3
   try clear c3b0
   try clear c3b1
   try clear c3b2
   obtain ⟨x5_1, rfl, HA, HK1, HB⟩ := hrel
   cases gk with
   | zero => exact absurd HA.out (by simp [laws_eqFieldS.l0])
   | succ k1 =>
    have H := HA.out
    clear HA
    simp only [laws_eqFieldS.l0] at H
    by_cases c4 : x5_1 < (l0.length : Int)
    ·rw [if_pos c4] at H
     have c4b0 := decide_eq_true c4
     clear c4
     by_cases c5 : 0 ≤ x5_1
     ·rw [if_pos c5] at H
      have c5b0 := decide_eq_true c5
      clear c5
      by_cases c6 : x5_1 < (l1.length : Int)
      ·rw [if_pos c6] at H
       have c6b0 := decide_eq_true c6
       clear c6
       obtain ⟨t494, A7, H⟩ := ob H
       (try dsimp only at H)
       have HC8 := Aside0.mk H
       clear H
       try go_wp2
       replace HB := Aside0.mk (below_drew1 HB.out)
       have p492 : 0 ≤ (x5_1 : Int) := of_decide_eq_true za
       have q492 : x5_1 < (l0.length : Int) := of_decide_eq_true za
       obtain ⟨ad492, e492, hx492_0, hx492_1, hx492_2⟩ := at_T61 HR0.out x5_1 p492 q492
       have hw492_2 := hx492_2
       have hw492_1 := hx492_1
       have hw492_0 := hx492_0
       cases e492
       replace hx492_0 := cb0 hx492_0 HB
       replace hx492_1 := cb0 hx492_1 HB
       replace hx492_2 := cb0 hx492_2 HB
       replace p492 := eq_true p492
       replace q492 := eq_true q492
       have p493 : 0 ≤ (x5_1 : Int) := of_decide_eq_true za
       have q493 : x5_1 < (l1.length : Int) := of_decide_eq_true za
       obtain ⟨ad493, e493, hx493_0, hx493_1, hx493_2⟩ := at_T61 HR1.out x5_1 p493 q493
       have hw493_2 := hx493_2
       have hw493_1 := hx493_1
       have hw493_0 := hx493_0
       cases e493
       replace hx493_0 := cb0 hx493_0 HB
       replace hx493_1 := cb0 hx493_1 HB
       replace hx493_2 := cb0 hx493_2 HB
       replace p493 := eq_true p493
       replace q493 := eq_true q493
       refine st 10 (an (cb hw492_0 HB) (an (cb hw492_1 HB) (an (cb hw492_2 HB) (an (cb hw493_0 HB) (an (cb hw493_1 HB) (cb hw493_2 HB)))))) (fun hHeld => ?_); refine with_tabW laws_eqFieldS.tab6 laws_eqFieldS.bits6 (fun HT_ HW_ => ?_)
       generalize wr.drew = w9 at HB hx492_0 hx492_1 hx492_2 hx493_0 hx493_1 hx493_2 hHeld ⊢
       refine pu 0 (some 17) (bm 10 1) rfl rfl ?_
       refine pu 1 (some 18) (bm 10 3) rfl rfl ?_
       refine pu 2 (some 19) (bm 10 7) rfl rfl ?_
       refine pu 4 (some 21) (bm 10 23) rfl rfl ?_
       refine pu 5 (some 22) (bm 10 55) rfl rfl ?_
       refine pu 6 (some 23) (bm 10 119) rfl rfl ?_
       refine tk 3 (some 20) (bm 10 127) rfl rfl hHeld ?_
       refine tk 7 (some 24) (bm 10 255) rfl rfl hHeld ?_
       refine one_ (i := 8) (N := some 25) (bm 10 511) rfl rfl (one_of HT_.out (by kernel_rfl)) (by decide) (fun K hK => ?_)
       refine gs Tryd.func84 #[.agg #[.string ((rd_T61 l0 x5_1).f0), .string ((rd_T61 l0 x5_1).f1), .bool ((rd_T61 l0 x5_1).f2)], .agg #[.string ((rd_T61 l1 x5_1).f0), .string ((rd_T61 l1 x5_1).f1), .bool ((rd_T61 l1 x5_1).f2)]] ?_
       with_reducible refine (laws_eqField.calls ((rd_T61 l0 x5_1).f0) ((rd_T61 l0 x5_1).f1) ((rd_T61 l0 x5_1).f2) ((rd_T61 l1 x5_1).f0) ((rd_T61 l1 x5_1).f1) ((rd_T61 l1 x5_1).f2) t494 _ A7.out).mono ?_
       rintro e w10 ⟨rfl, hb⟩
       refine ⟨_, rfl, ?_⟩
       replace HB := Aside0.mk (below_step (zb HB) hb)
       (try clear hb)
       refine hK.out _ _ (an (cb hw492_0 HB) (an (cb hw492_1 HB) (an (cb hw492_2 HB) (an (cb hw493_0 HB) (an (cb hw493_1 HB) (cb hw493_2 HB)))))) (fun hHeld => ?_)
       clear hK K
       refine nm ?_
       refine pu 9 (some 26) (bm 10 1023) rfl rfl ?_
       refine done_ (done_of HT_.out (by kernel_rfl)) ?_
       go_upto_if 26 with (fail)
       have H := HC8.out
       clear HC8
       by_cases c11 : t494 = true
       ·subst c11
        rw [if_pos rfl] at H
        have H' := Aside0.mk H
        clear H
        go_wp2
        go_roundg k1
        case measure => have := HK1.out; omega
        case rel => exact ⟨(wrap64 (x5_1 + 1)), zs, H', ⟨by have := HK1.out; omega⟩, ⟨zb HB⟩⟩
       ·replace c11 := Bool.eq_false_iff.mpr c11
        subst c11
        rw [if_neg (show ¬ (false = true) by decide)] at H
        obtain rfl := Option.some.inj H
        go_wp2
        go_ret
        exact ⟨ze, zb HB⟩
      ·rw [if_neg c6] at H
       exact absurd H (by simp)
     ·rw [if_neg c5] at H
      exact absurd H (by simp)
    ·rw [if_neg c4] at H
     have c4b0 := decide_eq_false c4
     clear c4
     obtain rfl := Option.some.inj H
     go_wp2
     go_ret
     exact ⟨ze, zb HB⟩
 ·skip
  have c3b0 : ((l0.length : Int) == (l1.length : Int)) = false := beq_eq_false_iff_ne.mpr c3
  have c3b1 : ((l0.length : Int) != (l1.length : Int)) = true := bne_iff_ne.mpr c3
  have c3b2 : (l0.length == l1.length) = false := by first | simpa using c3 | (simp at c3 ⊢; omega)
  obtain rfl := Option.some.inj H
  go_enter Tryd.func62, Tryd.ntmps62
  go_wp2
  go_ret
  exact ⟨ze, zb HB⟩

end Go.Proofs.YtlpibelofcabhaaDoor.PFnExactEndCall
