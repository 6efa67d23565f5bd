-- WRITTEN BY a turned print (wip/tools of the prover's repo)
import Derived.Test.YtlpibelofcabhaaPFnEndNewx0
import Derived.Test.YtlpibelofcabhaaPFnEndNewx8
namespace Go.Proofs.Ytlpibelofcabhaa.PFnEndNew
open Go.RowKit Go.Proofs.YtlpibelofcabhaaW.PrintWords Go.Proofs.YtlpibelofcabhaaW.PrintLast Go.Proofs.YtlpibelofcabhaaW.PrintMore Go.Proofs.Ytlpibelofcabhaa.Lm
attribute [local go_sem] max2_int min2_int max_two min_two max_three min_three max_four min_four   -- for this text's walks alone
set_option linter.unusedVariables false
set_option linter.unusedSimpArgs false

/-! ### impl_cloneFields: function 120 -/
-- by hand
/-- A row like the one that came in. -/
def impl_cloneFields.f (l0 : List (S88)) : Option (List (S88)) := if l0.length < 3518437208883 then some l0 else none
set_option maxHeartbeats 4000000 in
set_option maxRecDepth 100000 in
theorem impl_cloneFields.calls (A0 : Option Addr) (c0 : Nat) (l0 : List (S88)) (r : List (S88)) (w : World) (hr0 : Kd.C k88 w A0 l0.length l0) (hc0 : l0.length ≤ c0) (h : impl_cloneFields.f l0 = some r) :
    Calls Try.prog 120 #[.slice A0 l0.length c0] w fun e w' => ∃ v0_ : Value, e = .returned (v0_) ∧ Kd.R k88 88 w' w.heap.size (fun _ => True) v0_ r ∧ Below w.heap.size w w' := by
  unfold impl_cloneFields.f at h
  split at h
  case isFalse => cases h
  rename_i hl
  obtain rfl := Option.some.inj h
  clear h
  have HR0 := Aside0.mk hr0
  clear hr0
  go_enter Try.func120, Try.ntmps120
  go_wp2_with (first | (at_builtin; refine Kd.R_append_rows k88 (w0 := w) w.heap.size rfl (.const (.slice none 0 0)) (.tmp 3) 23 88 (.agg #[(.string ⟨#[]⟩), (.string ⟨#[]⟩), (.bool false)]) 40 rfl Try.underlying23 info88 rfl (by decide) (by omega) (.slice none 0 0) [] l0 _ _ _ (fun _ => True) (fun _ => False) rfl rfl ?aO ?aR (fun _ _ h => h) (fun _ h => h.elim) ?aF ?aB ?aS ?aL ?_; (case aR => exact HR0.out); (case aB => exact Below.refl _ _); (case aF => exact (fun _ _ => trivial)); (case aO => exact Kd.R_nil _ _ _ _ _); (case aS => exact Nat.le_refl _); (case aL => simp only [List.length_nil]; omega); intro v1 w1 ho hb hg hat; rw [List.nil_append] at ho; have N1 := Aside0.mk ho; have N2 := Aside0.mk hb; clear ho hb hg hat))
  go_ret
  exact ⟨_, rfl, N1.out, N2.out⟩

/-! ### impl_Table_clone: function 60 -/
-- thin
def impl_Table_clone.f (l0_0 : List (S88)) (a0_1 : Int) : Option ((List (S88)) × Int) := (impl_cloneFields.f l0_0).bind fun t201 => (some (t201, a0_1))
set_option maxHeartbeats 8000000 in
set_option maxRecDepth 100000 in
theorem impl_Table_clone.calls (A0_0 : Option Addr) (c0_0 : Nat) (l0_0 : List (S88)) (a0_1 : Int) (r1 : List (S88)) (r2 : Int) (w : World) (hr0_0 : Kd.C k88 w A0_0 l0_0.length l0_0) (hc0_0 : l0_0.length ≤ c0_0) (h : impl_Table_clone.f l0_0 a0_1 = some (r1, r2)) :
  Calls Try.prog 60 #[.agg #[.slice A0_0 l0_0.length c0_0, .int .i64 a0_1]] w fun e w' => ∃ v0_ : Value, e = .returned (.agg #[v0_, .int .i64 r2]) ∧ Kd.R k88 88 w' w.heap.size (fun _ => True) v0_ r1 ∧ Below w.heap.size w w' := by
 have hu25 := Try.underlying25
 have HR0_0 := Aside0.mk hr0_0
 have HC0_0 := Aside0.mk hc0_0
 clear hr0_0 hc0_0
 have HB := Aside0.mk (Below.refl w.heap.size w)
 have H : ((impl_cloneFields.f l0_0).bind fun t201 => (some (t201, a0_1))) = some (r1, r2) := h
 clear h
 obtain ⟨t201, A2, H⟩ := ob H
 (try dsimp only at H)
 simp only [Option.some.injEq, Prod.mk.injEq] at H
 obtain ⟨rfl, rfl⟩ := H
 go_enter Try.func60, Try.ntmps60
 try go_wp2_with (first | ((with_reducible refine gd 1 rfl ?_); refine bx (N := 1) (cs := #[.slice A0_0 l0_0.length c0_0, .int .i64 a0_1]) (t := 25) ?_; intro gb199 hg w3 hbox hb; have BK199 := Aside0.mk (hbox); have GW199 := gw HB hg; have GE199 := GW199; replace HB := Aside0.mk (below_step (zb HB) hb); clear hb hbox hg) | ((with_reducible refine gd 2 rfl ?_); refine bx (N := 2) (cs := #[.slice none 0 0, .int .i64 0]) (t := 25) ?_; intro gb200 hg w4 hbox hb; have BK200 := Aside0.mk (hbox); have GW200 := gw HB hg; have GE200 := GW200; replace HB := Aside0.mk (below_step (zb HB) hb); obtain ⟨NB199_200, NB200_199⟩ := nb BK199 hg; replace BK199 := kb BK199 hb; clear hb hbox hg))
 replace BK199 := Aside0.mk (blk_drew BK199.out)
 replace BK200 := Aside0.mk (blk_drew BK200.out)
 replace HB := Aside0.mk (below_drew1 HB.out)
 refine st 7 (b2 BK199) (fun hHeld => ?_)
 generalize w4.drew = w5 at BK199 BK200 HB hHeld ⊢
 refine pu 0 (some 3) (bm 7 1) rfl rfl ?_
 refine pu 3 (some 6) (bm 7 9) rfl rfl ?_
 refine tk 1 (some 4) (bm 7 11) rfl rfl hHeld ?_
 refine tk 4 (some 7) (bm 7 27) rfl rfl hHeld ?_
 refine one_ (i := 2) (N := some 5) (bm 7 31) rfl rfl (by kernel_rfl) (by decide) (fun K hK => ?_)
 refine gs Try.func120 #[.slice A0_0 l0_0.length c0_0] ?_
 with_reducible refine (impl_cloneFields.calls _ _ l0_0 t201 _ ?side1 ?side2 A2.out).mono ?_
 (case side1 => exact zc (Kd.C_below HR0_0.out HB.out))
 (case side2 => exact HC0_0.out)
 rintro e w6 ⟨v202, rfl, ho0, hb⟩
 refine ⟨_, rfl, ?_⟩
 have HO203 := Aside0.mk (Kd.R_lower ho0 (below_size (zb HB)))
 replace BK199 := kb BK199 hb
 replace BK200 := kb BK200 hb
 replace HB := Aside0.mk (below_step (zb HB) hb)
 (try clear hb)
 (try clear ho0)
 obtain ⟨Ao7, co7, eo7⟩ := Kd.R_slice HO203.out
 (first | subst eo7 | (injection eo7 with f1_ f2_ f3_; have f4_ := f1_.symm; have f5_ := f3_.symm; clear f1_ f2_ f3_; subst f4_; subst f5_))
 refine hK.out _ _ (b2 BK199) (fun hHeld => ?_)
 clear hK K
 refine nm ?_
 refine pu 5 (some 8) (bm 7 63) rfl rfl ?_
 refine one_ (i := 6) (N := none) (bm 7 127) rfl rfl (by kernel_rfl) (by decide) (fun K hK => ?_)
 have hs8 : w6.cell? ⟨gb200, 0, none⟩ = some (.slice none 0 0) := (blk_cell BK200.out 0).trans rfl
 have hfs8 := blk_frozen BK200.out 0
 have hns8_0 := NB199_200.out
 have hms8_0 := NB200_199.out
 have hs9 : w6.cell? ⟨gb200, 1, none⟩ = some (.int .i64 0) := (blk_cell BK200.out 1).trans rfl
 have hfs9 := blk_frozen BK200.out 1
 have hns9_0 := NB199_200.out
 have hms9_0 := NB200_199.out
 refine skip_ (w1 := ?_) (by rfl) rfl ?_ ?_
 rotate_left
 ·go_simp
  rfl
 refine hK.out _ _ ⟨((cell_far (p := ⟨gb200, _, none⟩) NB199_200.out _).trans (((cell_far (p := ⟨gb200, _, none⟩) NB199_200.out _).trans (hHeld.1)))), ((cell_far (p := ⟨gb200, _, none⟩) NB199_200.out _).trans (((cell_far (p := ⟨gb200, _, none⟩) NB199_200.out _).trans (hHeld.2))))⟩ (fun hHeld => ?_)
 clear hK K
 refine done_ (by kernel_rfl) ?_
 try go_wp2
 refine bodyPost_ret (results_cell_row rfl _ _ gb200 25 #[.slice Ao7 t201.length co7, .int .i64 a0_1] (0, 0) _ rfl (zp BK200) Try.underlying25 rfl (by kernel_rfl)) rfl ?_
 exact ⟨_, ze, (Kd.R_mono (ztR (Kd.R_types HO203.out BK200.out (by decide))) (fun _ hk => trivial)), zb HB⟩

/-! ### impl_End_clone: function 77 -/
-- thin
def impl_End_clone.l0 : Nat → List (S104) → List (S104) → Int → Int → Bool → List (S88) → Int → List (S88) → Int → ByteArray → List (S104) → Int → Int → List (S110) → Bool → Option (Bool × (List (S88)) × Int × (List (S88)) × Int × ByteArray × (List (S104)) × Int × Int × (List (S110)) × Bool)
 | 0, _, _, _, _, _, _, _, _, _, _, _, _, _, _, _ => none
 | k + 1, x3, x19, x20, x21, x205000, x205001, x205002, x205003, x205004, x205005, x205006, x205007, x205008, x205009, x205010 => if x21 < x20 then (if 0 ≤ x21 then (if x21 < (x19.length : Int) then ((impl_cloneFields.f ((rd_T104 x19 x21).f2)).bind fun t219 => ((impl_cloneFields.f ((rd_T104 x19 x21).f7)).bind fun t222 => (if x3.length < 1034834473200 then (impl_End_clone.l0 k (x3 ++ [(⟨(rd_T104 x19 x21).f0, (rd_T104 x19 x21).f1, t219, (rd_T104 x19 x21).f3, (rd_T104 x19 x21).f4, (rd_T104 x19 x21).f5, (rd_T104 x19 x21).f6, t222, (rd_T104 x19 x21).f8, (rd_T104 x19 x21).f9, (⟨(rd_T104 x19 x21).f10.f0, (rd_T104 x19 x21).f10.f1⟩ : S39)⟩ : S104)]) x19 x20 (wrap64 (x21 + 1)) x205000 x205001 x205002 x205003 x205004 x205005 x205006 x205007 x205008 x205009 x205010) else (none)))) else (none)) else (none)) else (some (x205000, x205001, x205002, x205003, x205004, x205005, x3, x205007, x205008, x205009, x205010))
def impl_End_clone.f (k : Nat) (a0_0 : Bool) (l0_1 : List (S88)) (a0_2 : Int) (l0_3 : List (S88)) (a0_4 : Int) (a0_5 : ByteArray) (l0_6 : List (S104)) (a0_7 : Int) (a0_8 : Int) (l0_9 : List (S110)) (a0_10 : Bool) : Option (Bool × (List (S88)) × Int × (List (S88)) × Int × ByteArray × (List (S104)) × Int × Int × (List (S110)) × Bool) := (impl_Table_clone.f l0_1 a0_2).bind fun bt206 => ((impl_Table_clone.f l0_3 a0_4).bind fun bt210 => (if ([] : List (S110)).length + l0_9.length < 3518437208883 then (impl_End_clone.l0 k ([] : List (S104)) l0_6 (l0_6.length : Int) 0 a0_0 bt206.1 bt206.2 bt210.1 bt210.2 a0_5 l0_6 a0_7 a0_8 (([] : List (S110)) ++ l0_9) a0_10) else (none)))
theorem impl_End_clone.mono_l : ∀ k, (∀ y0 y1 y2 y3 y4 y5 y6 y7 y8 y9 y10 y11 y12 y13 y14, LeO (impl_End_clone.l0 k y0 y1 y2 y3 y4 y5 y6 y7 y8 y9 y10 y11 y12 y13 y14) (impl_End_clone.l0 (k + 1) y0 y1 y2 y3 y4 y5 y6 y7 y8 y9 y10 y11 y12 y13 y14))
 | 0 => fun _ _ _ _ _ _ _ _ _ _ _ _ _ _ _ r h => by simp [impl_End_clone.l0] at h
 | k + 1 => by
  have ih0 := impl_End_clone.mono_l k
  ·intro y0 y1 y2 y3 y4 y5 y6 y7 y8 y9 y10 y11 y12 y13 y14
   unfold impl_End_clone.l0
   exact zm
theorem impl_End_clone.mono : ∀ a0 a1 a2 a3 a4 a5 a6 a7 a8 a9 a10 k, LeO (impl_End_clone.f k a0 a1 a2 a3 a4 a5 a6 a7 a8 a9 a10) (impl_End_clone.f (k + 1) a0 a1 a2 a3 a4 a5 a6 a7 a8 a9 a10) := by
 intro a0 a1 a2 a3 a4 a5 a6 a7 a8 a9 a10 k
 have ih0 := impl_End_clone.mono_l k
 unfold impl_End_clone.f
 exact zm
def impl_End_clone.T1 : Bool × List (List Nat × List Nat) := (true, [([], []), ([0], [0]), ([1], [1]), ([], []), ([3], [3]), ([4, 2], [4]), ([], []), ([6], [6]), ([7, 5], [7]), ([0, 1, 2, 3, 4, 6, 7], []), ([9, 2, 8, 0, 1, 2, 3, 4, 6, 7], [2, 9]), ([0, 1, 2, 3, 4, 5, 6, 7, 9, 10], []), ([11, 5, 10, 0, 1, 2, 3, 4, 5, 6, 7, 9, 10], [5, 11]), ([0, 1, 2, 3, 4, 5, 6, 7, 8, 9, 10, 11, 12], []), ([13, 8, 12, 0, 1, 2, 3, 4, 5, 6, 7, 8, 9, 10, 11, 12], [8, 13])])
def impl_End_clone.B1 : List Nat := [0, 1, 3, 0, 8, 31, 0, 64, 255, 223, 1023, 2047, 4095, 8191, 16383]
theorem impl_End_clone.tab1 : rtab .any (opsOf Try.f77 1) = impl_End_clone.T1 := by kernel_rfl
theorem impl_End_clone.bits1 : waitsOk impl_End_clone.T1.2 impl_End_clone.B1 = true := by kernel_rfl
def impl_End_clone.T6 : Bool × List (List Nat × List Nat) := (true, [([], []), ([0], [0]), ([1], [1]), ([], []), ([3], [3]), ([4, 2], [4]), ([0, 1, 2, 3, 4], []), ([6, 2, 5, 0, 1, 2, 3, 4], [2, 6]), ([0, 1, 2, 3, 4, 5, 6, 7], []), ([8, 5, 7, 0, 1, 2, 3, 4, 5, 6, 7], [5, 8])])
def impl_End_clone.B6 : List Nat := [0, 1, 3, 0, 8, 31, 31, 127, 255, 511]
theorem impl_End_clone.tab6 : rtab .any (opsOf Try.f77 6) = impl_End_clone.T6 := by kernel_rfl
theorem impl_End_clone.bits6 : waitsOk impl_End_clone.T6.2 impl_End_clone.B6 = true := by kernel_rfl
set_option maxHeartbeats 8000000 in
set_option maxRecDepth 100000 in
theorem impl_End_clone.calls (k : Nat) (a0_0 : Bool) (A0_1 : Option Addr) (c0_1 : Nat) (l0_1 : List (S88)) (a0_2 : Int) (A0_3 : Option Addr) (c0_3 : Nat) (l0_3 : List (S88)) (a0_4 : Int) (a0_5 : ByteArray) (A0_6 : Option Addr) (c0_6 : Nat) (l0_6 : List (S104)) (a0_7 : Int) (a0_8 : Int) (A0_9 : Option Addr) (c0_9 : Nat) (l0_9 : List (S110)) (a0_10 : Bool) (r1 : Bool) (r2 : List (S88)) (r3 : Int) (r4 : List (S88)) (r5 : Int) (r6 : ByteArray) (r7 : List (S104)) (r8 : Int) (r9 : Int) (r10 : List (S110)) (r11 : Bool) (w : World) (hr0_1 : Kd.C k88 w A0_1 l0_1.length l0_1) (hc0_1 : l0_1.length ≤ c0_1) (hr0_3 : Kd.C k88 w A0_3 l0_3.length l0_3) (hc0_3 : l0_3.length ≤ c0_3) (hr0_6 : Kd.C k104 w A0_6 l0_6.length l0_6) (hc0_6 : l0_6.length ≤ c0_6) (hr0_9 : Kd.C k110 w A0_9 l0_9.length l0_9) (hc0_9 : l0_9.length ≤ c0_9) (h : impl_End_clone.f k a0_0 l0_1 a0_2 l0_3 a0_4 a0_5 l0_6 a0_7 a0_8 l0_9 a0_10 = some (r1, r2, r3, r4, r5, r6, r7, r8, r9, r10, r11)) :
  Calls Try.prog 77 #[.agg #[.bool a0_0, .slice A0_1 l0_1.length c0_1, .int .i64 a0_2, .slice A0_3 l0_3.length c0_3, .int .i64 a0_4, .string a0_5, .slice A0_6 l0_6.length c0_6, .int .i64 a0_7, .int .i64 a0_8, .slice A0_9 l0_9.length c0_9, .bool a0_10]] w fun e w' => ∃ v1_ v3_ v6_ v9_ : Value, e = .returned (.agg #[.bool r1, v1_, .int .i64 r3, v3_, .int .i64 r5, .string r6, v6_, .int .i64 r8, .int .i64 r9, v9_, .bool r11]) ∧ Kd.R k88 88 w' w.heap.size (fun k_ => some k_ ≠ (v3_ : Value).ownBlock) v1_ r2 ∧ Kd.R k88 88 w' w.heap.size (fun k_ => some k_ ≠ (v1_ : Value).ownBlock) v3_ r4 ∧ Kd.S k104 104 w' w.heap.size (fun k_ => some k_ ≠ (v1_ : Value).ownBlock ∧ some k_ ≠ (v3_ : Value).ownBlock) v6_ r7 ∧ Kd.R k110 110 w' w.heap.size (fun _ => True) v9_ r10 ∧ Below w.heap.size w w' := by
 have hu42 := Try.underlying42
 have hu25 := Try.underlying25
 have hu104 := Try.underlying104
 have HR0_1 := Aside0.mk hr0_1
 have HC0_1 := Aside0.mk hc0_1
 clear hr0_1 hc0_1
 have HR0_3 := Aside0.mk hr0_3
 have HC0_3 := Aside0.mk hc0_3
 clear hr0_3 hc0_3
 have HR0_6 := Aside0.mk hr0_6
 have HC0_6 := Aside0.mk hc0_6
 clear hr0_6 hc0_6
 have HR0_9 := Aside0.mk hr0_9
 have HC0_9 := Aside0.mk hc0_9
 clear hr0_9 hc0_9
 have HB := Aside0.mk (Below.refl w.heap.size w)
 have H : ((impl_Table_clone.f l0_1 a0_2).bind fun bt206 => ((impl_Table_clone.f l0_3 a0_4).bind fun bt210 => (if ([] : List (S110)).length + l0_9.length < 3518437208883 then (impl_End_clone.l0 k ([] : List (S104)) l0_6 (l0_6.length : Int) 0 a0_0 bt206.1 bt206.2 bt210.1 bt210.2 a0_5 l0_6 a0_7 a0_8 (([] : List (S110)) ++ l0_9) a0_10) else (none)))) = some (r1, r2, r3, r4, r5, r6, r7, r8, r9, r10, r11) := h
 clear h
 obtain ⟨⟨t206, t209⟩, A2, H⟩ := ob H
 (try dsimp only at H)
 obtain ⟨⟨t210, t213⟩, A3, H⟩ := ob H
 (try dsimp only at H)
 replace H := sp H
 rcases H with ⟨c4, H⟩ | ⟨c4, H⟩
 ·skip
  have LMc4 := Aside0.mk c4
  clear c4
  obtain ⟨y214, hy214⟩ : ∃ y_ : List (S110), y_ = (([] : List (S110)) ++ l0_9) := ⟨_, rfl⟩
  replace H : (impl_End_clone.l0 k ([] : List (S104)) l0_6 (l0_6.length : Int) 0 a0_0 t206 t209 t210 t213 a0_5 l0_6 a0_7 a0_8 y214 a0_10) = some (r1, r2, r3, r4, r5, r6, r7, r8, r9, r10, r11) := by first | (rw [hy214]; with_reducible exact H) | (have H2_ := (Option.bind_some _ _).symm.trans H; rw [hy214]; with_reducible exact H2_) | (have H2_ := (Option.bind_some _ _).symm.trans H; with_reducible exact H2_) | with_reducible exact H | (rw [hy214]; exact H) | exact H
  have Ny214 := Aside0.mk hy214
  clear hy214
  have H' := Aside0.mk H
  clear H
  go_enter Try.func77, Try.ntmps77
  try go_wp2_with (first | ((with_reducible refine gd 1 rfl ?_); refine bx (N := 1) (cs := #[.bool a0_0, .slice A0_1 l0_1.length c0_1, .int .i64 a0_2, .slice A0_3 l0_3.length c0_3, .int .i64 a0_4, .string a0_5, .slice A0_6 l0_6.length c0_6, .int .i64 a0_7, .int .i64 a0_8, .slice A0_9 l0_9.length c0_9, .bool a0_10]) (t := 42) ?_; intro gb204 hg w5 hbox hb; have BK204 := Aside0.mk (hbox); have GW204 := gw HB hg; have GE204 := GW204; replace HB := Aside0.mk (below_step (zb HB) hb); clear hb hbox hg) | ((with_reducible refine gd 2 rfl ?_); refine bx (N := 2) (cs := #[.bool false, .slice none 0 0, .int .i64 0, .slice none 0 0, .int .i64 0, .string (⟨#[]⟩ : ByteArray), .slice none 0 0, .int .i64 0, .int .i64 0, .slice none 0 0, .bool false]) (t := 42) ?_; intro gb205 hg w6 hbox hb; have BK205 := Aside0.mk (hbox); have GW205 := gw HB hg; have GE205 := GW205; replace HB := Aside0.mk (below_step (zb HB) hb); obtain ⟨NB204_205, NB205_204⟩ := nb BK204 hg; replace BK204 := kb BK204 hb; clear hb hbox hg))
  replace BK204 := Aside0.mk (blk_drew BK204.out)
  replace BK205 := Aside0.mk (blk_drew BK205.out)
  replace HB := Aside0.mk (below_drew1 HB.out)
  refine start_ (n := 15) (S := fun w' => w'.cell? ⟨gb204, 0, none⟩ = some (.bool a0_0) ∧ w'.cell? ⟨gb204, 1, none⟩ = some (.slice A0_1 l0_1.length c0_1) ∧ w'.cell? ⟨gb204, 2, none⟩ = some (.int .i64 a0_2) ∧ w'.cell? ⟨gb204, 3, none⟩ = some (.slice A0_3 l0_3.length c0_3) ∧ w'.cell? ⟨gb204, 4, none⟩ = some (.int .i64 a0_4) ∧ w'.cell? ⟨gb204, 5, none⟩ = some (.string a0_5) ∧ w'.cell? ⟨gb204, 6, none⟩ = some (.slice A0_6 l0_6.length c0_6) ∧ w'.cell? ⟨gb204, 7, none⟩ = some (.int .i64 a0_7) ∧ w'.cell? ⟨gb204, 8, none⟩ = some (.int .i64 a0_8) ∧ w'.cell? ⟨gb204, 9, none⟩ = some (.slice A0_9 l0_9.length c0_9) ∧ w'.cell? ⟨gb204, 10, none⟩ = some (.bool a0_10)) (ds := [10, 12, 14]) #[false, false, false, false, false, false, false, false, false, false, false, false, false, false, false] (by kernel_rfl) rfl rfl ⟨(blk_cell BK204.out 0).trans rfl, (blk_cell BK204.out 1).trans rfl, (blk_cell BK204.out 2).trans rfl, (blk_cell BK204.out 3).trans rfl, (blk_cell BK204.out 4).trans rfl, (blk_cell BK204.out 5).trans rfl, (blk_cell BK204.out 6).trans rfl, (blk_cell BK204.out 7).trans rfl, (blk_cell BK204.out 8).trans rfl, (blk_cell BK204.out 9).trans rfl, (blk_cell BK204.out 10).trans rfl⟩ (fun hHeld => ?_); refine with_tabW impl_End_clone.tab1 impl_End_clone.bits1 (fun HT_ HW_ => ?_)
  generalize w6.drew = w7 at BK204 BK205 HB hHeld ⊢
  refine pu 0 (some 6) (bm 15 1) rfl rfl ?_
  refine pu 3 (some 9) (bm 15 9) rfl rfl ?_
  refine pu 6 (some 12) (bm 15 73) rfl rfl ?_
  refine tk 1 (some 7) (bm 15 75) rfl rfl hHeld ?_
  refine tk 4 (some 10) (bm 15 91) rfl rfl hHeld ?_
  refine tk 7 (some 13) (bm 15 219) rfl rfl hHeld ?_
  refine one_ (i := 2) (N := some 8) (bm 15 223) rfl rfl (one_of HT_.out (by kernel_rfl)) (by decide) (fun K hK => ?_)
  refine gs Try.func60 #[.agg #[.slice A0_1 l0_1.length c0_1, .int .i64 a0_2]] ?_
  with_reducible refine (impl_Table_clone.calls _ _ l0_1 a0_2 t206 t209 _ ?side1 ?side2 A2.out).mono ?_
  (case side1 => exact zc (Kd.C_below HR0_1.out HB.out))
  (case side2 => exact HC0_1.out)
  rintro e w8 ⟨v207, rfl, ho0, hb⟩
  refine ⟨_, rfl, ?_⟩
  have HO208 := Aside0.mk (Kd.R_lower ho0 (below_size (zb HB)))
  replace BK204 := kb BK204 hb
  replace BK205 := kb BK205 hb
  replace HB := Aside0.mk (below_step (zb HB) hb)
  (try clear hb)
  (try clear ho0)
  refine hK.out _ _ ⟨(blk_cell BK204.out 0).trans rfl, (blk_cell BK204.out 1).trans rfl, (blk_cell BK204.out 2).trans rfl, (blk_cell BK204.out 3).trans rfl, (blk_cell BK204.out 4).trans rfl, (blk_cell BK204.out 5).trans rfl, (blk_cell BK204.out 6).trans rfl, (blk_cell BK204.out 7).trans rfl, (blk_cell BK204.out 8).trans rfl, (blk_cell BK204.out 9).trans rfl, (blk_cell BK204.out 10).trans rfl⟩ (fun hHeld => ?_)
  clear hK K
  refine nm ?_
  refine pu 9 (some 15) (bm 15 735) rfl rfl ?_
  refine one_ (i := 5) (N := some 11) (bm 15 767) rfl rfl (one_of HT_.out (by kernel_rfl)) (by decide) (fun K hK => ?_)
  refine gs Try.func60 #[.agg #[.slice A0_3 l0_3.length c0_3, .int .i64 a0_4]] ?_
  with_reducible refine (impl_Table_clone.calls _ _ l0_3 a0_4 t210 t213 _ ?side1 ?side2 A3.out).mono ?_
  (case side1 => exact zc (Kd.C_below HR0_3.out HB.out))
  (case side2 => exact HC0_3.out)
  rintro e w9 ⟨v211, rfl, ho0, hb⟩
  refine ⟨_, rfl, ?_⟩
  have HO212 := Aside0.mk (Kd.R_lower (Kd.R_new' ho0 (Kd.R_lt (zr HO208))) (below_size (zb HB)))
  replace HO208 := Aside0.mk (Kd.R_elder' (zr HO208) (Kd.R_base ho0) hb)
  replace BK204 := kb BK204 hb
  replace BK205 := kb BK205 hb
  replace HB := Aside0.mk (below_step (zb HB) hb)
  (try clear hb)
  (try clear ho0)
  refine hK.out _ _ ⟨(blk_cell BK204.out 0).trans rfl, (blk_cell BK204.out 1).trans rfl, (blk_cell BK204.out 2).trans rfl, (blk_cell BK204.out 3).trans rfl, (blk_cell BK204.out 4).trans rfl, (blk_cell BK204.out 5).trans rfl, (blk_cell BK204.out 6).trans rfl, (blk_cell BK204.out 7).trans rfl, (blk_cell BK204.out 8).trans rfl, (blk_cell BK204.out 9).trans rfl, (blk_cell BK204.out 10).trans rfl⟩ (fun hHeld => ?_)
  clear hK K
  refine nm ?_
  refine one_ (i := 8) (N := some 14) (bm 15 1023) rfl rfl (one_of HT_.out (by kernel_rfl)) (by decide) (fun K hK => ?_)
  refine Kd.R_append_rows_step k110 (w0 := w) w.heap.size (by rfl) (.const (.slice none 0 0)) (.tmp 13) 40 110 (.agg #[(.int .i64 0), (.bool false), (.int .i64 0), (.string ⟨#[]⟩)]) 40 rfl Try.underlying40 info110 rfl (by decide) (by omega) (.slice none 0 0) ([] : List (S110)) l0_9 _ _ _ (fun _ => True) (fun _ => False) rfl rfl ?aO ?aR (fun _ _ h => h) (fun _ h => h.elim) ?aF ?aB ?aS ?aL ?_
  (case aR => exact zc (Kd.C_below HR0_9.out HB.out))
  (case aB => exact (zb HB))
  (case aF => exact (fun _ _ => trivial))
  (case aO => exact ((Kd.R_nil _ _ _ _ (fun _ => True))))
  (case aS => exact (below_size (zb HB)))
  (case aL => have := LMc4.out; omega)
  intro v215 w10 ho hb hg hat
  rw [← Ny214.out] at ho
  replace BK204 := Aside0.mk (blk_grown (zk BK204) hg (by simp [Value.ownBlock]))
  replace BK205 := Aside0.mk (blk_grown (zk BK205) hg (by simp [Value.ownBlock]))
  replace HO208 := Aside0.mk (Kd.R_step (zr HO208) (fun k_ _ h_ => hg.block k_ h_ (by simp [Value.ownBlock])))
  replace HO212 := Aside0.mk (Kd.R_step (zr HO212) (fun k_ _ h_ => hg.block k_ h_ (by simp [Value.ownBlock])))
  replace HB := Aside0.mk (hb)
  have HO216 := Aside0.mk (ho)
  clear ho hb hg hat
  obtain ⟨Ao11, co11, eo11⟩ := Kd.R_slice HO208.out
  (first | subst eo11 | (injection eo11 with f1_ f2_ f3_; have f4_ := f1_.symm; have f5_ := f3_.symm; clear f1_ f2_ f3_; subst f4_; subst f5_))
  obtain ⟨Ao14, co14, eo14⟩ := Kd.R_slice HO212.out
  (first | subst eo14 | (injection eo14 with f1_ f2_ f3_; have f4_ := f1_.symm; have f5_ := f3_.symm; clear f1_ f2_ f3_; subst f4_; subst f5_))
  obtain ⟨Ao17, co17, eo17⟩ := Kd.R_slice HO216.out
  (first | subst eo17 | (injection eo17 with f1_ f2_ f3_; have f4_ := f1_.symm; have f5_ := f3_.symm; clear f1_ f2_ f3_; subst f4_; subst f5_))
  refine hK.out _ _ ⟨(blk_cell BK204.out 0).trans rfl, (blk_cell BK204.out 1).trans rfl, (blk_cell BK204.out 2).trans rfl, (blk_cell BK204.out 3).trans rfl, (blk_cell BK204.out 4).trans rfl, (blk_cell BK204.out 5).trans rfl, (blk_cell BK204.out 6).trans rfl, (blk_cell BK204.out 7).trans rfl, (blk_cell BK204.out 8).trans rfl, (blk_cell BK204.out 9).trans rfl, (blk_cell BK204.out 10).trans rfl⟩ (fun hHeld => ?_)
  clear hK K
  refine nm ?_
  refine last_ (i := 10) (N := none) #[true, true, true, true, true, true, true, true, true, true, true, false, false, false, false] rfl rfl (one_of HT_.out (by kernel_rfl)) (by decide) (fun K hK => ?_)
  have hs12 : w10.cell? ⟨gb204, 1, none⟩ = some (.slice A0_1 l0_1.length c0_1) := (blk_cell BK204.out 1).trans rfl
  have hfs12 := blk_frozen BK204.out 1
  have hns12_1 := NB205_204.out
  have hms12_1 := NB204_205.out
  have hs13 : w10.cell? ⟨gb204, 2, none⟩ = some (.int .i64 a0_2) := (blk_cell BK204.out 2).trans rfl
  have hfs13 := blk_frozen BK204.out 2
  have hns13_1 := NB205_204.out
  have hms13_1 := NB204_205.out
  refine skip_ (w1 := ?_) (by rfl) rfl ?_ ?_
  rotate_left
  ·go_simp
   rfl
  refine hK.out _ _ ?_
  clear hK K
  refine pu 11 (some 16) (bm 15 4095) rfl rfl ?_
  refine last_ (i := 12) (N := none) #[true, true, true, true, true, true, true, true, true, true, true, true, true, false, false] rfl rfl (one_of HT_.out (by kernel_rfl)) (by decide) (fun K hK => ?_)
  have hs15 : w10.cell? ⟨gb204, 3, none⟩ = some (.slice A0_3 l0_3.length c0_3) := (blk_cell BK204.out 3).trans rfl
  have hfs15 := blk_frozen BK204.out 3
  have hns15_1 := NB205_204.out
  have hms15_1 := NB204_205.out
  have hs16 : w10.cell? ⟨gb204, 4, none⟩ = some (.int .i64 a0_4) := (blk_cell BK204.out 4).trans rfl
  have hfs16 := blk_frozen BK204.out 4
  have hns16_1 := NB205_204.out
  have hms16_1 := NB204_205.out
  refine skip_ (w1 := ?_) (by rfl) rfl ?_ ?_
  rotate_left
  ·go_simp
   rfl
  refine hK.out _ _ ?_
  clear hK K
  refine pu 13 (some 17) (bm 15 16383) rfl rfl ?_
  refine last_ (i := 14) (N := none) #[true, true, true, true, true, true, true, true, true, true, true, true, true, true, true] rfl rfl (one_of HT_.out (by kernel_rfl)) (by decide) (fun K hK => ?_)
  have hs18 : w10.cell? ⟨gb204, 9, none⟩ = some (.slice A0_9 l0_9.length c0_9) := (blk_cell BK204.out 9).trans rfl
  have hfs18 := blk_frozen BK204.out 9
  have hns18_1 := NB205_204.out
  have hms18_1 := NB204_205.out
  refine skip_ (w1 := ?_) (by rfl) rfl ?_ ?_
  rotate_left
  ·go_simp
   rfl
  refine hK.out _ _ ?_
  clear hK K
  refine done_ (done_of HT_.out (by kernel_rfl)) ?_
  have hnb19 := NB204_205.out
  have hnc19 := NB205_204.out
  obtain ⟨hcz20_0, hcz20_1, hcz20_2, hcz20_3, hcz20_4, hcz20_5, hcz20_6, hcz20_7, hcz20_8, hcz20_9, hcz20_10, hfz20_0, hfz20_1, hfz20_2, hfz20_3, hfz20_4, hfz20_5, hfz20_6, hfz20_7, hfz20_8, hfz20_9, hfz20_10⟩ := c11 BK204
  try go_wp2
  go_loopg [3, 21] k (fun kq v3 v21 w' => ∃ (x3_1 : List (S104)) (x21_1 : Int), v21 = .int .i64 x21_1 ∧ Aside0 (impl_End_clone.l0 kq x3_1 l0_6 (l0_6.length : Int) x21_1 a0_0 t206 t209 t210 t213 a0_5 l0_6 a0_7 a0_8 y214 a0_10 = some (r1, r2, r3, r4, r5, r6, r7, r8, r9, r10, r11)) ∧ Aside0 (kq ≤ k) ∧ Aside0 (Kd.S k104 104 w' w.heap.size (fun k_ => some k_ ≠ ((.slice Ao11 t206.length co11) : Value).ownBlock ∧ some k_ ≠ ((.slice Ao14 t210.length co14) : Value).ownBlock) v3 x3_1) ∧ Aside0 (Kd.R k88 88 w' w.heap.size (fun k_ => some k_ ≠ ((.slice Ao14 t210.length co14) : Value).ownBlock) (.slice Ao11 t206.length co11) t206) ∧ Aside0 (Kd.R k88 88 w' w.heap.size (fun k_ => some k_ ≠ ((.slice Ao11 t206.length co11) : Value).ownBlock) (.slice Ao14 t210.length co14) t210) ∧ Aside0 (Kd.R k110 110 w' w.heap.size (fun _ => True) (.slice Ao17 y214.length co17) y214) ∧ Aside0 (w'.heap[gb204]? = some (.cells #[.bool a0_0, (.slice Ao11 t206.length co11), .int .i64 t209, (.slice Ao14 t210.length co14), .int .i64 t213, .string a0_5, (.slice A0_6 l0_6.length c0_6), .int .i64 a0_7, .int .i64 a0_8, (.slice Ao17 y214.length co17), .bool a0_10] 42 (0, 0))) ∧ Aside0 (w'.heap[gb205]? = some (.cells #[.bool false, (.slice none 0 0), .int .i64 0, (.slice none 0 0), .int .i64 0, .string (⟨#[]⟩ : ByteArray), (.slice none 0 0), .int .i64 0, .int .i64 0, (.slice none 0 0), .bool false] 42 (0, 0))) ∧ Aside0 (Below w.heap.size w w'))
  case atStart => exact ⟨(([] : List (S104))), (0), zs, H', ⟨Nat.le_refl _⟩, ⟨by first | exact Kd.S_nil _ _ _ _ _ | exact Kd.N_nil _ _ _ _ _ | exact Kd.V_nil _ _ _ _ _ | exact Kd.Q_nil _ _ _ _ _ | exact Kd.R_nil _ _ _ _ _⟩, ⟨(Kd.R_mono (ztR (Kd.R_types HO208.out BK204.out (by decide))) (fun _ hk => hk.1.2))⟩, ⟨(Kd.R_mono (ztR (Kd.R_types HO212.out BK204.out (by decide))) (fun _ hk => hk.1.2))⟩, ⟨(Kd.R_mono (ztR (Kd.R_types HO216.out BK204.out (by decide))) (fun _ hk => trivial))⟩, ⟨zp BK204⟩, ⟨zp BK205⟩, ⟨zb HB⟩⟩
  case round =>
   clear H'
   try clear c1
   try clear p2
   try clear c4
   try clear c6
   try clear c7
   try clear c19
   try clear hcz20_0
   try clear hcz20_1
   try clear hcz20_10
   try clear hcz20_2
   try clear hcz20_3
   try clear hcz20_4
   try clear hcz20_5
   try clear hcz20_6
   try clear hcz20_7
   try clear hcz20_8
   try clear hcz20_9
   try clear hfz20_0
   try clear hfz20_1
   try clear hfz20_10
   try clear hfz20_2
   try clear hfz20_3
   try clear hfz20_4
   try clear hfz20_5
   try clear hfz20_6
   try clear hfz20_7
   try clear hfz20_8
   try clear hfz20_9
   obtain ⟨x3_1, x21_1, rfl, HA, HK1, HO_3, HO_205001, HO_205003, HO_205009, BK204, BK205, HB⟩ := hrel
   cases gk with
   | zero => exact absurd HA.out (by simp [impl_End_clone.l0])
   | succ k1 =>
    have H := HA.out
    clear HA
    simp only [impl_End_clone.l0] at H
    replace H := sp H
    rcases H with ⟨c21, H⟩ | ⟨c21, H⟩
    ·skip
     have c21b0 := decide_eq_true c21
     clear c21
     by_cases c22 : 0 ≤ x21_1
     ·rw [if_pos c22] at H
      have c22b0 := decide_eq_true c22
      clear c22
      by_cases c23 : x21_1 < (l0_6.length : Int)
      ·rw [if_pos c23] at H
       have c23b0 := decide_eq_true c23
       clear c23
       obtain ⟨t219, A24, H⟩ := ob H
       (try dsimp only at H)
       obtain ⟨t222, A25, H⟩ := ob H
       (try dsimp only at H)
       by_cases c26 : x3_1.length < 1034834473200
       ·rw [if_pos c26] at H
        have LMc26 := Aside0.mk c26
        clear c26
        obtain ⟨y225, hy225⟩ : ∃ y_ : List (S104), y_ = (x3_1 ++ [(⟨(rd_T104 l0_6 x21_1).f0, (rd_T104 l0_6 x21_1).f1, t219, (rd_T104 l0_6 x21_1).f3, (rd_T104 l0_6 x21_1).f4, (rd_T104 l0_6 x21_1).f5, (rd_T104 l0_6 x21_1).f6, t222, (rd_T104 l0_6 x21_1).f8, (rd_T104 l0_6 x21_1).f9, (⟨(rd_T104 l0_6 x21_1).f10.f0, (rd_T104 l0_6 x21_1).f10.f1⟩ : S39)⟩ : S104)]) := ⟨_, rfl⟩
        replace H : (impl_End_clone.l0 k1 y225 l0_6 (l0_6.length : Int) (wrap64 (x21_1 + 1)) a0_0 t206 t209 t210 t213 a0_5 l0_6 a0_7 a0_8 y214 a0_10) = some (r1, r2, r3, r4, r5, r6, r7, r8, r9, r10, r11) := by first | (rw [hy225]; with_reducible exact H) | (have H2_ := (Option.bind_some _ _).symm.trans H; rw [hy225]; with_reducible exact H2_) | (have H2_ := (Option.bind_some _ _).symm.trans H; with_reducible exact H2_) | with_reducible exact H | (rw [hy225]; exact H) | exact H
        have Ny225 := Aside0.mk hy225
        clear hy225
        have H' := Aside0.mk H
        clear H
        have p217 : 0 ≤ (x21_1 : Int) := of_decide_eq_true za
        have q217 : x21_1 < (l0_6.length : Int) := of_decide_eq_true za
        obtain ⟨ad217, A217_2, c217_2, A217_7, c217_7, e217, hx217_0, hx217_1, hx217_2, hx217_3, hx217_4, hx217_5, hx217_6, hx217_7, hx217_8, hx217_9, hx217_10, hx217_11, hl217_2, hi217_2, hl217_7, hi217_7⟩ := at_T104 HR0_6.out x21_1 p217 q217
        cases e217
        replace hx217_0 := cb0 hx217_0 HB
        replace hx217_1 := cb0 hx217_1 HB
        replace hx217_2 := cb0 hx217_2 HB
        replace hx217_3 := cb0 hx217_3 HB
        replace hx217_4 := cb0 hx217_4 HB
        replace hx217_5 := cb0 hx217_5 HB
        replace hx217_6 := cb0 hx217_6 HB
        replace hx217_7 := cb0 hx217_7 HB
        replace hx217_8 := cb0 hx217_8 HB
        replace hx217_9 := cb0 hx217_9 HB
        replace hx217_10 := cb0 hx217_10 HB
        replace hx217_11 := cb0 hx217_11 HB
        have HR217_2 := Aside0.mk hi217_2
        have HC217_2 := Aside0.mk hl217_2
        clear hi217_2 hl217_2
        have HR217_7 := Aside0.mk hi217_7
        have HC217_7 := Aside0.mk hl217_7
        clear hi217_7 hl217_7
        replace p217 := eq_true p217
        replace q217 := eq_true q217
        try go_wp2_with (first | ((with_reducible refine gd 5 rfl ?_); refine bx (N := 5) (cs := #[.int .i64 0, .int .i64 0, .slice none 0 0, .string (⟨#[]⟩ : ByteArray), .bool false, .bool false, .int .i64 0, .slice none 0 0, .string (⟨#[]⟩ : ByteArray), .bool false, .int .i64 0, .int .i64 0]) (t := 104) ?_; intro gb218 hg w27 hbox hb; replace HO_3 := Aside0.mk (Kd.S_below (Kd.S_elderB (by (with_reducible repeat (first | apply Kd.S_alloc | apply Kd.S_drewN | apply Kd.S_drew)); exact HO_3.out) gb218 (Nat.le_of_eq hg.symm)) hb); replace HO_205001 := Aside0.mk (Kd.R_below (zr HO_205001) hb); replace HO_205003 := Aside0.mk (Kd.R_below (zr HO_205003) hb); replace HO_205009 := Aside0.mk (Kd.R_below (zr HO_205009) hb); have BK218 := Aside0.mk (hbox); have GW218 := gw HB hg; have GE218 := GW218; replace HB := Aside0.mk (below_step (zb HB) hb); obtain ⟨NB204_218, NB218_204⟩ := nb BK204 hg; replace BK204 := kb BK204 hb; obtain ⟨NB205_218, NB218_205⟩ := nb BK205 hg; replace BK205 := kb BK205 hb; clear hb hbox hg; have hnb28 := NB218_204.out; have hnc28 := NB204_218.out; have hnb29 := NB218_205.out; have hnc29 := NB205_218.out; obtain ⟨hcz30_0, hcz30_1, hcz30_2, hcz30_3, hcz30_4, hcz30_5, hcz30_6, hcz30_7, hcz30_8, hcz30_9, hcz30_10, hcz30_11, hfz30_0, hfz30_1, hfz30_2, hfz30_3, hfz30_4, hfz30_5, hfz30_6, hfz30_7, hfz30_8, hfz30_9, hfz30_10, hfz30_11⟩ := c12 BK218))
        have n0_ : Aside0 (Kd.S k104 104 ((((((((((((w27.setCell ⟨gb218, 0, none⟩ (.int .i64 ((rd_T104 l0_6 x21_1).f0))).setCell ⟨gb218, 1, none⟩ (.int .i64 ((rd_T104 l0_6 x21_1).f1))).setCell ⟨gb218, 2, none⟩ (.slice A217_2 ((rd_T104 l0_6 x21_1).f2).length c217_2)).setCell ⟨gb218, 3, none⟩ (.string ((rd_T104 l0_6 x21_1).f3))).setCell ⟨gb218, 4, none⟩ (.bool ((rd_T104 l0_6 x21_1).f4))).setCell ⟨gb218, 5, none⟩ (.bool ((rd_T104 l0_6 x21_1).f5))).setCell ⟨gb218, 6, none⟩ (.int .i64 ((rd_T104 l0_6 x21_1).f6))).setCell ⟨gb218, 7, none⟩ (.slice A217_7 ((rd_T104 l0_6 x21_1).f7).length c217_7)).setCell ⟨gb218, 8, none⟩ (.string ((rd_T104 l0_6 x21_1).f8))).setCell ⟨gb218, 9, none⟩ (.bool ((rd_T104 l0_6 x21_1).f9))).setCell ⟨gb218, 10, none⟩ (.int .i64 ((rd_T104 l0_6 x21_1).f10.f0))).setCell ⟨gb218, 11, none⟩ (.int .i64 ((rd_T104 l0_6 x21_1).f10.f1))) w.heap.size (fun k_ => some k_ ≠ (.slice Ao11 t206.length co11 : Value).ownBlock ∧ some k_ ≠ (.slice Ao14 t210.length co14 : Value).ownBlock ∧ k_ ≠ gb218) u3 x3_1) := ⟨by (with_reducible repeat (first | apply Kd.S_alloc | apply Kd.S_drewN | apply Kd.S_drew)); exact Kd.S_mono (ztS (Kd.S_mono HO_3.out (fun k_ hk => (⟨hk, hk.2⟩ : _ ∧ k_ ≠ gb218)))) (fun _ hk => ⟨hk.1.1.1, ⟨hk.1.1.2, hk.1.2⟩⟩)⟩
        have n1_ : Aside0 (Kd.R k88 88 ((((((((((((w27.setCell ⟨gb218, 0, none⟩ (.int .i64 ((rd_T104 l0_6 x21_1).f0))).setCell ⟨gb218, 1, none⟩ (.int .i64 ((rd_T104 l0_6 x21_1).f1))).setCell ⟨gb218, 2, none⟩ (.slice A217_2 ((rd_T104 l0_6 x21_1).f2).length c217_2)).setCell ⟨gb218, 3, none⟩ (.string ((rd_T104 l0_6 x21_1).f3))).setCell ⟨gb218, 4, none⟩ (.bool ((rd_T104 l0_6 x21_1).f4))).setCell ⟨gb218, 5, none⟩ (.bool ((rd_T104 l0_6 x21_1).f5))).setCell ⟨gb218, 6, none⟩ (.int .i64 ((rd_T104 l0_6 x21_1).f6))).setCell ⟨gb218, 7, none⟩ (.slice A217_7 ((rd_T104 l0_6 x21_1).f7).length c217_7)).setCell ⟨gb218, 8, none⟩ (.string ((rd_T104 l0_6 x21_1).f8))).setCell ⟨gb218, 9, none⟩ (.bool ((rd_T104 l0_6 x21_1).f9))).setCell ⟨gb218, 10, none⟩ (.int .i64 ((rd_T104 l0_6 x21_1).f10.f0))).setCell ⟨gb218, 11, none⟩ (.int .i64 ((rd_T104 l0_6 x21_1).f10.f1))) w.heap.size (fun k_ => some k_ ≠ (.slice Ao14 t210.length co14 : Value).ownBlock) (.slice Ao11 t206.length co11) t206) := ⟨(Kd.R_mono (ztR (Kd.R_types HO_205001.out BK218.out (by decide))) (fun _ hk => hk.1))⟩
        have n2_ : Aside0 (Kd.R k88 88 ((((((((((((w27.setCell ⟨gb218, 0, none⟩ (.int .i64 ((rd_T104 l0_6 x21_1).f0))).setCell ⟨gb218, 1, none⟩ (.int .i64 ((rd_T104 l0_6 x21_1).f1))).setCell ⟨gb218, 2, none⟩ (.slice A217_2 ((rd_T104 l0_6 x21_1).f2).length c217_2)).setCell ⟨gb218, 3, none⟩ (.string ((rd_T104 l0_6 x21_1).f3))).setCell ⟨gb218, 4, none⟩ (.bool ((rd_T104 l0_6 x21_1).f4))).setCell ⟨gb218, 5, none⟩ (.bool ((rd_T104 l0_6 x21_1).f5))).setCell ⟨gb218, 6, none⟩ (.int .i64 ((rd_T104 l0_6 x21_1).f6))).setCell ⟨gb218, 7, none⟩ (.slice A217_7 ((rd_T104 l0_6 x21_1).f7).length c217_7)).setCell ⟨gb218, 8, none⟩ (.string ((rd_T104 l0_6 x21_1).f8))).setCell ⟨gb218, 9, none⟩ (.bool ((rd_T104 l0_6 x21_1).f9))).setCell ⟨gb218, 10, none⟩ (.int .i64 ((rd_T104 l0_6 x21_1).f10.f0))).setCell ⟨gb218, 11, none⟩ (.int .i64 ((rd_T104 l0_6 x21_1).f10.f1))) w.heap.size (fun k_ => some k_ ≠ (.slice Ao11 t206.length co11 : Value).ownBlock) (.slice Ao14 t210.length co14) t210) := ⟨(Kd.R_mono (ztR (Kd.R_types HO_205003.out BK218.out (by decide))) (fun _ hk => hk.1))⟩
        have n3_ : Aside0 (Kd.R k110 110 ((((((((((((w27.setCell ⟨gb218, 0, none⟩ (.int .i64 ((rd_T104 l0_6 x21_1).f0))).setCell ⟨gb218, 1, none⟩ (.int .i64 ((rd_T104 l0_6 x21_1).f1))).setCell ⟨gb218, 2, none⟩ (.slice A217_2 ((rd_T104 l0_6 x21_1).f2).length c217_2)).setCell ⟨gb218, 3, none⟩ (.string ((rd_T104 l0_6 x21_1).f3))).setCell ⟨gb218, 4, none⟩ (.bool ((rd_T104 l0_6 x21_1).f4))).setCell ⟨gb218, 5, none⟩ (.bool ((rd_T104 l0_6 x21_1).f5))).setCell ⟨gb218, 6, none⟩ (.int .i64 ((rd_T104 l0_6 x21_1).f6))).setCell ⟨gb218, 7, none⟩ (.slice A217_7 ((rd_T104 l0_6 x21_1).f7).length c217_7)).setCell ⟨gb218, 8, none⟩ (.string ((rd_T104 l0_6 x21_1).f8))).setCell ⟨gb218, 9, none⟩ (.bool ((rd_T104 l0_6 x21_1).f9))).setCell ⟨gb218, 10, none⟩ (.int .i64 ((rd_T104 l0_6 x21_1).f10.f0))).setCell ⟨gb218, 11, none⟩ (.int .i64 ((rd_T104 l0_6 x21_1).f10.f1))) w.heap.size (fun _ => True) (.slice Ao17 y214.length co17) y214) := ⟨(Kd.R_mono (ztR (Kd.R_types HO_205009.out BK218.out (by decide))) (fun _ hk => trivial))⟩
        have n4_ : Aside0 (((((((((((((w27.setCell ⟨gb218, 0, none⟩ (.int .i64 ((rd_T104 l0_6 x21_1).f0))).setCell ⟨gb218, 1, none⟩ (.int .i64 ((rd_T104 l0_6 x21_1).f1))).setCell ⟨gb218, 2, none⟩ (.slice A217_2 ((rd_T104 l0_6 x21_1).f2).length c217_2)).setCell ⟨gb218, 3, none⟩ (.string ((rd_T104 l0_6 x21_1).f3))).setCell ⟨gb218, 4, none⟩ (.bool ((rd_T104 l0_6 x21_1).f4))).setCell ⟨gb218, 5, none⟩ (.bool ((rd_T104 l0_6 x21_1).f5))).setCell ⟨gb218, 6, none⟩ (.int .i64 ((rd_T104 l0_6 x21_1).f6))).setCell ⟨gb218, 7, none⟩ (.slice A217_7 ((rd_T104 l0_6 x21_1).f7).length c217_7)).setCell ⟨gb218, 8, none⟩ (.string ((rd_T104 l0_6 x21_1).f8))).setCell ⟨gb218, 9, none⟩ (.bool ((rd_T104 l0_6 x21_1).f9))).setCell ⟨gb218, 10, none⟩ (.int .i64 ((rd_T104 l0_6 x21_1).f10.f0))).setCell ⟨gb218, 11, none⟩ (.int .i64 ((rd_T104 l0_6 x21_1).f10.f1))).heap[gb204]? = some (.cells #[.bool a0_0, .slice Ao11 t206.length co11, .int .i64 t209, .slice Ao14 t210.length co14, .int .i64 t213, .string a0_5, .slice (some ad217) l0_6.length c0_6, .int .i64 a0_7, .int .i64 a0_8, .slice Ao17 y214.length co17, .bool a0_10] 42 (0, 0))) := ⟨zp BK204⟩
        have n5_ : Aside0 (((((((((((((w27.setCell ⟨gb218, 0, none⟩ (.int .i64 ((rd_T104 l0_6 x21_1).f0))).setCell ⟨gb218, 1, none⟩ (.int .i64 ((rd_T104 l0_6 x21_1).f1))).setCell ⟨gb218, 2, none⟩ (.slice A217_2 ((rd_T104 l0_6 x21_1).f2).length c217_2)).setCell ⟨gb218, 3, none⟩ (.string ((rd_T104 l0_6 x21_1).f3))).setCell ⟨gb218, 4, none⟩ (.bool ((rd_T104 l0_6 x21_1).f4))).setCell ⟨gb218, 5, none⟩ (.bool ((rd_T104 l0_6 x21_1).f5))).setCell ⟨gb218, 6, none⟩ (.int .i64 ((rd_T104 l0_6 x21_1).f6))).setCell ⟨gb218, 7, none⟩ (.slice A217_7 ((rd_T104 l0_6 x21_1).f7).length c217_7)).setCell ⟨gb218, 8, none⟩ (.string ((rd_T104 l0_6 x21_1).f8))).setCell ⟨gb218, 9, none⟩ (.bool ((rd_T104 l0_6 x21_1).f9))).setCell ⟨gb218, 10, none⟩ (.int .i64 ((rd_T104 l0_6 x21_1).f10.f0))).setCell ⟨gb218, 11, none⟩ (.int .i64 ((rd_T104 l0_6 x21_1).f10.f1))).heap[gb205]? = some (.cells #[.bool false, .slice none 0 0, .int .i64 0, .slice none 0 0, .int .i64 0, .string (⟨#[]⟩ : ByteArray), .slice none 0 0, .int .i64 0, .int .i64 0, .slice none 0 0, .bool false] 42 (0, 0))) := ⟨zp BK205⟩
        have n6_ : Aside0 (((((((((((((w27.setCell ⟨gb218, 0, none⟩ (.int .i64 ((rd_T104 l0_6 x21_1).f0))).setCell ⟨gb218, 1, none⟩ (.int .i64 ((rd_T104 l0_6 x21_1).f1))).setCell ⟨gb218, 2, none⟩ (.slice A217_2 ((rd_T104 l0_6 x21_1).f2).length c217_2)).setCell ⟨gb218, 3, none⟩ (.string ((rd_T104 l0_6 x21_1).f3))).setCell ⟨gb218, 4, none⟩ (.bool ((rd_T104 l0_6 x21_1).f4))).setCell ⟨gb218, 5, none⟩ (.bool ((rd_T104 l0_6 x21_1).f5))).setCell ⟨gb218, 6, none⟩ (.int .i64 ((rd_T104 l0_6 x21_1).f6))).setCell ⟨gb218, 7, none⟩ (.slice A217_7 ((rd_T104 l0_6 x21_1).f7).length c217_7)).setCell ⟨gb218, 8, none⟩ (.string ((rd_T104 l0_6 x21_1).f8))).setCell ⟨gb218, 9, none⟩ (.bool ((rd_T104 l0_6 x21_1).f9))).setCell ⟨gb218, 10, none⟩ (.int .i64 ((rd_T104 l0_6 x21_1).f10.f0))).setCell ⟨gb218, 11, none⟩ (.int .i64 ((rd_T104 l0_6 x21_1).f10.f1))).heap[gb218]? = some (.cells #[.int .i64 ((rd_T104 l0_6 x21_1).f0), .int .i64 ((rd_T104 l0_6 x21_1).f1), .slice A217_2 ((rd_T104 l0_6 x21_1).f2).length c217_2, .string ((rd_T104 l0_6 x21_1).f3), .bool ((rd_T104 l0_6 x21_1).f4), .bool ((rd_T104 l0_6 x21_1).f5), .int .i64 ((rd_T104 l0_6 x21_1).f6), .slice A217_7 ((rd_T104 l0_6 x21_1).f7).length c217_7, .string ((rd_T104 l0_6 x21_1).f8), .bool ((rd_T104 l0_6 x21_1).f9), .int .i64 ((rd_T104 l0_6 x21_1).f10.f0), .int .i64 ((rd_T104 l0_6 x21_1).f10.f1)] 104 (0, 0))) := ⟨zp BK218⟩
        have n7_ : Aside0 (Below w.heap.size w ((((((((((((w27.setCell ⟨gb218, 0, none⟩ (.int .i64 ((rd_T104 l0_6 x21_1).f0))).setCell ⟨gb218, 1, none⟩ (.int .i64 ((rd_T104 l0_6 x21_1).f1))).setCell ⟨gb218, 2, none⟩ (.slice A217_2 ((rd_T104 l0_6 x21_1).f2).length c217_2)).setCell ⟨gb218, 3, none⟩ (.string ((rd_T104 l0_6 x21_1).f3))).setCell ⟨gb218, 4, none⟩ (.bool ((rd_T104 l0_6 x21_1).f4))).setCell ⟨gb218, 5, none⟩ (.bool ((rd_T104 l0_6 x21_1).f5))).setCell ⟨gb218, 6, none⟩ (.int .i64 ((rd_T104 l0_6 x21_1).f6))).setCell ⟨gb218, 7, none⟩ (.slice A217_7 ((rd_T104 l0_6 x21_1).f7).length c217_7)).setCell ⟨gb218, 8, none⟩ (.string ((rd_T104 l0_6 x21_1).f8))).setCell ⟨gb218, 9, none⟩ (.bool ((rd_T104 l0_6 x21_1).f9))).setCell ⟨gb218, 10, none⟩ (.int .i64 ((rd_T104 l0_6 x21_1).f10.f0))).setCell ⟨gb218, 11, none⟩ (.int .i64 ((rd_T104 l0_6 x21_1).f10.f1)))) := ⟨zb HB⟩
        (try clear HO_3)
        (try clear HO_205001)
        (try clear HO_205003)
        (try clear HO_205009)
        (try clear BK204)
        (try clear BK205)
        (try clear BK218)
        (try clear HB)
        generalize ((((((((((((w27.setCell ⟨gb218, 0, none⟩ (.int .i64 ((rd_T104 l0_6 x21_1).f0))).setCell ⟨gb218, 1, none⟩ (.int .i64 ((rd_T104 l0_6 x21_1).f1))).setCell ⟨gb218, 2, none⟩ (.slice A217_2 ((rd_T104 l0_6 x21_1).f2).length c217_2)).setCell ⟨gb218, 3, none⟩ (.string ((rd_T104 l0_6 x21_1).f3))).setCell ⟨gb218, 4, none⟩ (.bool ((rd_T104 l0_6 x21_1).f4))).setCell ⟨gb218, 5, none⟩ (.bool ((rd_T104 l0_6 x21_1).f5))).setCell ⟨gb218, 6, none⟩ (.int .i64 ((rd_T104 l0_6 x21_1).f6))).setCell ⟨gb218, 7, none⟩ (.slice A217_7 ((rd_T104 l0_6 x21_1).f7).length c217_7)).setCell ⟨gb218, 8, none⟩ (.string ((rd_T104 l0_6 x21_1).f8))).setCell ⟨gb218, 9, none⟩ (.bool ((rd_T104 l0_6 x21_1).f9))).setCell ⟨gb218, 10, none⟩ (.int .i64 ((rd_T104 l0_6 x21_1).f10.f0))).setCell ⟨gb218, 11, none⟩ (.int .i64 ((rd_T104 l0_6 x21_1).f10.f1))) = w31 at n0_ n1_ n2_ n3_ n4_ n5_ n6_ n7_ ⊢
        have HO_3 := n0_
        have HO_205001 := n1_
        have HO_205003 := n2_
        have HO_205009 := n3_
        have BK204 := n4_
        have BK205 := n5_
        have BK218 := n6_
        have HB := n7_
        clear n0_ n1_ n2_ n3_ n4_ n5_ n6_ n7_
        replace HO_3 := Aside0.mk (Kd.S_drew HO_3.out)
        replace HO_205001 := Aside0.mk (Kd.R_drew HO_205001.out)
        replace HO_205003 := Aside0.mk (Kd.R_drew HO_205003.out)
        replace HO_205009 := Aside0.mk (Kd.R_drew HO_205009.out)
        replace BK204 := Aside0.mk (blk_drew BK204.out)
        replace BK205 := Aside0.mk (blk_drew BK205.out)
        replace BK218 := Aside0.mk (blk_drew BK218.out)
        replace HB := Aside0.mk (below_drew1 HB.out)
        refine start_ (n := 10) (S := fun w' => w'.cell? ⟨gb218, 0, none⟩ = some (.int .i64 ((rd_T104 l0_6 x21_1).f0)) ∧ w'.cell? ⟨gb218, 1, none⟩ = some (.int .i64 ((rd_T104 l0_6 x21_1).f1)) ∧ w'.cell? ⟨gb218, 2, none⟩ = some (.slice A217_2 ((rd_T104 l0_6 x21_1).f2).length c217_2) ∧ w'.cell? ⟨gb218, 3, none⟩ = some (.string ((rd_T104 l0_6 x21_1).f3)) ∧ w'.cell? ⟨gb218, 4, none⟩ = some (.bool ((rd_T104 l0_6 x21_1).f4)) ∧ w'.cell? ⟨gb218, 5, none⟩ = some (.bool ((rd_T104 l0_6 x21_1).f5)) ∧ w'.cell? ⟨gb218, 6, none⟩ = some (.int .i64 ((rd_T104 l0_6 x21_1).f6)) ∧ w'.cell? ⟨gb218, 7, none⟩ = some (.slice A217_7 ((rd_T104 l0_6 x21_1).f7).length c217_7) ∧ w'.cell? ⟨gb218, 8, none⟩ = some (.string ((rd_T104 l0_6 x21_1).f8)) ∧ w'.cell? ⟨gb218, 9, none⟩ = some (.bool ((rd_T104 l0_6 x21_1).f9)) ∧ w'.cell? ⟨gb218, 10, none⟩ = some (.int .i64 ((rd_T104 l0_6 x21_1).f10.f0)) ∧ w'.cell? ⟨gb218, 11, none⟩ = some (.int .i64 ((rd_T104 l0_6 x21_1).f10.f1))) (ds := [7, 9]) #[false, false, false, false, false, false, false, false, false, false] (by kernel_rfl) rfl rfl ⟨(blk_cell BK218.out 0).trans rfl, (blk_cell BK218.out 1).trans rfl, (blk_cell BK218.out 2).trans rfl, (blk_cell BK218.out 3).trans rfl, (blk_cell BK218.out 4).trans rfl, (blk_cell BK218.out 5).trans rfl, (blk_cell BK218.out 6).trans rfl, (blk_cell BK218.out 7).trans rfl, (blk_cell BK218.out 8).trans rfl, (blk_cell BK218.out 9).trans rfl, (blk_cell BK218.out 10).trans rfl, (blk_cell BK218.out 11).trans rfl⟩ (fun hHeld => ?_); refine with_tabW impl_End_clone.tab6 impl_End_clone.bits6 (fun HT_ HW_ => ?_)
        generalize w31.drew = w32 at HO_3 HO_205001 HO_205003 HO_205009 BK204 BK205 BK218 HB hHeld ⊢
        refine pu 0 (some 25) (bm 10 1) rfl rfl ?_
        refine pu 3 (some 28) (bm 10 9) rfl rfl ?_
        refine tk 1 (some 26) (bm 10 11) rfl rfl hHeld ?_
        refine tk 4 (some 29) (bm 10 27) rfl rfl hHeld ?_
        refine one_ (i := 2) (N := some 27) (bm 10 31) rfl rfl (one_of HT_.out (by kernel_rfl)) (by decide) (fun K hK => ?_)
        refine gs Try.func120 #[.slice A217_2 ((rd_T104 l0_6 x21_1).f2).length c217_2] ?_
        with_reducible refine (impl_cloneFields.calls _ _ ((rd_T104 l0_6 x21_1).f2) t219 _ ?side1 ?side2 A24.out).mono ?_
        (case side1 => exact zc (Kd.C_below HR217_2.out HB.out))
        (case side2 => exact HC217_2.out)
        rintro e w33 ⟨v220, rfl, ho0, hb⟩
        refine ⟨_, rfl, ?_⟩
        replace HO_3 := Aside0.mk (Kd.S_elder' (by (with_reducible repeat (first | apply Kd.S_alloc | apply Kd.S_drewN | apply Kd.S_drew)); exact HO_3.out) (Kd.R_base ho0) hb)
        replace HO_205009 := Aside0.mk (Kd.R_below (zr HO_205009) hb)
        have HO221 := Aside0.mk (Kd.R_lower (Kd.R_new' (Kd.R_new' ho0 (Kd.R_lt (zr HO_205001))) (Kd.R_lt (zr HO_205003))) (below_size (zb HB)))
        replace HO_205001 := Aside0.mk (Kd.R_elder' (zr HO_205001) (Kd.R_base ho0) hb)
        replace HO_205003 := Aside0.mk (Kd.R_elder' (zr HO_205003) (Kd.R_base ho0) hb)
        replace BK204 := kb BK204 hb
        replace BK205 := kb BK205 hb
        replace BK218 := kb BK218 hb
        replace HB := Aside0.mk (below_step (zb HB) hb)
        (try clear hb)
        (try clear ho0)
        refine hK.out _ _ ⟨(blk_cell BK218.out 0).trans rfl, (blk_cell BK218.out 1).trans rfl, (blk_cell BK218.out 2).trans rfl, (blk_cell BK218.out 3).trans rfl, (blk_cell BK218.out 4).trans rfl, (blk_cell BK218.out 5).trans rfl, (blk_cell BK218.out 6).trans rfl, (blk_cell BK218.out 7).trans rfl, (blk_cell BK218.out 8).trans rfl, (blk_cell BK218.out 9).trans rfl, (blk_cell BK218.out 10).trans rfl, (blk_cell BK218.out 11).trans rfl⟩ (fun hHeld => ?_)
        clear hK K
        refine nm ?_
        refine pu 6 (some 31) (bm 10 95) rfl rfl ?_
        refine one_ (i := 5) (N := some 30) (bm 10 127) rfl rfl (one_of HT_.out (by kernel_rfl)) (by decide) (fun K hK => ?_)
        refine gs Try.func120 #[.slice A217_7 ((rd_T104 l0_6 x21_1).f7).length c217_7] ?_
        with_reducible refine (impl_cloneFields.calls _ _ ((rd_T104 l0_6 x21_1).f7) t222 _ ?side1 ?side2 A25.out).mono ?_
        (case side1 => exact zc (Kd.C_below HR217_7.out HB.out))
        (case side2 => exact HC217_7.out)
        rintro e w34 ⟨v223, rfl, ho0, hb⟩
        refine ⟨_, rfl, ?_⟩
        replace HO_3 := Aside0.mk (Kd.S_elder' (by (with_reducible repeat (first | apply Kd.S_alloc | apply Kd.S_drewN | apply Kd.S_drew)); exact HO_3.out) (Kd.R_base ho0) hb)
        replace HO_205009 := Aside0.mk (Kd.R_below (zr HO_205009) hb)
        have HO224 := Aside0.mk (Kd.R_lower (Kd.R_new' (Kd.R_new' (Kd.R_new' ho0 (Kd.R_lt (zr HO_205001))) (Kd.R_lt (zr HO_205003))) (Kd.R_lt (zr HO221))) (below_size (zb HB)))
        replace HO_205001 := Aside0.mk (Kd.R_elder' (zr HO_205001) (Kd.R_base ho0) hb)
        replace HO_205003 := Aside0.mk (Kd.R_elder' (zr HO_205003) (Kd.R_base ho0) hb)
        replace HO221 := Aside0.mk (Kd.R_elder' (zr HO221) (Kd.R_base ho0) hb)
        replace BK204 := kb BK204 hb
        replace BK205 := kb BK205 hb
        replace BK218 := kb BK218 hb
        replace HB := Aside0.mk (below_step (zb HB) hb)
        (try clear hb)
        (try clear ho0)
        obtain ⟨Ao35, co35, eo35⟩ := Kd.R_slice HO221.out
        (first | subst eo35 | (injection eo35 with f1_ f2_ f3_; have f4_ := f1_.symm; have f5_ := f3_.symm; clear f1_ f2_ f3_; subst f4_; subst f5_))
        obtain ⟨Ao37, co37, eo37⟩ := Kd.R_slice HO224.out
        (first | subst eo37 | (injection eo37 with f1_ f2_ f3_; have f4_ := f1_.symm; have f5_ := f3_.symm; clear f1_ f2_ f3_; subst f4_; subst f5_))
        refine hK.out _ _ ⟨(blk_cell BK218.out 0).trans rfl, (blk_cell BK218.out 1).trans rfl, (blk_cell BK218.out 2).trans rfl, (blk_cell BK218.out 3).trans rfl, (blk_cell BK218.out 4).trans rfl, (blk_cell BK218.out 5).trans rfl, (blk_cell BK218.out 6).trans rfl, (blk_cell BK218.out 7).trans rfl, (blk_cell BK218.out 8).trans rfl, (blk_cell BK218.out 9).trans rfl, (blk_cell BK218.out 10).trans rfl, (blk_cell BK218.out 11).trans rfl⟩ (fun hHeld => ?_)
        clear hK K
        refine nm ?_
        refine last_ (i := 7) (N := none) #[true, true, true, true, true, true, true, true, false, false] rfl rfl (one_of HT_.out (by kernel_rfl)) (by decide) (fun K hK => ?_)
        have hs36 : w34.cell? ⟨gb218, 2, none⟩ = some (.slice A217_2 ((rd_T104 l0_6 x21_1).f2).length c217_2) := (blk_cell BK218.out 2).trans rfl
        have hfs36 := blk_frozen BK218.out 2
        have hns36_0 := NB204_218.out
        have hns36_1 := NB205_218.out
        have hms36_0 := NB218_204.out
        have hms36_1 := NB218_205.out
        refine skip_ (w1 := ?_) (by rfl) rfl ?_ ?_
        rotate_left
        ·go_simp
         rfl
        refine hK.out _ _ ?_
        clear hK K
        refine pu 8 (some 32) (bm 10 511) rfl rfl ?_
        refine last_ (i := 9) (N := none) #[true, true, true, true, true, true, true, true, true, true] rfl rfl (one_of HT_.out (by kernel_rfl)) (by decide) (fun K hK => ?_)
        have hs38 : w34.cell? ⟨gb218, 7, none⟩ = some (.slice A217_7 ((rd_T104 l0_6 x21_1).f7).length c217_7) := (blk_cell BK218.out 7).trans rfl
        have hfs38 := blk_frozen BK218.out 7
        have hns38_0 := NB204_218.out
        have hns38_1 := NB205_218.out
        have hms38_0 := NB218_204.out
        have hms38_1 := NB218_205.out
        refine skip_ (w1 := ?_) (by rfl) rfl ?_ ?_
        rotate_left
        ·go_simp
         rfl
        refine hK.out _ _ ?_
        clear hK K
        refine done_ (done_of HT_.out (by kernel_rfl)) ?_
        have n0_ : Aside0 (Kd.S k104 104 ((w34.setCell ⟨gb218, 2, none⟩ (.slice Ao35 t219.length co35)).setCell ⟨gb218, 7, none⟩ (.slice Ao37 t222.length co37)) w.heap.size (fun k_ => some k_ ≠ (.slice Ao11 t206.length co11 : Value).ownBlock ∧ some k_ ≠ (.slice Ao14 t210.length co14 : Value).ownBlock ∧ some k_ ≠ (.slice Ao35 t219.length co35 : Value).ownBlock ∧ some k_ ≠ (.slice Ao37 t222.length co37 : Value).ownBlock ∧ k_ ≠ gb218) u3 x3_1) := ⟨by (with_reducible repeat (first | apply Kd.S_alloc | apply Kd.S_drewN | apply Kd.S_drew)); exact Kd.S_mono (ztS (Kd.S_mono HO_3.out (fun k_ hk => (⟨hk, hk.1.1.2.2⟩ : _ ∧ k_ ≠ gb218)))) (fun _ hk => ⟨hk.1.1.1.1, ⟨hk.1.1.1.2.1, ⟨hk.1.1.2, ⟨hk.1.2, hk.1.1.1.2.2⟩⟩⟩⟩)⟩
        have n1_ : Aside0 (Kd.R k88 88 ((w34.setCell ⟨gb218, 2, none⟩ (.slice Ao35 t219.length co35)).setCell ⟨gb218, 7, none⟩ (.slice Ao37 t222.length co37)) w.heap.size (fun k_ => some k_ ≠ (.slice Ao14 t210.length co14 : Value).ownBlock ∧ some k_ ≠ (.slice Ao35 t219.length co35 : Value).ownBlock ∧ some k_ ≠ (.slice Ao37 t222.length co37 : Value).ownBlock) (.slice Ao11 t206.length co11) t206) := ⟨(Kd.R_mono (ztR (Kd.R_types HO_205001.out BK218.out (by decide))) (fun _ hk => ⟨hk.1.1.1, ⟨hk.1.1.2, hk.1.2⟩⟩))⟩
        have n2_ : Aside0 (Kd.R k88 88 ((w34.setCell ⟨gb218, 2, none⟩ (.slice Ao35 t219.length co35)).setCell ⟨gb218, 7, none⟩ (.slice Ao37 t222.length co37)) w.heap.size (fun k_ => some k_ ≠ (.slice Ao11 t206.length co11 : Value).ownBlock ∧ some k_ ≠ (.slice Ao35 t219.length co35 : Value).ownBlock ∧ some k_ ≠ (.slice Ao37 t222.length co37 : Value).ownBlock) (.slice Ao14 t210.length co14) t210) := ⟨(Kd.R_mono (ztR (Kd.R_types HO_205003.out BK218.out (by decide))) (fun _ hk => ⟨hk.1.1.1, ⟨hk.1.1.2, hk.1.2⟩⟩))⟩
        have n3_ : Aside0 (Kd.R k110 110 ((w34.setCell ⟨gb218, 2, none⟩ (.slice Ao35 t219.length co35)).setCell ⟨gb218, 7, none⟩ (.slice Ao37 t222.length co37)) w.heap.size (fun _ => True) (.slice Ao17 y214.length co17) y214) := ⟨(Kd.R_mono (ztR (Kd.R_types HO_205009.out BK218.out (by decide))) (fun _ hk => trivial))⟩
        have n4_ : Aside0 (Kd.R k88 88 ((w34.setCell ⟨gb218, 2, none⟩ (.slice Ao35 t219.length co35)).setCell ⟨gb218, 7, none⟩ (.slice Ao37 t222.length co37)) w.heap.size (fun k_ => some k_ ≠ (.slice Ao11 t206.length co11 : Value).ownBlock ∧ some k_ ≠ (.slice Ao14 t210.length co14 : Value).ownBlock ∧ some k_ ≠ (.slice Ao37 t222.length co37 : Value).ownBlock) (.slice Ao35 t219.length co35) t219) := ⟨(Kd.R_mono (ztR (Kd.R_types HO221.out BK218.out (by decide))) (fun _ hk => ⟨hk.1.1.1.2, ⟨hk.1.1.2, hk.1.2⟩⟩))⟩
        have n5_ : Aside0 (Kd.R k88 88 ((w34.setCell ⟨gb218, 2, none⟩ (.slice Ao35 t219.length co35)).setCell ⟨gb218, 7, none⟩ (.slice Ao37 t222.length co37)) w.heap.size (fun k_ => some k_ ≠ (.slice Ao11 t206.length co11 : Value).ownBlock ∧ some k_ ≠ (.slice Ao14 t210.length co14 : Value).ownBlock ∧ some k_ ≠ (.slice Ao35 t219.length co35 : Value).ownBlock) (.slice Ao37 t222.length co37) t222) := ⟨(Kd.R_mono (ztR (Kd.R_types HO224.out BK218.out (by decide))) (fun _ hk => ⟨hk.1.1.1.2, ⟨hk.1.1.2, hk.1.2⟩⟩))⟩
        have n6_ : Aside0 (((w34.setCell ⟨gb218, 2, none⟩ (.slice Ao35 t219.length co35)).setCell ⟨gb218, 7, none⟩ (.slice Ao37 t222.length co37)).heap[gb204]? = some (.cells #[.bool a0_0, .slice Ao11 t206.length co11, .int .i64 t209, .slice Ao14 t210.length co14, .int .i64 t213, .string a0_5, .slice (some ad217) l0_6.length c0_6, .int .i64 a0_7, .int .i64 a0_8, .slice Ao17 y214.length co17, .bool a0_10] 42 (0, 0))) := ⟨zp BK204⟩
        have n7_ : Aside0 (((w34.setCell ⟨gb218, 2, none⟩ (.slice Ao35 t219.length co35)).setCell ⟨gb218, 7, none⟩ (.slice Ao37 t222.length co37)).heap[gb205]? = some (.cells #[.bool false, .slice none 0 0, .int .i64 0, .slice none 0 0, .int .i64 0, .string (⟨#[]⟩ : ByteArray), .slice none 0 0, .int .i64 0, .int .i64 0, .slice none 0 0, .bool false] 42 (0, 0))) := ⟨zp BK205⟩
        have n8_ : Aside0 (((w34.setCell ⟨gb218, 2, none⟩ (.slice Ao35 t219.length co35)).setCell ⟨gb218, 7, none⟩ (.slice Ao37 t222.length co37)).heap[gb218]? = some (.cells #[.int .i64 ((rd_T104 l0_6 x21_1).f0), .int .i64 ((rd_T104 l0_6 x21_1).f1), .slice Ao35 t219.length co35, .string ((rd_T104 l0_6 x21_1).f3), .bool ((rd_T104 l0_6 x21_1).f4), .bool ((rd_T104 l0_6 x21_1).f5), .int .i64 ((rd_T104 l0_6 x21_1).f6), .slice Ao37 t222.length co37, .string ((rd_T104 l0_6 x21_1).f8), .bool ((rd_T104 l0_6 x21_1).f9), .int .i64 ((rd_T104 l0_6 x21_1).f10.f0), .int .i64 ((rd_T104 l0_6 x21_1).f10.f1)] 104 (0, 0))) := ⟨zp BK218⟩
        have n9_ : Aside0 (Below w.heap.size w ((w34.setCell ⟨gb218, 2, none⟩ (.slice Ao35 t219.length co35)).setCell ⟨gb218, 7, none⟩ (.slice Ao37 t222.length co37))) := ⟨zb HB⟩
        (try clear HO_3)
        (try clear HO_205001)
        (try clear HO_205003)
        (try clear HO_205009)
        (try clear HO221)
        (try clear HO224)
        (try clear BK204)
        (try clear BK205)
        (try clear BK218)
        (try clear HB)
        generalize ((w34.setCell ⟨gb218, 2, none⟩ (.slice Ao35 t219.length co35)).setCell ⟨gb218, 7, none⟩ (.slice Ao37 t222.length co37)) = w39 at n0_ n1_ n2_ n3_ n4_ n5_ n6_ n7_ n8_ n9_ ⊢
        have HO_3 := n0_
        have HO_205001 := n1_
        have HO_205003 := n2_
        have HO_205009 := n3_
        have HO221 := n4_
        have HO224 := n5_
        have BK204 := n6_
        have BK205 := n7_
        have BK218 := n8_
        have HB := n9_
        clear n0_ n1_ n2_ n3_ n4_ n5_ n6_ n7_ n8_ n9_
        obtain ⟨hcz40_0, hcz40_1, hcz40_2, hcz40_3, hcz40_4, hcz40_5, hcz40_6, hcz40_7, hcz40_8, hcz40_9, hcz40_10, hcz40_11, hfz40_0, hfz40_1, hfz40_2, hfz40_3, hfz40_4, hfz40_5, hfz40_6, hfz40_7, hfz40_8, hfz40_9, hfz40_10, hfz40_11⟩ := c12 BK218
        try go_wp2_with (first | ((with_reducible refine gate_builtin (b := .append) (xs := #[.tmp 33, .tmp 35]) rfl ?_); at_builtin; refine Kd.S_append k104 (w0 := w) w.heap.size rfl (.tmp 33) (.tmp 35) 37 104 (.agg #[(.int .i64 0), (.int .i64 0), (.slice none 0 0), (.string ⟨#[]⟩), (.bool false), (.bool false), (.int .i64 0), (.slice none 0 0), (.string ⟨#[]⟩), (.bool false), (.int .i64 0), (.int .i64 0)]) 136 rfl Try.underlying37 info104 rfl (by decide) (by omega) u3 x3_1 (⟨(rd_T104 l0_6 x21_1).f0, (rd_T104 l0_6 x21_1).f1, t219, (rd_T104 l0_6 x21_1).f3, (rd_T104 l0_6 x21_1).f4, (rd_T104 l0_6 x21_1).f5, (rd_T104 l0_6 x21_1).f6, t222, (rd_T104 l0_6 x21_1).f8, (rd_T104 l0_6 x21_1).f9, (⟨(rd_T104 l0_6 x21_1).f10.f0, (rd_T104 l0_6 x21_1).f10.f1⟩ : S39)⟩ : S104) [.int .i64 ((rd_T104 l0_6 x21_1).f0), .int .i64 ((rd_T104 l0_6 x21_1).f1), .slice Ao35 t219.length co35, .string ((rd_T104 l0_6 x21_1).f3), .bool ((rd_T104 l0_6 x21_1).f4), .bool ((rd_T104 l0_6 x21_1).f5), .int .i64 ((rd_T104 l0_6 x21_1).f6), .slice Ao37 t222.length co37, .string ((rd_T104 l0_6 x21_1).f8), .bool ((rd_T104 l0_6 x21_1).f9), .int .i64 ((rd_T104 l0_6 x21_1).f10.f0), .int .i64 ((rd_T104 l0_6 x21_1).f10.f1)] (fun k_ => some k_ ≠ (.slice Ao11 t206.length co11 : Value).ownBlock ∧ some k_ ≠ (.slice Ao14 t210.length co14 : Value).ownBlock ∧ k_ ≠ gb218) (fun k_ => some k_ = (.slice Ao35 t219.length co35 : Value).ownBlock ∨ some k_ = (.slice Ao37 t222.length co37 : Value).ownBlock) rfl rfl ?aP (fun k_ hk_ => hk_.elim (fun h_ => ((Kd.R_mono (ok' := fun k_ => ((fun k_ => some k_ ≠ (.slice Ao11 t206.length co11 : Value).ownBlock ∧ some k_ ≠ (.slice Ao14 t210.length co14 : Value).ownBlock ∧ k_ ≠ gb218)) k_ ∧ some k_ ≠ (u3 : Value).ownBlock) (Kd.R_types (Kd.R_apart' (HO221.out) (Kd.S_typed HO_3.out) (by decide)) BK218.out (by decide)) (fun k_ hk => ⟨⟨hk.1.1.1, ⟨hk.1.1.2.1, hk.2⟩⟩, hk.1.2⟩))).1 k_ h_.symm) (fun h_ => ((Kd.R_mono (ok' := fun k_ => ((fun k_ => some k_ ≠ (.slice Ao11 t206.length co11 : Value).ownBlock ∧ some k_ ≠ (.slice Ao14 t210.length co14 : Value).ownBlock ∧ k_ ≠ gb218)) k_ ∧ some k_ ≠ (u3 : Value).ownBlock) (Kd.R_types (Kd.R_apart' (HO224.out) (Kd.S_typed HO_3.out) (by decide)) BK218.out (by decide)) (fun k_ hk => ⟨⟨hk.1.1.1, ⟨hk.1.1.2.1, hk.2⟩⟩, hk.1.2⟩))).1 k_ h_.symm)) ?aF ?aO ?aB ?aS ?aL ?_; (case aP => exact k104_mkM _ _ _ (⟨(rd_T104 l0_6 x21_1).f0, (rd_T104 l0_6 x21_1).f1, t219, (rd_T104 l0_6 x21_1).f3, (rd_T104 l0_6 x21_1).f4, (rd_T104 l0_6 x21_1).f5, (rd_T104 l0_6 x21_1).f6, t222, (rd_T104 l0_6 x21_1).f8, (rd_T104 l0_6 x21_1).f9, (⟨(rd_T104 l0_6 x21_1).f10.f0, (rd_T104 l0_6 x21_1).f10.f1⟩ : S39)⟩ : S104) (Kd.R_mono (Kd.R_tight rfl (Kd.R_mono (ok' := fun k_ => ((fun k_ => some k_ ≠ (.slice Ao11 t206.length co11 : Value).ownBlock ∧ some k_ ≠ (.slice Ao14 t210.length co14 : Value).ownBlock ∧ k_ ≠ gb218)) k_ ∧ some k_ ≠ (u3 : Value).ownBlock) (Kd.R_types (Kd.R_apart' (HO221.out) (Kd.S_typed HO_3.out) (by decide)) BK218.out (by decide)) (fun k_ hk => ⟨⟨hk.1.1.1, ⟨hk.1.1.2.1, hk.2⟩⟩, hk.1.2⟩))) (fun _ h_ => Or.inl h_)) (Kd.R_mono (Kd.R_tight rfl (Kd.R_mono (ok' := fun k_ => ((fun k_ => some k_ ≠ (.slice Ao11 t206.length co11 : Value).ownBlock ∧ some k_ ≠ (.slice Ao14 t210.length co14 : Value).ownBlock ∧ k_ ≠ gb218)) k_ ∧ some k_ ≠ (u3 : Value).ownBlock) (Kd.R_types (Kd.R_apart' (HO224.out) (Kd.S_typed HO_3.out) (by decide)) BK218.out (by decide)) (fun k_ hk => ⟨⟨hk.1.1.1, ⟨hk.1.1.2.1, hk.2⟩⟩, hk.1.2⟩))) (fun _ h_ => Or.inr (h_)))); (case aB => exact (zb HB)); (case aF => exact (fun k_ hk => ⟨Kd.fresh' (Kd.R_lt (zr HO_205001)) k_ hk, Kd.fresh' (Kd.R_lt (zr HO_205003)) k_ hk, Kd.freshB (zk BK218) k_ hk⟩)); (case aO => exact (by (with_reducible repeat (first | apply Kd.S_alloc | apply Kd.S_drewN | apply Kd.S_drew)); exact Kd.S_mono HO_3.out (fun k_ hk => ⟨⟨hk.1, ⟨hk.2.1, hk.2.2.2.2⟩⟩, fun e_ => e_.elim (fun h_ => hk.2.2.1 h_) (fun h_ => hk.2.2.2.1 h_)⟩))); (case aS => exact (below_size (zb HB))); (case aL => have := LMc26.out; omega); intro v226 w41 ho hb hg hat; rw [← Ny225.out] at ho; replace HO_205001 := Aside0.mk (Kd.R_over' (zr HO_205001) (Kd.S_typed (by (with_reducible repeat (first | apply Kd.S_alloc | apply Kd.S_drewN | apply Kd.S_drew)); exact HO_3.out)) (by decide) hg); replace HO_205003 := Aside0.mk (Kd.R_over' (zr HO_205003) (Kd.S_typed (by (with_reducible repeat (first | apply Kd.S_alloc | apply Kd.S_drewN | apply Kd.S_drew)); exact HO_3.out)) (by decide) hg); replace HO_205009 := Aside0.mk (Kd.R_over' (zr HO_205009) (Kd.S_typed (by (with_reducible repeat (first | apply Kd.S_alloc | apply Kd.S_drewN | apply Kd.S_drew)); exact HO_3.out)) (by decide) hg); replace BK204 := Aside0.mk (blk_grown (zk BK204) hg (Kd.S_ne HO_3.out BK204.out (by decide))); replace BK205 := Aside0.mk (blk_grown (zk BK205) hg (Kd.S_ne HO_3.out BK205.out (by decide))); replace BK218 := Aside0.mk (blk_grown (zk BK218) hg (Kd.S_away HO_3.out (fun _ hk => hk.2.2.2.2))); replace HB := Aside0.mk (hb); have HO227 := Aside0.mk (ho); clear HO_3; clear HO221; clear HO224; clear ho hb hg hat))
        go_roundg k1
        case measure => have := HK1.out; omega
        case rel => exact ⟨(y225), (wrap64 (x21_1 + 1)), zs, H', ⟨by have := HK1.out; omega⟩, ⟨by (with_reducible repeat (first | apply Kd.S_alloc | apply Kd.S_drewN | apply Kd.S_drew)); exact Kd.S_mono HO227.out (fun _ hk => ⟨hk.1, hk.2.1⟩)⟩, ⟨zq (Kd.R_mono HO_205001.out (fun _ hk => hk.1))⟩, ⟨zq (Kd.R_mono HO_205003.out (fun _ hk => hk.1))⟩, ⟨by exact zr HO_205009⟩, ⟨by exact zk BK204⟩, ⟨by exact zk BK205⟩, ⟨zb HB⟩⟩
       ·rw [if_neg c26] at H
        exact absurd H (by simp)
      ·rw [if_neg c23] at H
       exact absurd H (by simp)
     ·rw [if_neg c22] at H
      exact absurd H (by simp)
    ·skip
     have c21b0 := decide_eq_false c21
     clear c21
     simp only [Option.some.injEq, Prod.mk.injEq] at H
     obtain ⟨rfl, rfl, rfl, rfl, rfl, rfl, rfl, rfl, rfl, rfl, rfl⟩ := H
     obtain ⟨Ao42, co42, eo42⟩ := Kd.S_slice HO_3.out
     subst eo42
     have hnb43 := NB204_205.out
     have hnc43 := NB205_204.out
     obtain ⟨hcz44_0, hcz44_1, hcz44_2, hcz44_3, hcz44_4, hcz44_5, hcz44_6, hcz44_7, hcz44_8, hcz44_9, hcz44_10, hfz44_0, hfz44_1, hfz44_2, hfz44_3, hfz44_4, hfz44_5, hfz44_6, hfz44_7, hfz44_8, hfz44_9, hfz44_10⟩ := c11 BK204
     obtain ⟨hcz45_0, hcz45_1, hcz45_2, hcz45_3, hcz45_4, hcz45_5, hcz45_6, hcz45_7, hcz45_8, hcz45_9, hcz45_10, hfz45_0, hfz45_1, hfz45_2, hfz45_3, hfz45_4, hfz45_5, hfz45_6, hfz45_7, hfz45_8, hfz45_9, hfz45_10⟩ := c11 BK205
     go_wp2
     refine bodyPost_ret (results_cell_row rfl _ _ gb205 42 #[.bool a0_0, .slice Ao11 t206.length co11, .int .i64 t209, .slice Ao14 t210.length co14, .int .i64 t213, .string a0_5, .slice Ao42 x3_1.length co42, .int .i64 a0_7, .int .i64 a0_8, .slice Ao17 y214.length co17, .bool a0_10] (0, 0) _ rfl (zp BK205) Try.underlying42 rfl (by kernel_rfl)) rfl ?_
     exact ⟨_, _, _, _, ze, (Kd.R_mono (ztR (Kd.R_types (Kd.R_types HO_205001.out BK204.out (by decide)) BK205.out (by decide))) (fun _ hk => hk.1.1)), (Kd.R_mono (ztR (Kd.R_types (Kd.R_types HO_205003.out BK204.out (by decide)) BK205.out (by decide))) (fun _ hk => hk.1.1)), by (with_reducible repeat (first | apply Kd.S_alloc | apply Kd.S_drewN | apply Kd.S_drew)); exact Kd.S_mono (ztS (Kd.S_types (Kd.S_types HO_3.out BK204.out (by decide)) BK205.out (by decide))) (fun _ hk => ⟨hk.1.1.1, hk.1.1.2⟩), (Kd.R_mono (ztR (Kd.R_types (Kd.R_types HO_205009.out BK204.out (by decide)) BK205.out (by decide))) (fun _ hk => trivial)), zb HB⟩
 ·skip
  exact absurd H (by simp)

-- NOT PRINTED: function 155 (abi_NoEscape)

-- NOT PRINTED: function 127 (strings_Builder_copyCheck)

-- NOT PRINTED: function 78 (strings_Builder_WriteString)

/-! ### impl_Frame_bytes: function 128 -/
-- thin
def impl_Frame_bytes.f (a0_0 : Int) (a0_1 : Bool) (a0_2 : Int) (a0_3 : ByteArray) : Option (ByteArray) := if a0_1 = true then ((some (([((a0_3.size : Int)) % 256, (a0_0) % 256, 1, (a0_2) % 256] : List Int) : List Int)).bind fun y229 => (if (strOfNums y229).size + a0_3.size ≤ 9223372036854775807 then (some ((strOfNums y229) ++ a0_3)) else (none))) else ((some (([((a0_3.size : Int)) % 256, (a0_0) % 256, 0, (a0_2) % 256] : List Int) : List Int)).bind fun y232 => (if (strOfNums y232).size + a0_3.size ≤ 9223372036854775807 then (some ((strOfNums y232) ++ a0_3)) else (none)))
set_option maxHeartbeats 8000000 in
set_option maxRecDepth 100000 in
theorem impl_Frame_bytes.calls (a0_0 : Int) (a0_1 : Bool) (a0_2 : Int) (a0_3 : ByteArray) (r : ByteArray) (w : World) (h : impl_Frame_bytes.f a0_0 a0_1 a0_2 a0_3 = some r) :
  Calls Try.prog 128 #[.agg #[.int .i64 a0_0, .bool a0_1, .int .i64 a0_2, .string a0_3]] w fun e w' => e = .returned (.string r) ∧ Below w.heap.size w w' := by
 have hu110 := Try.underlying110
 have HB := Aside0.mk (Below.refl w.heap.size w)
 have H : (if a0_1 = true then ((some (([((a0_3.size : Int)) % 256, (a0_0) % 256, 1, (a0_2) % 256] : List Int) : List Int)).bind fun y229 => (if (strOfNums y229).size + a0_3.size ≤ 9223372036854775807 then (some ((strOfNums y229) ++ a0_3)) else (none))) else ((some (([((a0_3.size : Int)) % 256, (a0_0) % 256, 0, (a0_2) % 256] : List Int) : List Int)).bind fun y232 => (if (strOfNums y232).size + a0_3.size ≤ 9223372036854775807 then (some ((strOfNums y232) ++ a0_3)) else (none)))) = some r := h
 clear h
 by_cases c2 : a0_1 = true
 ·subst c2
  rw [if_pos rfl] at H
  obtain ⟨y229, hy229⟩ : ∃ y_ : List Int, y_ = (([((a0_3.size : Int)) % 256, (a0_0) % 256, 1, (a0_2) % 256] : List Int)) := ⟨_, rfl⟩
  replace H : (if (strOfNums y229).size + a0_3.size ≤ 9223372036854775807 then (some ((strOfNums y229) ++ a0_3)) else (none)) = some r := by first | (rw [hy229]; with_reducible exact H) | (have H2_ := (Option.bind_some _ _).symm.trans H; rw [hy229]; with_reducible exact H2_) | (have H2_ := (Option.bind_some _ _).symm.trans H; with_reducible exact H2_) | with_reducible exact H | (rw [hy229]; exact H) | exact H
  have Ny229 := Aside0.mk hy229
  clear hy229
  replace H := sp H
  rcases H with ⟨c3, H⟩ | ⟨c3, H⟩
  ·skip
   have c3b0 := eq_true c3
   have c3b1 := decide_eq_true c3
   try have c3b2 : (9223372036854775807 < (strOfNums y229).size + a0_3.size) = False := eq_false (Nat.not_lt.2 c3)
   obtain rfl := Option.some.inj H
   go_enter Try.func128, Try.ntmps128
   go_wp2_with (first | ((with_reducible refine gd 1 rfl ?_); refine bx (N := 1) (cs := #[.int .i64 a0_0, .bool true, .int .i64 a0_2, .string a0_3]) (t := 110) ?_; intro gb228 hg w4 hbox hb; have BK228 := Aside0.mk (hbox); have GW228 := gw HB hg; have GE228 := GW228; replace HB := Aside0.mk (below_step (zb HB) hb); clear hb hbox hg; obtain ⟨hcz5_0, hcz5_1, hcz5_2, hcz5_3, hfz5_0, hfz5_1, hfz5_2, hfz5_3⟩ := c4 BK228) | ((with_reducible refine gd 17 rfl ?_); refine Kd.R_lit (Kd.int .u8) _ 5 ?hg (N := 17) ?hd (xs := ([((a0_3.size : Int)) % 256, (a0_0) % 256, 1, (a0_2) % 256] : List Int)) (inner := [.int .u8 (((a0_3.size : Int)) % 256), .int .u8 ((a0_0) % 256), .int .u8 1, .int .u8 ((a0_2) % 256)]) (ok := fun _ => True) (okp := fun _ => True) ?hr ?hp (fun _ hk => hk) trivial (Below.refl _ _) (Nat.le_refl _) (by simp) ?_; (case hd => rfl); (case hg => rfl); (case hr => first | (go_simp; done) | (go_simp; rfl)); (case hp => exact (Reps.one (show Kd.M (Kd.int .u8) _ _ _ (((a0_3.size : Int)) % 256) [.int .u8 (((a0_3.size : Int)) % 256)] from rfl) (Reps.one (show Kd.M (Kd.int .u8) _ _ _ ((a0_0) % 256) [.int .u8 ((a0_0) % 256)] from rfl) (Reps.one (show Kd.M (Kd.int .u8) _ _ _ 1 [.int .u8 1] from rfl) (Reps.one (show Kd.M (Kd.int .u8) _ _ _ ((a0_2) % 256) [.int .u8 ((a0_2) % 256)] from rfl) (Reps.none _ _)))))); intro v230 w6 ho7 hb hg_ hnew_; clear hg_ hnew_; (first | rw [← Ny229.out] at ho7 | (simp only [Int.reduceToNat] at ho7; rw [← Ny229.out] at ho7)); have HO231 := Aside0.mk (Kd.R_lower ho7 (below_size (zb HB))); replace BK228 := kb BK228 hb; replace HB := Aside0.mk (below_step (zb HB) hb); clear hb ho7; have hcv8 := own_string (P := Try.prog) Try.underlying22 Try.underlying5 Try.underlying9 (Kd.own_of_R HO231.out); obtain ⟨hcz9_0, hcz9_1, hcz9_2, hcz9_3, hfz9_0, hfz9_1, hfz9_2, hfz9_3⟩ := c4 BK228))
   go_ret
   exact ⟨ze, zb HB⟩
  ·skip
   exact absurd H (by simp)
 ·replace c2 := Bool.eq_false_iff.mpr c2
  subst c2
  rw [if_neg (show ¬ (false = true) by decide)] at H
  obtain ⟨y232, hy232⟩ : ∃ y_ : List Int, y_ = (([((a0_3.size : Int)) % 256, (a0_0) % 256, 0, (a0_2) % 256] : List Int)) := ⟨_, rfl⟩
  replace H : (if (strOfNums y232).size + a0_3.size ≤ 9223372036854775807 then (some ((strOfNums y232) ++ a0_3)) else (none)) = some r := by first | (rw [hy232]; with_reducible exact H) | (have H2_ := (Option.bind_some _ _).symm.trans H; rw [hy232]; with_reducible exact H2_) | (have H2_ := (Option.bind_some _ _).symm.trans H; with_reducible exact H2_) | with_reducible exact H | (rw [hy232]; exact H) | exact H
  have Ny232 := Aside0.mk hy232
  clear hy232
  replace H := sp H
  rcases H with ⟨c10, H⟩ | ⟨c10, H⟩
  ·skip
   have c10b0 := eq_true c10
   have c10b1 := decide_eq_true c10
   try have c10b2 : (9223372036854775807 < (strOfNums y232).size + a0_3.size) = False := eq_false (Nat.not_lt.2 c10)
   obtain rfl := Option.some.inj H
   go_enter Try.func128, Try.ntmps128
   go_wp2_with (first | ((with_reducible refine gd 1 rfl ?_); refine bx (N := 1) (cs := #[.int .i64 a0_0, .bool false, .int .i64 a0_2, .string a0_3]) (t := 110) ?_; intro gb228 hg w11 hbox hb; have BK228 := Aside0.mk (hbox); have GW228 := gw HB hg; have GE228 := GW228; replace HB := Aside0.mk (below_step (zb HB) hb); clear hb hbox hg; obtain ⟨hcz12_0, hcz12_1, hcz12_2, hcz12_3, hfz12_0, hfz12_1, hfz12_2, hfz12_3⟩ := c4 BK228) | ((with_reducible refine gd 17 rfl ?_); refine Kd.R_lit (Kd.int .u8) _ 5 ?hg (N := 17) ?hd (xs := ([((a0_3.size : Int)) % 256, (a0_0) % 256, 0, (a0_2) % 256] : List Int)) (inner := [.int .u8 (((a0_3.size : Int)) % 256), .int .u8 ((a0_0) % 256), .int .u8 0, .int .u8 ((a0_2) % 256)]) (ok := fun _ => True) (okp := fun _ => True) ?hr ?hp (fun _ hk => hk) trivial (Below.refl _ _) (Nat.le_refl _) (by simp) ?_; (case hd => rfl); (case hg => rfl); (case hr => first | (go_simp; done) | (go_simp; rfl)); (case hp => exact (Reps.one (show Kd.M (Kd.int .u8) _ _ _ (((a0_3.size : Int)) % 256) [.int .u8 (((a0_3.size : Int)) % 256)] from rfl) (Reps.one (show Kd.M (Kd.int .u8) _ _ _ ((a0_0) % 256) [.int .u8 ((a0_0) % 256)] from rfl) (Reps.one (show Kd.M (Kd.int .u8) _ _ _ 0 [.int .u8 0] from rfl) (Reps.one (show Kd.M (Kd.int .u8) _ _ _ ((a0_2) % 256) [.int .u8 ((a0_2) % 256)] from rfl) (Reps.none _ _)))))); intro v233 w13 ho14 hb hg_ hnew_; clear hg_ hnew_; (first | rw [← Ny232.out] at ho14 | (simp only [Int.reduceToNat] at ho14; rw [← Ny232.out] at ho14)); have HO234 := Aside0.mk (Kd.R_lower ho14 (below_size (zb HB))); replace BK228 := kb BK228 hb; replace HB := Aside0.mk (below_step (zb HB) hb); clear hb ho14; have hcv15 := own_string (P := Try.prog) Try.underlying22 Try.underlying5 Try.underlying9 (Kd.own_of_R HO234.out); obtain ⟨hcz16_0, hcz16_1, hcz16_2, hcz16_3, hfz16_0, hfz16_1, hfz16_2, hfz16_3⟩ := c4 BK228))
   go_ret
   exact ⟨ze, zb HB⟩
  ·skip
   exact absurd H (by simp)

/-! ### impl_FrameWrite: function 79 -/
-- thin
def impl_FrameWrite.f (a0_0 : Int) (a0_1 : Bool) (a0_2 : Int) (a0_3 : ByteArray) : Option (ByteArray) := (impl_FrameOk.f a0_0 a0_1 a0_2 a0_3).bind fun t236 => (if t236 = true then ((impl_Frame_bytes.f a0_0 a0_1 a0_2 a0_3).bind fun t237 => (some t237)) else (some (⟨#[]⟩ : ByteArray)))
set_option maxHeartbeats 8000000 in
set_option maxRecDepth 100000 in
theorem impl_FrameWrite.calls (a0_0 : Int) (a0_1 : Bool) (a0_2 : Int) (a0_3 : ByteArray) (r : ByteArray) (w : World) (h : impl_FrameWrite.f a0_0 a0_1 a0_2 a0_3 = some r) :
  Calls Try.prog 79 #[.agg #[.int .i64 a0_0, .bool a0_1, .int .i64 a0_2, .string a0_3]] w fun e w' => e = .returned (.string r) ∧ Below w.heap.size w w' := by
 have hu110 := Try.underlying110
 have HB := Aside0.mk (Below.refl w.heap.size w)
 have H : ((impl_FrameOk.f a0_0 a0_1 a0_2 a0_3).bind fun t236 => (if t236 = true then ((impl_Frame_bytes.f a0_0 a0_1 a0_2 a0_3).bind fun t237 => (some t237)) else (some (⟨#[]⟩ : ByteArray)))) = some r := h
 clear h
 obtain ⟨t236, A2, H⟩ := ob H
 (try dsimp only at H)
 have HC3 := Aside0.mk H
 clear H
 go_enter Try.func79, Try.ntmps79
 go_upto_if 5 with (first | ((with_reducible refine gd 1 rfl ?_); refine bx (N := 1) (cs := #[.int .i64 a0_0, .bool a0_1, .int .i64 a0_2, .string a0_3]) (t := 110) ?_; intro gb235 hg w4 hbox hb; have BK235 := Aside0.mk (hbox); have GW235 := gw HB hg; have GE235 := GW235; replace HB := Aside0.mk (below_step (zb HB) hb); clear hb hbox hg; obtain ⟨hcz5_0, hcz5_1, hcz5_2, hcz5_3, hfz5_0, hfz5_1, hfz5_2, hfz5_3⟩ := c4 BK235) | ((with_reducible refine gq 87 rfl ?_); refine gl (some 4) Try.func87 #[.agg #[.int .i64 a0_0, .bool a0_1, .int .i64 a0_2, .string a0_3]] ?_; (with_reducible refine (impl_FrameOk.calls a0_0 a0_1 a0_2 a0_3 t236 _ A2.out).mono ?_); rintro e w6 ⟨rfl, hb⟩; refine ⟨_, rfl, ?_⟩; replace BK235 := kb BK235 hb; replace HB := Aside0.mk (below_step (zb HB) hb); (try clear hb)))
 (try simp only [Act.put, s1, s2, s3])
 have H := HC3.out
 clear HC3
 by_cases c7 : t236 = true
 ·subst c7
  rw [if_pos rfl] at H
  obtain ⟨t237, A8, H⟩ := ob H
  (try dsimp only at H)
  obtain rfl := Option.some.inj H
  obtain ⟨hcz9_0, hcz9_1, hcz9_2, hcz9_3, hfz9_0, hfz9_1, hfz9_2, hfz9_3⟩ := c4 BK235
  go_wp2_with (first | ((with_reducible refine gq 128 rfl ?_); refine gl (some 7) Try.func128 #[.agg #[.int .i64 a0_0, .bool a0_1, .int .i64 a0_2, .string a0_3]] ?_; (with_reducible refine (impl_Frame_bytes.calls a0_0 a0_1 a0_2 a0_3 t237 _ A8.out).mono ?_); rintro e w10 ⟨rfl, hb⟩; refine ⟨_, rfl, ?_⟩; replace BK235 := kb BK235 hb; replace HB := Aside0.mk (below_step (zb HB) hb); (try clear hb)))
  go_ret
  exact ⟨ze, zb HB⟩
 ·replace c7 := Bool.eq_false_iff.mpr c7
  subst c7
  rw [if_neg (show ¬ (false = true) by decide)] at H
  obtain rfl := Option.some.inj H
  go_wp2
  go_ret
  exact ⟨ze, zb HB⟩

-- NOT PRINTED: function 105 (impl_End_stream)

-- NOT PRINTED: function 80 (impl_End_widen)

-- NOT PRINTED: function 152 (Grow_Field)

/-! ### Concat_Field: function 118 -/
-- by hand
set_option maxHeartbeats 4000000 in
set_option maxRecDepth 100000 in
theorem Grow_Field_calls (n : Nat) (w : World) (hn : n ≤ 1000000000) : Calls Try.prog 152 #[.slice none 0 0, .int .i64 n] w fun e w' => ∃ v : Value, e = .returned v ∧ Kd.R k88 88 w' w.heap.size (fun _ => True) v [] ∧ Below w.heap.size w w' := by
  by_cases h0 : n = 0
  · subst h0
    go_enter Try.func152, Try.ntmps152
    go_wp2
    go_ret
    exact ⟨_, rfl, Kd.R_nil _ _ _ _ _, Below.refl _ _⟩
  · have h1 : 0 < n := by omega
    clear h0
    go_enter Try.func152, Try.ntmps152
    go_wp2_with (first | (at_builtin; refine Kd.R_append_zeros k88 (w0 := w) w.heap.size rfl (.tmp 20) (.tmp 21) 23 3 88 (.agg #[(.string ⟨#[]⟩), (.string ⟨#[]⟩), (.bool false)]) 40 rfl Try.underlying23 Try.underlying3 info88 rfl (by decide) (by omega) (.slice none 0 0) [] z88 n (fun _ => True) rfl rfl ?zM (fun _ _ => trivial) (Kd.R_nil _ _ _ _ _) (by omega) (Below.refl _ _) (Nat.le_refl _) ?zL ?_; (case zM => exact k88_mkM _ _ _ z88); (case zL => simp only [List.length_nil]; omega); intro v1 w1 ho hb hg hat; obtain ⟨A1, c1, rfl⟩ := Kd.R_slice ho; have N1 := Aside0.mk (Kd.R_take (m := 0) ho (by omega)); have N2 := Aside0.mk hb; clear ho hb hg hat))
    go_ret
    exact ⟨_, rfl, by simpa using N1.out, N2.out⟩
theorem flat_take_Field (l : List (List S88)) (i : Nat) (h : i < l.length) : (l.take (i + 1)).flatten = (l.take i).flatten ++ rd_L4 l (i : Int) := by
  have e : rd_L4 l (i : Int) = l[i] := by
    unfold rd_L4
    rw [Int.toNat_natCast, List.getD_eq_getElem?_getD, List.getElem?_eq_getElem h]
    rfl
  rw [List.take_succ_eq_append_getElem h, e, List.flatten_append]
  simp
theorem flat_le_Field (l : List (List S88)) (i : Nat) : (l.take i).flatten.length ≤ l.flatten.length := by
  have h : l.flatten.length = (l.take i).flatten.length + (l.drop i).flatten.length := by
    conv => lhs; rw [← List.take_append_drop i l]
    rw [List.flatten_append, List.length_append]
  omega
set_option maxHeartbeats 4000000 in
set_option maxRecDepth 100000 in
theorem Concat_Field_calls (A0 : Option Addr) (c0 : Nat) (l0 : List (List S88)) (w : World) (hr0 : Kd.C (Kd.slice 88 k88) w A0 l0.length l0) (hc0 : l0.length ≤ c0) (hl : l0.flatten.length ≤ 1000000000) (hn : l0.length ≤ 1000000000) :
    Calls Try.prog 118 #[.slice A0 l0.length c0] w fun e w' => ∃ v0_ : Value, e = .returned (v0_) ∧ Kd.R k88 88 w' w.heap.size (fun _ => True) v0_ l0.flatten ∧ Below w.heap.size w w' := by
  have HR0 := Aside0.mk hr0
  clear hr0
  go_enter Try.func118, Try.ntmps118
  go_wp2
  go_loopg [3, 11] (l0.length) (fun kq v3 v11 w' => ∃ (i z : Nat), v3 = .int .i64 z ∧ v11 = .int .i64 i ∧ Aside0 (z = (l0.take i).flatten.length) ∧ Aside0 (kq + i = l0.length) ∧ Aside0 (Below w.heap.size w w'))
  case atStart => exact ⟨0, 0, rfl, rfl, ⟨by simp⟩, ⟨by omega⟩, ⟨Below.refl _ _⟩⟩
  case round =>
    obtain ⟨i, z, rfl, rfl, HZ, HK, HB⟩ := hrel
    have hk := HK.out
    by_cases hj : i < l0.length
    · have hi0 : (0 : Int) ≤ (i : Int) := by omega
      have hi1 : (i : Int) < (l0.length : Int) := by omega
      obtain ⟨ad, A1, c1, e1, hcell, hlc, hC⟩ := at_L4 (Kd.C_below HR0.out HB.out) (i : Int) hi0 hi1
      rw [Int.toNat_natCast] at hcell
      subst e1
      have hz1 : z ≤ 1000000000 := by have h1 := flat_le_Field l0 i; have h2 := HZ.out; omega
      have HZ2 : Aside0 (z + (rd_L4 l0 (i : Int)).length = (l0.take (i + 1)).flatten.length) := ⟨by rw [flat_take_Field l0 i hj, List.length_append, HZ.out]⟩
      have hz2 : z + (rd_L4 l0 (i : Int)).length ≤ 1000000000 := by have h1 := flat_le_Field l0 (i + 1); have h2 := HZ2.out; omega
      generalize (rd_L4 l0 (i : Int)) = ys at *
      generalize hm : ys.length = m at *
      clear hC hm
      cases gk with
      | zero => omega
      | succ k1 =>
      clear hk hlc
      go_wp2
      go_roundg k1
      case measure => have := HK.out; omega
      case rel => exact ⟨i + 1, z + m, by go_num, by go_num, HZ2, ⟨by have := HK.out; omega⟩, HB⟩
    · have hltz : ¬ (i : Int) < (l0.length : Int) := by omega
      have e : i = l0.length := by omega
      have HZ3 : Aside0 (z = l0.flatten.length) := ⟨by have := HZ.out; rw [e, List.take_length] at this; exact this⟩
      have hz1 : z ≤ 1000000000 := by have := HZ3.out; omega
      clear hk hj e HZ
      go_wp2_with (go_at_call 152; refine (Grow_Field_calls z _ hz1).mono ?_; rintro e w1 ⟨v, rfl, ho, hb⟩; have HO := Aside0.mk (Kd.R_lower ho HB.out.size); have HB1 := Aside0.mk (below_step HB.out hb); clear ho hb)
      go_loopg [6, 27] (l0.length) (fun kq v6 v27 w' => ∃ (i : Nat) , v27 = .int .i64 i ∧ Aside0 (Kd.R k88 88 w' w.heap.size (fun _ => True) v6 (l0.take i).flatten) ∧ Aside0 (kq + i = l0.length) ∧ Aside0 (Below w.heap.size w w'))
      case atStart => exact ⟨0, rfl, ⟨by simpa using HO.out⟩, ⟨by omega⟩, HB1⟩
      case round =>
        obtain ⟨i, rfl, HO, HK, HB⟩ := hrel
        have hk := HK.out
        by_cases hj : i < l0.length
        · have hi0 : (0 : Int) ≤ (i : Int) := by omega
          have hi1 : (i : Int) < (l0.length : Int) := by omega
          obtain ⟨ad, A1, c1, e1, hcell, hlc, hC⟩ := at_L4 (Kd.C_below HR0.out HB.out) (i : Int) hi0 hi1
          rw [Int.toNat_natCast] at hcell
          subst e1
          have HF := Aside0.mk (flat_take_Field l0 i hj)
          have HL : Aside0 ((l0.take i).flatten.length + (rd_L4 l0 (i : Int)).length ≤ 1000000000) := ⟨by have h1 := flat_le_Field l0 (i + 1); have h2 := congrArg List.length HF.out; rw [List.length_append] at h2; omega⟩
          have HC := Aside0.mk hC
          have hbs := HB.out.size
          clear hC hlc
          cases gk with
          | zero => omega
          | succ k1 =>
          clear hk
          go_wp2_with (first | (at_builtin; refine Kd.R_append_rows k88 (w0 := w) w.heap.size rfl (.tmp 31) (.tmp 32) 23 88 (.agg #[(.string ⟨#[]⟩), (.string ⟨#[]⟩), (.bool false)]) 40 rfl Try.underlying23 info88 rfl (by decide) (by omega) _ (l0.take i).flatten (rd_L4 l0 (i : Int)) _ _ _ (fun _ => True) (fun _ => False) rfl rfl ?aO ?aR (fun _ _ h => h) (fun _ h => h.elim) ?aF ?aB ?aS ?aL ?_; (case aR => exact HC.out); (case aB => exact HB.out); (case aF => exact (fun _ _ => trivial)); (case aO => exact HO.out); (case aS => exact hbs); (case aL => have := HL.out; omega); intro v1 w1 ho hb hg hat; have N1 := Aside0.mk ho; have N2 := Aside0.mk hb; clear ho hb hg hat))
          go_roundg k1
          case measure => have := HK.out; omega
          case rel => exact ⟨i + 1, by go_num, ⟨by rw [HF.out]; exact N1.out⟩, ⟨by have := HK.out; omega⟩, N2⟩
        · have hltz : ¬ (i : Int) < (l0.length : Int) := by omega
          have e : i = l0.length := by omega
          have HO3 := Aside0.mk (show Kd.R k88 88 wr w.heap.size (fun _ => True) _ l0.flatten from by have := HO.out; rw [e, List.take_length] at this; exact this)
          clear hk hj e HO
          go_wp2
          go_ret
          exact ⟨_, rfl, HO3.out, HB.out⟩
def Concat_Field.f (l0 : List (List S88)) : Option (List (S88)) := if l0.flatten.length ≤ 1000000000 ∧ l0.length ≤ 1000000000 then some l0.flatten else none
theorem Concat_Field.calls (A0 : Option Addr) (c0 : Nat) (l0 : List (List S88)) (r : List (S88)) (w : World) (hr0 : Kd.C (Kd.slice 88 k88) w A0 l0.length l0) (hc0 : l0.length ≤ c0) (h : Concat_Field.f l0 = some r) :
    Calls Try.prog 118 #[.slice A0 l0.length c0] w fun e w' => ∃ v0_ : Value, e = .returned (v0_) ∧ Kd.R k88 88 w' w.heap.size (fun _ => True) v0_ r ∧ Below w.heap.size w w' := by
  unfold Concat_Field.f at h
  split at h
  case isFalse => cases h
  rename_i hl
  obtain rfl := Option.some.inj h
  exact Concat_Field_calls A0 c0 l0 w hr0 hc0 hl.1 hl.2

end Go.Proofs.Ytlpibelofcabhaa.PFnEndNew
