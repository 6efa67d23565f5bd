-- WRITTEN BY a turned print (wip/tools of the prover's repo)
import Derived.Test.YtlpibelofcabhaaPFnExactEndLeavex0
namespace Go.Proofs.Ytlpibelofcabhaa.PFnExactEndLeave
open Go.RowKit Go.Proofs.YtlpibelofcabhaaW.PrintWords Go.Proofs.YtlpibelofcabhaaW.PrintLast Go.Proofs.YtlpibelofcabhaaW.PrintMore Go.Proofs.Ytlpibelofcabhaa.Lm
attribute [local go_sem] max2_int min2_int max_two min_two max_three min_three max_four min_four   -- for this text's walks alone
set_option linter.unusedVariables false
set_option linter.unusedSimpArgs false

/-! ### impl_cloneFields: function 120 -/
-- by hand
/-- A row like the one that came in. -/
def impl_cloneFields.f (l0 : List (S88)) : Option (List (S88)) := if l0.length < 3518437208883 then some l0 else none
set_option maxHeartbeats 4000000 in
set_option maxRecDepth 100000 in
theorem impl_cloneFields.calls (A0 : Option Addr) (c0 : Nat) (l0 : List (S88)) (r : List (S88)) (w : World) (hr0 : Kd.C k88 w A0 l0.length l0) (hc0 : l0.length ≤ c0) (h : impl_cloneFields.f l0 = some r) :
    Calls Try.prog 120 #[.slice A0 l0.length c0] w fun e w' => ∃ v0_ : Value, e = .returned (v0_) ∧ Kd.R k88 88 w' w.heap.size (fun _ => True) v0_ r ∧ Below w.heap.size w w' := by
  unfold impl_cloneFields.f at h
  split at h
  case isFalse => cases h
  rename_i hl
  obtain rfl := Option.some.inj h
  clear h
  have HR0 := Aside0.mk hr0
  clear hr0
  go_enter Try.func120, Try.ntmps120
  go_wp2_with (first | (at_builtin; refine Kd.R_append_rows k88 (w0 := w) w.heap.size rfl (.const (.slice none 0 0)) (.tmp 3) 23 88 (.agg #[(.string ⟨#[]⟩), (.string ⟨#[]⟩), (.bool false)]) 40 rfl Try.underlying23 info88 rfl (by decide) (by omega) (.slice none 0 0) [] l0 _ _ _ (fun _ => True) (fun _ => False) rfl rfl ?aO ?aR (fun _ _ h => h) (fun _ h => h.elim) ?aF ?aB ?aS ?aL ?_; (case aR => exact HR0.out); (case aB => exact Below.refl _ _); (case aF => exact (fun _ _ => trivial)); (case aO => exact Kd.R_nil _ _ _ _ _); (case aS => exact Nat.le_refl _); (case aL => simp only [List.length_nil]; omega); intro v1 w1 ho hb hg hat; rw [List.nil_append] at ho; have N1 := Aside0.mk ho; have N2 := Aside0.mk hb; clear ho hb hg hat))
  go_ret
  exact ⟨_, rfl, N1.out, N2.out⟩

/-! ### impl_Table_clone: function 60 -/
-- thin
def impl_Table_clone.f (l0_0 : List (S88)) (a0_1 : Int) : Option ((List (S88)) × Int) := (impl_cloneFields.f l0_0).bind fun t443 => (some (t443, a0_1))
set_option maxHeartbeats 8000000 in
set_option maxRecDepth 100000 in
theorem impl_Table_clone.calls (A0_0 : Option Addr) (c0_0 : Nat) (l0_0 : List (S88)) (a0_1 : Int) (r1 : List (S88)) (r2 : Int) (w : World) (hr0_0 : Kd.C k88 w A0_0 l0_0.length l0_0) (hc0_0 : l0_0.length ≤ c0_0) (h : impl_Table_clone.f l0_0 a0_1 = some (r1, r2)) :
  Calls Try.prog 60 #[.agg #[.slice A0_0 l0_0.length c0_0, .int .i64 a0_1]] w fun e w' => ∃ v0_ : Value, e = .returned (.agg #[v0_, .int .i64 r2]) ∧ Kd.R k88 88 w' w.heap.size (fun _ => True) v0_ r1 ∧ Below w.heap.size w w' := by
 have hu25 := Try.underlying25
 have HR0_0 := Aside0.mk hr0_0
 have HC0_0 := Aside0.mk hc0_0
 clear hr0_0 hc0_0
 have HB := Aside0.mk (Below.refl w.heap.size w)
 have H : ((impl_cloneFields.f l0_0).bind fun t443 => (some (t443, a0_1))) = some (r1, r2) := h
 clear h
 obtain ⟨t443, A2, H⟩ := ob H
 (try dsimp only at H)
 simp only [Option.some.injEq, Prod.mk.injEq] at H
 obtain ⟨rfl, rfl⟩ := H
 go_enter Try.func60, Try.ntmps60
 try go_wp2_with (first | ((with_reducible refine gd 1 rfl ?_); refine bx (N := 1) (cs := #[.slice A0_0 l0_0.length c0_0, .int .i64 a0_1]) (t := 25) ?_; intro gb441 hg w3 hbox hb; have BK441 := Aside0.mk (hbox); have GW441 := gw HB hg; have GE441 := GW441; replace HB := Aside0.mk (below_step (zb HB) hb); clear hb hbox hg) | ((with_reducible refine gd 2 rfl ?_); refine bx (N := 2) (cs := #[.slice none 0 0, .int .i64 0]) (t := 25) ?_; intro gb442 hg w4 hbox hb; have BK442 := Aside0.mk (hbox); have GW442 := gw HB hg; have GE442 := GW442; replace HB := Aside0.mk (below_step (zb HB) hb); obtain ⟨NB441_442, NB442_441⟩ := nb BK441 hg; replace BK441 := kb BK441 hb; clear hb hbox hg))
 replace BK441 := Aside0.mk (blk_drew BK441.out)
 replace BK442 := Aside0.mk (blk_drew BK442.out)
 replace HB := Aside0.mk (below_drew1 HB.out)
 refine st 7 (b2 BK441) (fun hHeld => ?_)
 generalize w4.drew = w5 at BK441 BK442 HB hHeld ⊢
 refine pu 0 (some 3) (bm 7 1) rfl rfl ?_
 refine pu 3 (some 6) (bm 7 9) rfl rfl ?_
 refine tk 1 (some 4) (bm 7 11) rfl rfl hHeld ?_
 refine tk 4 (some 7) (bm 7 27) rfl rfl hHeld ?_
 refine one_ (i := 2) (N := some 5) (bm 7 31) rfl rfl (by kernel_rfl) (by decide) (fun K hK => ?_)
 refine gs Try.func120 #[.slice A0_0 l0_0.length c0_0] ?_
 with_reducible refine (impl_cloneFields.calls _ _ l0_0 t443 _ ?side1 ?side2 A2.out).mono ?_
 (case side1 => exact zc (Kd.C_below HR0_0.out HB.out))
 (case side2 => exact HC0_0.out)
 rintro e w6 ⟨v444, rfl, ho0, hb⟩
 refine ⟨_, rfl, ?_⟩
 have HO445 := Aside0.mk (Kd.R_lower ho0 (below_size (zb HB)))
 replace BK441 := kb BK441 hb
 replace BK442 := kb BK442 hb
 replace HB := Aside0.mk (below_step (zb HB) hb)
 (try clear hb)
 (try clear ho0)
 obtain ⟨Ao7, co7, eo7⟩ := Kd.R_slice HO445.out
 (first | subst eo7 | (injection eo7 with f1_ f2_ f3_; have f4_ := f1_.symm; have f5_ := f3_.symm; clear f1_ f2_ f3_; subst f4_; subst f5_))
 refine hK.out _ _ (b2 BK441) (fun hHeld => ?_)
 clear hK K
 refine nm ?_
 refine pu 5 (some 8) (bm 7 63) rfl rfl ?_
 refine one_ (i := 6) (N := none) (bm 7 127) rfl rfl (by kernel_rfl) (by decide) (fun K hK => ?_)
 have hs8 : w6.cell? ⟨gb442, 0, none⟩ = some (.slice none 0 0) := (blk_cell BK442.out 0).trans rfl
 have hfs8 := blk_frozen BK442.out 0
 have hns8_0 := NB441_442.out
 have hms8_0 := NB442_441.out
 have hs9 : w6.cell? ⟨gb442, 1, none⟩ = some (.int .i64 0) := (blk_cell BK442.out 1).trans rfl
 have hfs9 := blk_frozen BK442.out 1
 have hns9_0 := NB441_442.out
 have hms9_0 := NB442_441.out
 refine skip_ (w1 := ?_) (by rfl) rfl ?_ ?_
 rotate_left
 ·go_simp
  rfl
 refine hK.out _ _ ⟨((cell_far (p := ⟨gb442, _, none⟩) NB441_442.out _).trans (((cell_far (p := ⟨gb442, _, none⟩) NB441_442.out _).trans (hHeld.1)))), ((cell_far (p := ⟨gb442, _, none⟩) NB441_442.out _).trans (((cell_far (p := ⟨gb442, _, none⟩) NB441_442.out _).trans (hHeld.2))))⟩ (fun hHeld => ?_)
 clear hK K
 refine done_ (by kernel_rfl) ?_
 try go_wp2
 refine bodyPost_ret (results_cell_row rfl _ _ gb442 25 #[.slice Ao7 t443.length co7, .int .i64 a0_1] (0, 0) _ rfl (zp BK442) Try.underlying25 rfl (by kernel_rfl)) rfl ?_
 exact ⟨_, ze, (Kd.R_mono (ztR (Kd.R_types HO445.out BK442.out (by decide))) (fun _ hk => trivial)), zb HB⟩

/-! ### impl_End_clone: function 77 -/
-- thin
def impl_End_clone.l0 : Nat → List (S104) → List (S104) → Int → Int → Bool → List (S88) → Int → List (S88) → Int → ByteArray → List (S104) → Int → Int → List (S110) → Bool → Option (Bool × (List (S88)) × Int × (List (S88)) × Int × ByteArray × (List (S104)) × Int × Int × (List (S110)) × Bool)
 | 0, _, _, _, _, _, _, _, _, _, _, _, _, _, _, _ => none
 | k + 1, x3, x19, x20, x21, x447000, x447001, x447002, x447003, x447004, x447005, x447006, x447007, x447008, x447009, x447010 => if x21 < x20 then (if 0 ≤ x21 then (if x21 < (x19.length : Int) then ((impl_cloneFields.f ((rd_T104 x19 x21).f2)).bind fun t461 => ((impl_cloneFields.f ((rd_T104 x19 x21).f7)).bind fun t464 => (if x3.length < 1034834473200 then (impl_End_clone.l0 k (x3 ++ [(⟨(rd_T104 x19 x21).f0, (rd_T104 x19 x21).f1, t461, (rd_T104 x19 x21).f3, (rd_T104 x19 x21).f4, (rd_T104 x19 x21).f5, (rd_T104 x19 x21).f6, t464, (rd_T104 x19 x21).f8, (rd_T104 x19 x21).f9, (⟨(rd_T104 x19 x21).f10.f0, (rd_T104 x19 x21).f10.f1⟩ : S39)⟩ : S104)]) x19 x20 (wrap64 (x21 + 1)) x447000 x447001 x447002 x447003 x447004 x447005 x447006 x447007 x447008 x447009 x447010) else (none)))) else (none)) else (none)) else (some (x447000, x447001, x447002, x447003, x447004, x447005, x3, x447007, x447008, x447009, x447010))
def impl_End_clone.f (k : Nat) (a0_0 : Bool) (l0_1 : List (S88)) (a0_2 : Int) (l0_3 : List (S88)) (a0_4 : Int) (a0_5 : ByteArray) (l0_6 : List (S104)) (a0_7 : Int) (a0_8 : Int) (l0_9 : List (S110)) (a0_10 : Bool) : Option (Bool × (List (S88)) × Int × (List (S88)) × Int × ByteArray × (List (S104)) × Int × Int × (List (S110)) × Bool) := (impl_Table_clone.f l0_1 a0_2).bind fun bt448 => ((impl_Table_clone.f l0_3 a0_4).bind fun bt452 => (if ([] : List (S110)).length + l0_9.length < 3518437208883 then (impl_End_clone.l0 k ([] : List (S104)) l0_6 (l0_6.length : Int) 0 a0_0 bt448.1 bt448.2 bt452.1 bt452.2 a0_5 l0_6 a0_7 a0_8 (([] : List (S110)) ++ l0_9) a0_10) else (none)))
theorem impl_End_clone.mono_l : ∀ k, (∀ y0 y1 y2 y3 y4 y5 y6 y7 y8 y9 y10 y11 y12 y13 y14, LeO (impl_End_clone.l0 k y0 y1 y2 y3 y4 y5 y6 y7 y8 y9 y10 y11 y12 y13 y14) (impl_End_clone.l0 (k + 1) y0 y1 y2 y3 y4 y5 y6 y7 y8 y9 y10 y11 y12 y13 y14))
 | 0 => fun _ _ _ _ _ _ _ _ _ _ _ _ _ _ _ r h => by simp [impl_End_clone.l0] at h
 | k + 1 => by
  have ih0 := impl_End_clone.mono_l k
  ·intro y0 y1 y2 y3 y4 y5 y6 y7 y8 y9 y10 y11 y12 y13 y14
   unfold impl_End_clone.l0
   exact zm
theorem impl_End_clone.mono : ∀ a0 a1 a2 a3 a4 a5 a6 a7 a8 a9 a10 k, LeO (impl_End_clone.f k a0 a1 a2 a3 a4 a5 a6 a7 a8 a9 a10) (impl_End_clone.f (k + 1) a0 a1 a2 a3 a4 a5 a6 a7 a8 a9 a10) := by
 intro a0 a1 a2 a3 a4 a5 a6 a7 a8 a9 a10 k
 have ih0 := impl_End_clone.mono_l k
 unfold impl_End_clone.f
 exact zm
def impl_End_clone.T1 : Bool × List (List Nat × List Nat) := (true, [([], []), ([0], [0]), ([1], [1]), ([], []), ([3], [3]), ([4, 2], [4]), ([], []), ([6], [6]), ([7, 5], [7]), ([0, 1, 2, 3, 4, 6, 7], []), ([9, 2, 8, 0, 1, 2, 3, 4, 6, 7], [2, 9]), ([0, 1, 2, 3, 4, 5, 6, 7, 9, 10], []), ([11, 5, 10, 0, 1, 2, 3, 4, 5, 6, 7, 9, 10], [5, 11]), ([0, 1, 2, 3, 4, 5, 6, 7, 8, 9, 10, 11, 12], []), ([13, 8, 12, 0, 1, 2, 3, 4, 5, 6, 7, 8, 9, 10, 11, 12], [8, 13])])
def impl_End_clone.B1 : List Nat := [0, 1, 3, 0, 8, 31, 0, 64, 255, 223, 1023, 2047, 4095, 8191, 16383]
theorem impl_End_clone.tab1 : rtab .any (opsOf Try.f77 1) = impl_End_clone.T1 := by kernel_rfl
theorem impl_End_clone.bits1 : waitsOk impl_End_clone.T1.2 impl_End_clone.B1 = true := by kernel_rfl
def impl_End_clone.T6 : Bool × List (List Nat × List Nat) := (true, [([], []), ([0], [0]), ([1], [1]), ([], []), ([3], [3]), ([4, 2], [4]), ([0, 1, 2, 3, 4], []), ([6, 2, 5, 0, 1, 2, 3, 4], [2, 6]), ([0, 1, 2, 3, 4, 5, 6, 7], []), ([8, 5, 7, 0, 1, 2, 3, 4, 5, 6, 7], [5, 8])])
def impl_End_clone.B6 : List Nat := [0, 1, 3, 0, 8, 31, 31, 127, 255, 511]
theorem impl_End_clone.tab6 : rtab .any (opsOf Try.f77 6) = impl_End_clone.T6 := by kernel_rfl
theorem impl_End_clone.bits6 : waitsOk impl_End_clone.T6.2 impl_End_clone.B6 = true := by kernel_rfl
set_option maxHeartbeats 8000000 in
set_option maxRecDepth 100000 in
theorem impl_End_clone.calls (k : Nat) (a0_0 : Bool) (A0_1 : Option Addr) (c0_1 : Nat) (l0_1 : List (S88)) (a0_2 : Int) (A0_3 : Option Addr) (c0_3 : Nat) (l0_3 : List (S88)) (a0_4 : Int) (a0_5 : ByteArray) (A0_6 : Option Addr) (c0_6 : Nat) (l0_6 : List (S104)) (a0_7 : Int) (a0_8 : Int) (A0_9 : Option Addr) (c0_9 : Nat) (l0_9 : List (S110)) (a0_10 : Bool) (r1 : Bool) (r2 : List (S88)) (r3 : Int) (r4 : List (S88)) (r5 : Int) (r6 : ByteArray) (r7 : List (S104)) (r8 : Int) (r9 : Int) (r10 : List (S110)) (r11 : Bool) (w : World) (hr0_1 : Kd.C k88 w A0_1 l0_1.length l0_1) (hc0_1 : l0_1.length ≤ c0_1) (hr0_3 : Kd.C k88 w A0_3 l0_3.length l0_3) (hc0_3 : l0_3.length ≤ c0_3) (hr0_6 : Kd.C k104 w A0_6 l0_6.length l0_6) (hc0_6 : l0_6.length ≤ c0_6) (hr0_9 : Kd.C k110 w A0_9 l0_9.length l0_9) (hc0_9 : l0_9.length ≤ c0_9) (h : impl_End_clone.f k a0_0 l0_1 a0_2 l0_3 a0_4 a0_5 l0_6 a0_7 a0_8 l0_9 a0_10 = some (r1, r2, r3, r4, r5, r6, r7, r8, r9, r10, r11)) :
  Calls Try.prog 77 #[.agg #[.bool a0_0, .slice A0_1 l0_1.length c0_1, .int .i64 a0_2, .slice A0_3 l0_3.length c0_3, .int .i64 a0_4, .string a0_5, .slice A0_6 l0_6.length c0_6, .int .i64 a0_7, .int .i64 a0_8, .slice A0_9 l0_9.length c0_9, .bool a0_10]] w fun e w' => ∃ v1_ v3_ v6_ v9_ : Value, e = .returned (.agg #[.bool r1, v1_, .int .i64 r3, v3_, .int .i64 r5, .string r6, v6_, .int .i64 r8, .int .i64 r9, v9_, .bool r11]) ∧ Kd.R k88 88 w' w.heap.size (fun k_ => some k_ ≠ (v3_ : Value).ownBlock) v1_ r2 ∧ Kd.R k88 88 w' w.heap.size (fun k_ => some k_ ≠ (v1_ : Value).ownBlock) v3_ r4 ∧ Kd.S k104 104 w' w.heap.size (fun k_ => some k_ ≠ (v1_ : Value).ownBlock ∧ some k_ ≠ (v3_ : Value).ownBlock) v6_ r7 ∧ Kd.R k110 110 w' w.heap.size (fun _ => True) v9_ r10 ∧ Below w.heap.size w w' := by
 have hu42 := Try.underlying42
 have hu25 := Try.underlying25
 have hu104 := Try.underlying104
 have HR0_1 := Aside0.mk hr0_1
 have HC0_1 := Aside0.mk hc0_1
 clear hr0_1 hc0_1
 have HR0_3 := Aside0.mk hr0_3
 have HC0_3 := Aside0.mk hc0_3
 clear hr0_3 hc0_3
 have HR0_6 := Aside0.mk hr0_6
 have HC0_6 := Aside0.mk hc0_6
 clear hr0_6 hc0_6
 have HR0_9 := Aside0.mk hr0_9
 have HC0_9 := Aside0.mk hc0_9
 clear hr0_9 hc0_9
 have HB := Aside0.mk (Below.refl w.heap.size w)
 have H : ((impl_Table_clone.f l0_1 a0_2).bind fun bt448 => ((impl_Table_clone.f l0_3 a0_4).bind fun bt452 => (if ([] : List (S110)).length + l0_9.length < 3518437208883 then (impl_End_clone.l0 k ([] : List (S104)) l0_6 (l0_6.length : Int) 0 a0_0 bt448.1 bt448.2 bt452.1 bt452.2 a0_5 l0_6 a0_7 a0_8 (([] : List (S110)) ++ l0_9) a0_10) else (none)))) = some (r1, r2, r3, r4, r5, r6, r7, r8, r9, r10, r11) := h
 clear h
 obtain ⟨⟨t448, t451⟩, A2, H⟩ := ob H
 (try dsimp only at H)
 obtain ⟨⟨t452, t455⟩, A3, H⟩ := ob H
 (try dsimp only at H)
 replace H := sp H
 rcases H with ⟨c4, H⟩ | ⟨c4, H⟩
 ·skip
  have LMc4 := Aside0.mk c4
  clear c4
  obtain ⟨y456, hy456⟩ : ∃ y_ : List (S110), y_ = (([] : List (S110)) ++ l0_9) := ⟨_, rfl⟩
  replace H : (impl_End_clone.l0 k ([] : List (S104)) l0_6 (l0_6.length : Int) 0 a0_0 t448 t451 t452 t455 a0_5 l0_6 a0_7 a0_8 y456 a0_10) = some (r1, r2, r3, r4, r5, r6, r7, r8, r9, r10, r11) := by first | (rw [hy456]; with_reducible exact H) | (have H2_ := (Option.bind_some _ _).symm.trans H; rw [hy456]; with_reducible exact H2_) | (have H2_ := (Option.bind_some _ _).symm.trans H; with_reducible exact H2_) | with_reducible exact H | (rw [hy456]; exact H) | exact H
  have Ny456 := Aside0.mk hy456
  clear hy456
  have H' := Aside0.mk H
  clear H
  go_enter Try.func77, Try.ntmps77
  try go_wp2_with (first | ((with_reducible refine gd 1 rfl ?_); refine bx (N := 1) (cs := #[.bool a0_0, .slice A0_1 l0_1.length c0_1, .int .i64 a0_2, .slice A0_3 l0_3.length c0_3, .int .i64 a0_4, .string a0_5, .slice A0_6 l0_6.length c0_6, .int .i64 a0_7, .int .i64 a0_8, .slice A0_9 l0_9.length c0_9, .bool a0_10]) (t := 42) ?_; intro gb446 hg w5 hbox hb; have BK446 := Aside0.mk (hbox); have GW446 := gw HB hg; have GE446 := GW446; replace HB := Aside0.mk (below_step (zb HB) hb); clear hb hbox hg) | ((with_reducible refine gd 2 rfl ?_); refine bx (N := 2) (cs := #[.bool false, .slice none 0 0, .int .i64 0, .slice none 0 0, .int .i64 0, .string (⟨#[]⟩ : ByteArray), .slice none 0 0, .int .i64 0, .int .i64 0, .slice none 0 0, .bool false]) (t := 42) ?_; intro gb447 hg w6 hbox hb; have BK447 := Aside0.mk (hbox); have GW447 := gw HB hg; have GE447 := GW447; replace HB := Aside0.mk (below_step (zb HB) hb); obtain ⟨NB446_447, NB447_446⟩ := nb BK446 hg; replace BK446 := kb BK446 hb; clear hb hbox hg))
  replace BK446 := Aside0.mk (blk_drew BK446.out)
  replace BK447 := Aside0.mk (blk_drew BK447.out)
  replace HB := Aside0.mk (below_drew1 HB.out)
  refine start_ (n := 15) (S := fun w' => w'.cell? ⟨gb446, 0, none⟩ = some (.bool a0_0) ∧ w'.cell? ⟨gb446, 1, none⟩ = some (.slice A0_1 l0_1.length c0_1) ∧ w'.cell? ⟨gb446, 2, none⟩ = some (.int .i64 a0_2) ∧ w'.cell? ⟨gb446, 3, none⟩ = some (.slice A0_3 l0_3.length c0_3) ∧ w'.cell? ⟨gb446, 4, none⟩ = some (.int .i64 a0_4) ∧ w'.cell? ⟨gb446, 5, none⟩ = some (.string a0_5) ∧ w'.cell? ⟨gb446, 6, none⟩ = some (.slice A0_6 l0_6.length c0_6) ∧ w'.cell? ⟨gb446, 7, none⟩ = some (.int .i64 a0_7) ∧ w'.cell? ⟨gb446, 8, none⟩ = some (.int .i64 a0_8) ∧ w'.cell? ⟨gb446, 9, none⟩ = some (.slice A0_9 l0_9.length c0_9) ∧ w'.cell? ⟨gb446, 10, none⟩ = some (.bool a0_10)) (ds := [10, 12, 14]) #[false, false, false, false, false, false, false, false, false, false, false, false, false, false, false] (by kernel_rfl) rfl rfl ⟨(blk_cell BK446.out 0).trans rfl, (blk_cell BK446.out 1).trans rfl, (blk_cell BK446.out 2).trans rfl, (blk_cell BK446.out 3).trans rfl, (blk_cell BK446.out 4).trans rfl, (blk_cell BK446.out 5).trans rfl, (blk_cell BK446.out 6).trans rfl, (blk_cell BK446.out 7).trans rfl, (blk_cell BK446.out 8).trans rfl, (blk_cell BK446.out 9).trans rfl, (blk_cell BK446.out 10).trans rfl⟩ (fun hHeld => ?_); refine with_tabW impl_End_clone.tab1 impl_End_clone.bits1 (fun HT_ HW_ => ?_)
  generalize w6.drew = w7 at BK446 BK447 HB hHeld ⊢
  refine pu 0 (some 6) (bm 15 1) rfl rfl ?_
  refine pu 3 (some 9) (bm 15 9) rfl rfl ?_
  refine pu 6 (some 12) (bm 15 73) rfl rfl ?_
  refine tk 1 (some 7) (bm 15 75) rfl rfl hHeld ?_
  refine tk 4 (some 10) (bm 15 91) rfl rfl hHeld ?_
  refine tk 7 (some 13) (bm 15 219) rfl rfl hHeld ?_
  refine one_ (i := 2) (N := some 8) (bm 15 223) rfl rfl (one_of HT_.out (by kernel_rfl)) (by decide) (fun K hK => ?_)
  refine gs Try.func60 #[.agg #[.slice A0_1 l0_1.length c0_1, .int .i64 a0_2]] ?_
  with_reducible refine (impl_Table_clone.calls _ _ l0_1 a0_2 t448 t451 _ ?side1 ?side2 A2.out).mono ?_
  (case side1 => exact zc (Kd.C_below HR0_1.out HB.out))
  (case side2 => exact HC0_1.out)
  rintro e w8 ⟨v449, rfl, ho0, hb⟩
  refine ⟨_, rfl, ?_⟩
  have HO450 := Aside0.mk (Kd.R_lower ho0 (below_size (zb HB)))
  replace BK446 := kb BK446 hb
  replace BK447 := kb BK447 hb
  replace HB := Aside0.mk (below_step (zb HB) hb)
  (try clear hb)
  (try clear ho0)
  refine hK.out _ _ ⟨(blk_cell BK446.out 0).trans rfl, (blk_cell BK446.out 1).trans rfl, (blk_cell BK446.out 2).trans rfl, (blk_cell BK446.out 3).trans rfl, (blk_cell BK446.out 4).trans rfl, (blk_cell BK446.out 5).trans rfl, (blk_cell BK446.out 6).trans rfl, (blk_cell BK446.out 7).trans rfl, (blk_cell BK446.out 8).trans rfl, (blk_cell BK446.out 9).trans rfl, (blk_cell BK446.out 10).trans rfl⟩ (fun hHeld => ?_)
  clear hK K
  refine nm ?_
  refine pu 9 (some 15) (bm 15 735) rfl rfl ?_
  refine one_ (i := 5) (N := some 11) (bm 15 767) rfl rfl (one_of HT_.out (by kernel_rfl)) (by decide) (fun K hK => ?_)
  refine gs Try.func60 #[.agg #[.slice A0_3 l0_3.length c0_3, .int .i64 a0_4]] ?_
  with_reducible refine (impl_Table_clone.calls _ _ l0_3 a0_4 t452 t455 _ ?side1 ?side2 A3.out).mono ?_
  (case side1 => exact zc (Kd.C_below HR0_3.out HB.out))
  (case side2 => exact HC0_3.out)
  rintro e w9 ⟨v453, rfl, ho0, hb⟩
  refine ⟨_, rfl, ?_⟩
  have HO454 := Aside0.mk (Kd.R_lower (Kd.R_new' ho0 (Kd.R_lt (zr HO450))) (below_size (zb HB)))
  replace HO450 := Aside0.mk (Kd.R_elder' (zr HO450) (Kd.R_base ho0) hb)
  replace BK446 := kb BK446 hb
  replace BK447 := kb BK447 hb
  replace HB := Aside0.mk (below_step (zb HB) hb)
  (try clear hb)
  (try clear ho0)
  refine hK.out _ _ ⟨(blk_cell BK446.out 0).trans rfl, (blk_cell BK446.out 1).trans rfl, (blk_cell BK446.out 2).trans rfl, (blk_cell BK446.out 3).trans rfl, (blk_cell BK446.out 4).trans rfl, (blk_cell BK446.out 5).trans rfl, (blk_cell BK446.out 6).trans rfl, (blk_cell BK446.out 7).trans rfl, (blk_cell BK446.out 8).trans rfl, (blk_cell BK446.out 9).trans rfl, (blk_cell BK446.out 10).trans rfl⟩ (fun hHeld => ?_)
  clear hK K
  refine nm ?_
  refine one_ (i := 8) (N := some 14) (bm 15 1023) rfl rfl (one_of HT_.out (by kernel_rfl)) (by decide) (fun K hK => ?_)
  refine Kd.R_append_rows_step k110 (w0 := w) w.heap.size (by rfl) (.const (.slice none 0 0)) (.tmp 13) 40 110 (.agg #[(.int .i64 0), (.bool false), (.int .i64 0), (.string ⟨#[]⟩)]) 40 rfl Try.underlying40 info110 rfl (by decide) (by omega) (.slice none 0 0) ([] : List (S110)) l0_9 _ _ _ (fun _ => True) (fun _ => False) rfl rfl ?aO ?aR (fun _ _ h => h) (fun _ h => h.elim) ?aF ?aB ?aS ?aL ?_
  (case aR => exact zc (Kd.C_below HR0_9.out HB.out))
  (case aB => exact (zb HB))
  (case aF => exact (fun _ _ => trivial))
  (case aO => exact ((Kd.R_nil _ _ _ _ (fun _ => True))))
  (case aS => exact (below_size (zb HB)))
  (case aL => have := LMc4.out; omega)
  intro v457 w10 ho hb hg hat
  rw [← Ny456.out] at ho
  replace BK446 := Aside0.mk (blk_grown (zk BK446) hg (by simp [Value.ownBlock]))
  replace BK447 := Aside0.mk (blk_grown (zk BK447) hg (by simp [Value.ownBlock]))
  replace HO450 := Aside0.mk (Kd.R_step (zr HO450) (fun k_ _ h_ => hg.block k_ h_ (by simp [Value.ownBlock])))
  replace HO454 := Aside0.mk (Kd.R_step (zr HO454) (fun k_ _ h_ => hg.block k_ h_ (by simp [Value.ownBlock])))
  replace HB := Aside0.mk (hb)
  have HO458 := Aside0.mk (ho)
  clear ho hb hg hat
  obtain ⟨Ao11, co11, eo11⟩ := Kd.R_slice HO450.out
  (first | subst eo11 | (injection eo11 with f1_ f2_ f3_; have f4_ := f1_.symm; have f5_ := f3_.symm; clear f1_ f2_ f3_; subst f4_; subst f5_))
  obtain ⟨Ao14, co14, eo14⟩ := Kd.R_slice HO454.out
  (first | subst eo14 | (injection eo14 with f1_ f2_ f3_; have f4_ := f1_.symm; have f5_ := f3_.symm; clear f1_ f2_ f3_; subst f4_; subst f5_))
  obtain ⟨Ao17, co17, eo17⟩ := Kd.R_slice HO458.out
  (first | subst eo17 | (injection eo17 with f1_ f2_ f3_; have f4_ := f1_.symm; have f5_ := f3_.symm; clear f1_ f2_ f3_; subst f4_; subst f5_))
  refine hK.out _ _ ⟨(blk_cell BK446.out 0).trans rfl, (blk_cell BK446.out 1).trans rfl, (blk_cell BK446.out 2).trans rfl, (blk_cell BK446.out 3).trans rfl, (blk_cell BK446.out 4).trans rfl, (blk_cell BK446.out 5).trans rfl, (blk_cell BK446.out 6).trans rfl, (blk_cell BK446.out 7).trans rfl, (blk_cell BK446.out 8).trans rfl, (blk_cell BK446.out 9).trans rfl, (blk_cell BK446.out 10).trans rfl⟩ (fun hHeld => ?_)
  clear hK K
  refine nm ?_
  refine last_ (i := 10) (N := none) #[true, true, true, true, true, true, true, true, true, true, true, false, false, false, false] rfl rfl (one_of HT_.out (by kernel_rfl)) (by decide) (fun K hK => ?_)
  have hs12 : w10.cell? ⟨gb446, 1, none⟩ = some (.slice A0_1 l0_1.length c0_1) := (blk_cell BK446.out 1).trans rfl
  have hfs12 := blk_frozen BK446.out 1
  have hns12_1 := NB447_446.out
  have hms12_1 := NB446_447.out
  have hs13 : w10.cell? ⟨gb446, 2, none⟩ = some (.int .i64 a0_2) := (blk_cell BK446.out 2).trans rfl
  have hfs13 := blk_frozen BK446.out 2
  have hns13_1 := NB447_446.out
  have hms13_1 := NB446_447.out
  refine skip_ (w1 := ?_) (by rfl) rfl ?_ ?_
  rotate_left
  ·go_simp
   rfl
  refine hK.out _ _ ?_
  clear hK K
  refine pu 11 (some 16) (bm 15 4095) rfl rfl ?_
  refine last_ (i := 12) (N := none) #[true, true, true, true, true, true, true, true, true, true, true, true, true, false, false] rfl rfl (one_of HT_.out (by kernel_rfl)) (by decide) (fun K hK => ?_)
  have hs15 : w10.cell? ⟨gb446, 3, none⟩ = some (.slice A0_3 l0_3.length c0_3) := (blk_cell BK446.out 3).trans rfl
  have hfs15 := blk_frozen BK446.out 3
  have hns15_1 := NB447_446.out
  have hms15_1 := NB446_447.out
  have hs16 : w10.cell? ⟨gb446, 4, none⟩ = some (.int .i64 a0_4) := (blk_cell BK446.out 4).trans rfl
  have hfs16 := blk_frozen BK446.out 4
  have hns16_1 := NB447_446.out
  have hms16_1 := NB446_447.out
  refine skip_ (w1 := ?_) (by rfl) rfl ?_ ?_
  rotate_left
  ·go_simp
   rfl
  refine hK.out _ _ ?_
  clear hK K
  refine pu 13 (some 17) (bm 15 16383) rfl rfl ?_
  refine last_ (i := 14) (N := none) #[true, true, true, true, true, true, true, true, true, true, true, true, true, true, true] rfl rfl (one_of HT_.out (by kernel_rfl)) (by decide) (fun K hK => ?_)
  have hs18 : w10.cell? ⟨gb446, 9, none⟩ = some (.slice A0_9 l0_9.length c0_9) := (blk_cell BK446.out 9).trans rfl
  have hfs18 := blk_frozen BK446.out 9
  have hns18_1 := NB447_446.out
  have hms18_1 := NB446_447.out
  refine skip_ (w1 := ?_) (by rfl) rfl ?_ ?_
  rotate_left
  ·go_simp
   rfl
  refine hK.out _ _ ?_
  clear hK K
  refine done_ (done_of HT_.out (by kernel_rfl)) ?_
  have hnb19 := NB446_447.out
  have hnc19 := NB447_446.out
  obtain ⟨hcz20_0, hcz20_1, hcz20_2, hcz20_3, hcz20_4, hcz20_5, hcz20_6, hcz20_7, hcz20_8, hcz20_9, hcz20_10, hfz20_0, hfz20_1, hfz20_2, hfz20_3, hfz20_4, hfz20_5, hfz20_6, hfz20_7, hfz20_8, hfz20_9, hfz20_10⟩ := c11 BK446
  try go_wp2
  go_loopg [3, 21] k (fun kq v3 v21 w' => ∃ (x3_1 : List (S104)) (x21_1 : Int), v21 = .int .i64 x21_1 ∧ Aside0 (impl_End_clone.l0 kq x3_1 l0_6 (l0_6.length : Int) x21_1 a0_0 t448 t451 t452 t455 a0_5 l0_6 a0_7 a0_8 y456 a0_10 = some (r1, r2, r3, r4, r5, r6, r7, r8, r9, r10, r11)) ∧ Aside0 (kq ≤ k) ∧ Aside0 (Kd.S k104 104 w' w.heap.size (fun k_ => some k_ ≠ ((.slice Ao11 t448.length co11) : Value).ownBlock ∧ some k_ ≠ ((.slice Ao14 t452.length co14) : Value).ownBlock) v3 x3_1) ∧ Aside0 (Kd.R k88 88 w' w.heap.size (fun k_ => some k_ ≠ ((.slice Ao14 t452.length co14) : Value).ownBlock) (.slice Ao11 t448.length co11) t448) ∧ Aside0 (Kd.R k88 88 w' w.heap.size (fun k_ => some k_ ≠ ((.slice Ao11 t448.length co11) : Value).ownBlock) (.slice Ao14 t452.length co14) t452) ∧ Aside0 (Kd.R k110 110 w' w.heap.size (fun _ => True) (.slice Ao17 y456.length co17) y456) ∧ Aside0 (w'.heap[gb446]? = some (.cells #[.bool a0_0, (.slice Ao11 t448.length co11), .int .i64 t451, (.slice Ao14 t452.length co14), .int .i64 t455, .string a0_5, (.slice A0_6 l0_6.length c0_6), .int .i64 a0_7, .int .i64 a0_8, (.slice Ao17 y456.length co17), .bool a0_10] 42 (0, 0))) ∧ Aside0 (w'.heap[gb447]? = some (.cells #[.bool false, (.slice none 0 0), .int .i64 0, (.slice none 0 0), .int .i64 0, .string (⟨#[]⟩ : ByteArray), (.slice none 0 0), .int .i64 0, .int .i64 0, (.slice none 0 0), .bool false] 42 (0, 0))) ∧ Aside0 (Below w.heap.size w w'))
  case atStart => exact ⟨(([] : List (S104))), (0), zs, H', ⟨Nat.le_refl _⟩, ⟨by first | exact Kd.S_nil _ _ _ _ _ | exact Kd.N_nil _ _ _ _ _ | exact Kd.V_nil _ _ _ _ _ | exact Kd.Q_nil _ _ _ _ _ | exact Kd.R_nil _ _ _ _ _⟩, ⟨(Kd.R_mono (ztR (Kd.R_types HO450.out BK446.out (by decide))) (fun _ hk => hk.1.2))⟩, ⟨(Kd.R_mono (ztR (Kd.R_types HO454.out BK446.out (by decide))) (fun _ hk => hk.1.2))⟩, ⟨(Kd.R_mono (ztR (Kd.R_types HO458.out BK446.out (by decide))) (fun _ hk => trivial))⟩, ⟨zp BK446⟩, ⟨zp BK447⟩, ⟨zb HB⟩⟩
  case round =>
   clear H'
   try clear c1
   try clear p2
   try clear c4
   try clear c6
   try clear c7
   try clear c19
   try clear hcz20_0
   try clear hcz20_1
   try clear hcz20_10
   try clear hcz20_2
   try clear hcz20_3
   try clear hcz20_4
   try clear hcz20_5
   try clear hcz20_6
   try clear hcz20_7
   try clear hcz20_8
   try clear hcz20_9
   try clear hfz20_0
   try clear hfz20_1
   try clear hfz20_10
   try clear hfz20_2
   try clear hfz20_3
   try clear hfz20_4
   try clear hfz20_5
   try clear hfz20_6
   try clear hfz20_7
   try clear hfz20_8
   try clear hfz20_9
   obtain ⟨x3_1, x21_1, rfl, HA, HK1, HO_3, HO_447001, HO_447003, HO_447009, BK446, BK447, HB⟩ := hrel
   cases gk with
   | zero => exact absurd HA.out (by simp [impl_End_clone.l0])
   | succ k1 =>
    have H := HA.out
    clear HA
    simp only [impl_End_clone.l0] at H
    by_cases c21 : x21_1 < (l0_6.length : Int)
    ·rw [if_pos c21] at H
     have c21b0 := decide_eq_true c21
     clear c21
     by_cases c22 : 0 ≤ x21_1
     ·rw [if_pos c22] at H
      have c22b0 := decide_eq_true c22
      clear c22
      by_cases c23 : x21_1 < (l0_6.length : Int)
      ·rw [if_pos c23] at H
       have c23b0 := decide_eq_true c23
       clear c23
       obtain ⟨t461, A24, H⟩ := ob H
       (try dsimp only at H)
       obtain ⟨t464, A25, H⟩ := ob H
       (try dsimp only at H)
       by_cases c26 : x3_1.length < 1034834473200
       ·rw [if_pos c26] at H
        have LMc26 := Aside0.mk c26
        clear c26
        obtain ⟨y467, hy467⟩ : ∃ y_ : List (S104), y_ = (x3_1 ++ [(⟨(rd_T104 l0_6 x21_1).f0, (rd_T104 l0_6 x21_1).f1, t461, (rd_T104 l0_6 x21_1).f3, (rd_T104 l0_6 x21_1).f4, (rd_T104 l0_6 x21_1).f5, (rd_T104 l0_6 x21_1).f6, t464, (rd_T104 l0_6 x21_1).f8, (rd_T104 l0_6 x21_1).f9, (⟨(rd_T104 l0_6 x21_1).f10.f0, (rd_T104 l0_6 x21_1).f10.f1⟩ : S39)⟩ : S104)]) := ⟨_, rfl⟩
        replace H : (impl_End_clone.l0 k1 y467 l0_6 (l0_6.length : Int) (wrap64 (x21_1 + 1)) a0_0 t448 t451 t452 t455 a0_5 l0_6 a0_7 a0_8 y456 a0_10) = some (r1, r2, r3, r4, r5, r6, r7, r8, r9, r10, r11) := by first | (rw [hy467]; with_reducible exact H) | (have H2_ := (Option.bind_some _ _).symm.trans H; rw [hy467]; with_reducible exact H2_) | (have H2_ := (Option.bind_some _ _).symm.trans H; with_reducible exact H2_) | with_reducible exact H | (rw [hy467]; exact H) | exact H
        have Ny467 := Aside0.mk hy467
        clear hy467
        have H' := Aside0.mk H
        clear H
        have p459 : 0 ≤ (x21_1 : Int) := of_decide_eq_true za
        have q459 : x21_1 < (l0_6.length : Int) := of_decide_eq_true za
        obtain ⟨ad459, A459_2, c459_2, A459_7, c459_7, e459, hx459_0, hx459_1, hx459_2, hx459_3, hx459_4, hx459_5, hx459_6, hx459_7, hx459_8, hx459_9, hx459_10, hx459_11, hl459_2, hi459_2, hl459_7, hi459_7⟩ := at_T104 HR0_6.out x21_1 p459 q459
        cases e459
        replace hx459_0 := cb0 hx459_0 HB
        replace hx459_1 := cb0 hx459_1 HB
        replace hx459_2 := cb0 hx459_2 HB
        replace hx459_3 := cb0 hx459_3 HB
        replace hx459_4 := cb0 hx459_4 HB
        replace hx459_5 := cb0 hx459_5 HB
        replace hx459_6 := cb0 hx459_6 HB
        replace hx459_7 := cb0 hx459_7 HB
        replace hx459_8 := cb0 hx459_8 HB
        replace hx459_9 := cb0 hx459_9 HB
        replace hx459_10 := cb0 hx459_10 HB
        replace hx459_11 := cb0 hx459_11 HB
        have HR459_2 := Aside0.mk hi459_2
        have HC459_2 := Aside0.mk hl459_2
        clear hi459_2 hl459_2
        have HR459_7 := Aside0.mk hi459_7
        have HC459_7 := Aside0.mk hl459_7
        clear hi459_7 hl459_7
        replace p459 := eq_true p459
        replace q459 := eq_true q459
        try go_wp2_with (first | ((with_reducible refine gd 5 rfl ?_); refine bx (N := 5) (cs := #[.int .i64 0, .int .i64 0, .slice none 0 0, .string (⟨#[]⟩ : ByteArray), .bool false, .bool false, .int .i64 0, .slice none 0 0, .string (⟨#[]⟩ : ByteArray), .bool false, .int .i64 0, .int .i64 0]) (t := 104) ?_; intro gb460 hg w27 hbox hb; replace HO_3 := Aside0.mk (Kd.S_below (Kd.S_elderB (by (with_reducible repeat (first | apply Kd.S_alloc | apply Kd.S_drewN | apply Kd.S_drew)); exact HO_3.out) gb460 (Nat.le_of_eq hg.symm)) hb); replace HO_447001 := Aside0.mk (Kd.R_below (zr HO_447001) hb); replace HO_447003 := Aside0.mk (Kd.R_below (zr HO_447003) hb); replace HO_447009 := Aside0.mk (Kd.R_below (zr HO_447009) hb); have BK460 := Aside0.mk (hbox); have GW460 := gw HB hg; have GE460 := GW460; replace HB := Aside0.mk (below_step (zb HB) hb); obtain ⟨NB446_460, NB460_446⟩ := nb BK446 hg; replace BK446 := kb BK446 hb; obtain ⟨NB447_460, NB460_447⟩ := nb BK447 hg; replace BK447 := kb BK447 hb; clear hb hbox hg; have hnb28 := NB460_446.out; have hnc28 := NB446_460.out; have hnb29 := NB460_447.out; have hnc29 := NB447_460.out; obtain ⟨hcz30_0, hcz30_1, hcz30_2, hcz30_3, hcz30_4, hcz30_5, hcz30_6, hcz30_7, hcz30_8, hcz30_9, hcz30_10, hcz30_11, hfz30_0, hfz30_1, hfz30_2, hfz30_3, hfz30_4, hfz30_5, hfz30_6, hfz30_7, hfz30_8, hfz30_9, hfz30_10, hfz30_11⟩ := c12 BK460))
        have n0_ : Aside0 (Kd.S k104 104 ((((((((((((w27.setCell ⟨gb460, 0, none⟩ (.int .i64 ((rd_T104 l0_6 x21_1).f0))).setCell ⟨gb460, 1, none⟩ (.int .i64 ((rd_T104 l0_6 x21_1).f1))).setCell ⟨gb460, 2, none⟩ (.slice A459_2 ((rd_T104 l0_6 x21_1).f2).length c459_2)).setCell ⟨gb460, 3, none⟩ (.string ((rd_T104 l0_6 x21_1).f3))).setCell ⟨gb460, 4, none⟩ (.bool ((rd_T104 l0_6 x21_1).f4))).setCell ⟨gb460, 5, none⟩ (.bool ((rd_T104 l0_6 x21_1).f5))).setCell ⟨gb460, 6, none⟩ (.int .i64 ((rd_T104 l0_6 x21_1).f6))).setCell ⟨gb460, 7, none⟩ (.slice A459_7 ((rd_T104 l0_6 x21_1).f7).length c459_7)).setCell ⟨gb460, 8, none⟩ (.string ((rd_T104 l0_6 x21_1).f8))).setCell ⟨gb460, 9, none⟩ (.bool ((rd_T104 l0_6 x21_1).f9))).setCell ⟨gb460, 10, none⟩ (.int .i64 ((rd_T104 l0_6 x21_1).f10.f0))).setCell ⟨gb460, 11, none⟩ (.int .i64 ((rd_T104 l0_6 x21_1).f10.f1))) w.heap.size (fun k_ => some k_ ≠ (.slice Ao11 t448.length co11 : Value).ownBlock ∧ some k_ ≠ (.slice Ao14 t452.length co14 : Value).ownBlock ∧ k_ ≠ gb460) u3 x3_1) := ⟨by (with_reducible repeat (first | apply Kd.S_alloc | apply Kd.S_drewN | apply Kd.S_drew)); exact Kd.S_mono (ztS (Kd.S_mono HO_3.out (fun k_ hk => (⟨hk, hk.2⟩ : _ ∧ k_ ≠ gb460)))) (fun _ hk => ⟨hk.1.1.1, ⟨hk.1.1.2, hk.1.2⟩⟩)⟩
        have n1_ : Aside0 (Kd.R k88 88 ((((((((((((w27.setCell ⟨gb460, 0, none⟩ (.int .i64 ((rd_T104 l0_6 x21_1).f0))).setCell ⟨gb460, 1, none⟩ (.int .i64 ((rd_T104 l0_6 x21_1).f1))).setCell ⟨gb460, 2, none⟩ (.slice A459_2 ((rd_T104 l0_6 x21_1).f2).length c459_2)).setCell ⟨gb460, 3, none⟩ (.string ((rd_T104 l0_6 x21_1).f3))).setCell ⟨gb460, 4, none⟩ (.bool ((rd_T104 l0_6 x21_1).f4))).setCell ⟨gb460, 5, none⟩ (.bool ((rd_T104 l0_6 x21_1).f5))).setCell ⟨gb460, 6, none⟩ (.int .i64 ((rd_T104 l0_6 x21_1).f6))).setCell ⟨gb460, 7, none⟩ (.slice A459_7 ((rd_T104 l0_6 x21_1).f7).length c459_7)).setCell ⟨gb460, 8, none⟩ (.string ((rd_T104 l0_6 x21_1).f8))).setCell ⟨gb460, 9, none⟩ (.bool ((rd_T104 l0_6 x21_1).f9))).setCell ⟨gb460, 10, none⟩ (.int .i64 ((rd_T104 l0_6 x21_1).f10.f0))).setCell ⟨gb460, 11, none⟩ (.int .i64 ((rd_T104 l0_6 x21_1).f10.f1))) w.heap.size (fun k_ => some k_ ≠ (.slice Ao14 t452.length co14 : Value).ownBlock) (.slice Ao11 t448.length co11) t448) := ⟨(Kd.R_mono (ztR (Kd.R_types HO_447001.out BK460.out (by decide))) (fun _ hk => hk.1))⟩
        have n2_ : Aside0 (Kd.R k88 88 ((((((((((((w27.setCell ⟨gb460, 0, none⟩ (.int .i64 ((rd_T104 l0_6 x21_1).f0))).setCell ⟨gb460, 1, none⟩ (.int .i64 ((rd_T104 l0_6 x21_1).f1))).setCell ⟨gb460, 2, none⟩ (.slice A459_2 ((rd_T104 l0_6 x21_1).f2).length c459_2)).setCell ⟨gb460, 3, none⟩ (.string ((rd_T104 l0_6 x21_1).f3))).setCell ⟨gb460, 4, none⟩ (.bool ((rd_T104 l0_6 x21_1).f4))).setCell ⟨gb460, 5, none⟩ (.bool ((rd_T104 l0_6 x21_1).f5))).setCell ⟨gb460, 6, none⟩ (.int .i64 ((rd_T104 l0_6 x21_1).f6))).setCell ⟨gb460, 7, none⟩ (.slice A459_7 ((rd_T104 l0_6 x21_1).f7).length c459_7)).setCell ⟨gb460, 8, none⟩ (.string ((rd_T104 l0_6 x21_1).f8))).setCell ⟨gb460, 9, none⟩ (.bool ((rd_T104 l0_6 x21_1).f9))).setCell ⟨gb460, 10, none⟩ (.int .i64 ((rd_T104 l0_6 x21_1).f10.f0))).setCell ⟨gb460, 11, none⟩ (.int .i64 ((rd_T104 l0_6 x21_1).f10.f1))) w.heap.size (fun k_ => some k_ ≠ (.slice Ao11 t448.length co11 : Value).ownBlock) (.slice Ao14 t452.length co14) t452) := ⟨(Kd.R_mono (ztR (Kd.R_types HO_447003.out BK460.out (by decide))) (fun _ hk => hk.1))⟩
        have n3_ : Aside0 (Kd.R k110 110 ((((((((((((w27.setCell ⟨gb460, 0, none⟩ (.int .i64 ((rd_T104 l0_6 x21_1).f0))).setCell ⟨gb460, 1, none⟩ (.int .i64 ((rd_T104 l0_6 x21_1).f1))).setCell ⟨gb460, 2, none⟩ (.slice A459_2 ((rd_T104 l0_6 x21_1).f2).length c459_2)).setCell ⟨gb460, 3, none⟩ (.string ((rd_T104 l0_6 x21_1).f3))).setCell ⟨gb460, 4, none⟩ (.bool ((rd_T104 l0_6 x21_1).f4))).setCell ⟨gb460, 5, none⟩ (.bool ((rd_T104 l0_6 x21_1).f5))).setCell ⟨gb460, 6, none⟩ (.int .i64 ((rd_T104 l0_6 x21_1).f6))).setCell ⟨gb460, 7, none⟩ (.slice A459_7 ((rd_T104 l0_6 x21_1).f7).length c459_7)).setCell ⟨gb460, 8, none⟩ (.string ((rd_T104 l0_6 x21_1).f8))).setCell ⟨gb460, 9, none⟩ (.bool ((rd_T104 l0_6 x21_1).f9))).setCell ⟨gb460, 10, none⟩ (.int .i64 ((rd_T104 l0_6 x21_1).f10.f0))).setCell ⟨gb460, 11, none⟩ (.int .i64 ((rd_T104 l0_6 x21_1).f10.f1))) w.heap.size (fun _ => True) (.slice Ao17 y456.length co17) y456) := ⟨(Kd.R_mono (ztR (Kd.R_types HO_447009.out BK460.out (by decide))) (fun _ hk => trivial))⟩
        have n4_ : Aside0 (((((((((((((w27.setCell ⟨gb460, 0, none⟩ (.int .i64 ((rd_T104 l0_6 x21_1).f0))).setCell ⟨gb460, 1, none⟩ (.int .i64 ((rd_T104 l0_6 x21_1).f1))).setCell ⟨gb460, 2, none⟩ (.slice A459_2 ((rd_T104 l0_6 x21_1).f2).length c459_2)).setCell ⟨gb460, 3, none⟩ (.string ((rd_T104 l0_6 x21_1).f3))).setCell ⟨gb460, 4, none⟩ (.bool ((rd_T104 l0_6 x21_1).f4))).setCell ⟨gb460, 5, none⟩ (.bool ((rd_T104 l0_6 x21_1).f5))).setCell ⟨gb460, 6, none⟩ (.int .i64 ((rd_T104 l0_6 x21_1).f6))).setCell ⟨gb460, 7, none⟩ (.slice A459_7 ((rd_T104 l0_6 x21_1).f7).length c459_7)).setCell ⟨gb460, 8, none⟩ (.string ((rd_T104 l0_6 x21_1).f8))).setCell ⟨gb460, 9, none⟩ (.bool ((rd_T104 l0_6 x21_1).f9))).setCell ⟨gb460, 10, none⟩ (.int .i64 ((rd_T104 l0_6 x21_1).f10.f0))).setCell ⟨gb460, 11, none⟩ (.int .i64 ((rd_T104 l0_6 x21_1).f10.f1))).heap[gb446]? = some (.cells #[.bool a0_0, .slice Ao11 t448.length co11, .int .i64 t451, .slice Ao14 t452.length co14, .int .i64 t455, .string a0_5, .slice (some ad459) l0_6.length c0_6, .int .i64 a0_7, .int .i64 a0_8, .slice Ao17 y456.length co17, .bool a0_10] 42 (0, 0))) := ⟨zp BK446⟩
        have n5_ : Aside0 (((((((((((((w27.setCell ⟨gb460, 0, none⟩ (.int .i64 ((rd_T104 l0_6 x21_1).f0))).setCell ⟨gb460, 1, none⟩ (.int .i64 ((rd_T104 l0_6 x21_1).f1))).setCell ⟨gb460, 2, none⟩ (.slice A459_2 ((rd_T104 l0_6 x21_1).f2).length c459_2)).setCell ⟨gb460, 3, none⟩ (.string ((rd_T104 l0_6 x21_1).f3))).setCell ⟨gb460, 4, none⟩ (.bool ((rd_T104 l0_6 x21_1).f4))).setCell ⟨gb460, 5, none⟩ (.bool ((rd_T104 l0_6 x21_1).f5))).setCell ⟨gb460, 6, none⟩ (.int .i64 ((rd_T104 l0_6 x21_1).f6))).setCell ⟨gb460, 7, none⟩ (.slice A459_7 ((rd_T104 l0_6 x21_1).f7).length c459_7)).setCell ⟨gb460, 8, none⟩ (.string ((rd_T104 l0_6 x21_1).f8))).setCell ⟨gb460, 9, none⟩ (.bool ((rd_T104 l0_6 x21_1).f9))).setCell ⟨gb460, 10, none⟩ (.int .i64 ((rd_T104 l0_6 x21_1).f10.f0))).setCell ⟨gb460, 11, none⟩ (.int .i64 ((rd_T104 l0_6 x21_1).f10.f1))).heap[gb447]? = some (.cells #[.bool false, .slice none 0 0, .int .i64 0, .slice none 0 0, .int .i64 0, .string (⟨#[]⟩ : ByteArray), .slice none 0 0, .int .i64 0, .int .i64 0, .slice none 0 0, .bool false] 42 (0, 0))) := ⟨zp BK447⟩
        have n6_ : Aside0 (((((((((((((w27.setCell ⟨gb460, 0, none⟩ (.int .i64 ((rd_T104 l0_6 x21_1).f0))).setCell ⟨gb460, 1, none⟩ (.int .i64 ((rd_T104 l0_6 x21_1).f1))).setCell ⟨gb460, 2, none⟩ (.slice A459_2 ((rd_T104 l0_6 x21_1).f2).length c459_2)).setCell ⟨gb460, 3, none⟩ (.string ((rd_T104 l0_6 x21_1).f3))).setCell ⟨gb460, 4, none⟩ (.bool ((rd_T104 l0_6 x21_1).f4))).setCell ⟨gb460, 5, none⟩ (.bool ((rd_T104 l0_6 x21_1).f5))).setCell ⟨gb460, 6, none⟩ (.int .i64 ((rd_T104 l0_6 x21_1).f6))).setCell ⟨gb460, 7, none⟩ (.slice A459_7 ((rd_T104 l0_6 x21_1).f7).length c459_7)).setCell ⟨gb460, 8, none⟩ (.string ((rd_T104 l0_6 x21_1).f8))).setCell ⟨gb460, 9, none⟩ (.bool ((rd_T104 l0_6 x21_1).f9))).setCell ⟨gb460, 10, none⟩ (.int .i64 ((rd_T104 l0_6 x21_1).f10.f0))).setCell ⟨gb460, 11, none⟩ (.int .i64 ((rd_T104 l0_6 x21_1).f10.f1))).heap[gb460]? = some (.cells #[.int .i64 ((rd_T104 l0_6 x21_1).f0), .int .i64 ((rd_T104 l0_6 x21_1).f1), .slice A459_2 ((rd_T104 l0_6 x21_1).f2).length c459_2, .string ((rd_T104 l0_6 x21_1).f3), .bool ((rd_T104 l0_6 x21_1).f4), .bool ((rd_T104 l0_6 x21_1).f5), .int .i64 ((rd_T104 l0_6 x21_1).f6), .slice A459_7 ((rd_T104 l0_6 x21_1).f7).length c459_7, .string ((rd_T104 l0_6 x21_1).f8), .bool ((rd_T104 l0_6 x21_1).f9), .int .i64 ((rd_T104 l0_6 x21_1).f10.f0), .int .i64 ((rd_T104 l0_6 x21_1).f10.f1)] 104 (0, 0))) := ⟨zp BK460⟩
        have n7_ : Aside0 (Below w.heap.size w ((((((((((((w27.setCell ⟨gb460, 0, none⟩ (.int .i64 ((rd_T104 l0_6 x21_1).f0))).setCell ⟨gb460, 1, none⟩ (.int .i64 ((rd_T104 l0_6 x21_1).f1))).setCell ⟨gb460, 2, none⟩ (.slice A459_2 ((rd_T104 l0_6 x21_1).f2).length c459_2)).setCell ⟨gb460, 3, none⟩ (.string ((rd_T104 l0_6 x21_1).f3))).setCell ⟨gb460, 4, none⟩ (.bool ((rd_T104 l0_6 x21_1).f4))).setCell ⟨gb460, 5, none⟩ (.bool ((rd_T104 l0_6 x21_1).f5))).setCell ⟨gb460, 6, none⟩ (.int .i64 ((rd_T104 l0_6 x21_1).f6))).setCell ⟨gb460, 7, none⟩ (.slice A459_7 ((rd_T104 l0_6 x21_1).f7).length c459_7)).setCell ⟨gb460, 8, none⟩ (.string ((rd_T104 l0_6 x21_1).f8))).setCell ⟨gb460, 9, none⟩ (.bool ((rd_T104 l0_6 x21_1).f9))).setCell ⟨gb460, 10, none⟩ (.int .i64 ((rd_T104 l0_6 x21_1).f10.f0))).setCell ⟨gb460, 11, none⟩ (.int .i64 ((rd_T104 l0_6 x21_1).f10.f1)))) := ⟨zb HB⟩
        (try clear HO_3)
        (try clear HO_447001)
        (try clear HO_447003)
        (try clear HO_447009)
        (try clear BK446)
        (try clear BK447)
        (try clear BK460)
        (try clear HB)
        generalize ((((((((((((w27.setCell ⟨gb460, 0, none⟩ (.int .i64 ((rd_T104 l0_6 x21_1).f0))).setCell ⟨gb460, 1, none⟩ (.int .i64 ((rd_T104 l0_6 x21_1).f1))).setCell ⟨gb460, 2, none⟩ (.slice A459_2 ((rd_T104 l0_6 x21_1).f2).length c459_2)).setCell ⟨gb460, 3, none⟩ (.string ((rd_T104 l0_6 x21_1).f3))).setCell ⟨gb460, 4, none⟩ (.bool ((rd_T104 l0_6 x21_1).f4))).setCell ⟨gb460, 5, none⟩ (.bool ((rd_T104 l0_6 x21_1).f5))).setCell ⟨gb460, 6, none⟩ (.int .i64 ((rd_T104 l0_6 x21_1).f6))).setCell ⟨gb460, 7, none⟩ (.slice A459_7 ((rd_T104 l0_6 x21_1).f7).length c459_7)).setCell ⟨gb460, 8, none⟩ (.string ((rd_T104 l0_6 x21_1).f8))).setCell ⟨gb460, 9, none⟩ (.bool ((rd_T104 l0_6 x21_1).f9))).setCell ⟨gb460, 10, none⟩ (.int .i64 ((rd_T104 l0_6 x21_1).f10.f0))).setCell ⟨gb460, 11, none⟩ (.int .i64 ((rd_T104 l0_6 x21_1).f10.f1))) = w31 at n0_ n1_ n2_ n3_ n4_ n5_ n6_ n7_ ⊢
        have HO_3 := n0_
        have HO_447001 := n1_
        have HO_447003 := n2_
        have HO_447009 := n3_
        have BK446 := n4_
        have BK447 := n5_
        have BK460 := n6_
        have HB := n7_
        clear n0_ n1_ n2_ n3_ n4_ n5_ n6_ n7_
        replace HO_3 := Aside0.mk (Kd.S_drew HO_3.out)
        replace HO_447001 := Aside0.mk (Kd.R_drew HO_447001.out)
        replace HO_447003 := Aside0.mk (Kd.R_drew HO_447003.out)
        replace HO_447009 := Aside0.mk (Kd.R_drew HO_447009.out)
        replace BK446 := Aside0.mk (blk_drew BK446.out)
        replace BK447 := Aside0.mk (blk_drew BK447.out)
        replace BK460 := Aside0.mk (blk_drew BK460.out)
        replace HB := Aside0.mk (below_drew1 HB.out)
        refine start_ (n := 10) (S := fun w' => w'.cell? ⟨gb460, 0, none⟩ = some (.int .i64 ((rd_T104 l0_6 x21_1).f0)) ∧ w'.cell? ⟨gb460, 1, none⟩ = some (.int .i64 ((rd_T104 l0_6 x21_1).f1)) ∧ w'.cell? ⟨gb460, 2, none⟩ = some (.slice A459_2 ((rd_T104 l0_6 x21_1).f2).length c459_2) ∧ w'.cell? ⟨gb460, 3, none⟩ = some (.string ((rd_T104 l0_6 x21_1).f3)) ∧ w'.cell? ⟨gb460, 4, none⟩ = some (.bool ((rd_T104 l0_6 x21_1).f4)) ∧ w'.cell? ⟨gb460, 5, none⟩ = some (.bool ((rd_T104 l0_6 x21_1).f5)) ∧ w'.cell? ⟨gb460, 6, none⟩ = some (.int .i64 ((rd_T104 l0_6 x21_1).f6)) ∧ w'.cell? ⟨gb460, 7, none⟩ = some (.slice A459_7 ((rd_T104 l0_6 x21_1).f7).length c459_7) ∧ w'.cell? ⟨gb460, 8, none⟩ = some (.string ((rd_T104 l0_6 x21_1).f8)) ∧ w'.cell? ⟨gb460, 9, none⟩ = some (.bool ((rd_T104 l0_6 x21_1).f9)) ∧ w'.cell? ⟨gb460, 10, none⟩ = some (.int .i64 ((rd_T104 l0_6 x21_1).f10.f0)) ∧ w'.cell? ⟨gb460, 11, none⟩ = some (.int .i64 ((rd_T104 l0_6 x21_1).f10.f1))) (ds := [7, 9]) #[false, false, false, false, false, false, false, false, false, false] (by kernel_rfl) rfl rfl ⟨(blk_cell BK460.out 0).trans rfl, (blk_cell BK460.out 1).trans rfl, (blk_cell BK460.out 2).trans rfl, (blk_cell BK460.out 3).trans rfl, (blk_cell BK460.out 4).trans rfl, (blk_cell BK460.out 5).trans rfl, (blk_cell BK460.out 6).trans rfl, (blk_cell BK460.out 7).trans rfl, (blk_cell BK460.out 8).trans rfl, (blk_cell BK460.out 9).trans rfl, (blk_cell BK460.out 10).trans rfl, (blk_cell BK460.out 11).trans rfl⟩ (fun hHeld => ?_); refine with_tabW impl_End_clone.tab6 impl_End_clone.bits6 (fun HT_ HW_ => ?_)
        generalize w31.drew = w32 at HO_3 HO_447001 HO_447003 HO_447009 BK446 BK447 BK460 HB hHeld ⊢
        refine pu 0 (some 25) (bm 10 1) rfl rfl ?_
        refine pu 3 (some 28) (bm 10 9) rfl rfl ?_
        refine tk 1 (some 26) (bm 10 11) rfl rfl hHeld ?_
        refine tk 4 (some 29) (bm 10 27) rfl rfl hHeld ?_
        refine one_ (i := 2) (N := some 27) (bm 10 31) rfl rfl (one_of HT_.out (by kernel_rfl)) (by decide) (fun K hK => ?_)
        refine gs Try.func120 #[.slice A459_2 ((rd_T104 l0_6 x21_1).f2).length c459_2] ?_
        with_reducible refine (impl_cloneFields.calls _ _ ((rd_T104 l0_6 x21_1).f2) t461 _ ?side1 ?side2 A24.out).mono ?_
        (case side1 => exact zc (Kd.C_below HR459_2.out HB.out))
        (case side2 => exact HC459_2.out)
        rintro e w33 ⟨v462, rfl, ho0, hb⟩
        refine ⟨_, rfl, ?_⟩
        replace HO_3 := Aside0.mk (Kd.S_elder' (by (with_reducible repeat (first | apply Kd.S_alloc | apply Kd.S_drewN | apply Kd.S_drew)); exact HO_3.out) (Kd.R_base ho0) hb)
        replace HO_447009 := Aside0.mk (Kd.R_below (zr HO_447009) hb)
        have HO463 := Aside0.mk (Kd.R_lower (Kd.R_new' (Kd.R_new' ho0 (Kd.R_lt (zr HO_447001))) (Kd.R_lt (zr HO_447003))) (below_size (zb HB)))
        replace HO_447001 := Aside0.mk (Kd.R_elder' (zr HO_447001) (Kd.R_base ho0) hb)
        replace HO_447003 := Aside0.mk (Kd.R_elder' (zr HO_447003) (Kd.R_base ho0) hb)
        replace BK446 := kb BK446 hb
        replace BK447 := kb BK447 hb
        replace BK460 := kb BK460 hb
        replace HB := Aside0.mk (below_step (zb HB) hb)
        (try clear hb)
        (try clear ho0)
        refine hK.out _ _ ⟨(blk_cell BK460.out 0).trans rfl, (blk_cell BK460.out 1).trans rfl, (blk_cell BK460.out 2).trans rfl, (blk_cell BK460.out 3).trans rfl, (blk_cell BK460.out 4).trans rfl, (blk_cell BK460.out 5).trans rfl, (blk_cell BK460.out 6).trans rfl, (blk_cell BK460.out 7).trans rfl, (blk_cell BK460.out 8).trans rfl, (blk_cell BK460.out 9).trans rfl, (blk_cell BK460.out 10).trans rfl, (blk_cell BK460.out 11).trans rfl⟩ (fun hHeld => ?_)
        clear hK K
        refine nm ?_
        refine pu 6 (some 31) (bm 10 95) rfl rfl ?_
        refine one_ (i := 5) (N := some 30) (bm 10 127) rfl rfl (one_of HT_.out (by kernel_rfl)) (by decide) (fun K hK => ?_)
        refine gs Try.func120 #[.slice A459_7 ((rd_T104 l0_6 x21_1).f7).length c459_7] ?_
        with_reducible refine (impl_cloneFields.calls _ _ ((rd_T104 l0_6 x21_1).f7) t464 _ ?side1 ?side2 A25.out).mono ?_
        (case side1 => exact zc (Kd.C_below HR459_7.out HB.out))
        (case side2 => exact HC459_7.out)
        rintro e w34 ⟨v465, rfl, ho0, hb⟩
        refine ⟨_, rfl, ?_⟩
        replace HO_3 := Aside0.mk (Kd.S_elder' (by (with_reducible repeat (first | apply Kd.S_alloc | apply Kd.S_drewN | apply Kd.S_drew)); exact HO_3.out) (Kd.R_base ho0) hb)
        replace HO_447009 := Aside0.mk (Kd.R_below (zr HO_447009) hb)
        have HO466 := Aside0.mk (Kd.R_lower (Kd.R_new' (Kd.R_new' (Kd.R_new' ho0 (Kd.R_lt (zr HO_447001))) (Kd.R_lt (zr HO_447003))) (Kd.R_lt (zr HO463))) (below_size (zb HB)))
        replace HO_447001 := Aside0.mk (Kd.R_elder' (zr HO_447001) (Kd.R_base ho0) hb)
        replace HO_447003 := Aside0.mk (Kd.R_elder' (zr HO_447003) (Kd.R_base ho0) hb)
        replace HO463 := Aside0.mk (Kd.R_elder' (zr HO463) (Kd.R_base ho0) hb)
        replace BK446 := kb BK446 hb
        replace BK447 := kb BK447 hb
        replace BK460 := kb BK460 hb
        replace HB := Aside0.mk (below_step (zb HB) hb)
        (try clear hb)
        (try clear ho0)
        obtain ⟨Ao35, co35, eo35⟩ := Kd.R_slice HO463.out
        (first | subst eo35 | (injection eo35 with f1_ f2_ f3_; have f4_ := f1_.symm; have f5_ := f3_.symm; clear f1_ f2_ f3_; subst f4_; subst f5_))
        obtain ⟨Ao37, co37, eo37⟩ := Kd.R_slice HO466.out
        (first | subst eo37 | (injection eo37 with f1_ f2_ f3_; have f4_ := f1_.symm; have f5_ := f3_.symm; clear f1_ f2_ f3_; subst f4_; subst f5_))
        refine hK.out _ _ ⟨(blk_cell BK460.out 0).trans rfl, (blk_cell BK460.out 1).trans rfl, (blk_cell BK460.out 2).trans rfl, (blk_cell BK460.out 3).trans rfl, (blk_cell BK460.out 4).trans rfl, (blk_cell BK460.out 5).trans rfl, (blk_cell BK460.out 6).trans rfl, (blk_cell BK460.out 7).trans rfl, (blk_cell BK460.out 8).trans rfl, (blk_cell BK460.out 9).trans rfl, (blk_cell BK460.out 10).trans rfl, (blk_cell BK460.out 11).trans rfl⟩ (fun hHeld => ?_)
        clear hK K
        refine nm ?_
        refine last_ (i := 7) (N := none) #[true, true, true, true, true, true, true, true, false, false] rfl rfl (one_of HT_.out (by kernel_rfl)) (by decide) (fun K hK => ?_)
        have hs36 : w34.cell? ⟨gb460, 2, none⟩ = some (.slice A459_2 ((rd_T104 l0_6 x21_1).f2).length c459_2) := (blk_cell BK460.out 2).trans rfl
        have hfs36 := blk_frozen BK460.out 2
        have hns36_0 := NB446_460.out
        have hns36_1 := NB447_460.out
        have hms36_0 := NB460_446.out
        have hms36_1 := NB460_447.out
        refine skip_ (w1 := ?_) (by rfl) rfl ?_ ?_
        rotate_left
        ·go_simp
         rfl
        refine hK.out _ _ ?_
        clear hK K
        refine pu 8 (some 32) (bm 10 511) rfl rfl ?_
        refine last_ (i := 9) (N := none) #[true, true, true, true, true, true, true, true, true, true] rfl rfl (one_of HT_.out (by kernel_rfl)) (by decide) (fun K hK => ?_)
        have hs38 : w34.cell? ⟨gb460, 7, none⟩ = some (.slice A459_7 ((rd_T104 l0_6 x21_1).f7).length c459_7) := (blk_cell BK460.out 7).trans rfl
        have hfs38 := blk_frozen BK460.out 7
        have hns38_0 := NB446_460.out
        have hns38_1 := NB447_460.out
        have hms38_0 := NB460_446.out
        have hms38_1 := NB460_447.out
        refine skip_ (w1 := ?_) (by rfl) rfl ?_ ?_
        rotate_left
        ·go_simp
         rfl
        refine hK.out _ _ ?_
        clear hK K
        refine done_ (done_of HT_.out (by kernel_rfl)) ?_
        have n0_ : Aside0 (Kd.S k104 104 ((w34.setCell ⟨gb460, 2, none⟩ (.slice Ao35 t461.length co35)).setCell ⟨gb460, 7, none⟩ (.slice Ao37 t464.length co37)) w.heap.size (fun k_ => some k_ ≠ (.slice Ao11 t448.length co11 : Value).ownBlock ∧ some k_ ≠ (.slice Ao14 t452.length co14 : Value).ownBlock ∧ some k_ ≠ (.slice Ao35 t461.length co35 : Value).ownBlock ∧ some k_ ≠ (.slice Ao37 t464.length co37 : Value).ownBlock ∧ k_ ≠ gb460) u3 x3_1) := ⟨by (with_reducible repeat (first | apply Kd.S_alloc | apply Kd.S_drewN | apply Kd.S_drew)); exact Kd.S_mono (ztS (Kd.S_mono HO_3.out (fun k_ hk => (⟨hk, hk.1.1.2.2⟩ : _ ∧ k_ ≠ gb460)))) (fun _ hk => ⟨hk.1.1.1.1, ⟨hk.1.1.1.2.1, ⟨hk.1.1.2, ⟨hk.1.2, hk.1.1.1.2.2⟩⟩⟩⟩)⟩
        have n1_ : Aside0 (Kd.R k88 88 ((w34.setCell ⟨gb460, 2, none⟩ (.slice Ao35 t461.length co35)).setCell ⟨gb460, 7, none⟩ (.slice Ao37 t464.length co37)) w.heap.size (fun k_ => some k_ ≠ (.slice Ao14 t452.length co14 : Value).ownBlock ∧ some k_ ≠ (.slice Ao35 t461.length co35 : Value).ownBlock ∧ some k_ ≠ (.slice Ao37 t464.length co37 : Value).ownBlock) (.slice Ao11 t448.length co11) t448) := ⟨(Kd.R_mono (ztR (Kd.R_types HO_447001.out BK460.out (by decide))) (fun _ hk => ⟨hk.1.1.1, ⟨hk.1.1.2, hk.1.2⟩⟩))⟩
        have n2_ : Aside0 (Kd.R k88 88 ((w34.setCell ⟨gb460, 2, none⟩ (.slice Ao35 t461.length co35)).setCell ⟨gb460, 7, none⟩ (.slice Ao37 t464.length co37)) w.heap.size (fun k_ => some k_ ≠ (.slice Ao11 t448.length co11 : Value).ownBlock ∧ some k_ ≠ (.slice Ao35 t461.length co35 : Value).ownBlock ∧ some k_ ≠ (.slice Ao37 t464.length co37 : Value).ownBlock) (.slice Ao14 t452.length co14) t452) := ⟨(Kd.R_mono (ztR (Kd.R_types HO_447003.out BK460.out (by decide))) (fun _ hk => ⟨hk.1.1.1, ⟨hk.1.1.2, hk.1.2⟩⟩))⟩
        have n3_ : Aside0 (Kd.R k110 110 ((w34.setCell ⟨gb460, 2, none⟩ (.slice Ao35 t461.length co35)).setCell ⟨gb460, 7, none⟩ (.slice Ao37 t464.length co37)) w.heap.size (fun _ => True) (.slice Ao17 y456.length co17) y456) := ⟨(Kd.R_mono (ztR (Kd.R_types HO_447009.out BK460.out (by decide))) (fun _ hk => trivial))⟩
        have n4_ : Aside0 (Kd.R k88 88 ((w34.setCell ⟨gb460, 2, none⟩ (.slice Ao35 t461.length co35)).setCell ⟨gb460, 7, none⟩ (.slice Ao37 t464.length co37)) w.heap.size (fun k_ => some k_ ≠ (.slice Ao11 t448.length co11 : Value).ownBlock ∧ some k_ ≠ (.slice Ao14 t452.length co14 : Value).ownBlock ∧ some k_ ≠ (.slice Ao37 t464.length co37 : Value).ownBlock) (.slice Ao35 t461.length co35) t461) := ⟨(Kd.R_mono (ztR (Kd.R_types HO463.out BK460.out (by decide))) (fun _ hk => ⟨hk.1.1.1.2, ⟨hk.1.1.2, hk.1.2⟩⟩))⟩
        have n5_ : Aside0 (Kd.R k88 88 ((w34.setCell ⟨gb460, 2, none⟩ (.slice Ao35 t461.length co35)).setCell ⟨gb460, 7, none⟩ (.slice Ao37 t464.length co37)) w.heap.size (fun k_ => some k_ ≠ (.slice Ao11 t448.length co11 : Value).ownBlock ∧ some k_ ≠ (.slice Ao14 t452.length co14 : Value).ownBlock ∧ some k_ ≠ (.slice Ao35 t461.length co35 : Value).ownBlock) (.slice Ao37 t464.length co37) t464) := ⟨(Kd.R_mono (ztR (Kd.R_types HO466.out BK460.out (by decide))) (fun _ hk => ⟨hk.1.1.1.2, ⟨hk.1.1.2, hk.1.2⟩⟩))⟩
        have n6_ : Aside0 (((w34.setCell ⟨gb460, 2, none⟩ (.slice Ao35 t461.length co35)).setCell ⟨gb460, 7, none⟩ (.slice Ao37 t464.length co37)).heap[gb446]? = some (.cells #[.bool a0_0, .slice Ao11 t448.length co11, .int .i64 t451, .slice Ao14 t452.length co14, .int .i64 t455, .string a0_5, .slice (some ad459) l0_6.length c0_6, .int .i64 a0_7, .int .i64 a0_8, .slice Ao17 y456.length co17, .bool a0_10] 42 (0, 0))) := ⟨zp BK446⟩
        have n7_ : Aside0 (((w34.setCell ⟨gb460, 2, none⟩ (.slice Ao35 t461.length co35)).setCell ⟨gb460, 7, none⟩ (.slice Ao37 t464.length co37)).heap[gb447]? = some (.cells #[.bool false, .slice none 0 0, .int .i64 0, .slice none 0 0, .int .i64 0, .string (⟨#[]⟩ : ByteArray), .slice none 0 0, .int .i64 0, .int .i64 0, .slice none 0 0, .bool false] 42 (0, 0))) := ⟨zp BK447⟩
        have n8_ : Aside0 (((w34.setCell ⟨gb460, 2, none⟩ (.slice Ao35 t461.length co35)).setCell ⟨gb460, 7, none⟩ (.slice Ao37 t464.length co37)).heap[gb460]? = some (.cells #[.int .i64 ((rd_T104 l0_6 x21_1).f0), .int .i64 ((rd_T104 l0_6 x21_1).f1), .slice Ao35 t461.length co35, .string ((rd_T104 l0_6 x21_1).f3), .bool ((rd_T104 l0_6 x21_1).f4), .bool ((rd_T104 l0_6 x21_1).f5), .int .i64 ((rd_T104 l0_6 x21_1).f6), .slice Ao37 t464.length co37, .string ((rd_T104 l0_6 x21_1).f8), .bool ((rd_T104 l0_6 x21_1).f9), .int .i64 ((rd_T104 l0_6 x21_1).f10.f0), .int .i64 ((rd_T104 l0_6 x21_1).f10.f1)] 104 (0, 0))) := ⟨zp BK460⟩
        have n9_ : Aside0 (Below w.heap.size w ((w34.setCell ⟨gb460, 2, none⟩ (.slice Ao35 t461.length co35)).setCell ⟨gb460, 7, none⟩ (.slice Ao37 t464.length co37))) := ⟨zb HB⟩
        (try clear HO_3)
        (try clear HO_447001)
        (try clear HO_447003)
        (try clear HO_447009)
        (try clear HO463)
        (try clear HO466)
        (try clear BK446)
        (try clear BK447)
        (try clear BK460)
        (try clear HB)
        generalize ((w34.setCell ⟨gb460, 2, none⟩ (.slice Ao35 t461.length co35)).setCell ⟨gb460, 7, none⟩ (.slice Ao37 t464.length co37)) = w39 at n0_ n1_ n2_ n3_ n4_ n5_ n6_ n7_ n8_ n9_ ⊢
        have HO_3 := n0_
        have HO_447001 := n1_
        have HO_447003 := n2_
        have HO_447009 := n3_
        have HO463 := n4_
        have HO466 := n5_
        have BK446 := n6_
        have BK447 := n7_
        have BK460 := n8_
        have HB := n9_
        clear n0_ n1_ n2_ n3_ n4_ n5_ n6_ n7_ n8_ n9_
        obtain ⟨hcz40_0, hcz40_1, hcz40_2, hcz40_3, hcz40_4, hcz40_5, hcz40_6, hcz40_7, hcz40_8, hcz40_9, hcz40_10, hcz40_11, hfz40_0, hfz40_1, hfz40_2, hfz40_3, hfz40_4, hfz40_5, hfz40_6, hfz40_7, hfz40_8, hfz40_9, hfz40_10, hfz40_11⟩ := c12 BK460
        try go_wp2_with (first | ((with_reducible refine gate_builtin (b := .append) (xs := #[.tmp 33, .tmp 35]) rfl ?_); at_builtin; refine Kd.S_append k104 (w0 := w) w.heap.size rfl (.tmp 33) (.tmp 35) 37 104 (.agg #[(.int .i64 0), (.int .i64 0), (.slice none 0 0), (.string ⟨#[]⟩), (.bool false), (.bool false), (.int .i64 0), (.slice none 0 0), (.string ⟨#[]⟩), (.bool false), (.int .i64 0), (.int .i64 0)]) 136 rfl Try.underlying37 info104 rfl (by decide) (by omega) u3 x3_1 (⟨(rd_T104 l0_6 x21_1).f0, (rd_T104 l0_6 x21_1).f1, t461, (rd_T104 l0_6 x21_1).f3, (rd_T104 l0_6 x21_1).f4, (rd_T104 l0_6 x21_1).f5, (rd_T104 l0_6 x21_1).f6, t464, (rd_T104 l0_6 x21_1).f8, (rd_T104 l0_6 x21_1).f9, (⟨(rd_T104 l0_6 x21_1).f10.f0, (rd_T104 l0_6 x21_1).f10.f1⟩ : S39)⟩ : S104) [.int .i64 ((rd_T104 l0_6 x21_1).f0), .int .i64 ((rd_T104 l0_6 x21_1).f1), .slice Ao35 t461.length co35, .string ((rd_T104 l0_6 x21_1).f3), .bool ((rd_T104 l0_6 x21_1).f4), .bool ((rd_T104 l0_6 x21_1).f5), .int .i64 ((rd_T104 l0_6 x21_1).f6), .slice Ao37 t464.length co37, .string ((rd_T104 l0_6 x21_1).f8), .bool ((rd_T104 l0_6 x21_1).f9), .int .i64 ((rd_T104 l0_6 x21_1).f10.f0), .int .i64 ((rd_T104 l0_6 x21_1).f10.f1)] (fun k_ => some k_ ≠ (.slice Ao11 t448.length co11 : Value).ownBlock ∧ some k_ ≠ (.slice Ao14 t452.length co14 : Value).ownBlock ∧ k_ ≠ gb460) (fun k_ => some k_ = (.slice Ao35 t461.length co35 : Value).ownBlock ∨ some k_ = (.slice Ao37 t464.length co37 : Value).ownBlock) rfl rfl ?aP (fun k_ hk_ => hk_.elim (fun h_ => ((Kd.R_mono (ok' := fun k_ => ((fun k_ => some k_ ≠ (.slice Ao11 t448.length co11 : Value).ownBlock ∧ some k_ ≠ (.slice Ao14 t452.length co14 : Value).ownBlock ∧ k_ ≠ gb460)) k_ ∧ some k_ ≠ (u3 : Value).ownBlock) (Kd.R_types (Kd.R_apart' (HO463.out) (Kd.S_typed HO_3.out) (by decide)) BK460.out (by decide)) (fun k_ hk => ⟨⟨hk.1.1.1, ⟨hk.1.1.2.1, hk.2⟩⟩, hk.1.2⟩))).1 k_ h_.symm) (fun h_ => ((Kd.R_mono (ok' := fun k_ => ((fun k_ => some k_ ≠ (.slice Ao11 t448.length co11 : Value).ownBlock ∧ some k_ ≠ (.slice Ao14 t452.length co14 : Value).ownBlock ∧ k_ ≠ gb460)) k_ ∧ some k_ ≠ (u3 : Value).ownBlock) (Kd.R_types (Kd.R_apart' (HO466.out) (Kd.S_typed HO_3.out) (by decide)) BK460.out (by decide)) (fun k_ hk => ⟨⟨hk.1.1.1, ⟨hk.1.1.2.1, hk.2⟩⟩, hk.1.2⟩))).1 k_ h_.symm)) ?aF ?aO ?aB ?aS ?aL ?_; (case aP => exact k104_mkM _ _ _ (⟨(rd_T104 l0_6 x21_1).f0, (rd_T104 l0_6 x21_1).f1, t461, (rd_T104 l0_6 x21_1).f3, (rd_T104 l0_6 x21_1).f4, (rd_T104 l0_6 x21_1).f5, (rd_T104 l0_6 x21_1).f6, t464, (rd_T104 l0_6 x21_1).f8, (rd_T104 l0_6 x21_1).f9, (⟨(rd_T104 l0_6 x21_1).f10.f0, (rd_T104 l0_6 x21_1).f10.f1⟩ : S39)⟩ : S104) (Kd.R_mono (Kd.R_tight rfl (Kd.R_mono (ok' := fun k_ => ((fun k_ => some k_ ≠ (.slice Ao11 t448.length co11 : Value).ownBlock ∧ some k_ ≠ (.slice Ao14 t452.length co14 : Value).ownBlock ∧ k_ ≠ gb460)) k_ ∧ some k_ ≠ (u3 : Value).ownBlock) (Kd.R_types (Kd.R_apart' (HO463.out) (Kd.S_typed HO_3.out) (by decide)) BK460.out (by decide)) (fun k_ hk => ⟨⟨hk.1.1.1, ⟨hk.1.1.2.1, hk.2⟩⟩, hk.1.2⟩))) (fun _ h_ => Or.inl h_)) (Kd.R_mono (Kd.R_tight rfl (Kd.R_mono (ok' := fun k_ => ((fun k_ => some k_ ≠ (.slice Ao11 t448.length co11 : Value).ownBlock ∧ some k_ ≠ (.slice Ao14 t452.length co14 : Value).ownBlock ∧ k_ ≠ gb460)) k_ ∧ some k_ ≠ (u3 : Value).ownBlock) (Kd.R_types (Kd.R_apart' (HO466.out) (Kd.S_typed HO_3.out) (by decide)) BK460.out (by decide)) (fun k_ hk => ⟨⟨hk.1.1.1, ⟨hk.1.1.2.1, hk.2⟩⟩, hk.1.2⟩))) (fun _ h_ => Or.inr (h_))) (fun k_ h_ h2_ => by have h3_ := HO463.out.1 k_ h_; have h4_ := HO466.out.1 k_ h2_; first | exact h3_ h2_.symm | exact h3_.1 h2_.symm | exact h3_.2 h2_.symm | exact h3_.1.1 h2_.symm | exact h3_.1.2 h2_.symm | exact h3_.2.1 h2_.symm | exact h3_.2.2 h2_.symm | exact h3_.1.1.1 h2_.symm | exact h3_.1.1.2 h2_.symm | exact h3_.1.2.1 h2_.symm | exact h3_.1.2.2 h2_.symm | exact h3_.2.1.1 h2_.symm | exact h3_.2.1.2 h2_.symm | exact h3_.2.2.1 h2_.symm | exact h3_.2.2.2 h2_.symm | exact h3_.1.1.1.1 h2_.symm | exact h3_.1.1.1.2 h2_.symm | exact h3_.1.1.2.1 h2_.symm | exact h3_.1.1.2.2 h2_.symm | exact h3_.1.2.1.1 h2_.symm | exact h3_.1.2.1.2 h2_.symm | exact h3_.1.2.2.1 h2_.symm | exact h3_.1.2.2.2 h2_.symm | exact h3_.2.1.1.1 h2_.symm | exact h3_.2.1.1.2 h2_.symm | exact h3_.2.1.2.1 h2_.symm | exact h3_.2.1.2.2 h2_.symm | exact h3_.2.2.1.1 h2_.symm | exact h3_.2.2.1.2 h2_.symm | exact h3_.2.2.2.1 h2_.symm | exact h3_.2.2.2.2 h2_.symm | exact h4_ h_.symm | exact h4_.1 h_.symm | exact h4_.2 h_.symm | exact h4_.1.1 h_.symm | exact h4_.1.2 h_.symm | exact h4_.2.1 h_.symm | exact h4_.2.2 h_.symm | exact h4_.1.1.1 h_.symm | exact h4_.1.1.2 h_.symm | exact h4_.1.2.1 h_.symm | exact h4_.1.2.2 h_.symm | exact h4_.2.1.1 h_.symm | exact h4_.2.1.2 h_.symm | exact h4_.2.2.1 h_.symm | exact h4_.2.2.2 h_.symm | exact h4_.1.1.1.1 h_.symm | exact h4_.1.1.1.2 h_.symm | exact h4_.1.1.2.1 h_.symm | exact h4_.1.1.2.2 h_.symm | exact h4_.1.2.1.1 h_.symm | exact h4_.1.2.1.2 h_.symm | exact h4_.1.2.2.1 h_.symm | exact h4_.1.2.2.2 h_.symm | exact h4_.2.1.1.1 h_.symm | exact h4_.2.1.1.2 h_.symm | exact h4_.2.1.2.1 h_.symm | exact h4_.2.1.2.2 h_.symm | exact h4_.2.2.1.1 h_.symm | exact h4_.2.2.1.2 h_.symm | exact h4_.2.2.2.1 h_.symm | exact h4_.2.2.2.2 h_.symm)); (case aB => exact (zb HB)); (case aF => exact (fun k_ hk => ⟨Kd.fresh' (Kd.R_lt (zr HO_447001)) k_ hk, Kd.fresh' (Kd.R_lt (zr HO_447003)) k_ hk, Kd.freshB (zk BK460) k_ hk⟩)); (case aO => exact (by (with_reducible repeat (first | apply Kd.S_alloc | apply Kd.S_drewN | apply Kd.S_drew)); exact Kd.S_mono HO_3.out (fun k_ hk => ⟨⟨hk.1, ⟨hk.2.1, hk.2.2.2.2⟩⟩, fun e_ => e_.elim (fun h_ => hk.2.2.1 h_) (fun h_ => hk.2.2.2.1 h_)⟩))); (case aS => exact (below_size (zb HB))); (case aL => have := LMc26.out; omega); intro v468 w41 ho hb hg hat; rw [← Ny467.out] at ho; replace HO_447001 := Aside0.mk (Kd.R_over' (zr HO_447001) (Kd.S_typed (by (with_reducible repeat (first | apply Kd.S_alloc | apply Kd.S_drewN | apply Kd.S_drew)); exact HO_3.out)) (by decide) hg); replace HO_447003 := Aside0.mk (Kd.R_over' (zr HO_447003) (Kd.S_typed (by (with_reducible repeat (first | apply Kd.S_alloc | apply Kd.S_drewN | apply Kd.S_drew)); exact HO_3.out)) (by decide) hg); replace HO_447009 := Aside0.mk (Kd.R_over' (zr HO_447009) (Kd.S_typed (by (with_reducible repeat (first | apply Kd.S_alloc | apply Kd.S_drewN | apply Kd.S_drew)); exact HO_3.out)) (by decide) hg); replace BK446 := Aside0.mk (blk_grown (zk BK446) hg (Kd.S_ne HO_3.out BK446.out (by decide))); replace BK447 := Aside0.mk (blk_grown (zk BK447) hg (Kd.S_ne HO_3.out BK447.out (by decide))); replace BK460 := Aside0.mk (blk_grown (zk BK460) hg (Kd.S_away HO_3.out (fun _ hk => hk.2.2.2.2))); replace HB := Aside0.mk (hb); have HO469 := Aside0.mk (ho); clear HO_3; clear HO463; clear HO466; clear ho hb hg hat))
        go_roundg k1
        case measure => have := HK1.out; omega
        case rel => exact ⟨(y467), (wrap64 (x21_1 + 1)), zs, H', ⟨by have := HK1.out; omega⟩, ⟨by (with_reducible repeat (first | apply Kd.S_alloc | apply Kd.S_drewN | apply Kd.S_drew)); exact Kd.S_mono HO469.out (fun _ hk => ⟨hk.1, hk.2.1⟩)⟩, ⟨zq (Kd.R_mono HO_447001.out (fun _ hk => hk.1))⟩, ⟨zq (Kd.R_mono HO_447003.out (fun _ hk => hk.1))⟩, ⟨by exact zr HO_447009⟩, ⟨by exact zk BK446⟩, ⟨by exact zk BK447⟩, ⟨zb HB⟩⟩
       ·rw [if_neg c26] at H
        exact absurd H (by simp)
      ·rw [if_neg c23] at H
       exact absurd H (by simp)
     ·rw [if_neg c22] at H
      exact absurd H (by simp)
    ·rw [if_neg c21] at H
     have c21b0 := decide_eq_false c21
     clear c21
     simp only [Option.some.injEq, Prod.mk.injEq] at H
     obtain ⟨rfl, rfl, rfl, rfl, rfl, rfl, rfl, rfl, rfl, rfl, rfl⟩ := H
     obtain ⟨Ao42, co42, eo42⟩ := Kd.S_slice HO_3.out
     subst eo42
     have hnb43 := NB446_447.out
     have hnc43 := NB447_446.out
     obtain ⟨hcz44_0, hcz44_1, hcz44_2, hcz44_3, hcz44_4, hcz44_5, hcz44_6, hcz44_7, hcz44_8, hcz44_9, hcz44_10, hfz44_0, hfz44_1, hfz44_2, hfz44_3, hfz44_4, hfz44_5, hfz44_6, hfz44_7, hfz44_8, hfz44_9, hfz44_10⟩ := c11 BK446
     obtain ⟨hcz45_0, hcz45_1, hcz45_2, hcz45_3, hcz45_4, hcz45_5, hcz45_6, hcz45_7, hcz45_8, hcz45_9, hcz45_10, hfz45_0, hfz45_1, hfz45_2, hfz45_3, hfz45_4, hfz45_5, hfz45_6, hfz45_7, hfz45_8, hfz45_9, hfz45_10⟩ := c11 BK447
     go_wp2
     refine bodyPost_ret (results_cell_row rfl _ _ gb447 42 #[.bool a0_0, .slice Ao11 t448.length co11, .int .i64 t451, .slice Ao14 t452.length co14, .int .i64 t455, .string a0_5, .slice Ao42 x3_1.length co42, .int .i64 a0_7, .int .i64 a0_8, .slice Ao17 y456.length co17, .bool a0_10] (0, 0) _ rfl (zp BK447) Try.underlying42 rfl (by kernel_rfl)) rfl ?_
     exact ⟨_, _, _, _, ze, (Kd.R_mono (ztR (Kd.R_types (Kd.R_types HO_447001.out BK446.out (by decide)) BK447.out (by decide))) (fun _ hk => hk.1.1)), (Kd.R_mono (ztR (Kd.R_types (Kd.R_types HO_447003.out BK446.out (by decide)) BK447.out (by decide))) (fun _ hk => hk.1.1)), by (with_reducible repeat (first | apply Kd.S_alloc | apply Kd.S_drewN | apply Kd.S_drew)); exact Kd.S_mono (ztS (Kd.S_types (Kd.S_types HO_3.out BK446.out (by decide)) BK447.out (by decide))) (fun _ hk => ⟨hk.1.1.1, hk.1.1.2⟩), (Kd.R_mono (ztR (Kd.R_types (Kd.R_types HO_447009.out BK446.out (by decide)) BK447.out (by decide))) (fun _ hk => trivial)), zb HB⟩
 ·skip
  exact absurd H (by simp)

-- NOT PRINTED: function 105 (impl_End_stream)

-- NOT PRINTED: function 48 (impl_EndLeave)

-- NOT PRINTED: function 10 (laws_FnExactEndLeave)

end Go.Proofs.Ytlpibelofcabhaa.PFnExactEndLeave
