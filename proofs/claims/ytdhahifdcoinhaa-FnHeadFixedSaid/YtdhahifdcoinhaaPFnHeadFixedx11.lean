-- WRITTEN BY a turned print (wip/tools of the prover's repo)
import Derived.Test.YtdhahifdcoinhaaPFnHeadFixedx0
import Derived.Test.YtdhahifdcoinhaaPFnHeadFixedx2
import Derived.Test.YtdhahifdcoinhaaPFnHeadFixedx4
import Derived.Test.YtdhahifdcoinhaaPFnHeadFixedx7
import Derived.Test.YtdhahifdcoinhaaPFnHeadFixedx10
namespace Go.Proofs.Ytdhahifdcoinhaa.PFnHeadFixed
open Go.RowKit Go.Proofs.YtdhahifdcoinhaaW.PrintWords Go.Proofs.YtdhahifdcoinhaaW.PrintLast Go.Proofs.YtdhahifdcoinhaaW.PrintMore Go.Proofs.Ytdhahifdcoinhaa.Lm
attribute [local go_sem] max2_int min2_int max_two min_two max_three min_three max_four min_four   -- for this text's walks alone
set_option linter.unusedVariables false
set_option linter.unusedSimpArgs false

/-! ### laws_FnHeadFixed: function 12 -/
-- thin
mutual
def laws_FnHeadFixed.j0 : Nat → List Int → List Int → Bool → Option (Bool)
 | 0, _, _, _ => none
 | k + 1, x0, x1, x21 => if x21 = true then (some true) else ((spec_DrawHeadWrite.f k x0).bind fun bt490 => ((spec_HeadWrite.f k bt490.1 bt490.2.1 bt490.2.2).bind fun bt498 => ((impl_HeadWrite.f k bt490.1 bt490.2.1 bt490.2.2).bind fun bt504 => (if bt504.2.2.toList = bt498.2.2.toList then ((laws_lkTable.f k bt504.1 bt504.2.1 bt498.1 bt498.2.1).bind fun t510 => (if t510 = true then ((spec_TableOk.f k bt490.1 bt490.2.1).bind fun t511 => (laws_FnHeadFixed.j1 k x1 bt498.2.2 bt504.2.2 (!t511) bt490.1 bt490.2.1 bt498.1 bt498.2.1 bt504.1 bt504.2.1)) else (laws_FnHeadFixed.j1 k x1 bt498.2.2 bt504.2.2 true bt490.1 bt490.2.1 bt498.1 bt498.2.1 bt504.1 bt504.2.1))) else (laws_FnHeadFixed.j1 k x1 bt498.2.2 bt504.2.2 true bt490.1 bt490.2.1 bt498.1 bt498.2.1 bt504.1 bt504.2.1)))))
def laws_FnHeadFixed.j1 : Nat → List Int → ByteArray → ByteArray → Bool → List (S36) → Int → List (S36) → Int → List (S36) → Int → Option (Bool)
 | 0, _, _, _, _, _, _, _, _, _, _ => none
 | k + 1, x1, x8, x10, x52, x498000, x498001, x504000, x504001, x510000, x510001 => if x52 = true then (if x10.toList = x8.toList then ((laws_lkTable.f k x510000 x510001 x504000 x504001).bind fun t512 => (some t512)) else (some false)) else ((impl_TableFixed.f).bind fun t513 => (if ((x1.length : Int) % 6) + 1 ≤ (t513.length : Int) then ((impl_HeadWrite.f k x498000 x498001 ((t513.take (((x1.length : Int) % 6) + 1).toNat).drop ((x1.length : Int) % 6).toNat)).bind fun bt516 => (if (bt516.2.2.size : Int) = 1 then (if 0 < (bt516.2.2.size : Int) then (if (wrap64 (bt bt516.2.2 0)) = ((128 + ((x1.length : Int) % 6)) + 1) then ((laws_lkTable.f k bt516.1 bt516.2.1 x498000 x498001).bind fun t522 => (some t522)) else (some false)) else (none)) else (some false))) else none))
end
def laws_FnHeadFixed.f (k : Nat) (l0 : List Int) (l1 : List Int) : Option (Bool) := if (l0.length : Int) > 1048576 then (laws_FnHeadFixed.j0 k l0 l1 true) else (laws_FnHeadFixed.j0 k l0 l1 (decide ((l1.length : Int) > 1048576)))
theorem laws_FnHeadFixed.mono_l : ∀ k, (∀ y0 y1 y2, LeO (laws_FnHeadFixed.j0 k y0 y1 y2) (laws_FnHeadFixed.j0 (k + 1) y0 y1 y2)) ∧ (∀ y0 y1 y2 y3 y4 y5 y6 y7 y8 y9, LeO (laws_FnHeadFixed.j1 k y0 y1 y2 y3 y4 y5 y6 y7 y8 y9) (laws_FnHeadFixed.j1 (k + 1) y0 y1 y2 y3 y4 y5 y6 y7 y8 y9))
 | 0 => ⟨fun _ _ _ r h => by simp [laws_FnHeadFixed.j0] at h, fun _ _ _ _ _ _ _ _ _ _ r h => by simp [laws_FnHeadFixed.j1] at h⟩
 | k + 1 => by
  obtain ⟨ih0, ih1⟩ := laws_FnHeadFixed.mono_l k
  refine ⟨?_, ?_⟩
  ·intro y0 y1 y2
   unfold laws_FnHeadFixed.j0
   have m0 := @impl_HeadWrite.mono
   have m1 := @laws_lkTable.mono
   have m2 := @spec_DrawHeadWrite.mono
   have m3 := @spec_HeadWrite.mono
   have m4 := @spec_TableOk.mono
   exact zm
  ·intro y0 y1 y2 y3 y4 y5 y6 y7 y8 y9
   unfold laws_FnHeadFixed.j1
   have m0 := @impl_HeadWrite.mono
   have m1 := @laws_lkTable.mono
   have m2 := @spec_DrawHeadWrite.mono
   have m3 := @spec_HeadWrite.mono
   have m4 := @spec_TableOk.mono
   exact zm
theorem laws_FnHeadFixed.mono : ∀ a0 a1 k, LeO (laws_FnHeadFixed.f k a0 a1) (laws_FnHeadFixed.f (k + 1) a0 a1) := by
 intro a0 a1 k
 obtain ⟨ih0, ih1⟩ := laws_FnHeadFixed.mono_l k
 unfold laws_FnHeadFixed.f
 have m0 := @impl_HeadWrite.mono
 have m1 := @laws_lkTable.mono
 have m2 := @spec_DrawHeadWrite.mono
 have m3 := @spec_HeadWrite.mono
 have m4 := @spec_TableOk.mono
 exact zm
def laws_FnHeadFixed.T9 : Bool × List (List Nat × List Nat) := (true, [([], []), ([], []), ([], []), ([], []), ([3], [3]), ([1, 2, 4], [1, 2, 4]), ([0, 5, 1], [0, 5]), ([6], [6]), ([7], [7]), ([7], [7]), ([], []), ([10, 8, 6, 0, 1, 2, 3, 4, 5, 6, 7, 8, 10], [8, 10]), ([9, 11, 0, 1, 2, 3, 4, 5, 6, 7, 8, 9, 10, 11], [9])])
def laws_FnHeadFixed.B9 : List Nat := [0, 0, 0, 0, 8, 30, 63, 127, 255, 255, 0, 1535, 4095]
theorem laws_FnHeadFixed.tab9 : rtab .any (opsOf Try.f12 9) = laws_FnHeadFixed.T9 := by kernel_rfl
theorem laws_FnHeadFixed.bits9 : waitsOk laws_FnHeadFixed.T9.2 laws_FnHeadFixed.B9 = true := by kernel_rfl
/-- A row of fields, cut to one. -/
theorem fixed_cut (A : Option Addr) (xs y : List S36) (c : Nat) (lo : Int) (h0 : 0 ≤ lo) (h1 : lo < 6) (h2 : lo + 1 ≤ (xs.length : Int)) (hc : xs.length ≤ c) (hy : y = (xs.take (lo + 1).toNat).drop lo.toNat) :
  ∃ (A1 : Option Addr) (c1 : Nat), (∀ W : World, (Instr.slice 23 (.slice A xs.length c) (some (.int .i64 lo)) (some (.int .i64 (wrap64 (lo + 1)))) none).run Try.prog W = .ok (.slice A1 y.length c1) W) ∧ Aside0 (y.length ≤ c1) ∧ Aside0 (∀ W : World, Kd.C k36 W A xs.length xs → Kd.C k36 W A1 y.length y) := by
 obtain ⟨i0, hi0, _, hsz, _⟩ := info_parts info36
 have hcut := cut_mid (P := Try.prog) 23 36 .i64 .i64 Try.underlying23 hi0 3 hsz A xs.length c lo (lo + 1) h0 (by omega) h2 hc
 have hl : y.length = (lo + 1).toNat - lo.toNat := by rw [hy, List.length_drop, List.length_take]; omega
 refine ⟨if c = lo.toNat then A else A.map (·.add (lo.toNat * 3)), c - lo.toNat, ?_, ⟨by omega⟩, ⟨fun W h => ?_⟩⟩
 · rw [hl, show wrap64 (lo + 1) = lo + 1 by unfold wrap64; omega]; exact hcut
 · rw [hy]; exact Kd.C_mid (lo := lo.toNat) (hi := (lo + 1).toNat) h (by omega) (by omega) hc
set_option maxHeartbeats 8000000 in
set_option maxRecDepth 100000 in
theorem laws_FnHeadFixed.calls (k : Nat) (A0 : Option Addr) (c0 : Nat) (l0 : List Int) (A1 : Option Addr) (c1 : Nat) (l1 : List Int) (r : Bool) (w : World) (hr0 : Kd.C (Kd.int .u8) w A0 l0.length l0) (hc0 : l0.length ≤ c0) (hr1 : Kd.C (Kd.int .u8) w A1 l1.length l1) (hc1 : l1.length ≤ c1) (h : laws_FnHeadFixed.f k l0 l1 = some r) :
  Calls Try.prog 12 #[.slice A0 l0.length c0, .slice A1 l1.length c1] w fun e w' => e = .returned (.bool r) ∧ Below w.heap.size w w' := by
 have hu25 := Try.underlying25
 have HR0 := Aside0.mk hr0
 have HC0 := Aside0.mk hc0
 clear hr0 hc0
 have HR1 := Aside0.mk hr1
 have HC1 := Aside0.mk hc1
 clear hr1 hc1
 have HB := Aside0.mk (Below.refl w.heap.size w)
 have H : (if (l0.length : Int) > 1048576 then (laws_FnHeadFixed.j0 k l0 l1 true) else (laws_FnHeadFixed.j0 k l0 l1 (decide ((l1.length : Int) > 1048576)))) = some r := h
 clear h
 have HC3 := Aside0.mk H
 clear H
 go_enter Try.func12, Try.ntmps12
 go_upto_region 1 with (fail)
 go_cut [21] (fun v21 wc => ∃ (kq : Nat) (x21_2 : Bool), v21 = .bool x21_2 ∧ Aside0 (laws_FnHeadFixed.j0 kq l0 l1 x21_2 = some r) ∧ Aside0 (kq ≤ k) ∧ Aside0 (Below w.heap.size w wc))
 case first =>
  have H := HC3.out
  clear HC3
  replace H := sp H
  rcases H with ⟨c4, H⟩ | ⟨c4, H⟩
  ·skip
   have c4b0 := decide_eq_true c4
   have c4b1 := decide_eq_true (by omega)
   clear c4
   (first | rw [c4b0] | rw [c4b1] | rw [c4b2] | (simp only [i64_w, i32_w]; rw [c4b0]) | skip)
   have H' := Aside0.mk H
   clear H
   go_wp2
   go_meet
   case rel => exact ⟨_, (true), zs, H', ⟨by first | omega | exact Nat.le_refl _⟩, ⟨zb HB⟩⟩
  ·skip
   have c4b0 := decide_eq_false c4
   have c4b1 := decide_eq_false (by omega)
   clear c4
   (first | rw [c4b0] | rw [c4b1] | rw [c4b2] | (simp only [i64_w, i32_w]; rw [c4b0]) | skip)
   have H' := Aside0.mk H
   clear H
   go_wp2
   go_meet
   case rel => exact ⟨_, (decide ((l1.length : Int) > 1048576)), zs, H', ⟨by first | omega | exact Nat.le_refl _⟩, ⟨zb HB⟩⟩
 case rest =>
  clear HC3
  try clear c1
  try clear p2
  try clear c4
  try clear c4b0
  try clear c4b1
  try clear c4b2
  obtain ⟨kq, x21_2, rfl, HA, HJ2, HB⟩ := hcut
  cases kq with
  | zero => exact absurd HA.out (by simp [laws_FnHeadFixed.j0])
  | succ kj2 =>
   have H := HA.out
   clear HA
   simp only [laws_FnHeadFixed.j0] at H
   by_cases c5 : x21_2 = true
   ·subst c5
    rw [if_pos rfl] at H
    obtain rfl := Option.some.inj H
    go_wp2
    go_ret
    exact ⟨ze, zb HB⟩
   ·replace c5 := Bool.eq_false_iff.mpr c5
    subst c5
    rw [if_neg (show ¬ (false = true) by decide)] at H
    obtain ⟨⟨t490, t493, t494⟩, A6, H⟩ := ob H
    (try dsimp only at H)
    obtain ⟨⟨t498, t501, t502⟩, A7, H⟩ := ob H
    (try dsimp only at H)
    obtain ⟨⟨t504, t507, t508⟩, A8, H⟩ := ob H
    (try dsimp only at H)
    have HC9 := Aside0.mk H
    clear H
    go_upto_region 6 with (first | ((with_reducible refine gq 37 rfl ?_); refine gl (some 24) Try.func37 #[.slice A0 l0.length c0] ?_; (with_reducible refine (spec_DrawHeadWrite.calls kj2 _ _ l0 t490 t493 t494 _ ?side1 ?side2 A6.out).mono ?_); (case side1 => exact zc (Kd.C_below HR0.out HB.out)); (case side2 => exact HC0.out); rintro e w10 ⟨v491, v495, rfl, ho0, ho1, hb⟩; refine ⟨_, rfl, ?_⟩; have HO492 := Aside0.mk (Kd.R_lower ho0 (below_size (zb HB))); have HO496 := Aside0.mk (Kd.R_lower ho1 (below_size (zb HB))); replace HB := Aside0.mk (below_step (zb HB) hb); (try clear hb); (try clear ho0); (try clear ho1)) | ((with_reducible refine gd 5 rfl ?_); (try (refine gate_guard (by rfl) ?_; dsimp only)); refine bx (N := 5) (cs := #[.slice none 0 0, .int .i64 0]) (t := 25) ?_; intro gb497 hg w11 hbox hb; replace HO492 := Aside0.mk (Kd.R_below (zr HO492) hb); replace HO496 := Aside0.mk (Kd.R_below (zr HO496) hb); have BK497 := Aside0.mk (hbox); have GW497 := gw HB hg; have GE497 := GW497; replace HB := Aside0.mk (below_step (zb HB) hb); clear hb hbox hg; obtain ⟨Ao12, co12, eo12⟩ := Kd.R_slice HO492.out; subst eo12; obtain ⟨hcz13_0, hcz13_1, hfz13_0, hfz13_1⟩ := c2 BK497; obtain ⟨Ao14, co14, eo14⟩ := Kd.R_slice HO496.out; subst eo14) | ((with_reducible refine gq 38 rfl ?_); refine gl (some 30) Try.func38 #[.agg #[.slice Ao12 t490.length co12, .int .i64 t493], .slice Ao14 t494.length co14] ?_; (with_reducible refine (spec_HeadWrite.calls kj2 _ _ t490 t493 _ _ t494 t498 t501 t502 _ ?side1 ?side2 ?side3 ?side4 A7.out).mono ?_); (case side1 => refine (Kd.R_reads' (e := 36) (base := w.heap.size) (ok := fun k_ => some k_ ≠ (.slice Ao14 t494.length co14 : Value).ownBlock) (n := t490.length) (c := co12) ?_).2.2; exact (((Kd.R_mono (ztR (Kd.R_types HO492.out BK497.out (by decide))) (fun _ h_ => h_.1))))); (case side2 => exact (Kd.R_reads' HO492.out).2.1); (case side3 => refine (Kd.R_reads' (e := 36) (base := w.heap.size) (ok := fun k_ => some k_ ≠ (.slice Ao12 t490.length co12 : Value).ownBlock) (n := t494.length) (c := co14) ?_).2.2; exact (((Kd.R_mono (ztR (Kd.R_types HO496.out BK497.out (by decide))) (fun _ h_ => h_.1))))); (case side4 => exact (Kd.R_reads' HO496.out).2.1); rintro e w15 ⟨v499, rfl, ho0, hb⟩; refine ⟨_, rfl, ?_⟩; have HO500 := Aside0.mk (Kd.R_lower (Kd.R_new' (Kd.R_new' ho0 (Kd.R_lt (((Kd.R_mono (ztR (Kd.R_types HO492.out BK497.out (by decide))) (fun _ h_ => h_.1)))))) (Kd.R_lt (((Kd.R_mono (ztR (Kd.R_types HO496.out BK497.out (by decide))) (fun _ h_ => h_.1)))))) (below_size (zb HB))); replace HO492 := Aside0.mk (Kd.R_elder' (((Kd.R_mono (ztR (Kd.R_types HO492.out BK497.out (by decide))) (fun _ h_ => h_.1)))) (Kd.R_base ho0) hb); replace HO496 := Aside0.mk (Kd.R_elder' (((Kd.R_mono (ztR (Kd.R_types HO496.out BK497.out (by decide))) (fun _ h_ => h_.1)))) (Kd.R_base ho0) hb); replace BK497 := Aside0.mk (blk_below (g := gb497) (o := .cells #[.slice Ao12 t490.length co12, .int .i64 t493] 25 (0, 0)) (zp BK497) hb); replace HB := Aside0.mk (below_step (zb HB) hb); (try clear hb); (try clear hk); (try clear ho0)) | ((with_reducible refine gd 7 rfl ?_); (try (refine gate_guard (by rfl) ?_; dsimp only)); refine bx (N := 7) (cs := #[.slice none 0 0, .int .i64 0]) (t := 25) ?_; intro gb503 hg w16 hbox hb; replace HO492 := Aside0.mk (Kd.R_below (zr HO492) hb); replace HO496 := Aside0.mk (Kd.R_below (zr HO496) hb); replace HO500 := Aside0.mk (Kd.R_below (zr HO500) hb); have BK503 := Aside0.mk (hbox); have GW503 := gw HB hg; have GE503 := GW503; replace HB := Aside0.mk (below_step (zb HB) hb); obtain ⟨NB497_503, NB503_497⟩ := nb BK497 hg; replace BK497 := kb BK497 hb; clear hb hbox hg; obtain ⟨Ao17, co17, eo17⟩ := Kd.R_slice HO500.out; subst eo17; have hnb18 := NB503_497.out; have hnc18 := NB497_503.out; obtain ⟨hcz19_0, hcz19_1, hfz19_0, hfz19_1⟩ := c2 BK503; obtain ⟨hcz20_0, hcz20_1, hfz20_0, hfz20_1⟩ := c2 BK497) | ((with_reducible refine gq 39 rfl ?_); refine gl (some 36) Try.func39 #[.agg #[.slice Ao12 t490.length co12, .int .i64 t493], .slice Ao14 t494.length co14] ?_; (with_reducible refine (impl_HeadWrite.calls kj2 _ _ t490 t493 _ _ t494 t504 t507 t508 _ ?side1 ?side2 ?side3 ?side4 A8.out).mono ?_); (case side1 => refine (Kd.R_reads' (e := 36) (base := w.heap.size) (ok := fun k_ => (some k_ ≠ (.slice Ao14 t494.length co14 : Value).ownBlock ∧ some k_ ≠ (.slice Ao17 t498.length co17 : Value).ownBlock)) (n := t490.length) (c := co12) ?_).2.2; exact (((Kd.R_mono (ztR (Kd.R_types HO492.out BK503.out (by decide))) (fun _ h_ => h_.1))))); (case side2 => exact (Kd.R_reads' HO492.out).2.1); (case side3 => refine (Kd.R_reads' (e := 36) (base := w.heap.size) (ok := fun k_ => (some k_ ≠ (.slice Ao12 t490.length co12 : Value).ownBlock ∧ some k_ ≠ (.slice Ao17 t498.length co17 : Value).ownBlock)) (n := t494.length) (c := co14) ?_).2.2; exact (((Kd.R_mono (ztR (Kd.R_types HO496.out BK503.out (by decide))) (fun _ h_ => h_.1))))); (case side4 => exact (Kd.R_reads' HO496.out).2.1); rintro e w21 ⟨v505, rfl, ho0, hb⟩; refine ⟨_, rfl, ?_⟩; have HO506 := Aside0.mk (Kd.R_lower (Kd.R_new' (Kd.R_new' (Kd.R_new' ho0 (Kd.R_lt (((Kd.R_mono (ztR (Kd.R_types HO492.out BK503.out (by decide))) (fun _ h_ => h_.1)))))) (Kd.R_lt (((Kd.R_mono (ztR (Kd.R_types HO496.out BK503.out (by decide))) (fun _ h_ => h_.1)))))) (Kd.R_lt (((Kd.R_mono (ztR (Kd.R_types HO500.out BK503.out (by decide))) (fun _ h_ => h_.1)))))) (below_size (zb HB))); replace HO492 := Aside0.mk (Kd.R_elder' (((Kd.R_mono (ztR (Kd.R_types HO492.out BK503.out (by decide))) (fun _ h_ => h_.1)))) (Kd.R_base ho0) hb); replace HO496 := Aside0.mk (Kd.R_elder' (((Kd.R_mono (ztR (Kd.R_types HO496.out BK503.out (by decide))) (fun _ h_ => h_.1)))) (Kd.R_base ho0) hb); replace HO500 := Aside0.mk (Kd.R_elder' (((Kd.R_mono (ztR (Kd.R_types HO500.out BK503.out (by decide))) (fun _ h_ => h_.1)))) (Kd.R_base ho0) hb); replace BK497 := Aside0.mk (blk_below (g := gb497) (o := .cells #[.slice Ao12 t490.length co12, .int .i64 t493] 25 (0, 0)) (zp BK497) hb); replace BK503 := Aside0.mk (blk_below (g := gb503) (o := .cells #[.slice Ao17 t498.length co17, .int .i64 t501] 25 (0, 0)) (zp BK503) hb); replace HB := Aside0.mk (below_step (zb HB) hb); (try clear hb); (try clear hk); (try clear ho0)) | ((with_reducible refine gd 9 rfl ?_); (try (refine gate_guard (by rfl) ?_; dsimp only)); refine bx (N := 9) (cs := #[.slice none 0 0, .int .i64 0]) (t := 25) ?_; intro gb509 hg w22 hbox hb; replace HO492 := Aside0.mk (Kd.R_below (zr HO492) hb); replace HO496 := Aside0.mk (Kd.R_below (zr HO496) hb); replace HO500 := Aside0.mk (Kd.R_below (zr HO500) hb); replace HO506 := Aside0.mk (Kd.R_below (zr HO506) hb); have BK509 := Aside0.mk (hbox); have GW509 := gw HB hg; have GE509 := GW509; replace HB := Aside0.mk (below_step (zb HB) hb); obtain ⟨NB497_509, NB509_497⟩ := nb BK497 hg; replace BK497 := kb BK497 hb; obtain ⟨NB503_509, NB509_503⟩ := nb BK503 hg; replace BK503 := kb BK503 hb; clear hb hbox hg; obtain ⟨Ao23, co23, eo23⟩ := Kd.R_slice HO506.out; subst eo23; have hnb24 := NB509_497.out; have hnc24 := NB497_509.out; have hnb25 := NB509_503.out; have hnc25 := NB503_509.out; obtain ⟨hcz26_0, hcz26_1, hfz26_0, hfz26_1⟩ := c2 BK509))
    (try simp only [Act.put, s1, s2, s3])
    go_cut [52] (fun v52 wc => ∃ (kq : Nat) (x52_8 : Bool), v52 = .bool x52_8 ∧ Aside0 (laws_FnHeadFixed.j1 kq l1 t502 t508 x52_8 t490 t493 t498 t501 t504 t507 = some r) ∧ Aside0 (kq ≤ kj2) ∧ Aside0 (Kd.R k36 36 wc w.heap.size (fun k_ => some k_ ≠ ((.slice Ao17 t498.length co17) : Value).ownBlock ∧ some k_ ≠ ((.slice Ao23 t504.length co23) : Value).ownBlock) (.slice Ao12 t490.length co12) t490) ∧ Aside0 (Kd.R k36 36 wc w.heap.size (fun k_ => some k_ ≠ ((.slice Ao12 t490.length co12) : Value).ownBlock ∧ some k_ ≠ ((.slice Ao23 t504.length co23) : Value).ownBlock) (.slice Ao17 t498.length co17) t498) ∧ Aside0 (Kd.R k36 36 wc w.heap.size (fun k_ => some k_ ≠ ((.slice Ao12 t490.length co12) : Value).ownBlock ∧ some k_ ≠ ((.slice Ao17 t498.length co17) : Value).ownBlock) (.slice Ao23 t504.length co23) t504) ∧ Aside0 (wc.heap[gb497]? = some (.cells #[(.slice Ao12 t490.length co12), .int .i64 t493] 25 (0, 0))) ∧ Aside0 (wc.heap[gb503]? = some (.cells #[(.slice Ao17 t498.length co17), .int .i64 t501] 25 (0, 0))) ∧ Aside0 (wc.heap[gb509]? = some (.cells #[(.slice Ao23 t504.length co23), .int .i64 t507] 25 (0, 0))) ∧ Aside0 (Below w.heap.size w wc))
    case first =>
     have H := HC9.out
     clear HC9
     replace H := sp H
     rcases H with ⟨c27, H⟩ | ⟨c27, H⟩
     ·skip
      have c27b0 : (t508.toList == t502.toList) = true := beq_iff_eq.mpr c27
      have c27b1 : (t508.toList != t502.toList) = false := bne_eq_false_iff_eq.mpr c27
      clear c27
      (first | rw [c27b0] | rw [c27b1] | rw [c27b2] | (simp only [i64_w, i32_w]; rw [c27b0]) | skip)
      obtain ⟨t510, A28, H⟩ := ob H
      (try dsimp only at H)
      by_cases c29 : t510 = true
      ·subst c29
       rw [if_pos rfl] at H
       obtain ⟨t511, A30, H⟩ := ob H
       (try dsimp only at H)
       have H' := Aside0.mk H
       clear H
       have hnb31 := NB509_497.out
       have hnc31 := NB497_509.out
       have hnb32 := NB509_503.out
       have hnc32 := NB503_509.out
       obtain ⟨hcz33_0, hcz33_1, hfz33_0, hfz33_1⟩ := c2 BK509
       have hnb34 := NB503_497.out
       have hnc34 := NB497_503.out
       obtain ⟨hcz35_0, hcz35_1, hfz35_0, hfz35_1⟩ := c2 BK503
       go_wp2_with (first | (go_at_call 17; (with_reducible refine (laws_lkTable.calls kj2 _ _ t504 t507 _ _ t498 t501 true _ ?side1 ?side2 ?side3 ?side4 A28.out).mono ?_); (case side1 => refine (Kd.R_reads' (e := 36) (base := w.heap.size) (ok := fun k_ => (((True ∧ some k_ ≠ (.slice Ao12 t490.length co12 : Value).ownBlock) ∧ some k_ ≠ (.slice Ao14 t494.length co14 : Value).ownBlock) ∧ some k_ ≠ (.slice Ao17 t498.length co17 : Value).ownBlock)) (n := t504.length) (c := co23) ?_).2.2; exact (((Kd.R_mono (ztR (Kd.R_types HO506.out BK509.out (by decide))) (fun _ h_ => h_.1))))); (case side2 => exact (Kd.R_reads' HO506.out).2.1); (case side3 => refine (Kd.R_reads' (e := 36) (base := w.heap.size) (ok := fun k_ => (((True ∧ some k_ ≠ (.slice Ao12 t490.length co12 : Value).ownBlock) ∧ some k_ ≠ (.slice Ao14 t494.length co14 : Value).ownBlock) ∧ some k_ ≠ (.slice Ao23 t504.length co23 : Value).ownBlock)) (n := t498.length) (c := co17) ?_).2.2; exact (((Kd.R_mono (ztR (Kd.R_types HO500.out BK509.out (by decide))) (fun _ h_ => h_.1))))); (case side4 => exact (Kd.R_reads' HO500.out).2.1); rintro e w36 ⟨rfl, hb⟩; replace HO492 := Aside0.mk (Kd.R_below (((Kd.R_mono (ztR (Kd.R_types HO492.out BK509.out (by decide))) (fun _ h_ => h_.1)))) hb); replace HO496 := Aside0.mk (Kd.R_below (((Kd.R_mono (ztR (Kd.R_types HO496.out BK509.out (by decide))) (fun _ h_ => h_.1)))) hb); replace HO500 := Aside0.mk (Kd.R_below (((Kd.R_mono (ztR (Kd.R_types HO500.out BK509.out (by decide))) (fun _ h_ => h_.1)))) hb); replace HO506 := Aside0.mk (Kd.R_below (((Kd.R_mono (ztR (Kd.R_types HO506.out BK509.out (by decide))) (fun _ h_ => h_.1)))) hb); replace BK497 := Aside0.mk (blk_below (g := gb497) (o := .cells #[.slice Ao12 t490.length co12, .int .i64 t493] 25 (0, 0)) (zp BK497) hb); replace BK503 := Aside0.mk (blk_below (g := gb503) (o := .cells #[.slice Ao17 t498.length co17, .int .i64 t501] 25 (0, 0)) (zp BK503) hb); replace BK509 := Aside0.mk (blk_below (g := gb509) (o := .cells #[.slice Ao23 t504.length co23, .int .i64 t507] 25 (0, 0)) (zp BK509) hb); replace HB := Aside0.mk (below_step (zb HB) hb); (try clear hb); (try clear hk); obtain ⟨hcz37_0, hcz37_1, hfz37_0, hfz37_1⟩ := c2 BK497) | (go_at_call 19; (with_reducible refine (spec_TableOk.calls kj2 _ _ t490 t493 t511 _ ?side1 ?side2 A30.out).mono ?_); (case side1 => exact zc (Kd.R_reads' HO492.out).2.2); (case side2 => exact (Kd.R_reads' HO492.out).2.1); rintro e w38 ⟨rfl, hb⟩; replace HO492 := Aside0.mk (Kd.R_below (zr HO492) hb); replace HO496 := Aside0.mk (Kd.R_below (zr HO496) hb); replace HO500 := Aside0.mk (Kd.R_below (zr HO500) hb); replace HO506 := Aside0.mk (Kd.R_below (zr HO506) hb); replace BK497 := kb BK497 hb; replace BK503 := kb BK503 hb; replace BK509 := kb BK509 hb; replace HB := Aside0.mk (below_step (zb HB) hb); (try clear hb)))
       go_meet
       case rel => exact ⟨_, (!t511), zs, H', ⟨by have := HJ2.out; first | omega | exact Nat.le_refl _⟩, ⟨zq (Kd.R_mono HO492.out (fun _ hk => ⟨hk.1.2, hk.2⟩))⟩, ⟨zq (Kd.R_mono HO500.out (fun _ hk => ⟨hk.1.1.2, hk.2⟩))⟩, ⟨zq (Kd.R_mono HO506.out (fun _ hk => ⟨hk.1.1.2, hk.2⟩))⟩, ⟨by exact zk BK497⟩, ⟨by exact zk BK503⟩, ⟨by exact zk BK509⟩, ⟨zb HB⟩⟩
      ·replace c29 := Bool.eq_false_iff.mpr c29
       subst c29
       rw [if_neg (show ¬ (false = true) by decide)] at H
       have H' := Aside0.mk H
       clear H
       have hnb39 := NB509_497.out
       have hnc39 := NB497_509.out
       have hnb40 := NB509_503.out
       have hnc40 := NB503_509.out
       obtain ⟨hcz41_0, hcz41_1, hfz41_0, hfz41_1⟩ := c2 BK509
       have hnb42 := NB503_497.out
       have hnc42 := NB497_503.out
       obtain ⟨hcz43_0, hcz43_1, hfz43_0, hfz43_1⟩ := c2 BK503
       go_wp2_with (first | (go_at_call 17; (with_reducible refine (laws_lkTable.calls kj2 _ _ t504 t507 _ _ t498 t501 false _ ?side1 ?side2 ?side3 ?side4 A28.out).mono ?_); (case side1 => refine (Kd.R_reads' (e := 36) (base := w.heap.size) (ok := fun k_ => (((True ∧ some k_ ≠ (.slice Ao12 t490.length co12 : Value).ownBlock) ∧ some k_ ≠ (.slice Ao14 t494.length co14 : Value).ownBlock) ∧ some k_ ≠ (.slice Ao17 t498.length co17 : Value).ownBlock)) (n := t504.length) (c := co23) ?_).2.2; exact (((Kd.R_mono (ztR (Kd.R_types HO506.out BK509.out (by decide))) (fun _ h_ => h_.1))))); (case side2 => exact (Kd.R_reads' HO506.out).2.1); (case side3 => refine (Kd.R_reads' (e := 36) (base := w.heap.size) (ok := fun k_ => (((True ∧ some k_ ≠ (.slice Ao12 t490.length co12 : Value).ownBlock) ∧ some k_ ≠ (.slice Ao14 t494.length co14 : Value).ownBlock) ∧ some k_ ≠ (.slice Ao23 t504.length co23 : Value).ownBlock)) (n := t498.length) (c := co17) ?_).2.2; exact (((Kd.R_mono (ztR (Kd.R_types HO500.out BK509.out (by decide))) (fun _ h_ => h_.1))))); (case side4 => exact (Kd.R_reads' HO500.out).2.1); rintro e w44 ⟨rfl, hb⟩; replace HO492 := Aside0.mk (Kd.R_below (((Kd.R_mono (ztR (Kd.R_types HO492.out BK509.out (by decide))) (fun _ h_ => h_.1)))) hb); replace HO496 := Aside0.mk (Kd.R_below (((Kd.R_mono (ztR (Kd.R_types HO496.out BK509.out (by decide))) (fun _ h_ => h_.1)))) hb); replace HO500 := Aside0.mk (Kd.R_below (((Kd.R_mono (ztR (Kd.R_types HO500.out BK509.out (by decide))) (fun _ h_ => h_.1)))) hb); replace HO506 := Aside0.mk (Kd.R_below (((Kd.R_mono (ztR (Kd.R_types HO506.out BK509.out (by decide))) (fun _ h_ => h_.1)))) hb); replace BK497 := Aside0.mk (blk_below (g := gb497) (o := .cells #[.slice Ao12 t490.length co12, .int .i64 t493] 25 (0, 0)) (zp BK497) hb); replace BK503 := Aside0.mk (blk_below (g := gb503) (o := .cells #[.slice Ao17 t498.length co17, .int .i64 t501] 25 (0, 0)) (zp BK503) hb); replace BK509 := Aside0.mk (blk_below (g := gb509) (o := .cells #[.slice Ao23 t504.length co23, .int .i64 t507] 25 (0, 0)) (zp BK509) hb); replace HB := Aside0.mk (below_step (zb HB) hb); (try clear hb); (try clear hk)))
       go_meet
       case rel => exact ⟨_, (true), zs, H', ⟨by have := HJ2.out; first | omega | exact Nat.le_refl _⟩, ⟨zq (Kd.R_mono HO492.out (fun _ hk => ⟨hk.1.2, hk.2⟩))⟩, ⟨zq (Kd.R_mono HO500.out (fun _ hk => ⟨hk.1.1.2, hk.2⟩))⟩, ⟨zq (Kd.R_mono HO506.out (fun _ hk => ⟨hk.1.1.2, hk.2⟩))⟩, ⟨by exact zk BK497⟩, ⟨by exact zk BK503⟩, ⟨by exact zk BK509⟩, ⟨zb HB⟩⟩
     ·skip
      have c27b0 : (t508.toList == t502.toList) = false := beq_eq_false_iff_ne.mpr c27
      have c27b1 : (t508.toList != t502.toList) = true := bne_iff_ne.mpr c27
      (first | rw [c27b0] | rw [c27b1] | rw [c27b2] | (simp only [i64_w, i32_w]; rw [c27b0]) | skip)
      have H' := Aside0.mk H
      clear H
      go_wp2
      go_meet
      case rel => exact ⟨_, (true), zs, H', ⟨by have := HJ2.out; first | omega | exact Nat.le_refl _⟩, ⟨(Kd.R_mono (ztR (Kd.R_types HO492.out BK509.out (by decide))) (fun _ hk => ⟨hk.1.1.2, hk.1.2⟩))⟩, ⟨(Kd.R_mono (ztR (Kd.R_types HO500.out BK509.out (by decide))) (fun _ hk => ⟨hk.1.1.1.2, hk.1.2⟩))⟩, ⟨(Kd.R_mono (ztR (Kd.R_types HO506.out BK509.out (by decide))) (fun _ hk => ⟨hk.1.1.1.2, hk.1.2⟩))⟩, ⟨zp BK497⟩, ⟨zp BK503⟩, ⟨zp BK509⟩, ⟨zb HB⟩⟩
    case rest =>
     clear HC9
     try clear c1
     try clear c2
     try clear p2
     try clear c3
     try clear c4
     try clear c4b0
     try clear c4b1
     try clear c4b2
     try clear c5
     try clear c12
     try clear c18
     try clear c24
     try clear c25
     try clear c27
     try clear c27b0
     try clear c27b1
     try clear c27b2
     try clear c29
     try clear c31
     try clear c32
     try clear c34
     try clear c37
     try clear c38
     try clear c39
     try clear c40
     try clear c42
     try clear hcz13_0
     try clear hcz13_1
     try clear hcz19_0
     try clear hcz19_1
     try clear hcz20_0
     try clear hcz20_1
     try clear hcz26_0
     try clear hcz26_1
     try clear hcz33_0
     try clear hcz33_1
     try clear hcz35_0
     try clear hcz35_1
     try clear hcz37_0
     try clear hcz37_1
     try clear hcz41_0
     try clear hcz41_1
     try clear hcz43_0
     try clear hcz43_1
     try clear hfz13_0
     try clear hfz13_1
     try clear hfz19_0
     try clear hfz19_1
     try clear hfz20_0
     try clear hfz20_1
     try clear hfz26_0
     try clear hfz26_1
     try clear hfz33_0
     try clear hfz33_1
     try clear hfz35_0
     try clear hfz35_1
     try clear hfz37_0
     try clear hfz37_1
     try clear hfz41_0
     try clear hfz41_1
     try clear hfz43_0
     try clear hfz43_1
     try clear p2
     obtain ⟨kq, x52_8, rfl, HA, HJ8, HO_498000, HO_504000, HO_510000, BK497, BK503, BK509, HB⟩ := hcut
     cases kq with
     | zero => exact absurd HA.out (by simp [laws_FnHeadFixed.j1])
     | succ kj8 =>
      have H := HA.out
      clear HA
      simp only [laws_FnHeadFixed.j1] at H
      by_cases c45 : x52_8 = true
      ·subst c45
       rw [if_pos rfl] at H
       replace H := sp H
       rcases H with ⟨c46, H⟩ | ⟨c46, H⟩
       ·skip
        have c46b0 : (t508.toList == t502.toList) = true := beq_iff_eq.mpr c46
        have c46b1 : (t508.toList != t502.toList) = false := bne_eq_false_iff_eq.mpr c46
        clear c46
        obtain ⟨t512, A47, H⟩ := ob H
        (try dsimp only at H)
        obtain rfl := Option.some.inj H
        have hnb48 := NB509_497.out
        have hnc48 := NB497_509.out
        have hnb49 := NB509_503.out
        have hnc49 := NB503_509.out
        obtain ⟨hcz50_0, hcz50_1, hfz50_0, hfz50_1⟩ := c2 BK509
        have hnb51 := NB503_497.out
        have hnc51 := NB497_503.out
        obtain ⟨hcz52_0, hcz52_1, hfz52_0, hfz52_1⟩ := c2 BK503
        go_wp2_with (first | (go_at_call 17; (with_reducible refine (laws_lkTable.calls kj8 _ _ t504 t507 _ _ t498 t501 t512 _ ?side1 ?side2 ?side3 ?side4 A47.out).mono ?_); (case side1 => exact zc (Kd.R_reads' HO_510000.out).2.2); (case side2 => exact (Kd.R_reads' HO_510000.out).2.1); (case side3 => exact zc (Kd.R_reads' HO_504000.out).2.2); (case side4 => exact (Kd.R_reads' HO_504000.out).2.1); rintro e w53 ⟨rfl, hb⟩; replace HO_498000 := Aside0.mk (Kd.R_below (zr HO_498000) hb); replace HO_504000 := Aside0.mk (Kd.R_below (zr HO_504000) hb); replace HO_510000 := Aside0.mk (Kd.R_below (zr HO_510000) hb); replace BK497 := kb BK497 hb; replace BK503 := kb BK503 hb; replace BK509 := kb BK509 hb; replace HB := Aside0.mk (below_step (zb HB) hb); (try clear hb)))
        go_ret
        exact ⟨ze, zb HB⟩
       ·skip
        have c46b0 : (t508.toList == t502.toList) = false := beq_eq_false_iff_ne.mpr c46
        have c46b1 : (t508.toList != t502.toList) = true := bne_iff_ne.mpr c46
        obtain rfl := Option.some.inj H
        go_wp2
        go_ret
        exact ⟨ze, zb HB⟩
      ·replace c45 := Bool.eq_false_iff.mpr c45
       subst c45
       rw [if_neg (show ¬ (false = true) by decide)] at H
       obtain ⟨t513, A54, H⟩ := ob H
       (try dsimp only at H)
       by_cases cK : ((l1.length : Int) % 6) + 1 ≤ (t513.length : Int)
       rotate_left
       ·exact absurd H (by rw [if_neg cK]; simp)
       rw [if_pos cK] at H
       obtain ⟨y513, hy513⟩ : ∃ y, y = (t513.take (((l1.length : Int) % 6) + 1).toNat).drop ((l1.length : Int) % 6).toNat := ⟨_, rfl⟩
       rw [← hy513] at H
       have KY513 := Aside0.mk hy513
       have KK513 := Aside0.mk cK
       clear hy513 cK
       obtain ⟨⟨t516, t519, t520⟩, A55, H⟩ := ob H
       (try dsimp only at H)
       replace H := sp H
       rcases H with ⟨c56, H⟩ | ⟨c56, H⟩
       ·skip
        have c56b0 : ((t520.size : Int) == 1) = true := beq_iff_eq.mpr c56
        have c56b1 : ((t520.size : Int) != 1) = false := bne_eq_false_iff_eq.mpr c56
        clear c56
        by_cases c57 : 0 < (t520.size : Int)
        ·rw [if_pos c57] at H
         have c57b0 := decide_eq_true c57
         have c57b1 := decide_eq_true (by omega)
         clear c57
         by_cases c59 : (wrap64 (bt t520 0)) = ((128 + ((l1.length : Int) % 6)) + 1)
         ·rw [if_pos c59] at H
          have c59b0 : ((wrap64 (bt t520 0)) == ((128 + ((l1.length : Int) % 6)) + 1)) = true := beq_iff_eq.mpr c59
          have c59b1 : ((wrap64 (bt t520 0)) != ((128 + ((l1.length : Int) % 6)) + 1)) = false := bne_eq_false_iff_eq.mpr c59
          clear c59
          obtain ⟨t522, A60, H⟩ := ob H
          (try dsimp only at H)
          obtain rfl := Option.some.inj H
          try go_wp2
          replace HO_498000 := Aside0.mk (Kd.R_drew HO_498000.out)
          replace HO_504000 := Aside0.mk (Kd.R_drew HO_504000.out)
          replace HO_510000 := Aside0.mk (Kd.R_drew HO_510000.out)
          replace BK497 := Aside0.mk (blk_drew BK497.out)
          replace BK503 := Aside0.mk (blk_drew BK503.out)
          replace BK509 := Aside0.mk (blk_drew BK509.out)
          replace HB := Aside0.mk (below_drew1 HB.out)
          refine st 13 (b2 BK497) (fun hHeld => ?_); refine with_tabW laws_FnHeadFixed.tab9 laws_FnHeadFixed.bits9 (fun HT_ HW_ => ?_)
          generalize wc.drew = w61 at HO_498000 HO_504000 HO_510000 BK497 BK503 BK509 HB hHeld ⊢
          refine pu 2 (some 67) (bm 13 4) rfl rfl ?_
          refine pu 3 (some 68) (bm 13 12) rfl rfl ?_
          refine pu 4 (some 69) (bm 13 28) rfl rfl ?_
          refine tk 0 (some 65) (bm 13 29) rfl rfl hHeld ?_
          refine join_ (σ := Value × Value × Nat × Value) 2 #[true, true, true, true, true, true, true, true, true, true, true, false, false] (fun s_ => [(66, s_.1), (71, .tuple #[.agg #[s_.2.1, .int .i64 t519], .string t520]), (12, .pointer (some ⟨s_.2.2.1, 0, none⟩)), (70, s_.2.2.2), (64, .tuple #[.agg #[s_.2.1, .int .i64 t519], .string t520]), (72, .agg #[s_.2.1, .int .i64 t519]), (73, .string t520)]) (fun s_ w' => (w'.cell? ⟨gb497, 0, none⟩ = some (.slice Ao12 t490.length co12) ∧ w'.cell? ⟨gb497, 1, none⟩ = some (.int .i64 t493)) ∧ (Kd.R k36 36 w' w.heap.size (fun k_ => some k_ ≠ (s_.2.1 : Value).ownBlock ∧ some k_ ≠ (.slice Ao12 t490.length co12 : Value).ownBlock ∧ some k_ ≠ (.slice Ao17 t498.length co17 : Value).ownBlock ∧ some k_ ≠ (.slice Ao23 t504.length co23 : Value).ownBlock) s_.1 t513) ∧ (Kd.R k36 36 w' w.heap.size (fun k_ => some k_ ≠ (s_.1 : Value).ownBlock ∧ some k_ ≠ (.slice Ao12 t490.length co12 : Value).ownBlock ∧ some k_ ≠ (.slice Ao17 t498.length co17 : Value).ownBlock ∧ some k_ ≠ (.slice Ao23 t504.length co23 : Value).ownBlock) s_.2.1 t516) ∧ (Kd.R k36 36 w' w.heap.size (fun k_ => some k_ ≠ (s_.1 : Value).ownBlock ∧ some k_ ≠ (s_.2.1 : Value).ownBlock ∧ some k_ ≠ (.slice Ao17 t498.length co17 : Value).ownBlock ∧ some k_ ≠ (.slice Ao23 t504.length co23 : Value).ownBlock) (.slice Ao12 t490.length co12) t490) ∧ (Kd.R k36 36 w' w.heap.size (fun k_ => some k_ ≠ (s_.1 : Value).ownBlock ∧ some k_ ≠ (s_.2.1 : Value).ownBlock ∧ some k_ ≠ (.slice Ao12 t490.length co12 : Value).ownBlock ∧ some k_ ≠ (.slice Ao23 t504.length co23 : Value).ownBlock) (.slice Ao17 t498.length co17) t498) ∧ (Kd.R k36 36 w' w.heap.size (fun k_ => some k_ ≠ (s_.1 : Value).ownBlock ∧ some k_ ≠ (s_.2.1 : Value).ownBlock ∧ some k_ ≠ (.slice Ao12 t490.length co12 : Value).ownBlock ∧ some k_ ≠ (.slice Ao17 t498.length co17 : Value).ownBlock) (.slice Ao23 t504.length co23) t504) ∧ (w'.heap[gb497]? = some (.cells #[.slice Ao12 t490.length co12, .int .i64 t493] 25 (0, 0))) ∧ (w'.heap[gb503]? = some (.cells #[.slice Ao17 t498.length co17, .int .i64 t501] 25 (0, 0))) ∧ (w'.heap[gb509]? = some (.cells #[.slice Ao23 t504.length co23, .int .i64 t507] 25 (0, 0))) ∧ (w'.heap[s_.2.2.1]? = some (.cells #[.slice none 0 0, .int .i64 0] 25 (0, 0))) ∧ (w.heap.size ≤ s_.2.2.1) ∧ (w.heap.size ≤ s_.2.2.1) ∧ (gb497 ≠ s_.2.2.1) ∧ (s_.2.2.1 ≠ gb497) ∧ (gb503 ≠ s_.2.2.1) ∧ (s_.2.2.1 ≠ gb503) ∧ (gb509 ≠ s_.2.2.1) ∧ (s_.2.2.1 ≠ gb509) ∧ (Below w.heap.size w w')) ?_ ?_
          rotate_left
          ·intro hCont
           refine two_ (i := 1) (j := 10) (Ni := some 66) (Nj := some 12) #[true, true, true, true, true, false, false, false, false, false, false, false, false] #[true, false, true, true, true, false, false, false, false, false, true, false, false] rfl rfl rfl rfl (two_of HT_.out (by kernel_rfl)) (by decide) (by decide) (fun K hK => ?_) (fun K hK => ?_)
           ·skip
            refine gs Try.func34 #[] ?_
            with_reducible refine (impl_TableFixed.calls  t513 _ A54.out).mono ?_
            rintro e w62 ⟨v514, rfl, ho0, hb⟩
            refine ⟨_, rfl, ?_⟩
            have HO515 := Aside0.mk (Kd.R_lower (Kd.R_new' (Kd.R_new' (Kd.R_new' ho0 (Kd.R_lt (zr HO_498000))) (Kd.R_lt (zr HO_504000))) (Kd.R_lt (zr HO_510000))) (below_size (zb HB)))
            replace HO_498000 := Aside0.mk (Kd.R_elder' (zr HO_498000) (Kd.R_base ho0) hb)
            replace HO_504000 := Aside0.mk (Kd.R_elder' (zr HO_504000) (Kd.R_base ho0) hb)
            replace HO_510000 := Aside0.mk (Kd.R_elder' (zr HO_510000) (Kd.R_base ho0) hb)
            replace BK497 := kb BK497 hb
            replace BK503 := kb BK503 hb
            replace BK509 := kb BK509 hb
            replace HB := Aside0.mk (below_step (zb HB) hb)
            (try clear hb)
            (try clear ho0)
            obtain ⟨Ao63, co63, eo63⟩ := Kd.R_slice HO515.out
            (first | subst eo63 | (injection eo63 with f1_ f2_ f3_; have f4_ := f1_.symm; have f5_ := f3_.symm; clear f1_ f2_ f3_; subst f4_; subst f5_))
            refine hK.out _ _ (b2 BK497) (fun hHeld => ?_)
            clear hK K
            refine nm ?_
            obtain ⟨AZ, cZ, hcutZ, HCZ, HMZ⟩ := fixed_cut Ao63 t513 y513 co63 ((l1.length : Int) % 6) (by omega) (by omega) KK513.out (Kd.R_reads' HO515.out).2.1 KY513.out
            refine pu 5 (some 70) (bm 13 63) rfl rfl ?_
            refine two_ (i := 6) (j := 10) (Ni := some 71) (Nj := some 12) #[true, true, true, true, true, true, true, false, false, false, false, false, false] #[true, true, true, true, true, true, false, false, false, false, true, false, false] rfl rfl rfl rfl (two_of HT_.out (by kernel_rfl)) (by decide) (by decide) (fun K hK => ?_) (fun K hK => ?_)
            ·skip
             refine gs Try.func39 #[.agg #[.slice Ao12 t490.length co12, .int .i64 t493], .slice AZ y513.length cZ] ?_
             with_reducible refine (impl_HeadWrite.calls kj8 _ _ t490 t493 _ _ y513 t516 t519 t520 _ ?side1 ?side2 ?side3 ?side4 A55.out).mono ?_
             (case side1 => exact zc (Kd.R_reads' HO_498000.out).2.2)
             (case side2 => exact (Kd.R_reads' HO_498000.out).2.1)
             (case side3 => exact zc (HMZ.out _ (Kd.R_reads' HO515.out).2.2))
             (case side4 => exact HCZ.out)
             rintro e w64 ⟨v517, rfl, ho0, hb⟩
             refine ⟨_, rfl, ?_⟩
             have HO518 := Aside0.mk (Kd.R_lower (Kd.R_new' (Kd.R_new' (Kd.R_new' (Kd.R_new' ho0 (Kd.R_lt (zr HO_498000))) (Kd.R_lt (zr HO_504000))) (Kd.R_lt (zr HO_510000))) (Kd.R_lt (zr HO515))) (below_size (zb HB)))
             replace HO_498000 := Aside0.mk (Kd.R_elder' (zr HO_498000) (Kd.R_base ho0) hb)
             replace HO_504000 := Aside0.mk (Kd.R_elder' (zr HO_504000) (Kd.R_base ho0) hb)
             replace HO_510000 := Aside0.mk (Kd.R_elder' (zr HO_510000) (Kd.R_base ho0) hb)
             replace HO515 := Aside0.mk (Kd.R_elder' (zr HO515) (Kd.R_base ho0) hb)
             replace BK497 := kb BK497 hb
             replace BK503 := kb BK503 hb
             replace BK509 := kb BK509 hb
             replace HB := Aside0.mk (below_step (zb HB) hb)
             (try clear hb)
             (try clear ho0)
             refine hK.out _ _ (b2 BK497) (fun hHeld => ?_)
             clear hK K
             refine nm ?_
             refine pu 7 (some 64) (bm 13 255) rfl rfl ?_
             refine pu 8 (some 72) (bm 13 511) rfl rfl ?_
             refine pu 9 (some 73) (bm 13 1023) rfl rfl ?_
             refine one_ (i := 10) (N := some 12) (bm 13 2047) rfl rfl (one_of HT_.out (by kernel_rfl)) (by decide) (fun K hK => ?_)
             refine box_step ?hg (N := 12) ?hd (cs := #[.slice none 0 0, .int .i64 0]) (t := 25) ?hr ?_; (case hd => rfl); (case hg => rfl); (case hr => first | (go_simp; done) | (go_simp; rfl))
             intro gb521 hg w65 hbox hb
             replace HO_498000 := Aside0.mk (Kd.R_below (zr HO_498000) hb)
             replace HO_504000 := Aside0.mk (Kd.R_below (zr HO_504000) hb)
             replace HO_510000 := Aside0.mk (Kd.R_below (zr HO_510000) hb)
             replace HO515 := Aside0.mk (Kd.R_below (zr HO515) hb)
             replace HO518 := Aside0.mk (Kd.R_below (zr HO518) hb)
             have BK521 := Aside0.mk (hbox)
             have GW521 := gw HB hg
             have GE521 := gw HB hg
             replace HB := Aside0.mk (below_step (zb HB) hb)
             have NB497_521 := Aside0.mk ((by rw [hg]; exact Nat.ne_of_lt (blk_lt (zk BK497)) : gb497 ≠ gb521))
             have NB521_497 := Aside0.mk ((by rw [hg]; exact Nat.ne_of_gt (blk_lt (zk BK497)) : gb521 ≠ gb497))
             replace BK497 := kb BK497 hb
             have NB503_521 := Aside0.mk ((by rw [hg]; exact Nat.ne_of_lt (blk_lt (zk BK503)) : gb503 ≠ gb521))
             have NB521_503 := Aside0.mk ((by rw [hg]; exact Nat.ne_of_gt (blk_lt (zk BK503)) : gb521 ≠ gb503))
             replace BK503 := kb BK503 hb
             have NB509_521 := Aside0.mk ((by rw [hg]; exact Nat.ne_of_lt (blk_lt (zk BK509)) : gb509 ≠ gb521))
             have NB521_509 := Aside0.mk ((by rw [hg]; exact Nat.ne_of_gt (blk_lt (zk BK509)) : gb521 ≠ gb509))
             replace BK509 := kb BK509 hb
             clear hb hbox hg
             refine hK.out _ _ (b2 BK497) (fun hHeld => ?_)
             clear hK K
             refine nm ?_
             exact norm_ (by simp only [putAll, Act.put, s1, s2, s3]) (hCont (.slice Ao63 t513.length co63, v517, gb521, .slice AZ y513.length cZ) _ ⟨hHeld, (zq (Kd.R_mono HO515.out (fun _ hk => ⟨hk.2, ⟨hk.1.1.1.2, ⟨hk.1.1.2, hk.1.2⟩⟩⟩))), (zq (Kd.R_mono HO518.out (fun _ hk => ⟨hk.2, ⟨hk.1.1.1.2, ⟨hk.1.1.2, hk.1.2⟩⟩⟩))), (zq (Kd.R_mono HO_498000.out (fun _ hk => ⟨hk.1.2, ⟨hk.2, ⟨hk.1.1.1, hk.1.1.2⟩⟩⟩))), (zq (Kd.R_mono HO_504000.out (fun _ hk => ⟨hk.1.2, ⟨hk.2, ⟨hk.1.1.1, hk.1.1.2⟩⟩⟩))), (zq (Kd.R_mono HO_510000.out (fun _ hk => ⟨hk.1.2, ⟨hk.2, ⟨hk.1.1.1, hk.1.1.2⟩⟩⟩))), (zk BK497), (zk BK503), (zk BK509), (zk BK521), GW521.out, GE521.out, NB497_521.out, NB521_497.out, NB503_521.out, NB521_503.out, NB509_521.out, NB521_509.out, (zb HB)⟩)
            ·skip
             refine box_step ?hg (N := 12) ?hd (cs := #[.slice none 0 0, .int .i64 0]) (t := 25) ?hr ?_; (case hd => rfl); (case hg => rfl); (case hr => first | (go_simp; done) | (go_simp; rfl))
             intro gb521 hg w63 hbox hb
             replace HO_498000 := Aside0.mk (Kd.R_below (zr HO_498000) hb)
             replace HO_504000 := Aside0.mk (Kd.R_below (zr HO_504000) hb)
             replace HO_510000 := Aside0.mk (Kd.R_below (zr HO_510000) hb)
             replace HO515 := Aside0.mk (Kd.R_below (zr HO515) hb)
             have BK521 := Aside0.mk (hbox)
             have GW521 := gw HB hg
             have GE521 := gw HB hg
             replace HB := Aside0.mk (below_step (zb HB) hb)
             have NB497_521 := Aside0.mk ((by rw [hg]; exact Nat.ne_of_lt (blk_lt (zk BK497)) : gb497 ≠ gb521))
             have NB521_497 := Aside0.mk ((by rw [hg]; exact Nat.ne_of_gt (blk_lt (zk BK497)) : gb521 ≠ gb497))
             replace BK497 := kb BK497 hb
             have NB503_521 := Aside0.mk ((by rw [hg]; exact Nat.ne_of_lt (blk_lt (zk BK503)) : gb503 ≠ gb521))
             have NB521_503 := Aside0.mk ((by rw [hg]; exact Nat.ne_of_gt (blk_lt (zk BK503)) : gb521 ≠ gb503))
             replace BK503 := kb BK503 hb
             have NB509_521 := Aside0.mk ((by rw [hg]; exact Nat.ne_of_lt (blk_lt (zk BK509)) : gb509 ≠ gb521))
             have NB521_509 := Aside0.mk ((by rw [hg]; exact Nat.ne_of_gt (blk_lt (zk BK509)) : gb521 ≠ gb509))
             replace BK509 := kb BK509 hb
             clear hb hbox hg
             obtain ⟨Ao64, co64, eo64⟩ := Kd.R_slice HO515.out
             (first | subst eo64 | (injection eo64 with f1_ f2_ f3_; have f4_ := f1_.symm; have f5_ := f3_.symm; clear f1_ f2_ f3_; subst f4_; subst f5_))
             refine hK.out _ _ (b2 BK497) (fun hHeld => ?_)
             clear hK K
             refine nm ?_
             refine one_ (i := 6) (N := some 71) (bm 13 1151) rfl rfl (one_of HT_.out (by kernel_rfl)) (by decide) (fun K hK => ?_)
             refine gs Try.func39 #[.agg #[.slice Ao12 t490.length co12, .int .i64 t493], .slice AZ y513.length cZ] ?_
             with_reducible refine (impl_HeadWrite.calls kj8 _ _ t490 t493 _ _ y513 t516 t519 t520 _ ?side1 ?side2 ?side3 ?side4 A55.out).mono ?_
             (case side1 => exact zc (Kd.R_reads' HO_498000.out).2.2)
             (case side2 => exact (Kd.R_reads' HO_498000.out).2.1)
             (case side3 => exact zc (HMZ.out _ (Kd.R_reads' HO515.out).2.2))
             (case side4 => exact HCZ.out)
             rintro e w65 ⟨v517, rfl, ho0, hb⟩
             refine ⟨_, rfl, ?_⟩
             have HO518 := Aside0.mk (Kd.R_lower (Kd.R_new' (Kd.R_new' (Kd.R_new' (Kd.R_new' ho0 (Kd.R_lt (zr HO_498000))) (Kd.R_lt (zr HO_504000))) (Kd.R_lt (zr HO_510000))) (Kd.R_lt (zr HO515))) (below_size (zb HB)))
             replace HO_498000 := Aside0.mk (Kd.R_elder' (zr HO_498000) (Kd.R_base ho0) hb)
             replace HO_504000 := Aside0.mk (Kd.R_elder' (zr HO_504000) (Kd.R_base ho0) hb)
             replace HO_510000 := Aside0.mk (Kd.R_elder' (zr HO_510000) (Kd.R_base ho0) hb)
             replace HO515 := Aside0.mk (Kd.R_elder' (zr HO515) (Kd.R_base ho0) hb)
             replace BK497 := kb BK497 hb
             replace BK503 := kb BK503 hb
             replace BK509 := kb BK509 hb
             replace BK521 := kb BK521 hb
             replace HB := Aside0.mk (below_step (zb HB) hb)
             (try clear hb)
             (try clear ho0)
             refine hK.out _ _ (b2 BK497) (fun hHeld => ?_)
             clear hK K
             refine nm ?_
             refine pu 7 (some 64) (bm 13 1279) rfl rfl ?_
             refine pu 8 (some 72) (bm 13 1535) rfl rfl ?_
             refine pu 9 (some 73) (bm 13 2047) rfl rfl ?_
             exact norm_ (by simp only [putAll, Act.put, s1, s2, s3]) (hCont (.slice Ao64 t513.length co64, v517, gb521, .slice AZ y513.length cZ) _ ⟨hHeld, (zq (Kd.R_mono HO515.out (fun _ hk => ⟨hk.2, ⟨hk.1.1.1.2, ⟨hk.1.1.2, hk.1.2⟩⟩⟩))), (zq (Kd.R_mono HO518.out (fun _ hk => ⟨hk.2, ⟨hk.1.1.1.2, ⟨hk.1.1.2, hk.1.2⟩⟩⟩))), (zq (Kd.R_mono HO_498000.out (fun _ hk => ⟨hk.1.2, ⟨hk.2, ⟨hk.1.1.1, hk.1.1.2⟩⟩⟩))), (zq (Kd.R_mono HO_504000.out (fun _ hk => ⟨hk.1.2, ⟨hk.2, ⟨hk.1.1.1, hk.1.1.2⟩⟩⟩))), (zq (Kd.R_mono HO_510000.out (fun _ hk => ⟨hk.1.2, ⟨hk.2, ⟨hk.1.1.1, hk.1.1.2⟩⟩⟩))), (zk BK497), (zk BK503), (zk BK509), (zk BK521), GW521.out, GE521.out, NB497_521.out, NB521_497.out, NB503_521.out, NB521_503.out, NB509_521.out, NB521_509.out, (zb HB)⟩)
           ·skip
            refine box_step ?hg (N := 12) ?hd (cs := #[.slice none 0 0, .int .i64 0]) (t := 25) ?hr ?_; (case hd => rfl); (case hg => rfl); (case hr => first | (go_simp; done) | (go_simp; rfl))
            intro gb521 hg w62 hbox hb
            replace HO_498000 := Aside0.mk (Kd.R_below (zr HO_498000) hb)
            replace HO_504000 := Aside0.mk (Kd.R_below (zr HO_504000) hb)
            replace HO_510000 := Aside0.mk (Kd.R_below (zr HO_510000) hb)
            have BK521 := Aside0.mk (hbox)
            have GW521 := gw HB hg
            have GE521 := gw HB hg
            replace HB := Aside0.mk (below_step (zb HB) hb)
            have NB497_521 := Aside0.mk ((by rw [hg]; exact Nat.ne_of_lt (blk_lt (zk BK497)) : gb497 ≠ gb521))
            have NB521_497 := Aside0.mk ((by rw [hg]; exact Nat.ne_of_gt (blk_lt (zk BK497)) : gb521 ≠ gb497))
            replace BK497 := kb BK497 hb
            have NB503_521 := Aside0.mk ((by rw [hg]; exact Nat.ne_of_lt (blk_lt (zk BK503)) : gb503 ≠ gb521))
            have NB521_503 := Aside0.mk ((by rw [hg]; exact Nat.ne_of_gt (blk_lt (zk BK503)) : gb521 ≠ gb503))
            replace BK503 := kb BK503 hb
            have NB509_521 := Aside0.mk ((by rw [hg]; exact Nat.ne_of_lt (blk_lt (zk BK509)) : gb509 ≠ gb521))
            have NB521_509 := Aside0.mk ((by rw [hg]; exact Nat.ne_of_gt (blk_lt (zk BK509)) : gb521 ≠ gb509))
            replace BK509 := kb BK509 hb
            clear hb hbox hg
            refine hK.out _ _ (b2 BK497) (fun hHeld => ?_)
            clear hK K
            refine nm ?_
            refine one_ (i := 1) (N := some 66) (bm 13 1055) rfl rfl (one_of HT_.out (by kernel_rfl)) (by decide) (fun K hK => ?_)
            refine gs Try.func34 #[] ?_
            with_reducible refine (impl_TableFixed.calls  t513 _ A54.out).mono ?_
            rintro e w63 ⟨v514, rfl, ho0, hb⟩
            refine ⟨_, rfl, ?_⟩
            have HO515 := Aside0.mk (Kd.R_lower (Kd.R_new' (Kd.R_new' (Kd.R_new' ho0 (Kd.R_lt (zr HO_498000))) (Kd.R_lt (zr HO_504000))) (Kd.R_lt (zr HO_510000))) (below_size (zb HB)))
            replace HO_498000 := Aside0.mk (Kd.R_elder' (zr HO_498000) (Kd.R_base ho0) hb)
            replace HO_504000 := Aside0.mk (Kd.R_elder' (zr HO_504000) (Kd.R_base ho0) hb)
            replace HO_510000 := Aside0.mk (Kd.R_elder' (zr HO_510000) (Kd.R_base ho0) hb)
            replace BK497 := kb BK497 hb
            replace BK503 := kb BK503 hb
            replace BK509 := kb BK509 hb
            replace BK521 := kb BK521 hb
            replace HB := Aside0.mk (below_step (zb HB) hb)
            (try clear hb)
            (try clear ho0)
            obtain ⟨Ao64, co64, eo64⟩ := Kd.R_slice HO515.out
            (first | subst eo64 | (injection eo64 with f1_ f2_ f3_; have f4_ := f1_.symm; have f5_ := f3_.symm; clear f1_ f2_ f3_; subst f4_; subst f5_))
            refine hK.out _ _ (b2 BK497) (fun hHeld => ?_)
            clear hK K
            refine nm ?_
            obtain ⟨AZ, cZ, hcutZ, HCZ, HMZ⟩ := fixed_cut Ao64 t513 y513 co64 ((l1.length : Int) % 6) (by omega) (by omega) KK513.out (Kd.R_reads' HO515.out).2.1 KY513.out
            refine pu 5 (some 70) (bm 13 1087) rfl rfl ?_
            refine one_ (i := 6) (N := some 71) (bm 13 1151) rfl rfl (one_of HT_.out (by kernel_rfl)) (by decide) (fun K hK => ?_)
            refine gs Try.func39 #[.agg #[.slice Ao12 t490.length co12, .int .i64 t493], .slice AZ y513.length cZ] ?_
            with_reducible refine (impl_HeadWrite.calls kj8 _ _ t490 t493 _ _ y513 t516 t519 t520 _ ?side1 ?side2 ?side3 ?side4 A55.out).mono ?_
            (case side1 => exact zc (Kd.R_reads' HO_498000.out).2.2)
            (case side2 => exact (Kd.R_reads' HO_498000.out).2.1)
            (case side3 => exact zc (HMZ.out _ (Kd.R_reads' HO515.out).2.2))
            (case side4 => exact HCZ.out)
            rintro e w65 ⟨v517, rfl, ho0, hb⟩
            refine ⟨_, rfl, ?_⟩
            have HO518 := Aside0.mk (Kd.R_lower (Kd.R_new' (Kd.R_new' (Kd.R_new' (Kd.R_new' ho0 (Kd.R_lt (zr HO_498000))) (Kd.R_lt (zr HO_504000))) (Kd.R_lt (zr HO_510000))) (Kd.R_lt (zr HO515))) (below_size (zb HB)))
            replace HO_498000 := Aside0.mk (Kd.R_elder' (zr HO_498000) (Kd.R_base ho0) hb)
            replace HO_504000 := Aside0.mk (Kd.R_elder' (zr HO_504000) (Kd.R_base ho0) hb)
            replace HO_510000 := Aside0.mk (Kd.R_elder' (zr HO_510000) (Kd.R_base ho0) hb)
            replace HO515 := Aside0.mk (Kd.R_elder' (zr HO515) (Kd.R_base ho0) hb)
            replace BK497 := kb BK497 hb
            replace BK503 := kb BK503 hb
            replace BK509 := kb BK509 hb
            replace BK521 := kb BK521 hb
            replace HB := Aside0.mk (below_step (zb HB) hb)
            (try clear hb)
            (try clear ho0)
            refine hK.out _ _ (b2 BK497) (fun hHeld => ?_)
            clear hK K
            refine nm ?_
            refine pu 7 (some 64) (bm 13 1279) rfl rfl ?_
            refine pu 8 (some 72) (bm 13 1535) rfl rfl ?_
            refine pu 9 (some 73) (bm 13 2047) rfl rfl ?_
            exact norm_ (by simp only [putAll, Act.put, s1, s2, s3]) (hCont (.slice Ao64 t513.length co64, v517, gb521, .slice AZ y513.length cZ) _ ⟨hHeld, (zq (Kd.R_mono HO515.out (fun _ hk => ⟨hk.2, ⟨hk.1.1.1.2, ⟨hk.1.1.2, hk.1.2⟩⟩⟩))), (zq (Kd.R_mono HO518.out (fun _ hk => ⟨hk.2, ⟨hk.1.1.1.2, ⟨hk.1.1.2, hk.1.2⟩⟩⟩))), (zq (Kd.R_mono HO_498000.out (fun _ hk => ⟨hk.1.2, ⟨hk.2, ⟨hk.1.1.1, hk.1.1.2⟩⟩⟩))), (zq (Kd.R_mono HO_504000.out (fun _ hk => ⟨hk.1.2, ⟨hk.2, ⟨hk.1.1.1, hk.1.1.2⟩⟩⟩))), (zq (Kd.R_mono HO_510000.out (fun _ hk => ⟨hk.1.2, ⟨hk.2, ⟨hk.1.1.1, hk.1.1.2⟩⟩⟩))), (zk BK497), (zk BK503), (zk BK509), (zk BK521), GW521.out, GE521.out, NB497_521.out, NB521_497.out, NB503_521.out, NB521_503.out, NB509_521.out, NB521_509.out, (zb HB)⟩)
          rintro ⟨v514, v517, gb521, v70_⟩ w66 ⟨hS_, h0_, h1_, h2_, h3_, h4_, h5_, h6_, h7_, h8_, h9_, h10_, h11_, h12_, h13_, h14_, h15_, h16_, h17_⟩
          have n0_ : Aside0 (Kd.R k36 36 w66 w.heap.size (fun k_ => some k_ ≠ (v517 : Value).ownBlock ∧ some k_ ≠ (.slice Ao12 t490.length co12 : Value).ownBlock ∧ some k_ ≠ (.slice Ao17 t498.length co17 : Value).ownBlock ∧ some k_ ≠ (.slice Ao23 t504.length co23 : Value).ownBlock) v514 t513) := ⟨h0_⟩
          have n1_ : Aside0 (Kd.R k36 36 w66 w.heap.size (fun k_ => some k_ ≠ (v514 : Value).ownBlock ∧ some k_ ≠ (.slice Ao12 t490.length co12 : Value).ownBlock ∧ some k_ ≠ (.slice Ao17 t498.length co17 : Value).ownBlock ∧ some k_ ≠ (.slice Ao23 t504.length co23 : Value).ownBlock) v517 t516) := ⟨h1_⟩
          have n2_ : Aside0 (Kd.R k36 36 w66 w.heap.size (fun k_ => some k_ ≠ (v514 : Value).ownBlock ∧ some k_ ≠ (v517 : Value).ownBlock ∧ some k_ ≠ (.slice Ao17 t498.length co17 : Value).ownBlock ∧ some k_ ≠ (.slice Ao23 t504.length co23 : Value).ownBlock) (.slice Ao12 t490.length co12) t490) := ⟨h2_⟩
          have n3_ : Aside0 (Kd.R k36 36 w66 w.heap.size (fun k_ => some k_ ≠ (v514 : Value).ownBlock ∧ some k_ ≠ (v517 : Value).ownBlock ∧ some k_ ≠ (.slice Ao12 t490.length co12 : Value).ownBlock ∧ some k_ ≠ (.slice Ao23 t504.length co23 : Value).ownBlock) (.slice Ao17 t498.length co17) t498) := ⟨h3_⟩
          have n4_ : Aside0 (Kd.R k36 36 w66 w.heap.size (fun k_ => some k_ ≠ (v514 : Value).ownBlock ∧ some k_ ≠ (v517 : Value).ownBlock ∧ some k_ ≠ (.slice Ao12 t490.length co12 : Value).ownBlock ∧ some k_ ≠ (.slice Ao17 t498.length co17 : Value).ownBlock) (.slice Ao23 t504.length co23) t504) := ⟨h4_⟩
          have n5_ : Aside0 (w66.heap[gb497]? = some (.cells #[.slice Ao12 t490.length co12, .int .i64 t493] 25 (0, 0))) := ⟨h5_⟩
          have n6_ : Aside0 (w66.heap[gb503]? = some (.cells #[.slice Ao17 t498.length co17, .int .i64 t501] 25 (0, 0))) := ⟨h6_⟩
          have n7_ : Aside0 (w66.heap[gb509]? = some (.cells #[.slice Ao23 t504.length co23, .int .i64 t507] 25 (0, 0))) := ⟨h7_⟩
          have n8_ : Aside0 (w66.heap[gb521]? = some (.cells #[.slice none 0 0, .int .i64 0] 25 (0, 0))) := ⟨h8_⟩
          have n9_ : Aside0 (w.heap.size ≤ gb521) := ⟨h9_⟩
          have n10_ : Aside0 (w.heap.size ≤ gb521) := ⟨h10_⟩
          have n11_ : Aside0 (gb497 ≠ gb521) := ⟨h11_⟩
          have n12_ : Aside0 (gb521 ≠ gb497) := ⟨h12_⟩
          have n13_ : Aside0 (gb503 ≠ gb521) := ⟨h13_⟩
          have n14_ : Aside0 (gb521 ≠ gb503) := ⟨h14_⟩
          have n15_ : Aside0 (gb509 ≠ gb521) := ⟨h15_⟩
          have n16_ : Aside0 (gb521 ≠ gb509) := ⟨h16_⟩
          have n17_ : Aside0 (Below w.heap.size w w66) := ⟨h17_⟩
          clear HO_498000
          clear HO_504000
          clear HO_510000
          clear BK497
          clear BK503
          clear BK509
          clear HB
          clear h0_ h1_ h2_ h3_ h4_ h5_ h6_ h7_ h8_ h9_ h10_ h11_ h12_ h13_ h14_ h15_ h16_ h17_
          have HO515 := n0_
          have HO518 := n1_
          have HO_498000 := n2_
          have HO_504000 := n3_
          have HO_510000 := n4_
          have BK497 := n5_
          have BK503 := n6_
          have BK509 := n7_
          have BK521 := n8_
          have GW521 := n9_
          have GE521 := n10_
          have NB497_521 := n11_
          have NB521_497 := n12_
          have NB503_521 := n13_
          have NB521_503 := n14_
          have NB509_521 := n15_
          have NB521_509 := n16_
          have HB := n17_
          clear n0_ n1_ n2_ n3_ n4_ n5_ n6_ n7_ n8_ n9_ n10_ n11_ n12_ n13_ n14_ n15_ n16_ n17_
          have hHeld : w66.cell? ⟨gb497, 0, none⟩ = some (.slice Ao12 t490.length co12) ∧ w66.cell? ⟨gb497, 1, none⟩ = some (.int .i64 t493) := hS_
          obtain ⟨Ao67, co67, eo67⟩ := Kd.R_slice HO518.out
          (first | subst eo67 | (injection eo67 with f1_ f2_ f3_; have f4_ := f1_.symm; have f5_ := f3_.symm; clear f1_ f2_ f3_; subst f4_; subst f5_))
          refine norm_ (a' := ?_) ?_ ?_
          rotate_left
          ·simp only [putAll, Act.put, s1, s2, s3]
           rfl
          refine one_ (i := 11) (N := none) (bm 13 4095) rfl rfl (one_of HT_.out (by kernel_rfl)) (by decide) (fun K hK => ?_)
          have hs68 : w66.cell? ⟨gb521, 0, none⟩ = some (.slice none 0 0) := (blk_cell BK521.out 0).trans rfl
          have hfs68 := blk_frozen BK521.out 0
          have hns68_0 := NB497_521.out
          have hns68_1 := NB503_521.out
          have hns68_2 := NB509_521.out
          have hms68_0 := NB521_497.out
          have hms68_1 := NB521_503.out
          have hms68_2 := NB521_509.out
          have hs69 : w66.cell? ⟨gb521, 1, none⟩ = some (.int .i64 0) := (blk_cell BK521.out 1).trans rfl
          have hfs69 := blk_frozen BK521.out 1
          have hns69_0 := NB497_521.out
          have hns69_1 := NB503_521.out
          have hns69_2 := NB509_521.out
          have hms69_0 := NB521_497.out
          have hms69_1 := NB521_503.out
          have hms69_2 := NB521_509.out
          refine skip_ (w1 := ?_) (by rfl) rfl ?_ ?_
          rotate_left
          ·go_simp
           rfl
          refine hK.out _ _ ⟨((cell_far (p := ⟨gb521, _, none⟩) NB497_521.out _).trans (((cell_far (p := ⟨gb521, _, none⟩) NB497_521.out _).trans (hHeld.1)))), ((cell_far (p := ⟨gb521, _, none⟩) NB497_521.out _).trans (((cell_far (p := ⟨gb521, _, none⟩) NB497_521.out _).trans (hHeld.2))))⟩ (fun hHeld => ?_)
          clear hK K
          refine pu 12 (some 13) (bm 13 8191) rfl rfl ?_
          refine done_ (done_of HT_.out (by kernel_rfl)) ?_
          have p58 : 0 ≤ (0 : Int) := (by omega)
          have q58 : 0 < t520.size := (by have : (0 : Int) < (t520.size : Int) := of_decide_eq_true za; omega)
          have hx58 : ∀ h : 0 < t520.size, ((t520[0]'h).toNat : Int) = bt t520 0 := bt_at t520 0
          clear p58
          have qi58 : (0 < (t520.size : Int)) = True := eq_true (of_decide_eq_true za)
          replace q58 := eq_true q58
          have hnb70 := NB521_497.out
          have hnc70 := NB497_521.out
          have hnb71 := NB521_503.out
          have hnc71 := NB503_521.out
          have hnb72 := NB521_509.out
          have hnc72 := NB509_521.out
          obtain ⟨hcz73_0, hcz73_1, hfz73_0, hfz73_1⟩ := c2 BK521
          have hnb74 := NB497_503.out
          have hnc74 := NB503_497.out
          have hnb75 := NB497_509.out
          have hnc75 := NB509_497.out
          obtain ⟨hcz76_0, hcz76_1, hfz76_0, hfz76_1⟩ := c2 BK497
          try go_wp2_with (first | (go_at_call 17; (with_reducible refine (laws_lkTable.calls kj8 _ _ t516 t519 _ _ t490 t493 t522 _ ?side1 ?side2 ?side3 ?side4 A60.out).mono ?_); (case side1 => refine (Kd.R_reads' (e := 36) (base := w.heap.size) (ok := fun k_ => (some k_ ≠ (v514 : Value).ownBlock ∧ (some k_ ≠ (.slice Ao12 t490.length co12 : Value).ownBlock ∧ (some k_ ≠ (.slice Ao17 t498.length co17 : Value).ownBlock ∧ some k_ ≠ (.slice Ao23 t504.length co23 : Value).ownBlock)))) (n := t516.length) (c := co67) ?_).2.2; exact (((Kd.R_mono (ztR (Kd.R_types HO518.out BK521.out (by decide))) (fun _ h_ => h_.1))))); (case side2 => exact (Kd.R_reads' HO518.out).2.1); (case side3 => refine (Kd.R_reads' (e := 36) (base := w.heap.size) (ok := fun k_ => (some k_ ≠ (v514 : Value).ownBlock ∧ (some k_ ≠ (.slice Ao67 t516.length co67 : Value).ownBlock ∧ (some k_ ≠ (.slice Ao17 t498.length co17 : Value).ownBlock ∧ some k_ ≠ (.slice Ao23 t504.length co23 : Value).ownBlock)))) (n := t490.length) (c := co12) ?_).2.2; exact (((Kd.R_mono (ztR (Kd.R_types HO_498000.out BK521.out (by decide))) (fun _ h_ => h_.1))))); (case side4 => exact (Kd.R_reads' HO_498000.out).2.1); rintro e w77 ⟨rfl, hb⟩; replace HO_498000 := Aside0.mk (Kd.R_below (((Kd.R_mono (ztR (Kd.R_types HO_498000.out BK521.out (by decide))) (fun _ h_ => h_.1)))) hb); replace HO_504000 := Aside0.mk (Kd.R_below (((Kd.R_mono (ztR (Kd.R_types HO_504000.out BK521.out (by decide))) (fun _ h_ => h_.1)))) hb); replace HO_510000 := Aside0.mk (Kd.R_below (((Kd.R_mono (ztR (Kd.R_types HO_510000.out BK521.out (by decide))) (fun _ h_ => h_.1)))) hb); replace HO515 := Aside0.mk (Kd.R_below (((Kd.R_mono (ztR (Kd.R_types HO515.out BK521.out (by decide))) (fun _ h_ => h_.1)))) hb); replace HO518 := Aside0.mk (Kd.R_below (((Kd.R_mono (ztR (Kd.R_types HO518.out BK521.out (by decide))) (fun _ h_ => h_.1)))) hb); replace BK497 := Aside0.mk (blk_below (g := gb497) (o := .cells #[.slice Ao12 t490.length co12, .int .i64 t493] 25 (0, 0)) (zp BK497) hb); replace BK503 := Aside0.mk (blk_below (g := gb503) (o := .cells #[.slice Ao17 t498.length co17, .int .i64 t501] 25 (0, 0)) (zp BK503) hb); replace BK509 := Aside0.mk (blk_below (g := gb509) (o := .cells #[.slice Ao23 t504.length co23, .int .i64 t507] 25 (0, 0)) (zp BK509) hb); replace BK521 := Aside0.mk (blk_below (g := gb521) (o := .cells #[.slice Ao67 t516.length co67, .int .i64 t519] 25 (0, 0)) (zp BK521) hb); replace HB := Aside0.mk (below_step (zb HB) hb); (try clear hb); (try clear hk)))
          go_ret
          exact ⟨ze, zb HB⟩
         ·rw [if_neg c59] at H
          have c59b0 : ((wrap64 (bt t520 0)) == ((128 + ((l1.length : Int) % 6)) + 1)) = false := beq_eq_false_iff_ne.mpr c59
          have c59b1 : ((wrap64 (bt t520 0)) != ((128 + ((l1.length : Int) % 6)) + 1)) = true := bne_iff_ne.mpr c59
          obtain rfl := Option.some.inj H
          try go_wp2
          replace HO_498000 := Aside0.mk (Kd.R_drew HO_498000.out)
          replace HO_504000 := Aside0.mk (Kd.R_drew HO_504000.out)
          replace HO_510000 := Aside0.mk (Kd.R_drew HO_510000.out)
          replace BK497 := Aside0.mk (blk_drew BK497.out)
          replace BK503 := Aside0.mk (blk_drew BK503.out)
          replace BK509 := Aside0.mk (blk_drew BK509.out)
          replace HB := Aside0.mk (below_drew1 HB.out)
          refine st 13 (b2 BK497) (fun hHeld => ?_); refine with_tabW laws_FnHeadFixed.tab9 laws_FnHeadFixed.bits9 (fun HT_ HW_ => ?_)
          generalize wc.drew = w78 at HO_498000 HO_504000 HO_510000 BK497 BK503 BK509 HB hHeld ⊢
          refine pu 2 (some 67) (bm 13 4) rfl rfl ?_
          refine pu 3 (some 68) (bm 13 12) rfl rfl ?_
          refine pu 4 (some 69) (bm 13 28) rfl rfl ?_
          refine tk 0 (some 65) (bm 13 29) rfl rfl hHeld ?_
          refine join_ (σ := Value × Value × Nat × Value) 2 #[true, true, true, true, true, true, true, true, true, true, true, false, false] (fun s_ => [(66, s_.1), (71, .tuple #[.agg #[s_.2.1, .int .i64 t519], .string t520]), (12, .pointer (some ⟨s_.2.2.1, 0, none⟩)), (70, s_.2.2.2), (64, .tuple #[.agg #[s_.2.1, .int .i64 t519], .string t520]), (72, .agg #[s_.2.1, .int .i64 t519]), (73, .string t520)]) (fun s_ w' => (w'.cell? ⟨gb497, 0, none⟩ = some (.slice Ao12 t490.length co12) ∧ w'.cell? ⟨gb497, 1, none⟩ = some (.int .i64 t493)) ∧ (Kd.R k36 36 w' w.heap.size (fun k_ => some k_ ≠ (s_.2.1 : Value).ownBlock ∧ some k_ ≠ (.slice Ao12 t490.length co12 : Value).ownBlock ∧ some k_ ≠ (.slice Ao17 t498.length co17 : Value).ownBlock ∧ some k_ ≠ (.slice Ao23 t504.length co23 : Value).ownBlock) s_.1 t513) ∧ (Kd.R k36 36 w' w.heap.size (fun k_ => some k_ ≠ (s_.1 : Value).ownBlock ∧ some k_ ≠ (.slice Ao12 t490.length co12 : Value).ownBlock ∧ some k_ ≠ (.slice Ao17 t498.length co17 : Value).ownBlock ∧ some k_ ≠ (.slice Ao23 t504.length co23 : Value).ownBlock) s_.2.1 t516) ∧ (Kd.R k36 36 w' w.heap.size (fun k_ => some k_ ≠ (s_.1 : Value).ownBlock ∧ some k_ ≠ (s_.2.1 : Value).ownBlock ∧ some k_ ≠ (.slice Ao17 t498.length co17 : Value).ownBlock ∧ some k_ ≠ (.slice Ao23 t504.length co23 : Value).ownBlock) (.slice Ao12 t490.length co12) t490) ∧ (Kd.R k36 36 w' w.heap.size (fun k_ => some k_ ≠ (s_.1 : Value).ownBlock ∧ some k_ ≠ (s_.2.1 : Value).ownBlock ∧ some k_ ≠ (.slice Ao12 t490.length co12 : Value).ownBlock ∧ some k_ ≠ (.slice Ao23 t504.length co23 : Value).ownBlock) (.slice Ao17 t498.length co17) t498) ∧ (Kd.R k36 36 w' w.heap.size (fun k_ => some k_ ≠ (s_.1 : Value).ownBlock ∧ some k_ ≠ (s_.2.1 : Value).ownBlock ∧ some k_ ≠ (.slice Ao12 t490.length co12 : Value).ownBlock ∧ some k_ ≠ (.slice Ao17 t498.length co17 : Value).ownBlock) (.slice Ao23 t504.length co23) t504) ∧ (w'.heap[gb497]? = some (.cells #[.slice Ao12 t490.length co12, .int .i64 t493] 25 (0, 0))) ∧ (w'.heap[gb503]? = some (.cells #[.slice Ao17 t498.length co17, .int .i64 t501] 25 (0, 0))) ∧ (w'.heap[gb509]? = some (.cells #[.slice Ao23 t504.length co23, .int .i64 t507] 25 (0, 0))) ∧ (w'.heap[s_.2.2.1]? = some (.cells #[.slice none 0 0, .int .i64 0] 25 (0, 0))) ∧ (w.heap.size ≤ s_.2.2.1) ∧ (w.heap.size ≤ s_.2.2.1) ∧ (gb497 ≠ s_.2.2.1) ∧ (s_.2.2.1 ≠ gb497) ∧ (gb503 ≠ s_.2.2.1) ∧ (s_.2.2.1 ≠ gb503) ∧ (gb509 ≠ s_.2.2.1) ∧ (s_.2.2.1 ≠ gb509) ∧ (Below w.heap.size w w')) ?_ ?_
          rotate_left
          ·intro hCont
           refine two_ (i := 1) (j := 10) (Ni := some 66) (Nj := some 12) #[true, true, true, true, true, false, false, false, false, false, false, false, false] #[true, false, true, true, true, false, false, false, false, false, true, false, false] rfl rfl rfl rfl (two_of HT_.out (by kernel_rfl)) (by decide) (by decide) (fun K hK => ?_) (fun K hK => ?_)
           ·skip
            refine gs Try.func34 #[] ?_
            with_reducible refine (impl_TableFixed.calls  t513 _ A54.out).mono ?_
            rintro e w79 ⟨v514, rfl, ho0, hb⟩
            refine ⟨_, rfl, ?_⟩
            have HO515 := Aside0.mk (Kd.R_lower (Kd.R_new' (Kd.R_new' (Kd.R_new' ho0 (Kd.R_lt (zr HO_498000))) (Kd.R_lt (zr HO_504000))) (Kd.R_lt (zr HO_510000))) (below_size (zb HB)))
            replace HO_498000 := Aside0.mk (Kd.R_elder' (zr HO_498000) (Kd.R_base ho0) hb)
            replace HO_504000 := Aside0.mk (Kd.R_elder' (zr HO_504000) (Kd.R_base ho0) hb)
            replace HO_510000 := Aside0.mk (Kd.R_elder' (zr HO_510000) (Kd.R_base ho0) hb)
            replace BK497 := kb BK497 hb
            replace BK503 := kb BK503 hb
            replace BK509 := kb BK509 hb
            replace HB := Aside0.mk (below_step (zb HB) hb)
            (try clear hb)
            (try clear ho0)
            obtain ⟨Ao80, co80, eo80⟩ := Kd.R_slice HO515.out
            (first | subst eo80 | (injection eo80 with f1_ f2_ f3_; have f4_ := f1_.symm; have f5_ := f3_.symm; clear f1_ f2_ f3_; subst f4_; subst f5_))
            refine hK.out _ _ (b2 BK497) (fun hHeld => ?_)
            clear hK K
            refine nm ?_
            obtain ⟨AZ, cZ, hcutZ, HCZ, HMZ⟩ := fixed_cut Ao80 t513 y513 co80 ((l1.length : Int) % 6) (by omega) (by omega) KK513.out (Kd.R_reads' HO515.out).2.1 KY513.out
            refine pu 5 (some 70) (bm 13 63) rfl rfl ?_
            refine two_ (i := 6) (j := 10) (Ni := some 71) (Nj := some 12) #[true, true, true, true, true, true, true, false, false, false, false, false, false] #[true, true, true, true, true, true, false, false, false, false, true, false, false] rfl rfl rfl rfl (two_of HT_.out (by kernel_rfl)) (by decide) (by decide) (fun K hK => ?_) (fun K hK => ?_)
            ·skip
             refine gs Try.func39 #[.agg #[.slice Ao12 t490.length co12, .int .i64 t493], .slice AZ y513.length cZ] ?_
             with_reducible refine (impl_HeadWrite.calls kj8 _ _ t490 t493 _ _ y513 t516 t519 t520 _ ?side1 ?side2 ?side3 ?side4 A55.out).mono ?_
             (case side1 => exact zc (Kd.R_reads' HO_498000.out).2.2)
             (case side2 => exact (Kd.R_reads' HO_498000.out).2.1)
             (case side3 => exact zc (HMZ.out _ (Kd.R_reads' HO515.out).2.2))
             (case side4 => exact HCZ.out)
             rintro e w81 ⟨v517, rfl, ho0, hb⟩
             refine ⟨_, rfl, ?_⟩
             have HO518 := Aside0.mk (Kd.R_lower (Kd.R_new' (Kd.R_new' (Kd.R_new' (Kd.R_new' ho0 (Kd.R_lt (zr HO_498000))) (Kd.R_lt (zr HO_504000))) (Kd.R_lt (zr HO_510000))) (Kd.R_lt (zr HO515))) (below_size (zb HB)))
             replace HO_498000 := Aside0.mk (Kd.R_elder' (zr HO_498000) (Kd.R_base ho0) hb)
             replace HO_504000 := Aside0.mk (Kd.R_elder' (zr HO_504000) (Kd.R_base ho0) hb)
             replace HO_510000 := Aside0.mk (Kd.R_elder' (zr HO_510000) (Kd.R_base ho0) hb)
             replace HO515 := Aside0.mk (Kd.R_elder' (zr HO515) (Kd.R_base ho0) hb)
             replace BK497 := kb BK497 hb
             replace BK503 := kb BK503 hb
             replace BK509 := kb BK509 hb
             replace HB := Aside0.mk (below_step (zb HB) hb)
             (try clear hb)
             (try clear ho0)
             refine hK.out _ _ (b2 BK497) (fun hHeld => ?_)
             clear hK K
             refine nm ?_
             refine pu 7 (some 64) (bm 13 255) rfl rfl ?_
             refine pu 8 (some 72) (bm 13 511) rfl rfl ?_
             refine pu 9 (some 73) (bm 13 1023) rfl rfl ?_
             refine one_ (i := 10) (N := some 12) (bm 13 2047) rfl rfl (one_of HT_.out (by kernel_rfl)) (by decide) (fun K hK => ?_)
             refine box_step ?hg (N := 12) ?hd (cs := #[.slice none 0 0, .int .i64 0]) (t := 25) ?hr ?_; (case hd => rfl); (case hg => rfl); (case hr => first | (go_simp; done) | (go_simp; rfl))
             intro gb521 hg w82 hbox hb
             replace HO_498000 := Aside0.mk (Kd.R_below (zr HO_498000) hb)
             replace HO_504000 := Aside0.mk (Kd.R_below (zr HO_504000) hb)
             replace HO_510000 := Aside0.mk (Kd.R_below (zr HO_510000) hb)
             replace HO515 := Aside0.mk (Kd.R_below (zr HO515) hb)
             replace HO518 := Aside0.mk (Kd.R_below (zr HO518) hb)
             have BK521 := Aside0.mk (hbox)
             have GW521 := gw HB hg
             have GE521 := gw HB hg
             replace HB := Aside0.mk (below_step (zb HB) hb)
             have NB497_521 := Aside0.mk ((by rw [hg]; exact Nat.ne_of_lt (blk_lt (zk BK497)) : gb497 ≠ gb521))
             have NB521_497 := Aside0.mk ((by rw [hg]; exact Nat.ne_of_gt (blk_lt (zk BK497)) : gb521 ≠ gb497))
             replace BK497 := kb BK497 hb
             have NB503_521 := Aside0.mk ((by rw [hg]; exact Nat.ne_of_lt (blk_lt (zk BK503)) : gb503 ≠ gb521))
             have NB521_503 := Aside0.mk ((by rw [hg]; exact Nat.ne_of_gt (blk_lt (zk BK503)) : gb521 ≠ gb503))
             replace BK503 := kb BK503 hb
             have NB509_521 := Aside0.mk ((by rw [hg]; exact Nat.ne_of_lt (blk_lt (zk BK509)) : gb509 ≠ gb521))
             have NB521_509 := Aside0.mk ((by rw [hg]; exact Nat.ne_of_gt (blk_lt (zk BK509)) : gb521 ≠ gb509))
             replace BK509 := kb BK509 hb
             clear hb hbox hg
             refine hK.out _ _ (b2 BK497) (fun hHeld => ?_)
             clear hK K
             refine nm ?_
             exact norm_ (by simp only [putAll, Act.put, s1, s2, s3]) (hCont (.slice Ao80 t513.length co80, v517, gb521, .slice AZ y513.length cZ) _ ⟨hHeld, (zq (Kd.R_mono HO515.out (fun _ hk => ⟨hk.2, ⟨hk.1.1.1.2, ⟨hk.1.1.2, hk.1.2⟩⟩⟩))), (zq (Kd.R_mono HO518.out (fun _ hk => ⟨hk.2, ⟨hk.1.1.1.2, ⟨hk.1.1.2, hk.1.2⟩⟩⟩))), (zq (Kd.R_mono HO_498000.out (fun _ hk => ⟨hk.1.2, ⟨hk.2, ⟨hk.1.1.1, hk.1.1.2⟩⟩⟩))), (zq (Kd.R_mono HO_504000.out (fun _ hk => ⟨hk.1.2, ⟨hk.2, ⟨hk.1.1.1, hk.1.1.2⟩⟩⟩))), (zq (Kd.R_mono HO_510000.out (fun _ hk => ⟨hk.1.2, ⟨hk.2, ⟨hk.1.1.1, hk.1.1.2⟩⟩⟩))), (zk BK497), (zk BK503), (zk BK509), (zk BK521), GW521.out, GE521.out, NB497_521.out, NB521_497.out, NB503_521.out, NB521_503.out, NB509_521.out, NB521_509.out, (zb HB)⟩)
            ·skip
             refine box_step ?hg (N := 12) ?hd (cs := #[.slice none 0 0, .int .i64 0]) (t := 25) ?hr ?_; (case hd => rfl); (case hg => rfl); (case hr => first | (go_simp; done) | (go_simp; rfl))
             intro gb521 hg w80 hbox hb
             replace HO_498000 := Aside0.mk (Kd.R_below (zr HO_498000) hb)
             replace HO_504000 := Aside0.mk (Kd.R_below (zr HO_504000) hb)
             replace HO_510000 := Aside0.mk (Kd.R_below (zr HO_510000) hb)
             replace HO515 := Aside0.mk (Kd.R_below (zr HO515) hb)
             have BK521 := Aside0.mk (hbox)
             have GW521 := gw HB hg
             have GE521 := gw HB hg
             replace HB := Aside0.mk (below_step (zb HB) hb)
             have NB497_521 := Aside0.mk ((by rw [hg]; exact Nat.ne_of_lt (blk_lt (zk BK497)) : gb497 ≠ gb521))
             have NB521_497 := Aside0.mk ((by rw [hg]; exact Nat.ne_of_gt (blk_lt (zk BK497)) : gb521 ≠ gb497))
             replace BK497 := kb BK497 hb
             have NB503_521 := Aside0.mk ((by rw [hg]; exact Nat.ne_of_lt (blk_lt (zk BK503)) : gb503 ≠ gb521))
             have NB521_503 := Aside0.mk ((by rw [hg]; exact Nat.ne_of_gt (blk_lt (zk BK503)) : gb521 ≠ gb503))
             replace BK503 := kb BK503 hb
             have NB509_521 := Aside0.mk ((by rw [hg]; exact Nat.ne_of_lt (blk_lt (zk BK509)) : gb509 ≠ gb521))
             have NB521_509 := Aside0.mk ((by rw [hg]; exact Nat.ne_of_gt (blk_lt (zk BK509)) : gb521 ≠ gb509))
             replace BK509 := kb BK509 hb
             clear hb hbox hg
             obtain ⟨Ao81, co81, eo81⟩ := Kd.R_slice HO515.out
             (first | subst eo81 | (injection eo81 with f1_ f2_ f3_; have f4_ := f1_.symm; have f5_ := f3_.symm; clear f1_ f2_ f3_; subst f4_; subst f5_))
             refine hK.out _ _ (b2 BK497) (fun hHeld => ?_)
             clear hK K
             refine nm ?_
             refine one_ (i := 6) (N := some 71) (bm 13 1151) rfl rfl (one_of HT_.out (by kernel_rfl)) (by decide) (fun K hK => ?_)
             refine gs Try.func39 #[.agg #[.slice Ao12 t490.length co12, .int .i64 t493], .slice AZ y513.length cZ] ?_
             with_reducible refine (impl_HeadWrite.calls kj8 _ _ t490 t493 _ _ y513 t516 t519 t520 _ ?side1 ?side2 ?side3 ?side4 A55.out).mono ?_
             (case side1 => exact zc (Kd.R_reads' HO_498000.out).2.2)
             (case side2 => exact (Kd.R_reads' HO_498000.out).2.1)
             (case side3 => exact zc (HMZ.out _ (Kd.R_reads' HO515.out).2.2))
             (case side4 => exact HCZ.out)
             rintro e w82 ⟨v517, rfl, ho0, hb⟩
             refine ⟨_, rfl, ?_⟩
             have HO518 := Aside0.mk (Kd.R_lower (Kd.R_new' (Kd.R_new' (Kd.R_new' (Kd.R_new' ho0 (Kd.R_lt (zr HO_498000))) (Kd.R_lt (zr HO_504000))) (Kd.R_lt (zr HO_510000))) (Kd.R_lt (zr HO515))) (below_size (zb HB)))
             replace HO_498000 := Aside0.mk (Kd.R_elder' (zr HO_498000) (Kd.R_base ho0) hb)
             replace HO_504000 := Aside0.mk (Kd.R_elder' (zr HO_504000) (Kd.R_base ho0) hb)
             replace HO_510000 := Aside0.mk (Kd.R_elder' (zr HO_510000) (Kd.R_base ho0) hb)
             replace HO515 := Aside0.mk (Kd.R_elder' (zr HO515) (Kd.R_base ho0) hb)
             replace BK497 := kb BK497 hb
             replace BK503 := kb BK503 hb
             replace BK509 := kb BK509 hb
             replace BK521 := kb BK521 hb
             replace HB := Aside0.mk (below_step (zb HB) hb)
             (try clear hb)
             (try clear ho0)
             refine hK.out _ _ (b2 BK497) (fun hHeld => ?_)
             clear hK K
             refine nm ?_
             refine pu 7 (some 64) (bm 13 1279) rfl rfl ?_
             refine pu 8 (some 72) (bm 13 1535) rfl rfl ?_
             refine pu 9 (some 73) (bm 13 2047) rfl rfl ?_
             exact norm_ (by simp only [putAll, Act.put, s1, s2, s3]) (hCont (.slice Ao81 t513.length co81, v517, gb521, .slice AZ y513.length cZ) _ ⟨hHeld, (zq (Kd.R_mono HO515.out (fun _ hk => ⟨hk.2, ⟨hk.1.1.1.2, ⟨hk.1.1.2, hk.1.2⟩⟩⟩))), (zq (Kd.R_mono HO518.out (fun _ hk => ⟨hk.2, ⟨hk.1.1.1.2, ⟨hk.1.1.2, hk.1.2⟩⟩⟩))), (zq (Kd.R_mono HO_498000.out (fun _ hk => ⟨hk.1.2, ⟨hk.2, ⟨hk.1.1.1, hk.1.1.2⟩⟩⟩))), (zq (Kd.R_mono HO_504000.out (fun _ hk => ⟨hk.1.2, ⟨hk.2, ⟨hk.1.1.1, hk.1.1.2⟩⟩⟩))), (zq (Kd.R_mono HO_510000.out (fun _ hk => ⟨hk.1.2, ⟨hk.2, ⟨hk.1.1.1, hk.1.1.2⟩⟩⟩))), (zk BK497), (zk BK503), (zk BK509), (zk BK521), GW521.out, GE521.out, NB497_521.out, NB521_497.out, NB503_521.out, NB521_503.out, NB509_521.out, NB521_509.out, (zb HB)⟩)
           ·skip
            refine box_step ?hg (N := 12) ?hd (cs := #[.slice none 0 0, .int .i64 0]) (t := 25) ?hr ?_; (case hd => rfl); (case hg => rfl); (case hr => first | (go_simp; done) | (go_simp; rfl))
            intro gb521 hg w79 hbox hb
            replace HO_498000 := Aside0.mk (Kd.R_below (zr HO_498000) hb)
            replace HO_504000 := Aside0.mk (Kd.R_below (zr HO_504000) hb)
            replace HO_510000 := Aside0.mk (Kd.R_below (zr HO_510000) hb)
            have BK521 := Aside0.mk (hbox)
            have GW521 := gw HB hg
            have GE521 := gw HB hg
            replace HB := Aside0.mk (below_step (zb HB) hb)
            have NB497_521 := Aside0.mk ((by rw [hg]; exact Nat.ne_of_lt (blk_lt (zk BK497)) : gb497 ≠ gb521))
            have NB521_497 := Aside0.mk ((by rw [hg]; exact Nat.ne_of_gt (blk_lt (zk BK497)) : gb521 ≠ gb497))
            replace BK497 := kb BK497 hb
            have NB503_521 := Aside0.mk ((by rw [hg]; exact Nat.ne_of_lt (blk_lt (zk BK503)) : gb503 ≠ gb521))
            have NB521_503 := Aside0.mk ((by rw [hg]; exact Nat.ne_of_gt (blk_lt (zk BK503)) : gb521 ≠ gb503))
            replace BK503 := kb BK503 hb
            have NB509_521 := Aside0.mk ((by rw [hg]; exact Nat.ne_of_lt (blk_lt (zk BK509)) : gb509 ≠ gb521))
            have NB521_509 := Aside0.mk ((by rw [hg]; exact Nat.ne_of_gt (blk_lt (zk BK509)) : gb521 ≠ gb509))
            replace BK509 := kb BK509 hb
            clear hb hbox hg
            refine hK.out _ _ (b2 BK497) (fun hHeld => ?_)
            clear hK K
            refine nm ?_
            refine one_ (i := 1) (N := some 66) (bm 13 1055) rfl rfl (one_of HT_.out (by kernel_rfl)) (by decide) (fun K hK => ?_)
            refine gs Try.func34 #[] ?_
            with_reducible refine (impl_TableFixed.calls  t513 _ A54.out).mono ?_
            rintro e w80 ⟨v514, rfl, ho0, hb⟩
            refine ⟨_, rfl, ?_⟩
            have HO515 := Aside0.mk (Kd.R_lower (Kd.R_new' (Kd.R_new' (Kd.R_new' ho0 (Kd.R_lt (zr HO_498000))) (Kd.R_lt (zr HO_504000))) (Kd.R_lt (zr HO_510000))) (below_size (zb HB)))
            replace HO_498000 := Aside0.mk (Kd.R_elder' (zr HO_498000) (Kd.R_base ho0) hb)
            replace HO_504000 := Aside0.mk (Kd.R_elder' (zr HO_504000) (Kd.R_base ho0) hb)
            replace HO_510000 := Aside0.mk (Kd.R_elder' (zr HO_510000) (Kd.R_base ho0) hb)
            replace BK497 := kb BK497 hb
            replace BK503 := kb BK503 hb
            replace BK509 := kb BK509 hb
            replace BK521 := kb BK521 hb
            replace HB := Aside0.mk (below_step (zb HB) hb)
            (try clear hb)
            (try clear ho0)
            obtain ⟨Ao81, co81, eo81⟩ := Kd.R_slice HO515.out
            (first | subst eo81 | (injection eo81 with f1_ f2_ f3_; have f4_ := f1_.symm; have f5_ := f3_.symm; clear f1_ f2_ f3_; subst f4_; subst f5_))
            refine hK.out _ _ (b2 BK497) (fun hHeld => ?_)
            clear hK K
            refine nm ?_
            obtain ⟨AZ, cZ, hcutZ, HCZ, HMZ⟩ := fixed_cut Ao81 t513 y513 co81 ((l1.length : Int) % 6) (by omega) (by omega) KK513.out (Kd.R_reads' HO515.out).2.1 KY513.out
            refine pu 5 (some 70) (bm 13 1087) rfl rfl ?_
            refine one_ (i := 6) (N := some 71) (bm 13 1151) rfl rfl (one_of HT_.out (by kernel_rfl)) (by decide) (fun K hK => ?_)
            refine gs Try.func39 #[.agg #[.slice Ao12 t490.length co12, .int .i64 t493], .slice AZ y513.length cZ] ?_
            with_reducible refine (impl_HeadWrite.calls kj8 _ _ t490 t493 _ _ y513 t516 t519 t520 _ ?side1 ?side2 ?side3 ?side4 A55.out).mono ?_
            (case side1 => exact zc (Kd.R_reads' HO_498000.out).2.2)
            (case side2 => exact (Kd.R_reads' HO_498000.out).2.1)
            (case side3 => exact zc (HMZ.out _ (Kd.R_reads' HO515.out).2.2))
            (case side4 => exact HCZ.out)
            rintro e w82 ⟨v517, rfl, ho0, hb⟩
            refine ⟨_, rfl, ?_⟩
            have HO518 := Aside0.mk (Kd.R_lower (Kd.R_new' (Kd.R_new' (Kd.R_new' (Kd.R_new' ho0 (Kd.R_lt (zr HO_498000))) (Kd.R_lt (zr HO_504000))) (Kd.R_lt (zr HO_510000))) (Kd.R_lt (zr HO515))) (below_size (zb HB)))
            replace HO_498000 := Aside0.mk (Kd.R_elder' (zr HO_498000) (Kd.R_base ho0) hb)
            replace HO_504000 := Aside0.mk (Kd.R_elder' (zr HO_504000) (Kd.R_base ho0) hb)
            replace HO_510000 := Aside0.mk (Kd.R_elder' (zr HO_510000) (Kd.R_base ho0) hb)
            replace HO515 := Aside0.mk (Kd.R_elder' (zr HO515) (Kd.R_base ho0) hb)
            replace BK497 := kb BK497 hb
            replace BK503 := kb BK503 hb
            replace BK509 := kb BK509 hb
            replace BK521 := kb BK521 hb
            replace HB := Aside0.mk (below_step (zb HB) hb)
            (try clear hb)
            (try clear ho0)
            refine hK.out _ _ (b2 BK497) (fun hHeld => ?_)
            clear hK K
            refine nm ?_
            refine pu 7 (some 64) (bm 13 1279) rfl rfl ?_
            refine pu 8 (some 72) (bm 13 1535) rfl rfl ?_
            refine pu 9 (some 73) (bm 13 2047) rfl rfl ?_
            exact norm_ (by simp only [putAll, Act.put, s1, s2, s3]) (hCont (.slice Ao81 t513.length co81, v517, gb521, .slice AZ y513.length cZ) _ ⟨hHeld, (zq (Kd.R_mono HO515.out (fun _ hk => ⟨hk.2, ⟨hk.1.1.1.2, ⟨hk.1.1.2, hk.1.2⟩⟩⟩))), (zq (Kd.R_mono HO518.out (fun _ hk => ⟨hk.2, ⟨hk.1.1.1.2, ⟨hk.1.1.2, hk.1.2⟩⟩⟩))), (zq (Kd.R_mono HO_498000.out (fun _ hk => ⟨hk.1.2, ⟨hk.2, ⟨hk.1.1.1, hk.1.1.2⟩⟩⟩))), (zq (Kd.R_mono HO_504000.out (fun _ hk => ⟨hk.1.2, ⟨hk.2, ⟨hk.1.1.1, hk.1.1.2⟩⟩⟩))), (zq (Kd.R_mono HO_510000.out (fun _ hk => ⟨hk.1.2, ⟨hk.2, ⟨hk.1.1.1, hk.1.1.2⟩⟩⟩))), (zk BK497), (zk BK503), (zk BK509), (zk BK521), GW521.out, GE521.out, NB497_521.out, NB521_497.out, NB503_521.out, NB521_503.out, NB509_521.out, NB521_509.out, (zb HB)⟩)
          rintro ⟨v514, v517, gb521, v70_⟩ w83 ⟨hS_, h0_, h1_, h2_, h3_, h4_, h5_, h6_, h7_, h8_, h9_, h10_, h11_, h12_, h13_, h14_, h15_, h16_, h17_⟩
          have n0_ : Aside0 (Kd.R k36 36 w83 w.heap.size (fun k_ => some k_ ≠ (v517 : Value).ownBlock ∧ some k_ ≠ (.slice Ao12 t490.length co12 : Value).ownBlock ∧ some k_ ≠ (.slice Ao17 t498.length co17 : Value).ownBlock ∧ some k_ ≠ (.slice Ao23 t504.length co23 : Value).ownBlock) v514 t513) := ⟨h0_⟩
          have n1_ : Aside0 (Kd.R k36 36 w83 w.heap.size (fun k_ => some k_ ≠ (v514 : Value).ownBlock ∧ some k_ ≠ (.slice Ao12 t490.length co12 : Value).ownBlock ∧ some k_ ≠ (.slice Ao17 t498.length co17 : Value).ownBlock ∧ some k_ ≠ (.slice Ao23 t504.length co23 : Value).ownBlock) v517 t516) := ⟨h1_⟩
          have n2_ : Aside0 (Kd.R k36 36 w83 w.heap.size (fun k_ => some k_ ≠ (v514 : Value).ownBlock ∧ some k_ ≠ (v517 : Value).ownBlock ∧ some k_ ≠ (.slice Ao17 t498.length co17 : Value).ownBlock ∧ some k_ ≠ (.slice Ao23 t504.length co23 : Value).ownBlock) (.slice Ao12 t490.length co12) t490) := ⟨h2_⟩
          have n3_ : Aside0 (Kd.R k36 36 w83 w.heap.size (fun k_ => some k_ ≠ (v514 : Value).ownBlock ∧ some k_ ≠ (v517 : Value).ownBlock ∧ some k_ ≠ (.slice Ao12 t490.length co12 : Value).ownBlock ∧ some k_ ≠ (.slice Ao23 t504.length co23 : Value).ownBlock) (.slice Ao17 t498.length co17) t498) := ⟨h3_⟩
          have n4_ : Aside0 (Kd.R k36 36 w83 w.heap.size (fun k_ => some k_ ≠ (v514 : Value).ownBlock ∧ some k_ ≠ (v517 : Value).ownBlock ∧ some k_ ≠ (.slice Ao12 t490.length co12 : Value).ownBlock ∧ some k_ ≠ (.slice Ao17 t498.length co17 : Value).ownBlock) (.slice Ao23 t504.length co23) t504) := ⟨h4_⟩
          have n5_ : Aside0 (w83.heap[gb497]? = some (.cells #[.slice Ao12 t490.length co12, .int .i64 t493] 25 (0, 0))) := ⟨h5_⟩
          have n6_ : Aside0 (w83.heap[gb503]? = some (.cells #[.slice Ao17 t498.length co17, .int .i64 t501] 25 (0, 0))) := ⟨h6_⟩
          have n7_ : Aside0 (w83.heap[gb509]? = some (.cells #[.slice Ao23 t504.length co23, .int .i64 t507] 25 (0, 0))) := ⟨h7_⟩
          have n8_ : Aside0 (w83.heap[gb521]? = some (.cells #[.slice none 0 0, .int .i64 0] 25 (0, 0))) := ⟨h8_⟩
          have n9_ : Aside0 (w.heap.size ≤ gb521) := ⟨h9_⟩
          have n10_ : Aside0 (w.heap.size ≤ gb521) := ⟨h10_⟩
          have n11_ : Aside0 (gb497 ≠ gb521) := ⟨h11_⟩
          have n12_ : Aside0 (gb521 ≠ gb497) := ⟨h12_⟩
          have n13_ : Aside0 (gb503 ≠ gb521) := ⟨h13_⟩
          have n14_ : Aside0 (gb521 ≠ gb503) := ⟨h14_⟩
          have n15_ : Aside0 (gb509 ≠ gb521) := ⟨h15_⟩
          have n16_ : Aside0 (gb521 ≠ gb509) := ⟨h16_⟩
          have n17_ : Aside0 (Below w.heap.size w w83) := ⟨h17_⟩
          clear HO_498000
          clear HO_504000
          clear HO_510000
          clear BK497
          clear BK503
          clear BK509
          clear HB
          clear h0_ h1_ h2_ h3_ h4_ h5_ h6_ h7_ h8_ h9_ h10_ h11_ h12_ h13_ h14_ h15_ h16_ h17_
          have HO515 := n0_
          have HO518 := n1_
          have HO_498000 := n2_
          have HO_504000 := n3_
          have HO_510000 := n4_
          have BK497 := n5_
          have BK503 := n6_
          have BK509 := n7_
          have BK521 := n8_
          have GW521 := n9_
          have GE521 := n10_
          have NB497_521 := n11_
          have NB521_497 := n12_
          have NB503_521 := n13_
          have NB521_503 := n14_
          have NB509_521 := n15_
          have NB521_509 := n16_
          have HB := n17_
          clear n0_ n1_ n2_ n3_ n4_ n5_ n6_ n7_ n8_ n9_ n10_ n11_ n12_ n13_ n14_ n15_ n16_ n17_
          have hHeld : w83.cell? ⟨gb497, 0, none⟩ = some (.slice Ao12 t490.length co12) ∧ w83.cell? ⟨gb497, 1, none⟩ = some (.int .i64 t493) := hS_
          obtain ⟨Ao84, co84, eo84⟩ := Kd.R_slice HO518.out
          (first | subst eo84 | (injection eo84 with f1_ f2_ f3_; have f4_ := f1_.symm; have f5_ := f3_.symm; clear f1_ f2_ f3_; subst f4_; subst f5_))
          refine norm_ (a' := ?_) ?_ ?_
          rotate_left
          ·simp only [putAll, Act.put, s1, s2, s3]
           rfl
          refine one_ (i := 11) (N := none) (bm 13 4095) rfl rfl (one_of HT_.out (by kernel_rfl)) (by decide) (fun K hK => ?_)
          have hs85 : w83.cell? ⟨gb521, 0, none⟩ = some (.slice none 0 0) := (blk_cell BK521.out 0).trans rfl
          have hfs85 := blk_frozen BK521.out 0
          have hns85_0 := NB497_521.out
          have hns85_1 := NB503_521.out
          have hns85_2 := NB509_521.out
          have hms85_0 := NB521_497.out
          have hms85_1 := NB521_503.out
          have hms85_2 := NB521_509.out
          have hs86 : w83.cell? ⟨gb521, 1, none⟩ = some (.int .i64 0) := (blk_cell BK521.out 1).trans rfl
          have hfs86 := blk_frozen BK521.out 1
          have hns86_0 := NB497_521.out
          have hns86_1 := NB503_521.out
          have hns86_2 := NB509_521.out
          have hms86_0 := NB521_497.out
          have hms86_1 := NB521_503.out
          have hms86_2 := NB521_509.out
          refine skip_ (w1 := ?_) (by rfl) rfl ?_ ?_
          rotate_left
          ·go_simp
           rfl
          refine hK.out _ _ ⟨((cell_far (p := ⟨gb521, _, none⟩) NB497_521.out _).trans (((cell_far (p := ⟨gb521, _, none⟩) NB497_521.out _).trans (hHeld.1)))), ((cell_far (p := ⟨gb521, _, none⟩) NB497_521.out _).trans (((cell_far (p := ⟨gb521, _, none⟩) NB497_521.out _).trans (hHeld.2))))⟩ (fun hHeld => ?_)
          clear hK K
          refine pu 12 (some 13) (bm 13 8191) rfl rfl ?_
          refine done_ (done_of HT_.out (by kernel_rfl)) ?_
          have p58 : 0 ≤ (0 : Int) := (by omega)
          have q58 : 0 < t520.size := (by have : (0 : Int) < (t520.size : Int) := of_decide_eq_true za; omega)
          have hx58 : ∀ h : 0 < t520.size, ((t520[0]'h).toNat : Int) = bt t520 0 := bt_at t520 0
          clear p58
          have qi58 : (0 < (t520.size : Int)) = True := eq_true (of_decide_eq_true za)
          replace q58 := eq_true q58
          try go_wp2
          go_ret
          exact ⟨ze, zb HB⟩
        ·rw [if_neg c57] at H
         exact absurd H (by simp)
       ·skip
        have c56b0 : ((t520.size : Int) == 1) = false := beq_eq_false_iff_ne.mpr c56
        have c56b1 : ((t520.size : Int) != 1) = true := bne_iff_ne.mpr c56
        obtain rfl := Option.some.inj H
        try go_wp2
        replace HO_498000 := Aside0.mk (Kd.R_drew HO_498000.out)
        replace HO_504000 := Aside0.mk (Kd.R_drew HO_504000.out)
        replace HO_510000 := Aside0.mk (Kd.R_drew HO_510000.out)
        replace BK497 := Aside0.mk (blk_drew BK497.out)
        replace BK503 := Aside0.mk (blk_drew BK503.out)
        replace BK509 := Aside0.mk (blk_drew BK509.out)
        replace HB := Aside0.mk (below_drew1 HB.out)
        refine st 13 (b2 BK497) (fun hHeld => ?_); refine with_tabW laws_FnHeadFixed.tab9 laws_FnHeadFixed.bits9 (fun HT_ HW_ => ?_)
        generalize wc.drew = w87 at HO_498000 HO_504000 HO_510000 BK497 BK503 BK509 HB hHeld ⊢
        refine pu 2 (some 67) (bm 13 4) rfl rfl ?_
        refine pu 3 (some 68) (bm 13 12) rfl rfl ?_
        refine pu 4 (some 69) (bm 13 28) rfl rfl ?_
        refine tk 0 (some 65) (bm 13 29) rfl rfl hHeld ?_
        refine join_ (σ := Value × Value × Nat × Value) 2 #[true, true, true, true, true, true, true, true, true, true, true, false, false] (fun s_ => [(66, s_.1), (71, .tuple #[.agg #[s_.2.1, .int .i64 t519], .string t520]), (12, .pointer (some ⟨s_.2.2.1, 0, none⟩)), (70, s_.2.2.2), (64, .tuple #[.agg #[s_.2.1, .int .i64 t519], .string t520]), (72, .agg #[s_.2.1, .int .i64 t519]), (73, .string t520)]) (fun s_ w' => (w'.cell? ⟨gb497, 0, none⟩ = some (.slice Ao12 t490.length co12) ∧ w'.cell? ⟨gb497, 1, none⟩ = some (.int .i64 t493)) ∧ (Kd.R k36 36 w' w.heap.size (fun k_ => some k_ ≠ (s_.2.1 : Value).ownBlock ∧ some k_ ≠ (.slice Ao12 t490.length co12 : Value).ownBlock ∧ some k_ ≠ (.slice Ao17 t498.length co17 : Value).ownBlock ∧ some k_ ≠ (.slice Ao23 t504.length co23 : Value).ownBlock) s_.1 t513) ∧ (Kd.R k36 36 w' w.heap.size (fun k_ => some k_ ≠ (s_.1 : Value).ownBlock ∧ some k_ ≠ (.slice Ao12 t490.length co12 : Value).ownBlock ∧ some k_ ≠ (.slice Ao17 t498.length co17 : Value).ownBlock ∧ some k_ ≠ (.slice Ao23 t504.length co23 : Value).ownBlock) s_.2.1 t516) ∧ (Kd.R k36 36 w' w.heap.size (fun k_ => some k_ ≠ (s_.1 : Value).ownBlock ∧ some k_ ≠ (s_.2.1 : Value).ownBlock ∧ some k_ ≠ (.slice Ao17 t498.length co17 : Value).ownBlock ∧ some k_ ≠ (.slice Ao23 t504.length co23 : Value).ownBlock) (.slice Ao12 t490.length co12) t490) ∧ (Kd.R k36 36 w' w.heap.size (fun k_ => some k_ ≠ (s_.1 : Value).ownBlock ∧ some k_ ≠ (s_.2.1 : Value).ownBlock ∧ some k_ ≠ (.slice Ao12 t490.length co12 : Value).ownBlock ∧ some k_ ≠ (.slice Ao23 t504.length co23 : Value).ownBlock) (.slice Ao17 t498.length co17) t498) ∧ (Kd.R k36 36 w' w.heap.size (fun k_ => some k_ ≠ (s_.1 : Value).ownBlock ∧ some k_ ≠ (s_.2.1 : Value).ownBlock ∧ some k_ ≠ (.slice Ao12 t490.length co12 : Value).ownBlock ∧ some k_ ≠ (.slice Ao17 t498.length co17 : Value).ownBlock) (.slice Ao23 t504.length co23) t504) ∧ (w'.heap[gb497]? = some (.cells #[.slice Ao12 t490.length co12, .int .i64 t493] 25 (0, 0))) ∧ (w'.heap[gb503]? = some (.cells #[.slice Ao17 t498.length co17, .int .i64 t501] 25 (0, 0))) ∧ (w'.heap[gb509]? = some (.cells #[.slice Ao23 t504.length co23, .int .i64 t507] 25 (0, 0))) ∧ (w'.heap[s_.2.2.1]? = some (.cells #[.slice none 0 0, .int .i64 0] 25 (0, 0))) ∧ (w.heap.size ≤ s_.2.2.1) ∧ (w.heap.size ≤ s_.2.2.1) ∧ (gb497 ≠ s_.2.2.1) ∧ (s_.2.2.1 ≠ gb497) ∧ (gb503 ≠ s_.2.2.1) ∧ (s_.2.2.1 ≠ gb503) ∧ (gb509 ≠ s_.2.2.1) ∧ (s_.2.2.1 ≠ gb509) ∧ (Below w.heap.size w w')) ?_ ?_
        rotate_left
        ·intro hCont
         refine two_ (i := 1) (j := 10) (Ni := some 66) (Nj := some 12) #[true, true, true, true, true, false, false, false, false, false, false, false, false] #[true, false, true, true, true, false, false, false, false, false, true, false, false] rfl rfl rfl rfl (two_of HT_.out (by kernel_rfl)) (by decide) (by decide) (fun K hK => ?_) (fun K hK => ?_)
         ·skip
          refine gs Try.func34 #[] ?_
          with_reducible refine (impl_TableFixed.calls  t513 _ A54.out).mono ?_
          rintro e w88 ⟨v514, rfl, ho0, hb⟩
          refine ⟨_, rfl, ?_⟩
          have HO515 := Aside0.mk (Kd.R_lower (Kd.R_new' (Kd.R_new' (Kd.R_new' ho0 (Kd.R_lt (zr HO_498000))) (Kd.R_lt (zr HO_504000))) (Kd.R_lt (zr HO_510000))) (below_size (zb HB)))
          replace HO_498000 := Aside0.mk (Kd.R_elder' (zr HO_498000) (Kd.R_base ho0) hb)
          replace HO_504000 := Aside0.mk (Kd.R_elder' (zr HO_504000) (Kd.R_base ho0) hb)
          replace HO_510000 := Aside0.mk (Kd.R_elder' (zr HO_510000) (Kd.R_base ho0) hb)
          replace BK497 := kb BK497 hb
          replace BK503 := kb BK503 hb
          replace BK509 := kb BK509 hb
          replace HB := Aside0.mk (below_step (zb HB) hb)
          (try clear hb)
          (try clear ho0)
          obtain ⟨Ao89, co89, eo89⟩ := Kd.R_slice HO515.out
          (first | subst eo89 | (injection eo89 with f1_ f2_ f3_; have f4_ := f1_.symm; have f5_ := f3_.symm; clear f1_ f2_ f3_; subst f4_; subst f5_))
          refine hK.out _ _ (b2 BK497) (fun hHeld => ?_)
          clear hK K
          refine nm ?_
          obtain ⟨AZ, cZ, hcutZ, HCZ, HMZ⟩ := fixed_cut Ao89 t513 y513 co89 ((l1.length : Int) % 6) (by omega) (by omega) KK513.out (Kd.R_reads' HO515.out).2.1 KY513.out
          refine pu 5 (some 70) (bm 13 63) rfl rfl ?_
          refine two_ (i := 6) (j := 10) (Ni := some 71) (Nj := some 12) #[true, true, true, true, true, true, true, false, false, false, false, false, false] #[true, true, true, true, true, true, false, false, false, false, true, false, false] rfl rfl rfl rfl (two_of HT_.out (by kernel_rfl)) (by decide) (by decide) (fun K hK => ?_) (fun K hK => ?_)
          ·skip
           refine gs Try.func39 #[.agg #[.slice Ao12 t490.length co12, .int .i64 t493], .slice AZ y513.length cZ] ?_
           with_reducible refine (impl_HeadWrite.calls kj8 _ _ t490 t493 _ _ y513 t516 t519 t520 _ ?side1 ?side2 ?side3 ?side4 A55.out).mono ?_
           (case side1 => exact zc (Kd.R_reads' HO_498000.out).2.2)
           (case side2 => exact (Kd.R_reads' HO_498000.out).2.1)
           (case side3 => exact zc (HMZ.out _ (Kd.R_reads' HO515.out).2.2))
           (case side4 => exact HCZ.out)
           rintro e w90 ⟨v517, rfl, ho0, hb⟩
           refine ⟨_, rfl, ?_⟩
           have HO518 := Aside0.mk (Kd.R_lower (Kd.R_new' (Kd.R_new' (Kd.R_new' (Kd.R_new' ho0 (Kd.R_lt (zr HO_498000))) (Kd.R_lt (zr HO_504000))) (Kd.R_lt (zr HO_510000))) (Kd.R_lt (zr HO515))) (below_size (zb HB)))
           replace HO_498000 := Aside0.mk (Kd.R_elder' (zr HO_498000) (Kd.R_base ho0) hb)
           replace HO_504000 := Aside0.mk (Kd.R_elder' (zr HO_504000) (Kd.R_base ho0) hb)
           replace HO_510000 := Aside0.mk (Kd.R_elder' (zr HO_510000) (Kd.R_base ho0) hb)
           replace HO515 := Aside0.mk (Kd.R_elder' (zr HO515) (Kd.R_base ho0) hb)
           replace BK497 := kb BK497 hb
           replace BK503 := kb BK503 hb
           replace BK509 := kb BK509 hb
           replace HB := Aside0.mk (below_step (zb HB) hb)
           (try clear hb)
           (try clear ho0)
           refine hK.out _ _ (b2 BK497) (fun hHeld => ?_)
           clear hK K
           refine nm ?_
           refine pu 7 (some 64) (bm 13 255) rfl rfl ?_
           refine pu 8 (some 72) (bm 13 511) rfl rfl ?_
           refine pu 9 (some 73) (bm 13 1023) rfl rfl ?_
           refine one_ (i := 10) (N := some 12) (bm 13 2047) rfl rfl (one_of HT_.out (by kernel_rfl)) (by decide) (fun K hK => ?_)
           refine box_step ?hg (N := 12) ?hd (cs := #[.slice none 0 0, .int .i64 0]) (t := 25) ?hr ?_; (case hd => rfl); (case hg => rfl); (case hr => first | (go_simp; done) | (go_simp; rfl))
           intro gb521 hg w91 hbox hb
           replace HO_498000 := Aside0.mk (Kd.R_below (zr HO_498000) hb)
           replace HO_504000 := Aside0.mk (Kd.R_below (zr HO_504000) hb)
           replace HO_510000 := Aside0.mk (Kd.R_below (zr HO_510000) hb)
           replace HO515 := Aside0.mk (Kd.R_below (zr HO515) hb)
           replace HO518 := Aside0.mk (Kd.R_below (zr HO518) hb)
           have BK521 := Aside0.mk (hbox)
           have GW521 := gw HB hg
           have GE521 := gw HB hg
           replace HB := Aside0.mk (below_step (zb HB) hb)
           have NB497_521 := Aside0.mk ((by rw [hg]; exact Nat.ne_of_lt (blk_lt (zk BK497)) : gb497 ≠ gb521))
           have NB521_497 := Aside0.mk ((by rw [hg]; exact Nat.ne_of_gt (blk_lt (zk BK497)) : gb521 ≠ gb497))
           replace BK497 := kb BK497 hb
           have NB503_521 := Aside0.mk ((by rw [hg]; exact Nat.ne_of_lt (blk_lt (zk BK503)) : gb503 ≠ gb521))
           have NB521_503 := Aside0.mk ((by rw [hg]; exact Nat.ne_of_gt (blk_lt (zk BK503)) : gb521 ≠ gb503))
           replace BK503 := kb BK503 hb
           have NB509_521 := Aside0.mk ((by rw [hg]; exact Nat.ne_of_lt (blk_lt (zk BK509)) : gb509 ≠ gb521))
           have NB521_509 := Aside0.mk ((by rw [hg]; exact Nat.ne_of_gt (blk_lt (zk BK509)) : gb521 ≠ gb509))
           replace BK509 := kb BK509 hb
           clear hb hbox hg
           refine hK.out _ _ (b2 BK497) (fun hHeld => ?_)
           clear hK K
           refine nm ?_
           exact norm_ (by simp only [putAll, Act.put, s1, s2, s3]) (hCont (.slice Ao89 t513.length co89, v517, gb521, .slice AZ y513.length cZ) _ ⟨hHeld, (zq (Kd.R_mono HO515.out (fun _ hk => ⟨hk.2, ⟨hk.1.1.1.2, ⟨hk.1.1.2, hk.1.2⟩⟩⟩))), (zq (Kd.R_mono HO518.out (fun _ hk => ⟨hk.2, ⟨hk.1.1.1.2, ⟨hk.1.1.2, hk.1.2⟩⟩⟩))), (zq (Kd.R_mono HO_498000.out (fun _ hk => ⟨hk.1.2, ⟨hk.2, ⟨hk.1.1.1, hk.1.1.2⟩⟩⟩))), (zq (Kd.R_mono HO_504000.out (fun _ hk => ⟨hk.1.2, ⟨hk.2, ⟨hk.1.1.1, hk.1.1.2⟩⟩⟩))), (zq (Kd.R_mono HO_510000.out (fun _ hk => ⟨hk.1.2, ⟨hk.2, ⟨hk.1.1.1, hk.1.1.2⟩⟩⟩))), (zk BK497), (zk BK503), (zk BK509), (zk BK521), GW521.out, GE521.out, NB497_521.out, NB521_497.out, NB503_521.out, NB521_503.out, NB509_521.out, NB521_509.out, (zb HB)⟩)
          ·skip
           refine box_step ?hg (N := 12) ?hd (cs := #[.slice none 0 0, .int .i64 0]) (t := 25) ?hr ?_; (case hd => rfl); (case hg => rfl); (case hr => first | (go_simp; done) | (go_simp; rfl))
           intro gb521 hg w89 hbox hb
           replace HO_498000 := Aside0.mk (Kd.R_below (zr HO_498000) hb)
           replace HO_504000 := Aside0.mk (Kd.R_below (zr HO_504000) hb)
           replace HO_510000 := Aside0.mk (Kd.R_below (zr HO_510000) hb)
           replace HO515 := Aside0.mk (Kd.R_below (zr HO515) hb)
           have BK521 := Aside0.mk (hbox)
           have GW521 := gw HB hg
           have GE521 := gw HB hg
           replace HB := Aside0.mk (below_step (zb HB) hb)
           have NB497_521 := Aside0.mk ((by rw [hg]; exact Nat.ne_of_lt (blk_lt (zk BK497)) : gb497 ≠ gb521))
           have NB521_497 := Aside0.mk ((by rw [hg]; exact Nat.ne_of_gt (blk_lt (zk BK497)) : gb521 ≠ gb497))
           replace BK497 := kb BK497 hb
           have NB503_521 := Aside0.mk ((by rw [hg]; exact Nat.ne_of_lt (blk_lt (zk BK503)) : gb503 ≠ gb521))
           have NB521_503 := Aside0.mk ((by rw [hg]; exact Nat.ne_of_gt (blk_lt (zk BK503)) : gb521 ≠ gb503))
           replace BK503 := kb BK503 hb
           have NB509_521 := Aside0.mk ((by rw [hg]; exact Nat.ne_of_lt (blk_lt (zk BK509)) : gb509 ≠ gb521))
           have NB521_509 := Aside0.mk ((by rw [hg]; exact Nat.ne_of_gt (blk_lt (zk BK509)) : gb521 ≠ gb509))
           replace BK509 := kb BK509 hb
           clear hb hbox hg
           obtain ⟨Ao90, co90, eo90⟩ := Kd.R_slice HO515.out
           (first | subst eo90 | (injection eo90 with f1_ f2_ f3_; have f4_ := f1_.symm; have f5_ := f3_.symm; clear f1_ f2_ f3_; subst f4_; subst f5_))
           refine hK.out _ _ (b2 BK497) (fun hHeld => ?_)
           clear hK K
           refine nm ?_
           refine one_ (i := 6) (N := some 71) (bm 13 1151) rfl rfl (one_of HT_.out (by kernel_rfl)) (by decide) (fun K hK => ?_)
           refine gs Try.func39 #[.agg #[.slice Ao12 t490.length co12, .int .i64 t493], .slice AZ y513.length cZ] ?_
           with_reducible refine (impl_HeadWrite.calls kj8 _ _ t490 t493 _ _ y513 t516 t519 t520 _ ?side1 ?side2 ?side3 ?side4 A55.out).mono ?_
           (case side1 => exact zc (Kd.R_reads' HO_498000.out).2.2)
           (case side2 => exact (Kd.R_reads' HO_498000.out).2.1)
           (case side3 => exact zc (HMZ.out _ (Kd.R_reads' HO515.out).2.2))
           (case side4 => exact HCZ.out)
           rintro e w91 ⟨v517, rfl, ho0, hb⟩
           refine ⟨_, rfl, ?_⟩
           have HO518 := Aside0.mk (Kd.R_lower (Kd.R_new' (Kd.R_new' (Kd.R_new' (Kd.R_new' ho0 (Kd.R_lt (zr HO_498000))) (Kd.R_lt (zr HO_504000))) (Kd.R_lt (zr HO_510000))) (Kd.R_lt (zr HO515))) (below_size (zb HB)))
           replace HO_498000 := Aside0.mk (Kd.R_elder' (zr HO_498000) (Kd.R_base ho0) hb)
           replace HO_504000 := Aside0.mk (Kd.R_elder' (zr HO_504000) (Kd.R_base ho0) hb)
           replace HO_510000 := Aside0.mk (Kd.R_elder' (zr HO_510000) (Kd.R_base ho0) hb)
           replace HO515 := Aside0.mk (Kd.R_elder' (zr HO515) (Kd.R_base ho0) hb)
           replace BK497 := kb BK497 hb
           replace BK503 := kb BK503 hb
           replace BK509 := kb BK509 hb
           replace BK521 := kb BK521 hb
           replace HB := Aside0.mk (below_step (zb HB) hb)
           (try clear hb)
           (try clear ho0)
           refine hK.out _ _ (b2 BK497) (fun hHeld => ?_)
           clear hK K
           refine nm ?_
           refine pu 7 (some 64) (bm 13 1279) rfl rfl ?_
           refine pu 8 (some 72) (bm 13 1535) rfl rfl ?_
           refine pu 9 (some 73) (bm 13 2047) rfl rfl ?_
           exact norm_ (by simp only [putAll, Act.put, s1, s2, s3]) (hCont (.slice Ao90 t513.length co90, v517, gb521, .slice AZ y513.length cZ) _ ⟨hHeld, (zq (Kd.R_mono HO515.out (fun _ hk => ⟨hk.2, ⟨hk.1.1.1.2, ⟨hk.1.1.2, hk.1.2⟩⟩⟩))), (zq (Kd.R_mono HO518.out (fun _ hk => ⟨hk.2, ⟨hk.1.1.1.2, ⟨hk.1.1.2, hk.1.2⟩⟩⟩))), (zq (Kd.R_mono HO_498000.out (fun _ hk => ⟨hk.1.2, ⟨hk.2, ⟨hk.1.1.1, hk.1.1.2⟩⟩⟩))), (zq (Kd.R_mono HO_504000.out (fun _ hk => ⟨hk.1.2, ⟨hk.2, ⟨hk.1.1.1, hk.1.1.2⟩⟩⟩))), (zq (Kd.R_mono HO_510000.out (fun _ hk => ⟨hk.1.2, ⟨hk.2, ⟨hk.1.1.1, hk.1.1.2⟩⟩⟩))), (zk BK497), (zk BK503), (zk BK509), (zk BK521), GW521.out, GE521.out, NB497_521.out, NB521_497.out, NB503_521.out, NB521_503.out, NB509_521.out, NB521_509.out, (zb HB)⟩)
         ·skip
          refine box_step ?hg (N := 12) ?hd (cs := #[.slice none 0 0, .int .i64 0]) (t := 25) ?hr ?_; (case hd => rfl); (case hg => rfl); (case hr => first | (go_simp; done) | (go_simp; rfl))
          intro gb521 hg w88 hbox hb
          replace HO_498000 := Aside0.mk (Kd.R_below (zr HO_498000) hb)
          replace HO_504000 := Aside0.mk (Kd.R_below (zr HO_504000) hb)
          replace HO_510000 := Aside0.mk (Kd.R_below (zr HO_510000) hb)
          have BK521 := Aside0.mk (hbox)
          have GW521 := gw HB hg
          have GE521 := gw HB hg
          replace HB := Aside0.mk (below_step (zb HB) hb)
          have NB497_521 := Aside0.mk ((by rw [hg]; exact Nat.ne_of_lt (blk_lt (zk BK497)) : gb497 ≠ gb521))
          have NB521_497 := Aside0.mk ((by rw [hg]; exact Nat.ne_of_gt (blk_lt (zk BK497)) : gb521 ≠ gb497))
          replace BK497 := kb BK497 hb
          have NB503_521 := Aside0.mk ((by rw [hg]; exact Nat.ne_of_lt (blk_lt (zk BK503)) : gb503 ≠ gb521))
          have NB521_503 := Aside0.mk ((by rw [hg]; exact Nat.ne_of_gt (blk_lt (zk BK503)) : gb521 ≠ gb503))
          replace BK503 := kb BK503 hb
          have NB509_521 := Aside0.mk ((by rw [hg]; exact Nat.ne_of_lt (blk_lt (zk BK509)) : gb509 ≠ gb521))
          have NB521_509 := Aside0.mk ((by rw [hg]; exact Nat.ne_of_gt (blk_lt (zk BK509)) : gb521 ≠ gb509))
          replace BK509 := kb BK509 hb
          clear hb hbox hg
          refine hK.out _ _ (b2 BK497) (fun hHeld => ?_)
          clear hK K
          refine nm ?_
          refine one_ (i := 1) (N := some 66) (bm 13 1055) rfl rfl (one_of HT_.out (by kernel_rfl)) (by decide) (fun K hK => ?_)
          refine gs Try.func34 #[] ?_
          with_reducible refine (impl_TableFixed.calls  t513 _ A54.out).mono ?_
          rintro e w89 ⟨v514, rfl, ho0, hb⟩
          refine ⟨_, rfl, ?_⟩
          have HO515 := Aside0.mk (Kd.R_lower (Kd.R_new' (Kd.R_new' (Kd.R_new' ho0 (Kd.R_lt (zr HO_498000))) (Kd.R_lt (zr HO_504000))) (Kd.R_lt (zr HO_510000))) (below_size (zb HB)))
          replace HO_498000 := Aside0.mk (Kd.R_elder' (zr HO_498000) (Kd.R_base ho0) hb)
          replace HO_504000 := Aside0.mk (Kd.R_elder' (zr HO_504000) (Kd.R_base ho0) hb)
          replace HO_510000 := Aside0.mk (Kd.R_elder' (zr HO_510000) (Kd.R_base ho0) hb)
          replace BK497 := kb BK497 hb
          replace BK503 := kb BK503 hb
          replace BK509 := kb BK509 hb
          replace BK521 := kb BK521 hb
          replace HB := Aside0.mk (below_step (zb HB) hb)
          (try clear hb)
          (try clear ho0)
          obtain ⟨Ao90, co90, eo90⟩ := Kd.R_slice HO515.out
          (first | subst eo90 | (injection eo90 with f1_ f2_ f3_; have f4_ := f1_.symm; have f5_ := f3_.symm; clear f1_ f2_ f3_; subst f4_; subst f5_))
          refine hK.out _ _ (b2 BK497) (fun hHeld => ?_)
          clear hK K
          refine nm ?_
          obtain ⟨AZ, cZ, hcutZ, HCZ, HMZ⟩ := fixed_cut Ao90 t513 y513 co90 ((l1.length : Int) % 6) (by omega) (by omega) KK513.out (Kd.R_reads' HO515.out).2.1 KY513.out
          refine pu 5 (some 70) (bm 13 1087) rfl rfl ?_
          refine one_ (i := 6) (N := some 71) (bm 13 1151) rfl rfl (one_of HT_.out (by kernel_rfl)) (by decide) (fun K hK => ?_)
          refine gs Try.func39 #[.agg #[.slice Ao12 t490.length co12, .int .i64 t493], .slice AZ y513.length cZ] ?_
          with_reducible refine (impl_HeadWrite.calls kj8 _ _ t490 t493 _ _ y513 t516 t519 t520 _ ?side1 ?side2 ?side3 ?side4 A55.out).mono ?_
          (case side1 => exact zc (Kd.R_reads' HO_498000.out).2.2)
          (case side2 => exact (Kd.R_reads' HO_498000.out).2.1)
          (case side3 => exact zc (HMZ.out _ (Kd.R_reads' HO515.out).2.2))
          (case side4 => exact HCZ.out)
          rintro e w91 ⟨v517, rfl, ho0, hb⟩
          refine ⟨_, rfl, ?_⟩
          have HO518 := Aside0.mk (Kd.R_lower (Kd.R_new' (Kd.R_new' (Kd.R_new' (Kd.R_new' ho0 (Kd.R_lt (zr HO_498000))) (Kd.R_lt (zr HO_504000))) (Kd.R_lt (zr HO_510000))) (Kd.R_lt (zr HO515))) (below_size (zb HB)))
          replace HO_498000 := Aside0.mk (Kd.R_elder' (zr HO_498000) (Kd.R_base ho0) hb)
          replace HO_504000 := Aside0.mk (Kd.R_elder' (zr HO_504000) (Kd.R_base ho0) hb)
          replace HO_510000 := Aside0.mk (Kd.R_elder' (zr HO_510000) (Kd.R_base ho0) hb)
          replace HO515 := Aside0.mk (Kd.R_elder' (zr HO515) (Kd.R_base ho0) hb)
          replace BK497 := kb BK497 hb
          replace BK503 := kb BK503 hb
          replace BK509 := kb BK509 hb
          replace BK521 := kb BK521 hb
          replace HB := Aside0.mk (below_step (zb HB) hb)
          (try clear hb)
          (try clear ho0)
          refine hK.out _ _ (b2 BK497) (fun hHeld => ?_)
          clear hK K
          refine nm ?_
          refine pu 7 (some 64) (bm 13 1279) rfl rfl ?_
          refine pu 8 (some 72) (bm 13 1535) rfl rfl ?_
          refine pu 9 (some 73) (bm 13 2047) rfl rfl ?_
          exact norm_ (by simp only [putAll, Act.put, s1, s2, s3]) (hCont (.slice Ao90 t513.length co90, v517, gb521, .slice AZ y513.length cZ) _ ⟨hHeld, (zq (Kd.R_mono HO515.out (fun _ hk => ⟨hk.2, ⟨hk.1.1.1.2, ⟨hk.1.1.2, hk.1.2⟩⟩⟩))), (zq (Kd.R_mono HO518.out (fun _ hk => ⟨hk.2, ⟨hk.1.1.1.2, ⟨hk.1.1.2, hk.1.2⟩⟩⟩))), (zq (Kd.R_mono HO_498000.out (fun _ hk => ⟨hk.1.2, ⟨hk.2, ⟨hk.1.1.1, hk.1.1.2⟩⟩⟩))), (zq (Kd.R_mono HO_504000.out (fun _ hk => ⟨hk.1.2, ⟨hk.2, ⟨hk.1.1.1, hk.1.1.2⟩⟩⟩))), (zq (Kd.R_mono HO_510000.out (fun _ hk => ⟨hk.1.2, ⟨hk.2, ⟨hk.1.1.1, hk.1.1.2⟩⟩⟩))), (zk BK497), (zk BK503), (zk BK509), (zk BK521), GW521.out, GE521.out, NB497_521.out, NB521_497.out, NB503_521.out, NB521_503.out, NB509_521.out, NB521_509.out, (zb HB)⟩)
        rintro ⟨v514, v517, gb521, v70_⟩ w92 ⟨hS_, h0_, h1_, h2_, h3_, h4_, h5_, h6_, h7_, h8_, h9_, h10_, h11_, h12_, h13_, h14_, h15_, h16_, h17_⟩
        have n0_ : Aside0 (Kd.R k36 36 w92 w.heap.size (fun k_ => some k_ ≠ (v517 : Value).ownBlock ∧ some k_ ≠ (.slice Ao12 t490.length co12 : Value).ownBlock ∧ some k_ ≠ (.slice Ao17 t498.length co17 : Value).ownBlock ∧ some k_ ≠ (.slice Ao23 t504.length co23 : Value).ownBlock) v514 t513) := ⟨h0_⟩
        have n1_ : Aside0 (Kd.R k36 36 w92 w.heap.size (fun k_ => some k_ ≠ (v514 : Value).ownBlock ∧ some k_ ≠ (.slice Ao12 t490.length co12 : Value).ownBlock ∧ some k_ ≠ (.slice Ao17 t498.length co17 : Value).ownBlock ∧ some k_ ≠ (.slice Ao23 t504.length co23 : Value).ownBlock) v517 t516) := ⟨h1_⟩
        have n2_ : Aside0 (Kd.R k36 36 w92 w.heap.size (fun k_ => some k_ ≠ (v514 : Value).ownBlock ∧ some k_ ≠ (v517 : Value).ownBlock ∧ some k_ ≠ (.slice Ao17 t498.length co17 : Value).ownBlock ∧ some k_ ≠ (.slice Ao23 t504.length co23 : Value).ownBlock) (.slice Ao12 t490.length co12) t490) := ⟨h2_⟩
        have n3_ : Aside0 (Kd.R k36 36 w92 w.heap.size (fun k_ => some k_ ≠ (v514 : Value).ownBlock ∧ some k_ ≠ (v517 : Value).ownBlock ∧ some k_ ≠ (.slice Ao12 t490.length co12 : Value).ownBlock ∧ some k_ ≠ (.slice Ao23 t504.length co23 : Value).ownBlock) (.slice Ao17 t498.length co17) t498) := ⟨h3_⟩
        have n4_ : Aside0 (Kd.R k36 36 w92 w.heap.size (fun k_ => some k_ ≠ (v514 : Value).ownBlock ∧ some k_ ≠ (v517 : Value).ownBlock ∧ some k_ ≠ (.slice Ao12 t490.length co12 : Value).ownBlock ∧ some k_ ≠ (.slice Ao17 t498.length co17 : Value).ownBlock) (.slice Ao23 t504.length co23) t504) := ⟨h4_⟩
        have n5_ : Aside0 (w92.heap[gb497]? = some (.cells #[.slice Ao12 t490.length co12, .int .i64 t493] 25 (0, 0))) := ⟨h5_⟩
        have n6_ : Aside0 (w92.heap[gb503]? = some (.cells #[.slice Ao17 t498.length co17, .int .i64 t501] 25 (0, 0))) := ⟨h6_⟩
        have n7_ : Aside0 (w92.heap[gb509]? = some (.cells #[.slice Ao23 t504.length co23, .int .i64 t507] 25 (0, 0))) := ⟨h7_⟩
        have n8_ : Aside0 (w92.heap[gb521]? = some (.cells #[.slice none 0 0, .int .i64 0] 25 (0, 0))) := ⟨h8_⟩
        have n9_ : Aside0 (w.heap.size ≤ gb521) := ⟨h9_⟩
        have n10_ : Aside0 (w.heap.size ≤ gb521) := ⟨h10_⟩
        have n11_ : Aside0 (gb497 ≠ gb521) := ⟨h11_⟩
        have n12_ : Aside0 (gb521 ≠ gb497) := ⟨h12_⟩
        have n13_ : Aside0 (gb503 ≠ gb521) := ⟨h13_⟩
        have n14_ : Aside0 (gb521 ≠ gb503) := ⟨h14_⟩
        have n15_ : Aside0 (gb509 ≠ gb521) := ⟨h15_⟩
        have n16_ : Aside0 (gb521 ≠ gb509) := ⟨h16_⟩
        have n17_ : Aside0 (Below w.heap.size w w92) := ⟨h17_⟩
        clear HO_498000
        clear HO_504000
        clear HO_510000
        clear BK497
        clear BK503
        clear BK509
        clear HB
        clear h0_ h1_ h2_ h3_ h4_ h5_ h6_ h7_ h8_ h9_ h10_ h11_ h12_ h13_ h14_ h15_ h16_ h17_
        have HO515 := n0_
        have HO518 := n1_
        have HO_498000 := n2_
        have HO_504000 := n3_
        have HO_510000 := n4_
        have BK497 := n5_
        have BK503 := n6_
        have BK509 := n7_
        have BK521 := n8_
        have GW521 := n9_
        have GE521 := n10_
        have NB497_521 := n11_
        have NB521_497 := n12_
        have NB503_521 := n13_
        have NB521_503 := n14_
        have NB509_521 := n15_
        have NB521_509 := n16_
        have HB := n17_
        clear n0_ n1_ n2_ n3_ n4_ n5_ n6_ n7_ n8_ n9_ n10_ n11_ n12_ n13_ n14_ n15_ n16_ n17_
        have hHeld : w92.cell? ⟨gb497, 0, none⟩ = some (.slice Ao12 t490.length co12) ∧ w92.cell? ⟨gb497, 1, none⟩ = some (.int .i64 t493) := hS_
        obtain ⟨Ao93, co93, eo93⟩ := Kd.R_slice HO518.out
        (first | subst eo93 | (injection eo93 with f1_ f2_ f3_; have f4_ := f1_.symm; have f5_ := f3_.symm; clear f1_ f2_ f3_; subst f4_; subst f5_))
        refine norm_ (a' := ?_) ?_ ?_
        rotate_left
        ·simp only [putAll, Act.put, s1, s2, s3]
         rfl
        refine one_ (i := 11) (N := none) (bm 13 4095) rfl rfl (one_of HT_.out (by kernel_rfl)) (by decide) (fun K hK => ?_)
        have hs94 : w92.cell? ⟨gb521, 0, none⟩ = some (.slice none 0 0) := (blk_cell BK521.out 0).trans rfl
        have hfs94 := blk_frozen BK521.out 0
        have hns94_0 := NB497_521.out
        have hns94_1 := NB503_521.out
        have hns94_2 := NB509_521.out
        have hms94_0 := NB521_497.out
        have hms94_1 := NB521_503.out
        have hms94_2 := NB521_509.out
        have hs95 : w92.cell? ⟨gb521, 1, none⟩ = some (.int .i64 0) := (blk_cell BK521.out 1).trans rfl
        have hfs95 := blk_frozen BK521.out 1
        have hns95_0 := NB497_521.out
        have hns95_1 := NB503_521.out
        have hns95_2 := NB509_521.out
        have hms95_0 := NB521_497.out
        have hms95_1 := NB521_503.out
        have hms95_2 := NB521_509.out
        refine skip_ (w1 := ?_) (by rfl) rfl ?_ ?_
        rotate_left
        ·go_simp
         rfl
        refine hK.out _ _ ⟨((cell_far (p := ⟨gb521, _, none⟩) NB497_521.out _).trans (((cell_far (p := ⟨gb521, _, none⟩) NB497_521.out _).trans (hHeld.1)))), ((cell_far (p := ⟨gb521, _, none⟩) NB497_521.out _).trans (((cell_far (p := ⟨gb521, _, none⟩) NB497_521.out _).trans (hHeld.2))))⟩ (fun hHeld => ?_)
        clear hK K
        refine pu 12 (some 13) (bm 13 8191) rfl rfl ?_
        refine done_ (done_of HT_.out (by kernel_rfl)) ?_
        try go_wp2
        go_ret
        exact ⟨ze, zb HB⟩

/-- THE ONE PURE STATEMENT of laws_FnHeadFixed: yours. -/
def laws_FnHeadFixed.Pure : Prop := ∀ (l0 : List Int) (l1 : List Int), l0.length ≤ maxLen → l0.length * 1 ≤ 140737488351232 → (∀ x ∈ l0, (Lit.int .u8 x).wf = true) → l1.length ≤ maxLen → l1.length * 1 ≤ 140737488351232 → (∀ x ∈ l1, (Lit.int .u8 x).wf = true) → ∃ k, laws_FnHeadFixed.f k l0 l1 = some true
theorem laws_FnHeadFixed.walk (P : laws_FnHeadFixed.Pure) (a0 : Option Addr) (len0 cap0 : Nat) (z0 : List Int) (a1 : Option Addr) (len1 cap1 : Nat) (z1 : List Int) (w : World) (w0 : (a0 = none ∧ len0 = 0 ∧ cap0 = 0 ∧ z0 = []) ∨ ∃ x, a0 = some x ∧ len0 ≤ cap0 ∧ cap0 ≤ maxLen ∧ z0.length = cap0 ∧ (∀ i, i < z0.length → w.cell? (x.add i) = some (.int .u8 (z0.getD i 0))) ∧ ∀ n ∈ z0, (Lit.int .u8 n).wf = true) (y0 : len0 * 1 ≤ 140737488351232) (w1 : (a1 = none ∧ len1 = 0 ∧ cap1 = 0 ∧ z1 = []) ∨ ∃ x, a1 = some x ∧ len1 ≤ cap1 ∧ cap1 ≤ maxLen ∧ z1.length = cap1 ∧ (∀ i, i < z1.length → w.cell? (x.add i) = some (.int .u8 (z1.getD i 0))) ∧ ∀ n ∈ z1, (Lit.int .u8 n).wf = true) (y1 : len1 * 1 ≤ 140737488351232) :
  Calls Try.prog 12 #[.slice a0 len0 cap0, .slice a1 len1 cap1] w fun e w' => e = .returned (.bool true) ∧ Below w.heap.size w w' := by
 obtain ⟨l0, rfl, hr0, hm0, hw0, hc0⟩ := ReadsInt.ofRowC w0
 obtain ⟨l1, rfl, hr1, hm1, hw1, hc1⟩ := ReadsInt.ofRowC w1
 obtain ⟨k, h⟩ := P l0 l1 hm0 y0 hw0 hm1 y1 hw1
 refine (laws_FnHeadFixed.calls k _ _ l0 _ _ l1 true w (Kd.C_of_reads (d := (0 : Int)) (h1 := fun _ => rfl) hr0) hc0 (Kd.C_of_reads (d := (0 : Int)) (h1 := fun _ => rfl) hr1) hc1 h).mono ?_
 rintro e w' ⟨rfl, hd⟩
 exact ⟨rfl, hd⟩

end Go.Proofs.Ytdhahifdcoinhaa.PFnHeadFixed
