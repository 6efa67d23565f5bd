-- WRITTEN BY a turned print (wip/tools of the prover's repo)
import Derived.Test.YtdhahifdcoinhaaPFnHeadFixedx0
import Derived.Test.YtdhahifdcoinhaaPFnHeadFixedx7
namespace Go.Proofs.Ytdhahifdcoinhaa.PFnHeadFixed
open Go.RowKit Go.Proofs.YtdhahifdcoinhaaW.PrintWords Go.Proofs.YtdhahifdcoinhaaW.PrintLast Go.Proofs.YtdhahifdcoinhaaW.PrintMore Go.Proofs.Ytdhahifdcoinhaa.Lm
attribute [local go_sem] max2_int min2_int max_two min_two max_three min_three max_four min_four   -- for this text's walks alone
set_option linter.unusedVariables false
set_option linter.unusedSimpArgs false

/-! ### impl_Table_size: function 56 -/
-- thin
def impl_Table_size.l0 : Nat → Int → List (S36) → Int → Int → Option (Int)
 | 0, _, _, _, _ => none
 | k + 1, x3, x7, x8, x9 => if x9 < x8 then (if 0 ≤ x9 then (if x9 < (x7.length : Int) then (impl_Table_size.l0 k (wrap64 (x3 + (wrap64 ((wrap64 ((((rd_T36 x7 x9).f0).size : Int) + (((rd_T36 x7 x9).f1).size : Int))) + 4)))) x7 x8 (wrap64 (x9 + 1))) else (none)) else (none)) else (some x3)
def impl_Table_size.f (k : Nat) (l0_0 : List (S36)) (a0_1 : Int) : Option (Int) := impl_Table_size.l0 k 0 l0_0 (l0_0.length : Int) 0
theorem impl_Table_size.mono_l : ∀ k, (∀ y0 y1 y2 y3, LeO (impl_Table_size.l0 k y0 y1 y2 y3) (impl_Table_size.l0 (k + 1) y0 y1 y2 y3))
 | 0 => fun _ _ _ _ r h => by simp [impl_Table_size.l0] at h
 | k + 1 => by
  have ih0 := impl_Table_size.mono_l k
  ·intro y0 y1 y2 y3
   unfold impl_Table_size.l0
   exact zm
theorem impl_Table_size.mono : ∀ a0 a1 k, LeO (impl_Table_size.f k a0 a1) (impl_Table_size.f (k + 1) a0 a1) := by
 intro a0 a1 k
 have ih0 := impl_Table_size.mono_l k
 unfold impl_Table_size.f
 exact zm
set_option maxHeartbeats 8000000 in
set_option maxRecDepth 100000 in
theorem impl_Table_size.calls (k : Nat) (A0_0 : Option Addr) (c0_0 : Nat) (l0_0 : List (S36)) (a0_1 : Int) (r : Int) (w : World) (hr0_0 : Kd.C k36 w A0_0 l0_0.length l0_0) (hc0_0 : l0_0.length ≤ c0_0) (h : impl_Table_size.f k l0_0 a0_1 = some r) :
  Calls Try.prog 56 #[.agg #[.slice A0_0 l0_0.length c0_0, .int .i64 a0_1]] w fun e w' => e = .returned (.int .i64 r) ∧ Below w.heap.size w w' := by
 have hu25 := Try.underlying25
 have hu36 := Try.underlying36
 have HR0_0 := Aside0.mk hr0_0
 have HC0_0 := Aside0.mk hc0_0
 clear hr0_0 hc0_0
 have HB := Aside0.mk (Below.refl w.heap.size w)
 have H : (impl_Table_size.l0 k 0 l0_0 (l0_0.length : Int) 0) = some r := h
 clear h
 have H' := Aside0.mk H
 clear H
 go_enter Try.func56, Try.ntmps56
 go_wp2_with (first | ((with_reducible refine gd 1 rfl ?_); refine bx (N := 1) (cs := #[.slice A0_0 l0_0.length c0_0, .int .i64 a0_1]) (t := 25) ?_; intro gb386 hg w2 hbox hb; have BK386 := Aside0.mk (hbox); have GW386 := gw HB hg; have GE386 := GW386; replace HB := Aside0.mk (below_step (zb HB) hb); clear hb hbox hg; obtain ⟨hcz3_0, hcz3_1, hfz3_0, hfz3_1⟩ := c2 BK386))
 go_loopg [3, 9] k (fun kq v3 v9 w' => ∃ (x3_1 : Int) (x9_1 : Int), v3 = .int .i64 x3_1 ∧ v9 = .int .i64 x9_1 ∧ Aside0 (impl_Table_size.l0 kq x3_1 l0_0 (l0_0.length : Int) x9_1 = some r) ∧ Aside0 (kq ≤ k) ∧ Aside0 (w'.heap[gb386]? = some (.cells #[(.slice A0_0 l0_0.length c0_0), .int .i64 a0_1] 25 (0, 0))) ∧ Aside0 (Below w.heap.size w w'))
 case atStart => exact ⟨(0), (0), zs, zs, H', ⟨Nat.le_refl _⟩, ⟨by exact zk BK386⟩, ⟨zb HB⟩⟩
 case round =>
  clear H'
  try clear p2
  try clear hcz3_0
  try clear hcz3_1
  try clear hfz3_0
  try clear hfz3_1
  obtain ⟨x3_1, x9_1, rfl, rfl, HA, HK1, BK386, HB⟩ := hrel
  cases gk with
  | zero => exact absurd HA.out (by simp [impl_Table_size.l0])
  | succ k1 =>
   have H := HA.out
   clear HA
   simp only [impl_Table_size.l0] at H
   replace H := sp H
   rcases H with ⟨c4, H⟩ | ⟨c4, H⟩
   ·skip
    have c4b0 := decide_eq_true c4
    clear c4
    by_cases c5 : 0 ≤ x9_1
    ·rw [if_pos c5] at H
     have c5b0 := decide_eq_true c5
     clear c5
     by_cases c6 : x9_1 < (l0_0.length : Int)
     ·rw [if_pos c6] at H
      have c6b0 := decide_eq_true c6
      clear c6
      have H' := Aside0.mk H
      clear H
      have p387 : 0 ≤ (x9_1 : Int) := of_decide_eq_true za
      have q387 : x9_1 < (l0_0.length : Int) := of_decide_eq_true za
      obtain ⟨ad387, e387, hx387_0, hx387_1, hx387_2⟩ := at_T36 HR0_0.out x9_1 p387 q387
      cases e387
      replace hx387_0 := cb0 hx387_0 HB
      replace hx387_1 := cb0 hx387_1 HB
      replace hx387_2 := cb0 hx387_2 HB
      replace p387 := eq_true p387
      replace q387 := eq_true q387
      go_wp2_with (first | ((with_reducible refine gd 5 rfl ?_); refine bx (N := 5) (cs := #[.string (⟨#[]⟩ : ByteArray), .string (⟨#[]⟩ : ByteArray), .bool false]) (t := 36) ?_; intro gb388 hg w7 hbox hb; have BK388 := Aside0.mk (hbox); have GW388 := gw HB hg; have GE388 := GW388; replace HB := Aside0.mk (below_step (zb HB) hb); obtain ⟨NB386_388, NB388_386⟩ := nb BK386 hg; replace BK386 := kb BK386 hb; clear hb hbox hg; have hnb8 := NB388_386.out; have hnc8 := NB386_388.out; obtain ⟨hcz9_0, hcz9_1, hcz9_2, hfz9_0, hfz9_1, hfz9_2⟩ := c3 BK388))
      go_roundg k1
      case measure => have := HK1.out; omega
      case rel => exact ⟨(wrap64 (x3_1 + (wrap64 ((wrap64 ((((rd_T36 l0_0 x9_1).f0).size : Int) + (((rd_T36 l0_0 x9_1).f1).size : Int))) + 4)))), (wrap64 (x9_1 + 1)), zs, zs, H', ⟨by have := HK1.out; omega⟩, ⟨zp BK386⟩, ⟨zb HB⟩⟩
     ·rw [if_neg c6] at H
      exact absurd H (by simp)
    ·rw [if_neg c5] at H
     exact absurd H (by simp)
   ·skip
    have c4b0 := decide_eq_false c4
    clear c4
    obtain rfl := Option.some.inj H
    go_wp2
    go_ret
    exact ⟨ze, zb HB⟩

/-! ### impl_TableOk: function 21 -/
-- thin
def impl_TableOk.f (k : Nat) (l0_0 : List (S36)) (a0_1 : Int) : Option (Bool) := (impl_in.f a0_1 0 64).bind fun t390 => (if t390 = true then ((ContainsFunc_Field.f k l0_0 54).bind fun t391 => (if t391 = true then (some false) else ((impl_Table_size.f k l0_0 a0_1).bind fun t392 => (some (decide (t392 ≤ a0_1)))))) else (some false))
theorem impl_TableOk.mono : ∀ a0 a1 k, LeO (impl_TableOk.f k a0 a1) (impl_TableOk.f (k + 1) a0 a1) := by
 intro a0 a1 k
 unfold impl_TableOk.f
 have m0 := @ContainsFunc_Field.mono
 have m1 := @impl_Table_size.mono
 exact zm
def impl_TableOk.T1 : Bool × List (List Nat × List Nat) := (true, [([], []), ([0], [0]), ([1], [1]), ([2, 2], [2]), ([3], [3]), ([4, 3], [3, 4]), ([5, 3, 3], [3, 5]), ([6, 3], [3, 6]), ([3, 7], [3, 7]), ([8, 6], [8]), ([9], [9]), ([10, 9, 9], [9, 10]), ([9], [9]), ([12, 9], [9, 12]), ([11, 13, 9], [9, 11, 13]), ([9, 14], [9, 14]), ([15, 11, 0, 1, 2, 3, 4, 5, 6, 7, 8, 9, 10, 11, 12, 13, 14, 15], [15])])
def impl_TableOk.B1 : List Nat := [0, 1, 3, 7, 15, 31, 63, 127, 255, 511, 1023, 2047, 1023, 5119, 16383, 32767, 65535]
theorem impl_TableOk.tab1 : rtab .any (opsOf Try.f21 1) = impl_TableOk.T1 := by kernel_rfl
theorem impl_TableOk.bits1 : waitsOk impl_TableOk.T1.2 impl_TableOk.B1 = true := by kernel_rfl
set_option maxHeartbeats 8000000 in
set_option maxRecDepth 100000 in
theorem impl_TableOk.calls (k : Nat) (A0_0 : Option Addr) (c0_0 : Nat) (l0_0 : List (S36)) (a0_1 : Int) (r : Bool) (w : World) (hr0_0 : Kd.C k36 w A0_0 l0_0.length l0_0) (hc0_0 : l0_0.length ≤ c0_0) (h : impl_TableOk.f k l0_0 a0_1 = some r) :
  Calls Try.prog 21 #[.agg #[.slice A0_0 l0_0.length c0_0, .int .i64 a0_1]] w fun e w' => e = .returned (.bool r) ∧ Below w.heap.size w w' := by
 have hu25 := Try.underlying25
 have HR0_0 := Aside0.mk hr0_0
 have HC0_0 := Aside0.mk hc0_0
 clear hr0_0 hc0_0
 have HB := Aside0.mk (Below.refl w.heap.size w)
 have H : ((impl_in.f a0_1 0 64).bind fun t390 => (if t390 = true then ((ContainsFunc_Field.f k l0_0 54).bind fun t391 => (if t391 = true then (some false) else ((impl_Table_size.f k l0_0 a0_1).bind fun t392 => (some (decide (t392 ≤ a0_1)))))) else (some false))) = some r := h
 clear h
 obtain ⟨t390, A2, H⟩ := ob H
 (try dsimp only at H)
 by_cases c3 : t390 = true
 ·subst c3
  rw [if_pos rfl] at H
  obtain ⟨t391, A4, H⟩ := ob H
  (try dsimp only at H)
  by_cases c5 : t391 = true
  ·subst c5
   rw [if_pos rfl] at H
   obtain rfl := Option.some.inj H
   go_enter Try.func21, Try.ntmps21
   try go_wp2_with (first | ((with_reducible refine gd 1 rfl ?_); refine bx (N := 1) (cs := #[.slice A0_0 l0_0.length c0_0, .int .i64 a0_1]) (t := 25) ?_; intro gb389 hg w6 hbox hb; have BK389 := Aside0.mk (hbox); have GW389 := gw HB hg; have GE389 := GW389; replace HB := Aside0.mk (below_step (zb HB) hb); clear hb hbox hg))
   replace BK389 := Aside0.mk (blk_drew BK389.out)
   replace HB := Aside0.mk (below_drew1 HB.out)
   refine st 17 (b2 BK389) (fun hHeld => ?_); refine with_tabW impl_TableOk.tab1 impl_TableOk.bits1 (fun HT_ HW_ => ?_)
   generalize w6.drew = w7 at BK389 HB hHeld ⊢
   refine pu 0 (some 3) (bm 17 1) rfl rfl ?_
   refine tk 1 (some 4) (bm 17 3) rfl rfl hHeld ?_
   refine one_ (i := 2) (N := some 5) (bm 17 7) rfl rfl (one_of HT_.out (by kernel_rfl)) (by decide) (fun K hK => ?_)
   refine gs Try.func48 #[.int .i64 a0_1, .int .i64 0, .int .i64 64] ?_
   with_reducible refine (impl_in.calls a0_1 0 64 true _ A2.out).mono ?_
   rintro e w' ⟨rfl, ⟨nd, rfl⟩⟩
   refine ⟨_, rfl, ?_⟩
   refine hK.out _ _ (b2 BK389) (fun hHeld => ?_)
   clear hK K
   refine nm ?_
   refine pu 3 (some 6) (bm 17 15) rfl rfl ?_
   refine pu 4 (some 7) (bm 17 31) rfl rfl ?_
   refine tk 5 (some 8) (bm 17 63) rfl rfl hHeld ?_
   refine one_ (i := 6) (N := some 9) (bm 17 127) rfl rfl (one_of HT_.out (by kernel_rfl)) (by decide) (fun K hK => ?_)
   refine gs Try.func53 #[.slice A0_0 l0_0.length c0_0, .func (.func 54) #[] #[]] ?_
   with_reducible refine (ContainsFunc_Field.calls k _ _ l0_0 54 true _ ?side1 ?side2 A4.out).mono ?_
   (case side1 => exact (Kd.C_below HR0_0.out (zb HB)))
   (case side2 => exact HC0_0.out)
   rintro e w8 ⟨rfl, hb⟩
   refine ⟨_, rfl, ?_⟩
   replace BK389 := kb BK389 hb
   replace HB := Aside0.mk (below_step (zb HB) hb)
   (try clear hb)
   refine hK.out _ _ (b2 BK389) (fun hHeld => ?_)
   clear hK K
   refine nm ?_
   refine pu 7 (some 10) (bm 17 255) rfl rfl ?_
   refine pu 8 (some 11) (bm 17 511) rfl rfl ?_
   refine pu 9 (some 12) (bm 17 1023) rfl rfl ?_
   refine pv 10 (some 13) (bm 17 2047) rfl rfl ?_
   refine pv 11 (some 14) (bm 17 4095) rfl rfl ?_
   refine pv 12 (some 15) (bm 17 8191) rfl rfl ?_
   refine pv 13 (some 16) (bm 17 16383) rfl rfl ?_
   refine pv 14 (some 17) (bm 17 32767) rfl rfl ?_
   refine pu 15 (some 18) (bm 17 65535) rfl rfl ?_
   refine pu 16 (some 2) (bm 17 131071) rfl rfl ?_
   refine done_ (done_of HT_.out (by kernel_rfl)) ?_
   try go_wp2
   go_ret
   exact ⟨ze, zb HB⟩
  ·replace c5 := Bool.eq_false_iff.mpr c5
   subst c5
   rw [if_neg (show ¬ (false = true) by decide)] at H
   obtain ⟨t392, A9, H⟩ := ob H
   (try dsimp only at H)
   obtain rfl := Option.some.inj H
   go_enter Try.func21, Try.ntmps21
   try go_wp2_with (first | ((with_reducible refine gd 1 rfl ?_); refine bx (N := 1) (cs := #[.slice A0_0 l0_0.length c0_0, .int .i64 a0_1]) (t := 25) ?_; intro gb389 hg w10 hbox hb; have BK389 := Aside0.mk (hbox); have GW389 := gw HB hg; have GE389 := GW389; replace HB := Aside0.mk (below_step (zb HB) hb); clear hb hbox hg))
   replace BK389 := Aside0.mk (blk_drew BK389.out)
   replace HB := Aside0.mk (below_drew1 HB.out)
   refine st 17 (b2 BK389) (fun hHeld => ?_); refine with_tabW impl_TableOk.tab1 impl_TableOk.bits1 (fun HT_ HW_ => ?_)
   generalize w10.drew = w11 at BK389 HB hHeld ⊢
   refine pu 0 (some 3) (bm 17 1) rfl rfl ?_
   refine tk 1 (some 4) (bm 17 3) rfl rfl hHeld ?_
   refine one_ (i := 2) (N := some 5) (bm 17 7) rfl rfl (one_of HT_.out (by kernel_rfl)) (by decide) (fun K hK => ?_)
   refine gs Try.func48 #[.int .i64 a0_1, .int .i64 0, .int .i64 64] ?_
   with_reducible refine (impl_in.calls a0_1 0 64 true _ A2.out).mono ?_
   rintro e w' ⟨rfl, ⟨nd, rfl⟩⟩
   refine ⟨_, rfl, ?_⟩
   refine hK.out _ _ (b2 BK389) (fun hHeld => ?_)
   clear hK K
   refine nm ?_
   refine pu 3 (some 6) (bm 17 15) rfl rfl ?_
   refine pu 4 (some 7) (bm 17 31) rfl rfl ?_
   refine tk 5 (some 8) (bm 17 63) rfl rfl hHeld ?_
   refine one_ (i := 6) (N := some 9) (bm 17 127) rfl rfl (one_of HT_.out (by kernel_rfl)) (by decide) (fun K hK => ?_)
   refine gs Try.func53 #[.slice A0_0 l0_0.length c0_0, .func (.func 54) #[] #[]] ?_
   with_reducible refine (ContainsFunc_Field.calls k _ _ l0_0 54 false _ ?side1 ?side2 A4.out).mono ?_
   (case side1 => exact (Kd.C_below HR0_0.out (zb HB)))
   (case side2 => exact HC0_0.out)
   rintro e w12 ⟨rfl, hb⟩
   refine ⟨_, rfl, ?_⟩
   replace BK389 := kb BK389 hb
   replace HB := Aside0.mk (below_step (zb HB) hb)
   (try clear hb)
   refine hK.out _ _ (b2 BK389) (fun hHeld => ?_)
   clear hK K
   refine nm ?_
   refine pu 7 (some 10) (bm 17 255) rfl rfl ?_
   refine pu 8 (some 11) (bm 17 511) rfl rfl ?_
   refine pu 9 (some 12) (bm 17 1023) rfl rfl ?_
   refine pu 12 (some 15) (bm 17 5119) rfl rfl ?_
   refine tk 10 (some 13) (bm 17 6143) rfl rfl hHeld ?_
   refine tk 13 (some 16) (bm 17 14335) rfl rfl hHeld ?_
   refine one_ (i := 11) (N := some 14) (bm 17 16383) rfl rfl (one_of HT_.out (by kernel_rfl)) (by decide) (fun K hK => ?_)
   refine gs Try.func56 #[.agg #[.slice A0_0 l0_0.length c0_0, .int .i64 a0_1]] ?_
   with_reducible refine (impl_Table_size.calls k _ _ l0_0 a0_1 t392 _ ?side1 ?side2 A9.out).mono ?_
   (case side1 => exact zc (Kd.C_below HR0_0.out HB.out))
   (case side2 => exact HC0_0.out)
   rintro e w13 ⟨rfl, hb⟩
   refine ⟨_, rfl, ?_⟩
   replace BK389 := kb BK389 hb
   replace HB := Aside0.mk (below_step (zb HB) hb)
   (try clear hb)
   refine hK.out _ _ (b2 BK389) (fun hHeld => ?_)
   clear hK K
   refine nm ?_
   refine pu 14 (some 17) (bm 17 32767) rfl rfl ?_
   refine pu 15 (some 18) (bm 17 65535) rfl rfl ?_
   refine pu 16 (some 2) (bm 17 131071) rfl rfl ?_
   refine done_ (done_of HT_.out (by kernel_rfl)) ?_
   try go_wp2
   go_ret
   exact ⟨ze, zb HB⟩
 ·replace c3 := Bool.eq_false_iff.mpr c3
  subst c3
  rw [if_neg (show ¬ (false = true) by decide)] at H
  obtain rfl := Option.some.inj H
  go_enter Try.func21, Try.ntmps21
  try go_wp2_with (first | ((with_reducible refine gd 1 rfl ?_); refine bx (N := 1) (cs := #[.slice A0_0 l0_0.length c0_0, .int .i64 a0_1]) (t := 25) ?_; intro gb389 hg w14 hbox hb; have BK389 := Aside0.mk (hbox); have GW389 := gw HB hg; have GE389 := GW389; replace HB := Aside0.mk (below_step (zb HB) hb); clear hb hbox hg))
  replace BK389 := Aside0.mk (blk_drew BK389.out)
  replace HB := Aside0.mk (below_drew1 HB.out)
  refine st 17 (b2 BK389) (fun hHeld => ?_); refine with_tabW impl_TableOk.tab1 impl_TableOk.bits1 (fun HT_ HW_ => ?_)
  generalize w14.drew = w15 at BK389 HB hHeld ⊢
  refine pu 0 (some 3) (bm 17 1) rfl rfl ?_
  refine tk 1 (some 4) (bm 17 3) rfl rfl hHeld ?_
  refine one_ (i := 2) (N := some 5) (bm 17 7) rfl rfl (one_of HT_.out (by kernel_rfl)) (by decide) (fun K hK => ?_)
  refine gs Try.func48 #[.int .i64 a0_1, .int .i64 0, .int .i64 64] ?_
  with_reducible refine (impl_in.calls a0_1 0 64 false _ A2.out).mono ?_
  rintro e w' ⟨rfl, ⟨nd, rfl⟩⟩
  refine ⟨_, rfl, ?_⟩
  refine hK.out _ _ (b2 BK389) (fun hHeld => ?_)
  clear hK K
  refine nm ?_
  refine pu 3 (some 6) (bm 17 15) rfl rfl ?_
  refine pv 4 (some 7) (bm 17 31) rfl rfl ?_
  refine pv 5 (some 8) (bm 17 63) rfl rfl ?_
  refine pv 6 (some 9) (bm 17 127) rfl rfl ?_
  refine pv 7 (some 10) (bm 17 255) rfl rfl ?_
  refine pu 8 (some 11) (bm 17 511) rfl rfl ?_
  refine pu 9 (some 12) (bm 17 1023) rfl rfl ?_
  refine pv 10 (some 13) (bm 17 2047) rfl rfl ?_
  refine pv 11 (some 14) (bm 17 4095) rfl rfl ?_
  refine pv 12 (some 15) (bm 17 8191) rfl rfl ?_
  refine pv 13 (some 16) (bm 17 16383) rfl rfl ?_
  refine pv 14 (some 17) (bm 17 32767) rfl rfl ?_
  refine pu 15 (some 18) (bm 17 65535) rfl rfl ?_
  refine pu 16 (some 2) (bm 17 131071) rfl rfl ?_
  refine done_ (done_of HT_.out (by kernel_rfl)) ?_
  try go_wp2
  go_ret
  exact ⟨ze, zb HB⟩

/-! ### impl_HeadOk: function 65 -/
-- thin
def impl_HeadOk.f (k : Nat) (l0 : List (S36)) : Option (Bool) := if (l0.length : Int) ≤ 6 then ((ContainsFunc_Field.f k l0 81).bind fun t393 => (some (!t393))) else (some false)
theorem impl_HeadOk.mono : ∀ a0 k, LeO (impl_HeadOk.f k a0) (impl_HeadOk.f (k + 1) a0) := by
 intro a0 k
 unfold impl_HeadOk.f
 have m0 := @ContainsFunc_Field.mono
 exact zm
set_option maxHeartbeats 8000000 in
set_option maxRecDepth 100000 in
theorem impl_HeadOk.calls (k : Nat) (A0 : Option Addr) (c0 : Nat) (l0 : List (S36)) (r : Bool) (w : World) (hr0 : Kd.C k36 w A0 l0.length l0) (hc0 : l0.length ≤ c0) (h : impl_HeadOk.f k l0 = some r) :
  Calls Try.prog 65 #[.slice A0 l0.length c0] w fun e w' => e = .returned (.bool r) ∧ Below w.heap.size w w' := by
 have HR0 := Aside0.mk hr0
 have HC0 := Aside0.mk hc0
 clear hr0 hc0
 have HB := Aside0.mk (Below.refl w.heap.size w)
 have H : (if (l0.length : Int) ≤ 6 then ((ContainsFunc_Field.f k l0 81).bind fun t393 => (some (!t393))) else (some false)) = some r := h
 clear h
 replace H := sp H
 rcases H with ⟨c2, H⟩ | ⟨c2, H⟩
 ·skip
  have c2b0 := decide_eq_true c2
  have c2b1 := decide_eq_true (by omega)
  clear c2
  obtain ⟨t393, A3, H⟩ := ob H
  (try dsimp only at H)
  obtain rfl := Option.some.inj H
  go_enter Try.func65, Try.ntmps65
  go_wp2_with (first | (go_at_call 53; (with_reducible refine (ContainsFunc_Field.calls k _ _ l0 81 t393 _ ?side1 ?side2 A3.out).mono ?_); (case side1 => exact zc HR0.out); (case side2 => exact HC0.out); rintro e w4 ⟨rfl, hb⟩; replace HB := Aside0.mk (below_step (zb HB) hb); (try clear hb)))
  go_ret
  exact ⟨ze, zb HB⟩
 ·skip
  have c2b0 := decide_eq_false c2
  have c2b1 := decide_eq_false (by omega)
  clear c2
  obtain rfl := Option.some.inj H
  go_enter Try.func65, Try.ntmps65
  go_wp2
  go_ret
  exact ⟨ze, zb HB⟩

/-! ### impl_cloneFields: function 84 -/
-- by hand
/-- A row like the one that came in. -/
def impl_cloneFields.f (l0 : List (S36)) : Option (List (S36)) := if l0.length < 3518437208883 then some l0 else none
set_option maxHeartbeats 4000000 in
set_option maxRecDepth 100000 in
theorem impl_cloneFields.calls (A0 : Option Addr) (c0 : Nat) (l0 : List (S36)) (r : List (S36)) (w : World) (hr0 : Kd.C k36 w A0 l0.length l0) (hc0 : l0.length ≤ c0) (h : impl_cloneFields.f l0 = some r) :
    Calls Try.prog 84 #[.slice A0 l0.length c0] w fun e w' => ∃ v0_ : Value, e = .returned (v0_) ∧ Kd.R k36 36 w' w.heap.size (fun _ => True) v0_ r ∧ Below w.heap.size w w' := by
  unfold impl_cloneFields.f at h
  split at h
  case isFalse => cases h
  rename_i hl
  obtain rfl := Option.some.inj h
  clear h
  have HR0 := Aside0.mk hr0
  clear hr0
  go_enter Try.func84, Try.ntmps84
  go_wp2_with (first | (at_builtin; refine Kd.R_append_rows k36 (w0 := w) w.heap.size rfl (.const (.slice none 0 0)) (.tmp 3) 23 36 (.agg #[(.string ⟨#[]⟩), (.string ⟨#[]⟩), (.bool false)]) 40 rfl Try.underlying23 info36 rfl (by decide) (by omega) (.slice none 0 0) [] l0 _ _ _ (fun _ => True) (fun _ => False) rfl rfl ?aO ?aR (fun _ _ h => h) (fun _ h => h.elim) ?aF ?aB ?aS ?aL ?_; (case aR => exact HR0.out); (case aB => exact Below.refl _ _); (case aF => exact (fun _ _ => trivial)); (case aO => exact Kd.R_nil _ _ _ _ _); (case aS => exact Nat.le_refl _); (case aL => simp only [List.length_nil]; omega); intro v1 w1 ho hb hg hat; rw [List.nil_append] at ho; have N1 := Aside0.mk ho; have N2 := Aside0.mk hb; clear ho hb hg hat))
  go_ret
  exact ⟨_, rfl, N1.out, N2.out⟩

/-! ### impl_Table_clone: function 69 -/
-- thin
def impl_Table_clone.f (l0_0 : List (S36)) (a0_1 : Int) : Option ((List (S36)) × Int) := (impl_cloneFields.f l0_0).bind fun t396 => (some (t396, a0_1))
set_option maxHeartbeats 8000000 in
set_option maxRecDepth 100000 in
theorem impl_Table_clone.calls (A0_0 : Option Addr) (c0_0 : Nat) (l0_0 : List (S36)) (a0_1 : Int) (r1 : List (S36)) (r2 : Int) (w : World) (hr0_0 : Kd.C k36 w A0_0 l0_0.length l0_0) (hc0_0 : l0_0.length ≤ c0_0) (h : impl_Table_clone.f l0_0 a0_1 = some (r1, r2)) :
  Calls Try.prog 69 #[.agg #[.slice A0_0 l0_0.length c0_0, .int .i64 a0_1]] w fun e w' => ∃ v0_ : Value, e = .returned (.agg #[v0_, .int .i64 r2]) ∧ Kd.R k36 36 w' w.heap.size (fun _ => True) v0_ r1 ∧ Below w.heap.size w w' := by
 have hu25 := Try.underlying25
 have HR0_0 := Aside0.mk hr0_0
 have HC0_0 := Aside0.mk hc0_0
 clear hr0_0 hc0_0
 have HB := Aside0.mk (Below.refl w.heap.size w)
 have H : ((impl_cloneFields.f l0_0).bind fun t396 => (some (t396, a0_1))) = some (r1, r2) := h
 clear h
 obtain ⟨t396, A2, H⟩ := ob H
 (try dsimp only at H)
 simp only [Option.some.injEq, Prod.mk.injEq] at H
 obtain ⟨rfl, rfl⟩ := H
 go_enter Try.func69, Try.ntmps69
 try go_wp2_with (first | ((with_reducible refine gd 1 rfl ?_); refine bx (N := 1) (cs := #[.slice A0_0 l0_0.length c0_0, .int .i64 a0_1]) (t := 25) ?_; intro gb394 hg w3 hbox hb; have BK394 := Aside0.mk (hbox); have GW394 := gw HB hg; have GE394 := GW394; replace HB := Aside0.mk (below_step (zb HB) hb); clear hb hbox hg) | ((with_reducible refine gd 2 rfl ?_); refine bx (N := 2) (cs := #[.slice none 0 0, .int .i64 0]) (t := 25) ?_; intro gb395 hg w4 hbox hb; have BK395 := Aside0.mk (hbox); have GW395 := gw HB hg; have GE395 := GW395; replace HB := Aside0.mk (below_step (zb HB) hb); obtain ⟨NB394_395, NB395_394⟩ := nb BK394 hg; replace BK394 := kb BK394 hb; clear hb hbox hg))
 replace BK394 := Aside0.mk (blk_drew BK394.out)
 replace BK395 := Aside0.mk (blk_drew BK395.out)
 replace HB := Aside0.mk (below_drew1 HB.out)
 refine st 7 (b2 BK394) (fun hHeld => ?_)
 generalize w4.drew = w5 at BK394 BK395 HB hHeld ⊢
 refine pu 0 (some 3) (bm 7 1) rfl rfl ?_
 refine pu 3 (some 6) (bm 7 9) rfl rfl ?_
 refine tk 1 (some 4) (bm 7 11) rfl rfl hHeld ?_
 refine tk 4 (some 7) (bm 7 27) rfl rfl hHeld ?_
 refine one_ (i := 2) (N := some 5) (bm 7 31) rfl rfl (by kernel_rfl) (by decide) (fun K hK => ?_)
 refine gs Try.func84 #[.slice A0_0 l0_0.length c0_0] ?_
 with_reducible refine (impl_cloneFields.calls _ _ l0_0 t396 _ ?side1 ?side2 A2.out).mono ?_
 (case side1 => exact zc (Kd.C_below HR0_0.out HB.out))
 (case side2 => exact HC0_0.out)
 rintro e w6 ⟨v397, rfl, ho0, hb⟩
 refine ⟨_, rfl, ?_⟩
 have HO398 := Aside0.mk (Kd.R_lower ho0 (below_size (zb HB)))
 replace BK394 := kb BK394 hb
 replace BK395 := kb BK395 hb
 replace HB := Aside0.mk (below_step (zb HB) hb)
 (try clear hb)
 (try clear ho0)
 obtain ⟨Ao7, co7, eo7⟩ := Kd.R_slice HO398.out
 (first | subst eo7 | (injection eo7 with f1_ f2_ f3_; have f4_ := f1_.symm; have f5_ := f3_.symm; clear f1_ f2_ f3_; subst f4_; subst f5_))
 refine hK.out _ _ (b2 BK394) (fun hHeld => ?_)
 clear hK K
 refine nm ?_
 refine pu 5 (some 8) (bm 7 63) rfl rfl ?_
 refine one_ (i := 6) (N := none) (bm 7 127) rfl rfl (by kernel_rfl) (by decide) (fun K hK => ?_)
 have hs8 : w6.cell? ⟨gb395, 0, none⟩ = some (.slice none 0 0) := (blk_cell BK395.out 0).trans rfl
 have hfs8 := blk_frozen BK395.out 0
 have hns8_0 := NB394_395.out
 have hms8_0 := NB395_394.out
 have hs9 : w6.cell? ⟨gb395, 1, none⟩ = some (.int .i64 0) := (blk_cell BK395.out 1).trans rfl
 have hfs9 := blk_frozen BK395.out 1
 have hns9_0 := NB394_395.out
 have hms9_0 := NB395_394.out
 refine skip_ (w1 := ?_) (by rfl) rfl ?_ ?_
 rotate_left
 ·go_simp
  rfl
 refine hK.out _ _ ⟨((cell_far (p := ⟨gb395, _, none⟩) NB394_395.out _).trans (((cell_far (p := ⟨gb395, _, none⟩) NB394_395.out _).trans (hHeld.1)))), ((cell_far (p := ⟨gb395, _, none⟩) NB394_395.out _).trans (((cell_far (p := ⟨gb395, _, none⟩) NB394_395.out _).trans (hHeld.2))))⟩ (fun hHeld => ?_)
 clear hK K
 refine done_ (by kernel_rfl) ?_
 try go_wp2
 refine bodyPost_ret (results_cell_row rfl _ _ gb395 25 #[.slice Ao7 t396.length co7, .int .i64 a0_1] (0, 0) _ rfl (zp BK395) Try.underlying25 rfl (by kernel_rfl)) rfl ?_
 exact ⟨_, ze, (Kd.R_mono (ztR (Kd.R_types HO398.out BK395.out (by decide))) (fun _ hk => trivial)), zb HB⟩

/-! ### impl_Table_fit: function 49 -/
-- thin
def impl_Table_fit.l0 : Nat → List (S36) → Int → Option ((List (S36)) × Int)
 | 0, _, _ => none
 | k + 1, x406000, x406001 => (impl_Table_size.f k x406000 x406001).bind fun t406 => (if t406 > x406001 then (if 0 ≤ (wrap64 ((x406000.length : Int) - 1)) then (if (wrap64 ((x406000.length : Int) - 1)) ≤ (x406000.length : Int) then (impl_Table_fit.l0 k (x406000.take ((wrap64 ((x406000.length : Int) - 1)) : Int).toNat) x406001) else (none)) else (none)) else ((impl_Table_clone.f x406000 x406001).bind fun bt410 => (some (bt410.1, bt410.2))))
def impl_Table_fit.f (k : Nat) (l0_0 : List (S36)) (a0_1 : Int) : Option ((List (S36)) × Int) := (impl_Table_clone.f l0_0 a0_1).bind fun bt401 => (impl_Table_fit.l0 k bt401.1 bt401.2)
theorem impl_Table_fit.mono_l : ∀ k, (∀ y0 y1, LeO (impl_Table_fit.l0 k y0 y1) (impl_Table_fit.l0 (k + 1) y0 y1))
 | 0 => fun _ _ r h => by simp [impl_Table_fit.l0] at h
 | k + 1 => by
  have ih0 := impl_Table_fit.mono_l k
  ·intro y0 y1
   unfold impl_Table_fit.l0
   have m0 := @impl_Table_size.mono
   exact zm
theorem impl_Table_fit.mono : ∀ a0 a1 k, LeO (impl_Table_fit.f k a0 a1) (impl_Table_fit.f (k + 1) a0 a1) := by
 intro a0 a1 k
 have ih0 := impl_Table_fit.mono_l k
 unfold impl_Table_fit.f
 have m0 := @impl_Table_size.mono
 exact zm
set_option maxHeartbeats 8000000 in
set_option maxRecDepth 100000 in
theorem impl_Table_fit.calls (k : Nat) (A0_0 : Option Addr) (c0_0 : Nat) (l0_0 : List (S36)) (a0_1 : Int) (r1 : List (S36)) (r2 : Int) (w : World) (hr0_0 : Kd.C k36 w A0_0 l0_0.length l0_0) (hc0_0 : l0_0.length ≤ c0_0) (h : impl_Table_fit.f k l0_0 a0_1 = some (r1, r2)) :
  Calls Try.prog 49 #[.agg #[.slice A0_0 l0_0.length c0_0, .int .i64 a0_1]] w fun e w' => ∃ v0_ : Value, e = .returned (.agg #[v0_, .int .i64 r2]) ∧ Kd.R k36 36 w' w.heap.size (fun _ => True) v0_ r1 ∧ Below w.heap.size w w' := by
 have hu25 := Try.underlying25
 have HR0_0 := Aside0.mk hr0_0
 have HC0_0 := Aside0.mk hc0_0
 clear hr0_0 hc0_0
 have HB := Aside0.mk (Below.refl w.heap.size w)
 have H : ((impl_Table_clone.f l0_0 a0_1).bind fun bt401 => (impl_Table_fit.l0 k bt401.1 bt401.2)) = some (r1, r2) := h
 clear h
 obtain ⟨⟨t401, t404⟩, A2, H⟩ := ob H
 (try dsimp only at H)
 have H' := Aside0.mk H
 clear H
 go_enter Try.func49, Try.ntmps49
 go_wp2_with (first | ((with_reducible refine gd 1 rfl ?_); refine bx (N := 1) (cs := #[.slice A0_0 l0_0.length c0_0, .int .i64 a0_1]) (t := 25) ?_; intro gb399 hg w3 hbox hb; have BK399 := Aside0.mk (hbox); have GW399 := gw HB hg; have GE399 := GW399; replace HB := Aside0.mk (below_step (zb HB) hb); clear hb hbox hg) | ((with_reducible refine gd 2 rfl ?_); refine bx (N := 2) (cs := #[.slice none 0 0, .int .i64 0]) (t := 25) ?_; intro gb400 hg w4 hbox hb; have BK400 := Aside0.mk (hbox); have GW400 := gw HB hg; have GE400 := GW400; replace HB := Aside0.mk (below_step (zb HB) hb); obtain ⟨NB399_400, NB400_399⟩ := nb BK399 hg; replace BK399 := kb BK399 hb; clear hb hbox hg; have hnb5 := NB399_400.out; have hnc5 := NB400_399.out; obtain ⟨hcz6_0, hcz6_1, hfz6_0, hfz6_1⟩ := c2 BK399) | ((with_reducible refine gq 69 rfl ?_); refine gl (some 5) Try.func69 #[.agg #[.slice A0_0 l0_0.length c0_0, .int .i64 a0_1]] ?_; (with_reducible refine (impl_Table_clone.calls _ _ l0_0 a0_1 t401 t404 _ ?side1 ?side2 A2.out).mono ?_); (case side1 => exact zc (Kd.C_below HR0_0.out HB.out)); (case side2 => exact HC0_0.out); rintro e w7 ⟨v402, rfl, ho0, hb⟩; refine ⟨_, rfl, ?_⟩; have HO403 := Aside0.mk (Kd.R_lower ho0 (below_size (zb HB))); replace BK399 := kb BK399 hb; replace BK400 := kb BK400 hb; replace HB := Aside0.mk (below_step (zb HB) hb); (try clear hb); (try clear ho0)) | ((with_reducible refine gd 3 rfl ?_); refine bx (N := 3) (cs := #[.slice none 0 0, .int .i64 0]) (t := 25) ?_; intro gb405 hg w8 hbox hb; replace HO403 := Aside0.mk (Kd.R_below (zr HO403) hb); have BK405 := Aside0.mk (hbox); have GW405 := gw HB hg; have GE405 := GW405; replace HB := Aside0.mk (below_step (zb HB) hb); obtain ⟨NB399_405, NB405_399⟩ := nb BK399 hg; replace BK399 := kb BK399 hb; obtain ⟨NB400_405, NB405_400⟩ := nb BK400 hg; replace BK400 := kb BK400 hb; clear hb hbox hg; obtain ⟨Ao9, co9, eo9⟩ := Kd.R_slice HO403.out; subst eo9; have hnb10 := NB405_399.out; have hnc10 := NB399_405.out; have hnb11 := NB405_400.out; have hnc11 := NB400_405.out; obtain ⟨hcz12_0, hcz12_1, hfz12_0, hfz12_1⟩ := c2 BK405))
 go_loopg [] k (fun kq w' => ∃ (x406000_1 : List (S36)) (u406000 : Value), Aside0 (impl_Table_fit.l0 kq x406000_1 t404 = some (r1, r2)) ∧ Aside0 (kq ≤ k) ∧ Aside0 (Kd.R k36 36 w' w.heap.size (fun _ => True) u406000 x406000_1) ∧ Aside0 (w'.heap[gb399]? = some (.cells #[(.slice A0_0 l0_0.length c0_0), .int .i64 a0_1] 25 (0, 0))) ∧ Aside0 (w'.heap[gb400]? = some (.cells #[(.slice none 0 0), .int .i64 0] 25 (0, 0))) ∧ Aside0 (w'.heap[gb405]? = some (.cells #[u406000, .int .i64 t404] 25 (0, 0))) ∧ Aside0 (Below w.heap.size w w'))
 case atStart => exact ⟨(t401), (.slice Ao9 t401.length co9), H', ⟨Nat.le_refl _⟩, ⟨(Kd.R_mono (ztR (Kd.R_types HO403.out BK405.out (by decide))) (fun _ hk => trivial))⟩, ⟨zp BK399⟩, ⟨zp BK400⟩, ⟨zp BK405⟩, ⟨zb HB⟩⟩
 case round =>
  clear H'
  try clear c1
  try clear p2
  try clear c4
  try clear c5
  try clear c6
  try clear c10
  try clear c11
  try clear hcz12_0
  try clear hcz12_1
  try clear hcz6_0
  try clear hcz6_1
  try clear hfz12_0
  try clear hfz12_1
  try clear hfz6_0
  try clear hfz6_1
  obtain ⟨x406000_1, u406000, HA, HK1, HO_406000, BK399, BK400, BK405, HB⟩ := hrel
  cases gk with
  | zero => exact absurd HA.out (by simp [impl_Table_fit.l0])
  | succ k1 =>
   have H := HA.out
   clear HA
   simp only [impl_Table_fit.l0] at H
   obtain ⟨t406, A13, H⟩ := ob H
   (try dsimp only at H)
   replace H := sp H
   rcases H with ⟨c14, H⟩ | ⟨c14, H⟩
   ·skip
    have c14b0 := decide_eq_true c14
    clear c14
    obtain ⟨ji15, hji15⟩ : ∃ j_ : Int, (wrap64 ((x406000_1.length : Int) - 1)) = j_ := ⟨_, rfl⟩
    replace H : (if 0 ≤ (ji15) then (if (ji15) ≤ (x406000_1.length : Int) then (impl_Table_fit.l0 k1 (x406000_1.take ((ji15) : Int).toNat) t404) else (none)) else (none)) = some (r1, r2) := by first | (rw [hji15] at H; exact H) | (simp only [hji15] at H ⊢; exact H)
    (try rw [hji15] at A13)
    have hji15w : (IntKind.i64.wrap ((x406000_1.length : Int) - 1)) = ji15 := (i64_w _).trans hji15
    by_cases c16 : 0 ≤ (ji15)
    ·rw [if_pos c16] at H
     have c16b0 := eq_true c16
     have c16b1 := decide_eq_true c16
     clear c16
     by_cases c17 : (ji15) ≤ (x406000_1.length : Int)
     ·rw [if_pos c17] at H
      have c17b0 := eq_true c17
      have c17b1 := decide_eq_true c17
      clear c17
      obtain ⟨y407, hy407⟩ : ∃ y_ : List (S36), y_ = (x406000_1.take ((ji15) : Int).toNat) := ⟨_, rfl⟩
      replace H : (impl_Table_fit.l0 k1 y407 t404) = some (r1, r2) := by first | (rw [hy407]; with_reducible exact H) | (have H2_ := (Option.bind_some _ _).symm.trans H; rw [hy407]; with_reducible exact H2_) | (have H2_ := (Option.bind_some _ _).symm.trans H; with_reducible exact H2_) | with_reducible exact H | (rw [hy407]; exact H) | exact H
      have Ny407 := Aside0.mk hy407
      clear hy407
      have H' := Aside0.mk H
      clear H
      try go_wp2
      replace HO_406000 := Aside0.mk (Kd.R_drew HO_406000.out)
      replace BK399 := Aside0.mk (blk_drew BK399.out)
      replace BK400 := Aside0.mk (blk_drew BK400.out)
      replace BK405 := Aside0.mk (blk_drew BK405.out)
      replace HB := Aside0.mk (below_drew1 HB.out)
      obtain ⟨Ao19, co19, eo19⟩ := Kd.R_slice HO_406000.out
      (first | subst eo19 | (injection eo19 with f1_ f2_ f3_; have f4_ := f1_.symm; have f5_ := f3_.symm; clear f1_ f2_ f3_; subst f4_; subst f5_))
      refine st 5 (b2 BK405) (fun hHeld => ?_)
      generalize wr.drew = w18 at HO_406000 BK399 BK400 BK405 HB hHeld ⊢
      refine pu 2 (some 8) (bm 5 4) rfl rfl ?_
      refine tk 0 (some 6) (bm 5 5) rfl rfl hHeld ?_
      refine tk 3 (some 9) (bm 5 13) rfl rfl hHeld ?_
      refine one_ (i := 1) (N := some 7) (bm 5 15) rfl rfl (by kernel_rfl) (by decide) (fun K hK => ?_)
      refine gs Try.func56 #[.agg #[.slice Ao19 x406000_1.length co19, .int .i64 t404]] ?_
      with_reducible refine (impl_Table_size.calls k1 _ _ x406000_1 t404 t406 _ ?side1 ?side2 A13.out).mono ?_
      (case side1 => exact zc (Kd.R_reads' HO_406000.out).2.2)
      (case side2 => exact (Kd.R_reads' HO_406000.out).2.1)
      rintro e w20 ⟨rfl, hb⟩
      refine ⟨_, rfl, ?_⟩
      replace HO_406000 := Aside0.mk (Kd.R_below (zr HO_406000) hb)
      replace BK399 := kb BK399 hb
      replace BK400 := kb BK400 hb
      replace BK405 := kb BK405 hb
      replace HB := Aside0.mk (below_step (zb HB) hb)
      (try clear hb)
      refine hK.out _ _ (b2 BK405) (fun hHeld => ?_)
      clear hK K
      refine nm ?_
      refine pu 4 (some 10) (bm 5 31) rfl rfl ?_
      refine done_ (by kernel_rfl) ?_
      have hnb21 := NB405_399.out
      have hnc21 := NB399_405.out
      have hnb22 := NB405_400.out
      have hnc22 := NB400_405.out
      obtain ⟨hcz23_0, hcz23_1, hfz23_0, hfz23_1⟩ := c2 BK405
      have q24 : ((ji15) : Int) ≤ ((x406000_1.length : Int) : Int) := of_decide_eq_true za
      obtain ⟨i024, hi024, _, hsz24, _⟩ := info_parts info36
      have hcut24 := cut_to (P := Try.prog) 23 36 .i64 Try.underlying23 hi024 Ao19 x406000_1.length co19 (ji15) (of_decide_eq_true za) q24 (Kd.R_reads' HO_406000.out).2.1
      have hr24 := Kd.R_take (m := ((ji15) : Int).toNat) HO_406000.out (by omega)
      have hy24 : y407.length = ((ji15) : Int).toNat := (by rw [Ny407.out, List.length_take]; omega)
      rw [← Ny407.out] at hr24
      rw [← hy24] at hr24 hcut24
      clear hy24 hi024 hsz24 HO_406000
      have HO409 := Aside0.mk hr24
      clear hr24
      replace q24 := eq_true q24
      try go_wp2
      go_roundg k1
      case measure => have := HK1.out; omega
      case rel => exact ⟨(y407), (.slice Ao19 y407.length co19), H', ⟨by have := HK1.out; omega⟩, ⟨(Kd.R_mono (ztR (Kd.R_types HO409.out BK405.out (by decide))) (fun _ hk => trivial))⟩, ⟨zp BK399⟩, ⟨zp BK400⟩, ⟨zp BK405⟩, ⟨zb HB⟩⟩
     ·rw [if_neg c17] at H
      exact absurd H (by simp)
    ·rw [if_neg c16] at H
     exact absurd H (by simp)
   ·skip
    have c14b0 := decide_eq_false c14
    clear c14
    obtain ⟨⟨t410, t413⟩, A25, H⟩ := ob H
    (try dsimp only at H)
    simp only [Option.some.injEq, Prod.mk.injEq] at H
    obtain ⟨rfl, rfl⟩ := H
    try go_wp2
    replace HO_406000 := Aside0.mk (Kd.R_drew HO_406000.out)
    replace BK399 := Aside0.mk (blk_drew BK399.out)
    replace BK400 := Aside0.mk (blk_drew BK400.out)
    replace BK405 := Aside0.mk (blk_drew BK405.out)
    replace HB := Aside0.mk (below_drew1 HB.out)
    obtain ⟨Ao27, co27, eo27⟩ := Kd.R_slice HO_406000.out
    (first | subst eo27 | (injection eo27 with f1_ f2_ f3_; have f4_ := f1_.symm; have f5_ := f3_.symm; clear f1_ f2_ f3_; subst f4_; subst f5_))
    refine st 5 (b2 BK405) (fun hHeld => ?_)
    generalize wr.drew = w26 at HO_406000 BK399 BK400 BK405 HB hHeld ⊢
    refine pu 2 (some 8) (bm 5 4) rfl rfl ?_
    refine tk 0 (some 6) (bm 5 5) rfl rfl hHeld ?_
    refine tk 3 (some 9) (bm 5 13) rfl rfl hHeld ?_
    refine one_ (i := 1) (N := some 7) (bm 5 15) rfl rfl (by kernel_rfl) (by decide) (fun K hK => ?_)
    refine gs Try.func56 #[.agg #[.slice Ao27 x406000_1.length co27, .int .i64 t404]] ?_
    with_reducible refine (impl_Table_size.calls k1 _ _ x406000_1 t404 t406 _ ?side1 ?side2 A13.out).mono ?_
    (case side1 => exact zc (Kd.R_reads' HO_406000.out).2.2)
    (case side2 => exact (Kd.R_reads' HO_406000.out).2.1)
    rintro e w28 ⟨rfl, hb⟩
    refine ⟨_, rfl, ?_⟩
    replace HO_406000 := Aside0.mk (Kd.R_below (zr HO_406000) hb)
    replace BK399 := kb BK399 hb
    replace BK400 := kb BK400 hb
    replace BK405 := kb BK405 hb
    replace HB := Aside0.mk (below_step (zb HB) hb)
    (try clear hb)
    refine hK.out _ _ (b2 BK405) (fun hHeld => ?_)
    clear hK K
    refine nm ?_
    refine pu 4 (some 10) (bm 5 31) rfl rfl ?_
    refine done_ (by kernel_rfl) ?_
    have hnb29 := NB405_399.out
    have hnc29 := NB399_405.out
    have hnb30 := NB405_400.out
    have hnc30 := NB400_405.out
    obtain ⟨hcz31_0, hcz31_1, hfz31_0, hfz31_1⟩ := c2 BK405
    try go_wp2_with (first | ((with_reducible refine gq 69 rfl ?_); refine gl (some 20) Try.func69 #[.agg #[.slice Ao27 x406000_1.length co27, .int .i64 t404]] ?_; (with_reducible refine (impl_Table_clone.calls _ _ x406000_1 t404 t410 t413 _ ?side1 ?side2 A25.out).mono ?_); (case side1 => exact zc (Kd.R_reads' HO_406000.out).2.2); (case side2 => exact (Kd.R_reads' HO_406000.out).2.1); rintro e w32 ⟨v411, rfl, ho0, hb⟩; refine ⟨_, rfl, ?_⟩; have HO412 := Aside0.mk (Kd.R_lower (Kd.R_new' ho0 (Kd.R_lt (zr HO_406000))) (below_size (zb HB))); replace HO_406000 := Aside0.mk (Kd.R_elder' (zr HO_406000) (Kd.R_base ho0) hb); replace BK399 := kb BK399 hb; replace BK400 := kb BK400 hb; replace BK405 := kb BK405 hb; replace HB := Aside0.mk (below_step (zb HB) hb); (try clear hb); (try clear ho0); obtain ⟨Ao33, co33, eo33⟩ := Kd.R_slice HO412.out; subst eo33; have hnb34 := NB400_399.out; have hnc34 := NB399_400.out; obtain ⟨hcz35_0, hcz35_1, hfz35_0, hfz35_1⟩ := c2 BK400))
    refine bodyPost_ret (results_cell_row rfl _ _ gb400 25 #[.slice Ao33 t410.length co33, .int .i64 t413] (0, 0) _ rfl (zp BK400) Try.underlying25 rfl (by kernel_rfl)) rfl ?_
    exact ⟨_, ze, (Kd.R_mono (ztR (Kd.R_types HO412.out BK400.out (by decide))) (fun _ hk => trivial)), zb HB⟩

-- NOT PRINTED: function 88 (Grow_Field)

/-! ### Concat_Field: function 75 -/
-- by hand
set_option maxHeartbeats 4000000 in
set_option maxRecDepth 100000 in
theorem Grow_Field_calls (n : Nat) (w : World) (hn : n ≤ 1000000000) : Calls Try.prog 88 #[.slice none 0 0, .int .i64 n] w fun e w' => ∃ v : Value, e = .returned v ∧ Kd.R k36 36 w' w.heap.size (fun _ => True) v [] ∧ Below w.heap.size w w' := by
  by_cases h0 : n = 0
  · subst h0
    go_enter Try.func88, Try.ntmps88
    go_wp2
    go_ret
    exact ⟨_, rfl, Kd.R_nil _ _ _ _ _, Below.refl _ _⟩
  · have h1 : 0 < n := by omega
    clear h0
    go_enter Try.func88, Try.ntmps88
    go_wp2_with (first | (at_builtin; refine Kd.R_append_zeros k36 (w0 := w) w.heap.size rfl (.tmp 20) (.tmp 21) 23 3 36 (.agg #[(.string ⟨#[]⟩), (.string ⟨#[]⟩), (.bool false)]) 40 rfl Try.underlying23 Try.underlying3 info36 rfl (by decide) (by omega) (.slice none 0 0) [] z36 n (fun _ => True) rfl rfl ?zM (fun _ _ => trivial) (Kd.R_nil _ _ _ _ _) (by omega) (Below.refl _ _) (Nat.le_refl _) ?zL ?_; (case zM => exact k36_mkM _ _ _ z36); (case zL => simp only [List.length_nil]; omega); intro v1 w1 ho hb hg hat; obtain ⟨A1, c1, rfl⟩ := Kd.R_slice ho; have N1 := Aside0.mk (Kd.R_take (m := 0) ho (by omega)); have N2 := Aside0.mk hb; clear ho hb hg hat))
    go_ret
    exact ⟨_, rfl, by simpa using N1.out, N2.out⟩
theorem flat_take_Field (l : List (List S36)) (i : Nat) (h : i < l.length) : (l.take (i + 1)).flatten = (l.take i).flatten ++ rd_L5 l (i : Int) := by
  have e : rd_L5 l (i : Int) = l[i] := by
    unfold rd_L5
    rw [Int.toNat_natCast, List.getD_eq_getElem?_getD, List.getElem?_eq_getElem h]
    rfl
  rw [List.take_succ_eq_append_getElem h, e, List.flatten_append]
  simp
theorem flat_le_Field (l : List (List S36)) (i : Nat) : (l.take i).flatten.length ≤ l.flatten.length := by
  have h : l.flatten.length = (l.take i).flatten.length + (l.drop i).flatten.length := by
    conv => lhs; rw [← List.take_append_drop i l]
    rw [List.flatten_append, List.length_append]
  omega
set_option maxHeartbeats 4000000 in
set_option maxRecDepth 100000 in
theorem Concat_Field_calls (A0 : Option Addr) (c0 : Nat) (l0 : List (List S36)) (w : World) (hr0 : Kd.C (Kd.slice 36 k36) w A0 l0.length l0) (hc0 : l0.length ≤ c0) (hl : l0.flatten.length ≤ 1000000000) (hn : l0.length ≤ 1000000000) :
    Calls Try.prog 75 #[.slice A0 l0.length c0] w fun e w' => ∃ v0_ : Value, e = .returned (v0_) ∧ Kd.R k36 36 w' w.heap.size (fun _ => True) v0_ l0.flatten ∧ Below w.heap.size w w' := by
  have HR0 := Aside0.mk hr0
  clear hr0
  go_enter Try.func75, Try.ntmps75
  go_wp2
  go_loopg [3, 11] (l0.length) (fun kq v3 v11 w' => ∃ (i z : Nat), v3 = .int .i64 z ∧ v11 = .int .i64 i ∧ Aside0 (z = (l0.take i).flatten.length) ∧ Aside0 (kq + i = l0.length) ∧ Aside0 (Below w.heap.size w w'))
  case atStart => exact ⟨0, 0, rfl, rfl, ⟨by simp⟩, ⟨by omega⟩, ⟨Below.refl _ _⟩⟩
  case round =>
    obtain ⟨i, z, rfl, rfl, HZ, HK, HB⟩ := hrel
    have hk := HK.out
    by_cases hj : i < l0.length
    · have hi0 : (0 : Int) ≤ (i : Int) := by omega
      have hi1 : (i : Int) < (l0.length : Int) := by omega
      obtain ⟨ad, A1, c1, e1, hcell, hlc, hC⟩ := at_L5 (Kd.C_below HR0.out HB.out) (i : Int) hi0 hi1
      rw [Int.toNat_natCast] at hcell
      subst e1
      have hz1 : z ≤ 1000000000 := by have h1 := flat_le_Field l0 i; have h2 := HZ.out; omega
      have HZ2 : Aside0 (z + (rd_L5 l0 (i : Int)).length = (l0.take (i + 1)).flatten.length) := ⟨by rw [flat_take_Field l0 i hj, List.length_append, HZ.out]⟩
      have hz2 : z + (rd_L5 l0 (i : Int)).length ≤ 1000000000 := by have h1 := flat_le_Field l0 (i + 1); have h2 := HZ2.out; omega
      generalize (rd_L5 l0 (i : Int)) = ys at *
      generalize hm : ys.length = m at *
      clear hC hm
      cases gk with
      | zero => omega
      | succ k1 =>
      clear hk hlc
      go_wp2
      go_roundg k1
      case measure => have := HK.out; omega
      case rel => exact ⟨i + 1, z + m, by go_num, by go_num, HZ2, ⟨by have := HK.out; omega⟩, HB⟩
    · have hltz : ¬ (i : Int) < (l0.length : Int) := by omega
      have e : i = l0.length := by omega
      have HZ3 : Aside0 (z = l0.flatten.length) := ⟨by have := HZ.out; rw [e, List.take_length] at this; exact this⟩
      have hz1 : z ≤ 1000000000 := by have := HZ3.out; omega
      clear hk hj e HZ
      go_wp2_with (go_at_call 88; refine (Grow_Field_calls z _ hz1).mono ?_; rintro e w1 ⟨v, rfl, ho, hb⟩; have HO := Aside0.mk (Kd.R_lower ho HB.out.size); have HB1 := Aside0.mk (below_step HB.out hb); clear ho hb)
      go_loopg [6, 27] (l0.length) (fun kq v6 v27 w' => ∃ (i : Nat) , v27 = .int .i64 i ∧ Aside0 (Kd.R k36 36 w' w.heap.size (fun _ => True) v6 (l0.take i).flatten) ∧ Aside0 (kq + i = l0.length) ∧ Aside0 (Below w.heap.size w w'))
      case atStart => exact ⟨0, rfl, ⟨by simpa using HO.out⟩, ⟨by omega⟩, HB1⟩
      case round =>
        obtain ⟨i, rfl, HO, HK, HB⟩ := hrel
        have hk := HK.out
        by_cases hj : i < l0.length
        · have hi0 : (0 : Int) ≤ (i : Int) := by omega
          have hi1 : (i : Int) < (l0.length : Int) := by omega
          obtain ⟨ad, A1, c1, e1, hcell, hlc, hC⟩ := at_L5 (Kd.C_below HR0.out HB.out) (i : Int) hi0 hi1
          rw [Int.toNat_natCast] at hcell
          subst e1
          have HF := Aside0.mk (flat_take_Field l0 i hj)
          have HL : Aside0 ((l0.take i).flatten.length + (rd_L5 l0 (i : Int)).length ≤ 1000000000) := ⟨by have h1 := flat_le_Field l0 (i + 1); have h2 := congrArg List.length HF.out; rw [List.length_append] at h2; omega⟩
          have HC := Aside0.mk hC
          have hbs := HB.out.size
          clear hC hlc
          cases gk with
          | zero => omega
          | succ k1 =>
          clear hk
          go_wp2_with (first | (at_builtin; refine Kd.R_append_rows k36 (w0 := w) w.heap.size rfl (.tmp 31) (.tmp 32) 23 36 (.agg #[(.string ⟨#[]⟩), (.string ⟨#[]⟩), (.bool false)]) 40 rfl Try.underlying23 info36 rfl (by decide) (by omega) _ (l0.take i).flatten (rd_L5 l0 (i : Int)) _ _ _ (fun _ => True) (fun _ => False) rfl rfl ?aO ?aR (fun _ _ h => h) (fun _ h => h.elim) ?aF ?aB ?aS ?aL ?_; (case aR => exact HC.out); (case aB => exact HB.out); (case aF => exact (fun _ _ => trivial)); (case aO => exact HO.out); (case aS => exact hbs); (case aL => have := HL.out; omega); intro v1 w1 ho hb hg hat; have N1 := Aside0.mk ho; have N2 := Aside0.mk hb; clear ho hb hg hat))
          go_roundg k1
          case measure => have := HK.out; omega
          case rel => exact ⟨i + 1, by go_num, ⟨by rw [HF.out]; exact N1.out⟩, ⟨by have := HK.out; omega⟩, N2⟩
        · have hltz : ¬ (i : Int) < (l0.length : Int) := by omega
          have e : i = l0.length := by omega
          have HO3 := Aside0.mk (show Kd.R k36 36 wr w.heap.size (fun _ => True) _ l0.flatten from by have := HO.out; rw [e, List.take_length] at this; exact this)
          clear hk hj e HO
          go_wp2
          go_ret
          exact ⟨_, rfl, HO3.out, HB.out⟩
def Concat_Field.f (l0 : List (List S36)) : Option (List (S36)) := if l0.flatten.length ≤ 1000000000 ∧ l0.length ≤ 1000000000 then some l0.flatten else none
theorem Concat_Field.calls (A0 : Option Addr) (c0 : Nat) (l0 : List (List S36)) (r : List (S36)) (w : World) (hr0 : Kd.C (Kd.slice 36 k36) w A0 l0.length l0) (hc0 : l0.length ≤ c0) (h : Concat_Field.f l0 = some r) :
    Calls Try.prog 75 #[.slice A0 l0.length c0] w fun e w' => ∃ v0_ : Value, e = .returned (v0_) ∧ Kd.R k36 36 w' w.heap.size (fun _ => True) v0_ r ∧ Below w.heap.size w w' := by
  unfold Concat_Field.f at h
  split at h
  case isFalse => cases h
  rename_i hl
  obtain rfl := Option.some.inj h
  exact Concat_Field_calls A0 c0 l0 w hr0 hc0 hl.1 hl.2

/-! ### impl_Table_add: function 59 -/
-- thin
def impl_Table_add.f (k : Nat) (l0_0 : List (S36)) (a0_1 : Int) (a1_0 : ByteArray) (a1_1 : ByteArray) (a1_2 : Bool) : Option ((List (S36)) × Int) := (Concat_Field.f (([(([(⟨a1_0, a1_1, a1_2⟩ : S36)] : List (S36))), l0_0] : List (List (S36))))).bind fun t423 => ((impl_Table_fit.f k t423 a0_1).bind fun bt426 => (some (bt426.1, bt426.2)))
theorem impl_Table_add.mono : ∀ a0 a1 a2 a3 a4 k, LeO (impl_Table_add.f k a0 a1 a2 a3 a4) (impl_Table_add.f (k + 1) a0 a1 a2 a3 a4) := by
 intro a0 a1 a2 a3 a4 k
 unfold impl_Table_add.f
 have m0 := @impl_Table_fit.mono
 exact zm
def impl_Table_add.T1 : Bool × List (List Nat × List Nat) := (true, [([], []), ([0], [0]), ([], []), ([2], [2]), ([1, 3], [1, 3]), ([4], [4]), ([], []), ([6], [6]), ([5, 7], [5, 7]), ([8, 5], [8]), ([9, 9, 0, 1, 2, 3, 4, 5, 6, 7, 8, 9], [9])])
def impl_Table_add.B1 : List Nat := [0, 1, 0, 4, 15, 31, 0, 64, 255, 511, 1023]
theorem impl_Table_add.tab1 : rtab .any (opsOf Try.f59 1) = impl_Table_add.T1 := by kernel_rfl
theorem impl_Table_add.bits1 : waitsOk impl_Table_add.T1.2 impl_Table_add.B1 = true := by kernel_rfl
set_option maxHeartbeats 8000000 in
set_option maxRecDepth 100000 in
theorem impl_Table_add.calls (k : Nat) (P0_0_ : Nat → Prop) (A0_0 : Option Addr) (c0_0 : Nat) (l0_0 : List (S36)) (a0_1 : Int) (a1_0 : ByteArray) (a1_1 : ByteArray) (a1_2 : Bool) (r1 : List (S36)) (r2 : Int) (w : World) (hs0_0 : Kd.V k36 36 w w.heap.size (fun k_ => P0_0_ k_) (.slice A0_0 l0_0.length c0_0) l0_0) (h : impl_Table_add.f k l0_0 a0_1 a1_0 a1_1 a1_2 = some (r1, r2)) :
  Calls Try.prog 59 #[.agg #[.slice A0_0 l0_0.length c0_0, .int .i64 a0_1], .agg #[.string a1_0, .string a1_1, .bool a1_2]] w fun e w' => ∃ v0_ : Value, e = .returned (.agg #[v0_, .int .i64 r2]) ∧ Kd.R k36 36 w' w.heap.size (fun k_ => (w.heap.size ≤ k_)) v0_ r1 ∧ Below w.heap.size w w' := by
 have hu25 := Try.underlying25
 have hu36 := Try.underlying36
 have HO0_0 := Aside0.mk (show Kd.V k36 36 w w.heap.size (fun k_ => (P0_0_ k_ ∨ w.heap.size ≤ k_)) (.slice A0_0 l0_0.length c0_0) l0_0 from Kd.V_mono hs0_0 (fun k_ hk => .inl hk))
 have HB := Aside0.mk (Below.refl w.heap.size w)
 have H : ((Concat_Field.f (([(([(⟨a1_0, a1_1, a1_2⟩ : S36)] : List (S36))), l0_0] : List (List (S36))))).bind fun t423 => ((impl_Table_fit.f k t423 a0_1).bind fun bt426 => (some (bt426.1, bt426.2)))) = some (r1, r2) := h
 clear h
 obtain ⟨y417, hy417⟩ : ∃ y_ : List (S36), y_ = (([(⟨a1_0, a1_1, a1_2⟩ : S36)] : List (S36))) := ⟨_, rfl⟩
 replace H : ((Concat_Field.f (([y417, l0_0] : List (List (S36))))).bind fun t423 => ((impl_Table_fit.f k t423 a0_1).bind fun bt426 => (some (bt426.1, bt426.2)))) = some (r1, r2) := by first | (rw [hy417]; with_reducible exact H) | (have H2_ := (Option.bind_some _ _).symm.trans H; rw [hy417]; with_reducible exact H2_) | (have H2_ := (Option.bind_some _ _).symm.trans H; with_reducible exact H2_) | with_reducible exact H | (rw [hy417]; exact H) | exact H
 have Ny417 := Aside0.mk hy417
 clear hy417
 obtain ⟨y420, hy420⟩ : ∃ y_ : List (List (S36)), y_ = (([y417, l0_0] : List (List (S36)))) := ⟨_, rfl⟩
 replace H : ((Concat_Field.f y420).bind fun t423 => ((impl_Table_fit.f k t423 a0_1).bind fun bt426 => (some (bt426.1, bt426.2)))) = some (r1, r2) := by first | (rw [hy420]; with_reducible exact H) | (have H2_ := (Option.bind_some _ _).symm.trans H; rw [hy420]; with_reducible exact H2_) | (have H2_ := (Option.bind_some _ _).symm.trans H; with_reducible exact H2_) | with_reducible exact H | (rw [hy420]; exact H) | exact H
 have Ny420 := Aside0.mk hy420
 clear hy420
 obtain ⟨t423, A3, H⟩ := ob H
 (try dsimp only at H)
 obtain ⟨⟨t426, t429⟩, A4, H⟩ := ob H
 (try dsimp only at H)
 simp only [Option.some.injEq, Prod.mk.injEq] at H
 obtain ⟨rfl, rfl⟩ := H
 go_enter Try.func59, Try.ntmps59
 try go_wp2_with (first | ((with_reducible refine gd 2 rfl ?_); refine bx (N := 2) (cs := #[.slice A0_0 l0_0.length c0_0, .int .i64 a0_1]) (t := 25) ?_; intro gb414 hg w5 hbox hb; replace HO0_0 := Aside0.mk (Kd.V_below (Kd.V_elderB (zV HO0_0) gb414 (Nat.le_of_eq hg.symm)) hb); have BK414 := Aside0.mk (hbox); have GW414 := gw HB hg; have GE414 := GW414; replace HB := Aside0.mk (below_step (zb HB) hb); clear hb hbox hg) | ((with_reducible refine gd 3 rfl ?_); refine bx (N := 3) (cs := #[.string a1_0, .string a1_1, .bool a1_2]) (t := 36) ?_; intro gb415 hg w6 hbox hb; replace HO0_0 := Aside0.mk (Kd.V_below (Kd.V_elderB (zV HO0_0) gb415 (Nat.le_of_eq hg.symm)) hb); have BK415 := Aside0.mk (hbox); have GW415 := gw HB hg; have GE415 := GW415; replace HB := Aside0.mk (below_step (zb HB) hb); obtain ⟨NB414_415, NB415_414⟩ := nb BK414 hg; replace BK414 := kb BK414 hb; clear hb hbox hg) | ((with_reducible refine gd 4 rfl ?_); refine bx (N := 4) (cs := #[.slice none 0 0, .int .i64 0]) (t := 25) ?_; intro gb416 hg w7 hbox hb; replace HO0_0 := Aside0.mk (Kd.V_below (Kd.V_elderB (zV HO0_0) gb416 (Nat.le_of_eq hg.symm)) hb); have BK416 := Aside0.mk (hbox); have GW416 := gw HB hg; have GE416 := GW416; replace HB := Aside0.mk (below_step (zb HB) hb); obtain ⟨NB414_416, NB416_414⟩ := nb BK414 hg; replace BK414 := kb BK414 hb; obtain ⟨NB415_416, NB416_415⟩ := nb BK415 hg; replace BK415 := kb BK415 hb; clear hb hbox hg))
 replace HO0_0 := Aside0.mk (Kd.V_drew HO0_0.out)
 replace BK414 := Aside0.mk (blk_drew BK414.out)
 replace BK415 := Aside0.mk (blk_drew BK415.out)
 replace BK416 := Aside0.mk (blk_drew BK416.out)
 replace HB := Aside0.mk (below_drew1 HB.out)
 refine st 11 (an (b3 BK415) (b2 BK414)) (fun hHeld => ?_); refine with_tabW impl_Table_add.tab1 impl_Table_add.bits1 (fun HT_ HW_ => ?_)
 generalize w7.drew = w8 at HO0_0 BK414 BK415 BK416 HB hHeld ⊢
 refine pu 2 (some 7) (bm 11 4) rfl rfl ?_
 refine pu 6 (some 11) (bm 11 68) rfl rfl ?_
 refine tk 0 (some 5) (bm 11 69) rfl rfl hHeld ?_
 refine tk 3 (some 8) (bm 11 77) rfl rfl hHeld ?_
 refine tk 7 (some 12) (bm 11 205) rfl rfl hHeld ?_
 refine one_ (i := 1) (N := some 6) (bm 11 207) rfl rfl (one_of HT_.out (by kernel_rfl)) (by decide) (fun K hK => ?_)
 refine Kd.R_lit_step k36 _ 36 ?hg (N := 6) ?hd (xs := ([(⟨a1_0, a1_1, a1_2⟩ : S36)] : List (S36))) (inner := [.string a1_0, .string a1_1, .bool a1_2]) (ok := fun _ => True) (okp := fun _ => True) ?hr ?hp (fun _ hk => hk) trivial (Below.refl _ _) (Nat.le_refl _) (by simp) ?_; (case hd => rfl); (case hg => rfl); (case hr => first | (go_simp; done) | (go_simp; rfl)); (case hp => exact (Reps.c3 (show Kd.M k36 _ _ _ (⟨a1_0, a1_1, a1_2⟩ : S36) [.string a1_0, .string a1_1, .bool a1_2] from (k36_mkM _ _ _ (⟨a1_0, a1_1, a1_2⟩ : S36) )) (Reps.none _ _)))
 intro v418 w9 ho10 hb hg_ hnew_
 clear hg_ hnew_
 (first | rw [← Ny417.out] at ho10 | (simp only [Int.reduceToNat] at ho10; rw [← Ny417.out] at ho10))
 replace HO0_0 := Aside0.mk (Kd.V_elder' (zV HO0_0) (Kd.R_base ho10) hb)
 have HO419 := Aside0.mk (Kd.R_lower (Kd.R_newB (Kd.R_newM (M := fun k_ => (w.heap.size ≤ k_)) ho10 (below_size (zb HB)) (fun k_ h_ => h_)) (zk BK415)) (below_size (zb HB)))
 replace BK414 := kb BK414 hb
 replace BK415 := kb BK415 hb
 replace BK416 := kb BK416 hb
 replace HB := Aside0.mk (below_step (zb HB) hb)
 clear hb ho10
 obtain ⟨Ao11, co11, eo11⟩ := Kd.R_slice HO419.out
 (first | subst eo11 | (injection eo11 with f1_ f2_ f3_; have f4_ := f1_.symm; have f5_ := f3_.symm; clear f1_ f2_ f3_; subst f4_; subst f5_))
 refine hK.out _ _ (an (b3 BK415) (b2 BK414)) (fun hHeld => ?_)
 clear hK K
 refine nm ?_
 refine one_ (i := 4) (N := some 9) (bm 11 223) rfl rfl (one_of HT_.out (by kernel_rfl)) (by decide) (fun K hK => ?_)
 refine Kd.N_lit_step (Kd.slice 36 k36) _ 23 ?hg (N' := 9) ?hd (xs := ([y417, l0_0] : List (List (S36)))) (inner := [.slice Ao11 y417.length co11, .slice A0_0 l0_0.length c0_0]) (ok := (fun k_ => (P0_0_ k_ ∨ w.heap.size ≤ k_) ∧ k_ ≠ gb414 ∧ k_ ≠ gb415 ∧ k_ ≠ gb416)) (okp := (fun k_ => (P0_0_ k_ ∨ w.heap.size ≤ k_) ∧ k_ ≠ gb414 ∧ k_ ≠ gb415 ∧ k_ ≠ gb416)) ?hr ?hp (fun _ hk => hk) ((show ∀ k_, w9.heap.size ≤ k_ → (fun k_ => (P0_0_ k_ ∨ w.heap.size ≤ k_) ∧ k_ ≠ gb414 ∧ k_ ≠ gb415 ∧ k_ ≠ gb416) k_ from fun k_ hk => ⟨(.inr (Nat.le_trans (below_size (zb HB)) hk)), Kd.freshB (zk BK414) k_ hk, Kd.freshB (zk BK415) k_ hk, Kd.freshB (zk BK416) k_ hk⟩) _ (Nat.le_refl _)) (Below.refl _ _) (Nat.le_refl _) (by simp) ?_; (case hd => rfl); (case hg => rfl); (case hr => first | (go_simp; done) | (go_simp; rfl)); (case hp => exact (Reps.one (show Kd.FK (Kd.slice 36 k36) _ _ y417 [.slice Ao11 y417.length co11] from (Kd.FK_slice_mk (Kd.R_reads' (Kd.R_mono (ok' := (fun k_ => (P0_0_ k_ ∨ w.heap.size ≤ k_) ∧ k_ ≠ gb414 ∧ k_ ≠ gb415 ∧ k_ ≠ gb416)) (Kd.R_types (Kd.R_types (HO419.out) BK414.out (by decide)) BK416.out (by decide)) (fun k_ hk => ⟨(.inr (hk.1.1.1.1)), ⟨hk.1.2, ⟨hk.1.1.2, hk.2⟩⟩⟩))).2.1 (Kd.R_F (Kd.R_mono (ok' := (fun k_ => (P0_0_ k_ ∨ w.heap.size ≤ k_) ∧ k_ ≠ gb414 ∧ k_ ≠ gb415 ∧ k_ ≠ gb416)) (Kd.R_types (Kd.R_types (HO419.out) BK414.out (by decide)) BK416.out (by decide)) (fun k_ hk => ⟨(.inr (hk.1.1.1.1)), ⟨hk.1.2, ⟨hk.1.1.2, hk.2⟩⟩⟩))))) (Reps.one (show Kd.FK (Kd.slice 36 k36) _ _ l0_0 [.slice A0_0 l0_0.length c0_0] from (Kd.FK_slice_mk (Kd.V_reads' (Kd.V_mono (ok' := (fun k_ => (P0_0_ k_ ∨ w.heap.size ≤ k_) ∧ k_ ≠ gb414 ∧ k_ ≠ gb415 ∧ k_ ≠ gb416)) (HO0_0.out) (fun k_ hk => ⟨hk.1.1.1.1, ⟨hk.1.1.1.2, ⟨hk.1.1.2, hk.1.2⟩⟩⟩))).2.1 (Kd.V_F (Kd.V_mono (ok' := (fun k_ => (P0_0_ k_ ∨ w.heap.size ≤ k_) ∧ k_ ≠ gb414 ∧ k_ ≠ gb415 ∧ k_ ≠ gb416)) (HO0_0.out) (fun k_ hk => ⟨hk.1.1.1.1, ⟨hk.1.1.1.2, ⟨hk.1.1.2, hk.1.2⟩⟩⟩))))) (Reps.none _ _))))
 intro v421 w12 ho13 hb hg_ hnew_
 clear hg_ hnew_
 (first | rw [← Ny420.out] at ho13 | (simp only [Int.reduceToNat] at ho13; rw [← Ny420.out] at ho13))
 replace HO0_0 := Aside0.mk (Kd.V_elder' (zV HO0_0) (Kd.N_base ho13) hb)
 have HO422 := Aside0.mk (Kd.N_lower ho13 (below_size (zb HB)))
 replace BK414 := kb BK414 hb
 replace BK415 := kb BK415 hb
 replace BK416 := kb BK416 hb
 replace HB := Aside0.mk (below_step (zb HB) hb)
 clear HO419
 clear hb ho13
 obtain ⟨Ao14, co14, eo14⟩ := Kd.N_slice HO422.out
 (first | subst eo14 | (injection eo14 with f1_ f2_ f3_; have f4_ := f1_.symm; have f5_ := f3_.symm; clear f1_ f2_ f3_; subst f4_; subst f5_))
 refine hK.out _ _ (an (b3 BK415) (b2 BK414)) (fun hHeld => ?_)
 clear hK K
 refine nm ?_
 refine one_ (i := 5) (N := some 10) (bm 11 255) rfl rfl (one_of HT_.out (by kernel_rfl)) (by decide) (fun K hK => ?_)
 refine gs Try.func75 #[.slice Ao14 y420.length co14] ?_
 with_reducible refine (Concat_Field.calls _ _ y420 t423 _ ?side1 ?side2 A3.out).mono ?_
 (case side1 => exact zc (Kd.N_reads' HO422.out).2.2)
 (case side2 => exact (Kd.N_reads' HO422.out).2.1)
 rintro e w15 ⟨v424, rfl, ho0, hb⟩
 refine ⟨_, rfl, ?_⟩
 replace HO0_0 := Aside0.mk (Kd.V_elder' (zV HO0_0) (Kd.R_base ho0) hb)
 replace HO422 := Aside0.mk (Kd.N_elder' (zN HO422) (Kd.R_base ho0) hb)
 have HO425 := Aside0.mk (Kd.R_lower (Kd.R_newB (Kd.R_newM (M := fun k_ => (w.heap.size ≤ k_)) ho0 (below_size (zb HB)) (fun k_ h_ => h_)) (zk BK415)) (below_size (zb HB)))
 replace BK414 := kb BK414 hb
 replace BK415 := kb BK415 hb
 replace BK416 := kb BK416 hb
 replace HB := Aside0.mk (below_step (zb HB) hb)
 (try clear hb)
 (try clear ho0)
 obtain ⟨Ao16, co16, eo16⟩ := Kd.R_slice HO425.out
 (first | subst eo16 | (injection eo16 with f1_ f2_ f3_; have f4_ := f1_.symm; have f5_ := f3_.symm; clear f1_ f2_ f3_; subst f4_; subst f5_))
 refine hK.out _ _ (an (b3 BK415) (b2 BK414)) (fun hHeld => ?_)
 clear hK K
 refine nm ?_
 refine pu 8 (some 13) (bm 11 511) rfl rfl ?_
 refine one_ (i := 9) (N := some 14) (bm 11 1023) rfl rfl (one_of HT_.out (by kernel_rfl)) (by decide) (fun K hK => ?_)
 refine gs Try.func49 #[.agg #[.slice Ao16 t423.length co16, .int .i64 a0_1]] ?_
 with_reducible refine (impl_Table_fit.calls k _ _ t423 a0_1 t426 t429 _ ?side1 ?side2 A4.out).mono ?_
 (case side1 => exact zc (Kd.R_reads' HO425.out).2.2)
 (case side2 => exact (Kd.R_reads' HO425.out).2.1)
 rintro e w17 ⟨v427, rfl, ho0, hb⟩
 refine ⟨_, rfl, ?_⟩
 replace HO0_0 := Aside0.mk (Kd.V_elder' (zV HO0_0) (Kd.R_base ho0) hb)
 replace HO422 := Aside0.mk (Kd.N_elder' (zN HO422) (Kd.R_base ho0) hb)
 have HO428 := Aside0.mk (Kd.R_lower (Kd.R_newB (Kd.R_new' (Kd.R_newM (M := fun k_ => (w.heap.size ≤ k_)) ho0 (below_size (zb HB)) (fun k_ h_ => h_)) (Kd.R_lt (zr HO425))) (zk BK415)) (below_size (zb HB)))
 replace HO425 := Aside0.mk (Kd.R_elder' (zr HO425) (Kd.R_base ho0) hb)
 replace BK414 := kb BK414 hb
 replace BK415 := kb BK415 hb
 replace BK416 := kb BK416 hb
 replace HB := Aside0.mk (below_step (zb HB) hb)
 (try clear hb)
 (try clear ho0)
 obtain ⟨Ao18, co18, eo18⟩ := Kd.R_slice HO428.out
 (first | subst eo18 | (injection eo18 with f1_ f2_ f3_; have f4_ := f1_.symm; have f5_ := f3_.symm; clear f1_ f2_ f3_; subst f4_; subst f5_))
 refine hK.out _ _ (an (b3 BK415) (b2 BK414)) (fun hHeld => ?_)
 clear hK K
 refine nm ?_
 refine one_ (i := 10) (N := none) (bm 11 2047) rfl rfl (one_of HT_.out (by kernel_rfl)) (by decide) (fun K hK => ?_)
 have hs19 : w17.cell? ⟨gb416, 0, none⟩ = some (.slice none 0 0) := (blk_cell BK416.out 0).trans rfl
 have hfs19 := blk_frozen BK416.out 0
 have hns19_0 := NB414_416.out
 have hns19_1 := NB415_416.out
 have hms19_0 := NB416_414.out
 have hms19_1 := NB416_415.out
 have hs20 : w17.cell? ⟨gb416, 1, none⟩ = some (.int .i64 0) := (blk_cell BK416.out 1).trans rfl
 have hfs20 := blk_frozen BK416.out 1
 have hns20_0 := NB414_416.out
 have hns20_1 := NB415_416.out
 have hms20_0 := NB416_414.out
 have hms20_1 := NB416_415.out
 refine skip_ (w1 := ?_) (by rfl) rfl ?_ ?_
 rotate_left
 ·go_simp
  rfl
 refine hK.out _ _ (an ⟨((cell_far (p := ⟨gb416, _, none⟩) NB415_416.out _).trans (((cell_far (p := ⟨gb416, _, none⟩) NB415_416.out _).trans (hHeld.1.1)))), ((cell_far (p := ⟨gb416, _, none⟩) NB415_416.out _).trans (((cell_far (p := ⟨gb416, _, none⟩) NB415_416.out _).trans (hHeld.1.2.1)))), ((cell_far (p := ⟨gb416, _, none⟩) NB415_416.out _).trans (((cell_far (p := ⟨gb416, _, none⟩) NB415_416.out _).trans (hHeld.1.2.2))))⟩ ⟨((cell_far (p := ⟨gb416, _, none⟩) NB414_416.out _).trans (((cell_far (p := ⟨gb416, _, none⟩) NB414_416.out _).trans (hHeld.2.1)))), ((cell_far (p := ⟨gb416, _, none⟩) NB414_416.out _).trans (((cell_far (p := ⟨gb416, _, none⟩) NB414_416.out _).trans (hHeld.2.2))))⟩) (fun hHeld => ?_)
 clear hK K
 refine done_ (done_of HT_.out (by kernel_rfl)) ?_
 try go_wp2
 refine bodyPost_ret (results_cell_row rfl _ _ gb416 25 #[.slice Ao18 t426.length co18, .int .i64 t429] (0, 0) _ rfl (zp BK416) Try.underlying25 rfl (by kernel_rfl)) rfl ?_
 exact ⟨_, ze, (Kd.R_mono (ztR (Kd.R_types HO428.out BK416.out (by decide))) (fun _ hk => hk.1.1.1.1)), zb HB⟩

end Go.Proofs.Ytdhahifdcoinhaa.PFnHeadFixed
