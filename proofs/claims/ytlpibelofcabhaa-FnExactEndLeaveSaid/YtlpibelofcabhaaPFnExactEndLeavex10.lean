-- WRITTEN BY a turned print (wip/tools of the prover's repo)
import Derived.Test.YtlpibelofcabhaaPFnExactEndLeavex0
import Derived.Test.YtlpibelofcabhaaPFnExactEndLeavex9
namespace Go.Proofs.Ytlpibelofcabhaa.PFnExactEndLeave
open Go.RowKit Go.Proofs.YtlpibelofcabhaaW.PrintWords Go.Proofs.YtlpibelofcabhaaW.PrintLast Go.Proofs.YtlpibelofcabhaaW.PrintMore Go.Proofs.Ytlpibelofcabhaa.Lm
attribute [local go_sem] max2_int min2_int max_two min_two max_three min_three max_four min_four   -- for this text's walks alone
set_option linter.unusedVariables false
set_option linter.unusedSimpArgs false

/-! ### impl_TableOk: function 19 -/
-- thin
def impl_TableOk.f (k : Nat) (l0_0 : List (S88)) (a0_1 : Int) : Option (Bool) := (impl_in.f a0_1 0 64).bind fun t405 => (if t405 = true then ((ContainsFunc_Field.f k l0_0 63).bind fun t406 => (if t406 = true then (some false) else ((impl_Table_size.f k l0_0 a0_1).bind fun t407 => (some (decide (t407 ≤ a0_1)))))) else (some false))
theorem impl_TableOk.mono : ∀ a0 a1 k, LeO (impl_TableOk.f k a0 a1) (impl_TableOk.f (k + 1) a0 a1) := by
 intro a0 a1 k
 unfold impl_TableOk.f
 have m0 := @ContainsFunc_Field.mono
 have m1 := @impl_Table_size.mono
 exact zm
def impl_TableOk.T1 : Bool × List (List Nat × List Nat) := (true, [([], []), ([0], [0]), ([1], [1]), ([2, 2], [2]), ([3], [3]), ([4, 3], [3, 4]), ([5, 3, 3], [3, 5]), ([6, 3], [3, 6]), ([3, 7], [3, 7]), ([8, 6], [8]), ([9], [9]), ([10, 9, 9], [9, 10]), ([9], [9]), ([12, 9], [9, 12]), ([11, 13, 9], [9, 11, 13]), ([9, 14], [9, 14]), ([15, 11, 0, 1, 2, 3, 4, 5, 6, 7, 8, 9, 10, 11, 12, 13, 14, 15], [15])])
def impl_TableOk.B1 : List Nat := [0, 1, 3, 7, 15, 31, 63, 127, 255, 511, 1023, 2047, 1023, 5119, 16383, 32767, 65535]
theorem impl_TableOk.tab1 : rtab .any (opsOf Try.f19 1) = impl_TableOk.T1 := by kernel_rfl
theorem impl_TableOk.bits1 : waitsOk impl_TableOk.T1.2 impl_TableOk.B1 = true := by kernel_rfl
set_option maxHeartbeats 8000000 in
set_option maxRecDepth 100000 in
theorem impl_TableOk.calls (k : Nat) (A0_0 : Option Addr) (c0_0 : Nat) (l0_0 : List (S88)) (a0_1 : Int) (r : Bool) (w : World) (hr0_0 : Kd.C k88 w A0_0 l0_0.length l0_0) (hc0_0 : l0_0.length ≤ c0_0) (h : impl_TableOk.f k l0_0 a0_1 = some r) :
  Calls Try.prog 19 #[.agg #[.slice A0_0 l0_0.length c0_0, .int .i64 a0_1]] w fun e w' => e = .returned (.bool r) ∧ Below w.heap.size w w' := by
 have hu25 := Try.underlying25
 have HR0_0 := Aside0.mk hr0_0
 have HC0_0 := Aside0.mk hc0_0
 clear hr0_0 hc0_0
 have HB := Aside0.mk (Below.refl w.heap.size w)
 have H : ((impl_in.f a0_1 0 64).bind fun t405 => (if t405 = true then ((ContainsFunc_Field.f k l0_0 63).bind fun t406 => (if t406 = true then (some false) else ((impl_Table_size.f k l0_0 a0_1).bind fun t407 => (some (decide (t407 ≤ a0_1)))))) else (some false))) = some r := h
 clear h
 obtain ⟨t405, A2, H⟩ := ob H
 (try dsimp only at H)
 by_cases c3 : t405 = true
 ·subst c3
  rw [if_pos rfl] at H
  obtain ⟨t406, A4, H⟩ := ob H
  (try dsimp only at H)
  by_cases c5 : t406 = true
  ·subst c5
   rw [if_pos rfl] at H
   obtain rfl := Option.some.inj H
   go_enter Try.func19, Try.ntmps19
   try go_wp2_with (first | ((with_reducible refine gd 1 rfl ?_); refine bx (N := 1) (cs := #[.slice A0_0 l0_0.length c0_0, .int .i64 a0_1]) (t := 25) ?_; intro gb404 hg w6 hbox hb; have BK404 := Aside0.mk (hbox); have GW404 := gw HB hg; have GE404 := GW404; replace HB := Aside0.mk (below_step (zb HB) hb); clear hb hbox hg))
   replace BK404 := Aside0.mk (blk_drew BK404.out)
   replace HB := Aside0.mk (below_drew1 HB.out)
   refine st 17 (b2 BK404) (fun hHeld => ?_); refine with_tabW impl_TableOk.tab1 impl_TableOk.bits1 (fun HT_ HW_ => ?_)
   generalize w6.drew = w7 at BK404 HB hHeld ⊢
   refine pu 0 (some 3) (bm 17 1) rfl rfl ?_
   refine tk 1 (some 4) (bm 17 3) rfl rfl hHeld ?_
   refine one_ (i := 2) (N := some 5) (bm 17 7) rfl rfl (one_of HT_.out (by kernel_rfl)) (by decide) (fun K hK => ?_)
   refine gs Try.func61 #[.int .i64 a0_1, .int .i64 0, .int .i64 64] ?_
   with_reducible refine (impl_in.calls a0_1 0 64 true _ A2.out).mono ?_
   rintro e w' ⟨rfl, ⟨nd, rfl⟩⟩
   refine ⟨_, rfl, ?_⟩
   refine hK.out _ _ (b2 BK404) (fun hHeld => ?_)
   clear hK K
   refine nm ?_
   refine pu 3 (some 6) (bm 17 15) rfl rfl ?_
   refine pu 4 (some 7) (bm 17 31) rfl rfl ?_
   refine tk 5 (some 8) (bm 17 63) rfl rfl hHeld ?_
   refine one_ (i := 6) (N := some 9) (bm 17 127) rfl rfl (one_of HT_.out (by kernel_rfl)) (by decide) (fun K hK => ?_)
   refine gs Try.func62 #[.slice A0_0 l0_0.length c0_0, .func (.func 63) #[] #[]] ?_
   with_reducible refine (ContainsFunc_Field.calls k _ _ l0_0 63 true _ ?side1 ?side2 A4.out).mono ?_
   (case side1 => exact (Kd.C_below HR0_0.out (zb HB)))
   (case side2 => exact HC0_0.out)
   rintro e w8 ⟨rfl, hb⟩
   refine ⟨_, rfl, ?_⟩
   replace BK404 := kb BK404 hb
   replace HB := Aside0.mk (below_step (zb HB) hb)
   (try clear hb)
   refine hK.out _ _ (b2 BK404) (fun hHeld => ?_)
   clear hK K
   refine nm ?_
   refine pu 7 (some 10) (bm 17 255) rfl rfl ?_
   refine pu 8 (some 11) (bm 17 511) rfl rfl ?_
   refine pu 9 (some 12) (bm 17 1023) rfl rfl ?_
   refine pv 10 (some 13) (bm 17 2047) rfl rfl ?_
   refine pv 11 (some 14) (bm 17 4095) rfl rfl ?_
   refine pv 12 (some 15) (bm 17 8191) rfl rfl ?_
   refine pv 13 (some 16) (bm 17 16383) rfl rfl ?_
   refine pv 14 (some 17) (bm 17 32767) rfl rfl ?_
   refine pu 15 (some 18) (bm 17 65535) rfl rfl ?_
   refine pu 16 (some 2) (bm 17 131071) rfl rfl ?_
   refine done_ (done_of HT_.out (by kernel_rfl)) ?_
   try go_wp2
   go_ret
   exact ⟨ze, zb HB⟩
  ·replace c5 := Bool.eq_false_iff.mpr c5
   subst c5
   rw [if_neg (show ¬ (false = true) by decide)] at H
   obtain ⟨t407, A9, H⟩ := ob H
   (try dsimp only at H)
   obtain rfl := Option.some.inj H
   go_enter Try.func19, Try.ntmps19
   try go_wp2_with (first | ((with_reducible refine gd 1 rfl ?_); refine bx (N := 1) (cs := #[.slice A0_0 l0_0.length c0_0, .int .i64 a0_1]) (t := 25) ?_; intro gb404 hg w10 hbox hb; have BK404 := Aside0.mk (hbox); have GW404 := gw HB hg; have GE404 := GW404; replace HB := Aside0.mk (below_step (zb HB) hb); clear hb hbox hg))
   replace BK404 := Aside0.mk (blk_drew BK404.out)
   replace HB := Aside0.mk (below_drew1 HB.out)
   refine st 17 (b2 BK404) (fun hHeld => ?_); refine with_tabW impl_TableOk.tab1 impl_TableOk.bits1 (fun HT_ HW_ => ?_)
   generalize w10.drew = w11 at BK404 HB hHeld ⊢
   refine pu 0 (some 3) (bm 17 1) rfl rfl ?_
   refine tk 1 (some 4) (bm 17 3) rfl rfl hHeld ?_
   refine one_ (i := 2) (N := some 5) (bm 17 7) rfl rfl (one_of HT_.out (by kernel_rfl)) (by decide) (fun K hK => ?_)
   refine gs Try.func61 #[.int .i64 a0_1, .int .i64 0, .int .i64 64] ?_
   with_reducible refine (impl_in.calls a0_1 0 64 true _ A2.out).mono ?_
   rintro e w' ⟨rfl, ⟨nd, rfl⟩⟩
   refine ⟨_, rfl, ?_⟩
   refine hK.out _ _ (b2 BK404) (fun hHeld => ?_)
   clear hK K
   refine nm ?_
   refine pu 3 (some 6) (bm 17 15) rfl rfl ?_
   refine pu 4 (some 7) (bm 17 31) rfl rfl ?_
   refine tk 5 (some 8) (bm 17 63) rfl rfl hHeld ?_
   refine one_ (i := 6) (N := some 9) (bm 17 127) rfl rfl (one_of HT_.out (by kernel_rfl)) (by decide) (fun K hK => ?_)
   refine gs Try.func62 #[.slice A0_0 l0_0.length c0_0, .func (.func 63) #[] #[]] ?_
   with_reducible refine (ContainsFunc_Field.calls k _ _ l0_0 63 false _ ?side1 ?side2 A4.out).mono ?_
   (case side1 => exact (Kd.C_below HR0_0.out (zb HB)))
   (case side2 => exact HC0_0.out)
   rintro e w12 ⟨rfl, hb⟩
   refine ⟨_, rfl, ?_⟩
   replace BK404 := kb BK404 hb
   replace HB := Aside0.mk (below_step (zb HB) hb)
   (try clear hb)
   refine hK.out _ _ (b2 BK404) (fun hHeld => ?_)
   clear hK K
   refine nm ?_
   refine pu 7 (some 10) (bm 17 255) rfl rfl ?_
   refine pu 8 (some 11) (bm 17 511) rfl rfl ?_
   refine pu 9 (some 12) (bm 17 1023) rfl rfl ?_
   refine pu 12 (some 15) (bm 17 5119) rfl rfl ?_
   refine tk 10 (some 13) (bm 17 6143) rfl rfl hHeld ?_
   refine tk 13 (some 16) (bm 17 14335) rfl rfl hHeld ?_
   refine one_ (i := 11) (N := some 14) (bm 17 16383) rfl rfl (one_of HT_.out (by kernel_rfl)) (by decide) (fun K hK => ?_)
   refine gs Try.func65 #[.agg #[.slice A0_0 l0_0.length c0_0, .int .i64 a0_1]] ?_
   with_reducible refine (impl_Table_size.calls k _ _ l0_0 a0_1 t407 _ ?side1 ?side2 A9.out).mono ?_
   (case side1 => exact zc (Kd.C_below HR0_0.out HB.out))
   (case side2 => exact HC0_0.out)
   rintro e w13 ⟨rfl, hb⟩
   refine ⟨_, rfl, ?_⟩
   replace BK404 := kb BK404 hb
   replace HB := Aside0.mk (below_step (zb HB) hb)
   (try clear hb)
   refine hK.out _ _ (b2 BK404) (fun hHeld => ?_)
   clear hK K
   refine nm ?_
   refine pu 14 (some 17) (bm 17 32767) rfl rfl ?_
   refine pu 15 (some 18) (bm 17 65535) rfl rfl ?_
   refine pu 16 (some 2) (bm 17 131071) rfl rfl ?_
   refine done_ (done_of HT_.out (by kernel_rfl)) ?_
   try go_wp2
   go_ret
   exact ⟨ze, zb HB⟩
 ·replace c3 := Bool.eq_false_iff.mpr c3
  subst c3
  rw [if_neg (show ¬ (false = true) by decide)] at H
  obtain rfl := Option.some.inj H
  go_enter Try.func19, Try.ntmps19
  try go_wp2_with (first | ((with_reducible refine gd 1 rfl ?_); refine bx (N := 1) (cs := #[.slice A0_0 l0_0.length c0_0, .int .i64 a0_1]) (t := 25) ?_; intro gb404 hg w14 hbox hb; have BK404 := Aside0.mk (hbox); have GW404 := gw HB hg; have GE404 := GW404; replace HB := Aside0.mk (below_step (zb HB) hb); clear hb hbox hg))
  replace BK404 := Aside0.mk (blk_drew BK404.out)
  replace HB := Aside0.mk (below_drew1 HB.out)
  refine st 17 (b2 BK404) (fun hHeld => ?_); refine with_tabW impl_TableOk.tab1 impl_TableOk.bits1 (fun HT_ HW_ => ?_)
  generalize w14.drew = w15 at BK404 HB hHeld ⊢
  refine pu 0 (some 3) (bm 17 1) rfl rfl ?_
  refine tk 1 (some 4) (bm 17 3) rfl rfl hHeld ?_
  refine one_ (i := 2) (N := some 5) (bm 17 7) rfl rfl (one_of HT_.out (by kernel_rfl)) (by decide) (fun K hK => ?_)
  refine gs Try.func61 #[.int .i64 a0_1, .int .i64 0, .int .i64 64] ?_
  with_reducible refine (impl_in.calls a0_1 0 64 false _ A2.out).mono ?_
  rintro e w' ⟨rfl, ⟨nd, rfl⟩⟩
  refine ⟨_, rfl, ?_⟩
  refine hK.out _ _ (b2 BK404) (fun hHeld => ?_)
  clear hK K
  refine nm ?_
  refine pu 3 (some 6) (bm 17 15) rfl rfl ?_
  refine pv 4 (some 7) (bm 17 31) rfl rfl ?_
  refine pv 5 (some 8) (bm 17 63) rfl rfl ?_
  refine pv 6 (some 9) (bm 17 127) rfl rfl ?_
  refine pv 7 (some 10) (bm 17 255) rfl rfl ?_
  refine pu 8 (some 11) (bm 17 511) rfl rfl ?_
  refine pu 9 (some 12) (bm 17 1023) rfl rfl ?_
  refine pv 10 (some 13) (bm 17 2047) rfl rfl ?_
  refine pv 11 (some 14) (bm 17 4095) rfl rfl ?_
  refine pv 12 (some 15) (bm 17 8191) rfl rfl ?_
  refine pv 13 (some 16) (bm 17 16383) rfl rfl ?_
  refine pv 14 (some 17) (bm 17 32767) rfl rfl ?_
  refine pu 15 (some 18) (bm 17 65535) rfl rfl ?_
  refine pu 16 (some 2) (bm 17 131071) rfl rfl ?_
  refine done_ (done_of HT_.out (by kernel_rfl)) ?_
  try go_wp2
  go_ret
  exact ⟨ze, zb HB⟩

/-! ### impl_isStream: function 83 -/
-- thin
def impl_isStream.f (a0 : Int) : Option (Bool) := (impl_in.f a0 1 7).bind fun t408 => (if t408 = true then (some ((Int.tmod a0 2) == 1)) else (some false))
set_option maxHeartbeats 8000000 in
set_option maxRecDepth 100000 in
theorem impl_isStream.calls (a0 : Int) (r : Bool) (w : World) (h : impl_isStream.f a0 = some r) :
  Calls Try.prog 83 #[.int .i64 a0] w fun e w' => e = .returned (.bool r) ∧ Drawn0 w w' := by
 have H : ((impl_in.f a0 1 7).bind fun t408 => (if t408 = true then (some ((Int.tmod a0 2) == 1)) else (some false))) = some r := h
 clear h
 obtain ⟨t408, A2, H⟩ := ob H
 (try dsimp only at H)
 by_cases c3 : t408 = true
 ·subst c3
  rw [if_pos rfl] at H
  obtain rfl := Option.some.inj H
  go_enter Try.func83, Try.ntmps83
  go_wp2_with (first | ((with_reducible refine gq 61 rfl ?_); refine gl (some 4) Try.func61 #[.int .i64 a0, .int .i64 1, .int .i64 7] ?_; (with_reducible refine (impl_in.calls a0 1 7 true _ A2.out).mono ?_); rintro e w' ⟨rfl, ⟨nd, rfl⟩⟩; refine ⟨_, rfl, ?_⟩))
  go_ret
  exact ⟨zs, by repeat (first | exact Drawn0.refl _ | apply Drawn0.step)⟩
 ·replace c3 := Bool.eq_false_iff.mpr c3
  subst c3
  rw [if_neg (show ¬ (false = true) by decide)] at H
  obtain rfl := Option.some.inj H
  go_enter Try.func83, Try.ntmps83
  go_wp2_with (first | ((with_reducible refine gq 61 rfl ?_); refine gl (some 4) Try.func61 #[.int .i64 a0, .int .i64 1, .int .i64 7] ?_; (with_reducible refine (impl_in.calls a0 1 7 false _ A2.out).mono ?_); rintro e w' ⟨rfl, ⟨nd, rfl⟩⟩; refine ⟨_, rfl, ?_⟩))
  go_ret
  exact ⟨zs, by repeat (first | exact Drawn0.refl _ | apply Drawn0.step)⟩

/-! ### impl_HeadOk: function 53 -/
-- thin
def impl_HeadOk.f (k : Nat) (l0 : List (S88)) : Option (Bool) := if (l0.length : Int) ≤ 6 then ((ContainsFunc_Field.f k l0 109).bind fun t409 => (some (!t409))) else (some false)
theorem impl_HeadOk.mono : ∀ a0 k, LeO (impl_HeadOk.f k a0) (impl_HeadOk.f (k + 1) a0) := by
 intro a0 k
 unfold impl_HeadOk.f
 have m0 := @ContainsFunc_Field.mono
 exact zm
set_option maxHeartbeats 8000000 in
set_option maxRecDepth 100000 in
theorem impl_HeadOk.calls (k : Nat) (A0 : Option Addr) (c0 : Nat) (l0 : List (S88)) (r : Bool) (w : World) (hr0 : Kd.C k88 w A0 l0.length l0) (hc0 : l0.length ≤ c0) (h : impl_HeadOk.f k l0 = some r) :
  Calls Try.prog 53 #[.slice A0 l0.length c0] w fun e w' => e = .returned (.bool r) ∧ Below w.heap.size w w' := by
 have HR0 := Aside0.mk hr0
 have HC0 := Aside0.mk hc0
 clear hr0 hc0
 have HB := Aside0.mk (Below.refl w.heap.size w)
 have H : (if (l0.length : Int) ≤ 6 then ((ContainsFunc_Field.f k l0 109).bind fun t409 => (some (!t409))) else (some false)) = some r := h
 clear h
 replace H := sp H
 rcases H with ⟨c2, H⟩ | ⟨c2, H⟩
 ·skip
  have c2b0 := decide_eq_true c2
  have c2b1 := decide_eq_true (by omega)
  clear c2
  obtain ⟨t409, A3, H⟩ := ob H
  (try dsimp only at H)
  obtain rfl := Option.some.inj H
  go_enter Try.func53, Try.ntmps53
  go_wp2_with (first | (go_at_call 62; (with_reducible refine (ContainsFunc_Field.calls k _ _ l0 109 t409 _ ?side1 ?side2 A3.out).mono ?_); (case side1 => exact zc HR0.out); (case side2 => exact HC0.out); rintro e w4 ⟨rfl, hb⟩; replace HB := Aside0.mk (below_step (zb HB) hb); (try clear hb)))
  go_ret
  exact ⟨ze, zb HB⟩
 ·skip
  have c2b0 := decide_eq_false c2
  have c2b1 := decide_eq_false (by omega)
  clear c2
  obtain rfl := Option.some.inj H
  go_enter Try.func53, Try.ntmps53
  go_wp2
  go_ret
  exact ⟨ze, zb HB⟩

/-! ### impl_FlowOk: function 88 -/
-- thin
def impl_FlowOk.f (a0_0 : Int) (a0_1 : Int) : Option (Bool) := (impl_in.f a0_0 0 31).bind fun t411 => (if t411 = true then ((impl_in.f a0_1 0 31).bind fun t412 => (some t412)) else (some false))
set_option maxHeartbeats 8000000 in
set_option maxRecDepth 100000 in
theorem impl_FlowOk.calls (a0_0 : Int) (a0_1 : Int) (r : Bool) (w : World) (h : impl_FlowOk.f a0_0 a0_1 = some r) :
  Calls Try.prog 88 #[.agg #[.int .i64 a0_0, .int .i64 a0_1]] w fun e w' => e = .returned (.bool r) ∧ Below w.heap.size w w' := by
 have hu39 := Try.underlying39
 have HB := Aside0.mk (Below.refl w.heap.size w)
 have H : ((impl_in.f a0_0 0 31).bind fun t411 => (if t411 = true then ((impl_in.f a0_1 0 31).bind fun t412 => (some t412)) else (some false))) = some r := h
 clear h
 obtain ⟨t411, A2, H⟩ := ob H
 (try dsimp only at H)
 by_cases c3 : t411 = true
 ·subst c3
  rw [if_pos rfl] at H
  obtain ⟨t412, A4, H⟩ := ob H
  (try dsimp only at H)
  obtain rfl := Option.some.inj H
  go_enter Try.func88, Try.ntmps88
  go_wp2_with (first | ((with_reducible refine gd 1 rfl ?_); refine bx (N := 1) (cs := #[.int .i64 a0_0, .int .i64 a0_1]) (t := 39) ?_; intro gb410 hg w5 hbox hb; have BK410 := Aside0.mk (hbox); have GW410 := gw HB hg; have GE410 := GW410; replace HB := Aside0.mk (below_step (zb HB) hb); clear hb hbox hg; obtain ⟨hcz6_0, hcz6_1, hfz6_0, hfz6_1⟩ := c2 BK410) | ((with_reducible refine gq 61 rfl ?_); refine gl (some 5) Try.func61 #[.int .i64 a0_0, .int .i64 0, .int .i64 31] ?_; (with_reducible refine (impl_in.calls a0_0 0 31 true _ A2.out).mono ?_); rintro e w' ⟨rfl, ⟨nd, rfl⟩⟩; refine ⟨_, rfl, ?_⟩) | (go_at_call 61; (with_reducible refine (impl_in.calls a0_1 0 31 t412 _ A4.out).mono ?_); rintro e w' ⟨rfl, ⟨nd, rfl⟩⟩))
  go_ret
  exact ⟨ze, zb HB⟩
 ·replace c3 := Bool.eq_false_iff.mpr c3
  subst c3
  rw [if_neg (show ¬ (false = true) by decide)] at H
  obtain rfl := Option.some.inj H
  go_enter Try.func88, Try.ntmps88
  go_wp2_with (first | ((with_reducible refine gd 1 rfl ?_); refine bx (N := 1) (cs := #[.int .i64 a0_0, .int .i64 a0_1]) (t := 39) ?_; intro gb410 hg w7 hbox hb; have BK410 := Aside0.mk (hbox); have GW410 := gw HB hg; have GE410 := GW410; replace HB := Aside0.mk (below_step (zb HB) hb); clear hb hbox hg; obtain ⟨hcz8_0, hcz8_1, hfz8_0, hfz8_1⟩ := c2 BK410) | ((with_reducible refine gq 61 rfl ?_); refine gl (some 5) Try.func61 #[.int .i64 a0_0, .int .i64 0, .int .i64 31] ?_; (with_reducible refine (impl_in.calls a0_0 0 31 false _ A2.out).mono ?_); rintro e w' ⟨rfl, ⟨nd, rfl⟩⟩; refine ⟨_, rfl, ?_⟩))
  go_ret
  exact ⟨ze, zb HB⟩

/-! ### impl_streamOk: function 84 -/
-- thin
def impl_streamOk.f (k : Nat) (a0_0 : Int) (a0_1 : Int) (l0_2 : List (S88)) (a0_3 : ByteArray) (a0_4 : Bool) (a0_5 : Bool) (a0_6 : Int) (l0_7 : List (S88)) (a0_8 : ByteArray) (a0_9 : Bool) (a0_10 : Int) (a0_11 : Int) : Option (Bool) := (impl_in.f a0_1 1 3).bind fun t414 => (if t414 = true then ((impl_HeadOk.f k l0_2).bind fun t415 => (if t415 = true then ((impl_HeadOk.f k l0_7).bind fun t416 => (if t416 = true then ((impl_WordOk.f k a0_3).bind fun t417 => (if t417 = true then ((impl_WordOk.f k a0_8).bind fun t418 => (if t418 = true then ((impl_in.f a0_6 0 (a0_3.size : Int)).bind fun t419 => (if t419 = true then ((impl_FlowOk.f a0_10 a0_11).bind fun t420 => (some t420)) else (some false))) else (some false))) else (some false))) else (some false))) else (some false))) else (some false))
theorem impl_streamOk.mono : ∀ a0 a1 a2 a3 a4 a5 a6 a7 a8 a9 a10 a11 k, LeO (impl_streamOk.f k a0 a1 a2 a3 a4 a5 a6 a7 a8 a9 a10 a11) (impl_streamOk.f (k + 1) a0 a1 a2 a3 a4 a5 a6 a7 a8 a9 a10 a11) := by
 intro a0 a1 a2 a3 a4 a5 a6 a7 a8 a9 a10 a11 k
 unfold impl_streamOk.f
 have m0 := @impl_HeadOk.mono
 have m1 := @impl_WordOk.mono
 exact zm
set_option maxHeartbeats 8000000 in
set_option maxRecDepth 100000 in
theorem impl_streamOk.calls (k : Nat) (a0_0 : Int) (a0_1 : Int) (A0_2 : Option Addr) (c0_2 : Nat) (l0_2 : List (S88)) (a0_3 : ByteArray) (a0_4 : Bool) (a0_5 : Bool) (a0_6 : Int) (A0_7 : Option Addr) (c0_7 : Nat) (l0_7 : List (S88)) (a0_8 : ByteArray) (a0_9 : Bool) (a0_10 : Int) (a0_11 : Int) (r : Bool) (w : World) (hr0_2 : Kd.C k88 w A0_2 l0_2.length l0_2) (hc0_2 : l0_2.length ≤ c0_2) (hr0_7 : Kd.C k88 w A0_7 l0_7.length l0_7) (hc0_7 : l0_7.length ≤ c0_7) (h : impl_streamOk.f k a0_0 a0_1 l0_2 a0_3 a0_4 a0_5 a0_6 l0_7 a0_8 a0_9 a0_10 a0_11 = some r) :
  Calls Try.prog 84 #[.agg #[.int .i64 a0_0, .int .i64 a0_1, .slice A0_2 l0_2.length c0_2, .string a0_3, .bool a0_4, .bool a0_5, .int .i64 a0_6, .slice A0_7 l0_7.length c0_7, .string a0_8, .bool a0_9, .int .i64 a0_10, .int .i64 a0_11]] w fun e w' => e = .returned (.bool r) ∧ Below w.heap.size w w' := by
 have hu104 := Try.underlying104
 have hu39 := Try.underlying39
 have HR0_2 := Aside0.mk hr0_2
 have HC0_2 := Aside0.mk hc0_2
 clear hr0_2 hc0_2
 have HR0_7 := Aside0.mk hr0_7
 have HC0_7 := Aside0.mk hc0_7
 clear hr0_7 hc0_7
 have HB := Aside0.mk (Below.refl w.heap.size w)
 have H : ((impl_in.f a0_1 1 3).bind fun t414 => (if t414 = true then ((impl_HeadOk.f k l0_2).bind fun t415 => (if t415 = true then ((impl_HeadOk.f k l0_7).bind fun t416 => (if t416 = true then ((impl_WordOk.f k a0_3).bind fun t417 => (if t417 = true then ((impl_WordOk.f k a0_8).bind fun t418 => (if t418 = true then ((impl_in.f a0_6 0 (a0_3.size : Int)).bind fun t419 => (if t419 = true then ((impl_FlowOk.f a0_10 a0_11).bind fun t420 => (some t420)) else (some false))) else (some false))) else (some false))) else (some false))) else (some false))) else (some false))) = some r := h
 clear h
 obtain ⟨t414, A2, H⟩ := ob H
 (try dsimp only at H)
 by_cases c3 : t414 = true
 ·subst c3
  rw [if_pos rfl] at H
  obtain ⟨t415, A4, H⟩ := ob H
  (try dsimp only at H)
  by_cases c5 : t415 = true
  ·subst c5
   rw [if_pos rfl] at H
   obtain ⟨t416, A6, H⟩ := ob H
   (try dsimp only at H)
   by_cases c7 : t416 = true
   ·subst c7
    rw [if_pos rfl] at H
    obtain ⟨t417, A8, H⟩ := ob H
    (try dsimp only at H)
    by_cases c9 : t417 = true
    ·subst c9
     rw [if_pos rfl] at H
     obtain ⟨t418, A10, H⟩ := ob H
     (try dsimp only at H)
     by_cases c11 : t418 = true
     ·subst c11
      rw [if_pos rfl] at H
      obtain ⟨t419, A12, H⟩ := ob H
      (try dsimp only at H)
      by_cases c13 : t419 = true
      ·subst c13
       rw [if_pos rfl] at H
       obtain ⟨t420, A14, H⟩ := ob H
       (try dsimp only at H)
       obtain rfl := Option.some.inj H
       go_enter Try.func84, Try.ntmps84
       go_wp2_with (first | ((with_reducible refine gd 1 rfl ?_); (try (refine gate_guard (by rfl) ?_; dsimp only)); refine bx (N := 1) (cs := #[.int .i64 a0_0, .int .i64 a0_1, .slice A0_2 l0_2.length c0_2, .string a0_3, .bool a0_4, .bool a0_5, .int .i64 a0_6, .slice A0_7 l0_7.length c0_7, .string a0_8, .bool a0_9, .int .i64 a0_10, .int .i64 a0_11]) (t := 104) ?_; intro gb413 hg w15 hbox hb; have BK413 := Aside0.mk (hbox); have GW413 := gw HB hg; have GE413 := GW413; replace HB := Aside0.mk (below_step (zb HB) hb); clear hb hbox hg; obtain ⟨hcz16_0, hcz16_1, hcz16_2, hcz16_3, hcz16_4, hcz16_5, hcz16_6, hcz16_7, hcz16_8, hcz16_9, hcz16_10, hcz16_11, hfz16_0, hfz16_1, hfz16_2, hfz16_3, hfz16_4, hfz16_5, hfz16_6, hfz16_7, hfz16_8, hfz16_9, hfz16_10, hfz16_11⟩ := c12 BK413) | ((with_reducible refine gq 61 rfl ?_); refine gl (some 5) Try.func61 #[.int .i64 a0_1, .int .i64 1, .int .i64 3] ?_; (with_reducible refine (impl_in.calls a0_1 1 3 true _ A2.out).mono ?_); rintro e w' ⟨rfl, ⟨nd, rfl⟩⟩; refine ⟨_, rfl, ?_⟩) | (go_at_call 53; (with_reducible refine (impl_HeadOk.calls k _ _ l0_2 true _ ?side1 ?side2 A4.out).mono ?_); (case side1 => exact (Kd.C_below HR0_2.out (zb HB))); (case side2 => exact HC0_2.out); rintro e w17 ⟨rfl, hb⟩; replace BK413 := kb BK413 hb; replace HB := Aside0.mk (below_step (zb HB) hb); (try clear hb); obtain ⟨hcz18_0, hcz18_1, hcz18_2, hcz18_3, hcz18_4, hcz18_5, hcz18_6, hcz18_7, hcz18_8, hcz18_9, hcz18_10, hcz18_11, hfz18_0, hfz18_1, hfz18_2, hfz18_3, hfz18_4, hfz18_5, hfz18_6, hfz18_7, hfz18_8, hfz18_9, hfz18_10, hfz18_11⟩ := c12 BK413) | (go_at_call 53; (with_reducible refine (impl_HeadOk.calls k _ _ l0_7 true _ ?side1 ?side2 A6.out).mono ?_); (case side1 => exact zc (Kd.C_below HR0_7.out HB.out)); (case side2 => exact HC0_7.out); rintro e w19 ⟨rfl, hb⟩; replace BK413 := kb BK413 hb; replace HB := Aside0.mk (below_step (zb HB) hb); (try clear hb); obtain ⟨hcz20_0, hcz20_1, hcz20_2, hcz20_3, hcz20_4, hcz20_5, hcz20_6, hcz20_7, hcz20_8, hcz20_9, hcz20_10, hcz20_11, hfz20_0, hfz20_1, hfz20_2, hfz20_3, hfz20_4, hfz20_5, hfz20_6, hfz20_7, hfz20_8, hfz20_9, hfz20_10, hfz20_11⟩ := c12 BK413) | (go_at_call 122; (with_reducible refine (impl_WordOk.calls k a0_3 true _ A8.out).mono ?_); rintro e w' ⟨rfl, ⟨nd, rfl⟩⟩) | (go_at_call 122; (with_reducible refine (impl_WordOk.calls k a0_8 true _ A10.out).mono ?_); rintro e w' ⟨rfl, ⟨nd, rfl⟩⟩) | (go_at_call 61; (with_reducible refine (impl_in.calls a0_6 0 (a0_3.size : Int) true _ A12.out).mono ?_); rintro e w' ⟨rfl, ⟨nd, rfl⟩⟩) | (go_at_call 88; (with_reducible refine (impl_FlowOk.calls a0_10 a0_11 t420 _ A14.out).mono ?_); rintro e w21 ⟨rfl, hb⟩; replace BK413 := kb BK413 hb; replace HB := Aside0.mk (below_step (zb HB) hb); (try clear hb)))
       go_ret
       exact ⟨ze, zb HB⟩
      ·replace c13 := Bool.eq_false_iff.mpr c13
       subst c13
       rw [if_neg (show ¬ (false = true) by decide)] at H
       obtain rfl := Option.some.inj H
       go_enter Try.func84, Try.ntmps84
       go_wp2_with (first | ((with_reducible refine gd 1 rfl ?_); (try (refine gate_guard (by rfl) ?_; dsimp only)); refine bx (N := 1) (cs := #[.int .i64 a0_0, .int .i64 a0_1, .slice A0_2 l0_2.length c0_2, .string a0_3, .bool a0_4, .bool a0_5, .int .i64 a0_6, .slice A0_7 l0_7.length c0_7, .string a0_8, .bool a0_9, .int .i64 a0_10, .int .i64 a0_11]) (t := 104) ?_; intro gb413 hg w22 hbox hb; have BK413 := Aside0.mk (hbox); have GW413 := gw HB hg; have GE413 := GW413; replace HB := Aside0.mk (below_step (zb HB) hb); clear hb hbox hg; obtain ⟨hcz23_0, hcz23_1, hcz23_2, hcz23_3, hcz23_4, hcz23_5, hcz23_6, hcz23_7, hcz23_8, hcz23_9, hcz23_10, hcz23_11, hfz23_0, hfz23_1, hfz23_2, hfz23_3, hfz23_4, hfz23_5, hfz23_6, hfz23_7, hfz23_8, hfz23_9, hfz23_10, hfz23_11⟩ := c12 BK413) | ((with_reducible refine gq 61 rfl ?_); refine gl (some 5) Try.func61 #[.int .i64 a0_1, .int .i64 1, .int .i64 3] ?_; (with_reducible refine (impl_in.calls a0_1 1 3 true _ A2.out).mono ?_); rintro e w' ⟨rfl, ⟨nd, rfl⟩⟩; refine ⟨_, rfl, ?_⟩) | (go_at_call 53; (with_reducible refine (impl_HeadOk.calls k _ _ l0_2 true _ ?side1 ?side2 A4.out).mono ?_); (case side1 => exact (Kd.C_below HR0_2.out (zb HB))); (case side2 => exact HC0_2.out); rintro e w24 ⟨rfl, hb⟩; replace BK413 := kb BK413 hb; replace HB := Aside0.mk (below_step (zb HB) hb); (try clear hb); obtain ⟨hcz25_0, hcz25_1, hcz25_2, hcz25_3, hcz25_4, hcz25_5, hcz25_6, hcz25_7, hcz25_8, hcz25_9, hcz25_10, hcz25_11, hfz25_0, hfz25_1, hfz25_2, hfz25_3, hfz25_4, hfz25_5, hfz25_6, hfz25_7, hfz25_8, hfz25_9, hfz25_10, hfz25_11⟩ := c12 BK413) | (go_at_call 53; (with_reducible refine (impl_HeadOk.calls k _ _ l0_7 true _ ?side1 ?side2 A6.out).mono ?_); (case side1 => exact zc (Kd.C_below HR0_7.out HB.out)); (case side2 => exact HC0_7.out); rintro e w26 ⟨rfl, hb⟩; replace BK413 := kb BK413 hb; replace HB := Aside0.mk (below_step (zb HB) hb); (try clear hb); obtain ⟨hcz27_0, hcz27_1, hcz27_2, hcz27_3, hcz27_4, hcz27_5, hcz27_6, hcz27_7, hcz27_8, hcz27_9, hcz27_10, hcz27_11, hfz27_0, hfz27_1, hfz27_2, hfz27_3, hfz27_4, hfz27_5, hfz27_6, hfz27_7, hfz27_8, hfz27_9, hfz27_10, hfz27_11⟩ := c12 BK413) | (go_at_call 122; (with_reducible refine (impl_WordOk.calls k a0_3 true _ A8.out).mono ?_); rintro e w' ⟨rfl, ⟨nd, rfl⟩⟩) | (go_at_call 122; (with_reducible refine (impl_WordOk.calls k a0_8 true _ A10.out).mono ?_); rintro e w' ⟨rfl, ⟨nd, rfl⟩⟩) | (go_at_call 61; (with_reducible refine (impl_in.calls a0_6 0 (a0_3.size : Int) false _ A12.out).mono ?_); rintro e w' ⟨rfl, ⟨nd, rfl⟩⟩))
       go_ret
       exact ⟨ze, zb HB⟩
     ·replace c11 := Bool.eq_false_iff.mpr c11
      subst c11
      rw [if_neg (show ¬ (false = true) by decide)] at H
      obtain rfl := Option.some.inj H
      go_enter Try.func84, Try.ntmps84
      go_wp2_with (first | ((with_reducible refine gd 1 rfl ?_); (try (refine gate_guard (by rfl) ?_; dsimp only)); refine bx (N := 1) (cs := #[.int .i64 a0_0, .int .i64 a0_1, .slice A0_2 l0_2.length c0_2, .string a0_3, .bool a0_4, .bool a0_5, .int .i64 a0_6, .slice A0_7 l0_7.length c0_7, .string a0_8, .bool a0_9, .int .i64 a0_10, .int .i64 a0_11]) (t := 104) ?_; intro gb413 hg w28 hbox hb; have BK413 := Aside0.mk (hbox); have GW413 := gw HB hg; have GE413 := GW413; replace HB := Aside0.mk (below_step (zb HB) hb); clear hb hbox hg; obtain ⟨hcz29_0, hcz29_1, hcz29_2, hcz29_3, hcz29_4, hcz29_5, hcz29_6, hcz29_7, hcz29_8, hcz29_9, hcz29_10, hcz29_11, hfz29_0, hfz29_1, hfz29_2, hfz29_3, hfz29_4, hfz29_5, hfz29_6, hfz29_7, hfz29_8, hfz29_9, hfz29_10, hfz29_11⟩ := c12 BK413) | ((with_reducible refine gq 61 rfl ?_); refine gl (some 5) Try.func61 #[.int .i64 a0_1, .int .i64 1, .int .i64 3] ?_; (with_reducible refine (impl_in.calls a0_1 1 3 true _ A2.out).mono ?_); rintro e w' ⟨rfl, ⟨nd, rfl⟩⟩; refine ⟨_, rfl, ?_⟩) | (go_at_call 53; (with_reducible refine (impl_HeadOk.calls k _ _ l0_2 true _ ?side1 ?side2 A4.out).mono ?_); (case side1 => exact (Kd.C_below HR0_2.out (zb HB))); (case side2 => exact HC0_2.out); rintro e w30 ⟨rfl, hb⟩; replace BK413 := kb BK413 hb; replace HB := Aside0.mk (below_step (zb HB) hb); (try clear hb); obtain ⟨hcz31_0, hcz31_1, hcz31_2, hcz31_3, hcz31_4, hcz31_5, hcz31_6, hcz31_7, hcz31_8, hcz31_9, hcz31_10, hcz31_11, hfz31_0, hfz31_1, hfz31_2, hfz31_3, hfz31_4, hfz31_5, hfz31_6, hfz31_7, hfz31_8, hfz31_9, hfz31_10, hfz31_11⟩ := c12 BK413) | (go_at_call 53; (with_reducible refine (impl_HeadOk.calls k _ _ l0_7 true _ ?side1 ?side2 A6.out).mono ?_); (case side1 => exact zc (Kd.C_below HR0_7.out HB.out)); (case side2 => exact HC0_7.out); rintro e w32 ⟨rfl, hb⟩; replace BK413 := kb BK413 hb; replace HB := Aside0.mk (below_step (zb HB) hb); (try clear hb); obtain ⟨hcz33_0, hcz33_1, hcz33_2, hcz33_3, hcz33_4, hcz33_5, hcz33_6, hcz33_7, hcz33_8, hcz33_9, hcz33_10, hcz33_11, hfz33_0, hfz33_1, hfz33_2, hfz33_3, hfz33_4, hfz33_5, hfz33_6, hfz33_7, hfz33_8, hfz33_9, hfz33_10, hfz33_11⟩ := c12 BK413) | (go_at_call 122; (with_reducible refine (impl_WordOk.calls k a0_3 true _ A8.out).mono ?_); rintro e w' ⟨rfl, ⟨nd, rfl⟩⟩) | (go_at_call 122; (with_reducible refine (impl_WordOk.calls k a0_8 false _ A10.out).mono ?_); rintro e w' ⟨rfl, ⟨nd, rfl⟩⟩))
      go_ret
      exact ⟨ze, zb HB⟩
    ·replace c9 := Bool.eq_false_iff.mpr c9
     subst c9
     rw [if_neg (show ¬ (false = true) by decide)] at H
     obtain rfl := Option.some.inj H
     go_enter Try.func84, Try.ntmps84
     go_wp2_with (first | ((with_reducible refine gd 1 rfl ?_); (try (refine gate_guard (by rfl) ?_; dsimp only)); refine bx (N := 1) (cs := #[.int .i64 a0_0, .int .i64 a0_1, .slice A0_2 l0_2.length c0_2, .string a0_3, .bool a0_4, .bool a0_5, .int .i64 a0_6, .slice A0_7 l0_7.length c0_7, .string a0_8, .bool a0_9, .int .i64 a0_10, .int .i64 a0_11]) (t := 104) ?_; intro gb413 hg w34 hbox hb; have BK413 := Aside0.mk (hbox); have GW413 := gw HB hg; have GE413 := GW413; replace HB := Aside0.mk (below_step (zb HB) hb); clear hb hbox hg; obtain ⟨hcz35_0, hcz35_1, hcz35_2, hcz35_3, hcz35_4, hcz35_5, hcz35_6, hcz35_7, hcz35_8, hcz35_9, hcz35_10, hcz35_11, hfz35_0, hfz35_1, hfz35_2, hfz35_3, hfz35_4, hfz35_5, hfz35_6, hfz35_7, hfz35_8, hfz35_9, hfz35_10, hfz35_11⟩ := c12 BK413) | ((with_reducible refine gq 61 rfl ?_); refine gl (some 5) Try.func61 #[.int .i64 a0_1, .int .i64 1, .int .i64 3] ?_; (with_reducible refine (impl_in.calls a0_1 1 3 true _ A2.out).mono ?_); rintro e w' ⟨rfl, ⟨nd, rfl⟩⟩; refine ⟨_, rfl, ?_⟩) | (go_at_call 53; (with_reducible refine (impl_HeadOk.calls k _ _ l0_2 true _ ?side1 ?side2 A4.out).mono ?_); (case side1 => exact (Kd.C_below HR0_2.out (zb HB))); (case side2 => exact HC0_2.out); rintro e w36 ⟨rfl, hb⟩; replace BK413 := kb BK413 hb; replace HB := Aside0.mk (below_step (zb HB) hb); (try clear hb); obtain ⟨hcz37_0, hcz37_1, hcz37_2, hcz37_3, hcz37_4, hcz37_5, hcz37_6, hcz37_7, hcz37_8, hcz37_9, hcz37_10, hcz37_11, hfz37_0, hfz37_1, hfz37_2, hfz37_3, hfz37_4, hfz37_5, hfz37_6, hfz37_7, hfz37_8, hfz37_9, hfz37_10, hfz37_11⟩ := c12 BK413) | (go_at_call 53; (with_reducible refine (impl_HeadOk.calls k _ _ l0_7 true _ ?side1 ?side2 A6.out).mono ?_); (case side1 => exact zc (Kd.C_below HR0_7.out HB.out)); (case side2 => exact HC0_7.out); rintro e w38 ⟨rfl, hb⟩; replace BK413 := kb BK413 hb; replace HB := Aside0.mk (below_step (zb HB) hb); (try clear hb); obtain ⟨hcz39_0, hcz39_1, hcz39_2, hcz39_3, hcz39_4, hcz39_5, hcz39_6, hcz39_7, hcz39_8, hcz39_9, hcz39_10, hcz39_11, hfz39_0, hfz39_1, hfz39_2, hfz39_3, hfz39_4, hfz39_5, hfz39_6, hfz39_7, hfz39_8, hfz39_9, hfz39_10, hfz39_11⟩ := c12 BK413) | (go_at_call 122; (with_reducible refine (impl_WordOk.calls k a0_3 false _ A8.out).mono ?_); rintro e w' ⟨rfl, ⟨nd, rfl⟩⟩))
     go_ret
     exact ⟨ze, zb HB⟩
   ·replace c7 := Bool.eq_false_iff.mpr c7
    subst c7
    rw [if_neg (show ¬ (false = true) by decide)] at H
    obtain rfl := Option.some.inj H
    go_enter Try.func84, Try.ntmps84
    go_wp2_with (first | ((with_reducible refine gd 1 rfl ?_); (try (refine gate_guard (by rfl) ?_; dsimp only)); refine bx (N := 1) (cs := #[.int .i64 a0_0, .int .i64 a0_1, .slice A0_2 l0_2.length c0_2, .string a0_3, .bool a0_4, .bool a0_5, .int .i64 a0_6, .slice A0_7 l0_7.length c0_7, .string a0_8, .bool a0_9, .int .i64 a0_10, .int .i64 a0_11]) (t := 104) ?_; intro gb413 hg w40 hbox hb; have BK413 := Aside0.mk (hbox); have GW413 := gw HB hg; have GE413 := GW413; replace HB := Aside0.mk (below_step (zb HB) hb); clear hb hbox hg; obtain ⟨hcz41_0, hcz41_1, hcz41_2, hcz41_3, hcz41_4, hcz41_5, hcz41_6, hcz41_7, hcz41_8, hcz41_9, hcz41_10, hcz41_11, hfz41_0, hfz41_1, hfz41_2, hfz41_3, hfz41_4, hfz41_5, hfz41_6, hfz41_7, hfz41_8, hfz41_9, hfz41_10, hfz41_11⟩ := c12 BK413) | ((with_reducible refine gq 61 rfl ?_); refine gl (some 5) Try.func61 #[.int .i64 a0_1, .int .i64 1, .int .i64 3] ?_; (with_reducible refine (impl_in.calls a0_1 1 3 true _ A2.out).mono ?_); rintro e w' ⟨rfl, ⟨nd, rfl⟩⟩; refine ⟨_, rfl, ?_⟩) | (go_at_call 53; (with_reducible refine (impl_HeadOk.calls k _ _ l0_2 true _ ?side1 ?side2 A4.out).mono ?_); (case side1 => exact (Kd.C_below HR0_2.out (zb HB))); (case side2 => exact HC0_2.out); rintro e w42 ⟨rfl, hb⟩; replace BK413 := kb BK413 hb; replace HB := Aside0.mk (below_step (zb HB) hb); (try clear hb); obtain ⟨hcz43_0, hcz43_1, hcz43_2, hcz43_3, hcz43_4, hcz43_5, hcz43_6, hcz43_7, hcz43_8, hcz43_9, hcz43_10, hcz43_11, hfz43_0, hfz43_1, hfz43_2, hfz43_3, hfz43_4, hfz43_5, hfz43_6, hfz43_7, hfz43_8, hfz43_9, hfz43_10, hfz43_11⟩ := c12 BK413) | (go_at_call 53; (with_reducible refine (impl_HeadOk.calls k _ _ l0_7 false _ ?side1 ?side2 A6.out).mono ?_); (case side1 => exact zc (Kd.C_below HR0_7.out HB.out)); (case side2 => exact HC0_7.out); rintro e w44 ⟨rfl, hb⟩; replace BK413 := kb BK413 hb; replace HB := Aside0.mk (below_step (zb HB) hb); (try clear hb)))
    go_ret
    exact ⟨ze, zb HB⟩
  ·replace c5 := Bool.eq_false_iff.mpr c5
   subst c5
   rw [if_neg (show ¬ (false = true) by decide)] at H
   obtain rfl := Option.some.inj H
   go_enter Try.func84, Try.ntmps84
   go_wp2_with (first | ((with_reducible refine gd 1 rfl ?_); (try (refine gate_guard (by rfl) ?_; dsimp only)); refine bx (N := 1) (cs := #[.int .i64 a0_0, .int .i64 a0_1, .slice A0_2 l0_2.length c0_2, .string a0_3, .bool a0_4, .bool a0_5, .int .i64 a0_6, .slice A0_7 l0_7.length c0_7, .string a0_8, .bool a0_9, .int .i64 a0_10, .int .i64 a0_11]) (t := 104) ?_; intro gb413 hg w45 hbox hb; have BK413 := Aside0.mk (hbox); have GW413 := gw HB hg; have GE413 := GW413; replace HB := Aside0.mk (below_step (zb HB) hb); clear hb hbox hg; obtain ⟨hcz46_0, hcz46_1, hcz46_2, hcz46_3, hcz46_4, hcz46_5, hcz46_6, hcz46_7, hcz46_8, hcz46_9, hcz46_10, hcz46_11, hfz46_0, hfz46_1, hfz46_2, hfz46_3, hfz46_4, hfz46_5, hfz46_6, hfz46_7, hfz46_8, hfz46_9, hfz46_10, hfz46_11⟩ := c12 BK413) | ((with_reducible refine gq 61 rfl ?_); refine gl (some 5) Try.func61 #[.int .i64 a0_1, .int .i64 1, .int .i64 3] ?_; (with_reducible refine (impl_in.calls a0_1 1 3 true _ A2.out).mono ?_); rintro e w' ⟨rfl, ⟨nd, rfl⟩⟩; refine ⟨_, rfl, ?_⟩) | (go_at_call 53; (with_reducible refine (impl_HeadOk.calls k _ _ l0_2 false _ ?side1 ?side2 A4.out).mono ?_); (case side1 => exact (Kd.C_below HR0_2.out (zb HB))); (case side2 => exact HC0_2.out); rintro e w47 ⟨rfl, hb⟩; replace BK413 := kb BK413 hb; replace HB := Aside0.mk (below_step (zb HB) hb); (try clear hb)))
   go_ret
   exact ⟨ze, zb HB⟩
 ·replace c3 := Bool.eq_false_iff.mpr c3
  subst c3
  rw [if_neg (show ¬ (false = true) by decide)] at H
  obtain rfl := Option.some.inj H
  go_enter Try.func84, Try.ntmps84
  go_wp2_with (first | ((with_reducible refine gd 1 rfl ?_); (try (refine gate_guard (by rfl) ?_; dsimp only)); refine bx (N := 1) (cs := #[.int .i64 a0_0, .int .i64 a0_1, .slice A0_2 l0_2.length c0_2, .string a0_3, .bool a0_4, .bool a0_5, .int .i64 a0_6, .slice A0_7 l0_7.length c0_7, .string a0_8, .bool a0_9, .int .i64 a0_10, .int .i64 a0_11]) (t := 104) ?_; intro gb413 hg w48 hbox hb; have BK413 := Aside0.mk (hbox); have GW413 := gw HB hg; have GE413 := GW413; replace HB := Aside0.mk (below_step (zb HB) hb); clear hb hbox hg; obtain ⟨hcz49_0, hcz49_1, hcz49_2, hcz49_3, hcz49_4, hcz49_5, hcz49_6, hcz49_7, hcz49_8, hcz49_9, hcz49_10, hcz49_11, hfz49_0, hfz49_1, hfz49_2, hfz49_3, hfz49_4, hfz49_5, hfz49_6, hfz49_7, hfz49_8, hfz49_9, hfz49_10, hfz49_11⟩ := c12 BK413) | ((with_reducible refine gq 61 rfl ?_); refine gl (some 5) Try.func61 #[.int .i64 a0_1, .int .i64 1, .int .i64 3] ?_; (with_reducible refine (impl_in.calls a0_1 1 3 false _ A2.out).mono ?_); rintro e w' ⟨rfl, ⟨nd, rfl⟩⟩; refine ⟨_, rfl, ?_⟩))
  go_ret
  exact ⟨ze, zb HB⟩

/-! ### impl_FrameOk: function 87 -/
-- thin
def impl_FrameOk.f (a0_0 : Int) (a0_1 : Bool) (a0_2 : Int) (a0_3 : ByteArray) : Option (Bool) := if a0_0 = 8 then (if a0_2 = 0 then (if a0_1 = true then (some false) else (if (a0_3.size : Int) = 1 then (if 0 < (a0_3.size : Int) then ((impl_in.f (wrap64 (bt a0_3 0)) 1 31).bind fun t422 => (some t422)) else (none)) else (some false))) else ((impl_isStream.f a0_2).bind fun t423 => (if t423 = true then (if a0_1 = true then (some false) else (if (a0_3.size : Int) = 1 then (if 0 < (a0_3.size : Int) then ((impl_in.f (wrap64 (bt a0_3 0)) 1 31).bind fun t424 => (some t424)) else (none)) else (some false))) else (some false)))) else ((impl_isStream.f a0_2).bind fun t425 => (if t425 = true then (if a0_0 = 0 then (some (decide ((a0_3.size : Int) ≤ 200))) else (if a0_0 = 1 then (some (decide ((a0_3.size : Int) ≤ 200))) else (if a0_0 = 3 then (if a0_3.toList = ([] : List UInt8) then (some (!a0_1)) else (some false)) else (some false)))) else (some false)))
set_option maxHeartbeats 8000000 in
set_option maxRecDepth 100000 in
theorem impl_FrameOk.calls (a0_0 : Int) (a0_1 : Bool) (a0_2 : Int) (a0_3 : ByteArray) (r : Bool) (w : World) (h : impl_FrameOk.f a0_0 a0_1 a0_2 a0_3 = some r) :
  Calls Try.prog 87 #[.agg #[.int .i64 a0_0, .bool a0_1, .int .i64 a0_2, .string a0_3]] w fun e w' => e = .returned (.bool r) ∧ Below w.heap.size w w' := by
 have hu110 := Try.underlying110
 have HB := Aside0.mk (Below.refl w.heap.size w)
 have H : (if a0_0 = 8 then (if a0_2 = 0 then (if a0_1 = true then (some false) else (if (a0_3.size : Int) = 1 then (if 0 < (a0_3.size : Int) then ((impl_in.f (wrap64 (bt a0_3 0)) 1 31).bind fun t422 => (some t422)) else (none)) else (some false))) else ((impl_isStream.f a0_2).bind fun t423 => (if t423 = true then (if a0_1 = true then (some false) else (if (a0_3.size : Int) = 1 then (if 0 < (a0_3.size : Int) then ((impl_in.f (wrap64 (bt a0_3 0)) 1 31).bind fun t424 => (some t424)) else (none)) else (some false))) else (some false)))) else ((impl_isStream.f a0_2).bind fun t425 => (if t425 = true then (if a0_0 = 0 then (some (decide ((a0_3.size : Int) ≤ 200))) else (if a0_0 = 1 then (some (decide ((a0_3.size : Int) ≤ 200))) else (if a0_0 = 3 then (if a0_3.toList = ([] : List UInt8) then (some (!a0_1)) else (some false)) else (some false)))) else (some false)))) = some r := h
 clear h
 replace H := sp H
 rcases H with ⟨c2, H⟩ | ⟨c2, H⟩
 ·skip
  have c2b0 : (a0_0 == 8) = true := beq_iff_eq.mpr c2
  have c2b1 : (a0_0 != 8) = false := bne_eq_false_iff_eq.mpr c2
  clear c2
  by_cases c3 : a0_2 = 0
  ·rw [if_pos c3] at H
   have c3b0 : (a0_2 == 0) = true := beq_iff_eq.mpr c3
   have c3b1 : (a0_2 != 0) = false := bne_eq_false_iff_eq.mpr c3
   clear c3
   by_cases c4 : a0_1 = true
   ·subst c4
    rw [if_pos rfl] at H
    obtain rfl := Option.some.inj H
    go_enter Try.func87, Try.ntmps87
    go_wp2_with (first | ((with_reducible refine gd 1 rfl ?_); (try (refine gate_guard (by rfl) ?_; dsimp only)); refine bx (N := 1) (cs := #[.int .i64 a0_0, .bool true, .int .i64 a0_2, .string a0_3]) (t := 110) ?_; intro gb421 hg w5 hbox hb; have BK421 := Aside0.mk (hbox); have GW421 := gw HB hg; have GE421 := GW421; replace HB := Aside0.mk (below_step (zb HB) hb); clear hb hbox hg; obtain ⟨hcz6_0, hcz6_1, hcz6_2, hcz6_3, hfz6_0, hfz6_1, hfz6_2, hfz6_3⟩ := c4 BK421))
    go_ret
    exact ⟨ze, zb HB⟩
   ·replace c4 := Bool.eq_false_iff.mpr c4
    subst c4
    rw [if_neg (show ¬ (false = true) by decide)] at H
    by_cases c7 : (a0_3.size : Int) = 1
    ·rw [if_pos c7] at H
     have c7b0 : ((a0_3.size : Int) == 1) = true := beq_iff_eq.mpr c7
     have c7b1 : ((a0_3.size : Int) != 1) = false := bne_eq_false_iff_eq.mpr c7
     clear c7
     by_cases c8 : 0 < (a0_3.size : Int)
     ·rw [if_pos c8] at H
      have c8b0 := decide_eq_true c8
      have c8b1 := decide_eq_true (by omega)
      clear c8
      obtain ⟨t422, A10, H⟩ := ob H
      (try dsimp only at H)
      obtain rfl := Option.some.inj H
      go_enter Try.func87, Try.ntmps87
      go_wp2_with (first | ((with_reducible refine gd 1 rfl ?_); (try (refine gate_guard (by rfl) ?_; dsimp only)); refine bx (N := 1) (cs := #[.int .i64 a0_0, .bool false, .int .i64 a0_2, .string a0_3]) (t := 110) ?_; intro gb421 hg w11 hbox hb; have BK421 := Aside0.mk (hbox); have GW421 := gw HB hg; have GE421 := GW421; replace HB := Aside0.mk (below_step (zb HB) hb); clear hb hbox hg; obtain ⟨hcz12_0, hcz12_1, hcz12_2, hcz12_3, hfz12_0, hfz12_1, hfz12_2, hfz12_3⟩ := c4 BK421; have p9 : 0 ≤ (0 : Int) := (by omega); have q9 : 0 < a0_3.size := (by have : (0 : Int) < (a0_3.size : Int) := of_decide_eq_true za; omega); have hx9 : ∀ h : 0 < a0_3.size, ((a0_3[0]'h).toNat : Int) = bt a0_3 0 := bt_at a0_3 0; clear p9; have qi9 : (0 < (a0_3.size : Int)) = True := eq_true (of_decide_eq_true za); replace q9 := eq_true q9) | (go_at_call 61; (with_reducible refine (impl_in.calls (wrap64 (bt a0_3 0)) 1 31 t422 _ A10.out).mono ?_); rintro e w' ⟨rfl, ⟨nd, rfl⟩⟩))
      go_ret
      exact ⟨ze, zb HB⟩
     ·rw [if_neg c8] at H
      exact absurd H (by simp)
    ·rw [if_neg c7] at H
     have c7b0 : ((a0_3.size : Int) == 1) = false := beq_eq_false_iff_ne.mpr c7
     have c7b1 : ((a0_3.size : Int) != 1) = true := bne_iff_ne.mpr c7
     obtain rfl := Option.some.inj H
     go_enter Try.func87, Try.ntmps87
     go_wp2_with (first | ((with_reducible refine gd 1 rfl ?_); (try (refine gate_guard (by rfl) ?_; dsimp only)); refine bx (N := 1) (cs := #[.int .i64 a0_0, .bool false, .int .i64 a0_2, .string a0_3]) (t := 110) ?_; intro gb421 hg w13 hbox hb; have BK421 := Aside0.mk (hbox); have GW421 := gw HB hg; have GE421 := GW421; replace HB := Aside0.mk (below_step (zb HB) hb); clear hb hbox hg; obtain ⟨hcz14_0, hcz14_1, hcz14_2, hcz14_3, hfz14_0, hfz14_1, hfz14_2, hfz14_3⟩ := c4 BK421))
     go_ret
     exact ⟨ze, zb HB⟩
  ·rw [if_neg c3] at H
   have c3b0 : (a0_2 == 0) = false := beq_eq_false_iff_ne.mpr c3
   have c3b1 : (a0_2 != 0) = true := bne_iff_ne.mpr c3
   obtain ⟨t423, A15, H⟩ := ob H
   (try dsimp only at H)
   by_cases c16 : t423 = true
   ·subst c16
    rw [if_pos rfl] at H
    by_cases c17 : a0_1 = true
    ·subst c17
     rw [if_pos rfl] at H
     obtain rfl := Option.some.inj H
     go_enter Try.func87, Try.ntmps87
     go_wp2_with (first | ((with_reducible refine gd 1 rfl ?_); (try (refine gate_guard (by rfl) ?_; dsimp only)); refine bx (N := 1) (cs := #[.int .i64 a0_0, .bool true, .int .i64 a0_2, .string a0_3]) (t := 110) ?_; intro gb421 hg w18 hbox hb; have BK421 := Aside0.mk (hbox); have GW421 := gw HB hg; have GE421 := GW421; replace HB := Aside0.mk (below_step (zb HB) hb); clear hb hbox hg; obtain ⟨hcz19_0, hcz19_1, hcz19_2, hcz19_3, hfz19_0, hfz19_1, hfz19_2, hfz19_3⟩ := c4 BK421) | (go_at_call 83; (with_reducible refine (impl_isStream.calls a0_2 true _ A15.out).mono ?_); rintro e w' ⟨rfl, ⟨nd, rfl⟩⟩))
     go_ret
     exact ⟨ze, zb HB⟩
    ·replace c17 := Bool.eq_false_iff.mpr c17
     subst c17
     rw [if_neg (show ¬ (false = true) by decide)] at H
     by_cases c20 : (a0_3.size : Int) = 1
     ·rw [if_pos c20] at H
      have c20b0 : ((a0_3.size : Int) == 1) = true := beq_iff_eq.mpr c20
      have c20b1 : ((a0_3.size : Int) != 1) = false := bne_eq_false_iff_eq.mpr c20
      clear c20
      by_cases c21 : 0 < (a0_3.size : Int)
      ·rw [if_pos c21] at H
       have c21b0 := decide_eq_true c21
       have c21b1 := decide_eq_true (by omega)
       clear c21
       obtain ⟨t424, A23, H⟩ := ob H
       (try dsimp only at H)
       obtain rfl := Option.some.inj H
       go_enter Try.func87, Try.ntmps87
       go_wp2_with (first | ((with_reducible refine gd 1 rfl ?_); (try (refine gate_guard (by rfl) ?_; dsimp only)); refine bx (N := 1) (cs := #[.int .i64 a0_0, .bool false, .int .i64 a0_2, .string a0_3]) (t := 110) ?_; intro gb421 hg w24 hbox hb; have BK421 := Aside0.mk (hbox); have GW421 := gw HB hg; have GE421 := GW421; replace HB := Aside0.mk (below_step (zb HB) hb); clear hb hbox hg; obtain ⟨hcz25_0, hcz25_1, hcz25_2, hcz25_3, hfz25_0, hfz25_1, hfz25_2, hfz25_3⟩ := c4 BK421) | (go_at_call 83; (with_reducible refine (impl_isStream.calls a0_2 true _ A15.out).mono ?_); rintro e w' ⟨rfl, ⟨nd, rfl⟩⟩; have p22 : 0 ≤ (0 : Int) := (by omega); have q22 : 0 < a0_3.size := (by have : (0 : Int) < (a0_3.size : Int) := of_decide_eq_true za; omega); have hx22 : ∀ h : 0 < a0_3.size, ((a0_3[0]'h).toNat : Int) = bt a0_3 0 := bt_at a0_3 0; clear p22; have qi22 : (0 < (a0_3.size : Int)) = True := eq_true (of_decide_eq_true za); replace q22 := eq_true q22) | (go_at_call 61; (with_reducible refine (impl_in.calls (wrap64 (bt a0_3 0)) 1 31 t424 _ A23.out).mono ?_); rintro e w' ⟨rfl, ⟨nd, rfl⟩⟩))
       go_ret
       exact ⟨ze, zb HB⟩
      ·rw [if_neg c21] at H
       exact absurd H (by simp)
     ·rw [if_neg c20] at H
      have c20b0 : ((a0_3.size : Int) == 1) = false := beq_eq_false_iff_ne.mpr c20
      have c20b1 : ((a0_3.size : Int) != 1) = true := bne_iff_ne.mpr c20
      obtain rfl := Option.some.inj H
      go_enter Try.func87, Try.ntmps87
      go_wp2_with (first | ((with_reducible refine gd 1 rfl ?_); (try (refine gate_guard (by rfl) ?_; dsimp only)); refine bx (N := 1) (cs := #[.int .i64 a0_0, .bool false, .int .i64 a0_2, .string a0_3]) (t := 110) ?_; intro gb421 hg w26 hbox hb; have BK421 := Aside0.mk (hbox); have GW421 := gw HB hg; have GE421 := GW421; replace HB := Aside0.mk (below_step (zb HB) hb); clear hb hbox hg; obtain ⟨hcz27_0, hcz27_1, hcz27_2, hcz27_3, hfz27_0, hfz27_1, hfz27_2, hfz27_3⟩ := c4 BK421) | (go_at_call 83; (with_reducible refine (impl_isStream.calls a0_2 true _ A15.out).mono ?_); rintro e w' ⟨rfl, ⟨nd, rfl⟩⟩))
      go_ret
      exact ⟨ze, zb HB⟩
   ·replace c16 := Bool.eq_false_iff.mpr c16
    subst c16
    rw [if_neg (show ¬ (false = true) by decide)] at H
    obtain rfl := Option.some.inj H
    go_enter Try.func87, Try.ntmps87
    go_wp2_with (first | ((with_reducible refine gd 1 rfl ?_); (try (refine gate_guard (by rfl) ?_; dsimp only)); refine bx (N := 1) (cs := #[.int .i64 a0_0, .bool a0_1, .int .i64 a0_2, .string a0_3]) (t := 110) ?_; intro gb421 hg w28 hbox hb; have BK421 := Aside0.mk (hbox); have GW421 := gw HB hg; have GE421 := GW421; replace HB := Aside0.mk (below_step (zb HB) hb); clear hb hbox hg; obtain ⟨hcz29_0, hcz29_1, hcz29_2, hcz29_3, hfz29_0, hfz29_1, hfz29_2, hfz29_3⟩ := c4 BK421) | (go_at_call 83; (with_reducible refine (impl_isStream.calls a0_2 false _ A15.out).mono ?_); rintro e w' ⟨rfl, ⟨nd, rfl⟩⟩))
    go_ret
    exact ⟨ze, zb HB⟩
 ·skip
  have c2b0 : (a0_0 == 8) = false := beq_eq_false_iff_ne.mpr c2
  have c2b1 : (a0_0 != 8) = true := bne_iff_ne.mpr c2
  obtain ⟨t425, A30, H⟩ := ob H
  (try dsimp only at H)
  have HC31 := Aside0.mk H
  clear H
  go_enter Try.func87, Try.ntmps87
  go_upto_if 35 with (first | ((with_reducible refine gd 1 rfl ?_); (try (refine gate_guard (by rfl) ?_; dsimp only)); refine bx (N := 1) (cs := #[.int .i64 a0_0, .bool a0_1, .int .i64 a0_2, .string a0_3]) (t := 110) ?_; intro gb421 hg w32 hbox hb; have BK421 := Aside0.mk (hbox); have GW421 := gw HB hg; have GE421 := GW421; replace HB := Aside0.mk (below_step (zb HB) hb); clear hb hbox hg; obtain ⟨hcz33_0, hcz33_1, hcz33_2, hcz33_3, hfz33_0, hfz33_1, hfz33_2, hfz33_3⟩ := c4 BK421) | ((with_reducible refine gq 83 rfl ?_); refine gl (some 34) Try.func83 #[.int .i64 a0_2] ?_; (with_reducible refine (impl_isStream.calls a0_2 t425 _ A30.out).mono ?_); rintro e w' ⟨rfl, ⟨nd, rfl⟩⟩; refine ⟨_, rfl, ?_⟩))
  (try simp only [Act.put, s1, s2, s3])
  have H := HC31.out
  clear HC31
  by_cases c34 : t425 = true
  ·subst c34
   rw [if_pos rfl] at H
   replace H := sp H
   rcases H with ⟨c35, H⟩ | ⟨c35, H⟩
   ·skip
    have c35b0 : (a0_0 == 0) = true := beq_iff_eq.mpr c35
    have c35b1 : (a0_0 != 0) = false := bne_eq_false_iff_eq.mpr c35
    clear c35
    (first | rw [c35b0] | rw [c35b1] | rw [c35b2] | (simp only [i64_w, i32_w]; rw [c35b0]) | skip)
    obtain rfl := Option.some.inj H
    obtain ⟨hcz36_0, hcz36_1, hcz36_2, hcz36_3, hfz36_0, hfz36_1, hfz36_2, hfz36_3⟩ := c4 BK421
    go_wp2
    go_ret
    exact ⟨ze, zb HB⟩
   ·skip
    have c35b0 : (a0_0 == 0) = false := beq_eq_false_iff_ne.mpr c35
    have c35b1 : (a0_0 != 0) = true := bne_iff_ne.mpr c35
    (first | rw [c35b0] | rw [c35b1] | rw [c35b2] | (simp only [i64_w, i32_w]; rw [c35b0]) | skip)
    replace H := sp H
    rcases H with ⟨c37, H⟩ | ⟨c37, H⟩
    ·skip
     have c37b0 : (a0_0 == 1) = true := beq_iff_eq.mpr c37
     have c37b1 : (a0_0 != 1) = false := bne_eq_false_iff_eq.mpr c37
     clear c37
     obtain rfl := Option.some.inj H
     obtain ⟨hcz38_0, hcz38_1, hcz38_2, hcz38_3, hfz38_0, hfz38_1, hfz38_2, hfz38_3⟩ := c4 BK421
     go_wp2
     go_ret
     exact ⟨ze, zb HB⟩
    ·skip
     have c37b0 : (a0_0 == 1) = false := beq_eq_false_iff_ne.mpr c37
     have c37b1 : (a0_0 != 1) = true := bne_iff_ne.mpr c37
     replace H := sp H
     rcases H with ⟨c39, H⟩ | ⟨c39, H⟩
     ·skip
      have c39b0 : (a0_0 == 3) = true := beq_iff_eq.mpr c39
      have c39b1 : (a0_0 != 3) = false := bne_eq_false_iff_eq.mpr c39
      clear c39
      by_cases c40 : a0_3.toList = ([] : List UInt8)
      ·rw [if_pos c40] at H
       have c40b0 : (a0_3.toList == ([] : List UInt8)) = true := beq_iff_eq.mpr c40
       have c40b1 : (a0_3.toList != ([] : List UInt8)) = false := bne_eq_false_iff_eq.mpr c40
       clear c40
       obtain rfl := Option.some.inj H
       obtain ⟨hcz41_0, hcz41_1, hcz41_2, hcz41_3, hfz41_0, hfz41_1, hfz41_2, hfz41_3⟩ := c4 BK421
       go_wp2
       go_ret
       exact ⟨ze, zb HB⟩
      ·rw [if_neg c40] at H
       have c40b0 : (a0_3.toList == ([] : List UInt8)) = false := beq_eq_false_iff_ne.mpr c40
       have c40b1 : (a0_3.toList != ([] : List UInt8)) = true := bne_iff_ne.mpr c40
       obtain rfl := Option.some.inj H
       obtain ⟨hcz42_0, hcz42_1, hcz42_2, hcz42_3, hfz42_0, hfz42_1, hfz42_2, hfz42_3⟩ := c4 BK421
       go_wp2
       go_ret
       exact ⟨ze, zb HB⟩
     ·skip
      have c39b0 : (a0_0 == 3) = false := beq_eq_false_iff_ne.mpr c39
      have c39b1 : (a0_0 != 3) = true := bne_iff_ne.mpr c39
      obtain rfl := Option.some.inj H
      obtain ⟨hcz43_0, hcz43_1, hcz43_2, hcz43_3, hfz43_0, hfz43_1, hfz43_2, hfz43_3⟩ := c4 BK421
      go_wp2
      go_ret
      exact ⟨ze, zb HB⟩
  ·replace c34 := Bool.eq_false_iff.mpr c34
   subst c34
   rw [if_neg (show ¬ (false = true) by decide)] at H
   obtain rfl := Option.some.inj H
   go_wp2
   go_ret
   exact ⟨ze, zb HB⟩

/-! ### impl_EndOk_1: function 86 -/
-- thin
def impl_EndOk_1.f (a0_0 : Int) (a0_1 : Bool) (a0_2 : Int) (a0_3 : ByteArray) : Option (Bool) := (impl_FrameOk.f a0_0 a0_1 a0_2 a0_3).bind fun t427 => (some (!t427))
set_option maxHeartbeats 8000000 in
set_option maxRecDepth 100000 in
theorem impl_EndOk_1.calls (a0_0 : Int) (a0_1 : Bool) (a0_2 : Int) (a0_3 : ByteArray) (r : Bool) (w : World) (h : impl_EndOk_1.f a0_0 a0_1 a0_2 a0_3 = some r) :
  Calls Try.prog 86 #[.agg #[.int .i64 a0_0, .bool a0_1, .int .i64 a0_2, .string a0_3]] w fun e w' => e = .returned (.bool r) ∧ Below w.heap.size w w' := by
 have hu110 := Try.underlying110
 have HB := Aside0.mk (Below.refl w.heap.size w)
 have H : ((impl_FrameOk.f a0_0 a0_1 a0_2 a0_3).bind fun t427 => (some (!t427))) = some r := h
 clear h
 obtain ⟨t427, A2, H⟩ := ob H
 (try dsimp only at H)
 obtain rfl := Option.some.inj H
 go_enter Try.func86, Try.ntmps86
 go_wp2_with (first | ((with_reducible refine gd 1 rfl ?_); refine bx (N := 1) (cs := #[.int .i64 a0_0, .bool a0_1, .int .i64 a0_2, .string a0_3]) (t := 110) ?_; intro gb426 hg w3 hbox hb; have BK426 := Aside0.mk (hbox); have GW426 := gw HB hg; have GE426 := GW426; replace HB := Aside0.mk (below_step (zb HB) hb); clear hb hbox hg; obtain ⟨hcz4_0, hcz4_1, hcz4_2, hcz4_3, hfz4_0, hfz4_1, hfz4_2, hfz4_3⟩ := c4 BK426) | ((with_reducible refine gq 87 rfl ?_); refine gl (some 4) Try.func87 #[.agg #[.int .i64 a0_0, .bool a0_1, .int .i64 a0_2, .string a0_3]] ?_; (with_reducible refine (impl_FrameOk.calls a0_0 a0_1 a0_2 a0_3 t427 _ A2.out).mono ?_); rintro e w5 ⟨rfl, hb⟩; refine ⟨_, rfl, ?_⟩; replace BK426 := kb BK426 hb; replace HB := Aside0.mk (below_step (zb HB) hb); (try clear hb)))
 go_ret
 exact ⟨ze, zb HB⟩

/-! ### IndexFunc_Frame: function 129 -/
-- by hand
theorem load_list_Frame (P : Program) (W : World) (a : Addr) (cs : List Value) (k : Nat) (hk : cs.length = k) (h : ∀ j v, cs[j]? = some v → W.cell? (a.add j) = some v) :
    Sem.run P (loadCellsFrom a 0 k #[]) W = .ok cs.toArray W := by
  have := run_loadCells_list (P := P) (w := W) a cs h
  rw [hk] at this
  exact this
/-- The first place, from i on, at which p says yes; -1, if there is none. -/
def idxFrom_Frame (p : S110 → Option Bool) : List (S110) → Int → Option Int
  | [], _ => some (-1)
  | x :: l, i => (p x).bind fun b => if b then some i else idxFrom_Frame p l (i + 1)
/-- What a predicate's value does when it is called. -/
def PredIs_Frame (P : Program) (g : Nat) (lb : Array Value) (p : S110 → Option Bool) (w : World) : Prop :=
  ∀ (W : World) (x : S110) (b : Bool), Below w.heap.size w W → p x = some b → Calls P g (#[.agg #[.int .i64 x.f0, .bool x.f1, .int .i64 x.f2, .string x.f3]] ++ lb) W fun e w' => e = .returned (.bool b) ∧ Below w.heap.size w w'
set_option maxHeartbeats 4000000 in
set_option maxRecDepth 100000 in
theorem IndexFunc_calls_Frame (g : Nat) (lb : Array Value) (p : S110 → Option Bool) (eg : ∀ args w, (callFunc g args).run Try.prog w = .ok (.enter g args) w) (A0 : Option Addr) (c0 : Nat) (l0 : List (S110)) (r : Int) (w : World) (hr0 : Kd.C k110 w A0 l0.length l0) (hc0 : l0.length ≤ c0)
    (hp : PredIs_Frame Try.prog g lb p w) (h : idxFrom_Frame p l0 0 = some r) (hl : l0.length ≤ 1000000000) :
    Calls Try.prog 129 #[.slice A0 l0.length c0, .func (.func g) #[] lb] w fun e w' => e = .returned (.int .i64 r) ∧ Below w.heap.size w w' := by
  have HR0 := Aside0.mk hr0
  have HP := Aside0.mk hp
  have H := Aside0.mk h
  clear hr0 hp h
  go_enter Try.func129, Try.ntmps129
  go_wp2
  go_loopg [5, 8] (l0.length) (fun kq v5 v8 w' => ∃ i : Nat, v8 = .int .i64 i ∧ Aside0 (kq + i = l0.length) ∧ Aside0 (idxFrom_Frame p (l0.drop i) i = some r) ∧ Aside0 (Below w.heap.size w w'))
  case atStart => exact ⟨0, rfl, ⟨by omega⟩, ⟨by simpa using H.out⟩, ⟨Below.refl _ _⟩⟩
  case round =>
    obtain ⟨i, rfl, HK, HX, HB⟩ := hrel
    have hk := HK.out
    by_cases hj : i < l0.length
    · have h0 : (0 : Int) ≤ (i : Int) := by omega
      have h1 : (i : Int) < (l0.length : Int) := by omega
      obtain ⟨x, hx⟩ : ∃ x, l0[i]? = some x := ⟨_, List.getElem?_eq_getElem hj⟩
      have hdrop : l0.drop i = x :: l0.drop (i + 1) := by
        rw [List.drop_eq_getElem_cons hj]
        rw [List.getElem?_eq_getElem hj] at hx
        rw [Option.some.inj hx]
      obtain ⟨_, _, hrd⟩ := Kd.C_below HR0.out HB.out
      obtain ⟨ad, e1, hcell⟩ := hrd (by omega)
      obtain ⟨c, hc1, hc2, hc3⟩ := hcell i x hx
      have hc4 := k110_open hc2
      subst hc4
      subst e1
      have q0 : wr.cell? (ad.add (i * 4)) = some (.int .i64 x.f0) := by have h9 := hc3 0 _ rfl; exact h9
      have q1 : wr.cell? ⟨(ad.add (i * 4)).block, (ad.add (i * 4)).off + 1, none⟩ = some (.bool x.f1) := by have h9 := hc3 1 _ rfl; rw [← Go.Addr.add_add] at h9; exact h9
      have q2 : wr.cell? ⟨(ad.add (i * 4)).block, (ad.add (i * 4)).off + 2, none⟩ = some (.int .i64 x.f2) := by have h9 := hc3 2 _ rfl; rw [← Go.Addr.add_add] at h9; exact h9
      have q3 : wr.cell? ⟨(ad.add (i * 4)).block, (ad.add (i * 4)).off + 3, none⟩ = some (.string x.f3) := by have h9 := hc3 3 _ rfl; rw [← Go.Addr.add_add] at h9; exact h9
      have hX := HX.out
      rw [hdrop, idxFrom_Frame] at hX
      obtain ⟨b, hb1, hb2⟩ := Option.bind_eq_some_iff.1 hX
      have hcall := HP.out wr x b HB.out hb1
      have HX2 := Aside0.mk hb2
      cases gk with
      | zero => omega
      | succ k1 =>
      clear hk hX hb2 hrd hcell hc1 hc2 hc3 hdrop
      cases b with
      | true =>
        go_wp2_with (go_at_fn g; refine hcall.mono ?_; rintro e w' ⟨rfl, hb'⟩)
        go_ret
        have h9 : some (i : Int) = some r := by simpa using HX2.out
        exact ⟨by rw [← Option.some.inj h9]; rfl, hb'⟩
      | false =>
        go_wp2_with (go_at_fn g; refine hcall.mono ?_; rintro e w' ⟨rfl, hb'⟩)
        go_roundg k1
        case measure => have := HK.out; omega
        case rel =>
          refine ⟨i + 1, by go_num, ⟨by have := HK.out; omega⟩, ⟨?_⟩, ⟨hb'⟩⟩
          have h9 := HX2.out
          rw [if_neg (by decide)] at h9
          rw [show ((i + 1 : Nat) : Int) = (i : Int) + 1 by omega]
          exact h9
    · have e : i = l0.length := by omega
      have hltz : ¬ (i : Int) < (l0.length : Int) := by omega
      clear hk hj
      have HE := Aside0.mk e
      clear e
      go_wp2
      go_ret
      have e := HE.out
      subst e
      have hX := HX.out
      rw [List.drop_length, idxFrom_Frame] at hX
      exact ⟨by rw [← Option.some.inj hX]; rfl, HB.out⟩

/-! ### ContainsFunc_Frame: function 85 -/
-- by hand
set_option maxHeartbeats 4000000 in
set_option maxRecDepth 100000 in
theorem ContainsFunc_calls_Frame (g : Nat) (lb : Array Value) (p : S110 → Option Bool) (eg : ∀ args w, (callFunc g args).run Try.prog w = .ok (.enter g args) w) (A0 : Option Addr) (c0 : Nat) (l0 : List (S110)) (r : Int) (w : World) (hr0 : Kd.C k110 w A0 l0.length l0) (hc0 : l0.length ≤ c0)
    (hp : PredIs_Frame Try.prog g lb p w) (h : idxFrom_Frame p l0 0 = some r) (hl : l0.length ≤ 1000000000) :
    Calls Try.prog 85 #[.slice A0 l0.length c0, .func (.func g) #[] lb] w fun e w' => e = .returned (.bool (decide (0 ≤ r))) ∧ Below w.heap.size w w' := by
  go_enter Try.func85, Try.ntmps85
  go_wp2_with (go_at_call 129; refine (IndexFunc_calls_Frame g lb p eg A0 c0 l0 r _ hr0 hc0 hp h hl).mono ?_; rintro e w' ⟨rfl, hb'⟩)
  go_ret
  exact ⟨rfl, hb'⟩
/-- What function g says of a field. -/
def ContainsFunc_Frame.p (k : Nat) (g : Nat) (x : S110) : Option Bool := if g = 86 then impl_EndOk_1.f x.f0 x.f1 x.f2 x.f3 else none
def ContainsFunc_Frame.known (g : Nat) : Prop := g = 86 ∨ False
instance (g : Nat) : Decidable (ContainsFunc_Frame.known g) := by unfold ContainsFunc_Frame.known; infer_instance
def ContainsFunc_Frame.f (k : Nat) (l0 : List (S110)) (a1 : Nat) : Option Bool :=
  if l0.length ≤ 1000000000 ∧ ContainsFunc_Frame.known a1 then (idxFrom_Frame (ContainsFunc_Frame.p k a1) l0 0).bind fun r => some (decide (0 ≤ r)) else none
theorem idxFrom_mono_Frame {p q : S110 → Option Bool} (hpq : ∀ x, LeO (p x) (q x)) : ∀ (l : List (S110)) (i : Int), LeO (idxFrom_Frame p l i) (idxFrom_Frame q l i)
  | [], _ => fun r h => h
  | x :: l, i => by
    intro r h
    unfold idxFrom_Frame at h ⊢
    obtain ⟨b, hb, hr⟩ := Option.bind_eq_some_iff.1 h
    rw [hpq x b hb]
    simp only [Option.bind_some]
    cases b with
    | true => exact hr
    | false => exact idxFrom_mono_Frame hpq l (i + 1) r hr
theorem ContainsFunc_Frame.p_mono (k g : Nat) (x : S110) : LeO (ContainsFunc_Frame.p k g x) (ContainsFunc_Frame.p (k + 1) g x) := by
  unfold ContainsFunc_Frame.p
  refine LeO.ite (LeO.refl _) ?_
  exact LeO.refl _
theorem ContainsFunc_Frame.mono : ∀ a0 a1 k, LeO (ContainsFunc_Frame.f k a0 a1) (ContainsFunc_Frame.f (k + 1) a0 a1) := by
  intro a0 a1 k
  unfold ContainsFunc_Frame.f
  refine LeO.ite ?_ (LeO.refl _)
  exact LeO.bind (idxFrom_mono_Frame (fun x => ContainsFunc_Frame.p_mono k a1 x) a0 0) (fun _ => LeO.refl _)
theorem ContainsFunc_Frame.enters (a1 : Nat) (h : ContainsFunc_Frame.known a1) : ∀ args w, (callFunc a1 args).run Try.prog w = .ok (.enter a1 args) w := by
  unfold ContainsFunc_Frame.known at h
  rcases h with e | h
  · subst e; exact enters_of Try.func86 (by kernel_rfl) rfl
  cases h
theorem ContainsFunc_Frame.pred (k a1 : Nat) (w : World) : PredIs_Frame Try.prog a1 #[] (ContainsFunc_Frame.p k a1) w := by
  intro W x b hW h
  unfold ContainsFunc_Frame.p at h
  split at h
  · rename_i e; subst e; rw [Array.append_empty]; exact (impl_EndOk_1.calls x.f0 x.f1 x.f2 x.f3 b W h).mono fun e w2 h2 => ⟨h2.1, below_step hW h2.2⟩
  cases h
set_option maxHeartbeats 4000000 in
set_option maxRecDepth 100000 in
theorem ContainsFunc_Frame.calls (k : Nat) (A0 : Option Addr) (c0 : Nat) (l0 : List (S110)) (a1 : Nat) (r : Bool) (w : World) (hr0 : Kd.C k110 w A0 l0.length l0) (hc0 : l0.length ≤ c0) (h : ContainsFunc_Frame.f k l0 a1 = some r) :
    Calls Try.prog 85 #[.slice A0 l0.length c0, .func (.func a1) #[] #[]] w fun e w' => e = .returned (.bool r) ∧ Below w.heap.size w w' := by
  unfold ContainsFunc_Frame.f at h
  split at h
  case isFalse => cases h
  rename_i hl
  obtain ⟨i, hi, hr⟩ := Option.bind_eq_some_iff.1 h
  obtain rfl := Option.some.inj hr
  exact ContainsFunc_calls_Frame a1 #[] _ (ContainsFunc_Frame.enters a1 hl.2) A0 c0 _ i w hr0 hc0 (ContainsFunc_Frame.pred k a1 w) hi hl.1

end Go.Proofs.Ytlpibelofcabhaa.PFnExactEndLeave
