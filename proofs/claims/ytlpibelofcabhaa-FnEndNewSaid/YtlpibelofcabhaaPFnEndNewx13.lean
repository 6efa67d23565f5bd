-- WRITTEN BY a turned print (wip/tools of the prover's repo)
import Derived.Test.YtlpibelofcabhaaPFnEndNewx0
import Derived.Test.YtlpibelofcabhaaPFnEndNewx4
import Derived.Test.YtlpibelofcabhaaPFnEndNewx6
import Derived.Test.YtlpibelofcabhaaPFnEndNewx9
import Derived.Test.YtlpibelofcabhaaPFnEndNewx12
namespace Go.Proofs.Ytlpibelofcabhaa.PFnEndNew
open Go.RowKit Go.Proofs.YtlpibelofcabhaaW.PrintWords Go.Proofs.YtlpibelofcabhaaW.PrintLast Go.Proofs.YtlpibelofcabhaaW.PrintMore Go.Proofs.Ytlpibelofcabhaa.Lm
attribute [local go_sem] max2_int min2_int max_two min_two max_three min_three max_four min_four   -- for this text's walks alone
set_option linter.unusedVariables false
set_option linter.unusedSimpArgs false

/-! ### laws_FnEndNew: function 6 -/
-- thin
def laws_FnEndNew.f (k : Nat) (l0 : List Int) : Option (Bool) := if (l0.length : Int) > 1048576 then (some true) else ((spec_DrawEndNew.f k l0).bind fun t327 => ((impl_EndNew.f t327).bind fun bt328 => ((spec_EndNew.f t327).bind fun bt348 => ((laws_lkEnd.f k bt328.1 bt328.2.1 bt328.2.2.1 bt328.2.2.2.1 bt328.2.2.2.2.1 bt328.2.2.2.2.2.1 bt328.2.2.2.2.2.2.1 bt328.2.2.2.2.2.2.2.1 bt328.2.2.2.2.2.2.2.2.1 bt328.2.2.2.2.2.2.2.2.2.1 bt328.2.2.2.2.2.2.2.2.2.2 bt348.1 bt348.2.1 bt348.2.2.1 bt348.2.2.2.1 bt348.2.2.2.2.1 bt348.2.2.2.2.2.1 bt348.2.2.2.2.2.2.1 bt348.2.2.2.2.2.2.2.1 bt348.2.2.2.2.2.2.2.2.1 bt348.2.2.2.2.2.2.2.2.2.1 bt348.2.2.2.2.2.2.2.2.2.2).bind fun t367 => (if t367 = true then ((impl_EndWrite.f k bt328.1 bt328.2.1 bt328.2.2.1 bt328.2.2.2.1 bt328.2.2.2.2.1 bt328.2.2.2.2.2.1 bt328.2.2.2.2.2.2.1 bt328.2.2.2.2.2.2.2.1 bt328.2.2.2.2.2.2.2.2.1 bt328.2.2.2.2.2.2.2.2.2.1 bt328.2.2.2.2.2.2.2.2.2.2).bind fun bt368 => ((impl_EndOk.f k bt328.1 bt328.2.1 bt328.2.2.1 bt328.2.2.2.1 bt328.2.2.2.2.1 bt328.2.2.2.2.2.1 bt328.2.2.2.2.2.2.1 bt328.2.2.2.2.2.2.2.1 bt328.2.2.2.2.2.2.2.2.1 bt328.2.2.2.2.2.2.2.2.2.1 bt328.2.2.2.2.2.2.2.2.2.2).bind fun t389 => (if t389 = true then (if (bt328.1 == t327) = true then (if bt368.2.2.2.2.2.2.2.2.2.2.2.toList = ([] : List UInt8) then ((laws_lkEnd.f k bt368.1 bt368.2.1 bt368.2.2.1 bt368.2.2.2.1 bt368.2.2.2.2.1 bt368.2.2.2.2.2.1 bt368.2.2.2.2.2.2.1 bt368.2.2.2.2.2.2.2.1 bt368.2.2.2.2.2.2.2.2.1 bt368.2.2.2.2.2.2.2.2.2.1 bt368.2.2.2.2.2.2.2.2.2.2.1 bt328.1 bt328.2.1 bt328.2.2.1 bt328.2.2.2.1 bt328.2.2.2.2.1 bt328.2.2.2.2.2.1 bt328.2.2.2.2.2.2.1 bt328.2.2.2.2.2.2.2.1 bt328.2.2.2.2.2.2.2.2.1 bt328.2.2.2.2.2.2.2.2.2.1 bt328.2.2.2.2.2.2.2.2.2.2).bind fun t390 => (if t390 = true then (if bt328.2.2.2.2.2.2.2.2.2.2 = true then (some false) else (if (bt328.2.2.2.2.2.2.1.length : Int) = 0 then ((impl_TableSize.f k bt328.2.1 bt328.2.2.1).bind fun t391 => ((impl_TableSize.f k bt328.2.2.2.1 bt328.2.2.2.2.1).bind fun t392 => (some ((wrap64 (t391 + t392)) == 0)))) else (some false))) else (some false))) else (some false)) else (some false)) else (some false)))) else (some false))))))
theorem laws_FnEndNew.mono : ∀ a0 k, LeO (laws_FnEndNew.f k a0) (laws_FnEndNew.f (k + 1) a0) := by
 intro a0 k
 unfold laws_FnEndNew.f
 have m0 := @impl_EndOk.mono
 have m1 := @impl_EndWrite.mono
 have m2 := @impl_TableSize.mono
 have m3 := @laws_lkEnd.mono
 have m4 := @spec_DrawEndNew.mono
 exact zm
def laws_FnEndNew.T8 : Bool × List (List Nat × List Nat) := (true, [([], []), ([0], [0]), ([1, 1], [1]), ([2], [2]), ([3, 2], [2, 3]), ([2], [2]), ([4, 5, 2], [2, 4, 5]), ([2, 6], [2, 6]), ([7, 2], [7]), ([8], [8]), ([9, 8], [8, 9]), ([8, 10], [8, 10]), ([11, 8], [11]), ([12], [12]), ([12], [12]), ([13, 14, 12, 12], [12, 13, 14]), ([12, 15], [12, 15]), ([16, 15], [16]), ([17], [17]), ([18, 17], [17, 18]), ([19, 17], [17, 19]), ([17, 20], [17, 20]), ([21, 17], [21]), ([22], [22]), ([23, 22], [22, 23]), ([24, 22], [22, 24]), ([25, 22], [22, 25]), ([22, 26], [22, 26]), ([27, 22], [27]), ([28], [28]), ([29, 28], [28, 29]), ([30, 28, 28], [28, 30]), ([28], [28]), ([32, 28], [28, 32]), ([33, 31, 28], [28, 33]), ([31, 34, 28], [28, 31, 34]), ([35, 28], [28, 35]), ([28, 36], [28, 36]), ([37, 34, 0, 1, 2, 3, 4, 5, 6, 7, 8, 9, 10, 11, 12, 13, 14, 15, 16, 17, 18, 19, 20, 21, 22, 23, 24, 25, 26, 27, 28, 29, 30, 31, 32, 33, 34, 35, 36, 37], [37])])
def laws_FnEndNew.B8 : List Nat := [0, 1, 3, 7, 15, 7, 63, 127, 255, 511, 1023, 2047, 4095, 8191, 8191, 32767, 65535, 131071, 262143, 524287, 1048575, 2097151, 4194303, 8388607, 16777215, 33554431, 67108863, 134217727, 268435455, 536870911, 1073741823, 2147483647, 536870911, 4831838207, 17179869183, 34359738367, 68719476735, 137438953471, 274877906943]
theorem laws_FnEndNew.tab8 : rtab .any (opsOf Try.f6 8) = laws_FnEndNew.T8 := by kernel_rfl
theorem laws_FnEndNew.bits8 : waitsOk laws_FnEndNew.T8.2 laws_FnEndNew.B8 = true := by kernel_rfl
set_option maxHeartbeats 8000000 in
set_option maxRecDepth 100000 in
theorem laws_FnEndNew.calls (k : Nat) (A0 : Option Addr) (c0 : Nat) (l0 : List Int) (r : Bool) (w : World) (hr0 : Kd.C (Kd.int .u8) w A0 l0.length l0) (hc0 : l0.length ≤ c0) (h : laws_FnEndNew.f k l0 = some r) :
  Calls Try.prog 6 #[.slice A0 l0.length c0] w fun e w' => e = .returned (.bool r) ∧ Below w.heap.size w w' := by
 have hu42 := Try.underlying42
 have hu25 := Try.underlying25
 have HR0 := Aside0.mk hr0
 have HC0 := Aside0.mk hc0
 clear hr0 hc0
 have HB := Aside0.mk (Below.refl w.heap.size w)
 have H : (if (l0.length : Int) > 1048576 then (some true) else ((spec_DrawEndNew.f k l0).bind fun t327 => ((impl_EndNew.f t327).bind fun bt328 => ((spec_EndNew.f t327).bind fun bt348 => ((laws_lkEnd.f k bt328.1 bt328.2.1 bt328.2.2.1 bt328.2.2.2.1 bt328.2.2.2.2.1 bt328.2.2.2.2.2.1 bt328.2.2.2.2.2.2.1 bt328.2.2.2.2.2.2.2.1 bt328.2.2.2.2.2.2.2.2.1 bt328.2.2.2.2.2.2.2.2.2.1 bt328.2.2.2.2.2.2.2.2.2.2 bt348.1 bt348.2.1 bt348.2.2.1 bt348.2.2.2.1 bt348.2.2.2.2.1 bt348.2.2.2.2.2.1 bt348.2.2.2.2.2.2.1 bt348.2.2.2.2.2.2.2.1 bt348.2.2.2.2.2.2.2.2.1 bt348.2.2.2.2.2.2.2.2.2.1 bt348.2.2.2.2.2.2.2.2.2.2).bind fun t367 => (if t367 = true then ((impl_EndWrite.f k bt328.1 bt328.2.1 bt328.2.2.1 bt328.2.2.2.1 bt328.2.2.2.2.1 bt328.2.2.2.2.2.1 bt328.2.2.2.2.2.2.1 bt328.2.2.2.2.2.2.2.1 bt328.2.2.2.2.2.2.2.2.1 bt328.2.2.2.2.2.2.2.2.2.1 bt328.2.2.2.2.2.2.2.2.2.2).bind fun bt368 => ((impl_EndOk.f k bt328.1 bt328.2.1 bt328.2.2.1 bt328.2.2.2.1 bt328.2.2.2.2.1 bt328.2.2.2.2.2.1 bt328.2.2.2.2.2.2.1 bt328.2.2.2.2.2.2.2.1 bt328.2.2.2.2.2.2.2.2.1 bt328.2.2.2.2.2.2.2.2.2.1 bt328.2.2.2.2.2.2.2.2.2.2).bind fun t389 => (if t389 = true then (if (bt328.1 == t327) = true then (if bt368.2.2.2.2.2.2.2.2.2.2.2.toList = ([] : List UInt8) then ((laws_lkEnd.f k bt368.1 bt368.2.1 bt368.2.2.1 bt368.2.2.2.1 bt368.2.2.2.2.1 bt368.2.2.2.2.2.1 bt368.2.2.2.2.2.2.1 bt368.2.2.2.2.2.2.2.1 bt368.2.2.2.2.2.2.2.2.1 bt368.2.2.2.2.2.2.2.2.2.1 bt368.2.2.2.2.2.2.2.2.2.2.1 bt328.1 bt328.2.1 bt328.2.2.1 bt328.2.2.2.1 bt328.2.2.2.2.1 bt328.2.2.2.2.2.1 bt328.2.2.2.2.2.2.1 bt328.2.2.2.2.2.2.2.1 bt328.2.2.2.2.2.2.2.2.1 bt328.2.2.2.2.2.2.2.2.2.1 bt328.2.2.2.2.2.2.2.2.2.2).bind fun t390 => (if t390 = true then (if bt328.2.2.2.2.2.2.2.2.2.2 = true then (some false) else (if (bt328.2.2.2.2.2.2.1.length : Int) = 0 then ((impl_TableSize.f k bt328.2.1 bt328.2.2.1).bind fun t391 => ((impl_TableSize.f k bt328.2.2.2.1 bt328.2.2.2.2.1).bind fun t392 => (some ((wrap64 (t391 + t392)) == 0)))) else (some false))) else (some false))) else (some false)) else (some false)) else (some false)))) else (some false))))))) = some r := h
 clear h
 replace H := sp H
 rcases H with ⟨c2, H⟩ | ⟨c2, H⟩
 ·skip
  have c2b0 := decide_eq_true c2
  have c2b1 := decide_eq_true (by omega)
  clear c2
  obtain rfl := Option.some.inj H
  go_enter Try.func6, Try.ntmps6
  go_wp2
  go_ret
  exact ⟨ze, zb HB⟩
 ·skip
  have c2b0 := decide_eq_false c2
  have c2b1 := decide_eq_false (by omega)
  clear c2
  obtain ⟨t327, A3, H⟩ := ob H
  (try dsimp only at H)
  obtain ⟨⟨t328, t329, t332, t333, t336, t337, t338, t341, t342, t343, t346⟩, A4, H⟩ := ob H
  (try dsimp only at H)
  obtain ⟨⟨t348, t349, t352, t353, t356, t357, t358, t361, t362, t363, t366⟩, A5, H⟩ := ob H
  (try dsimp only at H)
  obtain ⟨t367, A6, H⟩ := ob H
  (try dsimp only at H)
  have HC7 := Aside0.mk H
  clear H
  go_enter Try.func6, Try.ntmps6
  try go_wp2_with (first | ((with_reducible refine gq 30 rfl ?_); refine gl (some 11) Try.func30 #[.slice A0 l0.length c0] ?_; (with_reducible refine (spec_DrawEndNew.calls k _ _ l0 t327 _ ?side1 ?side2 A3.out).mono ?_); (case side1 => exact zc HR0.out); (case side2 => exact HC0.out); rintro e w8 ⟨rfl, hb⟩; refine ⟨_, rfl, ?_⟩; replace HB := Aside0.mk (below_step (zb HB) hb); (try clear hb)) | ((with_reducible refine gq 21 rfl ?_); refine gl (some 13) Try.func21 #[.bool t327] ?_; (with_reducible refine (impl_EndNew.calls t327 t328 t329 t332 t333 t336 t337 t338 t341 t342 t343 t346 _ A4.out).mono ?_); rintro e w9 ⟨v330, v334, v339, v344, rfl, ho0, ho1, ho2, ho3, hb⟩; refine ⟨_, rfl, ?_⟩; have HO331 := Aside0.mk (Kd.R_lower ho0 (below_size (zb HB))); have HO335 := Aside0.mk (Kd.R_lower ho1 (below_size (zb HB))); have HO340 := Aside0.mk (Kd.S_lower ho2 (below_size (zb HB))); have HO345 := Aside0.mk (Kd.R_lower ho3 (below_size (zb HB))); replace HB := Aside0.mk (below_step (zb HB) hb); (try clear hb); (try clear ho0); (try clear ho1); (try clear ho2); (try clear ho3)) | ((with_reducible refine gd 4 rfl ?_); (try (refine gate_guard (by rfl) ?_; dsimp only)); refine bx (N := 4) (cs := #[.bool false, .slice none 0 0, .int .i64 0, .slice none 0 0, .int .i64 0, .string (⟨#[]⟩ : ByteArray), .slice none 0 0, .int .i64 0, .int .i64 0, .slice none 0 0, .bool false]) (t := 42) ?_; intro gb347 hg w10 hbox hb; replace HO331 := Aside0.mk (Kd.R_below (zr HO331) hb); replace HO335 := Aside0.mk (Kd.R_below (zr HO335) hb); replace HO340 := Aside0.mk (Kd.S_below (by (with_reducible repeat (first | apply Kd.S_alloc | apply Kd.S_drewN | apply Kd.S_drew)); exact HO340.out) hb); replace HO345 := Aside0.mk (Kd.R_below (zr HO345) hb); have BK347 := Aside0.mk (hbox); have GW347 := gw HB hg; have GE347 := GW347; replace HB := Aside0.mk (below_step (zb HB) hb); clear hb hbox hg; obtain ⟨hcz11_0, hcz11_1, hcz11_2, hcz11_3, hcz11_4, hcz11_5, hcz11_6, hcz11_7, hcz11_8, hcz11_9, hcz11_10, hfz11_0, hfz11_1, hfz11_2, hfz11_3, hfz11_4, hfz11_5, hfz11_6, hfz11_7, hfz11_8, hfz11_9, hfz11_10⟩ := c11 BK347; obtain ⟨Ao12, co12, eo12⟩ := Kd.R_slice HO331.out; subst eo12; obtain ⟨Ao13, co13, eo13⟩ := Kd.R_slice HO335.out; subst eo13; obtain ⟨Ao14, co14, eo14⟩ := Kd.S_slice HO340.out; subst eo14; obtain ⟨Ao15, co15, eo15⟩ := Kd.R_slice HO345.out; subst eo15))
  have n0_ : Aside0 (Kd.R k88 88 (((((((((((w10.setCell ⟨gb347, 0, none⟩ (.bool t328)).setCell ⟨gb347, 1, none⟩ (.slice Ao12 t329.length co12)).setCell ⟨gb347, 2, none⟩ (.int .i64 t332)).setCell ⟨gb347, 3, none⟩ (.slice Ao13 t333.length co13)).setCell ⟨gb347, 4, none⟩ (.int .i64 t336)).setCell ⟨gb347, 5, none⟩ (.string t337)).setCell ⟨gb347, 6, none⟩ (.slice Ao14 t338.length co14)).setCell ⟨gb347, 7, none⟩ (.int .i64 t341)).setCell ⟨gb347, 8, none⟩ (.int .i64 t342)).setCell ⟨gb347, 9, none⟩ (.slice Ao15 t343.length co15)).setCell ⟨gb347, 10, none⟩ (.bool t346)) w.heap.size (fun k_ => some k_ ≠ (.slice Ao13 t333.length co13 : Value).ownBlock) (.slice Ao12 t329.length co12) t329) := ⟨(Kd.R_mono (ztR (Kd.R_types HO331.out BK347.out (by decide))) (fun _ hk => hk.1))⟩
  have n1_ : Aside0 (Kd.R k88 88 (((((((((((w10.setCell ⟨gb347, 0, none⟩ (.bool t328)).setCell ⟨gb347, 1, none⟩ (.slice Ao12 t329.length co12)).setCell ⟨gb347, 2, none⟩ (.int .i64 t332)).setCell ⟨gb347, 3, none⟩ (.slice Ao13 t333.length co13)).setCell ⟨gb347, 4, none⟩ (.int .i64 t336)).setCell ⟨gb347, 5, none⟩ (.string t337)).setCell ⟨gb347, 6, none⟩ (.slice Ao14 t338.length co14)).setCell ⟨gb347, 7, none⟩ (.int .i64 t341)).setCell ⟨gb347, 8, none⟩ (.int .i64 t342)).setCell ⟨gb347, 9, none⟩ (.slice Ao15 t343.length co15)).setCell ⟨gb347, 10, none⟩ (.bool t346)) w.heap.size (fun k_ => some k_ ≠ (.slice Ao12 t329.length co12 : Value).ownBlock) (.slice Ao13 t333.length co13) t333) := ⟨(Kd.R_mono (ztR (Kd.R_types HO335.out BK347.out (by decide))) (fun _ hk => hk.1))⟩
  have n2_ : Aside0 (Kd.S k104 104 (((((((((((w10.setCell ⟨gb347, 0, none⟩ (.bool t328)).setCell ⟨gb347, 1, none⟩ (.slice Ao12 t329.length co12)).setCell ⟨gb347, 2, none⟩ (.int .i64 t332)).setCell ⟨gb347, 3, none⟩ (.slice Ao13 t333.length co13)).setCell ⟨gb347, 4, none⟩ (.int .i64 t336)).setCell ⟨gb347, 5, none⟩ (.string t337)).setCell ⟨gb347, 6, none⟩ (.slice Ao14 t338.length co14)).setCell ⟨gb347, 7, none⟩ (.int .i64 t341)).setCell ⟨gb347, 8, none⟩ (.int .i64 t342)).setCell ⟨gb347, 9, none⟩ (.slice Ao15 t343.length co15)).setCell ⟨gb347, 10, none⟩ (.bool t346)) w.heap.size (fun k_ => some k_ ≠ (.slice Ao12 t329.length co12 : Value).ownBlock ∧ some k_ ≠ (.slice Ao13 t333.length co13 : Value).ownBlock) (.slice Ao14 t338.length co14) t338) := ⟨by (with_reducible repeat (first | apply Kd.S_alloc | apply Kd.S_drewN | apply Kd.S_drew)); exact Kd.S_mono (ztS (Kd.S_types HO340.out BK347.out (by decide))) (fun _ hk => ⟨hk.1.1, hk.1.2⟩)⟩
  have n3_ : Aside0 (Kd.R k110 110 (((((((((((w10.setCell ⟨gb347, 0, none⟩ (.bool t328)).setCell ⟨gb347, 1, none⟩ (.slice Ao12 t329.length co12)).setCell ⟨gb347, 2, none⟩ (.int .i64 t332)).setCell ⟨gb347, 3, none⟩ (.slice Ao13 t333.length co13)).setCell ⟨gb347, 4, none⟩ (.int .i64 t336)).setCell ⟨gb347, 5, none⟩ (.string t337)).setCell ⟨gb347, 6, none⟩ (.slice Ao14 t338.length co14)).setCell ⟨gb347, 7, none⟩ (.int .i64 t341)).setCell ⟨gb347, 8, none⟩ (.int .i64 t342)).setCell ⟨gb347, 9, none⟩ (.slice Ao15 t343.length co15)).setCell ⟨gb347, 10, none⟩ (.bool t346)) w.heap.size (fun _ => True) (.slice Ao15 t343.length co15) t343) := ⟨(Kd.R_mono (ztR (Kd.R_types HO345.out BK347.out (by decide))) (fun _ hk => trivial))⟩
  have n4_ : Aside0 ((((((((((((w10.setCell ⟨gb347, 0, none⟩ (.bool t328)).setCell ⟨gb347, 1, none⟩ (.slice Ao12 t329.length co12)).setCell ⟨gb347, 2, none⟩ (.int .i64 t332)).setCell ⟨gb347, 3, none⟩ (.slice Ao13 t333.length co13)).setCell ⟨gb347, 4, none⟩ (.int .i64 t336)).setCell ⟨gb347, 5, none⟩ (.string t337)).setCell ⟨gb347, 6, none⟩ (.slice Ao14 t338.length co14)).setCell ⟨gb347, 7, none⟩ (.int .i64 t341)).setCell ⟨gb347, 8, none⟩ (.int .i64 t342)).setCell ⟨gb347, 9, none⟩ (.slice Ao15 t343.length co15)).setCell ⟨gb347, 10, none⟩ (.bool t346)).heap[gb347]? = some (.cells #[.bool t328, .slice Ao12 t329.length co12, .int .i64 t332, .slice Ao13 t333.length co13, .int .i64 t336, .string t337, .slice Ao14 t338.length co14, .int .i64 t341, .int .i64 t342, .slice Ao15 t343.length co15, .bool t346] 42 (0, 0))) := ⟨zp BK347⟩
  have n5_ : Aside0 (Below w.heap.size w (((((((((((w10.setCell ⟨gb347, 0, none⟩ (.bool t328)).setCell ⟨gb347, 1, none⟩ (.slice Ao12 t329.length co12)).setCell ⟨gb347, 2, none⟩ (.int .i64 t332)).setCell ⟨gb347, 3, none⟩ (.slice Ao13 t333.length co13)).setCell ⟨gb347, 4, none⟩ (.int .i64 t336)).setCell ⟨gb347, 5, none⟩ (.string t337)).setCell ⟨gb347, 6, none⟩ (.slice Ao14 t338.length co14)).setCell ⟨gb347, 7, none⟩ (.int .i64 t341)).setCell ⟨gb347, 8, none⟩ (.int .i64 t342)).setCell ⟨gb347, 9, none⟩ (.slice Ao15 t343.length co15)).setCell ⟨gb347, 10, none⟩ (.bool t346))) := ⟨zb HB⟩
  (try clear HO331)
  (try clear HO335)
  (try clear HO340)
  (try clear HO345)
  (try clear BK347)
  (try clear HB)
  generalize (((((((((((w10.setCell ⟨gb347, 0, none⟩ (.bool t328)).setCell ⟨gb347, 1, none⟩ (.slice Ao12 t329.length co12)).setCell ⟨gb347, 2, none⟩ (.int .i64 t332)).setCell ⟨gb347, 3, none⟩ (.slice Ao13 t333.length co13)).setCell ⟨gb347, 4, none⟩ (.int .i64 t336)).setCell ⟨gb347, 5, none⟩ (.string t337)).setCell ⟨gb347, 6, none⟩ (.slice Ao14 t338.length co14)).setCell ⟨gb347, 7, none⟩ (.int .i64 t341)).setCell ⟨gb347, 8, none⟩ (.int .i64 t342)).setCell ⟨gb347, 9, none⟩ (.slice Ao15 t343.length co15)).setCell ⟨gb347, 10, none⟩ (.bool t346)) = w16 at n0_ n1_ n2_ n3_ n4_ n5_ ⊢
  have HO331 := n0_
  have HO335 := n1_
  have HO340 := n2_
  have HO345 := n3_
  have BK347 := n4_
  have HB := n5_
  clear n0_ n1_ n2_ n3_ n4_ n5_
  replace HO331 := Aside0.mk (Kd.R_drew HO331.out)
  replace HO335 := Aside0.mk (Kd.R_drew HO335.out)
  replace HO340 := Aside0.mk (Kd.S_drew HO340.out)
  replace HO345 := Aside0.mk (Kd.R_drew HO345.out)
  replace BK347 := Aside0.mk (blk_drew BK347.out)
  replace HB := Aside0.mk (below_drew1 HB.out)
  refine st 5 (b11 BK347) (fun hHeld => ?_)
  generalize w16.drew = w17 at HO331 HO335 HO340 HO345 BK347 HB hHeld ⊢
  refine pu 1 (some 15) (bm 5 2) rfl rfl ?_
  refine tk 0 (some 14) (bm 5 3) rfl rfl hHeld ?_
  refine one_ (i := 2) (N := some 16) (bm 5 7) rfl rfl (by kernel_rfl) (by decide) (fun K hK => ?_)
  refine gs Try.func20 #[.bool t327] ?_
  with_reducible refine (spec_EndNew.calls t327 t348 t349 t352 t353 t356 t357 t358 t361 t362 t363 t366 _ A5.out).mono ?_
  rintro e w18 ⟨v350, v354, v359, v364, rfl, ho0, ho1, ho2, ho3, hb⟩
  refine ⟨_, rfl, ?_⟩
  have HO351 := Aside0.mk (Kd.R_lower (Kd.R_new' (Kd.R_new' ho0 (Kd.R_lt (zr HO331))) (Kd.R_lt (zr HO335))) (below_size (zb HB)))
  have HO355 := Aside0.mk (Kd.R_lower (Kd.R_new' (Kd.R_new' ho1 (Kd.R_lt (zr HO331))) (Kd.R_lt (zr HO335))) (below_size (zb HB)))
  have HO360 := Aside0.mk (Kd.S_lower (Kd.S_new' (Kd.S_new' (Kd.S_new' ho2 (Kd.R_lt (zr HO331))) (Kd.R_lt (zr HO335))) (Kd.S_lt (by (with_reducible repeat (first | apply Kd.S_alloc | apply Kd.S_drewN | apply Kd.S_drew)); exact HO340.out))) (below_size (zb HB)))
  replace HO331 := Aside0.mk (Kd.R_mono (Kd.R_told (Kd.R_told (Kd.R_old (zr HO331) hb) (Kd.R_base ho0)) (Kd.R_base ho1)) (fun _ h_ => h_.1))
  replace HO335 := Aside0.mk (Kd.R_mono (Kd.R_told (Kd.R_told (Kd.R_old (zr HO335) hb) (Kd.R_base ho0)) (Kd.R_base ho1)) (fun _ h_ => h_.1))
  replace HO340 := Aside0.mk (Kd.S_mono (Kd.S_told (Kd.S_told (Kd.S_told (Kd.S_old (by (with_reducible repeat (first | apply Kd.S_alloc | apply Kd.S_drewN | apply Kd.S_drew)); exact HO340.out) hb) (Kd.R_base ho0)) (Kd.R_base ho1)) (Kd.S_base ho2)) (fun _ h_ => h_.1))
  have HO365 := Aside0.mk (Kd.R_lower (Kd.R_new' ho3 (Kd.R_lt (zr HO345))) (below_size (zb HB)))
  replace HO345 := Aside0.mk (Kd.R_elder' (zr HO345) (Kd.R_base ho3) hb)
  replace BK347 := kb BK347 hb
  replace HB := Aside0.mk (below_step (zb HB) hb)
  (try clear hb)
  (try clear ho0)
  (try clear ho1)
  (try clear ho2)
  (try clear ho3)
  obtain ⟨Ao19, co19, eo19⟩ := Kd.R_slice HO351.out
  (first | subst eo19 | (injection eo19 with f1_ f2_ f3_; have f4_ := f1_.symm; have f5_ := f3_.symm; clear f1_ f2_ f3_; subst f4_; subst f5_))
  obtain ⟨Ao20, co20, eo20⟩ := Kd.R_slice HO355.out
  (first | subst eo20 | (injection eo20 with f1_ f2_ f3_; have f4_ := f1_.symm; have f5_ := f3_.symm; clear f1_ f2_ f3_; subst f4_; subst f5_))
  obtain ⟨Ao21, co21, eo21⟩ := Kd.S_slice HO360.out
  (first | subst eo21 | (injection eo21 with f1_ f2_ f3_; have f4_ := f1_.symm; have f5_ := f3_.symm; clear f1_ f2_ f3_; subst f4_; subst f5_))
  obtain ⟨Ao22, co22, eo22⟩ := Kd.R_slice HO365.out
  (first | subst eo22 | (injection eo22 with f1_ f2_ f3_; have f4_ := f1_.symm; have f5_ := f3_.symm; clear f1_ f2_ f3_; subst f4_; subst f5_))
  refine hK.out _ _ (b11 BK347) (fun hHeld => ?_)
  clear hK K
  refine nm ?_
  refine one_ (i := 3) (N := some 17) (bm 5 15) rfl rfl (by kernel_rfl) (by decide) (fun K hK => ?_)
  refine gs Try.func31 #[.agg #[.bool t328, .slice Ao12 t329.length co12, .int .i64 t332, .slice Ao13 t333.length co13, .int .i64 t336, .string t337, .slice Ao14 t338.length co14, .int .i64 t341, .int .i64 t342, .slice Ao15 t343.length co15, .bool t346], .agg #[.bool t348, .slice Ao19 t349.length co19, .int .i64 t352, .slice Ao20 t353.length co20, .int .i64 t356, .string t357, .slice Ao21 t358.length co21, .int .i64 t361, .int .i64 t362, .slice Ao22 t363.length co22, .bool t366]] ?_
  with_reducible refine (laws_lkEnd.calls k t328 _ _ t329 t332 _ _ t333 t336 t337 _ _ t338 t341 t342 _ _ t343 t346 t348 _ _ t349 t352 _ _ t353 t356 t357 _ _ t358 t361 t362 _ _ t363 t366 t367 _ ?side1 ?side2 ?side3 ?side4 ?side5 ?side6 ?side7 ?side8 ?side9 ?side10 ?side11 ?side12 ?side13 ?side14 ?side15 ?side16 A6.out).mono ?_
  (case side1 => exact zc (Kd.R_reads' HO331.out).2.2)
  (case side2 => exact (Kd.R_reads' HO331.out).2.1)
  (case side3 => exact zc (Kd.R_reads' HO335.out).2.2)
  (case side4 => exact (Kd.R_reads' HO335.out).2.1)
  (case side5 => exact zc (Kd.S_reads' HO340.out).2.2)
  (case side6 => exact (Kd.S_reads' HO340.out).2.1)
  (case side7 => exact zc (Kd.R_reads' HO345.out).2.2)
  (case side8 => exact (Kd.R_reads' HO345.out).2.1)
  (case side9 => exact zc (Kd.R_reads' HO351.out).2.2)
  (case side10 => exact (Kd.R_reads' HO351.out).2.1)
  (case side11 => exact zc (Kd.R_reads' HO355.out).2.2)
  (case side12 => exact (Kd.R_reads' HO355.out).2.1)
  (case side13 => exact zc (Kd.S_reads' HO360.out).2.2)
  (case side14 => exact (Kd.S_reads' HO360.out).2.1)
  (case side15 => exact zc (Kd.R_reads' HO365.out).2.2)
  (case side16 => exact (Kd.R_reads' HO365.out).2.1)
  rintro e w23 ⟨rfl, hb⟩
  refine ⟨_, rfl, ?_⟩
  replace HO331 := Aside0.mk (Kd.R_below (zr HO331) hb)
  replace HO335 := Aside0.mk (Kd.R_below (zr HO335) hb)
  replace HO340 := Aside0.mk (Kd.S_below (by (with_reducible repeat (first | apply Kd.S_alloc | apply Kd.S_drewN | apply Kd.S_drew)); exact HO340.out) hb)
  replace HO345 := Aside0.mk (Kd.R_below (zr HO345) hb)
  replace HO351 := Aside0.mk (Kd.R_below (zr HO351) hb)
  replace HO355 := Aside0.mk (Kd.R_below (zr HO355) hb)
  replace HO360 := Aside0.mk (Kd.S_below (by (with_reducible repeat (first | apply Kd.S_alloc | apply Kd.S_drewN | apply Kd.S_drew)); exact HO360.out) hb)
  replace HO365 := Aside0.mk (Kd.R_below (zr HO365) hb)
  replace BK347 := kb BK347 hb
  replace HB := Aside0.mk (below_step (zb HB) hb)
  (try clear hb)
  refine hK.out _ _ (b11 BK347) (fun hHeld => ?_)
  clear hK K
  refine nm ?_
  refine pu 4 (some 18) (bm 5 31) rfl rfl ?_
  refine done_ (by kernel_rfl) ?_
  go_upto_if 18 with (fail)
  have H := HC7.out
  clear HC7
  by_cases c24 : t367 = true
  ·subst c24
   rw [if_pos rfl] at H
   obtain ⟨⟨t368, t369, t372, t373, t376, t377, t378, t381, t382, t383, t386, t387⟩, A25, H⟩ := ob H
   (try dsimp only at H)
   obtain ⟨t389, A26, H⟩ := ob H
   (try dsimp only at H)
   by_cases c27 : t389 = true
   ·subst c27
    rw [if_pos rfl] at H
    replace H := sp H
    rcases H with ⟨c28, H⟩ | ⟨c28, H⟩
    ·skip
     have c28b0 : (t328 == t327) = true := c28
     (try (have c28b1 : decide (t328 = t327) = true := by simpa using c28))
     (try (have c28b2 : (t328 == t327) = true := by simpa using c28))
     clear c28
     (first | rw [c28b0] | rw [c28b1] | rw [c28b2] | (simp only [i64_w, i32_w]; rw [c28b0]) | skip)
     by_cases c29 : t387.toList = ([] : List UInt8)
     ·rw [if_pos c29] at H
      have c29b0 : (t387.toList == ([] : List UInt8)) = true := beq_iff_eq.mpr c29
      have c29b1 : (t387.toList != ([] : List UInt8)) = false := bne_eq_false_iff_eq.mpr c29
      clear c29
      obtain ⟨t390, A30, H⟩ := ob H
      (try dsimp only at H)
      by_cases c31 : t390 = true
      ·subst c31
       rw [if_pos rfl] at H
       by_cases c32 : t346 = true
       ·subst c32
        rw [if_pos rfl] at H
        obtain rfl := Option.some.inj H
        obtain ⟨hcz33_0, hcz33_1, hcz33_2, hcz33_3, hcz33_4, hcz33_5, hcz33_6, hcz33_7, hcz33_8, hcz33_9, hcz33_10, hfz33_0, hfz33_1, hfz33_2, hfz33_3, hfz33_4, hfz33_5, hfz33_6, hfz33_7, hfz33_8, hfz33_9, hfz33_10⟩ := c11 BK347
        try go_wp2_with (first | ((with_reducible refine gq 32 rfl ?_); refine gl (some 21) Try.func32 #[.agg #[.bool t328, .slice Ao12 t329.length co12, .int .i64 t332, .slice Ao13 t333.length co13, .int .i64 t336, .string t337, .slice Ao14 t338.length co14, .int .i64 t341, .int .i64 t342, .slice Ao15 t343.length co15, .bool true]] ?_; (with_reducible refine (impl_EndWrite.calls k t328 _ _ t329 t332 _ _ t333 t336 t337 _ _ t338 t341 t342 _ _ t343 true t368 t369 t372 t373 t376 t377 t378 t381 t382 t383 t386 t387 _ ?side1 ?side2 ?side3 ?side4 ?side5 ?side6 ?side7 ?side8 A25.out).mono ?_); (case side1 => exact zc (Kd.R_reads' HO331.out).2.2); (case side2 => exact (Kd.R_reads' HO331.out).2.1); (case side3 => exact zc (Kd.R_reads' HO335.out).2.2); (case side4 => exact (Kd.R_reads' HO335.out).2.1); (case side5 => exact zc (Kd.S_reads' HO340.out).2.2); (case side6 => exact (Kd.S_reads' HO340.out).2.1); (case side7 => exact zc (Kd.R_reads' HO345.out).2.2); (case side8 => exact (Kd.R_reads' HO345.out).2.1); rintro e w34 ⟨v370, v374, v379, v384, rfl, ho0, ho1, ho2, ho3, hb⟩; refine ⟨_, rfl, ?_⟩; have HO371 := Aside0.mk (Kd.R_lower (Kd.R_new' (Kd.R_new' (Kd.R_new' (Kd.R_new' ho0 (Kd.R_lt (zr HO331))) (Kd.R_lt (zr HO335))) (Kd.R_lt (zr HO351))) (Kd.R_lt (zr HO355))) (below_size (zb HB))); have HO375 := Aside0.mk (Kd.R_lower (Kd.R_new' (Kd.R_new' (Kd.R_new' (Kd.R_new' ho1 (Kd.R_lt (zr HO331))) (Kd.R_lt (zr HO335))) (Kd.R_lt (zr HO351))) (Kd.R_lt (zr HO355))) (below_size (zb HB))); have HO380 := Aside0.mk (Kd.S_lower (Kd.S_new' (Kd.S_new' (Kd.S_new' (Kd.S_new' (Kd.S_new' (Kd.S_new' ho2 (Kd.R_lt (zr HO331))) (Kd.R_lt (zr HO335))) (Kd.S_lt (by (with_reducible repeat (first | apply Kd.S_alloc | apply Kd.S_drewN | apply Kd.S_drew)); exact HO340.out))) (Kd.R_lt (zr HO351))) (Kd.R_lt (zr HO355))) (Kd.S_lt (by (with_reducible repeat (first | apply Kd.S_alloc | apply Kd.S_drewN | apply Kd.S_drew)); exact HO360.out))) (below_size (zb HB))); replace HO331 := Aside0.mk (Kd.R_mono (Kd.R_told (Kd.R_told (Kd.R_old (zr HO331) hb) (Kd.R_base ho0)) (Kd.R_base ho1)) (fun _ h_ => h_.1)); replace HO335 := Aside0.mk (Kd.R_mono (Kd.R_told (Kd.R_told (Kd.R_old (zr HO335) hb) (Kd.R_base ho0)) (Kd.R_base ho1)) (fun _ h_ => h_.1)); replace HO340 := Aside0.mk (Kd.S_mono (Kd.S_told (Kd.S_told (Kd.S_told (Kd.S_old (by (with_reducible repeat (first | apply Kd.S_alloc | apply Kd.S_drewN | apply Kd.S_drew)); exact HO340.out) hb) (Kd.R_base ho0)) (Kd.R_base ho1)) (Kd.S_base ho2)) (fun _ h_ => h_.1)); replace HO351 := Aside0.mk (Kd.R_mono (Kd.R_told (Kd.R_told (Kd.R_old (zr HO351) hb) (Kd.R_base ho0)) (Kd.R_base ho1)) (fun _ h_ => h_.1)); replace HO355 := Aside0.mk (Kd.R_mono (Kd.R_told (Kd.R_told (Kd.R_old (zr HO355) hb) (Kd.R_base ho0)) (Kd.R_base ho1)) (fun _ h_ => h_.1)); replace HO360 := Aside0.mk (Kd.S_mono (Kd.S_told (Kd.S_told (Kd.S_told (Kd.S_old (by (with_reducible repeat (first | apply Kd.S_alloc | apply Kd.S_drewN | apply Kd.S_drew)); exact HO360.out) hb) (Kd.R_base ho0)) (Kd.R_base ho1)) (Kd.S_base ho2)) (fun _ h_ => h_.1)); have HO385 := Aside0.mk (Kd.R_lower (Kd.R_new' (Kd.R_new' ho3 (Kd.R_lt (zr HO345))) (Kd.R_lt (zr HO365))) (below_size (zb HB))); replace HO345 := Aside0.mk (Kd.R_elder' (zr HO345) (Kd.R_base ho3) hb); replace HO365 := Aside0.mk (Kd.R_elder' (zr HO365) (Kd.R_base ho3) hb); replace BK347 := kb BK347 hb; replace HB := Aside0.mk (below_step (zb HB) hb); (try clear hb); (try clear ho0); (try clear ho1); (try clear ho2); (try clear ho3)) | ((with_reducible refine gd 5 rfl ?_); (try (refine gate_guard (by rfl) ?_; dsimp only)); refine bx (N := 5) (cs := #[.bool false, .slice none 0 0, .int .i64 0, .slice none 0 0, .int .i64 0, .string (⟨#[]⟩ : ByteArray), .slice none 0 0, .int .i64 0, .int .i64 0, .slice none 0 0, .bool false]) (t := 42) ?_; intro gb388 hg w35 hbox hb; replace HO331 := Aside0.mk (Kd.R_below (zr HO331) hb); replace HO335 := Aside0.mk (Kd.R_below (zr HO335) hb); replace HO340 := Aside0.mk (Kd.S_below (by (with_reducible repeat (first | apply Kd.S_alloc | apply Kd.S_drewN | apply Kd.S_drew)); exact HO340.out) hb); replace HO345 := Aside0.mk (Kd.R_below (zr HO345) hb); replace HO351 := Aside0.mk (Kd.R_below (zr HO351) hb); replace HO355 := Aside0.mk (Kd.R_below (zr HO355) hb); replace HO360 := Aside0.mk (Kd.S_below (by (with_reducible repeat (first | apply Kd.S_alloc | apply Kd.S_drewN | apply Kd.S_drew)); exact HO360.out) hb); replace HO365 := Aside0.mk (Kd.R_below (zr HO365) hb); replace HO371 := Aside0.mk (Kd.R_below (zr HO371) hb); replace HO375 := Aside0.mk (Kd.R_below (zr HO375) hb); replace HO380 := Aside0.mk (Kd.S_below (by (with_reducible repeat (first | apply Kd.S_alloc | apply Kd.S_drewN | apply Kd.S_drew)); exact HO380.out) hb); replace HO385 := Aside0.mk (Kd.R_below (zr HO385) hb); have BK388 := Aside0.mk (hbox); have GW388 := gw HB hg; have GE388 := GW388; replace HB := Aside0.mk (below_step (zb HB) hb); obtain ⟨NB347_388, NB388_347⟩ := nb BK347 hg; replace BK347 := kb BK347 hb; clear hb hbox hg; have hnb36 := NB388_347.out; have hnc36 := NB347_388.out; obtain ⟨hcz37_0, hcz37_1, hcz37_2, hcz37_3, hcz37_4, hcz37_5, hcz37_6, hcz37_7, hcz37_8, hcz37_9, hcz37_10, hfz37_0, hfz37_1, hfz37_2, hfz37_3, hfz37_4, hfz37_5, hfz37_6, hfz37_7, hfz37_8, hfz37_9, hfz37_10⟩ := c11 BK388; obtain ⟨Ao38, co38, eo38⟩ := Kd.R_slice HO371.out; subst eo38; obtain ⟨Ao39, co39, eo39⟩ := Kd.R_slice HO375.out; subst eo39; obtain ⟨Ao40, co40, eo40⟩ := Kd.S_slice HO380.out; subst eo40; obtain ⟨Ao41, co41, eo41⟩ := Kd.R_slice HO385.out; subst eo41))
        have n0_ : Aside0 (Kd.R k88 88 (((((((((((w35.setCell ⟨gb388, 0, none⟩ (.bool t368)).setCell ⟨gb388, 1, none⟩ (.slice Ao38 t369.length co38)).setCell ⟨gb388, 2, none⟩ (.int .i64 t372)).setCell ⟨gb388, 3, none⟩ (.slice Ao39 t373.length co39)).setCell ⟨gb388, 4, none⟩ (.int .i64 t376)).setCell ⟨gb388, 5, none⟩ (.string t377)).setCell ⟨gb388, 6, none⟩ (.slice Ao40 t378.length co40)).setCell ⟨gb388, 7, none⟩ (.int .i64 t381)).setCell ⟨gb388, 8, none⟩ (.int .i64 t382)).setCell ⟨gb388, 9, none⟩ (.slice Ao41 t383.length co41)).setCell ⟨gb388, 10, none⟩ (.bool t386)) w.heap.size (fun k_ => some k_ ≠ (.slice Ao13 t333.length co13 : Value).ownBlock ∧ some k_ ≠ (.slice Ao19 t349.length co19 : Value).ownBlock ∧ some k_ ≠ (.slice Ao20 t353.length co20 : Value).ownBlock ∧ some k_ ≠ (.slice Ao38 t369.length co38 : Value).ownBlock ∧ some k_ ≠ (.slice Ao39 t373.length co39 : Value).ownBlock) (.slice Ao12 t329.length co12) t329) := ⟨(Kd.R_mono (ztR (Kd.R_types HO331.out BK388.out (by decide))) (fun _ hk => ⟨hk.1.1.1.1.1, ⟨hk.1.1.1.1.2, ⟨hk.1.1.1.2, ⟨hk.1.1.2, hk.1.2⟩⟩⟩⟩))⟩
        have n1_ : Aside0 (Kd.R k88 88 (((((((((((w35.setCell ⟨gb388, 0, none⟩ (.bool t368)).setCell ⟨gb388, 1, none⟩ (.slice Ao38 t369.length co38)).setCell ⟨gb388, 2, none⟩ (.int .i64 t372)).setCell ⟨gb388, 3, none⟩ (.slice Ao39 t373.length co39)).setCell ⟨gb388, 4, none⟩ (.int .i64 t376)).setCell ⟨gb388, 5, none⟩ (.string t377)).setCell ⟨gb388, 6, none⟩ (.slice Ao40 t378.length co40)).setCell ⟨gb388, 7, none⟩ (.int .i64 t381)).setCell ⟨gb388, 8, none⟩ (.int .i64 t382)).setCell ⟨gb388, 9, none⟩ (.slice Ao41 t383.length co41)).setCell ⟨gb388, 10, none⟩ (.bool t386)) w.heap.size (fun k_ => some k_ ≠ (.slice Ao12 t329.length co12 : Value).ownBlock ∧ some k_ ≠ (.slice Ao19 t349.length co19 : Value).ownBlock ∧ some k_ ≠ (.slice Ao20 t353.length co20 : Value).ownBlock ∧ some k_ ≠ (.slice Ao38 t369.length co38 : Value).ownBlock ∧ some k_ ≠ (.slice Ao39 t373.length co39 : Value).ownBlock) (.slice Ao13 t333.length co13) t333) := ⟨(Kd.R_mono (ztR (Kd.R_types HO335.out BK388.out (by decide))) (fun _ hk => ⟨hk.1.1.1.1.1, ⟨hk.1.1.1.1.2, ⟨hk.1.1.1.2, ⟨hk.1.1.2, hk.1.2⟩⟩⟩⟩))⟩
        have n2_ : Aside0 (Kd.S k104 104 (((((((((((w35.setCell ⟨gb388, 0, none⟩ (.bool t368)).setCell ⟨gb388, 1, none⟩ (.slice Ao38 t369.length co38)).setCell ⟨gb388, 2, none⟩ (.int .i64 t372)).setCell ⟨gb388, 3, none⟩ (.slice Ao39 t373.length co39)).setCell ⟨gb388, 4, none⟩ (.int .i64 t376)).setCell ⟨gb388, 5, none⟩ (.string t377)).setCell ⟨gb388, 6, none⟩ (.slice Ao40 t378.length co40)).setCell ⟨gb388, 7, none⟩ (.int .i64 t381)).setCell ⟨gb388, 8, none⟩ (.int .i64 t382)).setCell ⟨gb388, 9, none⟩ (.slice Ao41 t383.length co41)).setCell ⟨gb388, 10, none⟩ (.bool t386)) w.heap.size (fun k_ => some k_ ≠ (.slice Ao12 t329.length co12 : Value).ownBlock ∧ some k_ ≠ (.slice Ao13 t333.length co13 : Value).ownBlock ∧ some k_ ≠ (.slice Ao19 t349.length co19 : Value).ownBlock ∧ some k_ ≠ (.slice Ao20 t353.length co20 : Value).ownBlock ∧ some k_ ≠ (.slice Ao21 t358.length co21 : Value).ownBlock ∧ some k_ ≠ (.slice Ao38 t369.length co38 : Value).ownBlock ∧ some k_ ≠ (.slice Ao39 t373.length co39 : Value).ownBlock ∧ some k_ ≠ (.slice Ao40 t378.length co40 : Value).ownBlock) (.slice Ao14 t338.length co14) t338) := ⟨by (with_reducible repeat (first | apply Kd.S_alloc | apply Kd.S_drewN | apply Kd.S_drew)); exact Kd.S_mono (ztS (Kd.S_types HO340.out BK388.out (by decide))) (fun _ hk => ⟨hk.1.1.1.1.1.1.1.1, ⟨hk.1.1.1.1.1.1.1.2, ⟨hk.1.1.1.1.1.1.2, ⟨hk.1.1.1.1.1.2, ⟨hk.1.1.1.1.2, ⟨hk.1.1.1.2, ⟨hk.1.1.2, hk.1.2⟩⟩⟩⟩⟩⟩⟩)⟩
        have n3_ : Aside0 (Kd.R k110 110 (((((((((((w35.setCell ⟨gb388, 0, none⟩ (.bool t368)).setCell ⟨gb388, 1, none⟩ (.slice Ao38 t369.length co38)).setCell ⟨gb388, 2, none⟩ (.int .i64 t372)).setCell ⟨gb388, 3, none⟩ (.slice Ao39 t373.length co39)).setCell ⟨gb388, 4, none⟩ (.int .i64 t376)).setCell ⟨gb388, 5, none⟩ (.string t377)).setCell ⟨gb388, 6, none⟩ (.slice Ao40 t378.length co40)).setCell ⟨gb388, 7, none⟩ (.int .i64 t381)).setCell ⟨gb388, 8, none⟩ (.int .i64 t382)).setCell ⟨gb388, 9, none⟩ (.slice Ao41 t383.length co41)).setCell ⟨gb388, 10, none⟩ (.bool t386)) w.heap.size (fun k_ => some k_ ≠ (.slice Ao22 t363.length co22 : Value).ownBlock ∧ some k_ ≠ (.slice Ao41 t383.length co41 : Value).ownBlock) (.slice Ao15 t343.length co15) t343) := ⟨(Kd.R_mono (ztR (Kd.R_types HO345.out BK388.out (by decide))) (fun _ hk => ⟨hk.1.1.2, hk.1.2⟩))⟩
        have n4_ : Aside0 (Kd.R k88 88 (((((((((((w35.setCell ⟨gb388, 0, none⟩ (.bool t368)).setCell ⟨gb388, 1, none⟩ (.slice Ao38 t369.length co38)).setCell ⟨gb388, 2, none⟩ (.int .i64 t372)).setCell ⟨gb388, 3, none⟩ (.slice Ao39 t373.length co39)).setCell ⟨gb388, 4, none⟩ (.int .i64 t376)).setCell ⟨gb388, 5, none⟩ (.string t377)).setCell ⟨gb388, 6, none⟩ (.slice Ao40 t378.length co40)).setCell ⟨gb388, 7, none⟩ (.int .i64 t381)).setCell ⟨gb388, 8, none⟩ (.int .i64 t382)).setCell ⟨gb388, 9, none⟩ (.slice Ao41 t383.length co41)).setCell ⟨gb388, 10, none⟩ (.bool t386)) w.heap.size (fun k_ => some k_ ≠ (.slice Ao12 t329.length co12 : Value).ownBlock ∧ some k_ ≠ (.slice Ao13 t333.length co13 : Value).ownBlock ∧ some k_ ≠ (.slice Ao20 t353.length co20 : Value).ownBlock ∧ some k_ ≠ (.slice Ao38 t369.length co38 : Value).ownBlock ∧ some k_ ≠ (.slice Ao39 t373.length co39 : Value).ownBlock) (.slice Ao19 t349.length co19) t349) := ⟨(Kd.R_mono (ztR (Kd.R_types HO351.out BK388.out (by decide))) (fun _ hk => ⟨hk.1.1.1.1.2, ⟨hk.1.1.1.2, ⟨hk.1.1.1.1.1, ⟨hk.1.1.2, hk.1.2⟩⟩⟩⟩))⟩
        have n5_ : Aside0 (Kd.R k88 88 (((((((((((w35.setCell ⟨gb388, 0, none⟩ (.bool t368)).setCell ⟨gb388, 1, none⟩ (.slice Ao38 t369.length co38)).setCell ⟨gb388, 2, none⟩ (.int .i64 t372)).setCell ⟨gb388, 3, none⟩ (.slice Ao39 t373.length co39)).setCell ⟨gb388, 4, none⟩ (.int .i64 t376)).setCell ⟨gb388, 5, none⟩ (.string t377)).setCell ⟨gb388, 6, none⟩ (.slice Ao40 t378.length co40)).setCell ⟨gb388, 7, none⟩ (.int .i64 t381)).setCell ⟨gb388, 8, none⟩ (.int .i64 t382)).setCell ⟨gb388, 9, none⟩ (.slice Ao41 t383.length co41)).setCell ⟨gb388, 10, none⟩ (.bool t386)) w.heap.size (fun k_ => some k_ ≠ (.slice Ao12 t329.length co12 : Value).ownBlock ∧ some k_ ≠ (.slice Ao13 t333.length co13 : Value).ownBlock ∧ some k_ ≠ (.slice Ao19 t349.length co19 : Value).ownBlock ∧ some k_ ≠ (.slice Ao38 t369.length co38 : Value).ownBlock ∧ some k_ ≠ (.slice Ao39 t373.length co39 : Value).ownBlock) (.slice Ao20 t353.length co20) t353) := ⟨(Kd.R_mono (ztR (Kd.R_types HO355.out BK388.out (by decide))) (fun _ hk => ⟨hk.1.1.1.1.2, ⟨hk.1.1.1.2, ⟨hk.1.1.1.1.1, ⟨hk.1.1.2, hk.1.2⟩⟩⟩⟩))⟩
        have n6_ : Aside0 (Kd.S k104 104 (((((((((((w35.setCell ⟨gb388, 0, none⟩ (.bool t368)).setCell ⟨gb388, 1, none⟩ (.slice Ao38 t369.length co38)).setCell ⟨gb388, 2, none⟩ (.int .i64 t372)).setCell ⟨gb388, 3, none⟩ (.slice Ao39 t373.length co39)).setCell ⟨gb388, 4, none⟩ (.int .i64 t376)).setCell ⟨gb388, 5, none⟩ (.string t377)).setCell ⟨gb388, 6, none⟩ (.slice Ao40 t378.length co40)).setCell ⟨gb388, 7, none⟩ (.int .i64 t381)).setCell ⟨gb388, 8, none⟩ (.int .i64 t382)).setCell ⟨gb388, 9, none⟩ (.slice Ao41 t383.length co41)).setCell ⟨gb388, 10, none⟩ (.bool t386)) w.heap.size (fun k_ => some k_ ≠ (.slice Ao12 t329.length co12 : Value).ownBlock ∧ some k_ ≠ (.slice Ao13 t333.length co13 : Value).ownBlock ∧ some k_ ≠ (.slice Ao14 t338.length co14 : Value).ownBlock ∧ some k_ ≠ (.slice Ao19 t349.length co19 : Value).ownBlock ∧ some k_ ≠ (.slice Ao20 t353.length co20 : Value).ownBlock ∧ some k_ ≠ (.slice Ao38 t369.length co38 : Value).ownBlock ∧ some k_ ≠ (.slice Ao39 t373.length co39 : Value).ownBlock ∧ some k_ ≠ (.slice Ao40 t378.length co40 : Value).ownBlock) (.slice Ao21 t358.length co21) t358) := ⟨by (with_reducible repeat (first | apply Kd.S_alloc | apply Kd.S_drewN | apply Kd.S_drew)); exact Kd.S_mono (ztS (Kd.S_types HO360.out BK388.out (by decide))) (fun _ hk => ⟨hk.1.1.1.1.1.1.2, ⟨hk.1.1.1.1.1.2, ⟨hk.1.1.1.1.2, ⟨hk.1.1.1.1.1.1.1.1, ⟨hk.1.1.1.1.1.1.1.2, ⟨hk.1.1.1.2, ⟨hk.1.1.2, hk.1.2⟩⟩⟩⟩⟩⟩⟩)⟩
        have n7_ : Aside0 (Kd.R k110 110 (((((((((((w35.setCell ⟨gb388, 0, none⟩ (.bool t368)).setCell ⟨gb388, 1, none⟩ (.slice Ao38 t369.length co38)).setCell ⟨gb388, 2, none⟩ (.int .i64 t372)).setCell ⟨gb388, 3, none⟩ (.slice Ao39 t373.length co39)).setCell ⟨gb388, 4, none⟩ (.int .i64 t376)).setCell ⟨gb388, 5, none⟩ (.string t377)).setCell ⟨gb388, 6, none⟩ (.slice Ao40 t378.length co40)).setCell ⟨gb388, 7, none⟩ (.int .i64 t381)).setCell ⟨gb388, 8, none⟩ (.int .i64 t382)).setCell ⟨gb388, 9, none⟩ (.slice Ao41 t383.length co41)).setCell ⟨gb388, 10, none⟩ (.bool t386)) w.heap.size (fun k_ => some k_ ≠ (.slice Ao15 t343.length co15 : Value).ownBlock ∧ some k_ ≠ (.slice Ao41 t383.length co41 : Value).ownBlock) (.slice Ao22 t363.length co22) t363) := ⟨(Kd.R_mono (ztR (Kd.R_types HO365.out BK388.out (by decide))) (fun _ hk => ⟨hk.1.1.2, hk.1.2⟩))⟩
        have n8_ : Aside0 (Kd.R k88 88 (((((((((((w35.setCell ⟨gb388, 0, none⟩ (.bool t368)).setCell ⟨gb388, 1, none⟩ (.slice Ao38 t369.length co38)).setCell ⟨gb388, 2, none⟩ (.int .i64 t372)).setCell ⟨gb388, 3, none⟩ (.slice Ao39 t373.length co39)).setCell ⟨gb388, 4, none⟩ (.int .i64 t376)).setCell ⟨gb388, 5, none⟩ (.string t377)).setCell ⟨gb388, 6, none⟩ (.slice Ao40 t378.length co40)).setCell ⟨gb388, 7, none⟩ (.int .i64 t381)).setCell ⟨gb388, 8, none⟩ (.int .i64 t382)).setCell ⟨gb388, 9, none⟩ (.slice Ao41 t383.length co41)).setCell ⟨gb388, 10, none⟩ (.bool t386)) w.heap.size (fun k_ => some k_ ≠ (.slice Ao12 t329.length co12 : Value).ownBlock ∧ some k_ ≠ (.slice Ao13 t333.length co13 : Value).ownBlock ∧ some k_ ≠ (.slice Ao19 t349.length co19 : Value).ownBlock ∧ some k_ ≠ (.slice Ao20 t353.length co20 : Value).ownBlock ∧ some k_ ≠ (.slice Ao39 t373.length co39 : Value).ownBlock) (.slice Ao38 t369.length co38) t369) := ⟨(Kd.R_mono (ztR (Kd.R_types HO371.out BK388.out (by decide))) (fun _ hk => ⟨hk.1.1.1.1.2, ⟨hk.1.1.1.2, ⟨hk.1.1.2, ⟨hk.1.2, hk.1.1.1.1.1⟩⟩⟩⟩))⟩
        have n9_ : Aside0 (Kd.R k88 88 (((((((((((w35.setCell ⟨gb388, 0, none⟩ (.bool t368)).setCell ⟨gb388, 1, none⟩ (.slice Ao38 t369.length co38)).setCell ⟨gb388, 2, none⟩ (.int .i64 t372)).setCell ⟨gb388, 3, none⟩ (.slice Ao39 t373.length co39)).setCell ⟨gb388, 4, none⟩ (.int .i64 t376)).setCell ⟨gb388, 5, none⟩ (.string t377)).setCell ⟨gb388, 6, none⟩ (.slice Ao40 t378.length co40)).setCell ⟨gb388, 7, none⟩ (.int .i64 t381)).setCell ⟨gb388, 8, none⟩ (.int .i64 t382)).setCell ⟨gb388, 9, none⟩ (.slice Ao41 t383.length co41)).setCell ⟨gb388, 10, none⟩ (.bool t386)) w.heap.size (fun k_ => some k_ ≠ (.slice Ao12 t329.length co12 : Value).ownBlock ∧ some k_ ≠ (.slice Ao13 t333.length co13 : Value).ownBlock ∧ some k_ ≠ (.slice Ao19 t349.length co19 : Value).ownBlock ∧ some k_ ≠ (.slice Ao20 t353.length co20 : Value).ownBlock ∧ some k_ ≠ (.slice Ao38 t369.length co38 : Value).ownBlock) (.slice Ao39 t373.length co39) t373) := ⟨(Kd.R_mono (ztR (Kd.R_types HO375.out BK388.out (by decide))) (fun _ hk => ⟨hk.1.1.1.1.2, ⟨hk.1.1.1.2, ⟨hk.1.1.2, ⟨hk.1.2, hk.1.1.1.1.1⟩⟩⟩⟩))⟩
        have n10_ : Aside0 (Kd.S k104 104 (((((((((((w35.setCell ⟨gb388, 0, none⟩ (.bool t368)).setCell ⟨gb388, 1, none⟩ (.slice Ao38 t369.length co38)).setCell ⟨gb388, 2, none⟩ (.int .i64 t372)).setCell ⟨gb388, 3, none⟩ (.slice Ao39 t373.length co39)).setCell ⟨gb388, 4, none⟩ (.int .i64 t376)).setCell ⟨gb388, 5, none⟩ (.string t377)).setCell ⟨gb388, 6, none⟩ (.slice Ao40 t378.length co40)).setCell ⟨gb388, 7, none⟩ (.int .i64 t381)).setCell ⟨gb388, 8, none⟩ (.int .i64 t382)).setCell ⟨gb388, 9, none⟩ (.slice Ao41 t383.length co41)).setCell ⟨gb388, 10, none⟩ (.bool t386)) w.heap.size (fun k_ => some k_ ≠ (.slice Ao12 t329.length co12 : Value).ownBlock ∧ some k_ ≠ (.slice Ao13 t333.length co13 : Value).ownBlock ∧ some k_ ≠ (.slice Ao14 t338.length co14 : Value).ownBlock ∧ some k_ ≠ (.slice Ao19 t349.length co19 : Value).ownBlock ∧ some k_ ≠ (.slice Ao20 t353.length co20 : Value).ownBlock ∧ some k_ ≠ (.slice Ao21 t358.length co21 : Value).ownBlock ∧ some k_ ≠ (.slice Ao38 t369.length co38 : Value).ownBlock ∧ some k_ ≠ (.slice Ao39 t373.length co39 : Value).ownBlock) (.slice Ao40 t378.length co40) t378) := ⟨by (with_reducible repeat (first | apply Kd.S_alloc | apply Kd.S_drewN | apply Kd.S_drew)); exact Kd.S_mono (ztS (Kd.S_types HO380.out BK388.out (by decide))) (fun _ hk => ⟨hk.1.1.1.1.1.1.2, ⟨hk.1.1.1.1.1.2, ⟨hk.1.1.1.1.2, ⟨hk.1.1.1.2, ⟨hk.1.1.2, ⟨hk.1.2, ⟨hk.1.1.1.1.1.1.1.1, hk.1.1.1.1.1.1.1.2⟩⟩⟩⟩⟩⟩⟩)⟩
        have n11_ : Aside0 (Kd.R k110 110 (((((((((((w35.setCell ⟨gb388, 0, none⟩ (.bool t368)).setCell ⟨gb388, 1, none⟩ (.slice Ao38 t369.length co38)).setCell ⟨gb388, 2, none⟩ (.int .i64 t372)).setCell ⟨gb388, 3, none⟩ (.slice Ao39 t373.length co39)).setCell ⟨gb388, 4, none⟩ (.int .i64 t376)).setCell ⟨gb388, 5, none⟩ (.string t377)).setCell ⟨gb388, 6, none⟩ (.slice Ao40 t378.length co40)).setCell ⟨gb388, 7, none⟩ (.int .i64 t381)).setCell ⟨gb388, 8, none⟩ (.int .i64 t382)).setCell ⟨gb388, 9, none⟩ (.slice Ao41 t383.length co41)).setCell ⟨gb388, 10, none⟩ (.bool t386)) w.heap.size (fun k_ => some k_ ≠ (.slice Ao15 t343.length co15 : Value).ownBlock ∧ some k_ ≠ (.slice Ao22 t363.length co22 : Value).ownBlock) (.slice Ao41 t383.length co41) t383) := ⟨(Kd.R_mono (ztR (Kd.R_types HO385.out BK388.out (by decide))) (fun _ hk => ⟨hk.1.1.2, hk.1.2⟩))⟩
        have n12_ : Aside0 ((((((((((((w35.setCell ⟨gb388, 0, none⟩ (.bool t368)).setCell ⟨gb388, 1, none⟩ (.slice Ao38 t369.length co38)).setCell ⟨gb388, 2, none⟩ (.int .i64 t372)).setCell ⟨gb388, 3, none⟩ (.slice Ao39 t373.length co39)).setCell ⟨gb388, 4, none⟩ (.int .i64 t376)).setCell ⟨gb388, 5, none⟩ (.string t377)).setCell ⟨gb388, 6, none⟩ (.slice Ao40 t378.length co40)).setCell ⟨gb388, 7, none⟩ (.int .i64 t381)).setCell ⟨gb388, 8, none⟩ (.int .i64 t382)).setCell ⟨gb388, 9, none⟩ (.slice Ao41 t383.length co41)).setCell ⟨gb388, 10, none⟩ (.bool t386)).heap[gb347]? = some (.cells #[.bool t328, .slice Ao12 t329.length co12, .int .i64 t332, .slice Ao13 t333.length co13, .int .i64 t336, .string t337, .slice Ao14 t338.length co14, .int .i64 t341, .int .i64 t342, .slice Ao15 t343.length co15, .bool true] 42 (0, 0))) := ⟨zp BK347⟩
        have n13_ : Aside0 ((((((((((((w35.setCell ⟨gb388, 0, none⟩ (.bool t368)).setCell ⟨gb388, 1, none⟩ (.slice Ao38 t369.length co38)).setCell ⟨gb388, 2, none⟩ (.int .i64 t372)).setCell ⟨gb388, 3, none⟩ (.slice Ao39 t373.length co39)).setCell ⟨gb388, 4, none⟩ (.int .i64 t376)).setCell ⟨gb388, 5, none⟩ (.string t377)).setCell ⟨gb388, 6, none⟩ (.slice Ao40 t378.length co40)).setCell ⟨gb388, 7, none⟩ (.int .i64 t381)).setCell ⟨gb388, 8, none⟩ (.int .i64 t382)).setCell ⟨gb388, 9, none⟩ (.slice Ao41 t383.length co41)).setCell ⟨gb388, 10, none⟩ (.bool t386)).heap[gb388]? = some (.cells #[.bool t368, .slice Ao38 t369.length co38, .int .i64 t372, .slice Ao39 t373.length co39, .int .i64 t376, .string t377, .slice Ao40 t378.length co40, .int .i64 t381, .int .i64 t382, .slice Ao41 t383.length co41, .bool t386] 42 (0, 0))) := ⟨zp BK388⟩
        have n14_ : Aside0 (Below w.heap.size w (((((((((((w35.setCell ⟨gb388, 0, none⟩ (.bool t368)).setCell ⟨gb388, 1, none⟩ (.slice Ao38 t369.length co38)).setCell ⟨gb388, 2, none⟩ (.int .i64 t372)).setCell ⟨gb388, 3, none⟩ (.slice Ao39 t373.length co39)).setCell ⟨gb388, 4, none⟩ (.int .i64 t376)).setCell ⟨gb388, 5, none⟩ (.string t377)).setCell ⟨gb388, 6, none⟩ (.slice Ao40 t378.length co40)).setCell ⟨gb388, 7, none⟩ (.int .i64 t381)).setCell ⟨gb388, 8, none⟩ (.int .i64 t382)).setCell ⟨gb388, 9, none⟩ (.slice Ao41 t383.length co41)).setCell ⟨gb388, 10, none⟩ (.bool t386))) := ⟨zb HB⟩
        (try clear HO331)
        (try clear HO335)
        (try clear HO340)
        (try clear HO345)
        (try clear HO351)
        (try clear HO355)
        (try clear HO360)
        (try clear HO365)
        (try clear HO371)
        (try clear HO375)
        (try clear HO380)
        (try clear HO385)
        (try clear BK347)
        (try clear BK388)
        (try clear HB)
        generalize (((((((((((w35.setCell ⟨gb388, 0, none⟩ (.bool t368)).setCell ⟨gb388, 1, none⟩ (.slice Ao38 t369.length co38)).setCell ⟨gb388, 2, none⟩ (.int .i64 t372)).setCell ⟨gb388, 3, none⟩ (.slice Ao39 t373.length co39)).setCell ⟨gb388, 4, none⟩ (.int .i64 t376)).setCell ⟨gb388, 5, none⟩ (.string t377)).setCell ⟨gb388, 6, none⟩ (.slice Ao40 t378.length co40)).setCell ⟨gb388, 7, none⟩ (.int .i64 t381)).setCell ⟨gb388, 8, none⟩ (.int .i64 t382)).setCell ⟨gb388, 9, none⟩ (.slice Ao41 t383.length co41)).setCell ⟨gb388, 10, none⟩ (.bool t386)) = w42 at n0_ n1_ n2_ n3_ n4_ n5_ n6_ n7_ n8_ n9_ n10_ n11_ n12_ n13_ n14_ ⊢
        have HO331 := n0_
        have HO335 := n1_
        have HO340 := n2_
        have HO345 := n3_
        have HO351 := n4_
        have HO355 := n5_
        have HO360 := n6_
        have HO365 := n7_
        have HO371 := n8_
        have HO375 := n9_
        have HO380 := n10_
        have HO385 := n11_
        have BK347 := n12_
        have BK388 := n13_
        have HB := n14_
        clear n0_ n1_ n2_ n3_ n4_ n5_ n6_ n7_ n8_ n9_ n10_ n11_ n12_ n13_ n14_
        replace HO331 := Aside0.mk (Kd.R_drew HO331.out)
        replace HO335 := Aside0.mk (Kd.R_drew HO335.out)
        replace HO340 := Aside0.mk (Kd.S_drew HO340.out)
        replace HO345 := Aside0.mk (Kd.R_drew HO345.out)
        replace HO351 := Aside0.mk (Kd.R_drew HO351.out)
        replace HO355 := Aside0.mk (Kd.R_drew HO355.out)
        replace HO360 := Aside0.mk (Kd.S_drew HO360.out)
        replace HO365 := Aside0.mk (Kd.R_drew HO365.out)
        replace HO371 := Aside0.mk (Kd.R_drew HO371.out)
        replace HO375 := Aside0.mk (Kd.R_drew HO375.out)
        replace HO380 := Aside0.mk (Kd.S_drew HO380.out)
        replace HO385 := Aside0.mk (Kd.R_drew HO385.out)
        replace BK347 := Aside0.mk (blk_drew BK347.out)
        replace BK388 := Aside0.mk (blk_drew BK388.out)
        replace HB := Aside0.mk (below_drew1 HB.out)
        refine st 39 (an (b11 BK347) (b11 BK388)) (fun hHeld => ?_); refine with_tabW laws_FnEndNew.tab8 laws_FnEndNew.bits8 (fun HT_ HW_ => ?_)
        generalize w42.drew = w43 at HO331 HO335 HO340 HO345 HO351 HO355 HO360 HO365 HO371 HO375 HO380 HO385 BK347 BK388 HB hHeld ⊢
        refine tk 0 (some 24) (bm 39 1) rfl rfl hHeld ?_
        refine one_ (i := 1) (N := some 25) (bm 39 3) rfl rfl (one_of HT_.out (by kernel_rfl)) (by decide) (fun K hK => ?_)
        refine gs Try.func33 #[.agg #[.bool t328, .slice Ao12 t329.length co12, .int .i64 t332, .slice Ao13 t333.length co13, .int .i64 t336, .string t337, .slice Ao14 t338.length co14, .int .i64 t341, .int .i64 t342, .slice Ao15 t343.length co15, .bool true]] ?_
        with_reducible refine (impl_EndOk.calls k t328 _ _ t329 t332 _ _ t333 t336 t337 _ _ t338 t341 t342 _ _ t343 true true _ ?side1 ?side2 ?side3 ?side4 ?side5 ?side6 ?side7 ?side8 A26.out).mono ?_
        (case side1 => exact zc (Kd.R_reads' HO331.out).2.2)
        (case side2 => exact (Kd.R_reads' HO331.out).2.1)
        (case side3 => exact zc (Kd.R_reads' HO335.out).2.2)
        (case side4 => exact (Kd.R_reads' HO335.out).2.1)
        (case side5 => exact zc (Kd.S_reads' HO340.out).2.2)
        (case side6 => exact (Kd.S_reads' HO340.out).2.1)
        (case side7 => exact zc (Kd.R_reads' HO345.out).2.2)
        (case side8 => exact (Kd.R_reads' HO345.out).2.1)
        rintro e w44 ⟨rfl, hb⟩
        refine ⟨_, rfl, ?_⟩
        replace HO331 := Aside0.mk (Kd.R_below (zr HO331) hb)
        replace HO335 := Aside0.mk (Kd.R_below (zr HO335) hb)
        replace HO340 := Aside0.mk (Kd.S_below (by (with_reducible repeat (first | apply Kd.S_alloc | apply Kd.S_drewN | apply Kd.S_drew)); exact HO340.out) hb)
        replace HO345 := Aside0.mk (Kd.R_below (zr HO345) hb)
        replace HO351 := Aside0.mk (Kd.R_below (zr HO351) hb)
        replace HO355 := Aside0.mk (Kd.R_below (zr HO355) hb)
        replace HO360 := Aside0.mk (Kd.S_below (by (with_reducible repeat (first | apply Kd.S_alloc | apply Kd.S_drewN | apply Kd.S_drew)); exact HO360.out) hb)
        replace HO365 := Aside0.mk (Kd.R_below (zr HO365) hb)
        replace HO371 := Aside0.mk (Kd.R_below (zr HO371) hb)
        replace HO375 := Aside0.mk (Kd.R_below (zr HO375) hb)
        replace HO380 := Aside0.mk (Kd.S_below (by (with_reducible repeat (first | apply Kd.S_alloc | apply Kd.S_drewN | apply Kd.S_drew)); exact HO380.out) hb)
        replace HO385 := Aside0.mk (Kd.R_below (zr HO385) hb)
        replace BK347 := kb BK347 hb
        replace BK388 := kb BK388 hb
        replace HB := Aside0.mk (below_step (zb HB) hb)
        (try clear hb)
        refine hK.out _ _ (an (b11 BK347) (b11 BK388)) (fun hHeld => ?_)
        clear hK K
        refine nm ?_
        refine pu 2 (some 26) (bm 39 7) rfl rfl ?_
        refine pu 3 (some 27) (bm 39 15) rfl rfl ?_
        refine pu 5 (some 29) (bm 39 47) rfl rfl ?_
        refine tk 4 (some 28) (bm 39 63) rfl rfl hHeld ?_
        refine pu 6 (some 30) (bm 39 127) rfl rfl ?_
        refine pu 7 (some 31) (bm 39 255) rfl rfl ?_
        refine pu 8 (some 32) (bm 39 511) rfl rfl ?_
        refine pu 9 (some 33) (bm 39 1023) rfl rfl ?_
        refine pu 10 (some 34) (bm 39 2047) rfl rfl ?_
        refine pu 11 (some 35) (bm 39 4095) rfl rfl ?_
        refine pu 12 (some 36) (bm 39 8191) rfl rfl ?_
        refine tk 13 (some 37) (bm 39 16383) rfl rfl hHeld ?_
        refine tk 14 (some 38) (bm 39 32767) rfl rfl hHeld ?_
        refine one_ (i := 15) (N := some 39) (bm 39 65535) rfl rfl (one_of HT_.out (by kernel_rfl)) (by decide) (fun K hK => ?_)
        refine gs Try.func31 #[.agg #[.bool t368, .slice Ao38 t369.length co38, .int .i64 t372, .slice Ao39 t373.length co39, .int .i64 t376, .string t377, .slice Ao40 t378.length co40, .int .i64 t381, .int .i64 t382, .slice Ao41 t383.length co41, .bool t386], .agg #[.bool t328, .slice Ao12 t329.length co12, .int .i64 t332, .slice Ao13 t333.length co13, .int .i64 t336, .string t337, .slice Ao14 t338.length co14, .int .i64 t341, .int .i64 t342, .slice Ao15 t343.length co15, .bool true]] ?_
        with_reducible refine (laws_lkEnd.calls k t368 _ _ t369 t372 _ _ t373 t376 t377 _ _ t378 t381 t382 _ _ t383 t386 t328 _ _ t329 t332 _ _ t333 t336 t337 _ _ t338 t341 t342 _ _ t343 true true _ ?side1 ?side2 ?side3 ?side4 ?side5 ?side6 ?side7 ?side8 ?side9 ?side10 ?side11 ?side12 ?side13 ?side14 ?side15 ?side16 A30.out).mono ?_
        (case side1 => exact zc (Kd.R_reads' HO371.out).2.2)
        (case side2 => exact (Kd.R_reads' HO371.out).2.1)
        (case side3 => exact zc (Kd.R_reads' HO375.out).2.2)
        (case side4 => exact (Kd.R_reads' HO375.out).2.1)
        (case side5 => exact zc (Kd.S_reads' HO380.out).2.2)
        (case side6 => exact (Kd.S_reads' HO380.out).2.1)
        (case side7 => exact zc (Kd.R_reads' HO385.out).2.2)
        (case side8 => exact (Kd.R_reads' HO385.out).2.1)
        (case side9 => exact zc (Kd.R_reads' HO331.out).2.2)
        (case side10 => exact (Kd.R_reads' HO331.out).2.1)
        (case side11 => exact zc (Kd.R_reads' HO335.out).2.2)
        (case side12 => exact (Kd.R_reads' HO335.out).2.1)
        (case side13 => exact zc (Kd.S_reads' HO340.out).2.2)
        (case side14 => exact (Kd.S_reads' HO340.out).2.1)
        (case side15 => exact zc (Kd.R_reads' HO345.out).2.2)
        (case side16 => exact (Kd.R_reads' HO345.out).2.1)
        rintro e w45 ⟨rfl, hb⟩
        refine ⟨_, rfl, ?_⟩
        replace HO331 := Aside0.mk (Kd.R_below (zr HO331) hb)
        replace HO335 := Aside0.mk (Kd.R_below (zr HO335) hb)
        replace HO340 := Aside0.mk (Kd.S_below (by (with_reducible repeat (first | apply Kd.S_alloc | apply Kd.S_drewN | apply Kd.S_drew)); exact HO340.out) hb)
        replace HO345 := Aside0.mk (Kd.R_below (zr HO345) hb)
        replace HO351 := Aside0.mk (Kd.R_below (zr HO351) hb)
        replace HO355 := Aside0.mk (Kd.R_below (zr HO355) hb)
        replace HO360 := Aside0.mk (Kd.S_below (by (with_reducible repeat (first | apply Kd.S_alloc | apply Kd.S_drewN | apply Kd.S_drew)); exact HO360.out) hb)
        replace HO365 := Aside0.mk (Kd.R_below (zr HO365) hb)
        replace HO371 := Aside0.mk (Kd.R_below (zr HO371) hb)
        replace HO375 := Aside0.mk (Kd.R_below (zr HO375) hb)
        replace HO380 := Aside0.mk (Kd.S_below (by (with_reducible repeat (first | apply Kd.S_alloc | apply Kd.S_drewN | apply Kd.S_drew)); exact HO380.out) hb)
        replace HO385 := Aside0.mk (Kd.R_below (zr HO385) hb)
        replace BK347 := kb BK347 hb
        replace BK388 := kb BK388 hb
        replace HB := Aside0.mk (below_step (zb HB) hb)
        (try clear hb)
        refine hK.out _ _ (an (b11 BK347) (b11 BK388)) (fun hHeld => ?_)
        clear hK K
        refine nm ?_
        refine pu 16 (some 40) (bm 39 131071) rfl rfl ?_
        refine pu 17 (some 41) (bm 39 262143) rfl rfl ?_
        refine pu 18 (some 42) (bm 39 524287) rfl rfl ?_
        refine tk 19 (some 43) (bm 39 1048575) rfl rfl hHeld ?_
        refine pu 20 (some 44) (bm 39 2097151) rfl rfl ?_
        refine pu 21 (some 45) (bm 39 4194303) rfl rfl ?_
        refine pu 22 (some 46) (bm 39 8388607) rfl rfl ?_
        refine pv 23 (some 47) (bm 39 16777215) rfl rfl ?_
        refine pv 24 (some 48) (bm 39 33554431) rfl rfl ?_
        refine pv 25 (some 49) (bm 39 67108863) rfl rfl ?_
        refine pv 26 (some 50) (bm 39 134217727) rfl rfl ?_
        refine pu 27 (some 51) (bm 39 268435455) rfl rfl ?_
        refine pu 28 (some 52) (bm 39 536870911) rfl rfl ?_
        refine pv 29 (some 53) (bm 39 1073741823) rfl rfl ?_
        refine pv 30 (some 54) (bm 39 2147483647) rfl rfl ?_
        refine pv 31 (some 55) (bm 39 4294967295) rfl rfl ?_
        refine pv 32 (some 56) (bm 39 8589934591) rfl rfl ?_
        refine pv 33 (some 57) (bm 39 17179869183) rfl rfl ?_
        refine pv 34 (some 58) (bm 39 34359738367) rfl rfl ?_
        refine pv 35 (some 59) (bm 39 68719476735) rfl rfl ?_
        refine pv 36 (some 60) (bm 39 137438953471) rfl rfl ?_
        refine pu 37 (some 61) (bm 39 274877906943) rfl rfl ?_
        refine pu 38 (some 2) (bm 39 549755813887) rfl rfl ?_
        refine done_ (done_of HT_.out (by kernel_rfl)) ?_
        try go_wp2
        go_ret
        exact ⟨ze, zb HB⟩
       ·replace c32 := Bool.eq_false_iff.mpr c32
        subst c32
        rw [if_neg (show ¬ (false = true) by decide)] at H
        by_cases c46 : (t338.length : Int) = 0
        ·rw [if_pos c46] at H
         have c46b0 : ((t338.length : Int) == 0) = true := beq_iff_eq.mpr c46
         have c46b1 : ((t338.length : Int) != 0) = false := bne_eq_false_iff_eq.mpr c46
         clear c46
         obtain ⟨t391, A47, H⟩ := ob H
         (try dsimp only at H)
         obtain ⟨t392, A48, H⟩ := ob H
         (try dsimp only at H)
         obtain rfl := Option.some.inj H
         obtain ⟨hcz49_0, hcz49_1, hcz49_2, hcz49_3, hcz49_4, hcz49_5, hcz49_6, hcz49_7, hcz49_8, hcz49_9, hcz49_10, hfz49_0, hfz49_1, hfz49_2, hfz49_3, hfz49_4, hfz49_5, hfz49_6, hfz49_7, hfz49_8, hfz49_9, hfz49_10⟩ := c11 BK347
         try go_wp2_with (first | ((with_reducible refine gq 32 rfl ?_); refine gl (some 21) Try.func32 #[.agg #[.bool t328, .slice Ao12 t329.length co12, .int .i64 t332, .slice Ao13 t333.length co13, .int .i64 t336, .string t337, .slice Ao14 t338.length co14, .int .i64 t341, .int .i64 t342, .slice Ao15 t343.length co15, .bool false]] ?_; (with_reducible refine (impl_EndWrite.calls k t328 _ _ t329 t332 _ _ t333 t336 t337 _ _ t338 t341 t342 _ _ t343 false t368 t369 t372 t373 t376 t377 t378 t381 t382 t383 t386 t387 _ ?side1 ?side2 ?side3 ?side4 ?side5 ?side6 ?side7 ?side8 A25.out).mono ?_); (case side1 => exact zc (Kd.R_reads' HO331.out).2.2); (case side2 => exact (Kd.R_reads' HO331.out).2.1); (case side3 => exact zc (Kd.R_reads' HO335.out).2.2); (case side4 => exact (Kd.R_reads' HO335.out).2.1); (case side5 => exact zc (Kd.S_reads' HO340.out).2.2); (case side6 => exact (Kd.S_reads' HO340.out).2.1); (case side7 => exact zc (Kd.R_reads' HO345.out).2.2); (case side8 => exact (Kd.R_reads' HO345.out).2.1); rintro e w50 ⟨v370, v374, v379, v384, rfl, ho0, ho1, ho2, ho3, hb⟩; refine ⟨_, rfl, ?_⟩; have HO371 := Aside0.mk (Kd.R_lower (Kd.R_new' (Kd.R_new' (Kd.R_new' (Kd.R_new' ho0 (Kd.R_lt (zr HO331))) (Kd.R_lt (zr HO335))) (Kd.R_lt (zr HO351))) (Kd.R_lt (zr HO355))) (below_size (zb HB))); have HO375 := Aside0.mk (Kd.R_lower (Kd.R_new' (Kd.R_new' (Kd.R_new' (Kd.R_new' ho1 (Kd.R_lt (zr HO331))) (Kd.R_lt (zr HO335))) (Kd.R_lt (zr HO351))) (Kd.R_lt (zr HO355))) (below_size (zb HB))); have HO380 := Aside0.mk (Kd.S_lower (Kd.S_new' (Kd.S_new' (Kd.S_new' (Kd.S_new' (Kd.S_new' (Kd.S_new' ho2 (Kd.R_lt (zr HO331))) (Kd.R_lt (zr HO335))) (Kd.S_lt (by (with_reducible repeat (first | apply Kd.S_alloc | apply Kd.S_drewN | apply Kd.S_drew)); exact HO340.out))) (Kd.R_lt (zr HO351))) (Kd.R_lt (zr HO355))) (Kd.S_lt (by (with_reducible repeat (first | apply Kd.S_alloc | apply Kd.S_drewN | apply Kd.S_drew)); exact HO360.out))) (below_size (zb HB))); replace HO331 := Aside0.mk (Kd.R_mono (Kd.R_told (Kd.R_told (Kd.R_old (zr HO331) hb) (Kd.R_base ho0)) (Kd.R_base ho1)) (fun _ h_ => h_.1)); replace HO335 := Aside0.mk (Kd.R_mono (Kd.R_told (Kd.R_told (Kd.R_old (zr HO335) hb) (Kd.R_base ho0)) (Kd.R_base ho1)) (fun _ h_ => h_.1)); replace HO340 := Aside0.mk (Kd.S_mono (Kd.S_told (Kd.S_told (Kd.S_told (Kd.S_old (by (with_reducible repeat (first | apply Kd.S_alloc | apply Kd.S_drewN | apply Kd.S_drew)); exact HO340.out) hb) (Kd.R_base ho0)) (Kd.R_base ho1)) (Kd.S_base ho2)) (fun _ h_ => h_.1)); replace HO351 := Aside0.mk (Kd.R_mono (Kd.R_told (Kd.R_told (Kd.R_old (zr HO351) hb) (Kd.R_base ho0)) (Kd.R_base ho1)) (fun _ h_ => h_.1)); replace HO355 := Aside0.mk (Kd.R_mono (Kd.R_told (Kd.R_told (Kd.R_old (zr HO355) hb) (Kd.R_base ho0)) (Kd.R_base ho1)) (fun _ h_ => h_.1)); replace HO360 := Aside0.mk (Kd.S_mono (Kd.S_told (Kd.S_told (Kd.S_told (Kd.S_old (by (with_reducible repeat (first | apply Kd.S_alloc | apply Kd.S_drewN | apply Kd.S_drew)); exact HO360.out) hb) (Kd.R_base ho0)) (Kd.R_base ho1)) (Kd.S_base ho2)) (fun _ h_ => h_.1)); have HO385 := Aside0.mk (Kd.R_lower (Kd.R_new' (Kd.R_new' ho3 (Kd.R_lt (zr HO345))) (Kd.R_lt (zr HO365))) (below_size (zb HB))); replace HO345 := Aside0.mk (Kd.R_elder' (zr HO345) (Kd.R_base ho3) hb); replace HO365 := Aside0.mk (Kd.R_elder' (zr HO365) (Kd.R_base ho3) hb); replace BK347 := kb BK347 hb; replace HB := Aside0.mk (below_step (zb HB) hb); (try clear hb); (try clear ho0); (try clear ho1); (try clear ho2); (try clear ho3)) | ((with_reducible refine gd 5 rfl ?_); (try (refine gate_guard (by rfl) ?_; dsimp only)); refine bx (N := 5) (cs := #[.bool false, .slice none 0 0, .int .i64 0, .slice none 0 0, .int .i64 0, .string (⟨#[]⟩ : ByteArray), .slice none 0 0, .int .i64 0, .int .i64 0, .slice none 0 0, .bool false]) (t := 42) ?_; intro gb388 hg w51 hbox hb; replace HO331 := Aside0.mk (Kd.R_below (zr HO331) hb); replace HO335 := Aside0.mk (Kd.R_below (zr HO335) hb); replace HO340 := Aside0.mk (Kd.S_below (by (with_reducible repeat (first | apply Kd.S_alloc | apply Kd.S_drewN | apply Kd.S_drew)); exact HO340.out) hb); replace HO345 := Aside0.mk (Kd.R_below (zr HO345) hb); replace HO351 := Aside0.mk (Kd.R_below (zr HO351) hb); replace HO355 := Aside0.mk (Kd.R_below (zr HO355) hb); replace HO360 := Aside0.mk (Kd.S_below (by (with_reducible repeat (first | apply Kd.S_alloc | apply Kd.S_drewN | apply Kd.S_drew)); exact HO360.out) hb); replace HO365 := Aside0.mk (Kd.R_below (zr HO365) hb); replace HO371 := Aside0.mk (Kd.R_below (zr HO371) hb); replace HO375 := Aside0.mk (Kd.R_below (zr HO375) hb); replace HO380 := Aside0.mk (Kd.S_below (by (with_reducible repeat (first | apply Kd.S_alloc | apply Kd.S_drewN | apply Kd.S_drew)); exact HO380.out) hb); replace HO385 := Aside0.mk (Kd.R_below (zr HO385) hb); have BK388 := Aside0.mk (hbox); have GW388 := gw HB hg; have GE388 := GW388; replace HB := Aside0.mk (below_step (zb HB) hb); obtain ⟨NB347_388, NB388_347⟩ := nb BK347 hg; replace BK347 := kb BK347 hb; clear hb hbox hg; have hnb52 := NB388_347.out; have hnc52 := NB347_388.out; obtain ⟨hcz53_0, hcz53_1, hcz53_2, hcz53_3, hcz53_4, hcz53_5, hcz53_6, hcz53_7, hcz53_8, hcz53_9, hcz53_10, hfz53_0, hfz53_1, hfz53_2, hfz53_3, hfz53_4, hfz53_5, hfz53_6, hfz53_7, hfz53_8, hfz53_9, hfz53_10⟩ := c11 BK388; obtain ⟨Ao54, co54, eo54⟩ := Kd.R_slice HO371.out; subst eo54; obtain ⟨Ao55, co55, eo55⟩ := Kd.R_slice HO375.out; subst eo55; obtain ⟨Ao56, co56, eo56⟩ := Kd.S_slice HO380.out; subst eo56; obtain ⟨Ao57, co57, eo57⟩ := Kd.R_slice HO385.out; subst eo57))
         have n0_ : Aside0 (Kd.R k88 88 (((((((((((w51.setCell ⟨gb388, 0, none⟩ (.bool t368)).setCell ⟨gb388, 1, none⟩ (.slice Ao54 t369.length co54)).setCell ⟨gb388, 2, none⟩ (.int .i64 t372)).setCell ⟨gb388, 3, none⟩ (.slice Ao55 t373.length co55)).setCell ⟨gb388, 4, none⟩ (.int .i64 t376)).setCell ⟨gb388, 5, none⟩ (.string t377)).setCell ⟨gb388, 6, none⟩ (.slice Ao56 t378.length co56)).setCell ⟨gb388, 7, none⟩ (.int .i64 t381)).setCell ⟨gb388, 8, none⟩ (.int .i64 t382)).setCell ⟨gb388, 9, none⟩ (.slice Ao57 t383.length co57)).setCell ⟨gb388, 10, none⟩ (.bool t386)) w.heap.size (fun k_ => some k_ ≠ (.slice Ao13 t333.length co13 : Value).ownBlock ∧ some k_ ≠ (.slice Ao19 t349.length co19 : Value).ownBlock ∧ some k_ ≠ (.slice Ao20 t353.length co20 : Value).ownBlock ∧ some k_ ≠ (.slice Ao54 t369.length co54 : Value).ownBlock ∧ some k_ ≠ (.slice Ao55 t373.length co55 : Value).ownBlock) (.slice Ao12 t329.length co12) t329) := ⟨(Kd.R_mono (ztR (Kd.R_types HO331.out BK388.out (by decide))) (fun _ hk => ⟨hk.1.1.1.1.1, ⟨hk.1.1.1.1.2, ⟨hk.1.1.1.2, ⟨hk.1.1.2, hk.1.2⟩⟩⟩⟩))⟩
         have n1_ : Aside0 (Kd.R k88 88 (((((((((((w51.setCell ⟨gb388, 0, none⟩ (.bool t368)).setCell ⟨gb388, 1, none⟩ (.slice Ao54 t369.length co54)).setCell ⟨gb388, 2, none⟩ (.int .i64 t372)).setCell ⟨gb388, 3, none⟩ (.slice Ao55 t373.length co55)).setCell ⟨gb388, 4, none⟩ (.int .i64 t376)).setCell ⟨gb388, 5, none⟩ (.string t377)).setCell ⟨gb388, 6, none⟩ (.slice Ao56 t378.length co56)).setCell ⟨gb388, 7, none⟩ (.int .i64 t381)).setCell ⟨gb388, 8, none⟩ (.int .i64 t382)).setCell ⟨gb388, 9, none⟩ (.slice Ao57 t383.length co57)).setCell ⟨gb388, 10, none⟩ (.bool t386)) w.heap.size (fun k_ => some k_ ≠ (.slice Ao12 t329.length co12 : Value).ownBlock ∧ some k_ ≠ (.slice Ao19 t349.length co19 : Value).ownBlock ∧ some k_ ≠ (.slice Ao20 t353.length co20 : Value).ownBlock ∧ some k_ ≠ (.slice Ao54 t369.length co54 : Value).ownBlock ∧ some k_ ≠ (.slice Ao55 t373.length co55 : Value).ownBlock) (.slice Ao13 t333.length co13) t333) := ⟨(Kd.R_mono (ztR (Kd.R_types HO335.out BK388.out (by decide))) (fun _ hk => ⟨hk.1.1.1.1.1, ⟨hk.1.1.1.1.2, ⟨hk.1.1.1.2, ⟨hk.1.1.2, hk.1.2⟩⟩⟩⟩))⟩
         have n2_ : Aside0 (Kd.S k104 104 (((((((((((w51.setCell ⟨gb388, 0, none⟩ (.bool t368)).setCell ⟨gb388, 1, none⟩ (.slice Ao54 t369.length co54)).setCell ⟨gb388, 2, none⟩ (.int .i64 t372)).setCell ⟨gb388, 3, none⟩ (.slice Ao55 t373.length co55)).setCell ⟨gb388, 4, none⟩ (.int .i64 t376)).setCell ⟨gb388, 5, none⟩ (.string t377)).setCell ⟨gb388, 6, none⟩ (.slice Ao56 t378.length co56)).setCell ⟨gb388, 7, none⟩ (.int .i64 t381)).setCell ⟨gb388, 8, none⟩ (.int .i64 t382)).setCell ⟨gb388, 9, none⟩ (.slice Ao57 t383.length co57)).setCell ⟨gb388, 10, none⟩ (.bool t386)) w.heap.size (fun k_ => some k_ ≠ (.slice Ao12 t329.length co12 : Value).ownBlock ∧ some k_ ≠ (.slice Ao13 t333.length co13 : Value).ownBlock ∧ some k_ ≠ (.slice Ao19 t349.length co19 : Value).ownBlock ∧ some k_ ≠ (.slice Ao20 t353.length co20 : Value).ownBlock ∧ some k_ ≠ (.slice Ao21 t358.length co21 : Value).ownBlock ∧ some k_ ≠ (.slice Ao54 t369.length co54 : Value).ownBlock ∧ some k_ ≠ (.slice Ao55 t373.length co55 : Value).ownBlock ∧ some k_ ≠ (.slice Ao56 t378.length co56 : Value).ownBlock) (.slice Ao14 t338.length co14) t338) := ⟨by (with_reducible repeat (first | apply Kd.S_alloc | apply Kd.S_drewN | apply Kd.S_drew)); exact Kd.S_mono (ztS (Kd.S_types HO340.out BK388.out (by decide))) (fun _ hk => ⟨hk.1.1.1.1.1.1.1.1, ⟨hk.1.1.1.1.1.1.1.2, ⟨hk.1.1.1.1.1.1.2, ⟨hk.1.1.1.1.1.2, ⟨hk.1.1.1.1.2, ⟨hk.1.1.1.2, ⟨hk.1.1.2, hk.1.2⟩⟩⟩⟩⟩⟩⟩)⟩
         have n3_ : Aside0 (Kd.R k110 110 (((((((((((w51.setCell ⟨gb388, 0, none⟩ (.bool t368)).setCell ⟨gb388, 1, none⟩ (.slice Ao54 t369.length co54)).setCell ⟨gb388, 2, none⟩ (.int .i64 t372)).setCell ⟨gb388, 3, none⟩ (.slice Ao55 t373.length co55)).setCell ⟨gb388, 4, none⟩ (.int .i64 t376)).setCell ⟨gb388, 5, none⟩ (.string t377)).setCell ⟨gb388, 6, none⟩ (.slice Ao56 t378.length co56)).setCell ⟨gb388, 7, none⟩ (.int .i64 t381)).setCell ⟨gb388, 8, none⟩ (.int .i64 t382)).setCell ⟨gb388, 9, none⟩ (.slice Ao57 t383.length co57)).setCell ⟨gb388, 10, none⟩ (.bool t386)) w.heap.size (fun k_ => some k_ ≠ (.slice Ao22 t363.length co22 : Value).ownBlock ∧ some k_ ≠ (.slice Ao57 t383.length co57 : Value).ownBlock) (.slice Ao15 t343.length co15) t343) := ⟨(Kd.R_mono (ztR (Kd.R_types HO345.out BK388.out (by decide))) (fun _ hk => ⟨hk.1.1.2, hk.1.2⟩))⟩
         have n4_ : Aside0 (Kd.R k88 88 (((((((((((w51.setCell ⟨gb388, 0, none⟩ (.bool t368)).setCell ⟨gb388, 1, none⟩ (.slice Ao54 t369.length co54)).setCell ⟨gb388, 2, none⟩ (.int .i64 t372)).setCell ⟨gb388, 3, none⟩ (.slice Ao55 t373.length co55)).setCell ⟨gb388, 4, none⟩ (.int .i64 t376)).setCell ⟨gb388, 5, none⟩ (.string t377)).setCell ⟨gb388, 6, none⟩ (.slice Ao56 t378.length co56)).setCell ⟨gb388, 7, none⟩ (.int .i64 t381)).setCell ⟨gb388, 8, none⟩ (.int .i64 t382)).setCell ⟨gb388, 9, none⟩ (.slice Ao57 t383.length co57)).setCell ⟨gb388, 10, none⟩ (.bool t386)) w.heap.size (fun k_ => some k_ ≠ (.slice Ao12 t329.length co12 : Value).ownBlock ∧ some k_ ≠ (.slice Ao13 t333.length co13 : Value).ownBlock ∧ some k_ ≠ (.slice Ao20 t353.length co20 : Value).ownBlock ∧ some k_ ≠ (.slice Ao54 t369.length co54 : Value).ownBlock ∧ some k_ ≠ (.slice Ao55 t373.length co55 : Value).ownBlock) (.slice Ao19 t349.length co19) t349) := ⟨(Kd.R_mono (ztR (Kd.R_types HO351.out BK388.out (by decide))) (fun _ hk => ⟨hk.1.1.1.1.2, ⟨hk.1.1.1.2, ⟨hk.1.1.1.1.1, ⟨hk.1.1.2, hk.1.2⟩⟩⟩⟩))⟩
         have n5_ : Aside0 (Kd.R k88 88 (((((((((((w51.setCell ⟨gb388, 0, none⟩ (.bool t368)).setCell ⟨gb388, 1, none⟩ (.slice Ao54 t369.length co54)).setCell ⟨gb388, 2, none⟩ (.int .i64 t372)).setCell ⟨gb388, 3, none⟩ (.slice Ao55 t373.length co55)).setCell ⟨gb388, 4, none⟩ (.int .i64 t376)).setCell ⟨gb388, 5, none⟩ (.string t377)).setCell ⟨gb388, 6, none⟩ (.slice Ao56 t378.length co56)).setCell ⟨gb388, 7, none⟩ (.int .i64 t381)).setCell ⟨gb388, 8, none⟩ (.int .i64 t382)).setCell ⟨gb388, 9, none⟩ (.slice Ao57 t383.length co57)).setCell ⟨gb388, 10, none⟩ (.bool t386)) w.heap.size (fun k_ => some k_ ≠ (.slice Ao12 t329.length co12 : Value).ownBlock ∧ some k_ ≠ (.slice Ao13 t333.length co13 : Value).ownBlock ∧ some k_ ≠ (.slice Ao19 t349.length co19 : Value).ownBlock ∧ some k_ ≠ (.slice Ao54 t369.length co54 : Value).ownBlock ∧ some k_ ≠ (.slice Ao55 t373.length co55 : Value).ownBlock) (.slice Ao20 t353.length co20) t353) := ⟨(Kd.R_mono (ztR (Kd.R_types HO355.out BK388.out (by decide))) (fun _ hk => ⟨hk.1.1.1.1.2, ⟨hk.1.1.1.2, ⟨hk.1.1.1.1.1, ⟨hk.1.1.2, hk.1.2⟩⟩⟩⟩))⟩
         have n6_ : Aside0 (Kd.S k104 104 (((((((((((w51.setCell ⟨gb388, 0, none⟩ (.bool t368)).setCell ⟨gb388, 1, none⟩ (.slice Ao54 t369.length co54)).setCell ⟨gb388, 2, none⟩ (.int .i64 t372)).setCell ⟨gb388, 3, none⟩ (.slice Ao55 t373.length co55)).setCell ⟨gb388, 4, none⟩ (.int .i64 t376)).setCell ⟨gb388, 5, none⟩ (.string t377)).setCell ⟨gb388, 6, none⟩ (.slice Ao56 t378.length co56)).setCell ⟨gb388, 7, none⟩ (.int .i64 t381)).setCell ⟨gb388, 8, none⟩ (.int .i64 t382)).setCell ⟨gb388, 9, none⟩ (.slice Ao57 t383.length co57)).setCell ⟨gb388, 10, none⟩ (.bool t386)) w.heap.size (fun k_ => some k_ ≠ (.slice Ao12 t329.length co12 : Value).ownBlock ∧ some k_ ≠ (.slice Ao13 t333.length co13 : Value).ownBlock ∧ some k_ ≠ (.slice Ao14 t338.length co14 : Value).ownBlock ∧ some k_ ≠ (.slice Ao19 t349.length co19 : Value).ownBlock ∧ some k_ ≠ (.slice Ao20 t353.length co20 : Value).ownBlock ∧ some k_ ≠ (.slice Ao54 t369.length co54 : Value).ownBlock ∧ some k_ ≠ (.slice Ao55 t373.length co55 : Value).ownBlock ∧ some k_ ≠ (.slice Ao56 t378.length co56 : Value).ownBlock) (.slice Ao21 t358.length co21) t358) := ⟨by (with_reducible repeat (first | apply Kd.S_alloc | apply Kd.S_drewN | apply Kd.S_drew)); exact Kd.S_mono (ztS (Kd.S_types HO360.out BK388.out (by decide))) (fun _ hk => ⟨hk.1.1.1.1.1.1.2, ⟨hk.1.1.1.1.1.2, ⟨hk.1.1.1.1.2, ⟨hk.1.1.1.1.1.1.1.1, ⟨hk.1.1.1.1.1.1.1.2, ⟨hk.1.1.1.2, ⟨hk.1.1.2, hk.1.2⟩⟩⟩⟩⟩⟩⟩)⟩
         have n7_ : Aside0 (Kd.R k110 110 (((((((((((w51.setCell ⟨gb388, 0, none⟩ (.bool t368)).setCell ⟨gb388, 1, none⟩ (.slice Ao54 t369.length co54)).setCell ⟨gb388, 2, none⟩ (.int .i64 t372)).setCell ⟨gb388, 3, none⟩ (.slice Ao55 t373.length co55)).setCell ⟨gb388, 4, none⟩ (.int .i64 t376)).setCell ⟨gb388, 5, none⟩ (.string t377)).setCell ⟨gb388, 6, none⟩ (.slice Ao56 t378.length co56)).setCell ⟨gb388, 7, none⟩ (.int .i64 t381)).setCell ⟨gb388, 8, none⟩ (.int .i64 t382)).setCell ⟨gb388, 9, none⟩ (.slice Ao57 t383.length co57)).setCell ⟨gb388, 10, none⟩ (.bool t386)) w.heap.size (fun k_ => some k_ ≠ (.slice Ao15 t343.length co15 : Value).ownBlock ∧ some k_ ≠ (.slice Ao57 t383.length co57 : Value).ownBlock) (.slice Ao22 t363.length co22) t363) := ⟨(Kd.R_mono (ztR (Kd.R_types HO365.out BK388.out (by decide))) (fun _ hk => ⟨hk.1.1.2, hk.1.2⟩))⟩
         have n8_ : Aside0 (Kd.R k88 88 (((((((((((w51.setCell ⟨gb388, 0, none⟩ (.bool t368)).setCell ⟨gb388, 1, none⟩ (.slice Ao54 t369.length co54)).setCell ⟨gb388, 2, none⟩ (.int .i64 t372)).setCell ⟨gb388, 3, none⟩ (.slice Ao55 t373.length co55)).setCell ⟨gb388, 4, none⟩ (.int .i64 t376)).setCell ⟨gb388, 5, none⟩ (.string t377)).setCell ⟨gb388, 6, none⟩ (.slice Ao56 t378.length co56)).setCell ⟨gb388, 7, none⟩ (.int .i64 t381)).setCell ⟨gb388, 8, none⟩ (.int .i64 t382)).setCell ⟨gb388, 9, none⟩ (.slice Ao57 t383.length co57)).setCell ⟨gb388, 10, none⟩ (.bool t386)) w.heap.size (fun k_ => some k_ ≠ (.slice Ao12 t329.length co12 : Value).ownBlock ∧ some k_ ≠ (.slice Ao13 t333.length co13 : Value).ownBlock ∧ some k_ ≠ (.slice Ao19 t349.length co19 : Value).ownBlock ∧ some k_ ≠ (.slice Ao20 t353.length co20 : Value).ownBlock ∧ some k_ ≠ (.slice Ao55 t373.length co55 : Value).ownBlock) (.slice Ao54 t369.length co54) t369) := ⟨(Kd.R_mono (ztR (Kd.R_types HO371.out BK388.out (by decide))) (fun _ hk => ⟨hk.1.1.1.1.2, ⟨hk.1.1.1.2, ⟨hk.1.1.2, ⟨hk.1.2, hk.1.1.1.1.1⟩⟩⟩⟩))⟩
         have n9_ : Aside0 (Kd.R k88 88 (((((((((((w51.setCell ⟨gb388, 0, none⟩ (.bool t368)).setCell ⟨gb388, 1, none⟩ (.slice Ao54 t369.length co54)).setCell ⟨gb388, 2, none⟩ (.int .i64 t372)).setCell ⟨gb388, 3, none⟩ (.slice Ao55 t373.length co55)).setCell ⟨gb388, 4, none⟩ (.int .i64 t376)).setCell ⟨gb388, 5, none⟩ (.string t377)).setCell ⟨gb388, 6, none⟩ (.slice Ao56 t378.length co56)).setCell ⟨gb388, 7, none⟩ (.int .i64 t381)).setCell ⟨gb388, 8, none⟩ (.int .i64 t382)).setCell ⟨gb388, 9, none⟩ (.slice Ao57 t383.length co57)).setCell ⟨gb388, 10, none⟩ (.bool t386)) w.heap.size (fun k_ => some k_ ≠ (.slice Ao12 t329.length co12 : Value).ownBlock ∧ some k_ ≠ (.slice Ao13 t333.length co13 : Value).ownBlock ∧ some k_ ≠ (.slice Ao19 t349.length co19 : Value).ownBlock ∧ some k_ ≠ (.slice Ao20 t353.length co20 : Value).ownBlock ∧ some k_ ≠ (.slice Ao54 t369.length co54 : Value).ownBlock) (.slice Ao55 t373.length co55) t373) := ⟨(Kd.R_mono (ztR (Kd.R_types HO375.out BK388.out (by decide))) (fun _ hk => ⟨hk.1.1.1.1.2, ⟨hk.1.1.1.2, ⟨hk.1.1.2, ⟨hk.1.2, hk.1.1.1.1.1⟩⟩⟩⟩))⟩
         have n10_ : Aside0 (Kd.S k104 104 (((((((((((w51.setCell ⟨gb388, 0, none⟩ (.bool t368)).setCell ⟨gb388, 1, none⟩ (.slice Ao54 t369.length co54)).setCell ⟨gb388, 2, none⟩ (.int .i64 t372)).setCell ⟨gb388, 3, none⟩ (.slice Ao55 t373.length co55)).setCell ⟨gb388, 4, none⟩ (.int .i64 t376)).setCell ⟨gb388, 5, none⟩ (.string t377)).setCell ⟨gb388, 6, none⟩ (.slice Ao56 t378.length co56)).setCell ⟨gb388, 7, none⟩ (.int .i64 t381)).setCell ⟨gb388, 8, none⟩ (.int .i64 t382)).setCell ⟨gb388, 9, none⟩ (.slice Ao57 t383.length co57)).setCell ⟨gb388, 10, none⟩ (.bool t386)) w.heap.size (fun k_ => some k_ ≠ (.slice Ao12 t329.length co12 : Value).ownBlock ∧ some k_ ≠ (.slice Ao13 t333.length co13 : Value).ownBlock ∧ some k_ ≠ (.slice Ao14 t338.length co14 : Value).ownBlock ∧ some k_ ≠ (.slice Ao19 t349.length co19 : Value).ownBlock ∧ some k_ ≠ (.slice Ao20 t353.length co20 : Value).ownBlock ∧ some k_ ≠ (.slice Ao21 t358.length co21 : Value).ownBlock ∧ some k_ ≠ (.slice Ao54 t369.length co54 : Value).ownBlock ∧ some k_ ≠ (.slice Ao55 t373.length co55 : Value).ownBlock) (.slice Ao56 t378.length co56) t378) := ⟨by (with_reducible repeat (first | apply Kd.S_alloc | apply Kd.S_drewN | apply Kd.S_drew)); exact Kd.S_mono (ztS (Kd.S_types HO380.out BK388.out (by decide))) (fun _ hk => ⟨hk.1.1.1.1.1.1.2, ⟨hk.1.1.1.1.1.2, ⟨hk.1.1.1.1.2, ⟨hk.1.1.1.2, ⟨hk.1.1.2, ⟨hk.1.2, ⟨hk.1.1.1.1.1.1.1.1, hk.1.1.1.1.1.1.1.2⟩⟩⟩⟩⟩⟩⟩)⟩
         have n11_ : Aside0 (Kd.R k110 110 (((((((((((w51.setCell ⟨gb388, 0, none⟩ (.bool t368)).setCell ⟨gb388, 1, none⟩ (.slice Ao54 t369.length co54)).setCell ⟨gb388, 2, none⟩ (.int .i64 t372)).setCell ⟨gb388, 3, none⟩ (.slice Ao55 t373.length co55)).setCell ⟨gb388, 4, none⟩ (.int .i64 t376)).setCell ⟨gb388, 5, none⟩ (.string t377)).setCell ⟨gb388, 6, none⟩ (.slice Ao56 t378.length co56)).setCell ⟨gb388, 7, none⟩ (.int .i64 t381)).setCell ⟨gb388, 8, none⟩ (.int .i64 t382)).setCell ⟨gb388, 9, none⟩ (.slice Ao57 t383.length co57)).setCell ⟨gb388, 10, none⟩ (.bool t386)) w.heap.size (fun k_ => some k_ ≠ (.slice Ao15 t343.length co15 : Value).ownBlock ∧ some k_ ≠ (.slice Ao22 t363.length co22 : Value).ownBlock) (.slice Ao57 t383.length co57) t383) := ⟨(Kd.R_mono (ztR (Kd.R_types HO385.out BK388.out (by decide))) (fun _ hk => ⟨hk.1.1.2, hk.1.2⟩))⟩
         have n12_ : Aside0 ((((((((((((w51.setCell ⟨gb388, 0, none⟩ (.bool t368)).setCell ⟨gb388, 1, none⟩ (.slice Ao54 t369.length co54)).setCell ⟨gb388, 2, none⟩ (.int .i64 t372)).setCell ⟨gb388, 3, none⟩ (.slice Ao55 t373.length co55)).setCell ⟨gb388, 4, none⟩ (.int .i64 t376)).setCell ⟨gb388, 5, none⟩ (.string t377)).setCell ⟨gb388, 6, none⟩ (.slice Ao56 t378.length co56)).setCell ⟨gb388, 7, none⟩ (.int .i64 t381)).setCell ⟨gb388, 8, none⟩ (.int .i64 t382)).setCell ⟨gb388, 9, none⟩ (.slice Ao57 t383.length co57)).setCell ⟨gb388, 10, none⟩ (.bool t386)).heap[gb347]? = some (.cells #[.bool t328, .slice Ao12 t329.length co12, .int .i64 t332, .slice Ao13 t333.length co13, .int .i64 t336, .string t337, .slice Ao14 t338.length co14, .int .i64 t341, .int .i64 t342, .slice Ao15 t343.length co15, .bool false] 42 (0, 0))) := ⟨zp BK347⟩
         have n13_ : Aside0 ((((((((((((w51.setCell ⟨gb388, 0, none⟩ (.bool t368)).setCell ⟨gb388, 1, none⟩ (.slice Ao54 t369.length co54)).setCell ⟨gb388, 2, none⟩ (.int .i64 t372)).setCell ⟨gb388, 3, none⟩ (.slice Ao55 t373.length co55)).setCell ⟨gb388, 4, none⟩ (.int .i64 t376)).setCell ⟨gb388, 5, none⟩ (.string t377)).setCell ⟨gb388, 6, none⟩ (.slice Ao56 t378.length co56)).setCell ⟨gb388, 7, none⟩ (.int .i64 t381)).setCell ⟨gb388, 8, none⟩ (.int .i64 t382)).setCell ⟨gb388, 9, none⟩ (.slice Ao57 t383.length co57)).setCell ⟨gb388, 10, none⟩ (.bool t386)).heap[gb388]? = some (.cells #[.bool t368, .slice Ao54 t369.length co54, .int .i64 t372, .slice Ao55 t373.length co55, .int .i64 t376, .string t377, .slice Ao56 t378.length co56, .int .i64 t381, .int .i64 t382, .slice Ao57 t383.length co57, .bool t386] 42 (0, 0))) := ⟨zp BK388⟩
         have n14_ : Aside0 (Below w.heap.size w (((((((((((w51.setCell ⟨gb388, 0, none⟩ (.bool t368)).setCell ⟨gb388, 1, none⟩ (.slice Ao54 t369.length co54)).setCell ⟨gb388, 2, none⟩ (.int .i64 t372)).setCell ⟨gb388, 3, none⟩ (.slice Ao55 t373.length co55)).setCell ⟨gb388, 4, none⟩ (.int .i64 t376)).setCell ⟨gb388, 5, none⟩ (.string t377)).setCell ⟨gb388, 6, none⟩ (.slice Ao56 t378.length co56)).setCell ⟨gb388, 7, none⟩ (.int .i64 t381)).setCell ⟨gb388, 8, none⟩ (.int .i64 t382)).setCell ⟨gb388, 9, none⟩ (.slice Ao57 t383.length co57)).setCell ⟨gb388, 10, none⟩ (.bool t386))) := ⟨zb HB⟩
         (try clear HO331)
         (try clear HO335)
         (try clear HO340)
         (try clear HO345)
         (try clear HO351)
         (try clear HO355)
         (try clear HO360)
         (try clear HO365)
         (try clear HO371)
         (try clear HO375)
         (try clear HO380)
         (try clear HO385)
         (try clear BK347)
         (try clear BK388)
         (try clear HB)
         generalize (((((((((((w51.setCell ⟨gb388, 0, none⟩ (.bool t368)).setCell ⟨gb388, 1, none⟩ (.slice Ao54 t369.length co54)).setCell ⟨gb388, 2, none⟩ (.int .i64 t372)).setCell ⟨gb388, 3, none⟩ (.slice Ao55 t373.length co55)).setCell ⟨gb388, 4, none⟩ (.int .i64 t376)).setCell ⟨gb388, 5, none⟩ (.string t377)).setCell ⟨gb388, 6, none⟩ (.slice Ao56 t378.length co56)).setCell ⟨gb388, 7, none⟩ (.int .i64 t381)).setCell ⟨gb388, 8, none⟩ (.int .i64 t382)).setCell ⟨gb388, 9, none⟩ (.slice Ao57 t383.length co57)).setCell ⟨gb388, 10, none⟩ (.bool t386)) = w58 at n0_ n1_ n2_ n3_ n4_ n5_ n6_ n7_ n8_ n9_ n10_ n11_ n12_ n13_ n14_ ⊢
         have HO331 := n0_
         have HO335 := n1_
         have HO340 := n2_
         have HO345 := n3_
         have HO351 := n4_
         have HO355 := n5_
         have HO360 := n6_
         have HO365 := n7_
         have HO371 := n8_
         have HO375 := n9_
         have HO380 := n10_
         have HO385 := n11_
         have BK347 := n12_
         have BK388 := n13_
         have HB := n14_
         clear n0_ n1_ n2_ n3_ n4_ n5_ n6_ n7_ n8_ n9_ n10_ n11_ n12_ n13_ n14_
         replace HO331 := Aside0.mk (Kd.R_drew HO331.out)
         replace HO335 := Aside0.mk (Kd.R_drew HO335.out)
         replace HO340 := Aside0.mk (Kd.S_drew HO340.out)
         replace HO345 := Aside0.mk (Kd.R_drew HO345.out)
         replace HO351 := Aside0.mk (Kd.R_drew HO351.out)
         replace HO355 := Aside0.mk (Kd.R_drew HO355.out)
         replace HO360 := Aside0.mk (Kd.S_drew HO360.out)
         replace HO365 := Aside0.mk (Kd.R_drew HO365.out)
         replace HO371 := Aside0.mk (Kd.R_drew HO371.out)
         replace HO375 := Aside0.mk (Kd.R_drew HO375.out)
         replace HO380 := Aside0.mk (Kd.S_drew HO380.out)
         replace HO385 := Aside0.mk (Kd.R_drew HO385.out)
         replace BK347 := Aside0.mk (blk_drew BK347.out)
         replace BK388 := Aside0.mk (blk_drew BK388.out)
         replace HB := Aside0.mk (below_drew1 HB.out)
         refine st 39 (an (b11 BK347) (b11 BK388)) (fun hHeld => ?_); refine with_tabW laws_FnEndNew.tab8 laws_FnEndNew.bits8 (fun HT_ HW_ => ?_)
         generalize w58.drew = w59 at HO331 HO335 HO340 HO345 HO351 HO355 HO360 HO365 HO371 HO375 HO380 HO385 BK347 BK388 HB hHeld ⊢
         refine tk 0 (some 24) (bm 39 1) rfl rfl hHeld ?_
         refine one_ (i := 1) (N := some 25) (bm 39 3) rfl rfl (one_of HT_.out (by kernel_rfl)) (by decide) (fun K hK => ?_)
         refine gs Try.func33 #[.agg #[.bool t328, .slice Ao12 t329.length co12, .int .i64 t332, .slice Ao13 t333.length co13, .int .i64 t336, .string t337, .slice Ao14 t338.length co14, .int .i64 t341, .int .i64 t342, .slice Ao15 t343.length co15, .bool false]] ?_
         with_reducible refine (impl_EndOk.calls k t328 _ _ t329 t332 _ _ t333 t336 t337 _ _ t338 t341 t342 _ _ t343 false true _ ?side1 ?side2 ?side3 ?side4 ?side5 ?side6 ?side7 ?side8 A26.out).mono ?_
         (case side1 => exact zc (Kd.R_reads' HO331.out).2.2)
         (case side2 => exact (Kd.R_reads' HO331.out).2.1)
         (case side3 => exact zc (Kd.R_reads' HO335.out).2.2)
         (case side4 => exact (Kd.R_reads' HO335.out).2.1)
         (case side5 => exact zc (Kd.S_reads' HO340.out).2.2)
         (case side6 => exact (Kd.S_reads' HO340.out).2.1)
         (case side7 => exact zc (Kd.R_reads' HO345.out).2.2)
         (case side8 => exact (Kd.R_reads' HO345.out).2.1)
         rintro e w60 ⟨rfl, hb⟩
         refine ⟨_, rfl, ?_⟩
         replace HO331 := Aside0.mk (Kd.R_below (zr HO331) hb)
         replace HO335 := Aside0.mk (Kd.R_below (zr HO335) hb)
         replace HO340 := Aside0.mk (Kd.S_below (by (with_reducible repeat (first | apply Kd.S_alloc | apply Kd.S_drewN | apply Kd.S_drew)); exact HO340.out) hb)
         replace HO345 := Aside0.mk (Kd.R_below (zr HO345) hb)
         replace HO351 := Aside0.mk (Kd.R_below (zr HO351) hb)
         replace HO355 := Aside0.mk (Kd.R_below (zr HO355) hb)
         replace HO360 := Aside0.mk (Kd.S_below (by (with_reducible repeat (first | apply Kd.S_alloc | apply Kd.S_drewN | apply Kd.S_drew)); exact HO360.out) hb)
         replace HO365 := Aside0.mk (Kd.R_below (zr HO365) hb)
         replace HO371 := Aside0.mk (Kd.R_below (zr HO371) hb)
         replace HO375 := Aside0.mk (Kd.R_below (zr HO375) hb)
         replace HO380 := Aside0.mk (Kd.S_below (by (with_reducible repeat (first | apply Kd.S_alloc | apply Kd.S_drewN | apply Kd.S_drew)); exact HO380.out) hb)
         replace HO385 := Aside0.mk (Kd.R_below (zr HO385) hb)
         replace BK347 := kb BK347 hb
         replace BK388 := kb BK388 hb
         replace HB := Aside0.mk (below_step (zb HB) hb)
         (try clear hb)
         refine hK.out _ _ (an (b11 BK347) (b11 BK388)) (fun hHeld => ?_)
         clear hK K
         refine nm ?_
         refine pu 2 (some 26) (bm 39 7) rfl rfl ?_
         refine pu 3 (some 27) (bm 39 15) rfl rfl ?_
         refine pu 5 (some 29) (bm 39 47) rfl rfl ?_
         refine tk 4 (some 28) (bm 39 63) rfl rfl hHeld ?_
         refine pu 6 (some 30) (bm 39 127) rfl rfl ?_
         refine pu 7 (some 31) (bm 39 255) rfl rfl ?_
         refine pu 8 (some 32) (bm 39 511) rfl rfl ?_
         refine pu 9 (some 33) (bm 39 1023) rfl rfl ?_
         refine pu 10 (some 34) (bm 39 2047) rfl rfl ?_
         refine pu 11 (some 35) (bm 39 4095) rfl rfl ?_
         refine pu 12 (some 36) (bm 39 8191) rfl rfl ?_
         refine tk 13 (some 37) (bm 39 16383) rfl rfl hHeld ?_
         refine tk 14 (some 38) (bm 39 32767) rfl rfl hHeld ?_
         refine one_ (i := 15) (N := some 39) (bm 39 65535) rfl rfl (one_of HT_.out (by kernel_rfl)) (by decide) (fun K hK => ?_)
         refine gs Try.func31 #[.agg #[.bool t368, .slice Ao54 t369.length co54, .int .i64 t372, .slice Ao55 t373.length co55, .int .i64 t376, .string t377, .slice Ao56 t378.length co56, .int .i64 t381, .int .i64 t382, .slice Ao57 t383.length co57, .bool t386], .agg #[.bool t328, .slice Ao12 t329.length co12, .int .i64 t332, .slice Ao13 t333.length co13, .int .i64 t336, .string t337, .slice Ao14 t338.length co14, .int .i64 t341, .int .i64 t342, .slice Ao15 t343.length co15, .bool false]] ?_
         with_reducible refine (laws_lkEnd.calls k t368 _ _ t369 t372 _ _ t373 t376 t377 _ _ t378 t381 t382 _ _ t383 t386 t328 _ _ t329 t332 _ _ t333 t336 t337 _ _ t338 t341 t342 _ _ t343 false true _ ?side1 ?side2 ?side3 ?side4 ?side5 ?side6 ?side7 ?side8 ?side9 ?side10 ?side11 ?side12 ?side13 ?side14 ?side15 ?side16 A30.out).mono ?_
         (case side1 => exact zc (Kd.R_reads' HO371.out).2.2)
         (case side2 => exact (Kd.R_reads' HO371.out).2.1)
         (case side3 => exact zc (Kd.R_reads' HO375.out).2.2)
         (case side4 => exact (Kd.R_reads' HO375.out).2.1)
         (case side5 => exact zc (Kd.S_reads' HO380.out).2.2)
         (case side6 => exact (Kd.S_reads' HO380.out).2.1)
         (case side7 => exact zc (Kd.R_reads' HO385.out).2.2)
         (case side8 => exact (Kd.R_reads' HO385.out).2.1)
         (case side9 => exact zc (Kd.R_reads' HO331.out).2.2)
         (case side10 => exact (Kd.R_reads' HO331.out).2.1)
         (case side11 => exact zc (Kd.R_reads' HO335.out).2.2)
         (case side12 => exact (Kd.R_reads' HO335.out).2.1)
         (case side13 => exact zc (Kd.S_reads' HO340.out).2.2)
         (case side14 => exact (Kd.S_reads' HO340.out).2.1)
         (case side15 => exact zc (Kd.R_reads' HO345.out).2.2)
         (case side16 => exact (Kd.R_reads' HO345.out).2.1)
         rintro e w61 ⟨rfl, hb⟩
         refine ⟨_, rfl, ?_⟩
         replace HO331 := Aside0.mk (Kd.R_below (zr HO331) hb)
         replace HO335 := Aside0.mk (Kd.R_below (zr HO335) hb)
         replace HO340 := Aside0.mk (Kd.S_below (by (with_reducible repeat (first | apply Kd.S_alloc | apply Kd.S_drewN | apply Kd.S_drew)); exact HO340.out) hb)
         replace HO345 := Aside0.mk (Kd.R_below (zr HO345) hb)
         replace HO351 := Aside0.mk (Kd.R_below (zr HO351) hb)
         replace HO355 := Aside0.mk (Kd.R_below (zr HO355) hb)
         replace HO360 := Aside0.mk (Kd.S_below (by (with_reducible repeat (first | apply Kd.S_alloc | apply Kd.S_drewN | apply Kd.S_drew)); exact HO360.out) hb)
         replace HO365 := Aside0.mk (Kd.R_below (zr HO365) hb)
         replace HO371 := Aside0.mk (Kd.R_below (zr HO371) hb)
         replace HO375 := Aside0.mk (Kd.R_below (zr HO375) hb)
         replace HO380 := Aside0.mk (Kd.S_below (by (with_reducible repeat (first | apply Kd.S_alloc | apply Kd.S_drewN | apply Kd.S_drew)); exact HO380.out) hb)
         replace HO385 := Aside0.mk (Kd.R_below (zr HO385) hb)
         replace BK347 := kb BK347 hb
         replace BK388 := kb BK388 hb
         replace HB := Aside0.mk (below_step (zb HB) hb)
         (try clear hb)
         refine hK.out _ _ (an (b11 BK347) (b11 BK388)) (fun hHeld => ?_)
         clear hK K
         refine nm ?_
         refine pu 16 (some 40) (bm 39 131071) rfl rfl ?_
         refine pu 17 (some 41) (bm 39 262143) rfl rfl ?_
         refine pu 18 (some 42) (bm 39 524287) rfl rfl ?_
         refine tk 19 (some 43) (bm 39 1048575) rfl rfl hHeld ?_
         refine pu 20 (some 44) (bm 39 2097151) rfl rfl ?_
         refine pu 21 (some 45) (bm 39 4194303) rfl rfl ?_
         refine pu 22 (some 46) (bm 39 8388607) rfl rfl ?_
         refine pu 23 (some 47) (bm 39 16777215) rfl rfl ?_
         refine tk 24 (some 48) (bm 39 33554431) rfl rfl hHeld ?_
         refine pu 25 (some 49) (bm 39 67108863) rfl rfl ?_
         refine pu 26 (some 50) (bm 39 134217727) rfl rfl ?_
         refine pu 27 (some 51) (bm 39 268435455) rfl rfl ?_
         refine pu 28 (some 52) (bm 39 536870911) rfl rfl ?_
         refine pu 29 (some 53) (bm 39 1073741823) rfl rfl ?_
         refine pu 32 (some 56) (bm 39 5368709119) rfl rfl ?_
         refine tk 30 (some 54) (bm 39 6442450943) rfl rfl hHeld ?_
         refine tk 33 (some 57) (bm 39 15032385535) rfl rfl hHeld ?_
         refine one_ (i := 31) (N := some 55) (bm 39 17179869183) rfl rfl (one_of HT_.out (by kernel_rfl)) (by decide) (fun K hK => ?_)
         refine gs Try.func34 #[.agg #[.slice Ao12 t329.length co12, .int .i64 t332]] ?_
         with_reducible refine (impl_TableSize.calls k _ _ t329 t332 t391 _ ?side1 ?side2 A47.out).mono ?_
         (case side1 => exact zc (Kd.R_reads' HO331.out).2.2)
         (case side2 => exact (Kd.R_reads' HO331.out).2.1)
         rintro e w62 ⟨rfl, hb⟩
         refine ⟨_, rfl, ?_⟩
         replace HO331 := Aside0.mk (Kd.R_below (zr HO331) hb)
         replace HO335 := Aside0.mk (Kd.R_below (zr HO335) hb)
         replace HO340 := Aside0.mk (Kd.S_below (by (with_reducible repeat (first | apply Kd.S_alloc | apply Kd.S_drewN | apply Kd.S_drew)); exact HO340.out) hb)
         replace HO345 := Aside0.mk (Kd.R_below (zr HO345) hb)
         replace HO351 := Aside0.mk (Kd.R_below (zr HO351) hb)
         replace HO355 := Aside0.mk (Kd.R_below (zr HO355) hb)
         replace HO360 := Aside0.mk (Kd.S_below (by (with_reducible repeat (first | apply Kd.S_alloc | apply Kd.S_drewN | apply Kd.S_drew)); exact HO360.out) hb)
         replace HO365 := Aside0.mk (Kd.R_below (zr HO365) hb)
         replace HO371 := Aside0.mk (Kd.R_below (zr HO371) hb)
         replace HO375 := Aside0.mk (Kd.R_below (zr HO375) hb)
         replace HO380 := Aside0.mk (Kd.S_below (by (with_reducible repeat (first | apply Kd.S_alloc | apply Kd.S_drewN | apply Kd.S_drew)); exact HO380.out) hb)
         replace HO385 := Aside0.mk (Kd.R_below (zr HO385) hb)
         replace BK347 := kb BK347 hb
         replace BK388 := kb BK388 hb
         replace HB := Aside0.mk (below_step (zb HB) hb)
         (try clear hb)
         refine hK.out _ _ (an (b11 BK347) (b11 BK388)) (fun hHeld => ?_)
         clear hK K
         refine nm ?_
         refine one_ (i := 34) (N := some 58) (bm 39 34359738367) rfl rfl (one_of HT_.out (by kernel_rfl)) (by decide) (fun K hK => ?_)
         refine gs Try.func34 #[.agg #[.slice Ao13 t333.length co13, .int .i64 t336]] ?_
         with_reducible refine (impl_TableSize.calls k _ _ t333 t336 t392 _ ?side1 ?side2 A48.out).mono ?_
         (case side1 => exact zc (Kd.R_reads' HO335.out).2.2)
         (case side2 => exact (Kd.R_reads' HO335.out).2.1)
         rintro e w63 ⟨rfl, hb⟩
         refine ⟨_, rfl, ?_⟩
         replace HO331 := Aside0.mk (Kd.R_below (zr HO331) hb)
         replace HO335 := Aside0.mk (Kd.R_below (zr HO335) hb)
         replace HO340 := Aside0.mk (Kd.S_below (by (with_reducible repeat (first | apply Kd.S_alloc | apply Kd.S_drewN | apply Kd.S_drew)); exact HO340.out) hb)
         replace HO345 := Aside0.mk (Kd.R_below (zr HO345) hb)
         replace HO351 := Aside0.mk (Kd.R_below (zr HO351) hb)
         replace HO355 := Aside0.mk (Kd.R_below (zr HO355) hb)
         replace HO360 := Aside0.mk (Kd.S_below (by (with_reducible repeat (first | apply Kd.S_alloc | apply Kd.S_drewN | apply Kd.S_drew)); exact HO360.out) hb)
         replace HO365 := Aside0.mk (Kd.R_below (zr HO365) hb)
         replace HO371 := Aside0.mk (Kd.R_below (zr HO371) hb)
         replace HO375 := Aside0.mk (Kd.R_below (zr HO375) hb)
         replace HO380 := Aside0.mk (Kd.S_below (by (with_reducible repeat (first | apply Kd.S_alloc | apply Kd.S_drewN | apply Kd.S_drew)); exact HO380.out) hb)
         replace HO385 := Aside0.mk (Kd.R_below (zr HO385) hb)
         replace BK347 := kb BK347 hb
         replace BK388 := kb BK388 hb
         replace HB := Aside0.mk (below_step (zb HB) hb)
         (try clear hb)
         refine hK.out _ _ (an (b11 BK347) (b11 BK388)) (fun hHeld => ?_)
         clear hK K
         refine nm ?_
         refine pu 35 (some 59) (bm 39 68719476735) rfl rfl ?_
         refine pu 36 (some 60) (bm 39 137438953471) rfl rfl ?_
         refine pu 37 (some 61) (bm 39 274877906943) rfl rfl ?_
         refine pu 38 (some 2) (bm 39 549755813887) rfl rfl ?_
         refine done_ (done_of HT_.out (by kernel_rfl)) ?_
         try go_wp2
         go_ret
         exact ⟨ze, zb HB⟩
        ·rw [if_neg c46] at H
         have c46b0 : ((t338.length : Int) == 0) = false := beq_eq_false_iff_ne.mpr c46
         have c46b1 : ((t338.length : Int) != 0) = true := bne_iff_ne.mpr c46
         have c46b2 : ¬ (t338 = []) := fun h_ => c46 (by rw [h_]; rfl)
         obtain rfl := Option.some.inj H
         obtain ⟨hcz64_0, hcz64_1, hcz64_2, hcz64_3, hcz64_4, hcz64_5, hcz64_6, hcz64_7, hcz64_8, hcz64_9, hcz64_10, hfz64_0, hfz64_1, hfz64_2, hfz64_3, hfz64_4, hfz64_5, hfz64_6, hfz64_7, hfz64_8, hfz64_9, hfz64_10⟩ := c11 BK347
         try go_wp2_with (first | ((with_reducible refine gq 32 rfl ?_); refine gl (some 21) Try.func32 #[.agg #[.bool t328, .slice Ao12 t329.length co12, .int .i64 t332, .slice Ao13 t333.length co13, .int .i64 t336, .string t337, .slice Ao14 t338.length co14, .int .i64 t341, .int .i64 t342, .slice Ao15 t343.length co15, .bool false]] ?_; (with_reducible refine (impl_EndWrite.calls k t328 _ _ t329 t332 _ _ t333 t336 t337 _ _ t338 t341 t342 _ _ t343 false t368 t369 t372 t373 t376 t377 t378 t381 t382 t383 t386 t387 _ ?side1 ?side2 ?side3 ?side4 ?side5 ?side6 ?side7 ?side8 A25.out).mono ?_); (case side1 => exact zc (Kd.R_reads' HO331.out).2.2); (case side2 => exact (Kd.R_reads' HO331.out).2.1); (case side3 => exact zc (Kd.R_reads' HO335.out).2.2); (case side4 => exact (Kd.R_reads' HO335.out).2.1); (case side5 => exact zc (Kd.S_reads' HO340.out).2.2); (case side6 => exact (Kd.S_reads' HO340.out).2.1); (case side7 => exact zc (Kd.R_reads' HO345.out).2.2); (case side8 => exact (Kd.R_reads' HO345.out).2.1); rintro e w65 ⟨v370, v374, v379, v384, rfl, ho0, ho1, ho2, ho3, hb⟩; refine ⟨_, rfl, ?_⟩; have HO371 := Aside0.mk (Kd.R_lower (Kd.R_new' (Kd.R_new' (Kd.R_new' (Kd.R_new' ho0 (Kd.R_lt (zr HO331))) (Kd.R_lt (zr HO335))) (Kd.R_lt (zr HO351))) (Kd.R_lt (zr HO355))) (below_size (zb HB))); have HO375 := Aside0.mk (Kd.R_lower (Kd.R_new' (Kd.R_new' (Kd.R_new' (Kd.R_new' ho1 (Kd.R_lt (zr HO331))) (Kd.R_lt (zr HO335))) (Kd.R_lt (zr HO351))) (Kd.R_lt (zr HO355))) (below_size (zb HB))); have HO380 := Aside0.mk (Kd.S_lower (Kd.S_new' (Kd.S_new' (Kd.S_new' (Kd.S_new' (Kd.S_new' (Kd.S_new' ho2 (Kd.R_lt (zr HO331))) (Kd.R_lt (zr HO335))) (Kd.S_lt (by (with_reducible repeat (first | apply Kd.S_alloc | apply Kd.S_drewN | apply Kd.S_drew)); exact HO340.out))) (Kd.R_lt (zr HO351))) (Kd.R_lt (zr HO355))) (Kd.S_lt (by (with_reducible repeat (first | apply Kd.S_alloc | apply Kd.S_drewN | apply Kd.S_drew)); exact HO360.out))) (below_size (zb HB))); replace HO331 := Aside0.mk (Kd.R_mono (Kd.R_told (Kd.R_told (Kd.R_old (zr HO331) hb) (Kd.R_base ho0)) (Kd.R_base ho1)) (fun _ h_ => h_.1)); replace HO335 := Aside0.mk (Kd.R_mono (Kd.R_told (Kd.R_told (Kd.R_old (zr HO335) hb) (Kd.R_base ho0)) (Kd.R_base ho1)) (fun _ h_ => h_.1)); replace HO340 := Aside0.mk (Kd.S_mono (Kd.S_told (Kd.S_told (Kd.S_told (Kd.S_old (by (with_reducible repeat (first | apply Kd.S_alloc | apply Kd.S_drewN | apply Kd.S_drew)); exact HO340.out) hb) (Kd.R_base ho0)) (Kd.R_base ho1)) (Kd.S_base ho2)) (fun _ h_ => h_.1)); replace HO351 := Aside0.mk (Kd.R_mono (Kd.R_told (Kd.R_told (Kd.R_old (zr HO351) hb) (Kd.R_base ho0)) (Kd.R_base ho1)) (fun _ h_ => h_.1)); replace HO355 := Aside0.mk (Kd.R_mono (Kd.R_told (Kd.R_told (Kd.R_old (zr HO355) hb) (Kd.R_base ho0)) (Kd.R_base ho1)) (fun _ h_ => h_.1)); replace HO360 := Aside0.mk (Kd.S_mono (Kd.S_told (Kd.S_told (Kd.S_told (Kd.S_old (by (with_reducible repeat (first | apply Kd.S_alloc | apply Kd.S_drewN | apply Kd.S_drew)); exact HO360.out) hb) (Kd.R_base ho0)) (Kd.R_base ho1)) (Kd.S_base ho2)) (fun _ h_ => h_.1)); have HO385 := Aside0.mk (Kd.R_lower (Kd.R_new' (Kd.R_new' ho3 (Kd.R_lt (zr HO345))) (Kd.R_lt (zr HO365))) (below_size (zb HB))); replace HO345 := Aside0.mk (Kd.R_elder' (zr HO345) (Kd.R_base ho3) hb); replace HO365 := Aside0.mk (Kd.R_elder' (zr HO365) (Kd.R_base ho3) hb); replace BK347 := kb BK347 hb; replace HB := Aside0.mk (below_step (zb HB) hb); (try clear hb); (try clear ho0); (try clear ho1); (try clear ho2); (try clear ho3)) | ((with_reducible refine gd 5 rfl ?_); (try (refine gate_guard (by rfl) ?_; dsimp only)); refine bx (N := 5) (cs := #[.bool false, .slice none 0 0, .int .i64 0, .slice none 0 0, .int .i64 0, .string (⟨#[]⟩ : ByteArray), .slice none 0 0, .int .i64 0, .int .i64 0, .slice none 0 0, .bool false]) (t := 42) ?_; intro gb388 hg w66 hbox hb; replace HO331 := Aside0.mk (Kd.R_below (zr HO331) hb); replace HO335 := Aside0.mk (Kd.R_below (zr HO335) hb); replace HO340 := Aside0.mk (Kd.S_below (by (with_reducible repeat (first | apply Kd.S_alloc | apply Kd.S_drewN | apply Kd.S_drew)); exact HO340.out) hb); replace HO345 := Aside0.mk (Kd.R_below (zr HO345) hb); replace HO351 := Aside0.mk (Kd.R_below (zr HO351) hb); replace HO355 := Aside0.mk (Kd.R_below (zr HO355) hb); replace HO360 := Aside0.mk (Kd.S_below (by (with_reducible repeat (first | apply Kd.S_alloc | apply Kd.S_drewN | apply Kd.S_drew)); exact HO360.out) hb); replace HO365 := Aside0.mk (Kd.R_below (zr HO365) hb); replace HO371 := Aside0.mk (Kd.R_below (zr HO371) hb); replace HO375 := Aside0.mk (Kd.R_below (zr HO375) hb); replace HO380 := Aside0.mk (Kd.S_below (by (with_reducible repeat (first | apply Kd.S_alloc | apply Kd.S_drewN | apply Kd.S_drew)); exact HO380.out) hb); replace HO385 := Aside0.mk (Kd.R_below (zr HO385) hb); have BK388 := Aside0.mk (hbox); have GW388 := gw HB hg; have GE388 := GW388; replace HB := Aside0.mk (below_step (zb HB) hb); obtain ⟨NB347_388, NB388_347⟩ := nb BK347 hg; replace BK347 := kb BK347 hb; clear hb hbox hg; have hnb67 := NB388_347.out; have hnc67 := NB347_388.out; obtain ⟨hcz68_0, hcz68_1, hcz68_2, hcz68_3, hcz68_4, hcz68_5, hcz68_6, hcz68_7, hcz68_8, hcz68_9, hcz68_10, hfz68_0, hfz68_1, hfz68_2, hfz68_3, hfz68_4, hfz68_5, hfz68_6, hfz68_7, hfz68_8, hfz68_9, hfz68_10⟩ := c11 BK388; obtain ⟨Ao69, co69, eo69⟩ := Kd.R_slice HO371.out; subst eo69; obtain ⟨Ao70, co70, eo70⟩ := Kd.R_slice HO375.out; subst eo70; obtain ⟨Ao71, co71, eo71⟩ := Kd.S_slice HO380.out; subst eo71; obtain ⟨Ao72, co72, eo72⟩ := Kd.R_slice HO385.out; subst eo72))
         have n0_ : Aside0 (Kd.R k88 88 (((((((((((w66.setCell ⟨gb388, 0, none⟩ (.bool t368)).setCell ⟨gb388, 1, none⟩ (.slice Ao69 t369.length co69)).setCell ⟨gb388, 2, none⟩ (.int .i64 t372)).setCell ⟨gb388, 3, none⟩ (.slice Ao70 t373.length co70)).setCell ⟨gb388, 4, none⟩ (.int .i64 t376)).setCell ⟨gb388, 5, none⟩ (.string t377)).setCell ⟨gb388, 6, none⟩ (.slice Ao71 t378.length co71)).setCell ⟨gb388, 7, none⟩ (.int .i64 t381)).setCell ⟨gb388, 8, none⟩ (.int .i64 t382)).setCell ⟨gb388, 9, none⟩ (.slice Ao72 t383.length co72)).setCell ⟨gb388, 10, none⟩ (.bool t386)) w.heap.size (fun k_ => some k_ ≠ (.slice Ao13 t333.length co13 : Value).ownBlock ∧ some k_ ≠ (.slice Ao19 t349.length co19 : Value).ownBlock ∧ some k_ ≠ (.slice Ao20 t353.length co20 : Value).ownBlock ∧ some k_ ≠ (.slice Ao69 t369.length co69 : Value).ownBlock ∧ some k_ ≠ (.slice Ao70 t373.length co70 : Value).ownBlock) (.slice Ao12 t329.length co12) t329) := ⟨(Kd.R_mono (ztR (Kd.R_types HO331.out BK388.out (by decide))) (fun _ hk => ⟨hk.1.1.1.1.1, ⟨hk.1.1.1.1.2, ⟨hk.1.1.1.2, ⟨hk.1.1.2, hk.1.2⟩⟩⟩⟩))⟩
         have n1_ : Aside0 (Kd.R k88 88 (((((((((((w66.setCell ⟨gb388, 0, none⟩ (.bool t368)).setCell ⟨gb388, 1, none⟩ (.slice Ao69 t369.length co69)).setCell ⟨gb388, 2, none⟩ (.int .i64 t372)).setCell ⟨gb388, 3, none⟩ (.slice Ao70 t373.length co70)).setCell ⟨gb388, 4, none⟩ (.int .i64 t376)).setCell ⟨gb388, 5, none⟩ (.string t377)).setCell ⟨gb388, 6, none⟩ (.slice Ao71 t378.length co71)).setCell ⟨gb388, 7, none⟩ (.int .i64 t381)).setCell ⟨gb388, 8, none⟩ (.int .i64 t382)).setCell ⟨gb388, 9, none⟩ (.slice Ao72 t383.length co72)).setCell ⟨gb388, 10, none⟩ (.bool t386)) w.heap.size (fun k_ => some k_ ≠ (.slice Ao12 t329.length co12 : Value).ownBlock ∧ some k_ ≠ (.slice Ao19 t349.length co19 : Value).ownBlock ∧ some k_ ≠ (.slice Ao20 t353.length co20 : Value).ownBlock ∧ some k_ ≠ (.slice Ao69 t369.length co69 : Value).ownBlock ∧ some k_ ≠ (.slice Ao70 t373.length co70 : Value).ownBlock) (.slice Ao13 t333.length co13) t333) := ⟨(Kd.R_mono (ztR (Kd.R_types HO335.out BK388.out (by decide))) (fun _ hk => ⟨hk.1.1.1.1.1, ⟨hk.1.1.1.1.2, ⟨hk.1.1.1.2, ⟨hk.1.1.2, hk.1.2⟩⟩⟩⟩))⟩
         have n2_ : Aside0 (Kd.S k104 104 (((((((((((w66.setCell ⟨gb388, 0, none⟩ (.bool t368)).setCell ⟨gb388, 1, none⟩ (.slice Ao69 t369.length co69)).setCell ⟨gb388, 2, none⟩ (.int .i64 t372)).setCell ⟨gb388, 3, none⟩ (.slice Ao70 t373.length co70)).setCell ⟨gb388, 4, none⟩ (.int .i64 t376)).setCell ⟨gb388, 5, none⟩ (.string t377)).setCell ⟨gb388, 6, none⟩ (.slice Ao71 t378.length co71)).setCell ⟨gb388, 7, none⟩ (.int .i64 t381)).setCell ⟨gb388, 8, none⟩ (.int .i64 t382)).setCell ⟨gb388, 9, none⟩ (.slice Ao72 t383.length co72)).setCell ⟨gb388, 10, none⟩ (.bool t386)) w.heap.size (fun k_ => some k_ ≠ (.slice Ao12 t329.length co12 : Value).ownBlock ∧ some k_ ≠ (.slice Ao13 t333.length co13 : Value).ownBlock ∧ some k_ ≠ (.slice Ao19 t349.length co19 : Value).ownBlock ∧ some k_ ≠ (.slice Ao20 t353.length co20 : Value).ownBlock ∧ some k_ ≠ (.slice Ao21 t358.length co21 : Value).ownBlock ∧ some k_ ≠ (.slice Ao69 t369.length co69 : Value).ownBlock ∧ some k_ ≠ (.slice Ao70 t373.length co70 : Value).ownBlock ∧ some k_ ≠ (.slice Ao71 t378.length co71 : Value).ownBlock) (.slice Ao14 t338.length co14) t338) := ⟨by (with_reducible repeat (first | apply Kd.S_alloc | apply Kd.S_drewN | apply Kd.S_drew)); exact Kd.S_mono (ztS (Kd.S_types HO340.out BK388.out (by decide))) (fun _ hk => ⟨hk.1.1.1.1.1.1.1.1, ⟨hk.1.1.1.1.1.1.1.2, ⟨hk.1.1.1.1.1.1.2, ⟨hk.1.1.1.1.1.2, ⟨hk.1.1.1.1.2, ⟨hk.1.1.1.2, ⟨hk.1.1.2, hk.1.2⟩⟩⟩⟩⟩⟩⟩)⟩
         have n3_ : Aside0 (Kd.R k110 110 (((((((((((w66.setCell ⟨gb388, 0, none⟩ (.bool t368)).setCell ⟨gb388, 1, none⟩ (.slice Ao69 t369.length co69)).setCell ⟨gb388, 2, none⟩ (.int .i64 t372)).setCell ⟨gb388, 3, none⟩ (.slice Ao70 t373.length co70)).setCell ⟨gb388, 4, none⟩ (.int .i64 t376)).setCell ⟨gb388, 5, none⟩ (.string t377)).setCell ⟨gb388, 6, none⟩ (.slice Ao71 t378.length co71)).setCell ⟨gb388, 7, none⟩ (.int .i64 t381)).setCell ⟨gb388, 8, none⟩ (.int .i64 t382)).setCell ⟨gb388, 9, none⟩ (.slice Ao72 t383.length co72)).setCell ⟨gb388, 10, none⟩ (.bool t386)) w.heap.size (fun k_ => some k_ ≠ (.slice Ao22 t363.length co22 : Value).ownBlock ∧ some k_ ≠ (.slice Ao72 t383.length co72 : Value).ownBlock) (.slice Ao15 t343.length co15) t343) := ⟨(Kd.R_mono (ztR (Kd.R_types HO345.out BK388.out (by decide))) (fun _ hk => ⟨hk.1.1.2, hk.1.2⟩))⟩
         have n4_ : Aside0 (Kd.R k88 88 (((((((((((w66.setCell ⟨gb388, 0, none⟩ (.bool t368)).setCell ⟨gb388, 1, none⟩ (.slice Ao69 t369.length co69)).setCell ⟨gb388, 2, none⟩ (.int .i64 t372)).setCell ⟨gb388, 3, none⟩ (.slice Ao70 t373.length co70)).setCell ⟨gb388, 4, none⟩ (.int .i64 t376)).setCell ⟨gb388, 5, none⟩ (.string t377)).setCell ⟨gb388, 6, none⟩ (.slice Ao71 t378.length co71)).setCell ⟨gb388, 7, none⟩ (.int .i64 t381)).setCell ⟨gb388, 8, none⟩ (.int .i64 t382)).setCell ⟨gb388, 9, none⟩ (.slice Ao72 t383.length co72)).setCell ⟨gb388, 10, none⟩ (.bool t386)) w.heap.size (fun k_ => some k_ ≠ (.slice Ao12 t329.length co12 : Value).ownBlock ∧ some k_ ≠ (.slice Ao13 t333.length co13 : Value).ownBlock ∧ some k_ ≠ (.slice Ao20 t353.length co20 : Value).ownBlock ∧ some k_ ≠ (.slice Ao69 t369.length co69 : Value).ownBlock ∧ some k_ ≠ (.slice Ao70 t373.length co70 : Value).ownBlock) (.slice Ao19 t349.length co19) t349) := ⟨(Kd.R_mono (ztR (Kd.R_types HO351.out BK388.out (by decide))) (fun _ hk => ⟨hk.1.1.1.1.2, ⟨hk.1.1.1.2, ⟨hk.1.1.1.1.1, ⟨hk.1.1.2, hk.1.2⟩⟩⟩⟩))⟩
         have n5_ : Aside0 (Kd.R k88 88 (((((((((((w66.setCell ⟨gb388, 0, none⟩ (.bool t368)).setCell ⟨gb388, 1, none⟩ (.slice Ao69 t369.length co69)).setCell ⟨gb388, 2, none⟩ (.int .i64 t372)).setCell ⟨gb388, 3, none⟩ (.slice Ao70 t373.length co70)).setCell ⟨gb388, 4, none⟩ (.int .i64 t376)).setCell ⟨gb388, 5, none⟩ (.string t377)).setCell ⟨gb388, 6, none⟩ (.slice Ao71 t378.length co71)).setCell ⟨gb388, 7, none⟩ (.int .i64 t381)).setCell ⟨gb388, 8, none⟩ (.int .i64 t382)).setCell ⟨gb388, 9, none⟩ (.slice Ao72 t383.length co72)).setCell ⟨gb388, 10, none⟩ (.bool t386)) w.heap.size (fun k_ => some k_ ≠ (.slice Ao12 t329.length co12 : Value).ownBlock ∧ some k_ ≠ (.slice Ao13 t333.length co13 : Value).ownBlock ∧ some k_ ≠ (.slice Ao19 t349.length co19 : Value).ownBlock ∧ some k_ ≠ (.slice Ao69 t369.length co69 : Value).ownBlock ∧ some k_ ≠ (.slice Ao70 t373.length co70 : Value).ownBlock) (.slice Ao20 t353.length co20) t353) := ⟨(Kd.R_mono (ztR (Kd.R_types HO355.out BK388.out (by decide))) (fun _ hk => ⟨hk.1.1.1.1.2, ⟨hk.1.1.1.2, ⟨hk.1.1.1.1.1, ⟨hk.1.1.2, hk.1.2⟩⟩⟩⟩))⟩
         have n6_ : Aside0 (Kd.S k104 104 (((((((((((w66.setCell ⟨gb388, 0, none⟩ (.bool t368)).setCell ⟨gb388, 1, none⟩ (.slice Ao69 t369.length co69)).setCell ⟨gb388, 2, none⟩ (.int .i64 t372)).setCell ⟨gb388, 3, none⟩ (.slice Ao70 t373.length co70)).setCell ⟨gb388, 4, none⟩ (.int .i64 t376)).setCell ⟨gb388, 5, none⟩ (.string t377)).setCell ⟨gb388, 6, none⟩ (.slice Ao71 t378.length co71)).setCell ⟨gb388, 7, none⟩ (.int .i64 t381)).setCell ⟨gb388, 8, none⟩ (.int .i64 t382)).setCell ⟨gb388, 9, none⟩ (.slice Ao72 t383.length co72)).setCell ⟨gb388, 10, none⟩ (.bool t386)) w.heap.size (fun k_ => some k_ ≠ (.slice Ao12 t329.length co12 : Value).ownBlock ∧ some k_ ≠ (.slice Ao13 t333.length co13 : Value).ownBlock ∧ some k_ ≠ (.slice Ao14 t338.length co14 : Value).ownBlock ∧ some k_ ≠ (.slice Ao19 t349.length co19 : Value).ownBlock ∧ some k_ ≠ (.slice Ao20 t353.length co20 : Value).ownBlock ∧ some k_ ≠ (.slice Ao69 t369.length co69 : Value).ownBlock ∧ some k_ ≠ (.slice Ao70 t373.length co70 : Value).ownBlock ∧ some k_ ≠ (.slice Ao71 t378.length co71 : Value).ownBlock) (.slice Ao21 t358.length co21) t358) := ⟨by (with_reducible repeat (first | apply Kd.S_alloc | apply Kd.S_drewN | apply Kd.S_drew)); exact Kd.S_mono (ztS (Kd.S_types HO360.out BK388.out (by decide))) (fun _ hk => ⟨hk.1.1.1.1.1.1.2, ⟨hk.1.1.1.1.1.2, ⟨hk.1.1.1.1.2, ⟨hk.1.1.1.1.1.1.1.1, ⟨hk.1.1.1.1.1.1.1.2, ⟨hk.1.1.1.2, ⟨hk.1.1.2, hk.1.2⟩⟩⟩⟩⟩⟩⟩)⟩
         have n7_ : Aside0 (Kd.R k110 110 (((((((((((w66.setCell ⟨gb388, 0, none⟩ (.bool t368)).setCell ⟨gb388, 1, none⟩ (.slice Ao69 t369.length co69)).setCell ⟨gb388, 2, none⟩ (.int .i64 t372)).setCell ⟨gb388, 3, none⟩ (.slice Ao70 t373.length co70)).setCell ⟨gb388, 4, none⟩ (.int .i64 t376)).setCell ⟨gb388, 5, none⟩ (.string t377)).setCell ⟨gb388, 6, none⟩ (.slice Ao71 t378.length co71)).setCell ⟨gb388, 7, none⟩ (.int .i64 t381)).setCell ⟨gb388, 8, none⟩ (.int .i64 t382)).setCell ⟨gb388, 9, none⟩ (.slice Ao72 t383.length co72)).setCell ⟨gb388, 10, none⟩ (.bool t386)) w.heap.size (fun k_ => some k_ ≠ (.slice Ao15 t343.length co15 : Value).ownBlock ∧ some k_ ≠ (.slice Ao72 t383.length co72 : Value).ownBlock) (.slice Ao22 t363.length co22) t363) := ⟨(Kd.R_mono (ztR (Kd.R_types HO365.out BK388.out (by decide))) (fun _ hk => ⟨hk.1.1.2, hk.1.2⟩))⟩
         have n8_ : Aside0 (Kd.R k88 88 (((((((((((w66.setCell ⟨gb388, 0, none⟩ (.bool t368)).setCell ⟨gb388, 1, none⟩ (.slice Ao69 t369.length co69)).setCell ⟨gb388, 2, none⟩ (.int .i64 t372)).setCell ⟨gb388, 3, none⟩ (.slice Ao70 t373.length co70)).setCell ⟨gb388, 4, none⟩ (.int .i64 t376)).setCell ⟨gb388, 5, none⟩ (.string t377)).setCell ⟨gb388, 6, none⟩ (.slice Ao71 t378.length co71)).setCell ⟨gb388, 7, none⟩ (.int .i64 t381)).setCell ⟨gb388, 8, none⟩ (.int .i64 t382)).setCell ⟨gb388, 9, none⟩ (.slice Ao72 t383.length co72)).setCell ⟨gb388, 10, none⟩ (.bool t386)) w.heap.size (fun k_ => some k_ ≠ (.slice Ao12 t329.length co12 : Value).ownBlock ∧ some k_ ≠ (.slice Ao13 t333.length co13 : Value).ownBlock ∧ some k_ ≠ (.slice Ao19 t349.length co19 : Value).ownBlock ∧ some k_ ≠ (.slice Ao20 t353.length co20 : Value).ownBlock ∧ some k_ ≠ (.slice Ao70 t373.length co70 : Value).ownBlock) (.slice Ao69 t369.length co69) t369) := ⟨(Kd.R_mono (ztR (Kd.R_types HO371.out BK388.out (by decide))) (fun _ hk => ⟨hk.1.1.1.1.2, ⟨hk.1.1.1.2, ⟨hk.1.1.2, ⟨hk.1.2, hk.1.1.1.1.1⟩⟩⟩⟩))⟩
         have n9_ : Aside0 (Kd.R k88 88 (((((((((((w66.setCell ⟨gb388, 0, none⟩ (.bool t368)).setCell ⟨gb388, 1, none⟩ (.slice Ao69 t369.length co69)).setCell ⟨gb388, 2, none⟩ (.int .i64 t372)).setCell ⟨gb388, 3, none⟩ (.slice Ao70 t373.length co70)).setCell ⟨gb388, 4, none⟩ (.int .i64 t376)).setCell ⟨gb388, 5, none⟩ (.string t377)).setCell ⟨gb388, 6, none⟩ (.slice Ao71 t378.length co71)).setCell ⟨gb388, 7, none⟩ (.int .i64 t381)).setCell ⟨gb388, 8, none⟩ (.int .i64 t382)).setCell ⟨gb388, 9, none⟩ (.slice Ao72 t383.length co72)).setCell ⟨gb388, 10, none⟩ (.bool t386)) w.heap.size (fun k_ => some k_ ≠ (.slice Ao12 t329.length co12 : Value).ownBlock ∧ some k_ ≠ (.slice Ao13 t333.length co13 : Value).ownBlock ∧ some k_ ≠ (.slice Ao19 t349.length co19 : Value).ownBlock ∧ some k_ ≠ (.slice Ao20 t353.length co20 : Value).ownBlock ∧ some k_ ≠ (.slice Ao69 t369.length co69 : Value).ownBlock) (.slice Ao70 t373.length co70) t373) := ⟨(Kd.R_mono (ztR (Kd.R_types HO375.out BK388.out (by decide))) (fun _ hk => ⟨hk.1.1.1.1.2, ⟨hk.1.1.1.2, ⟨hk.1.1.2, ⟨hk.1.2, hk.1.1.1.1.1⟩⟩⟩⟩))⟩
         have n10_ : Aside0 (Kd.S k104 104 (((((((((((w66.setCell ⟨gb388, 0, none⟩ (.bool t368)).setCell ⟨gb388, 1, none⟩ (.slice Ao69 t369.length co69)).setCell ⟨gb388, 2, none⟩ (.int .i64 t372)).setCell ⟨gb388, 3, none⟩ (.slice Ao70 t373.length co70)).setCell ⟨gb388, 4, none⟩ (.int .i64 t376)).setCell ⟨gb388, 5, none⟩ (.string t377)).setCell ⟨gb388, 6, none⟩ (.slice Ao71 t378.length co71)).setCell ⟨gb388, 7, none⟩ (.int .i64 t381)).setCell ⟨gb388, 8, none⟩ (.int .i64 t382)).setCell ⟨gb388, 9, none⟩ (.slice Ao72 t383.length co72)).setCell ⟨gb388, 10, none⟩ (.bool t386)) w.heap.size (fun k_ => some k_ ≠ (.slice Ao12 t329.length co12 : Value).ownBlock ∧ some k_ ≠ (.slice Ao13 t333.length co13 : Value).ownBlock ∧ some k_ ≠ (.slice Ao14 t338.length co14 : Value).ownBlock ∧ some k_ ≠ (.slice Ao19 t349.length co19 : Value).ownBlock ∧ some k_ ≠ (.slice Ao20 t353.length co20 : Value).ownBlock ∧ some k_ ≠ (.slice Ao21 t358.length co21 : Value).ownBlock ∧ some k_ ≠ (.slice Ao69 t369.length co69 : Value).ownBlock ∧ some k_ ≠ (.slice Ao70 t373.length co70 : Value).ownBlock) (.slice Ao71 t378.length co71) t378) := ⟨by (with_reducible repeat (first | apply Kd.S_alloc | apply Kd.S_drewN | apply Kd.S_drew)); exact Kd.S_mono (ztS (Kd.S_types HO380.out BK388.out (by decide))) (fun _ hk => ⟨hk.1.1.1.1.1.1.2, ⟨hk.1.1.1.1.1.2, ⟨hk.1.1.1.1.2, ⟨hk.1.1.1.2, ⟨hk.1.1.2, ⟨hk.1.2, ⟨hk.1.1.1.1.1.1.1.1, hk.1.1.1.1.1.1.1.2⟩⟩⟩⟩⟩⟩⟩)⟩
         have n11_ : Aside0 (Kd.R k110 110 (((((((((((w66.setCell ⟨gb388, 0, none⟩ (.bool t368)).setCell ⟨gb388, 1, none⟩ (.slice Ao69 t369.length co69)).setCell ⟨gb388, 2, none⟩ (.int .i64 t372)).setCell ⟨gb388, 3, none⟩ (.slice Ao70 t373.length co70)).setCell ⟨gb388, 4, none⟩ (.int .i64 t376)).setCell ⟨gb388, 5, none⟩ (.string t377)).setCell ⟨gb388, 6, none⟩ (.slice Ao71 t378.length co71)).setCell ⟨gb388, 7, none⟩ (.int .i64 t381)).setCell ⟨gb388, 8, none⟩ (.int .i64 t382)).setCell ⟨gb388, 9, none⟩ (.slice Ao72 t383.length co72)).setCell ⟨gb388, 10, none⟩ (.bool t386)) w.heap.size (fun k_ => some k_ ≠ (.slice Ao15 t343.length co15 : Value).ownBlock ∧ some k_ ≠ (.slice Ao22 t363.length co22 : Value).ownBlock) (.slice Ao72 t383.length co72) t383) := ⟨(Kd.R_mono (ztR (Kd.R_types HO385.out BK388.out (by decide))) (fun _ hk => ⟨hk.1.1.2, hk.1.2⟩))⟩
         have n12_ : Aside0 ((((((((((((w66.setCell ⟨gb388, 0, none⟩ (.bool t368)).setCell ⟨gb388, 1, none⟩ (.slice Ao69 t369.length co69)).setCell ⟨gb388, 2, none⟩ (.int .i64 t372)).setCell ⟨gb388, 3, none⟩ (.slice Ao70 t373.length co70)).setCell ⟨gb388, 4, none⟩ (.int .i64 t376)).setCell ⟨gb388, 5, none⟩ (.string t377)).setCell ⟨gb388, 6, none⟩ (.slice Ao71 t378.length co71)).setCell ⟨gb388, 7, none⟩ (.int .i64 t381)).setCell ⟨gb388, 8, none⟩ (.int .i64 t382)).setCell ⟨gb388, 9, none⟩ (.slice Ao72 t383.length co72)).setCell ⟨gb388, 10, none⟩ (.bool t386)).heap[gb347]? = some (.cells #[.bool t328, .slice Ao12 t329.length co12, .int .i64 t332, .slice Ao13 t333.length co13, .int .i64 t336, .string t337, .slice Ao14 t338.length co14, .int .i64 t341, .int .i64 t342, .slice Ao15 t343.length co15, .bool false] 42 (0, 0))) := ⟨zp BK347⟩
         have n13_ : Aside0 ((((((((((((w66.setCell ⟨gb388, 0, none⟩ (.bool t368)).setCell ⟨gb388, 1, none⟩ (.slice Ao69 t369.length co69)).setCell ⟨gb388, 2, none⟩ (.int .i64 t372)).setCell ⟨gb388, 3, none⟩ (.slice Ao70 t373.length co70)).setCell ⟨gb388, 4, none⟩ (.int .i64 t376)).setCell ⟨gb388, 5, none⟩ (.string t377)).setCell ⟨gb388, 6, none⟩ (.slice Ao71 t378.length co71)).setCell ⟨gb388, 7, none⟩ (.int .i64 t381)).setCell ⟨gb388, 8, none⟩ (.int .i64 t382)).setCell ⟨gb388, 9, none⟩ (.slice Ao72 t383.length co72)).setCell ⟨gb388, 10, none⟩ (.bool t386)).heap[gb388]? = some (.cells #[.bool t368, .slice Ao69 t369.length co69, .int .i64 t372, .slice Ao70 t373.length co70, .int .i64 t376, .string t377, .slice Ao71 t378.length co71, .int .i64 t381, .int .i64 t382, .slice Ao72 t383.length co72, .bool t386] 42 (0, 0))) := ⟨zp BK388⟩
         have n14_ : Aside0 (Below w.heap.size w (((((((((((w66.setCell ⟨gb388, 0, none⟩ (.bool t368)).setCell ⟨gb388, 1, none⟩ (.slice Ao69 t369.length co69)).setCell ⟨gb388, 2, none⟩ (.int .i64 t372)).setCell ⟨gb388, 3, none⟩ (.slice Ao70 t373.length co70)).setCell ⟨gb388, 4, none⟩ (.int .i64 t376)).setCell ⟨gb388, 5, none⟩ (.string t377)).setCell ⟨gb388, 6, none⟩ (.slice Ao71 t378.length co71)).setCell ⟨gb388, 7, none⟩ (.int .i64 t381)).setCell ⟨gb388, 8, none⟩ (.int .i64 t382)).setCell ⟨gb388, 9, none⟩ (.slice Ao72 t383.length co72)).setCell ⟨gb388, 10, none⟩ (.bool t386))) := ⟨zb HB⟩
         (try clear HO331)
         (try clear HO335)
         (try clear HO340)
         (try clear HO345)
         (try clear HO351)
         (try clear HO355)
         (try clear HO360)
         (try clear HO365)
         (try clear HO371)
         (try clear HO375)
         (try clear HO380)
         (try clear HO385)
         (try clear BK347)
         (try clear BK388)
         (try clear HB)
         generalize (((((((((((w66.setCell ⟨gb388, 0, none⟩ (.bool t368)).setCell ⟨gb388, 1, none⟩ (.slice Ao69 t369.length co69)).setCell ⟨gb388, 2, none⟩ (.int .i64 t372)).setCell ⟨gb388, 3, none⟩ (.slice Ao70 t373.length co70)).setCell ⟨gb388, 4, none⟩ (.int .i64 t376)).setCell ⟨gb388, 5, none⟩ (.string t377)).setCell ⟨gb388, 6, none⟩ (.slice Ao71 t378.length co71)).setCell ⟨gb388, 7, none⟩ (.int .i64 t381)).setCell ⟨gb388, 8, none⟩ (.int .i64 t382)).setCell ⟨gb388, 9, none⟩ (.slice Ao72 t383.length co72)).setCell ⟨gb388, 10, none⟩ (.bool t386)) = w73 at n0_ n1_ n2_ n3_ n4_ n5_ n6_ n7_ n8_ n9_ n10_ n11_ n12_ n13_ n14_ ⊢
         have HO331 := n0_
         have HO335 := n1_
         have HO340 := n2_
         have HO345 := n3_
         have HO351 := n4_
         have HO355 := n5_
         have HO360 := n6_
         have HO365 := n7_
         have HO371 := n8_
         have HO375 := n9_
         have HO380 := n10_
         have HO385 := n11_
         have BK347 := n12_
         have BK388 := n13_
         have HB := n14_
         clear n0_ n1_ n2_ n3_ n4_ n5_ n6_ n7_ n8_ n9_ n10_ n11_ n12_ n13_ n14_
         replace HO331 := Aside0.mk (Kd.R_drew HO331.out)
         replace HO335 := Aside0.mk (Kd.R_drew HO335.out)
         replace HO340 := Aside0.mk (Kd.S_drew HO340.out)
         replace HO345 := Aside0.mk (Kd.R_drew HO345.out)
         replace HO351 := Aside0.mk (Kd.R_drew HO351.out)
         replace HO355 := Aside0.mk (Kd.R_drew HO355.out)
         replace HO360 := Aside0.mk (Kd.S_drew HO360.out)
         replace HO365 := Aside0.mk (Kd.R_drew HO365.out)
         replace HO371 := Aside0.mk (Kd.R_drew HO371.out)
         replace HO375 := Aside0.mk (Kd.R_drew HO375.out)
         replace HO380 := Aside0.mk (Kd.S_drew HO380.out)
         replace HO385 := Aside0.mk (Kd.R_drew HO385.out)
         replace BK347 := Aside0.mk (blk_drew BK347.out)
         replace BK388 := Aside0.mk (blk_drew BK388.out)
         replace HB := Aside0.mk (below_drew1 HB.out)
         refine st 39 (an (b11 BK347) (b11 BK388)) (fun hHeld => ?_); refine with_tabW laws_FnEndNew.tab8 laws_FnEndNew.bits8 (fun HT_ HW_ => ?_)
         generalize w73.drew = w74 at HO331 HO335 HO340 HO345 HO351 HO355 HO360 HO365 HO371 HO375 HO380 HO385 BK347 BK388 HB hHeld ⊢
         refine tk 0 (some 24) (bm 39 1) rfl rfl hHeld ?_
         refine one_ (i := 1) (N := some 25) (bm 39 3) rfl rfl (one_of HT_.out (by kernel_rfl)) (by decide) (fun K hK => ?_)
         refine gs Try.func33 #[.agg #[.bool t328, .slice Ao12 t329.length co12, .int .i64 t332, .slice Ao13 t333.length co13, .int .i64 t336, .string t337, .slice Ao14 t338.length co14, .int .i64 t341, .int .i64 t342, .slice Ao15 t343.length co15, .bool false]] ?_
         with_reducible refine (impl_EndOk.calls k t328 _ _ t329 t332 _ _ t333 t336 t337 _ _ t338 t341 t342 _ _ t343 false true _ ?side1 ?side2 ?side3 ?side4 ?side5 ?side6 ?side7 ?side8 A26.out).mono ?_
         (case side1 => exact zc (Kd.R_reads' HO331.out).2.2)
         (case side2 => exact (Kd.R_reads' HO331.out).2.1)
         (case side3 => exact zc (Kd.R_reads' HO335.out).2.2)
         (case side4 => exact (Kd.R_reads' HO335.out).2.1)
         (case side5 => exact zc (Kd.S_reads' HO340.out).2.2)
         (case side6 => exact (Kd.S_reads' HO340.out).2.1)
         (case side7 => exact zc (Kd.R_reads' HO345.out).2.2)
         (case side8 => exact (Kd.R_reads' HO345.out).2.1)
         rintro e w75 ⟨rfl, hb⟩
         refine ⟨_, rfl, ?_⟩
         replace HO331 := Aside0.mk (Kd.R_below (zr HO331) hb)
         replace HO335 := Aside0.mk (Kd.R_below (zr HO335) hb)
         replace HO340 := Aside0.mk (Kd.S_below (by (with_reducible repeat (first | apply Kd.S_alloc | apply Kd.S_drewN | apply Kd.S_drew)); exact HO340.out) hb)
         replace HO345 := Aside0.mk (Kd.R_below (zr HO345) hb)
         replace HO351 := Aside0.mk (Kd.R_below (zr HO351) hb)
         replace HO355 := Aside0.mk (Kd.R_below (zr HO355) hb)
         replace HO360 := Aside0.mk (Kd.S_below (by (with_reducible repeat (first | apply Kd.S_alloc | apply Kd.S_drewN | apply Kd.S_drew)); exact HO360.out) hb)
         replace HO365 := Aside0.mk (Kd.R_below (zr HO365) hb)
         replace HO371 := Aside0.mk (Kd.R_below (zr HO371) hb)
         replace HO375 := Aside0.mk (Kd.R_below (zr HO375) hb)
         replace HO380 := Aside0.mk (Kd.S_below (by (with_reducible repeat (first | apply Kd.S_alloc | apply Kd.S_drewN | apply Kd.S_drew)); exact HO380.out) hb)
         replace HO385 := Aside0.mk (Kd.R_below (zr HO385) hb)
         replace BK347 := kb BK347 hb
         replace BK388 := kb BK388 hb
         replace HB := Aside0.mk (below_step (zb HB) hb)
         (try clear hb)
         refine hK.out _ _ (an (b11 BK347) (b11 BK388)) (fun hHeld => ?_)
         clear hK K
         refine nm ?_
         refine pu 2 (some 26) (bm 39 7) rfl rfl ?_
         refine pu 3 (some 27) (bm 39 15) rfl rfl ?_
         refine pu 5 (some 29) (bm 39 47) rfl rfl ?_
         refine tk 4 (some 28) (bm 39 63) rfl rfl hHeld ?_
         refine pu 6 (some 30) (bm 39 127) rfl rfl ?_
         refine pu 7 (some 31) (bm 39 255) rfl rfl ?_
         refine pu 8 (some 32) (bm 39 511) rfl rfl ?_
         refine pu 9 (some 33) (bm 39 1023) rfl rfl ?_
         refine pu 10 (some 34) (bm 39 2047) rfl rfl ?_
         refine pu 11 (some 35) (bm 39 4095) rfl rfl ?_
         refine pu 12 (some 36) (bm 39 8191) rfl rfl ?_
         refine tk 13 (some 37) (bm 39 16383) rfl rfl hHeld ?_
         refine tk 14 (some 38) (bm 39 32767) rfl rfl hHeld ?_
         refine one_ (i := 15) (N := some 39) (bm 39 65535) rfl rfl (one_of HT_.out (by kernel_rfl)) (by decide) (fun K hK => ?_)
         refine gs Try.func31 #[.agg #[.bool t368, .slice Ao69 t369.length co69, .int .i64 t372, .slice Ao70 t373.length co70, .int .i64 t376, .string t377, .slice Ao71 t378.length co71, .int .i64 t381, .int .i64 t382, .slice Ao72 t383.length co72, .bool t386], .agg #[.bool t328, .slice Ao12 t329.length co12, .int .i64 t332, .slice Ao13 t333.length co13, .int .i64 t336, .string t337, .slice Ao14 t338.length co14, .int .i64 t341, .int .i64 t342, .slice Ao15 t343.length co15, .bool false]] ?_
         with_reducible refine (laws_lkEnd.calls k t368 _ _ t369 t372 _ _ t373 t376 t377 _ _ t378 t381 t382 _ _ t383 t386 t328 _ _ t329 t332 _ _ t333 t336 t337 _ _ t338 t341 t342 _ _ t343 false true _ ?side1 ?side2 ?side3 ?side4 ?side5 ?side6 ?side7 ?side8 ?side9 ?side10 ?side11 ?side12 ?side13 ?side14 ?side15 ?side16 A30.out).mono ?_
         (case side1 => exact zc (Kd.R_reads' HO371.out).2.2)
         (case side2 => exact (Kd.R_reads' HO371.out).2.1)
         (case side3 => exact zc (Kd.R_reads' HO375.out).2.2)
         (case side4 => exact (Kd.R_reads' HO375.out).2.1)
         (case side5 => exact zc (Kd.S_reads' HO380.out).2.2)
         (case side6 => exact (Kd.S_reads' HO380.out).2.1)
         (case side7 => exact zc (Kd.R_reads' HO385.out).2.2)
         (case side8 => exact (Kd.R_reads' HO385.out).2.1)
         (case side9 => exact zc (Kd.R_reads' HO331.out).2.2)
         (case side10 => exact (Kd.R_reads' HO331.out).2.1)
         (case side11 => exact zc (Kd.R_reads' HO335.out).2.2)
         (case side12 => exact (Kd.R_reads' HO335.out).2.1)
         (case side13 => exact zc (Kd.S_reads' HO340.out).2.2)
         (case side14 => exact (Kd.S_reads' HO340.out).2.1)
         (case side15 => exact zc (Kd.R_reads' HO345.out).2.2)
         (case side16 => exact (Kd.R_reads' HO345.out).2.1)
         rintro e w76 ⟨rfl, hb⟩
         refine ⟨_, rfl, ?_⟩
         replace HO331 := Aside0.mk (Kd.R_below (zr HO331) hb)
         replace HO335 := Aside0.mk (Kd.R_below (zr HO335) hb)
         replace HO340 := Aside0.mk (Kd.S_below (by (with_reducible repeat (first | apply Kd.S_alloc | apply Kd.S_drewN | apply Kd.S_drew)); exact HO340.out) hb)
         replace HO345 := Aside0.mk (Kd.R_below (zr HO345) hb)
         replace HO351 := Aside0.mk (Kd.R_below (zr HO351) hb)
         replace HO355 := Aside0.mk (Kd.R_below (zr HO355) hb)
         replace HO360 := Aside0.mk (Kd.S_below (by (with_reducible repeat (first | apply Kd.S_alloc | apply Kd.S_drewN | apply Kd.S_drew)); exact HO360.out) hb)
         replace HO365 := Aside0.mk (Kd.R_below (zr HO365) hb)
         replace HO371 := Aside0.mk (Kd.R_below (zr HO371) hb)
         replace HO375 := Aside0.mk (Kd.R_below (zr HO375) hb)
         replace HO380 := Aside0.mk (Kd.S_below (by (with_reducible repeat (first | apply Kd.S_alloc | apply Kd.S_drewN | apply Kd.S_drew)); exact HO380.out) hb)
         replace HO385 := Aside0.mk (Kd.R_below (zr HO385) hb)
         replace BK347 := kb BK347 hb
         replace BK388 := kb BK388 hb
         replace HB := Aside0.mk (below_step (zb HB) hb)
         (try clear hb)
         refine hK.out _ _ (an (b11 BK347) (b11 BK388)) (fun hHeld => ?_)
         clear hK K
         refine nm ?_
         refine pu 16 (some 40) (bm 39 131071) rfl rfl ?_
         refine pu 17 (some 41) (bm 39 262143) rfl rfl ?_
         refine pu 18 (some 42) (bm 39 524287) rfl rfl ?_
         refine tk 19 (some 43) (bm 39 1048575) rfl rfl hHeld ?_
         refine pu 20 (some 44) (bm 39 2097151) rfl rfl ?_
         refine pu 21 (some 45) (bm 39 4194303) rfl rfl ?_
         refine pu 22 (some 46) (bm 39 8388607) rfl rfl ?_
         refine pu 23 (some 47) (bm 39 16777215) rfl rfl ?_
         refine tk 24 (some 48) (bm 39 33554431) rfl rfl hHeld ?_
         refine pu 25 (some 49) (bm 39 67108863) rfl rfl ?_
         refine pu 26 (some 50) (bm 39 134217727) rfl rfl ?_
         refine pu 27 (some 51) (bm 39 268435455) rfl rfl ?_
         refine pu 28 (some 52) (bm 39 536870911) rfl rfl ?_
         refine pv 29 (some 53) (bm 39 1073741823) rfl rfl ?_
         refine pv 30 (some 54) (bm 39 2147483647) rfl rfl ?_
         refine pv 31 (some 55) (bm 39 4294967295) rfl rfl ?_
         refine pv 32 (some 56) (bm 39 8589934591) rfl rfl ?_
         refine pv 33 (some 57) (bm 39 17179869183) rfl rfl ?_
         refine pv 34 (some 58) (bm 39 34359738367) rfl rfl ?_
         refine pv 35 (some 59) (bm 39 68719476735) rfl rfl ?_
         refine pv 36 (some 60) (bm 39 137438953471) rfl rfl ?_
         refine pu 37 (some 61) (bm 39 274877906943) rfl rfl ?_
         refine pu 38 (some 2) (bm 39 549755813887) rfl rfl ?_
         refine done_ (done_of HT_.out (by kernel_rfl)) ?_
         try go_wp2
         go_ret
         exact ⟨ze, zb HB⟩
      ·replace c31 := Bool.eq_false_iff.mpr c31
       subst c31
       rw [if_neg (show ¬ (false = true) by decide)] at H
       obtain rfl := Option.some.inj H
       obtain ⟨hcz77_0, hcz77_1, hcz77_2, hcz77_3, hcz77_4, hcz77_5, hcz77_6, hcz77_7, hcz77_8, hcz77_9, hcz77_10, hfz77_0, hfz77_1, hfz77_2, hfz77_3, hfz77_4, hfz77_5, hfz77_6, hfz77_7, hfz77_8, hfz77_9, hfz77_10⟩ := c11 BK347
       try go_wp2_with (first | ((with_reducible refine gq 32 rfl ?_); refine gl (some 21) Try.func32 #[.agg #[.bool t328, .slice Ao12 t329.length co12, .int .i64 t332, .slice Ao13 t333.length co13, .int .i64 t336, .string t337, .slice Ao14 t338.length co14, .int .i64 t341, .int .i64 t342, .slice Ao15 t343.length co15, .bool t346]] ?_; (with_reducible refine (impl_EndWrite.calls k t328 _ _ t329 t332 _ _ t333 t336 t337 _ _ t338 t341 t342 _ _ t343 t346 t368 t369 t372 t373 t376 t377 t378 t381 t382 t383 t386 t387 _ ?side1 ?side2 ?side3 ?side4 ?side5 ?side6 ?side7 ?side8 A25.out).mono ?_); (case side1 => exact zc (Kd.R_reads' HO331.out).2.2); (case side2 => exact (Kd.R_reads' HO331.out).2.1); (case side3 => exact zc (Kd.R_reads' HO335.out).2.2); (case side4 => exact (Kd.R_reads' HO335.out).2.1); (case side5 => exact zc (Kd.S_reads' HO340.out).2.2); (case side6 => exact (Kd.S_reads' HO340.out).2.1); (case side7 => exact zc (Kd.R_reads' HO345.out).2.2); (case side8 => exact (Kd.R_reads' HO345.out).2.1); rintro e w78 ⟨v370, v374, v379, v384, rfl, ho0, ho1, ho2, ho3, hb⟩; refine ⟨_, rfl, ?_⟩; have HO371 := Aside0.mk (Kd.R_lower (Kd.R_new' (Kd.R_new' (Kd.R_new' (Kd.R_new' ho0 (Kd.R_lt (zr HO331))) (Kd.R_lt (zr HO335))) (Kd.R_lt (zr HO351))) (Kd.R_lt (zr HO355))) (below_size (zb HB))); have HO375 := Aside0.mk (Kd.R_lower (Kd.R_new' (Kd.R_new' (Kd.R_new' (Kd.R_new' ho1 (Kd.R_lt (zr HO331))) (Kd.R_lt (zr HO335))) (Kd.R_lt (zr HO351))) (Kd.R_lt (zr HO355))) (below_size (zb HB))); have HO380 := Aside0.mk (Kd.S_lower (Kd.S_new' (Kd.S_new' (Kd.S_new' (Kd.S_new' (Kd.S_new' (Kd.S_new' ho2 (Kd.R_lt (zr HO331))) (Kd.R_lt (zr HO335))) (Kd.S_lt (by (with_reducible repeat (first | apply Kd.S_alloc | apply Kd.S_drewN | apply Kd.S_drew)); exact HO340.out))) (Kd.R_lt (zr HO351))) (Kd.R_lt (zr HO355))) (Kd.S_lt (by (with_reducible repeat (first | apply Kd.S_alloc | apply Kd.S_drewN | apply Kd.S_drew)); exact HO360.out))) (below_size (zb HB))); replace HO331 := Aside0.mk (Kd.R_mono (Kd.R_told (Kd.R_told (Kd.R_old (zr HO331) hb) (Kd.R_base ho0)) (Kd.R_base ho1)) (fun _ h_ => h_.1)); replace HO335 := Aside0.mk (Kd.R_mono (Kd.R_told (Kd.R_told (Kd.R_old (zr HO335) hb) (Kd.R_base ho0)) (Kd.R_base ho1)) (fun _ h_ => h_.1)); replace HO340 := Aside0.mk (Kd.S_mono (Kd.S_told (Kd.S_told (Kd.S_told (Kd.S_old (by (with_reducible repeat (first | apply Kd.S_alloc | apply Kd.S_drewN | apply Kd.S_drew)); exact HO340.out) hb) (Kd.R_base ho0)) (Kd.R_base ho1)) (Kd.S_base ho2)) (fun _ h_ => h_.1)); replace HO351 := Aside0.mk (Kd.R_mono (Kd.R_told (Kd.R_told (Kd.R_old (zr HO351) hb) (Kd.R_base ho0)) (Kd.R_base ho1)) (fun _ h_ => h_.1)); replace HO355 := Aside0.mk (Kd.R_mono (Kd.R_told (Kd.R_told (Kd.R_old (zr HO355) hb) (Kd.R_base ho0)) (Kd.R_base ho1)) (fun _ h_ => h_.1)); replace HO360 := Aside0.mk (Kd.S_mono (Kd.S_told (Kd.S_told (Kd.S_told (Kd.S_old (by (with_reducible repeat (first | apply Kd.S_alloc | apply Kd.S_drewN | apply Kd.S_drew)); exact HO360.out) hb) (Kd.R_base ho0)) (Kd.R_base ho1)) (Kd.S_base ho2)) (fun _ h_ => h_.1)); have HO385 := Aside0.mk (Kd.R_lower (Kd.R_new' (Kd.R_new' ho3 (Kd.R_lt (zr HO345))) (Kd.R_lt (zr HO365))) (below_size (zb HB))); replace HO345 := Aside0.mk (Kd.R_elder' (zr HO345) (Kd.R_base ho3) hb); replace HO365 := Aside0.mk (Kd.R_elder' (zr HO365) (Kd.R_base ho3) hb); replace BK347 := kb BK347 hb; replace HB := Aside0.mk (below_step (zb HB) hb); (try clear hb); (try clear ho0); (try clear ho1); (try clear ho2); (try clear ho3)) | ((with_reducible refine gd 5 rfl ?_); (try (refine gate_guard (by rfl) ?_; dsimp only)); refine bx (N := 5) (cs := #[.bool false, .slice none 0 0, .int .i64 0, .slice none 0 0, .int .i64 0, .string (⟨#[]⟩ : ByteArray), .slice none 0 0, .int .i64 0, .int .i64 0, .slice none 0 0, .bool false]) (t := 42) ?_; intro gb388 hg w79 hbox hb; replace HO331 := Aside0.mk (Kd.R_below (zr HO331) hb); replace HO335 := Aside0.mk (Kd.R_below (zr HO335) hb); replace HO340 := Aside0.mk (Kd.S_below (by (with_reducible repeat (first | apply Kd.S_alloc | apply Kd.S_drewN | apply Kd.S_drew)); exact HO340.out) hb); replace HO345 := Aside0.mk (Kd.R_below (zr HO345) hb); replace HO351 := Aside0.mk (Kd.R_below (zr HO351) hb); replace HO355 := Aside0.mk (Kd.R_below (zr HO355) hb); replace HO360 := Aside0.mk (Kd.S_below (by (with_reducible repeat (first | apply Kd.S_alloc | apply Kd.S_drewN | apply Kd.S_drew)); exact HO360.out) hb); replace HO365 := Aside0.mk (Kd.R_below (zr HO365) hb); replace HO371 := Aside0.mk (Kd.R_below (zr HO371) hb); replace HO375 := Aside0.mk (Kd.R_below (zr HO375) hb); replace HO380 := Aside0.mk (Kd.S_below (by (with_reducible repeat (first | apply Kd.S_alloc | apply Kd.S_drewN | apply Kd.S_drew)); exact HO380.out) hb); replace HO385 := Aside0.mk (Kd.R_below (zr HO385) hb); have BK388 := Aside0.mk (hbox); have GW388 := gw HB hg; have GE388 := GW388; replace HB := Aside0.mk (below_step (zb HB) hb); obtain ⟨NB347_388, NB388_347⟩ := nb BK347 hg; replace BK347 := kb BK347 hb; clear hb hbox hg; have hnb80 := NB388_347.out; have hnc80 := NB347_388.out; obtain ⟨hcz81_0, hcz81_1, hcz81_2, hcz81_3, hcz81_4, hcz81_5, hcz81_6, hcz81_7, hcz81_8, hcz81_9, hcz81_10, hfz81_0, hfz81_1, hfz81_2, hfz81_3, hfz81_4, hfz81_5, hfz81_6, hfz81_7, hfz81_8, hfz81_9, hfz81_10⟩ := c11 BK388; obtain ⟨Ao82, co82, eo82⟩ := Kd.R_slice HO371.out; subst eo82; obtain ⟨Ao83, co83, eo83⟩ := Kd.R_slice HO375.out; subst eo83; obtain ⟨Ao84, co84, eo84⟩ := Kd.S_slice HO380.out; subst eo84; obtain ⟨Ao85, co85, eo85⟩ := Kd.R_slice HO385.out; subst eo85))
       have n0_ : Aside0 (Kd.R k88 88 (((((((((((w79.setCell ⟨gb388, 0, none⟩ (.bool t368)).setCell ⟨gb388, 1, none⟩ (.slice Ao82 t369.length co82)).setCell ⟨gb388, 2, none⟩ (.int .i64 t372)).setCell ⟨gb388, 3, none⟩ (.slice Ao83 t373.length co83)).setCell ⟨gb388, 4, none⟩ (.int .i64 t376)).setCell ⟨gb388, 5, none⟩ (.string t377)).setCell ⟨gb388, 6, none⟩ (.slice Ao84 t378.length co84)).setCell ⟨gb388, 7, none⟩ (.int .i64 t381)).setCell ⟨gb388, 8, none⟩ (.int .i64 t382)).setCell ⟨gb388, 9, none⟩ (.slice Ao85 t383.length co85)).setCell ⟨gb388, 10, none⟩ (.bool t386)) w.heap.size (fun k_ => some k_ ≠ (.slice Ao13 t333.length co13 : Value).ownBlock ∧ some k_ ≠ (.slice Ao19 t349.length co19 : Value).ownBlock ∧ some k_ ≠ (.slice Ao20 t353.length co20 : Value).ownBlock ∧ some k_ ≠ (.slice Ao82 t369.length co82 : Value).ownBlock ∧ some k_ ≠ (.slice Ao83 t373.length co83 : Value).ownBlock) (.slice Ao12 t329.length co12) t329) := ⟨(Kd.R_mono (ztR (Kd.R_types HO331.out BK388.out (by decide))) (fun _ hk => ⟨hk.1.1.1.1.1, ⟨hk.1.1.1.1.2, ⟨hk.1.1.1.2, ⟨hk.1.1.2, hk.1.2⟩⟩⟩⟩))⟩
       have n1_ : Aside0 (Kd.R k88 88 (((((((((((w79.setCell ⟨gb388, 0, none⟩ (.bool t368)).setCell ⟨gb388, 1, none⟩ (.slice Ao82 t369.length co82)).setCell ⟨gb388, 2, none⟩ (.int .i64 t372)).setCell ⟨gb388, 3, none⟩ (.slice Ao83 t373.length co83)).setCell ⟨gb388, 4, none⟩ (.int .i64 t376)).setCell ⟨gb388, 5, none⟩ (.string t377)).setCell ⟨gb388, 6, none⟩ (.slice Ao84 t378.length co84)).setCell ⟨gb388, 7, none⟩ (.int .i64 t381)).setCell ⟨gb388, 8, none⟩ (.int .i64 t382)).setCell ⟨gb388, 9, none⟩ (.slice Ao85 t383.length co85)).setCell ⟨gb388, 10, none⟩ (.bool t386)) w.heap.size (fun k_ => some k_ ≠ (.slice Ao12 t329.length co12 : Value).ownBlock ∧ some k_ ≠ (.slice Ao19 t349.length co19 : Value).ownBlock ∧ some k_ ≠ (.slice Ao20 t353.length co20 : Value).ownBlock ∧ some k_ ≠ (.slice Ao82 t369.length co82 : Value).ownBlock ∧ some k_ ≠ (.slice Ao83 t373.length co83 : Value).ownBlock) (.slice Ao13 t333.length co13) t333) := ⟨(Kd.R_mono (ztR (Kd.R_types HO335.out BK388.out (by decide))) (fun _ hk => ⟨hk.1.1.1.1.1, ⟨hk.1.1.1.1.2, ⟨hk.1.1.1.2, ⟨hk.1.1.2, hk.1.2⟩⟩⟩⟩))⟩
       have n2_ : Aside0 (Kd.S k104 104 (((((((((((w79.setCell ⟨gb388, 0, none⟩ (.bool t368)).setCell ⟨gb388, 1, none⟩ (.slice Ao82 t369.length co82)).setCell ⟨gb388, 2, none⟩ (.int .i64 t372)).setCell ⟨gb388, 3, none⟩ (.slice Ao83 t373.length co83)).setCell ⟨gb388, 4, none⟩ (.int .i64 t376)).setCell ⟨gb388, 5, none⟩ (.string t377)).setCell ⟨gb388, 6, none⟩ (.slice Ao84 t378.length co84)).setCell ⟨gb388, 7, none⟩ (.int .i64 t381)).setCell ⟨gb388, 8, none⟩ (.int .i64 t382)).setCell ⟨gb388, 9, none⟩ (.slice Ao85 t383.length co85)).setCell ⟨gb388, 10, none⟩ (.bool t386)) w.heap.size (fun k_ => some k_ ≠ (.slice Ao12 t329.length co12 : Value).ownBlock ∧ some k_ ≠ (.slice Ao13 t333.length co13 : Value).ownBlock ∧ some k_ ≠ (.slice Ao19 t349.length co19 : Value).ownBlock ∧ some k_ ≠ (.slice Ao20 t353.length co20 : Value).ownBlock ∧ some k_ ≠ (.slice Ao21 t358.length co21 : Value).ownBlock ∧ some k_ ≠ (.slice Ao82 t369.length co82 : Value).ownBlock ∧ some k_ ≠ (.slice Ao83 t373.length co83 : Value).ownBlock ∧ some k_ ≠ (.slice Ao84 t378.length co84 : Value).ownBlock) (.slice Ao14 t338.length co14) t338) := ⟨by (with_reducible repeat (first | apply Kd.S_alloc | apply Kd.S_drewN | apply Kd.S_drew)); exact Kd.S_mono (ztS (Kd.S_types HO340.out BK388.out (by decide))) (fun _ hk => ⟨hk.1.1.1.1.1.1.1.1, ⟨hk.1.1.1.1.1.1.1.2, ⟨hk.1.1.1.1.1.1.2, ⟨hk.1.1.1.1.1.2, ⟨hk.1.1.1.1.2, ⟨hk.1.1.1.2, ⟨hk.1.1.2, hk.1.2⟩⟩⟩⟩⟩⟩⟩)⟩
       have n3_ : Aside0 (Kd.R k110 110 (((((((((((w79.setCell ⟨gb388, 0, none⟩ (.bool t368)).setCell ⟨gb388, 1, none⟩ (.slice Ao82 t369.length co82)).setCell ⟨gb388, 2, none⟩ (.int .i64 t372)).setCell ⟨gb388, 3, none⟩ (.slice Ao83 t373.length co83)).setCell ⟨gb388, 4, none⟩ (.int .i64 t376)).setCell ⟨gb388, 5, none⟩ (.string t377)).setCell ⟨gb388, 6, none⟩ (.slice Ao84 t378.length co84)).setCell ⟨gb388, 7, none⟩ (.int .i64 t381)).setCell ⟨gb388, 8, none⟩ (.int .i64 t382)).setCell ⟨gb388, 9, none⟩ (.slice Ao85 t383.length co85)).setCell ⟨gb388, 10, none⟩ (.bool t386)) w.heap.size (fun k_ => some k_ ≠ (.slice Ao22 t363.length co22 : Value).ownBlock ∧ some k_ ≠ (.slice Ao85 t383.length co85 : Value).ownBlock) (.slice Ao15 t343.length co15) t343) := ⟨(Kd.R_mono (ztR (Kd.R_types HO345.out BK388.out (by decide))) (fun _ hk => ⟨hk.1.1.2, hk.1.2⟩))⟩
       have n4_ : Aside0 (Kd.R k88 88 (((((((((((w79.setCell ⟨gb388, 0, none⟩ (.bool t368)).setCell ⟨gb388, 1, none⟩ (.slice Ao82 t369.length co82)).setCell ⟨gb388, 2, none⟩ (.int .i64 t372)).setCell ⟨gb388, 3, none⟩ (.slice Ao83 t373.length co83)).setCell ⟨gb388, 4, none⟩ (.int .i64 t376)).setCell ⟨gb388, 5, none⟩ (.string t377)).setCell ⟨gb388, 6, none⟩ (.slice Ao84 t378.length co84)).setCell ⟨gb388, 7, none⟩ (.int .i64 t381)).setCell ⟨gb388, 8, none⟩ (.int .i64 t382)).setCell ⟨gb388, 9, none⟩ (.slice Ao85 t383.length co85)).setCell ⟨gb388, 10, none⟩ (.bool t386)) w.heap.size (fun k_ => some k_ ≠ (.slice Ao12 t329.length co12 : Value).ownBlock ∧ some k_ ≠ (.slice Ao13 t333.length co13 : Value).ownBlock ∧ some k_ ≠ (.slice Ao20 t353.length co20 : Value).ownBlock ∧ some k_ ≠ (.slice Ao82 t369.length co82 : Value).ownBlock ∧ some k_ ≠ (.slice Ao83 t373.length co83 : Value).ownBlock) (.slice Ao19 t349.length co19) t349) := ⟨(Kd.R_mono (ztR (Kd.R_types HO351.out BK388.out (by decide))) (fun _ hk => ⟨hk.1.1.1.1.2, ⟨hk.1.1.1.2, ⟨hk.1.1.1.1.1, ⟨hk.1.1.2, hk.1.2⟩⟩⟩⟩))⟩
       have n5_ : Aside0 (Kd.R k88 88 (((((((((((w79.setCell ⟨gb388, 0, none⟩ (.bool t368)).setCell ⟨gb388, 1, none⟩ (.slice Ao82 t369.length co82)).setCell ⟨gb388, 2, none⟩ (.int .i64 t372)).setCell ⟨gb388, 3, none⟩ (.slice Ao83 t373.length co83)).setCell ⟨gb388, 4, none⟩ (.int .i64 t376)).setCell ⟨gb388, 5, none⟩ (.string t377)).setCell ⟨gb388, 6, none⟩ (.slice Ao84 t378.length co84)).setCell ⟨gb388, 7, none⟩ (.int .i64 t381)).setCell ⟨gb388, 8, none⟩ (.int .i64 t382)).setCell ⟨gb388, 9, none⟩ (.slice Ao85 t383.length co85)).setCell ⟨gb388, 10, none⟩ (.bool t386)) w.heap.size (fun k_ => some k_ ≠ (.slice Ao12 t329.length co12 : Value).ownBlock ∧ some k_ ≠ (.slice Ao13 t333.length co13 : Value).ownBlock ∧ some k_ ≠ (.slice Ao19 t349.length co19 : Value).ownBlock ∧ some k_ ≠ (.slice Ao82 t369.length co82 : Value).ownBlock ∧ some k_ ≠ (.slice Ao83 t373.length co83 : Value).ownBlock) (.slice Ao20 t353.length co20) t353) := ⟨(Kd.R_mono (ztR (Kd.R_types HO355.out BK388.out (by decide))) (fun _ hk => ⟨hk.1.1.1.1.2, ⟨hk.1.1.1.2, ⟨hk.1.1.1.1.1, ⟨hk.1.1.2, hk.1.2⟩⟩⟩⟩))⟩
       have n6_ : Aside0 (Kd.S k104 104 (((((((((((w79.setCell ⟨gb388, 0, none⟩ (.bool t368)).setCell ⟨gb388, 1, none⟩ (.slice Ao82 t369.length co82)).setCell ⟨gb388, 2, none⟩ (.int .i64 t372)).setCell ⟨gb388, 3, none⟩ (.slice Ao83 t373.length co83)).setCell ⟨gb388, 4, none⟩ (.int .i64 t376)).setCell ⟨gb388, 5, none⟩ (.string t377)).setCell ⟨gb388, 6, none⟩ (.slice Ao84 t378.length co84)).setCell ⟨gb388, 7, none⟩ (.int .i64 t381)).setCell ⟨gb388, 8, none⟩ (.int .i64 t382)).setCell ⟨gb388, 9, none⟩ (.slice Ao85 t383.length co85)).setCell ⟨gb388, 10, none⟩ (.bool t386)) w.heap.size (fun k_ => some k_ ≠ (.slice Ao12 t329.length co12 : Value).ownBlock ∧ some k_ ≠ (.slice Ao13 t333.length co13 : Value).ownBlock ∧ some k_ ≠ (.slice Ao14 t338.length co14 : Value).ownBlock ∧ some k_ ≠ (.slice Ao19 t349.length co19 : Value).ownBlock ∧ some k_ ≠ (.slice Ao20 t353.length co20 : Value).ownBlock ∧ some k_ ≠ (.slice Ao82 t369.length co82 : Value).ownBlock ∧ some k_ ≠ (.slice Ao83 t373.length co83 : Value).ownBlock ∧ some k_ ≠ (.slice Ao84 t378.length co84 : Value).ownBlock) (.slice Ao21 t358.length co21) t358) := ⟨by (with_reducible repeat (first | apply Kd.S_alloc | apply Kd.S_drewN | apply Kd.S_drew)); exact Kd.S_mono (ztS (Kd.S_types HO360.out BK388.out (by decide))) (fun _ hk => ⟨hk.1.1.1.1.1.1.2, ⟨hk.1.1.1.1.1.2, ⟨hk.1.1.1.1.2, ⟨hk.1.1.1.1.1.1.1.1, ⟨hk.1.1.1.1.1.1.1.2, ⟨hk.1.1.1.2, ⟨hk.1.1.2, hk.1.2⟩⟩⟩⟩⟩⟩⟩)⟩
       have n7_ : Aside0 (Kd.R k110 110 (((((((((((w79.setCell ⟨gb388, 0, none⟩ (.bool t368)).setCell ⟨gb388, 1, none⟩ (.slice Ao82 t369.length co82)).setCell ⟨gb388, 2, none⟩ (.int .i64 t372)).setCell ⟨gb388, 3, none⟩ (.slice Ao83 t373.length co83)).setCell ⟨gb388, 4, none⟩ (.int .i64 t376)).setCell ⟨gb388, 5, none⟩ (.string t377)).setCell ⟨gb388, 6, none⟩ (.slice Ao84 t378.length co84)).setCell ⟨gb388, 7, none⟩ (.int .i64 t381)).setCell ⟨gb388, 8, none⟩ (.int .i64 t382)).setCell ⟨gb388, 9, none⟩ (.slice Ao85 t383.length co85)).setCell ⟨gb388, 10, none⟩ (.bool t386)) w.heap.size (fun k_ => some k_ ≠ (.slice Ao15 t343.length co15 : Value).ownBlock ∧ some k_ ≠ (.slice Ao85 t383.length co85 : Value).ownBlock) (.slice Ao22 t363.length co22) t363) := ⟨(Kd.R_mono (ztR (Kd.R_types HO365.out BK388.out (by decide))) (fun _ hk => ⟨hk.1.1.2, hk.1.2⟩))⟩
       have n8_ : Aside0 (Kd.R k88 88 (((((((((((w79.setCell ⟨gb388, 0, none⟩ (.bool t368)).setCell ⟨gb388, 1, none⟩ (.slice Ao82 t369.length co82)).setCell ⟨gb388, 2, none⟩ (.int .i64 t372)).setCell ⟨gb388, 3, none⟩ (.slice Ao83 t373.length co83)).setCell ⟨gb388, 4, none⟩ (.int .i64 t376)).setCell ⟨gb388, 5, none⟩ (.string t377)).setCell ⟨gb388, 6, none⟩ (.slice Ao84 t378.length co84)).setCell ⟨gb388, 7, none⟩ (.int .i64 t381)).setCell ⟨gb388, 8, none⟩ (.int .i64 t382)).setCell ⟨gb388, 9, none⟩ (.slice Ao85 t383.length co85)).setCell ⟨gb388, 10, none⟩ (.bool t386)) w.heap.size (fun k_ => some k_ ≠ (.slice Ao12 t329.length co12 : Value).ownBlock ∧ some k_ ≠ (.slice Ao13 t333.length co13 : Value).ownBlock ∧ some k_ ≠ (.slice Ao19 t349.length co19 : Value).ownBlock ∧ some k_ ≠ (.slice Ao20 t353.length co20 : Value).ownBlock ∧ some k_ ≠ (.slice Ao83 t373.length co83 : Value).ownBlock) (.slice Ao82 t369.length co82) t369) := ⟨(Kd.R_mono (ztR (Kd.R_types HO371.out BK388.out (by decide))) (fun _ hk => ⟨hk.1.1.1.1.2, ⟨hk.1.1.1.2, ⟨hk.1.1.2, ⟨hk.1.2, hk.1.1.1.1.1⟩⟩⟩⟩))⟩
       have n9_ : Aside0 (Kd.R k88 88 (((((((((((w79.setCell ⟨gb388, 0, none⟩ (.bool t368)).setCell ⟨gb388, 1, none⟩ (.slice Ao82 t369.length co82)).setCell ⟨gb388, 2, none⟩ (.int .i64 t372)).setCell ⟨gb388, 3, none⟩ (.slice Ao83 t373.length co83)).setCell ⟨gb388, 4, none⟩ (.int .i64 t376)).setCell ⟨gb388, 5, none⟩ (.string t377)).setCell ⟨gb388, 6, none⟩ (.slice Ao84 t378.length co84)).setCell ⟨gb388, 7, none⟩ (.int .i64 t381)).setCell ⟨gb388, 8, none⟩ (.int .i64 t382)).setCell ⟨gb388, 9, none⟩ (.slice Ao85 t383.length co85)).setCell ⟨gb388, 10, none⟩ (.bool t386)) w.heap.size (fun k_ => some k_ ≠ (.slice Ao12 t329.length co12 : Value).ownBlock ∧ some k_ ≠ (.slice Ao13 t333.length co13 : Value).ownBlock ∧ some k_ ≠ (.slice Ao19 t349.length co19 : Value).ownBlock ∧ some k_ ≠ (.slice Ao20 t353.length co20 : Value).ownBlock ∧ some k_ ≠ (.slice Ao82 t369.length co82 : Value).ownBlock) (.slice Ao83 t373.length co83) t373) := ⟨(Kd.R_mono (ztR (Kd.R_types HO375.out BK388.out (by decide))) (fun _ hk => ⟨hk.1.1.1.1.2, ⟨hk.1.1.1.2, ⟨hk.1.1.2, ⟨hk.1.2, hk.1.1.1.1.1⟩⟩⟩⟩))⟩
       have n10_ : Aside0 (Kd.S k104 104 (((((((((((w79.setCell ⟨gb388, 0, none⟩ (.bool t368)).setCell ⟨gb388, 1, none⟩ (.slice Ao82 t369.length co82)).setCell ⟨gb388, 2, none⟩ (.int .i64 t372)).setCell ⟨gb388, 3, none⟩ (.slice Ao83 t373.length co83)).setCell ⟨gb388, 4, none⟩ (.int .i64 t376)).setCell ⟨gb388, 5, none⟩ (.string t377)).setCell ⟨gb388, 6, none⟩ (.slice Ao84 t378.length co84)).setCell ⟨gb388, 7, none⟩ (.int .i64 t381)).setCell ⟨gb388, 8, none⟩ (.int .i64 t382)).setCell ⟨gb388, 9, none⟩ (.slice Ao85 t383.length co85)).setCell ⟨gb388, 10, none⟩ (.bool t386)) w.heap.size (fun k_ => some k_ ≠ (.slice Ao12 t329.length co12 : Value).ownBlock ∧ some k_ ≠ (.slice Ao13 t333.length co13 : Value).ownBlock ∧ some k_ ≠ (.slice Ao14 t338.length co14 : Value).ownBlock ∧ some k_ ≠ (.slice Ao19 t349.length co19 : Value).ownBlock ∧ some k_ ≠ (.slice Ao20 t353.length co20 : Value).ownBlock ∧ some k_ ≠ (.slice Ao21 t358.length co21 : Value).ownBlock ∧ some k_ ≠ (.slice Ao82 t369.length co82 : Value).ownBlock ∧ some k_ ≠ (.slice Ao83 t373.length co83 : Value).ownBlock) (.slice Ao84 t378.length co84) t378) := ⟨by (with_reducible repeat (first | apply Kd.S_alloc | apply Kd.S_drewN | apply Kd.S_drew)); exact Kd.S_mono (ztS (Kd.S_types HO380.out BK388.out (by decide))) (fun _ hk => ⟨hk.1.1.1.1.1.1.2, ⟨hk.1.1.1.1.1.2, ⟨hk.1.1.1.1.2, ⟨hk.1.1.1.2, ⟨hk.1.1.2, ⟨hk.1.2, ⟨hk.1.1.1.1.1.1.1.1, hk.1.1.1.1.1.1.1.2⟩⟩⟩⟩⟩⟩⟩)⟩
       have n11_ : Aside0 (Kd.R k110 110 (((((((((((w79.setCell ⟨gb388, 0, none⟩ (.bool t368)).setCell ⟨gb388, 1, none⟩ (.slice Ao82 t369.length co82)).setCell ⟨gb388, 2, none⟩ (.int .i64 t372)).setCell ⟨gb388, 3, none⟩ (.slice Ao83 t373.length co83)).setCell ⟨gb388, 4, none⟩ (.int .i64 t376)).setCell ⟨gb388, 5, none⟩ (.string t377)).setCell ⟨gb388, 6, none⟩ (.slice Ao84 t378.length co84)).setCell ⟨gb388, 7, none⟩ (.int .i64 t381)).setCell ⟨gb388, 8, none⟩ (.int .i64 t382)).setCell ⟨gb388, 9, none⟩ (.slice Ao85 t383.length co85)).setCell ⟨gb388, 10, none⟩ (.bool t386)) w.heap.size (fun k_ => some k_ ≠ (.slice Ao15 t343.length co15 : Value).ownBlock ∧ some k_ ≠ (.slice Ao22 t363.length co22 : Value).ownBlock) (.slice Ao85 t383.length co85) t383) := ⟨(Kd.R_mono (ztR (Kd.R_types HO385.out BK388.out (by decide))) (fun _ hk => ⟨hk.1.1.2, hk.1.2⟩))⟩
       have n12_ : Aside0 ((((((((((((w79.setCell ⟨gb388, 0, none⟩ (.bool t368)).setCell ⟨gb388, 1, none⟩ (.slice Ao82 t369.length co82)).setCell ⟨gb388, 2, none⟩ (.int .i64 t372)).setCell ⟨gb388, 3, none⟩ (.slice Ao83 t373.length co83)).setCell ⟨gb388, 4, none⟩ (.int .i64 t376)).setCell ⟨gb388, 5, none⟩ (.string t377)).setCell ⟨gb388, 6, none⟩ (.slice Ao84 t378.length co84)).setCell ⟨gb388, 7, none⟩ (.int .i64 t381)).setCell ⟨gb388, 8, none⟩ (.int .i64 t382)).setCell ⟨gb388, 9, none⟩ (.slice Ao85 t383.length co85)).setCell ⟨gb388, 10, none⟩ (.bool t386)).heap[gb347]? = some (.cells #[.bool t328, .slice Ao12 t329.length co12, .int .i64 t332, .slice Ao13 t333.length co13, .int .i64 t336, .string t337, .slice Ao14 t338.length co14, .int .i64 t341, .int .i64 t342, .slice Ao15 t343.length co15, .bool t346] 42 (0, 0))) := ⟨zp BK347⟩
       have n13_ : Aside0 ((((((((((((w79.setCell ⟨gb388, 0, none⟩ (.bool t368)).setCell ⟨gb388, 1, none⟩ (.slice Ao82 t369.length co82)).setCell ⟨gb388, 2, none⟩ (.int .i64 t372)).setCell ⟨gb388, 3, none⟩ (.slice Ao83 t373.length co83)).setCell ⟨gb388, 4, none⟩ (.int .i64 t376)).setCell ⟨gb388, 5, none⟩ (.string t377)).setCell ⟨gb388, 6, none⟩ (.slice Ao84 t378.length co84)).setCell ⟨gb388, 7, none⟩ (.int .i64 t381)).setCell ⟨gb388, 8, none⟩ (.int .i64 t382)).setCell ⟨gb388, 9, none⟩ (.slice Ao85 t383.length co85)).setCell ⟨gb388, 10, none⟩ (.bool t386)).heap[gb388]? = some (.cells #[.bool t368, .slice Ao82 t369.length co82, .int .i64 t372, .slice Ao83 t373.length co83, .int .i64 t376, .string t377, .slice Ao84 t378.length co84, .int .i64 t381, .int .i64 t382, .slice Ao85 t383.length co85, .bool t386] 42 (0, 0))) := ⟨zp BK388⟩
       have n14_ : Aside0 (Below w.heap.size w (((((((((((w79.setCell ⟨gb388, 0, none⟩ (.bool t368)).setCell ⟨gb388, 1, none⟩ (.slice Ao82 t369.length co82)).setCell ⟨gb388, 2, none⟩ (.int .i64 t372)).setCell ⟨gb388, 3, none⟩ (.slice Ao83 t373.length co83)).setCell ⟨gb388, 4, none⟩ (.int .i64 t376)).setCell ⟨gb388, 5, none⟩ (.string t377)).setCell ⟨gb388, 6, none⟩ (.slice Ao84 t378.length co84)).setCell ⟨gb388, 7, none⟩ (.int .i64 t381)).setCell ⟨gb388, 8, none⟩ (.int .i64 t382)).setCell ⟨gb388, 9, none⟩ (.slice Ao85 t383.length co85)).setCell ⟨gb388, 10, none⟩ (.bool t386))) := ⟨zb HB⟩
       (try clear HO331)
       (try clear HO335)
       (try clear HO340)
       (try clear HO345)
       (try clear HO351)
       (try clear HO355)
       (try clear HO360)
       (try clear HO365)
       (try clear HO371)
       (try clear HO375)
       (try clear HO380)
       (try clear HO385)
       (try clear BK347)
       (try clear BK388)
       (try clear HB)
       generalize (((((((((((w79.setCell ⟨gb388, 0, none⟩ (.bool t368)).setCell ⟨gb388, 1, none⟩ (.slice Ao82 t369.length co82)).setCell ⟨gb388, 2, none⟩ (.int .i64 t372)).setCell ⟨gb388, 3, none⟩ (.slice Ao83 t373.length co83)).setCell ⟨gb388, 4, none⟩ (.int .i64 t376)).setCell ⟨gb388, 5, none⟩ (.string t377)).setCell ⟨gb388, 6, none⟩ (.slice Ao84 t378.length co84)).setCell ⟨gb388, 7, none⟩ (.int .i64 t381)).setCell ⟨gb388, 8, none⟩ (.int .i64 t382)).setCell ⟨gb388, 9, none⟩ (.slice Ao85 t383.length co85)).setCell ⟨gb388, 10, none⟩ (.bool t386)) = w86 at n0_ n1_ n2_ n3_ n4_ n5_ n6_ n7_ n8_ n9_ n10_ n11_ n12_ n13_ n14_ ⊢
       have HO331 := n0_
       have HO335 := n1_
       have HO340 := n2_
       have HO345 := n3_
       have HO351 := n4_
       have HO355 := n5_
       have HO360 := n6_
       have HO365 := n7_
       have HO371 := n8_
       have HO375 := n9_
       have HO380 := n10_
       have HO385 := n11_
       have BK347 := n12_
       have BK388 := n13_
       have HB := n14_
       clear n0_ n1_ n2_ n3_ n4_ n5_ n6_ n7_ n8_ n9_ n10_ n11_ n12_ n13_ n14_
       replace HO331 := Aside0.mk (Kd.R_drew HO331.out)
       replace HO335 := Aside0.mk (Kd.R_drew HO335.out)
       replace HO340 := Aside0.mk (Kd.S_drew HO340.out)
       replace HO345 := Aside0.mk (Kd.R_drew HO345.out)
       replace HO351 := Aside0.mk (Kd.R_drew HO351.out)
       replace HO355 := Aside0.mk (Kd.R_drew HO355.out)
       replace HO360 := Aside0.mk (Kd.S_drew HO360.out)
       replace HO365 := Aside0.mk (Kd.R_drew HO365.out)
       replace HO371 := Aside0.mk (Kd.R_drew HO371.out)
       replace HO375 := Aside0.mk (Kd.R_drew HO375.out)
       replace HO380 := Aside0.mk (Kd.S_drew HO380.out)
       replace HO385 := Aside0.mk (Kd.R_drew HO385.out)
       replace BK347 := Aside0.mk (blk_drew BK347.out)
       replace BK388 := Aside0.mk (blk_drew BK388.out)
       replace HB := Aside0.mk (below_drew1 HB.out)
       refine st 39 (an (b11 BK347) (b11 BK388)) (fun hHeld => ?_); refine with_tabW laws_FnEndNew.tab8 laws_FnEndNew.bits8 (fun HT_ HW_ => ?_)
       generalize w86.drew = w87 at HO331 HO335 HO340 HO345 HO351 HO355 HO360 HO365 HO371 HO375 HO380 HO385 BK347 BK388 HB hHeld ⊢
       refine tk 0 (some 24) (bm 39 1) rfl rfl hHeld ?_
       refine one_ (i := 1) (N := some 25) (bm 39 3) rfl rfl (one_of HT_.out (by kernel_rfl)) (by decide) (fun K hK => ?_)
       refine gs Try.func33 #[.agg #[.bool t328, .slice Ao12 t329.length co12, .int .i64 t332, .slice Ao13 t333.length co13, .int .i64 t336, .string t337, .slice Ao14 t338.length co14, .int .i64 t341, .int .i64 t342, .slice Ao15 t343.length co15, .bool t346]] ?_
       with_reducible refine (impl_EndOk.calls k t328 _ _ t329 t332 _ _ t333 t336 t337 _ _ t338 t341 t342 _ _ t343 t346 true _ ?side1 ?side2 ?side3 ?side4 ?side5 ?side6 ?side7 ?side8 A26.out).mono ?_
       (case side1 => exact zc (Kd.R_reads' HO331.out).2.2)
       (case side2 => exact (Kd.R_reads' HO331.out).2.1)
       (case side3 => exact zc (Kd.R_reads' HO335.out).2.2)
       (case side4 => exact (Kd.R_reads' HO335.out).2.1)
       (case side5 => exact zc (Kd.S_reads' HO340.out).2.2)
       (case side6 => exact (Kd.S_reads' HO340.out).2.1)
       (case side7 => exact zc (Kd.R_reads' HO345.out).2.2)
       (case side8 => exact (Kd.R_reads' HO345.out).2.1)
       rintro e w88 ⟨rfl, hb⟩
       refine ⟨_, rfl, ?_⟩
       replace HO331 := Aside0.mk (Kd.R_below (zr HO331) hb)
       replace HO335 := Aside0.mk (Kd.R_below (zr HO335) hb)
       replace HO340 := Aside0.mk (Kd.S_below (by (with_reducible repeat (first | apply Kd.S_alloc | apply Kd.S_drewN | apply Kd.S_drew)); exact HO340.out) hb)
       replace HO345 := Aside0.mk (Kd.R_below (zr HO345) hb)
       replace HO351 := Aside0.mk (Kd.R_below (zr HO351) hb)
       replace HO355 := Aside0.mk (Kd.R_below (zr HO355) hb)
       replace HO360 := Aside0.mk (Kd.S_below (by (with_reducible repeat (first | apply Kd.S_alloc | apply Kd.S_drewN | apply Kd.S_drew)); exact HO360.out) hb)
       replace HO365 := Aside0.mk (Kd.R_below (zr HO365) hb)
       replace HO371 := Aside0.mk (Kd.R_below (zr HO371) hb)
       replace HO375 := Aside0.mk (Kd.R_below (zr HO375) hb)
       replace HO380 := Aside0.mk (Kd.S_below (by (with_reducible repeat (first | apply Kd.S_alloc | apply Kd.S_drewN | apply Kd.S_drew)); exact HO380.out) hb)
       replace HO385 := Aside0.mk (Kd.R_below (zr HO385) hb)
       replace BK347 := kb BK347 hb
       replace BK388 := kb BK388 hb
       replace HB := Aside0.mk (below_step (zb HB) hb)
       (try clear hb)
       refine hK.out _ _ (an (b11 BK347) (b11 BK388)) (fun hHeld => ?_)
       clear hK K
       refine nm ?_
       refine pu 2 (some 26) (bm 39 7) rfl rfl ?_
       refine pu 3 (some 27) (bm 39 15) rfl rfl ?_
       refine pu 5 (some 29) (bm 39 47) rfl rfl ?_
       refine tk 4 (some 28) (bm 39 63) rfl rfl hHeld ?_
       refine pu 6 (some 30) (bm 39 127) rfl rfl ?_
       refine pu 7 (some 31) (bm 39 255) rfl rfl ?_
       refine pu 8 (some 32) (bm 39 511) rfl rfl ?_
       refine pu 9 (some 33) (bm 39 1023) rfl rfl ?_
       refine pu 10 (some 34) (bm 39 2047) rfl rfl ?_
       refine pu 11 (some 35) (bm 39 4095) rfl rfl ?_
       refine pu 12 (some 36) (bm 39 8191) rfl rfl ?_
       refine tk 13 (some 37) (bm 39 16383) rfl rfl hHeld ?_
       refine tk 14 (some 38) (bm 39 32767) rfl rfl hHeld ?_
       refine one_ (i := 15) (N := some 39) (bm 39 65535) rfl rfl (one_of HT_.out (by kernel_rfl)) (by decide) (fun K hK => ?_)
       refine gs Try.func31 #[.agg #[.bool t368, .slice Ao82 t369.length co82, .int .i64 t372, .slice Ao83 t373.length co83, .int .i64 t376, .string t377, .slice Ao84 t378.length co84, .int .i64 t381, .int .i64 t382, .slice Ao85 t383.length co85, .bool t386], .agg #[.bool t328, .slice Ao12 t329.length co12, .int .i64 t332, .slice Ao13 t333.length co13, .int .i64 t336, .string t337, .slice Ao14 t338.length co14, .int .i64 t341, .int .i64 t342, .slice Ao15 t343.length co15, .bool t346]] ?_
       with_reducible refine (laws_lkEnd.calls k t368 _ _ t369 t372 _ _ t373 t376 t377 _ _ t378 t381 t382 _ _ t383 t386 t328 _ _ t329 t332 _ _ t333 t336 t337 _ _ t338 t341 t342 _ _ t343 t346 false _ ?side1 ?side2 ?side3 ?side4 ?side5 ?side6 ?side7 ?side8 ?side9 ?side10 ?side11 ?side12 ?side13 ?side14 ?side15 ?side16 A30.out).mono ?_
       (case side1 => exact zc (Kd.R_reads' HO371.out).2.2)
       (case side2 => exact (Kd.R_reads' HO371.out).2.1)
       (case side3 => exact zc (Kd.R_reads' HO375.out).2.2)
       (case side4 => exact (Kd.R_reads' HO375.out).2.1)
       (case side5 => exact zc (Kd.S_reads' HO380.out).2.2)
       (case side6 => exact (Kd.S_reads' HO380.out).2.1)
       (case side7 => exact zc (Kd.R_reads' HO385.out).2.2)
       (case side8 => exact (Kd.R_reads' HO385.out).2.1)
       (case side9 => exact zc (Kd.R_reads' HO331.out).2.2)
       (case side10 => exact (Kd.R_reads' HO331.out).2.1)
       (case side11 => exact zc (Kd.R_reads' HO335.out).2.2)
       (case side12 => exact (Kd.R_reads' HO335.out).2.1)
       (case side13 => exact zc (Kd.S_reads' HO340.out).2.2)
       (case side14 => exact (Kd.S_reads' HO340.out).2.1)
       (case side15 => exact zc (Kd.R_reads' HO345.out).2.2)
       (case side16 => exact (Kd.R_reads' HO345.out).2.1)
       rintro e w89 ⟨rfl, hb⟩
       refine ⟨_, rfl, ?_⟩
       replace HO331 := Aside0.mk (Kd.R_below (zr HO331) hb)
       replace HO335 := Aside0.mk (Kd.R_below (zr HO335) hb)
       replace HO340 := Aside0.mk (Kd.S_below (by (with_reducible repeat (first | apply Kd.S_alloc | apply Kd.S_drewN | apply Kd.S_drew)); exact HO340.out) hb)
       replace HO345 := Aside0.mk (Kd.R_below (zr HO345) hb)
       replace HO351 := Aside0.mk (Kd.R_below (zr HO351) hb)
       replace HO355 := Aside0.mk (Kd.R_below (zr HO355) hb)
       replace HO360 := Aside0.mk (Kd.S_below (by (with_reducible repeat (first | apply Kd.S_alloc | apply Kd.S_drewN | apply Kd.S_drew)); exact HO360.out) hb)
       replace HO365 := Aside0.mk (Kd.R_below (zr HO365) hb)
       replace HO371 := Aside0.mk (Kd.R_below (zr HO371) hb)
       replace HO375 := Aside0.mk (Kd.R_below (zr HO375) hb)
       replace HO380 := Aside0.mk (Kd.S_below (by (with_reducible repeat (first | apply Kd.S_alloc | apply Kd.S_drewN | apply Kd.S_drew)); exact HO380.out) hb)
       replace HO385 := Aside0.mk (Kd.R_below (zr HO385) hb)
       replace BK347 := kb BK347 hb
       replace BK388 := kb BK388 hb
       replace HB := Aside0.mk (below_step (zb HB) hb)
       (try clear hb)
       refine hK.out _ _ (an (b11 BK347) (b11 BK388)) (fun hHeld => ?_)
       clear hK K
       refine nm ?_
       refine pu 16 (some 40) (bm 39 131071) rfl rfl ?_
       refine pu 17 (some 41) (bm 39 262143) rfl rfl ?_
       refine pv 18 (some 42) (bm 39 524287) rfl rfl ?_
       refine pv 19 (some 43) (bm 39 1048575) rfl rfl ?_
       refine pv 20 (some 44) (bm 39 2097151) rfl rfl ?_
       refine pu 21 (some 45) (bm 39 4194303) rfl rfl ?_
       refine pu 22 (some 46) (bm 39 8388607) rfl rfl ?_
       refine pv 23 (some 47) (bm 39 16777215) rfl rfl ?_
       refine pv 24 (some 48) (bm 39 33554431) rfl rfl ?_
       refine pv 25 (some 49) (bm 39 67108863) rfl rfl ?_
       refine pv 26 (some 50) (bm 39 134217727) rfl rfl ?_
       refine pu 27 (some 51) (bm 39 268435455) rfl rfl ?_
       refine pu 28 (some 52) (bm 39 536870911) rfl rfl ?_
       refine pv 29 (some 53) (bm 39 1073741823) rfl rfl ?_
       refine pv 30 (some 54) (bm 39 2147483647) rfl rfl ?_
       refine pv 31 (some 55) (bm 39 4294967295) rfl rfl ?_
       refine pv 32 (some 56) (bm 39 8589934591) rfl rfl ?_
       refine pv 33 (some 57) (bm 39 17179869183) rfl rfl ?_
       refine pv 34 (some 58) (bm 39 34359738367) rfl rfl ?_
       refine pv 35 (some 59) (bm 39 68719476735) rfl rfl ?_
       refine pv 36 (some 60) (bm 39 137438953471) rfl rfl ?_
       refine pu 37 (some 61) (bm 39 274877906943) rfl rfl ?_
       refine pu 38 (some 2) (bm 39 549755813887) rfl rfl ?_
       refine done_ (done_of HT_.out (by kernel_rfl)) ?_
       try go_wp2
       go_ret
       exact ⟨ze, zb HB⟩
     ·rw [if_neg c29] at H
      have c29b0 : (t387.toList == ([] : List UInt8)) = false := beq_eq_false_iff_ne.mpr c29
      have c29b1 : (t387.toList != ([] : List UInt8)) = true := bne_iff_ne.mpr c29
      obtain rfl := Option.some.inj H
      obtain ⟨hcz90_0, hcz90_1, hcz90_2, hcz90_3, hcz90_4, hcz90_5, hcz90_6, hcz90_7, hcz90_8, hcz90_9, hcz90_10, hfz90_0, hfz90_1, hfz90_2, hfz90_3, hfz90_4, hfz90_5, hfz90_6, hfz90_7, hfz90_8, hfz90_9, hfz90_10⟩ := c11 BK347
      try go_wp2_with (first | ((with_reducible refine gq 32 rfl ?_); refine gl (some 21) Try.func32 #[.agg #[.bool t328, .slice Ao12 t329.length co12, .int .i64 t332, .slice Ao13 t333.length co13, .int .i64 t336, .string t337, .slice Ao14 t338.length co14, .int .i64 t341, .int .i64 t342, .slice Ao15 t343.length co15, .bool t346]] ?_; (with_reducible refine (impl_EndWrite.calls k t328 _ _ t329 t332 _ _ t333 t336 t337 _ _ t338 t341 t342 _ _ t343 t346 t368 t369 t372 t373 t376 t377 t378 t381 t382 t383 t386 t387 _ ?side1 ?side2 ?side3 ?side4 ?side5 ?side6 ?side7 ?side8 A25.out).mono ?_); (case side1 => exact zc (Kd.R_reads' HO331.out).2.2); (case side2 => exact (Kd.R_reads' HO331.out).2.1); (case side3 => exact zc (Kd.R_reads' HO335.out).2.2); (case side4 => exact (Kd.R_reads' HO335.out).2.1); (case side5 => exact zc (Kd.S_reads' HO340.out).2.2); (case side6 => exact (Kd.S_reads' HO340.out).2.1); (case side7 => exact zc (Kd.R_reads' HO345.out).2.2); (case side8 => exact (Kd.R_reads' HO345.out).2.1); rintro e w91 ⟨v370, v374, v379, v384, rfl, ho0, ho1, ho2, ho3, hb⟩; refine ⟨_, rfl, ?_⟩; have HO371 := Aside0.mk (Kd.R_lower (Kd.R_new' (Kd.R_new' (Kd.R_new' (Kd.R_new' ho0 (Kd.R_lt (zr HO331))) (Kd.R_lt (zr HO335))) (Kd.R_lt (zr HO351))) (Kd.R_lt (zr HO355))) (below_size (zb HB))); have HO375 := Aside0.mk (Kd.R_lower (Kd.R_new' (Kd.R_new' (Kd.R_new' (Kd.R_new' ho1 (Kd.R_lt (zr HO331))) (Kd.R_lt (zr HO335))) (Kd.R_lt (zr HO351))) (Kd.R_lt (zr HO355))) (below_size (zb HB))); have HO380 := Aside0.mk (Kd.S_lower (Kd.S_new' (Kd.S_new' (Kd.S_new' (Kd.S_new' (Kd.S_new' (Kd.S_new' ho2 (Kd.R_lt (zr HO331))) (Kd.R_lt (zr HO335))) (Kd.S_lt (by (with_reducible repeat (first | apply Kd.S_alloc | apply Kd.S_drewN | apply Kd.S_drew)); exact HO340.out))) (Kd.R_lt (zr HO351))) (Kd.R_lt (zr HO355))) (Kd.S_lt (by (with_reducible repeat (first | apply Kd.S_alloc | apply Kd.S_drewN | apply Kd.S_drew)); exact HO360.out))) (below_size (zb HB))); replace HO331 := Aside0.mk (Kd.R_mono (Kd.R_told (Kd.R_told (Kd.R_old (zr HO331) hb) (Kd.R_base ho0)) (Kd.R_base ho1)) (fun _ h_ => h_.1)); replace HO335 := Aside0.mk (Kd.R_mono (Kd.R_told (Kd.R_told (Kd.R_old (zr HO335) hb) (Kd.R_base ho0)) (Kd.R_base ho1)) (fun _ h_ => h_.1)); replace HO340 := Aside0.mk (Kd.S_mono (Kd.S_told (Kd.S_told (Kd.S_told (Kd.S_old (by (with_reducible repeat (first | apply Kd.S_alloc | apply Kd.S_drewN | apply Kd.S_drew)); exact HO340.out) hb) (Kd.R_base ho0)) (Kd.R_base ho1)) (Kd.S_base ho2)) (fun _ h_ => h_.1)); replace HO351 := Aside0.mk (Kd.R_mono (Kd.R_told (Kd.R_told (Kd.R_old (zr HO351) hb) (Kd.R_base ho0)) (Kd.R_base ho1)) (fun _ h_ => h_.1)); replace HO355 := Aside0.mk (Kd.R_mono (Kd.R_told (Kd.R_told (Kd.R_old (zr HO355) hb) (Kd.R_base ho0)) (Kd.R_base ho1)) (fun _ h_ => h_.1)); replace HO360 := Aside0.mk (Kd.S_mono (Kd.S_told (Kd.S_told (Kd.S_told (Kd.S_old (by (with_reducible repeat (first | apply Kd.S_alloc | apply Kd.S_drewN | apply Kd.S_drew)); exact HO360.out) hb) (Kd.R_base ho0)) (Kd.R_base ho1)) (Kd.S_base ho2)) (fun _ h_ => h_.1)); have HO385 := Aside0.mk (Kd.R_lower (Kd.R_new' (Kd.R_new' ho3 (Kd.R_lt (zr HO345))) (Kd.R_lt (zr HO365))) (below_size (zb HB))); replace HO345 := Aside0.mk (Kd.R_elder' (zr HO345) (Kd.R_base ho3) hb); replace HO365 := Aside0.mk (Kd.R_elder' (zr HO365) (Kd.R_base ho3) hb); replace BK347 := kb BK347 hb; replace HB := Aside0.mk (below_step (zb HB) hb); (try clear hb); (try clear ho0); (try clear ho1); (try clear ho2); (try clear ho3)) | ((with_reducible refine gd 5 rfl ?_); (try (refine gate_guard (by rfl) ?_; dsimp only)); refine bx (N := 5) (cs := #[.bool false, .slice none 0 0, .int .i64 0, .slice none 0 0, .int .i64 0, .string (⟨#[]⟩ : ByteArray), .slice none 0 0, .int .i64 0, .int .i64 0, .slice none 0 0, .bool false]) (t := 42) ?_; intro gb388 hg w92 hbox hb; replace HO331 := Aside0.mk (Kd.R_below (zr HO331) hb); replace HO335 := Aside0.mk (Kd.R_below (zr HO335) hb); replace HO340 := Aside0.mk (Kd.S_below (by (with_reducible repeat (first | apply Kd.S_alloc | apply Kd.S_drewN | apply Kd.S_drew)); exact HO340.out) hb); replace HO345 := Aside0.mk (Kd.R_below (zr HO345) hb); replace HO351 := Aside0.mk (Kd.R_below (zr HO351) hb); replace HO355 := Aside0.mk (Kd.R_below (zr HO355) hb); replace HO360 := Aside0.mk (Kd.S_below (by (with_reducible repeat (first | apply Kd.S_alloc | apply Kd.S_drewN | apply Kd.S_drew)); exact HO360.out) hb); replace HO365 := Aside0.mk (Kd.R_below (zr HO365) hb); replace HO371 := Aside0.mk (Kd.R_below (zr HO371) hb); replace HO375 := Aside0.mk (Kd.R_below (zr HO375) hb); replace HO380 := Aside0.mk (Kd.S_below (by (with_reducible repeat (first | apply Kd.S_alloc | apply Kd.S_drewN | apply Kd.S_drew)); exact HO380.out) hb); replace HO385 := Aside0.mk (Kd.R_below (zr HO385) hb); have BK388 := Aside0.mk (hbox); have GW388 := gw HB hg; have GE388 := GW388; replace HB := Aside0.mk (below_step (zb HB) hb); obtain ⟨NB347_388, NB388_347⟩ := nb BK347 hg; replace BK347 := kb BK347 hb; clear hb hbox hg; have hnb93 := NB388_347.out; have hnc93 := NB347_388.out; obtain ⟨hcz94_0, hcz94_1, hcz94_2, hcz94_3, hcz94_4, hcz94_5, hcz94_6, hcz94_7, hcz94_8, hcz94_9, hcz94_10, hfz94_0, hfz94_1, hfz94_2, hfz94_3, hfz94_4, hfz94_5, hfz94_6, hfz94_7, hfz94_8, hfz94_9, hfz94_10⟩ := c11 BK388; obtain ⟨Ao95, co95, eo95⟩ := Kd.R_slice HO371.out; subst eo95; obtain ⟨Ao96, co96, eo96⟩ := Kd.R_slice HO375.out; subst eo96; obtain ⟨Ao97, co97, eo97⟩ := Kd.S_slice HO380.out; subst eo97; obtain ⟨Ao98, co98, eo98⟩ := Kd.R_slice HO385.out; subst eo98))
      have n0_ : Aside0 (Kd.R k88 88 (((((((((((w92.setCell ⟨gb388, 0, none⟩ (.bool t368)).setCell ⟨gb388, 1, none⟩ (.slice Ao95 t369.length co95)).setCell ⟨gb388, 2, none⟩ (.int .i64 t372)).setCell ⟨gb388, 3, none⟩ (.slice Ao96 t373.length co96)).setCell ⟨gb388, 4, none⟩ (.int .i64 t376)).setCell ⟨gb388, 5, none⟩ (.string t377)).setCell ⟨gb388, 6, none⟩ (.slice Ao97 t378.length co97)).setCell ⟨gb388, 7, none⟩ (.int .i64 t381)).setCell ⟨gb388, 8, none⟩ (.int .i64 t382)).setCell ⟨gb388, 9, none⟩ (.slice Ao98 t383.length co98)).setCell ⟨gb388, 10, none⟩ (.bool t386)) w.heap.size (fun k_ => some k_ ≠ (.slice Ao13 t333.length co13 : Value).ownBlock ∧ some k_ ≠ (.slice Ao19 t349.length co19 : Value).ownBlock ∧ some k_ ≠ (.slice Ao20 t353.length co20 : Value).ownBlock ∧ some k_ ≠ (.slice Ao95 t369.length co95 : Value).ownBlock ∧ some k_ ≠ (.slice Ao96 t373.length co96 : Value).ownBlock) (.slice Ao12 t329.length co12) t329) := ⟨(Kd.R_mono (ztR (Kd.R_types HO331.out BK388.out (by decide))) (fun _ hk => ⟨hk.1.1.1.1.1, ⟨hk.1.1.1.1.2, ⟨hk.1.1.1.2, ⟨hk.1.1.2, hk.1.2⟩⟩⟩⟩))⟩
      have n1_ : Aside0 (Kd.R k88 88 (((((((((((w92.setCell ⟨gb388, 0, none⟩ (.bool t368)).setCell ⟨gb388, 1, none⟩ (.slice Ao95 t369.length co95)).setCell ⟨gb388, 2, none⟩ (.int .i64 t372)).setCell ⟨gb388, 3, none⟩ (.slice Ao96 t373.length co96)).setCell ⟨gb388, 4, none⟩ (.int .i64 t376)).setCell ⟨gb388, 5, none⟩ (.string t377)).setCell ⟨gb388, 6, none⟩ (.slice Ao97 t378.length co97)).setCell ⟨gb388, 7, none⟩ (.int .i64 t381)).setCell ⟨gb388, 8, none⟩ (.int .i64 t382)).setCell ⟨gb388, 9, none⟩ (.slice Ao98 t383.length co98)).setCell ⟨gb388, 10, none⟩ (.bool t386)) w.heap.size (fun k_ => some k_ ≠ (.slice Ao12 t329.length co12 : Value).ownBlock ∧ some k_ ≠ (.slice Ao19 t349.length co19 : Value).ownBlock ∧ some k_ ≠ (.slice Ao20 t353.length co20 : Value).ownBlock ∧ some k_ ≠ (.slice Ao95 t369.length co95 : Value).ownBlock ∧ some k_ ≠ (.slice Ao96 t373.length co96 : Value).ownBlock) (.slice Ao13 t333.length co13) t333) := ⟨(Kd.R_mono (ztR (Kd.R_types HO335.out BK388.out (by decide))) (fun _ hk => ⟨hk.1.1.1.1.1, ⟨hk.1.1.1.1.2, ⟨hk.1.1.1.2, ⟨hk.1.1.2, hk.1.2⟩⟩⟩⟩))⟩
      have n2_ : Aside0 (Kd.S k104 104 (((((((((((w92.setCell ⟨gb388, 0, none⟩ (.bool t368)).setCell ⟨gb388, 1, none⟩ (.slice Ao95 t369.length co95)).setCell ⟨gb388, 2, none⟩ (.int .i64 t372)).setCell ⟨gb388, 3, none⟩ (.slice Ao96 t373.length co96)).setCell ⟨gb388, 4, none⟩ (.int .i64 t376)).setCell ⟨gb388, 5, none⟩ (.string t377)).setCell ⟨gb388, 6, none⟩ (.slice Ao97 t378.length co97)).setCell ⟨gb388, 7, none⟩ (.int .i64 t381)).setCell ⟨gb388, 8, none⟩ (.int .i64 t382)).setCell ⟨gb388, 9, none⟩ (.slice Ao98 t383.length co98)).setCell ⟨gb388, 10, none⟩ (.bool t386)) w.heap.size (fun k_ => some k_ ≠ (.slice Ao12 t329.length co12 : Value).ownBlock ∧ some k_ ≠ (.slice Ao13 t333.length co13 : Value).ownBlock ∧ some k_ ≠ (.slice Ao19 t349.length co19 : Value).ownBlock ∧ some k_ ≠ (.slice Ao20 t353.length co20 : Value).ownBlock ∧ some k_ ≠ (.slice Ao21 t358.length co21 : Value).ownBlock ∧ some k_ ≠ (.slice Ao95 t369.length co95 : Value).ownBlock ∧ some k_ ≠ (.slice Ao96 t373.length co96 : Value).ownBlock ∧ some k_ ≠ (.slice Ao97 t378.length co97 : Value).ownBlock) (.slice Ao14 t338.length co14) t338) := ⟨by (with_reducible repeat (first | apply Kd.S_alloc | apply Kd.S_drewN | apply Kd.S_drew)); exact Kd.S_mono (ztS (Kd.S_types HO340.out BK388.out (by decide))) (fun _ hk => ⟨hk.1.1.1.1.1.1.1.1, ⟨hk.1.1.1.1.1.1.1.2, ⟨hk.1.1.1.1.1.1.2, ⟨hk.1.1.1.1.1.2, ⟨hk.1.1.1.1.2, ⟨hk.1.1.1.2, ⟨hk.1.1.2, hk.1.2⟩⟩⟩⟩⟩⟩⟩)⟩
      have n3_ : Aside0 (Kd.R k110 110 (((((((((((w92.setCell ⟨gb388, 0, none⟩ (.bool t368)).setCell ⟨gb388, 1, none⟩ (.slice Ao95 t369.length co95)).setCell ⟨gb388, 2, none⟩ (.int .i64 t372)).setCell ⟨gb388, 3, none⟩ (.slice Ao96 t373.length co96)).setCell ⟨gb388, 4, none⟩ (.int .i64 t376)).setCell ⟨gb388, 5, none⟩ (.string t377)).setCell ⟨gb388, 6, none⟩ (.slice Ao97 t378.length co97)).setCell ⟨gb388, 7, none⟩ (.int .i64 t381)).setCell ⟨gb388, 8, none⟩ (.int .i64 t382)).setCell ⟨gb388, 9, none⟩ (.slice Ao98 t383.length co98)).setCell ⟨gb388, 10, none⟩ (.bool t386)) w.heap.size (fun k_ => some k_ ≠ (.slice Ao22 t363.length co22 : Value).ownBlock ∧ some k_ ≠ (.slice Ao98 t383.length co98 : Value).ownBlock) (.slice Ao15 t343.length co15) t343) := ⟨(Kd.R_mono (ztR (Kd.R_types HO345.out BK388.out (by decide))) (fun _ hk => ⟨hk.1.1.2, hk.1.2⟩))⟩
      have n4_ : Aside0 (Kd.R k88 88 (((((((((((w92.setCell ⟨gb388, 0, none⟩ (.bool t368)).setCell ⟨gb388, 1, none⟩ (.slice Ao95 t369.length co95)).setCell ⟨gb388, 2, none⟩ (.int .i64 t372)).setCell ⟨gb388, 3, none⟩ (.slice Ao96 t373.length co96)).setCell ⟨gb388, 4, none⟩ (.int .i64 t376)).setCell ⟨gb388, 5, none⟩ (.string t377)).setCell ⟨gb388, 6, none⟩ (.slice Ao97 t378.length co97)).setCell ⟨gb388, 7, none⟩ (.int .i64 t381)).setCell ⟨gb388, 8, none⟩ (.int .i64 t382)).setCell ⟨gb388, 9, none⟩ (.slice Ao98 t383.length co98)).setCell ⟨gb388, 10, none⟩ (.bool t386)) w.heap.size (fun k_ => some k_ ≠ (.slice Ao12 t329.length co12 : Value).ownBlock ∧ some k_ ≠ (.slice Ao13 t333.length co13 : Value).ownBlock ∧ some k_ ≠ (.slice Ao20 t353.length co20 : Value).ownBlock ∧ some k_ ≠ (.slice Ao95 t369.length co95 : Value).ownBlock ∧ some k_ ≠ (.slice Ao96 t373.length co96 : Value).ownBlock) (.slice Ao19 t349.length co19) t349) := ⟨(Kd.R_mono (ztR (Kd.R_types HO351.out BK388.out (by decide))) (fun _ hk => ⟨hk.1.1.1.1.2, ⟨hk.1.1.1.2, ⟨hk.1.1.1.1.1, ⟨hk.1.1.2, hk.1.2⟩⟩⟩⟩))⟩
      have n5_ : Aside0 (Kd.R k88 88 (((((((((((w92.setCell ⟨gb388, 0, none⟩ (.bool t368)).setCell ⟨gb388, 1, none⟩ (.slice Ao95 t369.length co95)).setCell ⟨gb388, 2, none⟩ (.int .i64 t372)).setCell ⟨gb388, 3, none⟩ (.slice Ao96 t373.length co96)).setCell ⟨gb388, 4, none⟩ (.int .i64 t376)).setCell ⟨gb388, 5, none⟩ (.string t377)).setCell ⟨gb388, 6, none⟩ (.slice Ao97 t378.length co97)).setCell ⟨gb388, 7, none⟩ (.int .i64 t381)).setCell ⟨gb388, 8, none⟩ (.int .i64 t382)).setCell ⟨gb388, 9, none⟩ (.slice Ao98 t383.length co98)).setCell ⟨gb388, 10, none⟩ (.bool t386)) w.heap.size (fun k_ => some k_ ≠ (.slice Ao12 t329.length co12 : Value).ownBlock ∧ some k_ ≠ (.slice Ao13 t333.length co13 : Value).ownBlock ∧ some k_ ≠ (.slice Ao19 t349.length co19 : Value).ownBlock ∧ some k_ ≠ (.slice Ao95 t369.length co95 : Value).ownBlock ∧ some k_ ≠ (.slice Ao96 t373.length co96 : Value).ownBlock) (.slice Ao20 t353.length co20) t353) := ⟨(Kd.R_mono (ztR (Kd.R_types HO355.out BK388.out (by decide))) (fun _ hk => ⟨hk.1.1.1.1.2, ⟨hk.1.1.1.2, ⟨hk.1.1.1.1.1, ⟨hk.1.1.2, hk.1.2⟩⟩⟩⟩))⟩
      have n6_ : Aside0 (Kd.S k104 104 (((((((((((w92.setCell ⟨gb388, 0, none⟩ (.bool t368)).setCell ⟨gb388, 1, none⟩ (.slice Ao95 t369.length co95)).setCell ⟨gb388, 2, none⟩ (.int .i64 t372)).setCell ⟨gb388, 3, none⟩ (.slice Ao96 t373.length co96)).setCell ⟨gb388, 4, none⟩ (.int .i64 t376)).setCell ⟨gb388, 5, none⟩ (.string t377)).setCell ⟨gb388, 6, none⟩ (.slice Ao97 t378.length co97)).setCell ⟨gb388, 7, none⟩ (.int .i64 t381)).setCell ⟨gb388, 8, none⟩ (.int .i64 t382)).setCell ⟨gb388, 9, none⟩ (.slice Ao98 t383.length co98)).setCell ⟨gb388, 10, none⟩ (.bool t386)) w.heap.size (fun k_ => some k_ ≠ (.slice Ao12 t329.length co12 : Value).ownBlock ∧ some k_ ≠ (.slice Ao13 t333.length co13 : Value).ownBlock ∧ some k_ ≠ (.slice Ao14 t338.length co14 : Value).ownBlock ∧ some k_ ≠ (.slice Ao19 t349.length co19 : Value).ownBlock ∧ some k_ ≠ (.slice Ao20 t353.length co20 : Value).ownBlock ∧ some k_ ≠ (.slice Ao95 t369.length co95 : Value).ownBlock ∧ some k_ ≠ (.slice Ao96 t373.length co96 : Value).ownBlock ∧ some k_ ≠ (.slice Ao97 t378.length co97 : Value).ownBlock) (.slice Ao21 t358.length co21) t358) := ⟨by (with_reducible repeat (first | apply Kd.S_alloc | apply Kd.S_drewN | apply Kd.S_drew)); exact Kd.S_mono (ztS (Kd.S_types HO360.out BK388.out (by decide))) (fun _ hk => ⟨hk.1.1.1.1.1.1.2, ⟨hk.1.1.1.1.1.2, ⟨hk.1.1.1.1.2, ⟨hk.1.1.1.1.1.1.1.1, ⟨hk.1.1.1.1.1.1.1.2, ⟨hk.1.1.1.2, ⟨hk.1.1.2, hk.1.2⟩⟩⟩⟩⟩⟩⟩)⟩
      have n7_ : Aside0 (Kd.R k110 110 (((((((((((w92.setCell ⟨gb388, 0, none⟩ (.bool t368)).setCell ⟨gb388, 1, none⟩ (.slice Ao95 t369.length co95)).setCell ⟨gb388, 2, none⟩ (.int .i64 t372)).setCell ⟨gb388, 3, none⟩ (.slice Ao96 t373.length co96)).setCell ⟨gb388, 4, none⟩ (.int .i64 t376)).setCell ⟨gb388, 5, none⟩ (.string t377)).setCell ⟨gb388, 6, none⟩ (.slice Ao97 t378.length co97)).setCell ⟨gb388, 7, none⟩ (.int .i64 t381)).setCell ⟨gb388, 8, none⟩ (.int .i64 t382)).setCell ⟨gb388, 9, none⟩ (.slice Ao98 t383.length co98)).setCell ⟨gb388, 10, none⟩ (.bool t386)) w.heap.size (fun k_ => some k_ ≠ (.slice Ao15 t343.length co15 : Value).ownBlock ∧ some k_ ≠ (.slice Ao98 t383.length co98 : Value).ownBlock) (.slice Ao22 t363.length co22) t363) := ⟨(Kd.R_mono (ztR (Kd.R_types HO365.out BK388.out (by decide))) (fun _ hk => ⟨hk.1.1.2, hk.1.2⟩))⟩
      have n8_ : Aside0 (Kd.R k88 88 (((((((((((w92.setCell ⟨gb388, 0, none⟩ (.bool t368)).setCell ⟨gb388, 1, none⟩ (.slice Ao95 t369.length co95)).setCell ⟨gb388, 2, none⟩ (.int .i64 t372)).setCell ⟨gb388, 3, none⟩ (.slice Ao96 t373.length co96)).setCell ⟨gb388, 4, none⟩ (.int .i64 t376)).setCell ⟨gb388, 5, none⟩ (.string t377)).setCell ⟨gb388, 6, none⟩ (.slice Ao97 t378.length co97)).setCell ⟨gb388, 7, none⟩ (.int .i64 t381)).setCell ⟨gb388, 8, none⟩ (.int .i64 t382)).setCell ⟨gb388, 9, none⟩ (.slice Ao98 t383.length co98)).setCell ⟨gb388, 10, none⟩ (.bool t386)) w.heap.size (fun k_ => some k_ ≠ (.slice Ao12 t329.length co12 : Value).ownBlock ∧ some k_ ≠ (.slice Ao13 t333.length co13 : Value).ownBlock ∧ some k_ ≠ (.slice Ao19 t349.length co19 : Value).ownBlock ∧ some k_ ≠ (.slice Ao20 t353.length co20 : Value).ownBlock ∧ some k_ ≠ (.slice Ao96 t373.length co96 : Value).ownBlock) (.slice Ao95 t369.length co95) t369) := ⟨(Kd.R_mono (ztR (Kd.R_types HO371.out BK388.out (by decide))) (fun _ hk => ⟨hk.1.1.1.1.2, ⟨hk.1.1.1.2, ⟨hk.1.1.2, ⟨hk.1.2, hk.1.1.1.1.1⟩⟩⟩⟩))⟩
      have n9_ : Aside0 (Kd.R k88 88 (((((((((((w92.setCell ⟨gb388, 0, none⟩ (.bool t368)).setCell ⟨gb388, 1, none⟩ (.slice Ao95 t369.length co95)).setCell ⟨gb388, 2, none⟩ (.int .i64 t372)).setCell ⟨gb388, 3, none⟩ (.slice Ao96 t373.length co96)).setCell ⟨gb388, 4, none⟩ (.int .i64 t376)).setCell ⟨gb388, 5, none⟩ (.string t377)).setCell ⟨gb388, 6, none⟩ (.slice Ao97 t378.length co97)).setCell ⟨gb388, 7, none⟩ (.int .i64 t381)).setCell ⟨gb388, 8, none⟩ (.int .i64 t382)).setCell ⟨gb388, 9, none⟩ (.slice Ao98 t383.length co98)).setCell ⟨gb388, 10, none⟩ (.bool t386)) w.heap.size (fun k_ => some k_ ≠ (.slice Ao12 t329.length co12 : Value).ownBlock ∧ some k_ ≠ (.slice Ao13 t333.length co13 : Value).ownBlock ∧ some k_ ≠ (.slice Ao19 t349.length co19 : Value).ownBlock ∧ some k_ ≠ (.slice Ao20 t353.length co20 : Value).ownBlock ∧ some k_ ≠ (.slice Ao95 t369.length co95 : Value).ownBlock) (.slice Ao96 t373.length co96) t373) := ⟨(Kd.R_mono (ztR (Kd.R_types HO375.out BK388.out (by decide))) (fun _ hk => ⟨hk.1.1.1.1.2, ⟨hk.1.1.1.2, ⟨hk.1.1.2, ⟨hk.1.2, hk.1.1.1.1.1⟩⟩⟩⟩))⟩
      have n10_ : Aside0 (Kd.S k104 104 (((((((((((w92.setCell ⟨gb388, 0, none⟩ (.bool t368)).setCell ⟨gb388, 1, none⟩ (.slice Ao95 t369.length co95)).setCell ⟨gb388, 2, none⟩ (.int .i64 t372)).setCell ⟨gb388, 3, none⟩ (.slice Ao96 t373.length co96)).setCell ⟨gb388, 4, none⟩ (.int .i64 t376)).setCell ⟨gb388, 5, none⟩ (.string t377)).setCell ⟨gb388, 6, none⟩ (.slice Ao97 t378.length co97)).setCell ⟨gb388, 7, none⟩ (.int .i64 t381)).setCell ⟨gb388, 8, none⟩ (.int .i64 t382)).setCell ⟨gb388, 9, none⟩ (.slice Ao98 t383.length co98)).setCell ⟨gb388, 10, none⟩ (.bool t386)) w.heap.size (fun k_ => some k_ ≠ (.slice Ao12 t329.length co12 : Value).ownBlock ∧ some k_ ≠ (.slice Ao13 t333.length co13 : Value).ownBlock ∧ some k_ ≠ (.slice Ao14 t338.length co14 : Value).ownBlock ∧ some k_ ≠ (.slice Ao19 t349.length co19 : Value).ownBlock ∧ some k_ ≠ (.slice Ao20 t353.length co20 : Value).ownBlock ∧ some k_ ≠ (.slice Ao21 t358.length co21 : Value).ownBlock ∧ some k_ ≠ (.slice Ao95 t369.length co95 : Value).ownBlock ∧ some k_ ≠ (.slice Ao96 t373.length co96 : Value).ownBlock) (.slice Ao97 t378.length co97) t378) := ⟨by (with_reducible repeat (first | apply Kd.S_alloc | apply Kd.S_drewN | apply Kd.S_drew)); exact Kd.S_mono (ztS (Kd.S_types HO380.out BK388.out (by decide))) (fun _ hk => ⟨hk.1.1.1.1.1.1.2, ⟨hk.1.1.1.1.1.2, ⟨hk.1.1.1.1.2, ⟨hk.1.1.1.2, ⟨hk.1.1.2, ⟨hk.1.2, ⟨hk.1.1.1.1.1.1.1.1, hk.1.1.1.1.1.1.1.2⟩⟩⟩⟩⟩⟩⟩)⟩
      have n11_ : Aside0 (Kd.R k110 110 (((((((((((w92.setCell ⟨gb388, 0, none⟩ (.bool t368)).setCell ⟨gb388, 1, none⟩ (.slice Ao95 t369.length co95)).setCell ⟨gb388, 2, none⟩ (.int .i64 t372)).setCell ⟨gb388, 3, none⟩ (.slice Ao96 t373.length co96)).setCell ⟨gb388, 4, none⟩ (.int .i64 t376)).setCell ⟨gb388, 5, none⟩ (.string t377)).setCell ⟨gb388, 6, none⟩ (.slice Ao97 t378.length co97)).setCell ⟨gb388, 7, none⟩ (.int .i64 t381)).setCell ⟨gb388, 8, none⟩ (.int .i64 t382)).setCell ⟨gb388, 9, none⟩ (.slice Ao98 t383.length co98)).setCell ⟨gb388, 10, none⟩ (.bool t386)) w.heap.size (fun k_ => some k_ ≠ (.slice Ao15 t343.length co15 : Value).ownBlock ∧ some k_ ≠ (.slice Ao22 t363.length co22 : Value).ownBlock) (.slice Ao98 t383.length co98) t383) := ⟨(Kd.R_mono (ztR (Kd.R_types HO385.out BK388.out (by decide))) (fun _ hk => ⟨hk.1.1.2, hk.1.2⟩))⟩
      have n12_ : Aside0 ((((((((((((w92.setCell ⟨gb388, 0, none⟩ (.bool t368)).setCell ⟨gb388, 1, none⟩ (.slice Ao95 t369.length co95)).setCell ⟨gb388, 2, none⟩ (.int .i64 t372)).setCell ⟨gb388, 3, none⟩ (.slice Ao96 t373.length co96)).setCell ⟨gb388, 4, none⟩ (.int .i64 t376)).setCell ⟨gb388, 5, none⟩ (.string t377)).setCell ⟨gb388, 6, none⟩ (.slice Ao97 t378.length co97)).setCell ⟨gb388, 7, none⟩ (.int .i64 t381)).setCell ⟨gb388, 8, none⟩ (.int .i64 t382)).setCell ⟨gb388, 9, none⟩ (.slice Ao98 t383.length co98)).setCell ⟨gb388, 10, none⟩ (.bool t386)).heap[gb347]? = some (.cells #[.bool t328, .slice Ao12 t329.length co12, .int .i64 t332, .slice Ao13 t333.length co13, .int .i64 t336, .string t337, .slice Ao14 t338.length co14, .int .i64 t341, .int .i64 t342, .slice Ao15 t343.length co15, .bool t346] 42 (0, 0))) := ⟨zp BK347⟩
      have n13_ : Aside0 ((((((((((((w92.setCell ⟨gb388, 0, none⟩ (.bool t368)).setCell ⟨gb388, 1, none⟩ (.slice Ao95 t369.length co95)).setCell ⟨gb388, 2, none⟩ (.int .i64 t372)).setCell ⟨gb388, 3, none⟩ (.slice Ao96 t373.length co96)).setCell ⟨gb388, 4, none⟩ (.int .i64 t376)).setCell ⟨gb388, 5, none⟩ (.string t377)).setCell ⟨gb388, 6, none⟩ (.slice Ao97 t378.length co97)).setCell ⟨gb388, 7, none⟩ (.int .i64 t381)).setCell ⟨gb388, 8, none⟩ (.int .i64 t382)).setCell ⟨gb388, 9, none⟩ (.slice Ao98 t383.length co98)).setCell ⟨gb388, 10, none⟩ (.bool t386)).heap[gb388]? = some (.cells #[.bool t368, .slice Ao95 t369.length co95, .int .i64 t372, .slice Ao96 t373.length co96, .int .i64 t376, .string t377, .slice Ao97 t378.length co97, .int .i64 t381, .int .i64 t382, .slice Ao98 t383.length co98, .bool t386] 42 (0, 0))) := ⟨zp BK388⟩
      have n14_ : Aside0 (Below w.heap.size w (((((((((((w92.setCell ⟨gb388, 0, none⟩ (.bool t368)).setCell ⟨gb388, 1, none⟩ (.slice Ao95 t369.length co95)).setCell ⟨gb388, 2, none⟩ (.int .i64 t372)).setCell ⟨gb388, 3, none⟩ (.slice Ao96 t373.length co96)).setCell ⟨gb388, 4, none⟩ (.int .i64 t376)).setCell ⟨gb388, 5, none⟩ (.string t377)).setCell ⟨gb388, 6, none⟩ (.slice Ao97 t378.length co97)).setCell ⟨gb388, 7, none⟩ (.int .i64 t381)).setCell ⟨gb388, 8, none⟩ (.int .i64 t382)).setCell ⟨gb388, 9, none⟩ (.slice Ao98 t383.length co98)).setCell ⟨gb388, 10, none⟩ (.bool t386))) := ⟨zb HB⟩
      (try clear HO331)
      (try clear HO335)
      (try clear HO340)
      (try clear HO345)
      (try clear HO351)
      (try clear HO355)
      (try clear HO360)
      (try clear HO365)
      (try clear HO371)
      (try clear HO375)
      (try clear HO380)
      (try clear HO385)
      (try clear BK347)
      (try clear BK388)
      (try clear HB)
      generalize (((((((((((w92.setCell ⟨gb388, 0, none⟩ (.bool t368)).setCell ⟨gb388, 1, none⟩ (.slice Ao95 t369.length co95)).setCell ⟨gb388, 2, none⟩ (.int .i64 t372)).setCell ⟨gb388, 3, none⟩ (.slice Ao96 t373.length co96)).setCell ⟨gb388, 4, none⟩ (.int .i64 t376)).setCell ⟨gb388, 5, none⟩ (.string t377)).setCell ⟨gb388, 6, none⟩ (.slice Ao97 t378.length co97)).setCell ⟨gb388, 7, none⟩ (.int .i64 t381)).setCell ⟨gb388, 8, none⟩ (.int .i64 t382)).setCell ⟨gb388, 9, none⟩ (.slice Ao98 t383.length co98)).setCell ⟨gb388, 10, none⟩ (.bool t386)) = w99 at n0_ n1_ n2_ n3_ n4_ n5_ n6_ n7_ n8_ n9_ n10_ n11_ n12_ n13_ n14_ ⊢
      have HO331 := n0_
      have HO335 := n1_
      have HO340 := n2_
      have HO345 := n3_
      have HO351 := n4_
      have HO355 := n5_
      have HO360 := n6_
      have HO365 := n7_
      have HO371 := n8_
      have HO375 := n9_
      have HO380 := n10_
      have HO385 := n11_
      have BK347 := n12_
      have BK388 := n13_
      have HB := n14_
      clear n0_ n1_ n2_ n3_ n4_ n5_ n6_ n7_ n8_ n9_ n10_ n11_ n12_ n13_ n14_
      replace HO331 := Aside0.mk (Kd.R_drew HO331.out)
      replace HO335 := Aside0.mk (Kd.R_drew HO335.out)
      replace HO340 := Aside0.mk (Kd.S_drew HO340.out)
      replace HO345 := Aside0.mk (Kd.R_drew HO345.out)
      replace HO351 := Aside0.mk (Kd.R_drew HO351.out)
      replace HO355 := Aside0.mk (Kd.R_drew HO355.out)
      replace HO360 := Aside0.mk (Kd.S_drew HO360.out)
      replace HO365 := Aside0.mk (Kd.R_drew HO365.out)
      replace HO371 := Aside0.mk (Kd.R_drew HO371.out)
      replace HO375 := Aside0.mk (Kd.R_drew HO375.out)
      replace HO380 := Aside0.mk (Kd.S_drew HO380.out)
      replace HO385 := Aside0.mk (Kd.R_drew HO385.out)
      replace BK347 := Aside0.mk (blk_drew BK347.out)
      replace BK388 := Aside0.mk (blk_drew BK388.out)
      replace HB := Aside0.mk (below_drew1 HB.out)
      refine st 39 (b11 BK347) (fun hHeld => ?_); refine with_tabW laws_FnEndNew.tab8 laws_FnEndNew.bits8 (fun HT_ HW_ => ?_)
      generalize w99.drew = w100 at HO331 HO335 HO340 HO345 HO351 HO355 HO360 HO365 HO371 HO375 HO380 HO385 BK347 BK388 HB hHeld ⊢
      refine tk 0 (some 24) (bm 39 1) rfl rfl hHeld ?_
      refine one_ (i := 1) (N := some 25) (bm 39 3) rfl rfl (one_of HT_.out (by kernel_rfl)) (by decide) (fun K hK => ?_)
      refine gs Try.func33 #[.agg #[.bool t328, .slice Ao12 t329.length co12, .int .i64 t332, .slice Ao13 t333.length co13, .int .i64 t336, .string t337, .slice Ao14 t338.length co14, .int .i64 t341, .int .i64 t342, .slice Ao15 t343.length co15, .bool t346]] ?_
      with_reducible refine (impl_EndOk.calls k t328 _ _ t329 t332 _ _ t333 t336 t337 _ _ t338 t341 t342 _ _ t343 t346 true _ ?side1 ?side2 ?side3 ?side4 ?side5 ?side6 ?side7 ?side8 A26.out).mono ?_
      (case side1 => exact zc (Kd.R_reads' HO331.out).2.2)
      (case side2 => exact (Kd.R_reads' HO331.out).2.1)
      (case side3 => exact zc (Kd.R_reads' HO335.out).2.2)
      (case side4 => exact (Kd.R_reads' HO335.out).2.1)
      (case side5 => exact zc (Kd.S_reads' HO340.out).2.2)
      (case side6 => exact (Kd.S_reads' HO340.out).2.1)
      (case side7 => exact zc (Kd.R_reads' HO345.out).2.2)
      (case side8 => exact (Kd.R_reads' HO345.out).2.1)
      rintro e w101 ⟨rfl, hb⟩
      refine ⟨_, rfl, ?_⟩
      replace HO331 := Aside0.mk (Kd.R_below (zr HO331) hb)
      replace HO335 := Aside0.mk (Kd.R_below (zr HO335) hb)
      replace HO340 := Aside0.mk (Kd.S_below (by (with_reducible repeat (first | apply Kd.S_alloc | apply Kd.S_drewN | apply Kd.S_drew)); exact HO340.out) hb)
      replace HO345 := Aside0.mk (Kd.R_below (zr HO345) hb)
      replace HO351 := Aside0.mk (Kd.R_below (zr HO351) hb)
      replace HO355 := Aside0.mk (Kd.R_below (zr HO355) hb)
      replace HO360 := Aside0.mk (Kd.S_below (by (with_reducible repeat (first | apply Kd.S_alloc | apply Kd.S_drewN | apply Kd.S_drew)); exact HO360.out) hb)
      replace HO365 := Aside0.mk (Kd.R_below (zr HO365) hb)
      replace HO371 := Aside0.mk (Kd.R_below (zr HO371) hb)
      replace HO375 := Aside0.mk (Kd.R_below (zr HO375) hb)
      replace HO380 := Aside0.mk (Kd.S_below (by (with_reducible repeat (first | apply Kd.S_alloc | apply Kd.S_drewN | apply Kd.S_drew)); exact HO380.out) hb)
      replace HO385 := Aside0.mk (Kd.R_below (zr HO385) hb)
      replace BK347 := kb BK347 hb
      replace BK388 := kb BK388 hb
      replace HB := Aside0.mk (below_step (zb HB) hb)
      (try clear hb)
      refine hK.out _ _ (b11 BK347) (fun hHeld => ?_)
      clear hK K
      refine nm ?_
      refine pu 2 (some 26) (bm 39 7) rfl rfl ?_
      refine pu 3 (some 27) (bm 39 15) rfl rfl ?_
      refine pu 5 (some 29) (bm 39 47) rfl rfl ?_
      refine tk 4 (some 28) (bm 39 63) rfl rfl hHeld ?_
      refine pu 6 (some 30) (bm 39 127) rfl rfl ?_
      refine pu 7 (some 31) (bm 39 255) rfl rfl ?_
      refine pu 8 (some 32) (bm 39 511) rfl rfl ?_
      refine pu 9 (some 33) (bm 39 1023) rfl rfl ?_
      refine pu 10 (some 34) (bm 39 2047) rfl rfl ?_
      refine pu 11 (some 35) (bm 39 4095) rfl rfl ?_
      refine pu 12 (some 36) (bm 39 8191) rfl rfl ?_
      refine pv 13 (some 37) (bm 39 16383) rfl rfl ?_
      refine pv 14 (some 38) (bm 39 32767) rfl rfl ?_
      refine pv 15 (some 39) (bm 39 65535) rfl rfl ?_
      refine pu 16 (some 40) (bm 39 131071) rfl rfl ?_
      refine pu 17 (some 41) (bm 39 262143) rfl rfl ?_
      refine pv 18 (some 42) (bm 39 524287) rfl rfl ?_
      refine pv 19 (some 43) (bm 39 1048575) rfl rfl ?_
      refine pv 20 (some 44) (bm 39 2097151) rfl rfl ?_
      refine pu 21 (some 45) (bm 39 4194303) rfl rfl ?_
      refine pu 22 (some 46) (bm 39 8388607) rfl rfl ?_
      refine pv 23 (some 47) (bm 39 16777215) rfl rfl ?_
      refine pv 24 (some 48) (bm 39 33554431) rfl rfl ?_
      refine pv 25 (some 49) (bm 39 67108863) rfl rfl ?_
      refine pv 26 (some 50) (bm 39 134217727) rfl rfl ?_
      refine pu 27 (some 51) (bm 39 268435455) rfl rfl ?_
      refine pu 28 (some 52) (bm 39 536870911) rfl rfl ?_
      refine pv 29 (some 53) (bm 39 1073741823) rfl rfl ?_
      refine pv 30 (some 54) (bm 39 2147483647) rfl rfl ?_
      refine pv 31 (some 55) (bm 39 4294967295) rfl rfl ?_
      refine pv 32 (some 56) (bm 39 8589934591) rfl rfl ?_
      refine pv 33 (some 57) (bm 39 17179869183) rfl rfl ?_
      refine pv 34 (some 58) (bm 39 34359738367) rfl rfl ?_
      refine pv 35 (some 59) (bm 39 68719476735) rfl rfl ?_
      refine pv 36 (some 60) (bm 39 137438953471) rfl rfl ?_
      refine pu 37 (some 61) (bm 39 274877906943) rfl rfl ?_
      refine pu 38 (some 2) (bm 39 549755813887) rfl rfl ?_
      refine done_ (done_of HT_.out (by kernel_rfl)) ?_
      try go_wp2
      go_ret
      exact ⟨ze, zb HB⟩
    ·skip
     have c28b0 : (t328 == t327) = false := by simpa using c28
     (try (have c28b1 : decide (t328 = t327) = false := by simpa using c28))
     (try (have c28b2 : (t328 == t327) = false := by simpa using c28))
     (try (have c28b3 : ¬ (t328 = t327) := by simpa using c28))
     clear c28
     (first | rw [c28b0] | rw [c28b1] | rw [c28b2] | (simp only [i64_w, i32_w]; rw [c28b0]) | skip)
     obtain rfl := Option.some.inj H
     obtain ⟨hcz102_0, hcz102_1, hcz102_2, hcz102_3, hcz102_4, hcz102_5, hcz102_6, hcz102_7, hcz102_8, hcz102_9, hcz102_10, hfz102_0, hfz102_1, hfz102_2, hfz102_3, hfz102_4, hfz102_5, hfz102_6, hfz102_7, hfz102_8, hfz102_9, hfz102_10⟩ := c11 BK347
     try go_wp2_with (first | ((with_reducible refine gq 32 rfl ?_); refine gl (some 21) Try.func32 #[.agg #[.bool t328, .slice Ao12 t329.length co12, .int .i64 t332, .slice Ao13 t333.length co13, .int .i64 t336, .string t337, .slice Ao14 t338.length co14, .int .i64 t341, .int .i64 t342, .slice Ao15 t343.length co15, .bool t346]] ?_; (with_reducible refine (impl_EndWrite.calls k t328 _ _ t329 t332 _ _ t333 t336 t337 _ _ t338 t341 t342 _ _ t343 t346 t368 t369 t372 t373 t376 t377 t378 t381 t382 t383 t386 t387 _ ?side1 ?side2 ?side3 ?side4 ?side5 ?side6 ?side7 ?side8 A25.out).mono ?_); (case side1 => exact zc (Kd.R_reads' HO331.out).2.2); (case side2 => exact (Kd.R_reads' HO331.out).2.1); (case side3 => exact zc (Kd.R_reads' HO335.out).2.2); (case side4 => exact (Kd.R_reads' HO335.out).2.1); (case side5 => exact zc (Kd.S_reads' HO340.out).2.2); (case side6 => exact (Kd.S_reads' HO340.out).2.1); (case side7 => exact zc (Kd.R_reads' HO345.out).2.2); (case side8 => exact (Kd.R_reads' HO345.out).2.1); rintro e w103 ⟨v370, v374, v379, v384, rfl, ho0, ho1, ho2, ho3, hb⟩; refine ⟨_, rfl, ?_⟩; have HO371 := Aside0.mk (Kd.R_lower (Kd.R_new' (Kd.R_new' (Kd.R_new' (Kd.R_new' ho0 (Kd.R_lt (zr HO331))) (Kd.R_lt (zr HO335))) (Kd.R_lt (zr HO351))) (Kd.R_lt (zr HO355))) (below_size (zb HB))); have HO375 := Aside0.mk (Kd.R_lower (Kd.R_new' (Kd.R_new' (Kd.R_new' (Kd.R_new' ho1 (Kd.R_lt (zr HO331))) (Kd.R_lt (zr HO335))) (Kd.R_lt (zr HO351))) (Kd.R_lt (zr HO355))) (below_size (zb HB))); have HO380 := Aside0.mk (Kd.S_lower (Kd.S_new' (Kd.S_new' (Kd.S_new' (Kd.S_new' (Kd.S_new' (Kd.S_new' ho2 (Kd.R_lt (zr HO331))) (Kd.R_lt (zr HO335))) (Kd.S_lt (by (with_reducible repeat (first | apply Kd.S_alloc | apply Kd.S_drewN | apply Kd.S_drew)); exact HO340.out))) (Kd.R_lt (zr HO351))) (Kd.R_lt (zr HO355))) (Kd.S_lt (by (with_reducible repeat (first | apply Kd.S_alloc | apply Kd.S_drewN | apply Kd.S_drew)); exact HO360.out))) (below_size (zb HB))); replace HO331 := Aside0.mk (Kd.R_mono (Kd.R_told (Kd.R_told (Kd.R_old (zr HO331) hb) (Kd.R_base ho0)) (Kd.R_base ho1)) (fun _ h_ => h_.1)); replace HO335 := Aside0.mk (Kd.R_mono (Kd.R_told (Kd.R_told (Kd.R_old (zr HO335) hb) (Kd.R_base ho0)) (Kd.R_base ho1)) (fun _ h_ => h_.1)); replace HO340 := Aside0.mk (Kd.S_mono (Kd.S_told (Kd.S_told (Kd.S_told (Kd.S_old (by (with_reducible repeat (first | apply Kd.S_alloc | apply Kd.S_drewN | apply Kd.S_drew)); exact HO340.out) hb) (Kd.R_base ho0)) (Kd.R_base ho1)) (Kd.S_base ho2)) (fun _ h_ => h_.1)); replace HO351 := Aside0.mk (Kd.R_mono (Kd.R_told (Kd.R_told (Kd.R_old (zr HO351) hb) (Kd.R_base ho0)) (Kd.R_base ho1)) (fun _ h_ => h_.1)); replace HO355 := Aside0.mk (Kd.R_mono (Kd.R_told (Kd.R_told (Kd.R_old (zr HO355) hb) (Kd.R_base ho0)) (Kd.R_base ho1)) (fun _ h_ => h_.1)); replace HO360 := Aside0.mk (Kd.S_mono (Kd.S_told (Kd.S_told (Kd.S_told (Kd.S_old (by (with_reducible repeat (first | apply Kd.S_alloc | apply Kd.S_drewN | apply Kd.S_drew)); exact HO360.out) hb) (Kd.R_base ho0)) (Kd.R_base ho1)) (Kd.S_base ho2)) (fun _ h_ => h_.1)); have HO385 := Aside0.mk (Kd.R_lower (Kd.R_new' (Kd.R_new' ho3 (Kd.R_lt (zr HO345))) (Kd.R_lt (zr HO365))) (below_size (zb HB))); replace HO345 := Aside0.mk (Kd.R_elder' (zr HO345) (Kd.R_base ho3) hb); replace HO365 := Aside0.mk (Kd.R_elder' (zr HO365) (Kd.R_base ho3) hb); replace BK347 := kb BK347 hb; replace HB := Aside0.mk (below_step (zb HB) hb); (try clear hb); (try clear ho0); (try clear ho1); (try clear ho2); (try clear ho3)) | ((with_reducible refine gd 5 rfl ?_); (try (refine gate_guard (by rfl) ?_; dsimp only)); refine bx (N := 5) (cs := #[.bool false, .slice none 0 0, .int .i64 0, .slice none 0 0, .int .i64 0, .string (⟨#[]⟩ : ByteArray), .slice none 0 0, .int .i64 0, .int .i64 0, .slice none 0 0, .bool false]) (t := 42) ?_; intro gb388 hg w104 hbox hb; replace HO331 := Aside0.mk (Kd.R_below (zr HO331) hb); replace HO335 := Aside0.mk (Kd.R_below (zr HO335) hb); replace HO340 := Aside0.mk (Kd.S_below (by (with_reducible repeat (first | apply Kd.S_alloc | apply Kd.S_drewN | apply Kd.S_drew)); exact HO340.out) hb); replace HO345 := Aside0.mk (Kd.R_below (zr HO345) hb); replace HO351 := Aside0.mk (Kd.R_below (zr HO351) hb); replace HO355 := Aside0.mk (Kd.R_below (zr HO355) hb); replace HO360 := Aside0.mk (Kd.S_below (by (with_reducible repeat (first | apply Kd.S_alloc | apply Kd.S_drewN | apply Kd.S_drew)); exact HO360.out) hb); replace HO365 := Aside0.mk (Kd.R_below (zr HO365) hb); replace HO371 := Aside0.mk (Kd.R_below (zr HO371) hb); replace HO375 := Aside0.mk (Kd.R_below (zr HO375) hb); replace HO380 := Aside0.mk (Kd.S_below (by (with_reducible repeat (first | apply Kd.S_alloc | apply Kd.S_drewN | apply Kd.S_drew)); exact HO380.out) hb); replace HO385 := Aside0.mk (Kd.R_below (zr HO385) hb); have BK388 := Aside0.mk (hbox); have GW388 := gw HB hg; have GE388 := GW388; replace HB := Aside0.mk (below_step (zb HB) hb); obtain ⟨NB347_388, NB388_347⟩ := nb BK347 hg; replace BK347 := kb BK347 hb; clear hb hbox hg; have hnb105 := NB388_347.out; have hnc105 := NB347_388.out; obtain ⟨hcz106_0, hcz106_1, hcz106_2, hcz106_3, hcz106_4, hcz106_5, hcz106_6, hcz106_7, hcz106_8, hcz106_9, hcz106_10, hfz106_0, hfz106_1, hfz106_2, hfz106_3, hfz106_4, hfz106_5, hfz106_6, hfz106_7, hfz106_8, hfz106_9, hfz106_10⟩ := c11 BK388; obtain ⟨Ao107, co107, eo107⟩ := Kd.R_slice HO371.out; subst eo107; obtain ⟨Ao108, co108, eo108⟩ := Kd.R_slice HO375.out; subst eo108; obtain ⟨Ao109, co109, eo109⟩ := Kd.S_slice HO380.out; subst eo109; obtain ⟨Ao110, co110, eo110⟩ := Kd.R_slice HO385.out; subst eo110))
     have n0_ : Aside0 (Kd.R k88 88 (((((((((((w104.setCell ⟨gb388, 0, none⟩ (.bool t368)).setCell ⟨gb388, 1, none⟩ (.slice Ao107 t369.length co107)).setCell ⟨gb388, 2, none⟩ (.int .i64 t372)).setCell ⟨gb388, 3, none⟩ (.slice Ao108 t373.length co108)).setCell ⟨gb388, 4, none⟩ (.int .i64 t376)).setCell ⟨gb388, 5, none⟩ (.string t377)).setCell ⟨gb388, 6, none⟩ (.slice Ao109 t378.length co109)).setCell ⟨gb388, 7, none⟩ (.int .i64 t381)).setCell ⟨gb388, 8, none⟩ (.int .i64 t382)).setCell ⟨gb388, 9, none⟩ (.slice Ao110 t383.length co110)).setCell ⟨gb388, 10, none⟩ (.bool t386)) w.heap.size (fun k_ => some k_ ≠ (.slice Ao13 t333.length co13 : Value).ownBlock ∧ some k_ ≠ (.slice Ao19 t349.length co19 : Value).ownBlock ∧ some k_ ≠ (.slice Ao20 t353.length co20 : Value).ownBlock ∧ some k_ ≠ (.slice Ao107 t369.length co107 : Value).ownBlock ∧ some k_ ≠ (.slice Ao108 t373.length co108 : Value).ownBlock) (.slice Ao12 t329.length co12) t329) := ⟨(Kd.R_mono (ztR (Kd.R_types HO331.out BK388.out (by decide))) (fun _ hk => ⟨hk.1.1.1.1.1, ⟨hk.1.1.1.1.2, ⟨hk.1.1.1.2, ⟨hk.1.1.2, hk.1.2⟩⟩⟩⟩))⟩
     have n1_ : Aside0 (Kd.R k88 88 (((((((((((w104.setCell ⟨gb388, 0, none⟩ (.bool t368)).setCell ⟨gb388, 1, none⟩ (.slice Ao107 t369.length co107)).setCell ⟨gb388, 2, none⟩ (.int .i64 t372)).setCell ⟨gb388, 3, none⟩ (.slice Ao108 t373.length co108)).setCell ⟨gb388, 4, none⟩ (.int .i64 t376)).setCell ⟨gb388, 5, none⟩ (.string t377)).setCell ⟨gb388, 6, none⟩ (.slice Ao109 t378.length co109)).setCell ⟨gb388, 7, none⟩ (.int .i64 t381)).setCell ⟨gb388, 8, none⟩ (.int .i64 t382)).setCell ⟨gb388, 9, none⟩ (.slice Ao110 t383.length co110)).setCell ⟨gb388, 10, none⟩ (.bool t386)) w.heap.size (fun k_ => some k_ ≠ (.slice Ao12 t329.length co12 : Value).ownBlock ∧ some k_ ≠ (.slice Ao19 t349.length co19 : Value).ownBlock ∧ some k_ ≠ (.slice Ao20 t353.length co20 : Value).ownBlock ∧ some k_ ≠ (.slice Ao107 t369.length co107 : Value).ownBlock ∧ some k_ ≠ (.slice Ao108 t373.length co108 : Value).ownBlock) (.slice Ao13 t333.length co13) t333) := ⟨(Kd.R_mono (ztR (Kd.R_types HO335.out BK388.out (by decide))) (fun _ hk => ⟨hk.1.1.1.1.1, ⟨hk.1.1.1.1.2, ⟨hk.1.1.1.2, ⟨hk.1.1.2, hk.1.2⟩⟩⟩⟩))⟩
     have n2_ : Aside0 (Kd.S k104 104 (((((((((((w104.setCell ⟨gb388, 0, none⟩ (.bool t368)).setCell ⟨gb388, 1, none⟩ (.slice Ao107 t369.length co107)).setCell ⟨gb388, 2, none⟩ (.int .i64 t372)).setCell ⟨gb388, 3, none⟩ (.slice Ao108 t373.length co108)).setCell ⟨gb388, 4, none⟩ (.int .i64 t376)).setCell ⟨gb388, 5, none⟩ (.string t377)).setCell ⟨gb388, 6, none⟩ (.slice Ao109 t378.length co109)).setCell ⟨gb388, 7, none⟩ (.int .i64 t381)).setCell ⟨gb388, 8, none⟩ (.int .i64 t382)).setCell ⟨gb388, 9, none⟩ (.slice Ao110 t383.length co110)).setCell ⟨gb388, 10, none⟩ (.bool t386)) w.heap.size (fun k_ => some k_ ≠ (.slice Ao12 t329.length co12 : Value).ownBlock ∧ some k_ ≠ (.slice Ao13 t333.length co13 : Value).ownBlock ∧ some k_ ≠ (.slice Ao19 t349.length co19 : Value).ownBlock ∧ some k_ ≠ (.slice Ao20 t353.length co20 : Value).ownBlock ∧ some k_ ≠ (.slice Ao21 t358.length co21 : Value).ownBlock ∧ some k_ ≠ (.slice Ao107 t369.length co107 : Value).ownBlock ∧ some k_ ≠ (.slice Ao108 t373.length co108 : Value).ownBlock ∧ some k_ ≠ (.slice Ao109 t378.length co109 : Value).ownBlock) (.slice Ao14 t338.length co14) t338) := ⟨by (with_reducible repeat (first | apply Kd.S_alloc | apply Kd.S_drewN | apply Kd.S_drew)); exact Kd.S_mono (ztS (Kd.S_types HO340.out BK388.out (by decide))) (fun _ hk => ⟨hk.1.1.1.1.1.1.1.1, ⟨hk.1.1.1.1.1.1.1.2, ⟨hk.1.1.1.1.1.1.2, ⟨hk.1.1.1.1.1.2, ⟨hk.1.1.1.1.2, ⟨hk.1.1.1.2, ⟨hk.1.1.2, hk.1.2⟩⟩⟩⟩⟩⟩⟩)⟩
     have n3_ : Aside0 (Kd.R k110 110 (((((((((((w104.setCell ⟨gb388, 0, none⟩ (.bool t368)).setCell ⟨gb388, 1, none⟩ (.slice Ao107 t369.length co107)).setCell ⟨gb388, 2, none⟩ (.int .i64 t372)).setCell ⟨gb388, 3, none⟩ (.slice Ao108 t373.length co108)).setCell ⟨gb388, 4, none⟩ (.int .i64 t376)).setCell ⟨gb388, 5, none⟩ (.string t377)).setCell ⟨gb388, 6, none⟩ (.slice Ao109 t378.length co109)).setCell ⟨gb388, 7, none⟩ (.int .i64 t381)).setCell ⟨gb388, 8, none⟩ (.int .i64 t382)).setCell ⟨gb388, 9, none⟩ (.slice Ao110 t383.length co110)).setCell ⟨gb388, 10, none⟩ (.bool t386)) w.heap.size (fun k_ => some k_ ≠ (.slice Ao22 t363.length co22 : Value).ownBlock ∧ some k_ ≠ (.slice Ao110 t383.length co110 : Value).ownBlock) (.slice Ao15 t343.length co15) t343) := ⟨(Kd.R_mono (ztR (Kd.R_types HO345.out BK388.out (by decide))) (fun _ hk => ⟨hk.1.1.2, hk.1.2⟩))⟩
     have n4_ : Aside0 (Kd.R k88 88 (((((((((((w104.setCell ⟨gb388, 0, none⟩ (.bool t368)).setCell ⟨gb388, 1, none⟩ (.slice Ao107 t369.length co107)).setCell ⟨gb388, 2, none⟩ (.int .i64 t372)).setCell ⟨gb388, 3, none⟩ (.slice Ao108 t373.length co108)).setCell ⟨gb388, 4, none⟩ (.int .i64 t376)).setCell ⟨gb388, 5, none⟩ (.string t377)).setCell ⟨gb388, 6, none⟩ (.slice Ao109 t378.length co109)).setCell ⟨gb388, 7, none⟩ (.int .i64 t381)).setCell ⟨gb388, 8, none⟩ (.int .i64 t382)).setCell ⟨gb388, 9, none⟩ (.slice Ao110 t383.length co110)).setCell ⟨gb388, 10, none⟩ (.bool t386)) w.heap.size (fun k_ => some k_ ≠ (.slice Ao12 t329.length co12 : Value).ownBlock ∧ some k_ ≠ (.slice Ao13 t333.length co13 : Value).ownBlock ∧ some k_ ≠ (.slice Ao20 t353.length co20 : Value).ownBlock ∧ some k_ ≠ (.slice Ao107 t369.length co107 : Value).ownBlock ∧ some k_ ≠ (.slice Ao108 t373.length co108 : Value).ownBlock) (.slice Ao19 t349.length co19) t349) := ⟨(Kd.R_mono (ztR (Kd.R_types HO351.out BK388.out (by decide))) (fun _ hk => ⟨hk.1.1.1.1.2, ⟨hk.1.1.1.2, ⟨hk.1.1.1.1.1, ⟨hk.1.1.2, hk.1.2⟩⟩⟩⟩))⟩
     have n5_ : Aside0 (Kd.R k88 88 (((((((((((w104.setCell ⟨gb388, 0, none⟩ (.bool t368)).setCell ⟨gb388, 1, none⟩ (.slice Ao107 t369.length co107)).setCell ⟨gb388, 2, none⟩ (.int .i64 t372)).setCell ⟨gb388, 3, none⟩ (.slice Ao108 t373.length co108)).setCell ⟨gb388, 4, none⟩ (.int .i64 t376)).setCell ⟨gb388, 5, none⟩ (.string t377)).setCell ⟨gb388, 6, none⟩ (.slice Ao109 t378.length co109)).setCell ⟨gb388, 7, none⟩ (.int .i64 t381)).setCell ⟨gb388, 8, none⟩ (.int .i64 t382)).setCell ⟨gb388, 9, none⟩ (.slice Ao110 t383.length co110)).setCell ⟨gb388, 10, none⟩ (.bool t386)) w.heap.size (fun k_ => some k_ ≠ (.slice Ao12 t329.length co12 : Value).ownBlock ∧ some k_ ≠ (.slice Ao13 t333.length co13 : Value).ownBlock ∧ some k_ ≠ (.slice Ao19 t349.length co19 : Value).ownBlock ∧ some k_ ≠ (.slice Ao107 t369.length co107 : Value).ownBlock ∧ some k_ ≠ (.slice Ao108 t373.length co108 : Value).ownBlock) (.slice Ao20 t353.length co20) t353) := ⟨(Kd.R_mono (ztR (Kd.R_types HO355.out BK388.out (by decide))) (fun _ hk => ⟨hk.1.1.1.1.2, ⟨hk.1.1.1.2, ⟨hk.1.1.1.1.1, ⟨hk.1.1.2, hk.1.2⟩⟩⟩⟩))⟩
     have n6_ : Aside0 (Kd.S k104 104 (((((((((((w104.setCell ⟨gb388, 0, none⟩ (.bool t368)).setCell ⟨gb388, 1, none⟩ (.slice Ao107 t369.length co107)).setCell ⟨gb388, 2, none⟩ (.int .i64 t372)).setCell ⟨gb388, 3, none⟩ (.slice Ao108 t373.length co108)).setCell ⟨gb388, 4, none⟩ (.int .i64 t376)).setCell ⟨gb388, 5, none⟩ (.string t377)).setCell ⟨gb388, 6, none⟩ (.slice Ao109 t378.length co109)).setCell ⟨gb388, 7, none⟩ (.int .i64 t381)).setCell ⟨gb388, 8, none⟩ (.int .i64 t382)).setCell ⟨gb388, 9, none⟩ (.slice Ao110 t383.length co110)).setCell ⟨gb388, 10, none⟩ (.bool t386)) w.heap.size (fun k_ => some k_ ≠ (.slice Ao12 t329.length co12 : Value).ownBlock ∧ some k_ ≠ (.slice Ao13 t333.length co13 : Value).ownBlock ∧ some k_ ≠ (.slice Ao14 t338.length co14 : Value).ownBlock ∧ some k_ ≠ (.slice Ao19 t349.length co19 : Value).ownBlock ∧ some k_ ≠ (.slice Ao20 t353.length co20 : Value).ownBlock ∧ some k_ ≠ (.slice Ao107 t369.length co107 : Value).ownBlock ∧ some k_ ≠ (.slice Ao108 t373.length co108 : Value).ownBlock ∧ some k_ ≠ (.slice Ao109 t378.length co109 : Value).ownBlock) (.slice Ao21 t358.length co21) t358) := ⟨by (with_reducible repeat (first | apply Kd.S_alloc | apply Kd.S_drewN | apply Kd.S_drew)); exact Kd.S_mono (ztS (Kd.S_types HO360.out BK388.out (by decide))) (fun _ hk => ⟨hk.1.1.1.1.1.1.2, ⟨hk.1.1.1.1.1.2, ⟨hk.1.1.1.1.2, ⟨hk.1.1.1.1.1.1.1.1, ⟨hk.1.1.1.1.1.1.1.2, ⟨hk.1.1.1.2, ⟨hk.1.1.2, hk.1.2⟩⟩⟩⟩⟩⟩⟩)⟩
     have n7_ : Aside0 (Kd.R k110 110 (((((((((((w104.setCell ⟨gb388, 0, none⟩ (.bool t368)).setCell ⟨gb388, 1, none⟩ (.slice Ao107 t369.length co107)).setCell ⟨gb388, 2, none⟩ (.int .i64 t372)).setCell ⟨gb388, 3, none⟩ (.slice Ao108 t373.length co108)).setCell ⟨gb388, 4, none⟩ (.int .i64 t376)).setCell ⟨gb388, 5, none⟩ (.string t377)).setCell ⟨gb388, 6, none⟩ (.slice Ao109 t378.length co109)).setCell ⟨gb388, 7, none⟩ (.int .i64 t381)).setCell ⟨gb388, 8, none⟩ (.int .i64 t382)).setCell ⟨gb388, 9, none⟩ (.slice Ao110 t383.length co110)).setCell ⟨gb388, 10, none⟩ (.bool t386)) w.heap.size (fun k_ => some k_ ≠ (.slice Ao15 t343.length co15 : Value).ownBlock ∧ some k_ ≠ (.slice Ao110 t383.length co110 : Value).ownBlock) (.slice Ao22 t363.length co22) t363) := ⟨(Kd.R_mono (ztR (Kd.R_types HO365.out BK388.out (by decide))) (fun _ hk => ⟨hk.1.1.2, hk.1.2⟩))⟩
     have n8_ : Aside0 (Kd.R k88 88 (((((((((((w104.setCell ⟨gb388, 0, none⟩ (.bool t368)).setCell ⟨gb388, 1, none⟩ (.slice Ao107 t369.length co107)).setCell ⟨gb388, 2, none⟩ (.int .i64 t372)).setCell ⟨gb388, 3, none⟩ (.slice Ao108 t373.length co108)).setCell ⟨gb388, 4, none⟩ (.int .i64 t376)).setCell ⟨gb388, 5, none⟩ (.string t377)).setCell ⟨gb388, 6, none⟩ (.slice Ao109 t378.length co109)).setCell ⟨gb388, 7, none⟩ (.int .i64 t381)).setCell ⟨gb388, 8, none⟩ (.int .i64 t382)).setCell ⟨gb388, 9, none⟩ (.slice Ao110 t383.length co110)).setCell ⟨gb388, 10, none⟩ (.bool t386)) w.heap.size (fun k_ => some k_ ≠ (.slice Ao12 t329.length co12 : Value).ownBlock ∧ some k_ ≠ (.slice Ao13 t333.length co13 : Value).ownBlock ∧ some k_ ≠ (.slice Ao19 t349.length co19 : Value).ownBlock ∧ some k_ ≠ (.slice Ao20 t353.length co20 : Value).ownBlock ∧ some k_ ≠ (.slice Ao108 t373.length co108 : Value).ownBlock) (.slice Ao107 t369.length co107) t369) := ⟨(Kd.R_mono (ztR (Kd.R_types HO371.out BK388.out (by decide))) (fun _ hk => ⟨hk.1.1.1.1.2, ⟨hk.1.1.1.2, ⟨hk.1.1.2, ⟨hk.1.2, hk.1.1.1.1.1⟩⟩⟩⟩))⟩
     have n9_ : Aside0 (Kd.R k88 88 (((((((((((w104.setCell ⟨gb388, 0, none⟩ (.bool t368)).setCell ⟨gb388, 1, none⟩ (.slice Ao107 t369.length co107)).setCell ⟨gb388, 2, none⟩ (.int .i64 t372)).setCell ⟨gb388, 3, none⟩ (.slice Ao108 t373.length co108)).setCell ⟨gb388, 4, none⟩ (.int .i64 t376)).setCell ⟨gb388, 5, none⟩ (.string t377)).setCell ⟨gb388, 6, none⟩ (.slice Ao109 t378.length co109)).setCell ⟨gb388, 7, none⟩ (.int .i64 t381)).setCell ⟨gb388, 8, none⟩ (.int .i64 t382)).setCell ⟨gb388, 9, none⟩ (.slice Ao110 t383.length co110)).setCell ⟨gb388, 10, none⟩ (.bool t386)) w.heap.size (fun k_ => some k_ ≠ (.slice Ao12 t329.length co12 : Value).ownBlock ∧ some k_ ≠ (.slice Ao13 t333.length co13 : Value).ownBlock ∧ some k_ ≠ (.slice Ao19 t349.length co19 : Value).ownBlock ∧ some k_ ≠ (.slice Ao20 t353.length co20 : Value).ownBlock ∧ some k_ ≠ (.slice Ao107 t369.length co107 : Value).ownBlock) (.slice Ao108 t373.length co108) t373) := ⟨(Kd.R_mono (ztR (Kd.R_types HO375.out BK388.out (by decide))) (fun _ hk => ⟨hk.1.1.1.1.2, ⟨hk.1.1.1.2, ⟨hk.1.1.2, ⟨hk.1.2, hk.1.1.1.1.1⟩⟩⟩⟩))⟩
     have n10_ : Aside0 (Kd.S k104 104 (((((((((((w104.setCell ⟨gb388, 0, none⟩ (.bool t368)).setCell ⟨gb388, 1, none⟩ (.slice Ao107 t369.length co107)).setCell ⟨gb388, 2, none⟩ (.int .i64 t372)).setCell ⟨gb388, 3, none⟩ (.slice Ao108 t373.length co108)).setCell ⟨gb388, 4, none⟩ (.int .i64 t376)).setCell ⟨gb388, 5, none⟩ (.string t377)).setCell ⟨gb388, 6, none⟩ (.slice Ao109 t378.length co109)).setCell ⟨gb388, 7, none⟩ (.int .i64 t381)).setCell ⟨gb388, 8, none⟩ (.int .i64 t382)).setCell ⟨gb388, 9, none⟩ (.slice Ao110 t383.length co110)).setCell ⟨gb388, 10, none⟩ (.bool t386)) w.heap.size (fun k_ => some k_ ≠ (.slice Ao12 t329.length co12 : Value).ownBlock ∧ some k_ ≠ (.slice Ao13 t333.length co13 : Value).ownBlock ∧ some k_ ≠ (.slice Ao14 t338.length co14 : Value).ownBlock ∧ some k_ ≠ (.slice Ao19 t349.length co19 : Value).ownBlock ∧ some k_ ≠ (.slice Ao20 t353.length co20 : Value).ownBlock ∧ some k_ ≠ (.slice Ao21 t358.length co21 : Value).ownBlock ∧ some k_ ≠ (.slice Ao107 t369.length co107 : Value).ownBlock ∧ some k_ ≠ (.slice Ao108 t373.length co108 : Value).ownBlock) (.slice Ao109 t378.length co109) t378) := ⟨by (with_reducible repeat (first | apply Kd.S_alloc | apply Kd.S_drewN | apply Kd.S_drew)); exact Kd.S_mono (ztS (Kd.S_types HO380.out BK388.out (by decide))) (fun _ hk => ⟨hk.1.1.1.1.1.1.2, ⟨hk.1.1.1.1.1.2, ⟨hk.1.1.1.1.2, ⟨hk.1.1.1.2, ⟨hk.1.1.2, ⟨hk.1.2, ⟨hk.1.1.1.1.1.1.1.1, hk.1.1.1.1.1.1.1.2⟩⟩⟩⟩⟩⟩⟩)⟩
     have n11_ : Aside0 (Kd.R k110 110 (((((((((((w104.setCell ⟨gb388, 0, none⟩ (.bool t368)).setCell ⟨gb388, 1, none⟩ (.slice Ao107 t369.length co107)).setCell ⟨gb388, 2, none⟩ (.int .i64 t372)).setCell ⟨gb388, 3, none⟩ (.slice Ao108 t373.length co108)).setCell ⟨gb388, 4, none⟩ (.int .i64 t376)).setCell ⟨gb388, 5, none⟩ (.string t377)).setCell ⟨gb388, 6, none⟩ (.slice Ao109 t378.length co109)).setCell ⟨gb388, 7, none⟩ (.int .i64 t381)).setCell ⟨gb388, 8, none⟩ (.int .i64 t382)).setCell ⟨gb388, 9, none⟩ (.slice Ao110 t383.length co110)).setCell ⟨gb388, 10, none⟩ (.bool t386)) w.heap.size (fun k_ => some k_ ≠ (.slice Ao15 t343.length co15 : Value).ownBlock ∧ some k_ ≠ (.slice Ao22 t363.length co22 : Value).ownBlock) (.slice Ao110 t383.length co110) t383) := ⟨(Kd.R_mono (ztR (Kd.R_types HO385.out BK388.out (by decide))) (fun _ hk => ⟨hk.1.1.2, hk.1.2⟩))⟩
     have n12_ : Aside0 ((((((((((((w104.setCell ⟨gb388, 0, none⟩ (.bool t368)).setCell ⟨gb388, 1, none⟩ (.slice Ao107 t369.length co107)).setCell ⟨gb388, 2, none⟩ (.int .i64 t372)).setCell ⟨gb388, 3, none⟩ (.slice Ao108 t373.length co108)).setCell ⟨gb388, 4, none⟩ (.int .i64 t376)).setCell ⟨gb388, 5, none⟩ (.string t377)).setCell ⟨gb388, 6, none⟩ (.slice Ao109 t378.length co109)).setCell ⟨gb388, 7, none⟩ (.int .i64 t381)).setCell ⟨gb388, 8, none⟩ (.int .i64 t382)).setCell ⟨gb388, 9, none⟩ (.slice Ao110 t383.length co110)).setCell ⟨gb388, 10, none⟩ (.bool t386)).heap[gb347]? = some (.cells #[.bool t328, .slice Ao12 t329.length co12, .int .i64 t332, .slice Ao13 t333.length co13, .int .i64 t336, .string t337, .slice Ao14 t338.length co14, .int .i64 t341, .int .i64 t342, .slice Ao15 t343.length co15, .bool t346] 42 (0, 0))) := ⟨zp BK347⟩
     have n13_ : Aside0 ((((((((((((w104.setCell ⟨gb388, 0, none⟩ (.bool t368)).setCell ⟨gb388, 1, none⟩ (.slice Ao107 t369.length co107)).setCell ⟨gb388, 2, none⟩ (.int .i64 t372)).setCell ⟨gb388, 3, none⟩ (.slice Ao108 t373.length co108)).setCell ⟨gb388, 4, none⟩ (.int .i64 t376)).setCell ⟨gb388, 5, none⟩ (.string t377)).setCell ⟨gb388, 6, none⟩ (.slice Ao109 t378.length co109)).setCell ⟨gb388, 7, none⟩ (.int .i64 t381)).setCell ⟨gb388, 8, none⟩ (.int .i64 t382)).setCell ⟨gb388, 9, none⟩ (.slice Ao110 t383.length co110)).setCell ⟨gb388, 10, none⟩ (.bool t386)).heap[gb388]? = some (.cells #[.bool t368, .slice Ao107 t369.length co107, .int .i64 t372, .slice Ao108 t373.length co108, .int .i64 t376, .string t377, .slice Ao109 t378.length co109, .int .i64 t381, .int .i64 t382, .slice Ao110 t383.length co110, .bool t386] 42 (0, 0))) := ⟨zp BK388⟩
     have n14_ : Aside0 (Below w.heap.size w (((((((((((w104.setCell ⟨gb388, 0, none⟩ (.bool t368)).setCell ⟨gb388, 1, none⟩ (.slice Ao107 t369.length co107)).setCell ⟨gb388, 2, none⟩ (.int .i64 t372)).setCell ⟨gb388, 3, none⟩ (.slice Ao108 t373.length co108)).setCell ⟨gb388, 4, none⟩ (.int .i64 t376)).setCell ⟨gb388, 5, none⟩ (.string t377)).setCell ⟨gb388, 6, none⟩ (.slice Ao109 t378.length co109)).setCell ⟨gb388, 7, none⟩ (.int .i64 t381)).setCell ⟨gb388, 8, none⟩ (.int .i64 t382)).setCell ⟨gb388, 9, none⟩ (.slice Ao110 t383.length co110)).setCell ⟨gb388, 10, none⟩ (.bool t386))) := ⟨zb HB⟩
     (try clear HO331)
     (try clear HO335)
     (try clear HO340)
     (try clear HO345)
     (try clear HO351)
     (try clear HO355)
     (try clear HO360)
     (try clear HO365)
     (try clear HO371)
     (try clear HO375)
     (try clear HO380)
     (try clear HO385)
     (try clear BK347)
     (try clear BK388)
     (try clear HB)
     generalize (((((((((((w104.setCell ⟨gb388, 0, none⟩ (.bool t368)).setCell ⟨gb388, 1, none⟩ (.slice Ao107 t369.length co107)).setCell ⟨gb388, 2, none⟩ (.int .i64 t372)).setCell ⟨gb388, 3, none⟩ (.slice Ao108 t373.length co108)).setCell ⟨gb388, 4, none⟩ (.int .i64 t376)).setCell ⟨gb388, 5, none⟩ (.string t377)).setCell ⟨gb388, 6, none⟩ (.slice Ao109 t378.length co109)).setCell ⟨gb388, 7, none⟩ (.int .i64 t381)).setCell ⟨gb388, 8, none⟩ (.int .i64 t382)).setCell ⟨gb388, 9, none⟩ (.slice Ao110 t383.length co110)).setCell ⟨gb388, 10, none⟩ (.bool t386)) = w111 at n0_ n1_ n2_ n3_ n4_ n5_ n6_ n7_ n8_ n9_ n10_ n11_ n12_ n13_ n14_ ⊢
     have HO331 := n0_
     have HO335 := n1_
     have HO340 := n2_
     have HO345 := n3_
     have HO351 := n4_
     have HO355 := n5_
     have HO360 := n6_
     have HO365 := n7_
     have HO371 := n8_
     have HO375 := n9_
     have HO380 := n10_
     have HO385 := n11_
     have BK347 := n12_
     have BK388 := n13_
     have HB := n14_
     clear n0_ n1_ n2_ n3_ n4_ n5_ n6_ n7_ n8_ n9_ n10_ n11_ n12_ n13_ n14_
     replace HO331 := Aside0.mk (Kd.R_drew HO331.out)
     replace HO335 := Aside0.mk (Kd.R_drew HO335.out)
     replace HO340 := Aside0.mk (Kd.S_drew HO340.out)
     replace HO345 := Aside0.mk (Kd.R_drew HO345.out)
     replace HO351 := Aside0.mk (Kd.R_drew HO351.out)
     replace HO355 := Aside0.mk (Kd.R_drew HO355.out)
     replace HO360 := Aside0.mk (Kd.S_drew HO360.out)
     replace HO365 := Aside0.mk (Kd.R_drew HO365.out)
     replace HO371 := Aside0.mk (Kd.R_drew HO371.out)
     replace HO375 := Aside0.mk (Kd.R_drew HO375.out)
     replace HO380 := Aside0.mk (Kd.S_drew HO380.out)
     replace HO385 := Aside0.mk (Kd.R_drew HO385.out)
     replace BK347 := Aside0.mk (blk_drew BK347.out)
     replace BK388 := Aside0.mk (blk_drew BK388.out)
     replace HB := Aside0.mk (below_drew1 HB.out)
     refine st 39 (b11 BK347) (fun hHeld => ?_); refine with_tabW laws_FnEndNew.tab8 laws_FnEndNew.bits8 (fun HT_ HW_ => ?_)
     generalize w111.drew = w112 at HO331 HO335 HO340 HO345 HO351 HO355 HO360 HO365 HO371 HO375 HO380 HO385 BK347 BK388 HB hHeld ⊢
     refine tk 0 (some 24) (bm 39 1) rfl rfl hHeld ?_
     refine one_ (i := 1) (N := some 25) (bm 39 3) rfl rfl (one_of HT_.out (by kernel_rfl)) (by decide) (fun K hK => ?_)
     refine gs Try.func33 #[.agg #[.bool t328, .slice Ao12 t329.length co12, .int .i64 t332, .slice Ao13 t333.length co13, .int .i64 t336, .string t337, .slice Ao14 t338.length co14, .int .i64 t341, .int .i64 t342, .slice Ao15 t343.length co15, .bool t346]] ?_
     with_reducible refine (impl_EndOk.calls k t328 _ _ t329 t332 _ _ t333 t336 t337 _ _ t338 t341 t342 _ _ t343 t346 true _ ?side1 ?side2 ?side3 ?side4 ?side5 ?side6 ?side7 ?side8 A26.out).mono ?_
     (case side1 => exact zc (Kd.R_reads' HO331.out).2.2)
     (case side2 => exact (Kd.R_reads' HO331.out).2.1)
     (case side3 => exact zc (Kd.R_reads' HO335.out).2.2)
     (case side4 => exact (Kd.R_reads' HO335.out).2.1)
     (case side5 => exact zc (Kd.S_reads' HO340.out).2.2)
     (case side6 => exact (Kd.S_reads' HO340.out).2.1)
     (case side7 => exact zc (Kd.R_reads' HO345.out).2.2)
     (case side8 => exact (Kd.R_reads' HO345.out).2.1)
     rintro e w113 ⟨rfl, hb⟩
     refine ⟨_, rfl, ?_⟩
     replace HO331 := Aside0.mk (Kd.R_below (zr HO331) hb)
     replace HO335 := Aside0.mk (Kd.R_below (zr HO335) hb)
     replace HO340 := Aside0.mk (Kd.S_below (by (with_reducible repeat (first | apply Kd.S_alloc | apply Kd.S_drewN | apply Kd.S_drew)); exact HO340.out) hb)
     replace HO345 := Aside0.mk (Kd.R_below (zr HO345) hb)
     replace HO351 := Aside0.mk (Kd.R_below (zr HO351) hb)
     replace HO355 := Aside0.mk (Kd.R_below (zr HO355) hb)
     replace HO360 := Aside0.mk (Kd.S_below (by (with_reducible repeat (first | apply Kd.S_alloc | apply Kd.S_drewN | apply Kd.S_drew)); exact HO360.out) hb)
     replace HO365 := Aside0.mk (Kd.R_below (zr HO365) hb)
     replace HO371 := Aside0.mk (Kd.R_below (zr HO371) hb)
     replace HO375 := Aside0.mk (Kd.R_below (zr HO375) hb)
     replace HO380 := Aside0.mk (Kd.S_below (by (with_reducible repeat (first | apply Kd.S_alloc | apply Kd.S_drewN | apply Kd.S_drew)); exact HO380.out) hb)
     replace HO385 := Aside0.mk (Kd.R_below (zr HO385) hb)
     replace BK347 := kb BK347 hb
     replace BK388 := kb BK388 hb
     replace HB := Aside0.mk (below_step (zb HB) hb)
     (try clear hb)
     refine hK.out _ _ (b11 BK347) (fun hHeld => ?_)
     clear hK K
     refine nm ?_
     refine pu 2 (some 26) (bm 39 7) rfl rfl ?_
     refine pu 3 (some 27) (bm 39 15) rfl rfl ?_
     refine pu 5 (some 29) (bm 39 47) rfl rfl ?_
     refine tk 4 (some 28) (bm 39 63) rfl rfl hHeld ?_
     refine pu 6 (some 30) (bm 39 127) rfl rfl ?_
     refine pu 7 (some 31) (bm 39 255) rfl rfl ?_
     refine pu 8 (some 32) (bm 39 511) rfl rfl ?_
     refine pv 9 (some 33) (bm 39 1023) rfl rfl ?_
     refine pv 10 (some 34) (bm 39 2047) rfl rfl ?_
     refine pu 11 (some 35) (bm 39 4095) rfl rfl ?_
     refine pu 12 (some 36) (bm 39 8191) rfl rfl ?_
     refine pv 13 (some 37) (bm 39 16383) rfl rfl ?_
     refine pv 14 (some 38) (bm 39 32767) rfl rfl ?_
     refine pv 15 (some 39) (bm 39 65535) rfl rfl ?_
     refine pu 16 (some 40) (bm 39 131071) rfl rfl ?_
     refine pu 17 (some 41) (bm 39 262143) rfl rfl ?_
     refine pv 18 (some 42) (bm 39 524287) rfl rfl ?_
     refine pv 19 (some 43) (bm 39 1048575) rfl rfl ?_
     refine pv 20 (some 44) (bm 39 2097151) rfl rfl ?_
     refine pu 21 (some 45) (bm 39 4194303) rfl rfl ?_
     refine pu 22 (some 46) (bm 39 8388607) rfl rfl ?_
     refine pv 23 (some 47) (bm 39 16777215) rfl rfl ?_
     refine pv 24 (some 48) (bm 39 33554431) rfl rfl ?_
     refine pv 25 (some 49) (bm 39 67108863) rfl rfl ?_
     refine pv 26 (some 50) (bm 39 134217727) rfl rfl ?_
     refine pu 27 (some 51) (bm 39 268435455) rfl rfl ?_
     refine pu 28 (some 52) (bm 39 536870911) rfl rfl ?_
     refine pv 29 (some 53) (bm 39 1073741823) rfl rfl ?_
     refine pv 30 (some 54) (bm 39 2147483647) rfl rfl ?_
     refine pv 31 (some 55) (bm 39 4294967295) rfl rfl ?_
     refine pv 32 (some 56) (bm 39 8589934591) rfl rfl ?_
     refine pv 33 (some 57) (bm 39 17179869183) rfl rfl ?_
     refine pv 34 (some 58) (bm 39 34359738367) rfl rfl ?_
     refine pv 35 (some 59) (bm 39 68719476735) rfl rfl ?_
     refine pv 36 (some 60) (bm 39 137438953471) rfl rfl ?_
     refine pu 37 (some 61) (bm 39 274877906943) rfl rfl ?_
     refine pu 38 (some 2) (bm 39 549755813887) rfl rfl ?_
     refine done_ (done_of HT_.out (by kernel_rfl)) ?_
     try go_wp2
     go_ret
     exact ⟨ze, zb HB⟩
   ·replace c27 := Bool.eq_false_iff.mpr c27
    subst c27
    rw [if_neg (show ¬ (false = true) by decide)] at H
    obtain rfl := Option.some.inj H
    obtain ⟨hcz114_0, hcz114_1, hcz114_2, hcz114_3, hcz114_4, hcz114_5, hcz114_6, hcz114_7, hcz114_8, hcz114_9, hcz114_10, hfz114_0, hfz114_1, hfz114_2, hfz114_3, hfz114_4, hfz114_5, hfz114_6, hfz114_7, hfz114_8, hfz114_9, hfz114_10⟩ := c11 BK347
    try go_wp2_with (first | ((with_reducible refine gq 32 rfl ?_); refine gl (some 21) Try.func32 #[.agg #[.bool t328, .slice Ao12 t329.length co12, .int .i64 t332, .slice Ao13 t333.length co13, .int .i64 t336, .string t337, .slice Ao14 t338.length co14, .int .i64 t341, .int .i64 t342, .slice Ao15 t343.length co15, .bool t346]] ?_; (with_reducible refine (impl_EndWrite.calls k t328 _ _ t329 t332 _ _ t333 t336 t337 _ _ t338 t341 t342 _ _ t343 t346 t368 t369 t372 t373 t376 t377 t378 t381 t382 t383 t386 t387 _ ?side1 ?side2 ?side3 ?side4 ?side5 ?side6 ?side7 ?side8 A25.out).mono ?_); (case side1 => exact zc (Kd.R_reads' HO331.out).2.2); (case side2 => exact (Kd.R_reads' HO331.out).2.1); (case side3 => exact zc (Kd.R_reads' HO335.out).2.2); (case side4 => exact (Kd.R_reads' HO335.out).2.1); (case side5 => exact zc (Kd.S_reads' HO340.out).2.2); (case side6 => exact (Kd.S_reads' HO340.out).2.1); (case side7 => exact zc (Kd.R_reads' HO345.out).2.2); (case side8 => exact (Kd.R_reads' HO345.out).2.1); rintro e w115 ⟨v370, v374, v379, v384, rfl, ho0, ho1, ho2, ho3, hb⟩; refine ⟨_, rfl, ?_⟩; have HO371 := Aside0.mk (Kd.R_lower (Kd.R_new' (Kd.R_new' (Kd.R_new' (Kd.R_new' ho0 (Kd.R_lt (zr HO331))) (Kd.R_lt (zr HO335))) (Kd.R_lt (zr HO351))) (Kd.R_lt (zr HO355))) (below_size (zb HB))); have HO375 := Aside0.mk (Kd.R_lower (Kd.R_new' (Kd.R_new' (Kd.R_new' (Kd.R_new' ho1 (Kd.R_lt (zr HO331))) (Kd.R_lt (zr HO335))) (Kd.R_lt (zr HO351))) (Kd.R_lt (zr HO355))) (below_size (zb HB))); have HO380 := Aside0.mk (Kd.S_lower (Kd.S_new' (Kd.S_new' (Kd.S_new' (Kd.S_new' (Kd.S_new' (Kd.S_new' ho2 (Kd.R_lt (zr HO331))) (Kd.R_lt (zr HO335))) (Kd.S_lt (by (with_reducible repeat (first | apply Kd.S_alloc | apply Kd.S_drewN | apply Kd.S_drew)); exact HO340.out))) (Kd.R_lt (zr HO351))) (Kd.R_lt (zr HO355))) (Kd.S_lt (by (with_reducible repeat (first | apply Kd.S_alloc | apply Kd.S_drewN | apply Kd.S_drew)); exact HO360.out))) (below_size (zb HB))); replace HO331 := Aside0.mk (Kd.R_mono (Kd.R_told (Kd.R_told (Kd.R_old (zr HO331) hb) (Kd.R_base ho0)) (Kd.R_base ho1)) (fun _ h_ => h_.1)); replace HO335 := Aside0.mk (Kd.R_mono (Kd.R_told (Kd.R_told (Kd.R_old (zr HO335) hb) (Kd.R_base ho0)) (Kd.R_base ho1)) (fun _ h_ => h_.1)); replace HO340 := Aside0.mk (Kd.S_mono (Kd.S_told (Kd.S_told (Kd.S_told (Kd.S_old (by (with_reducible repeat (first | apply Kd.S_alloc | apply Kd.S_drewN | apply Kd.S_drew)); exact HO340.out) hb) (Kd.R_base ho0)) (Kd.R_base ho1)) (Kd.S_base ho2)) (fun _ h_ => h_.1)); replace HO351 := Aside0.mk (Kd.R_mono (Kd.R_told (Kd.R_told (Kd.R_old (zr HO351) hb) (Kd.R_base ho0)) (Kd.R_base ho1)) (fun _ h_ => h_.1)); replace HO355 := Aside0.mk (Kd.R_mono (Kd.R_told (Kd.R_told (Kd.R_old (zr HO355) hb) (Kd.R_base ho0)) (Kd.R_base ho1)) (fun _ h_ => h_.1)); replace HO360 := Aside0.mk (Kd.S_mono (Kd.S_told (Kd.S_told (Kd.S_told (Kd.S_old (by (with_reducible repeat (first | apply Kd.S_alloc | apply Kd.S_drewN | apply Kd.S_drew)); exact HO360.out) hb) (Kd.R_base ho0)) (Kd.R_base ho1)) (Kd.S_base ho2)) (fun _ h_ => h_.1)); have HO385 := Aside0.mk (Kd.R_lower (Kd.R_new' (Kd.R_new' ho3 (Kd.R_lt (zr HO345))) (Kd.R_lt (zr HO365))) (below_size (zb HB))); replace HO345 := Aside0.mk (Kd.R_elder' (zr HO345) (Kd.R_base ho3) hb); replace HO365 := Aside0.mk (Kd.R_elder' (zr HO365) (Kd.R_base ho3) hb); replace BK347 := kb BK347 hb; replace HB := Aside0.mk (below_step (zb HB) hb); (try clear hb); (try clear ho0); (try clear ho1); (try clear ho2); (try clear ho3)) | ((with_reducible refine gd 5 rfl ?_); (try (refine gate_guard (by rfl) ?_; dsimp only)); refine bx (N := 5) (cs := #[.bool false, .slice none 0 0, .int .i64 0, .slice none 0 0, .int .i64 0, .string (⟨#[]⟩ : ByteArray), .slice none 0 0, .int .i64 0, .int .i64 0, .slice none 0 0, .bool false]) (t := 42) ?_; intro gb388 hg w116 hbox hb; replace HO331 := Aside0.mk (Kd.R_below (zr HO331) hb); replace HO335 := Aside0.mk (Kd.R_below (zr HO335) hb); replace HO340 := Aside0.mk (Kd.S_below (by (with_reducible repeat (first | apply Kd.S_alloc | apply Kd.S_drewN | apply Kd.S_drew)); exact HO340.out) hb); replace HO345 := Aside0.mk (Kd.R_below (zr HO345) hb); replace HO351 := Aside0.mk (Kd.R_below (zr HO351) hb); replace HO355 := Aside0.mk (Kd.R_below (zr HO355) hb); replace HO360 := Aside0.mk (Kd.S_below (by (with_reducible repeat (first | apply Kd.S_alloc | apply Kd.S_drewN | apply Kd.S_drew)); exact HO360.out) hb); replace HO365 := Aside0.mk (Kd.R_below (zr HO365) hb); replace HO371 := Aside0.mk (Kd.R_below (zr HO371) hb); replace HO375 := Aside0.mk (Kd.R_below (zr HO375) hb); replace HO380 := Aside0.mk (Kd.S_below (by (with_reducible repeat (first | apply Kd.S_alloc | apply Kd.S_drewN | apply Kd.S_drew)); exact HO380.out) hb); replace HO385 := Aside0.mk (Kd.R_below (zr HO385) hb); have BK388 := Aside0.mk (hbox); have GW388 := gw HB hg; have GE388 := GW388; replace HB := Aside0.mk (below_step (zb HB) hb); obtain ⟨NB347_388, NB388_347⟩ := nb BK347 hg; replace BK347 := kb BK347 hb; clear hb hbox hg; have hnb117 := NB388_347.out; have hnc117 := NB347_388.out; obtain ⟨hcz118_0, hcz118_1, hcz118_2, hcz118_3, hcz118_4, hcz118_5, hcz118_6, hcz118_7, hcz118_8, hcz118_9, hcz118_10, hfz118_0, hfz118_1, hfz118_2, hfz118_3, hfz118_4, hfz118_5, hfz118_6, hfz118_7, hfz118_8, hfz118_9, hfz118_10⟩ := c11 BK388; obtain ⟨Ao119, co119, eo119⟩ := Kd.R_slice HO371.out; subst eo119; obtain ⟨Ao120, co120, eo120⟩ := Kd.R_slice HO375.out; subst eo120; obtain ⟨Ao121, co121, eo121⟩ := Kd.S_slice HO380.out; subst eo121; obtain ⟨Ao122, co122, eo122⟩ := Kd.R_slice HO385.out; subst eo122))
    have n0_ : Aside0 (Kd.R k88 88 (((((((((((w116.setCell ⟨gb388, 0, none⟩ (.bool t368)).setCell ⟨gb388, 1, none⟩ (.slice Ao119 t369.length co119)).setCell ⟨gb388, 2, none⟩ (.int .i64 t372)).setCell ⟨gb388, 3, none⟩ (.slice Ao120 t373.length co120)).setCell ⟨gb388, 4, none⟩ (.int .i64 t376)).setCell ⟨gb388, 5, none⟩ (.string t377)).setCell ⟨gb388, 6, none⟩ (.slice Ao121 t378.length co121)).setCell ⟨gb388, 7, none⟩ (.int .i64 t381)).setCell ⟨gb388, 8, none⟩ (.int .i64 t382)).setCell ⟨gb388, 9, none⟩ (.slice Ao122 t383.length co122)).setCell ⟨gb388, 10, none⟩ (.bool t386)) w.heap.size (fun k_ => some k_ ≠ (.slice Ao13 t333.length co13 : Value).ownBlock ∧ some k_ ≠ (.slice Ao19 t349.length co19 : Value).ownBlock ∧ some k_ ≠ (.slice Ao20 t353.length co20 : Value).ownBlock ∧ some k_ ≠ (.slice Ao119 t369.length co119 : Value).ownBlock ∧ some k_ ≠ (.slice Ao120 t373.length co120 : Value).ownBlock) (.slice Ao12 t329.length co12) t329) := ⟨(Kd.R_mono (ztR (Kd.R_types HO331.out BK388.out (by decide))) (fun _ hk => ⟨hk.1.1.1.1.1, ⟨hk.1.1.1.1.2, ⟨hk.1.1.1.2, ⟨hk.1.1.2, hk.1.2⟩⟩⟩⟩))⟩
    have n1_ : Aside0 (Kd.R k88 88 (((((((((((w116.setCell ⟨gb388, 0, none⟩ (.bool t368)).setCell ⟨gb388, 1, none⟩ (.slice Ao119 t369.length co119)).setCell ⟨gb388, 2, none⟩ (.int .i64 t372)).setCell ⟨gb388, 3, none⟩ (.slice Ao120 t373.length co120)).setCell ⟨gb388, 4, none⟩ (.int .i64 t376)).setCell ⟨gb388, 5, none⟩ (.string t377)).setCell ⟨gb388, 6, none⟩ (.slice Ao121 t378.length co121)).setCell ⟨gb388, 7, none⟩ (.int .i64 t381)).setCell ⟨gb388, 8, none⟩ (.int .i64 t382)).setCell ⟨gb388, 9, none⟩ (.slice Ao122 t383.length co122)).setCell ⟨gb388, 10, none⟩ (.bool t386)) w.heap.size (fun k_ => some k_ ≠ (.slice Ao12 t329.length co12 : Value).ownBlock ∧ some k_ ≠ (.slice Ao19 t349.length co19 : Value).ownBlock ∧ some k_ ≠ (.slice Ao20 t353.length co20 : Value).ownBlock ∧ some k_ ≠ (.slice Ao119 t369.length co119 : Value).ownBlock ∧ some k_ ≠ (.slice Ao120 t373.length co120 : Value).ownBlock) (.slice Ao13 t333.length co13) t333) := ⟨(Kd.R_mono (ztR (Kd.R_types HO335.out BK388.out (by decide))) (fun _ hk => ⟨hk.1.1.1.1.1, ⟨hk.1.1.1.1.2, ⟨hk.1.1.1.2, ⟨hk.1.1.2, hk.1.2⟩⟩⟩⟩))⟩
    have n2_ : Aside0 (Kd.S k104 104 (((((((((((w116.setCell ⟨gb388, 0, none⟩ (.bool t368)).setCell ⟨gb388, 1, none⟩ (.slice Ao119 t369.length co119)).setCell ⟨gb388, 2, none⟩ (.int .i64 t372)).setCell ⟨gb388, 3, none⟩ (.slice Ao120 t373.length co120)).setCell ⟨gb388, 4, none⟩ (.int .i64 t376)).setCell ⟨gb388, 5, none⟩ (.string t377)).setCell ⟨gb388, 6, none⟩ (.slice Ao121 t378.length co121)).setCell ⟨gb388, 7, none⟩ (.int .i64 t381)).setCell ⟨gb388, 8, none⟩ (.int .i64 t382)).setCell ⟨gb388, 9, none⟩ (.slice Ao122 t383.length co122)).setCell ⟨gb388, 10, none⟩ (.bool t386)) w.heap.size (fun k_ => some k_ ≠ (.slice Ao12 t329.length co12 : Value).ownBlock ∧ some k_ ≠ (.slice Ao13 t333.length co13 : Value).ownBlock ∧ some k_ ≠ (.slice Ao19 t349.length co19 : Value).ownBlock ∧ some k_ ≠ (.slice Ao20 t353.length co20 : Value).ownBlock ∧ some k_ ≠ (.slice Ao21 t358.length co21 : Value).ownBlock ∧ some k_ ≠ (.slice Ao119 t369.length co119 : Value).ownBlock ∧ some k_ ≠ (.slice Ao120 t373.length co120 : Value).ownBlock ∧ some k_ ≠ (.slice Ao121 t378.length co121 : Value).ownBlock) (.slice Ao14 t338.length co14) t338) := ⟨by (with_reducible repeat (first | apply Kd.S_alloc | apply Kd.S_drewN | apply Kd.S_drew)); exact Kd.S_mono (ztS (Kd.S_types HO340.out BK388.out (by decide))) (fun _ hk => ⟨hk.1.1.1.1.1.1.1.1, ⟨hk.1.1.1.1.1.1.1.2, ⟨hk.1.1.1.1.1.1.2, ⟨hk.1.1.1.1.1.2, ⟨hk.1.1.1.1.2, ⟨hk.1.1.1.2, ⟨hk.1.1.2, hk.1.2⟩⟩⟩⟩⟩⟩⟩)⟩
    have n3_ : Aside0 (Kd.R k110 110 (((((((((((w116.setCell ⟨gb388, 0, none⟩ (.bool t368)).setCell ⟨gb388, 1, none⟩ (.slice Ao119 t369.length co119)).setCell ⟨gb388, 2, none⟩ (.int .i64 t372)).setCell ⟨gb388, 3, none⟩ (.slice Ao120 t373.length co120)).setCell ⟨gb388, 4, none⟩ (.int .i64 t376)).setCell ⟨gb388, 5, none⟩ (.string t377)).setCell ⟨gb388, 6, none⟩ (.slice Ao121 t378.length co121)).setCell ⟨gb388, 7, none⟩ (.int .i64 t381)).setCell ⟨gb388, 8, none⟩ (.int .i64 t382)).setCell ⟨gb388, 9, none⟩ (.slice Ao122 t383.length co122)).setCell ⟨gb388, 10, none⟩ (.bool t386)) w.heap.size (fun k_ => some k_ ≠ (.slice Ao22 t363.length co22 : Value).ownBlock ∧ some k_ ≠ (.slice Ao122 t383.length co122 : Value).ownBlock) (.slice Ao15 t343.length co15) t343) := ⟨(Kd.R_mono (ztR (Kd.R_types HO345.out BK388.out (by decide))) (fun _ hk => ⟨hk.1.1.2, hk.1.2⟩))⟩
    have n4_ : Aside0 (Kd.R k88 88 (((((((((((w116.setCell ⟨gb388, 0, none⟩ (.bool t368)).setCell ⟨gb388, 1, none⟩ (.slice Ao119 t369.length co119)).setCell ⟨gb388, 2, none⟩ (.int .i64 t372)).setCell ⟨gb388, 3, none⟩ (.slice Ao120 t373.length co120)).setCell ⟨gb388, 4, none⟩ (.int .i64 t376)).setCell ⟨gb388, 5, none⟩ (.string t377)).setCell ⟨gb388, 6, none⟩ (.slice Ao121 t378.length co121)).setCell ⟨gb388, 7, none⟩ (.int .i64 t381)).setCell ⟨gb388, 8, none⟩ (.int .i64 t382)).setCell ⟨gb388, 9, none⟩ (.slice Ao122 t383.length co122)).setCell ⟨gb388, 10, none⟩ (.bool t386)) w.heap.size (fun k_ => some k_ ≠ (.slice Ao12 t329.length co12 : Value).ownBlock ∧ some k_ ≠ (.slice Ao13 t333.length co13 : Value).ownBlock ∧ some k_ ≠ (.slice Ao20 t353.length co20 : Value).ownBlock ∧ some k_ ≠ (.slice Ao119 t369.length co119 : Value).ownBlock ∧ some k_ ≠ (.slice Ao120 t373.length co120 : Value).ownBlock) (.slice Ao19 t349.length co19) t349) := ⟨(Kd.R_mono (ztR (Kd.R_types HO351.out BK388.out (by decide))) (fun _ hk => ⟨hk.1.1.1.1.2, ⟨hk.1.1.1.2, ⟨hk.1.1.1.1.1, ⟨hk.1.1.2, hk.1.2⟩⟩⟩⟩))⟩
    have n5_ : Aside0 (Kd.R k88 88 (((((((((((w116.setCell ⟨gb388, 0, none⟩ (.bool t368)).setCell ⟨gb388, 1, none⟩ (.slice Ao119 t369.length co119)).setCell ⟨gb388, 2, none⟩ (.int .i64 t372)).setCell ⟨gb388, 3, none⟩ (.slice Ao120 t373.length co120)).setCell ⟨gb388, 4, none⟩ (.int .i64 t376)).setCell ⟨gb388, 5, none⟩ (.string t377)).setCell ⟨gb388, 6, none⟩ (.slice Ao121 t378.length co121)).setCell ⟨gb388, 7, none⟩ (.int .i64 t381)).setCell ⟨gb388, 8, none⟩ (.int .i64 t382)).setCell ⟨gb388, 9, none⟩ (.slice Ao122 t383.length co122)).setCell ⟨gb388, 10, none⟩ (.bool t386)) w.heap.size (fun k_ => some k_ ≠ (.slice Ao12 t329.length co12 : Value).ownBlock ∧ some k_ ≠ (.slice Ao13 t333.length co13 : Value).ownBlock ∧ some k_ ≠ (.slice Ao19 t349.length co19 : Value).ownBlock ∧ some k_ ≠ (.slice Ao119 t369.length co119 : Value).ownBlock ∧ some k_ ≠ (.slice Ao120 t373.length co120 : Value).ownBlock) (.slice Ao20 t353.length co20) t353) := ⟨(Kd.R_mono (ztR (Kd.R_types HO355.out BK388.out (by decide))) (fun _ hk => ⟨hk.1.1.1.1.2, ⟨hk.1.1.1.2, ⟨hk.1.1.1.1.1, ⟨hk.1.1.2, hk.1.2⟩⟩⟩⟩))⟩
    have n6_ : Aside0 (Kd.S k104 104 (((((((((((w116.setCell ⟨gb388, 0, none⟩ (.bool t368)).setCell ⟨gb388, 1, none⟩ (.slice Ao119 t369.length co119)).setCell ⟨gb388, 2, none⟩ (.int .i64 t372)).setCell ⟨gb388, 3, none⟩ (.slice Ao120 t373.length co120)).setCell ⟨gb388, 4, none⟩ (.int .i64 t376)).setCell ⟨gb388, 5, none⟩ (.string t377)).setCell ⟨gb388, 6, none⟩ (.slice Ao121 t378.length co121)).setCell ⟨gb388, 7, none⟩ (.int .i64 t381)).setCell ⟨gb388, 8, none⟩ (.int .i64 t382)).setCell ⟨gb388, 9, none⟩ (.slice Ao122 t383.length co122)).setCell ⟨gb388, 10, none⟩ (.bool t386)) w.heap.size (fun k_ => some k_ ≠ (.slice Ao12 t329.length co12 : Value).ownBlock ∧ some k_ ≠ (.slice Ao13 t333.length co13 : Value).ownBlock ∧ some k_ ≠ (.slice Ao14 t338.length co14 : Value).ownBlock ∧ some k_ ≠ (.slice Ao19 t349.length co19 : Value).ownBlock ∧ some k_ ≠ (.slice Ao20 t353.length co20 : Value).ownBlock ∧ some k_ ≠ (.slice Ao119 t369.length co119 : Value).ownBlock ∧ some k_ ≠ (.slice Ao120 t373.length co120 : Value).ownBlock ∧ some k_ ≠ (.slice Ao121 t378.length co121 : Value).ownBlock) (.slice Ao21 t358.length co21) t358) := ⟨by (with_reducible repeat (first | apply Kd.S_alloc | apply Kd.S_drewN | apply Kd.S_drew)); exact Kd.S_mono (ztS (Kd.S_types HO360.out BK388.out (by decide))) (fun _ hk => ⟨hk.1.1.1.1.1.1.2, ⟨hk.1.1.1.1.1.2, ⟨hk.1.1.1.1.2, ⟨hk.1.1.1.1.1.1.1.1, ⟨hk.1.1.1.1.1.1.1.2, ⟨hk.1.1.1.2, ⟨hk.1.1.2, hk.1.2⟩⟩⟩⟩⟩⟩⟩)⟩
    have n7_ : Aside0 (Kd.R k110 110 (((((((((((w116.setCell ⟨gb388, 0, none⟩ (.bool t368)).setCell ⟨gb388, 1, none⟩ (.slice Ao119 t369.length co119)).setCell ⟨gb388, 2, none⟩ (.int .i64 t372)).setCell ⟨gb388, 3, none⟩ (.slice Ao120 t373.length co120)).setCell ⟨gb388, 4, none⟩ (.int .i64 t376)).setCell ⟨gb388, 5, none⟩ (.string t377)).setCell ⟨gb388, 6, none⟩ (.slice Ao121 t378.length co121)).setCell ⟨gb388, 7, none⟩ (.int .i64 t381)).setCell ⟨gb388, 8, none⟩ (.int .i64 t382)).setCell ⟨gb388, 9, none⟩ (.slice Ao122 t383.length co122)).setCell ⟨gb388, 10, none⟩ (.bool t386)) w.heap.size (fun k_ => some k_ ≠ (.slice Ao15 t343.length co15 : Value).ownBlock ∧ some k_ ≠ (.slice Ao122 t383.length co122 : Value).ownBlock) (.slice Ao22 t363.length co22) t363) := ⟨(Kd.R_mono (ztR (Kd.R_types HO365.out BK388.out (by decide))) (fun _ hk => ⟨hk.1.1.2, hk.1.2⟩))⟩
    have n8_ : Aside0 (Kd.R k88 88 (((((((((((w116.setCell ⟨gb388, 0, none⟩ (.bool t368)).setCell ⟨gb388, 1, none⟩ (.slice Ao119 t369.length co119)).setCell ⟨gb388, 2, none⟩ (.int .i64 t372)).setCell ⟨gb388, 3, none⟩ (.slice Ao120 t373.length co120)).setCell ⟨gb388, 4, none⟩ (.int .i64 t376)).setCell ⟨gb388, 5, none⟩ (.string t377)).setCell ⟨gb388, 6, none⟩ (.slice Ao121 t378.length co121)).setCell ⟨gb388, 7, none⟩ (.int .i64 t381)).setCell ⟨gb388, 8, none⟩ (.int .i64 t382)).setCell ⟨gb388, 9, none⟩ (.slice Ao122 t383.length co122)).setCell ⟨gb388, 10, none⟩ (.bool t386)) w.heap.size (fun k_ => some k_ ≠ (.slice Ao12 t329.length co12 : Value).ownBlock ∧ some k_ ≠ (.slice Ao13 t333.length co13 : Value).ownBlock ∧ some k_ ≠ (.slice Ao19 t349.length co19 : Value).ownBlock ∧ some k_ ≠ (.slice Ao20 t353.length co20 : Value).ownBlock ∧ some k_ ≠ (.slice Ao120 t373.length co120 : Value).ownBlock) (.slice Ao119 t369.length co119) t369) := ⟨(Kd.R_mono (ztR (Kd.R_types HO371.out BK388.out (by decide))) (fun _ hk => ⟨hk.1.1.1.1.2, ⟨hk.1.1.1.2, ⟨hk.1.1.2, ⟨hk.1.2, hk.1.1.1.1.1⟩⟩⟩⟩))⟩
    have n9_ : Aside0 (Kd.R k88 88 (((((((((((w116.setCell ⟨gb388, 0, none⟩ (.bool t368)).setCell ⟨gb388, 1, none⟩ (.slice Ao119 t369.length co119)).setCell ⟨gb388, 2, none⟩ (.int .i64 t372)).setCell ⟨gb388, 3, none⟩ (.slice Ao120 t373.length co120)).setCell ⟨gb388, 4, none⟩ (.int .i64 t376)).setCell ⟨gb388, 5, none⟩ (.string t377)).setCell ⟨gb388, 6, none⟩ (.slice Ao121 t378.length co121)).setCell ⟨gb388, 7, none⟩ (.int .i64 t381)).setCell ⟨gb388, 8, none⟩ (.int .i64 t382)).setCell ⟨gb388, 9, none⟩ (.slice Ao122 t383.length co122)).setCell ⟨gb388, 10, none⟩ (.bool t386)) w.heap.size (fun k_ => some k_ ≠ (.slice Ao12 t329.length co12 : Value).ownBlock ∧ some k_ ≠ (.slice Ao13 t333.length co13 : Value).ownBlock ∧ some k_ ≠ (.slice Ao19 t349.length co19 : Value).ownBlock ∧ some k_ ≠ (.slice Ao20 t353.length co20 : Value).ownBlock ∧ some k_ ≠ (.slice Ao119 t369.length co119 : Value).ownBlock) (.slice Ao120 t373.length co120) t373) := ⟨(Kd.R_mono (ztR (Kd.R_types HO375.out BK388.out (by decide))) (fun _ hk => ⟨hk.1.1.1.1.2, ⟨hk.1.1.1.2, ⟨hk.1.1.2, ⟨hk.1.2, hk.1.1.1.1.1⟩⟩⟩⟩))⟩
    have n10_ : Aside0 (Kd.S k104 104 (((((((((((w116.setCell ⟨gb388, 0, none⟩ (.bool t368)).setCell ⟨gb388, 1, none⟩ (.slice Ao119 t369.length co119)).setCell ⟨gb388, 2, none⟩ (.int .i64 t372)).setCell ⟨gb388, 3, none⟩ (.slice Ao120 t373.length co120)).setCell ⟨gb388, 4, none⟩ (.int .i64 t376)).setCell ⟨gb388, 5, none⟩ (.string t377)).setCell ⟨gb388, 6, none⟩ (.slice Ao121 t378.length co121)).setCell ⟨gb388, 7, none⟩ (.int .i64 t381)).setCell ⟨gb388, 8, none⟩ (.int .i64 t382)).setCell ⟨gb388, 9, none⟩ (.slice Ao122 t383.length co122)).setCell ⟨gb388, 10, none⟩ (.bool t386)) w.heap.size (fun k_ => some k_ ≠ (.slice Ao12 t329.length co12 : Value).ownBlock ∧ some k_ ≠ (.slice Ao13 t333.length co13 : Value).ownBlock ∧ some k_ ≠ (.slice Ao14 t338.length co14 : Value).ownBlock ∧ some k_ ≠ (.slice Ao19 t349.length co19 : Value).ownBlock ∧ some k_ ≠ (.slice Ao20 t353.length co20 : Value).ownBlock ∧ some k_ ≠ (.slice Ao21 t358.length co21 : Value).ownBlock ∧ some k_ ≠ (.slice Ao119 t369.length co119 : Value).ownBlock ∧ some k_ ≠ (.slice Ao120 t373.length co120 : Value).ownBlock) (.slice Ao121 t378.length co121) t378) := ⟨by (with_reducible repeat (first | apply Kd.S_alloc | apply Kd.S_drewN | apply Kd.S_drew)); exact Kd.S_mono (ztS (Kd.S_types HO380.out BK388.out (by decide))) (fun _ hk => ⟨hk.1.1.1.1.1.1.2, ⟨hk.1.1.1.1.1.2, ⟨hk.1.1.1.1.2, ⟨hk.1.1.1.2, ⟨hk.1.1.2, ⟨hk.1.2, ⟨hk.1.1.1.1.1.1.1.1, hk.1.1.1.1.1.1.1.2⟩⟩⟩⟩⟩⟩⟩)⟩
    have n11_ : Aside0 (Kd.R k110 110 (((((((((((w116.setCell ⟨gb388, 0, none⟩ (.bool t368)).setCell ⟨gb388, 1, none⟩ (.slice Ao119 t369.length co119)).setCell ⟨gb388, 2, none⟩ (.int .i64 t372)).setCell ⟨gb388, 3, none⟩ (.slice Ao120 t373.length co120)).setCell ⟨gb388, 4, none⟩ (.int .i64 t376)).setCell ⟨gb388, 5, none⟩ (.string t377)).setCell ⟨gb388, 6, none⟩ (.slice Ao121 t378.length co121)).setCell ⟨gb388, 7, none⟩ (.int .i64 t381)).setCell ⟨gb388, 8, none⟩ (.int .i64 t382)).setCell ⟨gb388, 9, none⟩ (.slice Ao122 t383.length co122)).setCell ⟨gb388, 10, none⟩ (.bool t386)) w.heap.size (fun k_ => some k_ ≠ (.slice Ao15 t343.length co15 : Value).ownBlock ∧ some k_ ≠ (.slice Ao22 t363.length co22 : Value).ownBlock) (.slice Ao122 t383.length co122) t383) := ⟨(Kd.R_mono (ztR (Kd.R_types HO385.out BK388.out (by decide))) (fun _ hk => ⟨hk.1.1.2, hk.1.2⟩))⟩
    have n12_ : Aside0 ((((((((((((w116.setCell ⟨gb388, 0, none⟩ (.bool t368)).setCell ⟨gb388, 1, none⟩ (.slice Ao119 t369.length co119)).setCell ⟨gb388, 2, none⟩ (.int .i64 t372)).setCell ⟨gb388, 3, none⟩ (.slice Ao120 t373.length co120)).setCell ⟨gb388, 4, none⟩ (.int .i64 t376)).setCell ⟨gb388, 5, none⟩ (.string t377)).setCell ⟨gb388, 6, none⟩ (.slice Ao121 t378.length co121)).setCell ⟨gb388, 7, none⟩ (.int .i64 t381)).setCell ⟨gb388, 8, none⟩ (.int .i64 t382)).setCell ⟨gb388, 9, none⟩ (.slice Ao122 t383.length co122)).setCell ⟨gb388, 10, none⟩ (.bool t386)).heap[gb347]? = some (.cells #[.bool t328, .slice Ao12 t329.length co12, .int .i64 t332, .slice Ao13 t333.length co13, .int .i64 t336, .string t337, .slice Ao14 t338.length co14, .int .i64 t341, .int .i64 t342, .slice Ao15 t343.length co15, .bool t346] 42 (0, 0))) := ⟨zp BK347⟩
    have n13_ : Aside0 ((((((((((((w116.setCell ⟨gb388, 0, none⟩ (.bool t368)).setCell ⟨gb388, 1, none⟩ (.slice Ao119 t369.length co119)).setCell ⟨gb388, 2, none⟩ (.int .i64 t372)).setCell ⟨gb388, 3, none⟩ (.slice Ao120 t373.length co120)).setCell ⟨gb388, 4, none⟩ (.int .i64 t376)).setCell ⟨gb388, 5, none⟩ (.string t377)).setCell ⟨gb388, 6, none⟩ (.slice Ao121 t378.length co121)).setCell ⟨gb388, 7, none⟩ (.int .i64 t381)).setCell ⟨gb388, 8, none⟩ (.int .i64 t382)).setCell ⟨gb388, 9, none⟩ (.slice Ao122 t383.length co122)).setCell ⟨gb388, 10, none⟩ (.bool t386)).heap[gb388]? = some (.cells #[.bool t368, .slice Ao119 t369.length co119, .int .i64 t372, .slice Ao120 t373.length co120, .int .i64 t376, .string t377, .slice Ao121 t378.length co121, .int .i64 t381, .int .i64 t382, .slice Ao122 t383.length co122, .bool t386] 42 (0, 0))) := ⟨zp BK388⟩
    have n14_ : Aside0 (Below w.heap.size w (((((((((((w116.setCell ⟨gb388, 0, none⟩ (.bool t368)).setCell ⟨gb388, 1, none⟩ (.slice Ao119 t369.length co119)).setCell ⟨gb388, 2, none⟩ (.int .i64 t372)).setCell ⟨gb388, 3, none⟩ (.slice Ao120 t373.length co120)).setCell ⟨gb388, 4, none⟩ (.int .i64 t376)).setCell ⟨gb388, 5, none⟩ (.string t377)).setCell ⟨gb388, 6, none⟩ (.slice Ao121 t378.length co121)).setCell ⟨gb388, 7, none⟩ (.int .i64 t381)).setCell ⟨gb388, 8, none⟩ (.int .i64 t382)).setCell ⟨gb388, 9, none⟩ (.slice Ao122 t383.length co122)).setCell ⟨gb388, 10, none⟩ (.bool t386))) := ⟨zb HB⟩
    (try clear HO331)
    (try clear HO335)
    (try clear HO340)
    (try clear HO345)
    (try clear HO351)
    (try clear HO355)
    (try clear HO360)
    (try clear HO365)
    (try clear HO371)
    (try clear HO375)
    (try clear HO380)
    (try clear HO385)
    (try clear BK347)
    (try clear BK388)
    (try clear HB)
    generalize (((((((((((w116.setCell ⟨gb388, 0, none⟩ (.bool t368)).setCell ⟨gb388, 1, none⟩ (.slice Ao119 t369.length co119)).setCell ⟨gb388, 2, none⟩ (.int .i64 t372)).setCell ⟨gb388, 3, none⟩ (.slice Ao120 t373.length co120)).setCell ⟨gb388, 4, none⟩ (.int .i64 t376)).setCell ⟨gb388, 5, none⟩ (.string t377)).setCell ⟨gb388, 6, none⟩ (.slice Ao121 t378.length co121)).setCell ⟨gb388, 7, none⟩ (.int .i64 t381)).setCell ⟨gb388, 8, none⟩ (.int .i64 t382)).setCell ⟨gb388, 9, none⟩ (.slice Ao122 t383.length co122)).setCell ⟨gb388, 10, none⟩ (.bool t386)) = w123 at n0_ n1_ n2_ n3_ n4_ n5_ n6_ n7_ n8_ n9_ n10_ n11_ n12_ n13_ n14_ ⊢
    have HO331 := n0_
    have HO335 := n1_
    have HO340 := n2_
    have HO345 := n3_
    have HO351 := n4_
    have HO355 := n5_
    have HO360 := n6_
    have HO365 := n7_
    have HO371 := n8_
    have HO375 := n9_
    have HO380 := n10_
    have HO385 := n11_
    have BK347 := n12_
    have BK388 := n13_
    have HB := n14_
    clear n0_ n1_ n2_ n3_ n4_ n5_ n6_ n7_ n8_ n9_ n10_ n11_ n12_ n13_ n14_
    replace HO331 := Aside0.mk (Kd.R_drew HO331.out)
    replace HO335 := Aside0.mk (Kd.R_drew HO335.out)
    replace HO340 := Aside0.mk (Kd.S_drew HO340.out)
    replace HO345 := Aside0.mk (Kd.R_drew HO345.out)
    replace HO351 := Aside0.mk (Kd.R_drew HO351.out)
    replace HO355 := Aside0.mk (Kd.R_drew HO355.out)
    replace HO360 := Aside0.mk (Kd.S_drew HO360.out)
    replace HO365 := Aside0.mk (Kd.R_drew HO365.out)
    replace HO371 := Aside0.mk (Kd.R_drew HO371.out)
    replace HO375 := Aside0.mk (Kd.R_drew HO375.out)
    replace HO380 := Aside0.mk (Kd.S_drew HO380.out)
    replace HO385 := Aside0.mk (Kd.R_drew HO385.out)
    replace BK347 := Aside0.mk (blk_drew BK347.out)
    replace BK388 := Aside0.mk (blk_drew BK388.out)
    replace HB := Aside0.mk (below_drew1 HB.out)
    refine st 39 (b11 BK347) (fun hHeld => ?_); refine with_tabW laws_FnEndNew.tab8 laws_FnEndNew.bits8 (fun HT_ HW_ => ?_)
    generalize w123.drew = w124 at HO331 HO335 HO340 HO345 HO351 HO355 HO360 HO365 HO371 HO375 HO380 HO385 BK347 BK388 HB hHeld ⊢
    refine tk 0 (some 24) (bm 39 1) rfl rfl hHeld ?_
    refine one_ (i := 1) (N := some 25) (bm 39 3) rfl rfl (one_of HT_.out (by kernel_rfl)) (by decide) (fun K hK => ?_)
    refine gs Try.func33 #[.agg #[.bool t328, .slice Ao12 t329.length co12, .int .i64 t332, .slice Ao13 t333.length co13, .int .i64 t336, .string t337, .slice Ao14 t338.length co14, .int .i64 t341, .int .i64 t342, .slice Ao15 t343.length co15, .bool t346]] ?_
    with_reducible refine (impl_EndOk.calls k t328 _ _ t329 t332 _ _ t333 t336 t337 _ _ t338 t341 t342 _ _ t343 t346 false _ ?side1 ?side2 ?side3 ?side4 ?side5 ?side6 ?side7 ?side8 A26.out).mono ?_
    (case side1 => exact zc (Kd.R_reads' HO331.out).2.2)
    (case side2 => exact (Kd.R_reads' HO331.out).2.1)
    (case side3 => exact zc (Kd.R_reads' HO335.out).2.2)
    (case side4 => exact (Kd.R_reads' HO335.out).2.1)
    (case side5 => exact zc (Kd.S_reads' HO340.out).2.2)
    (case side6 => exact (Kd.S_reads' HO340.out).2.1)
    (case side7 => exact zc (Kd.R_reads' HO345.out).2.2)
    (case side8 => exact (Kd.R_reads' HO345.out).2.1)
    rintro e w125 ⟨rfl, hb⟩
    refine ⟨_, rfl, ?_⟩
    replace HO331 := Aside0.mk (Kd.R_below (zr HO331) hb)
    replace HO335 := Aside0.mk (Kd.R_below (zr HO335) hb)
    replace HO340 := Aside0.mk (Kd.S_below (by (with_reducible repeat (first | apply Kd.S_alloc | apply Kd.S_drewN | apply Kd.S_drew)); exact HO340.out) hb)
    replace HO345 := Aside0.mk (Kd.R_below (zr HO345) hb)
    replace HO351 := Aside0.mk (Kd.R_below (zr HO351) hb)
    replace HO355 := Aside0.mk (Kd.R_below (zr HO355) hb)
    replace HO360 := Aside0.mk (Kd.S_below (by (with_reducible repeat (first | apply Kd.S_alloc | apply Kd.S_drewN | apply Kd.S_drew)); exact HO360.out) hb)
    replace HO365 := Aside0.mk (Kd.R_below (zr HO365) hb)
    replace HO371 := Aside0.mk (Kd.R_below (zr HO371) hb)
    replace HO375 := Aside0.mk (Kd.R_below (zr HO375) hb)
    replace HO380 := Aside0.mk (Kd.S_below (by (with_reducible repeat (first | apply Kd.S_alloc | apply Kd.S_drewN | apply Kd.S_drew)); exact HO380.out) hb)
    replace HO385 := Aside0.mk (Kd.R_below (zr HO385) hb)
    replace BK347 := kb BK347 hb
    replace BK388 := kb BK388 hb
    replace HB := Aside0.mk (below_step (zb HB) hb)
    (try clear hb)
    refine hK.out _ _ (b11 BK347) (fun hHeld => ?_)
    clear hK K
    refine nm ?_
    refine pu 2 (some 26) (bm 39 7) rfl rfl ?_
    refine pv 3 (some 27) (bm 39 15) rfl rfl ?_
    refine pv 4 (some 28) (bm 39 31) rfl rfl ?_
    refine pv 5 (some 29) (bm 39 63) rfl rfl ?_
    refine pv 6 (some 30) (bm 39 127) rfl rfl ?_
    refine pu 7 (some 31) (bm 39 255) rfl rfl ?_
    refine pu 8 (some 32) (bm 39 511) rfl rfl ?_
    refine pv 9 (some 33) (bm 39 1023) rfl rfl ?_
    refine pv 10 (some 34) (bm 39 2047) rfl rfl ?_
    refine pu 11 (some 35) (bm 39 4095) rfl rfl ?_
    refine pu 12 (some 36) (bm 39 8191) rfl rfl ?_
    refine pv 13 (some 37) (bm 39 16383) rfl rfl ?_
    refine pv 14 (some 38) (bm 39 32767) rfl rfl ?_
    refine pv 15 (some 39) (bm 39 65535) rfl rfl ?_
    refine pu 16 (some 40) (bm 39 131071) rfl rfl ?_
    refine pu 17 (some 41) (bm 39 262143) rfl rfl ?_
    refine pv 18 (some 42) (bm 39 524287) rfl rfl ?_
    refine pv 19 (some 43) (bm 39 1048575) rfl rfl ?_
    refine pv 20 (some 44) (bm 39 2097151) rfl rfl ?_
    refine pu 21 (some 45) (bm 39 4194303) rfl rfl ?_
    refine pu 22 (some 46) (bm 39 8388607) rfl rfl ?_
    refine pv 23 (some 47) (bm 39 16777215) rfl rfl ?_
    refine pv 24 (some 48) (bm 39 33554431) rfl rfl ?_
    refine pv 25 (some 49) (bm 39 67108863) rfl rfl ?_
    refine pv 26 (some 50) (bm 39 134217727) rfl rfl ?_
    refine pu 27 (some 51) (bm 39 268435455) rfl rfl ?_
    refine pu 28 (some 52) (bm 39 536870911) rfl rfl ?_
    refine pv 29 (some 53) (bm 39 1073741823) rfl rfl ?_
    refine pv 30 (some 54) (bm 39 2147483647) rfl rfl ?_
    refine pv 31 (some 55) (bm 39 4294967295) rfl rfl ?_
    refine pv 32 (some 56) (bm 39 8589934591) rfl rfl ?_
    refine pv 33 (some 57) (bm 39 17179869183) rfl rfl ?_
    refine pv 34 (some 58) (bm 39 34359738367) rfl rfl ?_
    refine pv 35 (some 59) (bm 39 68719476735) rfl rfl ?_
    refine pv 36 (some 60) (bm 39 137438953471) rfl rfl ?_
    refine pu 37 (some 61) (bm 39 274877906943) rfl rfl ?_
    refine pu 38 (some 2) (bm 39 549755813887) rfl rfl ?_
    refine done_ (done_of HT_.out (by kernel_rfl)) ?_
    try go_wp2
    go_ret
    exact ⟨ze, zb HB⟩
  ·replace c24 := Bool.eq_false_iff.mpr c24
   subst c24
   rw [if_neg (show ¬ (false = true) by decide)] at H
   obtain rfl := Option.some.inj H
   go_wp2
   go_ret
   exact ⟨ze, zb HB⟩

/-- THE ONE PURE STATEMENT of laws_FnEndNew: yours. -/
def laws_FnEndNew.Pure : Prop := ∀ (l0 : List Int), l0.length ≤ maxLen → l0.length * 1 ≤ 140737488351232 → (∀ x ∈ l0, (Lit.int .u8 x).wf = true) → ∃ k, laws_FnEndNew.f k l0 = some true
theorem laws_FnEndNew.walk (P : laws_FnEndNew.Pure) (a0 : Option Addr) (len0 cap0 : Nat) (z0 : List Int) (w : World) (w0 : (a0 = none ∧ len0 = 0 ∧ cap0 = 0 ∧ z0 = []) ∨ ∃ x, a0 = some x ∧ len0 ≤ cap0 ∧ cap0 ≤ maxLen ∧ z0.length = cap0 ∧ (∀ i, i < z0.length → w.cell? (x.add i) = some (.int .u8 (z0.getD i 0))) ∧ ∀ n ∈ z0, (Lit.int .u8 n).wf = true) (y0 : len0 * 1 ≤ 140737488351232) :
  Calls Try.prog 6 #[.slice a0 len0 cap0] w fun e w' => e = .returned (.bool true) ∧ Below w.heap.size w w' := by
 obtain ⟨l0, rfl, hr0, hm0, hw0, hc0⟩ := ReadsInt.ofRowC w0
 obtain ⟨k, h⟩ := P l0 hm0 y0 hw0
 refine (laws_FnEndNew.calls k _ _ l0 true w (Kd.C_of_reads (d := (0 : Int)) (h1 := fun _ => rfl) hr0) hc0 h).mono ?_
 rintro e w' ⟨rfl, hd⟩
 exact ⟨rfl, hd⟩

end Go.Proofs.Ytlpibelofcabhaa.PFnEndNew
