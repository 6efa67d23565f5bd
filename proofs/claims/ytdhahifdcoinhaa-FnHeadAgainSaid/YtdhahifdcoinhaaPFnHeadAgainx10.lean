-- WRITTEN BY a turned print (wip/tools of the prover's repo)
import Derived.Test.YtdhahifdcoinhaaPFnHeadAgainx0
import Derived.Test.YtdhahifdcoinhaaPFnHeadAgainx3
import Derived.Test.YtdhahifdcoinhaaPFnHeadAgainx4
namespace Go.Proofs.Ytdhahifdcoinhaa.PFnHeadAgain
open Go.RowKit Go.Proofs.YtdhahifdcoinhaaW.PrintWords Go.Proofs.YtdhahifdcoinhaaW.PrintLast Go.Proofs.YtdhahifdcoinhaaW.PrintMore Go.Proofs.Ytdhahifdcoinhaa.Lm
attribute [local go_sem] max2_int min2_int max_two min_two max_three min_three max_four min_four   -- for this text's walks alone
set_option linter.unusedVariables false
set_option linter.unusedSimpArgs false

/-! ### impl_HeadOk: function 65 -/
-- thin
def impl_HeadOk.f (k : Nat) (l0 : List (S36)) : Option (Bool) := if (l0.length : Int) ≤ 6 then ((ContainsFunc_Field.f k l0 81).bind fun t409 => (some (!t409))) else (some false)
theorem impl_HeadOk.mono : ∀ a0 k, LeO (impl_HeadOk.f k a0) (impl_HeadOk.f (k + 1) a0) := by
 intro a0 k
 unfold impl_HeadOk.f
 repeat' first
   | (with_reducible exact ContainsFunc_Field.mono _ _ _)
   | (with_reducible exact LeO.refl _)
   | (with_reducible exact LeO.none _)
   | (with_reducible refine LeO.ite ?_ ?_)
   | (with_reducible refine LeO.bind ?_ (fun _ => ?_))
   | exact ContainsFunc_Field.mono _ _ _
   | exact LeO.none _
   | refine LeO.ite ?_ ?_
   | refine LeO.bind ?_ (fun _ => ?_)
set_option maxHeartbeats 8000000 in
set_option maxRecDepth 100000 in
theorem impl_HeadOk.calls (k : Nat) (A0 : Option Addr) (c0 : Nat) (l0 : List (S36)) (r : Bool) (w : World) (hr0 : Kd.C k36 w A0 l0.length l0) (hc0 : l0.length ≤ c0) (h : impl_HeadOk.f k l0 = some r) :
  Calls Try.prog 65 #[.slice A0 l0.length c0] w fun e w' => e = .returned (.bool r) ∧ Below w.heap.size w w' := by
 have HR0 := Aside0.mk hr0
 have HC0 := Aside0.mk hc0
 clear hr0 hc0
 have HB := Aside0.mk (Below.refl w.heap.size w)
 have H : (if (l0.length : Int) ≤ 6 then ((ContainsFunc_Field.f k l0 81).bind fun t409 => (some (!t409))) else (some false)) = some r := h
 clear h
 by_cases c2 : (l0.length : Int) ≤ 6
 ·rw [if_pos c2] at H
  have c2b0 : decide ((l0.length : Int) ≤ 6) = true := decide_eq_true c2
  have c2b1 : decide (l0.length ≤ 6) = true := decide_eq_true (by omega)
  clear c2
  replace H := Option.bind_eq_some_iff.mp H
  obtain ⟨t409, A30, H⟩ := H
  replace H : (some (!t409)) = some r := H
  have A3 := Aside0.mk A30
  clear A30
  obtain rfl := Option.some.inj H
  go_enter Try.func65, Try.ntmps65
  go_wp2_with (first | (go_at_call 53; (with_reducible refine (ContainsFunc_Field.calls k _ _ l0 81 t409 _ ?side1 ?side2 A3.out).mono ?_); (case side1 => exact zc HR0.out); (case side2 => exact HC0.out); rintro e w4 ⟨rfl, hb⟩; replace HB := Aside0.mk (below_step (zb HB) hb); (try clear hb)))
  go_ret
  exact ⟨ze, zb HB⟩
 ·rw [if_neg c2] at H
  have c2b0 : decide ((l0.length : Int) ≤ 6) = false := decide_eq_false c2
  have c2b1 : decide (l0.length ≤ 6) = false := decide_eq_false (by omega)
  clear c2
  obtain rfl := Option.some.inj H
  go_enter Try.func65, Try.ntmps65
  go_wp2
  go_ret
  exact ⟨ze, zb HB⟩

/-! ### impl_cloneFields: function 84 -/
-- by hand
/-- A row like the one that came in. -/
def impl_cloneFields.f (l0 : List (S36)) : Option (List (S36)) := if l0.length < 3518437208883 then some l0 else none
set_option maxHeartbeats 4000000 in
set_option maxRecDepth 100000 in
theorem impl_cloneFields.calls (A0 : Option Addr) (c0 : Nat) (l0 : List (S36)) (r : List (S36)) (w : World) (hr0 : Kd.C k36 w A0 l0.length l0) (hc0 : l0.length ≤ c0) (h : impl_cloneFields.f l0 = some r) :
    Calls Try.prog 84 #[.slice A0 l0.length c0] w fun e w' => ∃ v0_ : Value, e = .returned (v0_) ∧ Kd.R k36 36 w' w.heap.size (fun _ => True) v0_ r ∧ Below w.heap.size w w' := by
  unfold impl_cloneFields.f at h
  split at h
  case isFalse => cases h
  rename_i hl
  obtain rfl := Option.some.inj h
  clear h
  have HR0 := Aside0.mk hr0
  clear hr0
  go_enter Try.func84, Try.ntmps84
  go_wp2_with (first | (at_builtin; refine Kd.R_append_rows k36 (w0 := w) w.heap.size rfl (.const (.slice none 0 0)) (.tmp 3) 23 36 (.agg #[(.string ⟨#[]⟩), (.string ⟨#[]⟩), (.bool false)]) 40 rfl Try.underlying23 info36 rfl (by decide) (by omega) (.slice none 0 0) [] l0 _ _ _ (fun _ => True) (fun _ => False) rfl rfl ?aO ?aR (fun _ _ h => h) (fun _ h => h.elim) ?aF ?aB ?aS ?aL ?_; (case aR => exact HR0.out); (case aB => exact Below.refl _ _); (case aF => exact (fun _ _ => trivial)); (case aO => exact Kd.R_nil _ _ _ _ _); (case aS => exact Nat.le_refl _); (case aL => simp only [List.length_nil]; omega); intro v1 w1 ho hb hg hat; rw [List.nil_append] at ho; have N1 := Aside0.mk ho; have N2 := Aside0.mk hb; clear ho hb hg hat))
  go_ret
  exact ⟨_, rfl, N1.out, N2.out⟩

/-! ### impl_Table_clone: function 69 -/
-- thin
def impl_Table_clone.f (l0_0 : List (S36)) (a0_1 : Int) : Option ((List (S36)) × Int) := (impl_cloneFields.f l0_0).bind fun t412 => (some (t412, a0_1))
set_option maxHeartbeats 8000000 in
set_option maxRecDepth 100000 in
theorem impl_Table_clone.calls (A0_0 : Option Addr) (c0_0 : Nat) (l0_0 : List (S36)) (a0_1 : Int) (r1 : List (S36)) (r2 : Int) (w : World) (hr0_0 : Kd.C k36 w A0_0 l0_0.length l0_0) (hc0_0 : l0_0.length ≤ c0_0) (h : impl_Table_clone.f l0_0 a0_1 = some (r1, r2)) :
  Calls Try.prog 69 #[.agg #[.slice A0_0 l0_0.length c0_0, .int .i64 a0_1]] w fun e w' => ∃ v0_ : Value, e = .returned (.agg #[v0_, .int .i64 r2]) ∧ Kd.R k36 36 w' w.heap.size (fun _ => True) v0_ r1 ∧ Below w.heap.size w w' := by
 have hu25 := Try.underlying25
 have HR0_0 := Aside0.mk hr0_0
 have HC0_0 := Aside0.mk hc0_0
 clear hr0_0 hc0_0
 have HB := Aside0.mk (Below.refl w.heap.size w)
 have H : ((impl_cloneFields.f l0_0).bind fun t412 => (some (t412, a0_1))) = some (r1, r2) := h
 clear h
 replace H := Option.bind_eq_some_iff.mp H
 obtain ⟨t412, A20, H⟩ := H
 replace H : (some (t412, a0_1)) = some (r1, r2) := H
 have A2 := Aside0.mk A20
 clear A20
 simp only [Option.some.injEq, Prod.mk.injEq] at H
 obtain ⟨rfl, rfl⟩ := H
 go_enter Try.func69, Try.ntmps69
 try go_wp2_with (first | ((with_reducible refine gd 1 rfl ?_); refine bx (N := 1) (cs := #[.slice A0_0 l0_0.length c0_0, .int .i64 a0_1]) (t := 25) ?_; intro gb410 hg w3 hbox hb; have BK410 := Aside0.mk (hbox); have GW410 := Aside0.mk ((by rw [hg]; exact (below_size (zb HB)) : w.heap.size ≤ gb410)); have GE410 := Aside0.mk ((by rw [hg]; exact (below_size (zb HB)) : w.heap.size ≤ gb410)); replace HB := Aside0.mk (below_step (zb HB) hb); clear hb hbox hg) | ((with_reducible refine gd 2 rfl ?_); refine bx (N := 2) (cs := #[.slice none 0 0, .int .i64 0]) (t := 25) ?_; intro gb411 hg w4 hbox hb; have BK411 := Aside0.mk (hbox); have GW411 := Aside0.mk ((by rw [hg]; exact (below_size (zb HB)) : w.heap.size ≤ gb411)); have GE411 := Aside0.mk ((by rw [hg]; exact (below_size (zb HB)) : w.heap.size ≤ gb411)); replace HB := Aside0.mk (below_step (zb HB) hb); have NB410_411 := Aside0.mk ((by rw [hg]; exact Nat.ne_of_lt (blk_lt (g := gb410) (o := .cells #[.slice A0_0 l0_0.length c0_0, .int .i64 a0_1] 25 (0, 0)) (zk BK410)) : gb410 ≠ gb411)); have NB411_410 := Aside0.mk ((by rw [hg]; exact Nat.ne_of_gt (blk_lt (g := gb410) (o := .cells #[.slice A0_0 l0_0.length c0_0, .int .i64 a0_1] 25 (0, 0)) (zk BK410)) : gb411 ≠ gb410)); replace BK410 := Aside0.mk (blk_below (g := gb410) (o := .cells #[.slice A0_0 l0_0.length c0_0, .int .i64 a0_1] 25 (0, 0)) (zk BK410) hb); clear hb hbox hg))
 replace BK410 := Aside0.mk (blk_drew BK410.out)
 replace BK411 := Aside0.mk (blk_drew BK411.out)
 replace HB := Aside0.mk (below_drew1 HB.out)
 refine start_ (n := 7) (S := fun w' => w'.cell? ⟨gb410, 0, none⟩ = some (.slice A0_0 l0_0.length c0_0) ∧ w'.cell? ⟨gb410, 1, none⟩ = some (.int .i64 a0_1)) (ds := []) #[false, false, false, false, false, false, false] (by kernel_rfl) rfl rfl ⟨(blk_cell BK410.out 0).trans rfl, (blk_cell BK410.out 1).trans rfl⟩ (fun hHeld => ?_)
 generalize w4.drew = w5 at BK410 BK411 HB hHeld ⊢
 refine pu 0 (some 3) (bm 7 1) rfl rfl ?_
 refine pu 3 (some 6) (bm 7 9) rfl rfl ?_
 refine tk2 1 (some 4) (bm 7 11) rfl rfl hHeld ?_
 refine tk2 4 (some 7) (bm 7 27) rfl rfl hHeld ?_
 refine one_ (i := 2) (N := some 5) (bm 7 31) rfl rfl (by kernel_rfl) (by decide) (fun K hK => ?_)
 refine gs Try.func84 #[.slice A0_0 l0_0.length c0_0] ?_
 with_reducible refine (impl_cloneFields.calls _ _ l0_0 t412 _ ?side1 ?side2 A2.out).mono ?_
 (case side1 => exact zc (Kd.C_below HR0_0.out HB.out))
 (case side2 => exact HC0_0.out)
 rintro e w6 ⟨v413, rfl, ho0, hb⟩
 refine ⟨_, rfl, ?_⟩
 have HO414 := Aside0.mk (Kd.R_lower ho0 (below_size (zb HB)))
 replace BK410 := Aside0.mk (blk_below (g := gb410) (o := .cells #[.slice A0_0 l0_0.length c0_0, .int .i64 a0_1] 25 (0, 0)) (zk BK410) hb)
 replace BK411 := Aside0.mk (blk_below (g := gb411) (o := .cells #[.slice none 0 0, .int .i64 0] 25 (0, 0)) (zk BK411) hb)
 replace HB := Aside0.mk (below_step (zb HB) hb)
 (try clear hb)
 (try clear ho0)
 obtain ⟨Ao7, co7, eo7⟩ := Kd.R_slice HO414.out
 (first | subst eo7 | (injection eo7 with f1_ f2_ f3_; have f4_ := f1_.symm; have f5_ := f3_.symm; clear f1_ f2_ f3_; subst f4_; subst f5_))
 refine hK.out _ _ ⟨(blk_cell BK410.out 0).trans rfl, (blk_cell BK410.out 1).trans rfl⟩ (fun hHeld => ?_)
 clear hK K
 refine nm ?_
 refine pu 5 (some 8) (bm 7 63) rfl rfl ?_
 refine one_ (i := 6) (N := none) (bm 7 127) rfl rfl (by kernel_rfl) (by decide) (fun K hK => ?_)
 have hs8 : w6.cell? ⟨gb411, 0, none⟩ = some (.slice none 0 0) := (blk_cell BK411.out 0).trans rfl
 have hfs8 := blk_frozen BK411.out 0
 have hns8_0 := NB410_411.out
 have hms8_0 := NB411_410.out
 have hs9 : w6.cell? ⟨gb411, 1, none⟩ = some (.int .i64 0) := (blk_cell BK411.out 1).trans rfl
 have hfs9 := blk_frozen BK411.out 1
 have hns9_0 := NB410_411.out
 have hms9_0 := NB411_410.out
 refine skip_ (w1 := ?_) (by rfl) rfl ?_ ?_
 rotate_left
 ·go_simp
  rfl
 refine hK.out _ _ ⟨((cell_far (p := ⟨gb411, _, none⟩) NB410_411.out _).trans (((cell_far (p := ⟨gb411, _, none⟩) NB410_411.out _).trans (hHeld.1)))), ((cell_far (p := ⟨gb411, _, none⟩) NB410_411.out _).trans (((cell_far (p := ⟨gb411, _, none⟩) NB410_411.out _).trans (hHeld.2))))⟩ (fun hHeld => ?_)
 clear hK K
 refine done_ (by kernel_rfl) ?_
 try go_wp2
 refine bodyPost_ret (results_cell_row rfl _ _ gb411 25 #[.slice Ao7 t412.length co7, .int .i64 a0_1] (0, 0) _ rfl (by (with_reducible repeat (first | refine blk_drewN ?_ _ | refine blk_drew ?_ | refine blk_alloc ?_ _)); refine blk_put (cs := #[.slice Ao7 t412.length co7, .int .i64 0]) ?_ 1 _ rfl; (with_reducible repeat (first | refine blk_drewN ?_ _ | refine blk_drew ?_ | refine blk_alloc ?_ _)); refine blk_put (cs := #[.slice none 0 0, .int .i64 0]) ?_ 0 _ rfl; exact zk BK411) Try.underlying25 rfl (by kernel_rfl)) rfl ?_
 exact ⟨_, ze, by (with_reducible repeat (first | apply Kd.R_alloc | apply Kd.R_drewN | apply Kd.R_drew)); exact Kd.R_mono (Kd.R_far (p := ⟨gb411, 1, none⟩) (Kd.R_far (p := ⟨gb411, 0, none⟩) (Kd.R_types HO414.out BK411.out (by decide)) (fun _ hk => hk.2) (.slice Ao7 t412.length co7)) (fun _ hk => hk.2) (.int .i64 a0_1)) (fun _ hk => trivial), zb HB⟩

/-! ### impl_Table_fit: function 49 -/
-- thin
def impl_Table_fit.l0 : Nat → List (S36) → Int → Option ((List (S36)) × Int)
 | 0, _, _ => none
 | k + 1, x422000, x422001 => (impl_Table_size.f k x422000 x422001).bind fun t422 => (if t422 > x422001 then (if 0 ≤ (wrap64 ((x422000.length : Int) - 1)) then (if (wrap64 ((x422000.length : Int) - 1)) ≤ (x422000.length : Int) then (impl_Table_fit.l0 k (x422000.take ((wrap64 ((x422000.length : Int) - 1)) : Int).toNat) x422001) else (none)) else (none)) else ((impl_Table_clone.f x422000 x422001).bind fun bt426 => (some (bt426.1, bt426.2))))
def impl_Table_fit.f (k : Nat) (l0_0 : List (S36)) (a0_1 : Int) : Option ((List (S36)) × Int) := (impl_Table_clone.f l0_0 a0_1).bind fun bt417 => (impl_Table_fit.l0 k bt417.1 bt417.2)
theorem impl_Table_fit.mono_l : ∀ k, (∀ y0 y1, LeO (impl_Table_fit.l0 k y0 y1) (impl_Table_fit.l0 (k + 1) y0 y1))
 | 0 => fun _ _ r h => by simp [impl_Table_fit.l0] at h
 | k + 1 => by
  have ih0 := impl_Table_fit.mono_l k
  ·intro y0 y1
   unfold impl_Table_fit.l0
   repeat' first
   | (with_reducible exact ih0 _ _)
   | (with_reducible exact impl_Table_size.mono _ _ _)
   | (with_reducible exact LeO.refl _)
   | (with_reducible exact LeO.none _)
   | (with_reducible refine LeO.ite ?_ ?_)
   | (with_reducible refine LeO.bind ?_ (fun _ => ?_))
   | exact ih0 _ _
   | exact impl_Table_size.mono _ _ _
   | exact LeO.none _
   | refine LeO.ite ?_ ?_
   | refine LeO.bind ?_ (fun _ => ?_)
theorem impl_Table_fit.mono : ∀ a0 a1 k, LeO (impl_Table_fit.f k a0 a1) (impl_Table_fit.f (k + 1) a0 a1) := by
 intro a0 a1 k
 have ih0 := impl_Table_fit.mono_l k
 unfold impl_Table_fit.f
 repeat' first
   | (with_reducible exact ih0 _ _)
   | (with_reducible exact impl_Table_size.mono _ _ _)
   | (with_reducible exact LeO.refl _)
   | (with_reducible exact LeO.none _)
   | (with_reducible refine LeO.ite ?_ ?_)
   | (with_reducible refine LeO.bind ?_ (fun _ => ?_))
   | exact ih0 _ _
   | exact impl_Table_size.mono _ _ _
   | exact LeO.none _
   | refine LeO.ite ?_ ?_
   | refine LeO.bind ?_ (fun _ => ?_)
set_option maxHeartbeats 8000000 in
set_option maxRecDepth 100000 in
theorem impl_Table_fit.calls (k : Nat) (A0_0 : Option Addr) (c0_0 : Nat) (l0_0 : List (S36)) (a0_1 : Int) (r1 : List (S36)) (r2 : Int) (w : World) (hr0_0 : Kd.C k36 w A0_0 l0_0.length l0_0) (hc0_0 : l0_0.length ≤ c0_0) (h : impl_Table_fit.f k l0_0 a0_1 = some (r1, r2)) :
  Calls Try.prog 49 #[.agg #[.slice A0_0 l0_0.length c0_0, .int .i64 a0_1]] w fun e w' => ∃ v0_ : Value, e = .returned (.agg #[v0_, .int .i64 r2]) ∧ Kd.R k36 36 w' w.heap.size (fun _ => True) v0_ r1 ∧ Below w.heap.size w w' := by
 have hu25 := Try.underlying25
 have HR0_0 := Aside0.mk hr0_0
 have HC0_0 := Aside0.mk hc0_0
 clear hr0_0 hc0_0
 have HB := Aside0.mk (Below.refl w.heap.size w)
 have H : ((impl_Table_clone.f l0_0 a0_1).bind fun bt417 => (impl_Table_fit.l0 k bt417.1 bt417.2)) = some (r1, r2) := h
 clear h
 replace H := Option.bind_eq_some_iff.mp H
 obtain ⟨⟨t417, t420⟩, A20, H⟩ := H
 replace H : (impl_Table_fit.l0 k t417 t420) = some (r1, r2) := H
 have A2 := Aside0.mk A20
 clear A20
 have H' := Aside0.mk H
 clear H
 go_enter Try.func49, Try.ntmps49
 go_wp2_with (first | ((with_reducible refine gd 1 rfl ?_); refine bx (N := 1) (cs := #[.slice A0_0 l0_0.length c0_0, .int .i64 a0_1]) (t := 25) ?_; intro gb415 hg w3 hbox hb; have BK415 := Aside0.mk (hbox); have GW415 := Aside0.mk ((by rw [hg]; exact (below_size (zb HB)) : w.heap.size ≤ gb415)); have GE415 := Aside0.mk ((by rw [hg]; exact (below_size (zb HB)) : w.heap.size ≤ gb415)); replace HB := Aside0.mk (below_step (zb HB) hb); clear hb hbox hg) | ((with_reducible refine gd 2 rfl ?_); refine bx (N := 2) (cs := #[.slice none 0 0, .int .i64 0]) (t := 25) ?_; intro gb416 hg w4 hbox hb; have BK416 := Aside0.mk (hbox); have GW416 := Aside0.mk ((by rw [hg]; exact (below_size (zb HB)) : w.heap.size ≤ gb416)); have GE416 := Aside0.mk ((by rw [hg]; exact (below_size (zb HB)) : w.heap.size ≤ gb416)); replace HB := Aside0.mk (below_step (zb HB) hb); have NB415_416 := Aside0.mk ((by rw [hg]; exact Nat.ne_of_lt (blk_lt (g := gb415) (o := .cells #[.slice A0_0 l0_0.length c0_0, .int .i64 a0_1] 25 (0, 0)) (zk BK415)) : gb415 ≠ gb416)); have NB416_415 := Aside0.mk ((by rw [hg]; exact Nat.ne_of_gt (blk_lt (g := gb415) (o := .cells #[.slice A0_0 l0_0.length c0_0, .int .i64 a0_1] 25 (0, 0)) (zk BK415)) : gb416 ≠ gb415)); replace BK415 := Aside0.mk (blk_below (g := gb415) (o := .cells #[.slice A0_0 l0_0.length c0_0, .int .i64 a0_1] 25 (0, 0)) (zk BK415) hb); clear hb hbox hg; have hnb5 := NB415_416.out; have hnc5 := NB416_415.out; have hcz6_0 : w4.cell? ⟨gb415, 0, none⟩ = some (.slice A0_0 l0_0.length c0_0) := (blk_cell BK415.out 0).trans rfl; have hcz6_1 : w4.cell? ⟨gb415, 1, none⟩ = some (.int .i64 a0_1) := (blk_cell BK415.out 1).trans rfl; have hfz6_0 := blk_frozen BK415.out 0; have hfz6_1 := blk_frozen BK415.out 1) | ((with_reducible refine gq 69 rfl ?_); refine gl (some 5) Try.func69 #[.agg #[.slice A0_0 l0_0.length c0_0, .int .i64 a0_1]] ?_; (with_reducible refine (impl_Table_clone.calls _ _ l0_0 a0_1 t417 t420 _ ?side1 ?side2 A2.out).mono ?_); (case side1 => exact zc (Kd.C_below HR0_0.out HB.out)); (case side2 => exact HC0_0.out); rintro e w7 ⟨v418, rfl, ho0, hb⟩; refine ⟨_, rfl, ?_⟩; have HO419 := Aside0.mk (Kd.R_lower ho0 (below_size (zb HB))); replace BK415 := Aside0.mk (blk_below (g := gb415) (o := .cells #[.slice A0_0 l0_0.length c0_0, .int .i64 a0_1] 25 (0, 0)) (zk BK415) hb); replace BK416 := Aside0.mk (blk_below (g := gb416) (o := .cells #[.slice none 0 0, .int .i64 0] 25 (0, 0)) (zk BK416) hb); replace HB := Aside0.mk (below_step (zb HB) hb); (try clear hb); (try clear ho0)) | ((with_reducible refine gd 3 rfl ?_); refine bx (N := 3) (cs := #[.slice none 0 0, .int .i64 0]) (t := 25) ?_; intro gb421 hg w8 hbox hb; replace HO419 := Aside0.mk (Kd.R_below (zr HO419) hb); have BK421 := Aside0.mk (hbox); have GW421 := Aside0.mk ((by rw [hg]; exact (below_size (zb HB)) : w.heap.size ≤ gb421)); have GE421 := Aside0.mk ((by rw [hg]; exact (below_size (zb HB)) : w.heap.size ≤ gb421)); replace HB := Aside0.mk (below_step (zb HB) hb); have NB415_421 := Aside0.mk ((by rw [hg]; exact Nat.ne_of_lt (blk_lt (g := gb415) (o := .cells #[.slice A0_0 l0_0.length c0_0, .int .i64 a0_1] 25 (0, 0)) (zk BK415)) : gb415 ≠ gb421)); have NB421_415 := Aside0.mk ((by rw [hg]; exact Nat.ne_of_gt (blk_lt (g := gb415) (o := .cells #[.slice A0_0 l0_0.length c0_0, .int .i64 a0_1] 25 (0, 0)) (zk BK415)) : gb421 ≠ gb415)); replace BK415 := Aside0.mk (blk_below (g := gb415) (o := .cells #[.slice A0_0 l0_0.length c0_0, .int .i64 a0_1] 25 (0, 0)) (zk BK415) hb); have NB416_421 := Aside0.mk ((by rw [hg]; exact Nat.ne_of_lt (blk_lt (g := gb416) (o := .cells #[.slice none 0 0, .int .i64 0] 25 (0, 0)) (zk BK416)) : gb416 ≠ gb421)); have NB421_416 := Aside0.mk ((by rw [hg]; exact Nat.ne_of_gt (blk_lt (g := gb416) (o := .cells #[.slice none 0 0, .int .i64 0] 25 (0, 0)) (zk BK416)) : gb421 ≠ gb416)); replace BK416 := Aside0.mk (blk_below (g := gb416) (o := .cells #[.slice none 0 0, .int .i64 0] 25 (0, 0)) (zk BK416) hb); clear hb hbox hg; obtain ⟨Ao9, co9, eo9⟩ := Kd.R_slice HO419.out; subst eo9; have hnb10 := NB421_415.out; have hnc10 := NB415_421.out; have hnb11 := NB421_416.out; have hnc11 := NB416_421.out; have hcz12_0 : w8.cell? ⟨gb421, 0, none⟩ = some (.slice none 0 0) := (blk_cell BK421.out 0).trans rfl; have hcz12_1 : w8.cell? ⟨gb421, 1, none⟩ = some (.int .i64 0) := (blk_cell BK421.out 1).trans rfl; have hfz12_0 := blk_frozen BK421.out 0; have hfz12_1 := blk_frozen BK421.out 1))
 go_loopg [] k (fun kq w' => ∃ (x422000_1 : List (S36)) (u422000 : Value), Aside0 (impl_Table_fit.l0 kq x422000_1 t420 = some (r1, r2)) ∧ Aside0 (kq ≤ k) ∧ Aside0 (Kd.R k36 36 w' w.heap.size (fun _ => True) u422000 x422000_1) ∧ Aside0 (w'.heap[gb415]? = some (.cells #[(.slice A0_0 l0_0.length c0_0), .int .i64 a0_1] 25 (0, 0))) ∧ Aside0 (w'.heap[gb416]? = some (.cells #[(.slice none 0 0), .int .i64 0] 25 (0, 0))) ∧ Aside0 (w'.heap[gb421]? = some (.cells #[u422000, .int .i64 t420] 25 (0, 0))) ∧ Aside0 (Below w.heap.size w w'))
 case atStart => exact ⟨(t417), (.slice Ao9 t417.length co9), H', ⟨Nat.le_refl _⟩, ⟨by (with_reducible repeat (first | apply Kd.R_alloc | apply Kd.R_drewN | apply Kd.R_drew)); exact Kd.R_mono (Kd.R_far (p := ⟨gb421, 1, none⟩) (Kd.R_far (p := ⟨gb421, 0, none⟩) (Kd.R_types HO419.out BK421.out (by decide)) (fun _ hk => hk.2) (.slice Ao9 t417.length co9)) (fun _ hk => hk.2) (.int .i64 t420)) (fun _ hk => trivial)⟩, ⟨by (with_reducible repeat (first | refine blk_drewN ?_ _ | refine blk_drew ?_ | refine blk_alloc ?_ _)); refine blk_far ?_ NB415_421.out _; (with_reducible repeat (first | refine blk_drewN ?_ _ | refine blk_drew ?_ | refine blk_alloc ?_ _)); refine blk_far ?_ NB415_421.out _; exact zk BK415⟩, ⟨by (with_reducible repeat (first | refine blk_drewN ?_ _ | refine blk_drew ?_ | refine blk_alloc ?_ _)); refine blk_far ?_ NB416_421.out _; (with_reducible repeat (first | refine blk_drewN ?_ _ | refine blk_drew ?_ | refine blk_alloc ?_ _)); refine blk_far ?_ NB416_421.out _; exact zk BK416⟩, ⟨by (with_reducible repeat (first | refine blk_drewN ?_ _ | refine blk_drew ?_ | refine blk_alloc ?_ _)); refine blk_put (cs := #[.slice Ao9 t417.length co9, .int .i64 0]) ?_ 1 _ rfl; (with_reducible repeat (first | refine blk_drewN ?_ _ | refine blk_drew ?_ | refine blk_alloc ?_ _)); refine blk_put (cs := #[.slice none 0 0, .int .i64 0]) ?_ 0 _ rfl; exact zk BK421⟩, ⟨zb HB⟩⟩
 case round =>
  clear H'
  try clear c1
  try clear p2
  try clear c4
  try clear c5
  try clear c6
  try clear c10
  try clear c11
  try clear hcz12_0
  try clear hcz12_1
  try clear hcz6_0
  try clear hcz6_1
  try clear hfz12_0
  try clear hfz12_1
  try clear hfz6_0
  try clear hfz6_1
  obtain ⟨x422000_1, u422000, HA, HK1, HO_422000, BK415, BK416, BK421, HB⟩ := hrel
  cases gk with
  | zero => exact absurd HA.out (by simp [impl_Table_fit.l0])
  | succ k1 =>
   have H := HA.out
   clear HA
   simp only [impl_Table_fit.l0] at H
   replace H := Option.bind_eq_some_iff.mp H
   obtain ⟨t422, A130, H⟩ := H
   replace H : (if t422 > t420 then (if 0 ≤ (wrap64 ((x422000_1.length : Int) - 1)) then (if (wrap64 ((x422000_1.length : Int) - 1)) ≤ (x422000_1.length : Int) then (impl_Table_fit.l0 k1 (x422000_1.take ((wrap64 ((x422000_1.length : Int) - 1)) : Int).toNat) t420) else (none)) else (none)) else ((impl_Table_clone.f x422000_1 t420).bind fun bt426 => (some (bt426.1, bt426.2)))) = some (r1, r2) := H
   have A13 := Aside0.mk A130
   clear A130
   by_cases c14 : t422 > t420
   ·rw [if_pos c14] at H
    have c14b0 : decide (t420 < t422) = true := decide_eq_true c14
    clear c14
    obtain ⟨ji15, hji15⟩ : ∃ j_ : Int, (wrap64 ((x422000_1.length : Int) - 1)) = j_ := ⟨_, rfl⟩
    replace H : (if 0 ≤ (ji15) then (if (ji15) ≤ (x422000_1.length : Int) then (impl_Table_fit.l0 k1 (x422000_1.take ((ji15) : Int).toNat) t420) else (none)) else (none)) = some (r1, r2) := by first | (rw [hji15] at H; exact H) | (simp only [hji15] at H ⊢; exact H)
    (try rw [hji15] at A13)
    have hji15w : (IntKind.i64.wrap ((x422000_1.length : Int) - 1)) = ji15 := (i64_w _).trans hji15
    by_cases c16 : 0 ≤ (ji15)
    ·rw [if_pos c16] at H
     have c16b0 := eq_true c16
     have c16b1 : decide (0 ≤ (ji15)) = true := decide_eq_true c16
     clear c16
     by_cases c17 : (ji15) ≤ (x422000_1.length : Int)
     ·rw [if_pos c17] at H
      have c17b0 := eq_true c17
      have c17b1 : decide ((ji15) ≤ (x422000_1.length : Int)) = true := decide_eq_true c17
      clear c17
      obtain ⟨y423, hy423⟩ : ∃ y_ : List (S36), y_ = (x422000_1.take ((ji15) : Int).toNat) := ⟨_, rfl⟩
      replace H : (impl_Table_fit.l0 k1 y423 t420) = some (r1, r2) := by first | (rw [hy423]; with_reducible exact H) | (have H2_ := (Option.bind_some _ _).symm.trans H; rw [hy423]; with_reducible exact H2_) | (have H2_ := (Option.bind_some _ _).symm.trans H; with_reducible exact H2_) | with_reducible exact H | (rw [hy423]; exact H) | exact H
      have Ny423 := Aside0.mk hy423
      clear hy423
      have H' := Aside0.mk H
      clear H
      try go_wp2
      replace HO_422000 := Aside0.mk (Kd.R_drew HO_422000.out)
      replace BK415 := Aside0.mk (blk_drew BK415.out)
      replace BK416 := Aside0.mk (blk_drew BK416.out)
      replace BK421 := Aside0.mk (blk_drew BK421.out)
      replace HB := Aside0.mk (below_drew1 HB.out)
      obtain ⟨Ao19, co19, eo19⟩ := Kd.R_slice HO_422000.out
      (first | subst eo19 | (injection eo19 with f1_ f2_ f3_; have f4_ := f1_.symm; have f5_ := f3_.symm; clear f1_ f2_ f3_; subst f4_; subst f5_))
      refine start_ (n := 5) (S := fun w' => w'.cell? ⟨gb421, 0, none⟩ = some (.slice Ao19 x422000_1.length co19) ∧ w'.cell? ⟨gb421, 1, none⟩ = some (.int .i64 t420)) (ds := []) #[false, false, false, false, false] (by kernel_rfl) rfl rfl ⟨(blk_cell BK421.out 0).trans rfl, (blk_cell BK421.out 1).trans rfl⟩ (fun hHeld => ?_)
      generalize wr.drew = w18 at HO_422000 BK415 BK416 BK421 HB hHeld ⊢
      refine pu 2 (some 8) (bm 5 4) rfl rfl ?_
      refine tk2 0 (some 6) (bm 5 5) rfl rfl hHeld ?_
      refine tk2 3 (some 9) (bm 5 13) rfl rfl hHeld ?_
      refine one_ (i := 1) (N := some 7) (bm 5 15) rfl rfl (by kernel_rfl) (by decide) (fun K hK => ?_)
      refine gs Try.func56 #[.agg #[.slice Ao19 x422000_1.length co19, .int .i64 t420]] ?_
      with_reducible refine (impl_Table_size.calls k1 _ _ x422000_1 t420 t422 _ ?side1 ?side2 A13.out).mono ?_
      (case side1 => exact zc (Kd.R_reads' HO_422000.out).2.2)
      (case side2 => exact (Kd.R_reads' HO_422000.out).2.1)
      rintro e w20 ⟨rfl, hb⟩
      refine ⟨_, rfl, ?_⟩
      replace HO_422000 := Aside0.mk (Kd.R_below (zr HO_422000) hb)
      replace BK415 := Aside0.mk (blk_below (g := gb415) (o := .cells #[.slice A0_0 l0_0.length c0_0, .int .i64 a0_1] 25 (0, 0)) (zk BK415) hb)
      replace BK416 := Aside0.mk (blk_below (g := gb416) (o := .cells #[.slice none 0 0, .int .i64 0] 25 (0, 0)) (zk BK416) hb)
      replace BK421 := Aside0.mk (blk_below (g := gb421) (o := .cells #[.slice Ao19 x422000_1.length co19, .int .i64 t420] 25 (0, 0)) (zk BK421) hb)
      replace HB := Aside0.mk (below_step (zb HB) hb)
      (try clear hb)
      refine hK.out _ _ ⟨(blk_cell BK421.out 0).trans rfl, (blk_cell BK421.out 1).trans rfl⟩ (fun hHeld => ?_)
      clear hK K
      refine nm ?_
      refine pu 4 (some 10) (bm 5 31) rfl rfl ?_
      refine done_ (by kernel_rfl) ?_
      have hnb21 := NB421_415.out
      have hnc21 := NB415_421.out
      have hnb22 := NB421_416.out
      have hnc22 := NB416_421.out
      have hcz23_0 : w20.cell? ⟨gb421, 0, none⟩ = some (.slice Ao19 x422000_1.length co19) := (blk_cell BK421.out 0).trans rfl
      have hcz23_1 : w20.cell? ⟨gb421, 1, none⟩ = some (.int .i64 t420) := (blk_cell BK421.out 1).trans rfl
      have hfz23_0 := blk_frozen BK421.out 0
      have hfz23_1 := blk_frozen BK421.out 1
      have q24 : ((ji15) : Int) ≤ ((x422000_1.length : Int) : Int) := of_decide_eq_true za
      obtain ⟨i024, hi024, _, hsz24, _⟩ := info_parts info36
      have hcut24 := cut_to (P := Try.prog) 23 36 .i64 Try.underlying23 hi024 Ao19 x422000_1.length co19 (ji15) (of_decide_eq_true za) q24 (Kd.R_reads' HO_422000.out).2.1
      have hr24 := Kd.R_take (m := ((ji15) : Int).toNat) HO_422000.out (by omega)
      have hy24 : y423.length = ((ji15) : Int).toNat := (by rw [Ny423.out, List.length_take]; omega)
      rw [← Ny423.out] at hr24
      rw [← hy24] at hr24 hcut24
      clear hy24 hi024 hsz24 HO_422000
      have HO425 := Aside0.mk hr24
      clear hr24
      replace q24 := eq_true q24
      try go_wp2
      go_roundg k1
      case measure => have := HK1.out; omega
      case rel => exact ⟨(y423), (.slice Ao19 y423.length co19), H', ⟨by have := HK1.out; omega⟩, ⟨by (with_reducible repeat (first | apply Kd.R_alloc | apply Kd.R_drewN | apply Kd.R_drew)); exact Kd.R_mono (Kd.R_far (p := ⟨gb421, 0, none⟩) (Kd.R_types HO425.out BK421.out (by decide)) (fun _ hk => hk.2) (.slice Ao19 y423.length co19)) (fun _ hk => trivial)⟩, ⟨by (with_reducible repeat (first | refine blk_drewN ?_ _ | refine blk_drew ?_ | refine blk_alloc ?_ _)); refine blk_far ?_ NB415_421.out _; exact zk BK415⟩, ⟨by (with_reducible repeat (first | refine blk_drewN ?_ _ | refine blk_drew ?_ | refine blk_alloc ?_ _)); refine blk_far ?_ NB416_421.out _; exact zk BK416⟩, ⟨by (with_reducible repeat (first | refine blk_drewN ?_ _ | refine blk_drew ?_ | refine blk_alloc ?_ _)); refine blk_put (cs := #[.slice Ao19 x422000_1.length co19, .int .i64 t420]) ?_ 0 _ rfl; exact zk BK421⟩, ⟨zb HB⟩⟩
     ·rw [if_neg c17] at H
      exact absurd H (by simp)
    ·rw [if_neg c16] at H
     exact absurd H (by simp)
   ·rw [if_neg c14] at H
    have c14b0 : decide (t420 < t422) = false := decide_eq_false c14
    clear c14
    replace H := Option.bind_eq_some_iff.mp H
    obtain ⟨⟨t426, t429⟩, A250, H⟩ := H
    replace H : (some (t426, t429)) = some (r1, r2) := H
    have A25 := Aside0.mk A250
    clear A250
    simp only [Option.some.injEq, Prod.mk.injEq] at H
    obtain ⟨rfl, rfl⟩ := H
    try go_wp2
    replace HO_422000 := Aside0.mk (Kd.R_drew HO_422000.out)
    replace BK415 := Aside0.mk (blk_drew BK415.out)
    replace BK416 := Aside0.mk (blk_drew BK416.out)
    replace BK421 := Aside0.mk (blk_drew BK421.out)
    replace HB := Aside0.mk (below_drew1 HB.out)
    obtain ⟨Ao27, co27, eo27⟩ := Kd.R_slice HO_422000.out
    (first | subst eo27 | (injection eo27 with f1_ f2_ f3_; have f4_ := f1_.symm; have f5_ := f3_.symm; clear f1_ f2_ f3_; subst f4_; subst f5_))
    refine start_ (n := 5) (S := fun w' => w'.cell? ⟨gb421, 0, none⟩ = some (.slice Ao27 x422000_1.length co27) ∧ w'.cell? ⟨gb421, 1, none⟩ = some (.int .i64 t420)) (ds := []) #[false, false, false, false, false] (by kernel_rfl) rfl rfl ⟨(blk_cell BK421.out 0).trans rfl, (blk_cell BK421.out 1).trans rfl⟩ (fun hHeld => ?_)
    generalize wr.drew = w26 at HO_422000 BK415 BK416 BK421 HB hHeld ⊢
    refine pu 2 (some 8) (bm 5 4) rfl rfl ?_
    refine tk2 0 (some 6) (bm 5 5) rfl rfl hHeld ?_
    refine tk2 3 (some 9) (bm 5 13) rfl rfl hHeld ?_
    refine one_ (i := 1) (N := some 7) (bm 5 15) rfl rfl (by kernel_rfl) (by decide) (fun K hK => ?_)
    refine gs Try.func56 #[.agg #[.slice Ao27 x422000_1.length co27, .int .i64 t420]] ?_
    with_reducible refine (impl_Table_size.calls k1 _ _ x422000_1 t420 t422 _ ?side1 ?side2 A13.out).mono ?_
    (case side1 => exact zc (Kd.R_reads' HO_422000.out).2.2)
    (case side2 => exact (Kd.R_reads' HO_422000.out).2.1)
    rintro e w28 ⟨rfl, hb⟩
    refine ⟨_, rfl, ?_⟩
    replace HO_422000 := Aside0.mk (Kd.R_below (zr HO_422000) hb)
    replace BK415 := Aside0.mk (blk_below (g := gb415) (o := .cells #[.slice A0_0 l0_0.length c0_0, .int .i64 a0_1] 25 (0, 0)) (zk BK415) hb)
    replace BK416 := Aside0.mk (blk_below (g := gb416) (o := .cells #[.slice none 0 0, .int .i64 0] 25 (0, 0)) (zk BK416) hb)
    replace BK421 := Aside0.mk (blk_below (g := gb421) (o := .cells #[.slice Ao27 x422000_1.length co27, .int .i64 t420] 25 (0, 0)) (zk BK421) hb)
    replace HB := Aside0.mk (below_step (zb HB) hb)
    (try clear hb)
    refine hK.out _ _ ⟨(blk_cell BK421.out 0).trans rfl, (blk_cell BK421.out 1).trans rfl⟩ (fun hHeld => ?_)
    clear hK K
    refine nm ?_
    refine pu 4 (some 10) (bm 5 31) rfl rfl ?_
    refine done_ (by kernel_rfl) ?_
    have hnb29 := NB421_415.out
    have hnc29 := NB415_421.out
    have hnb30 := NB421_416.out
    have hnc30 := NB416_421.out
    have hcz31_0 : w28.cell? ⟨gb421, 0, none⟩ = some (.slice Ao27 x422000_1.length co27) := (blk_cell BK421.out 0).trans rfl
    have hcz31_1 : w28.cell? ⟨gb421, 1, none⟩ = some (.int .i64 t420) := (blk_cell BK421.out 1).trans rfl
    have hfz31_0 := blk_frozen BK421.out 0
    have hfz31_1 := blk_frozen BK421.out 1
    try go_wp2_with (first | ((with_reducible refine gq 69 rfl ?_); refine gl (some 20) Try.func69 #[.agg #[.slice Ao27 x422000_1.length co27, .int .i64 t420]] ?_; (with_reducible refine (impl_Table_clone.calls _ _ x422000_1 t420 t426 t429 _ ?side1 ?side2 A25.out).mono ?_); (case side1 => exact zc (Kd.R_reads' HO_422000.out).2.2); (case side2 => exact (Kd.R_reads' HO_422000.out).2.1); rintro e w32 ⟨v427, rfl, ho0, hb⟩; refine ⟨_, rfl, ?_⟩; have HO428 := Aside0.mk (Kd.R_lower (Kd.R_new' ho0 (Kd.R_lt (zr HO_422000))) (below_size (zb HB))); replace HO_422000 := Aside0.mk (Kd.R_elder' (zr HO_422000) (Kd.R_base ho0) hb); replace BK415 := Aside0.mk (blk_below (g := gb415) (o := .cells #[.slice A0_0 l0_0.length c0_0, .int .i64 a0_1] 25 (0, 0)) (zk BK415) hb); replace BK416 := Aside0.mk (blk_below (g := gb416) (o := .cells #[.slice none 0 0, .int .i64 0] 25 (0, 0)) (zk BK416) hb); replace BK421 := Aside0.mk (blk_below (g := gb421) (o := .cells #[.slice Ao27 x422000_1.length co27, .int .i64 t420] 25 (0, 0)) (zk BK421) hb); replace HB := Aside0.mk (below_step (zb HB) hb); (try clear hb); (try clear ho0); obtain ⟨Ao33, co33, eo33⟩ := Kd.R_slice HO428.out; subst eo33; have hnb34 := NB416_415.out; have hnc34 := NB415_416.out; have hcz35_0 : w32.cell? ⟨gb416, 0, none⟩ = some (.slice none 0 0) := (blk_cell BK416.out 0).trans rfl; have hcz35_1 : w32.cell? ⟨gb416, 1, none⟩ = some (.int .i64 0) := (blk_cell BK416.out 1).trans rfl; have hfz35_0 := blk_frozen BK416.out 0; have hfz35_1 := blk_frozen BK416.out 1))
    refine bodyPost_ret (results_cell_row rfl _ _ gb416 25 #[.slice Ao33 t426.length co33, .int .i64 t429] (0, 0) _ rfl (by (with_reducible repeat (first | refine blk_drewN ?_ _ | refine blk_drew ?_ | refine blk_alloc ?_ _)); refine blk_put (cs := #[.slice Ao33 t426.length co33, .int .i64 0]) ?_ 1 _ rfl; (with_reducible repeat (first | refine blk_drewN ?_ _ | refine blk_drew ?_ | refine blk_alloc ?_ _)); refine blk_put (cs := #[.slice none 0 0, .int .i64 0]) ?_ 0 _ rfl; exact zk BK416) Try.underlying25 rfl (by kernel_rfl)) rfl ?_
    exact ⟨_, ze, by (with_reducible repeat (first | apply Kd.R_alloc | apply Kd.R_drewN | apply Kd.R_drew)); exact Kd.R_mono (Kd.R_far (p := ⟨gb416, 1, none⟩) (Kd.R_far (p := ⟨gb416, 0, none⟩) (Kd.R_types HO428.out BK416.out (by decide)) (fun _ hk => hk.2) (.slice Ao33 t426.length co33)) (fun _ hk => hk.2) (.int .i64 t429)) (fun _ hk => trivial), zb HB⟩

/-! ### impl_Table_add: function 59 -/
-- thin
def impl_Table_add.f (k : Nat) (l0_0 : List (S36)) (a0_1 : Int) (a1_0 : ByteArray) (a1_1 : ByteArray) (a1_2 : Bool) : Option ((List (S36)) × Int) := (Concat_Field.f (([(([(⟨a1_0, a1_1, a1_2⟩ : S36)] : List (S36))), l0_0] : List (List (S36))))).bind fun t439 => ((impl_Table_fit.f k t439 a0_1).bind fun bt442 => (some (bt442.1, bt442.2)))
theorem impl_Table_add.mono : ∀ a0 a1 a2 a3 a4 k, LeO (impl_Table_add.f k a0 a1 a2 a3 a4) (impl_Table_add.f (k + 1) a0 a1 a2 a3 a4) := by
 intro a0 a1 a2 a3 a4 k
 unfold impl_Table_add.f
 repeat' first
   | (with_reducible exact impl_Table_fit.mono _ _ _)
   | (with_reducible exact LeO.refl _)
   | (with_reducible exact LeO.none _)
   | (with_reducible refine LeO.ite ?_ ?_)
   | (with_reducible refine LeO.bind ?_ (fun _ => ?_))
   | exact impl_Table_fit.mono _ _ _
   | exact LeO.none _
   | refine LeO.ite ?_ ?_
   | refine LeO.bind ?_ (fun _ => ?_)
def impl_Table_add.T1 : Bool × List (List Nat × List Nat) := (true, [([], []), ([0], [0]), ([], []), ([2], [2]), ([1, 3], [1, 3]), ([4], [4]), ([], []), ([6], [6]), ([5, 7], [5, 7]), ([8, 5], [8]), ([9, 9, 0, 1, 2, 3, 4, 5, 6, 7, 8, 9], [9])])
def impl_Table_add.B1 : List Nat := [0, 1, 0, 4, 15, 31, 0, 64, 255, 511, 1023]
theorem impl_Table_add.tab1 : rtab .any (opsOf Try.f59 1) = impl_Table_add.T1 := by kernel_rfl
theorem impl_Table_add.bits1 : waitsOk impl_Table_add.T1.2 impl_Table_add.B1 = true := by kernel_rfl
set_option maxHeartbeats 8000000 in
set_option maxRecDepth 100000 in
theorem impl_Table_add.calls (k : Nat) (P0_0_ : Nat → Prop) (A0_0 : Option Addr) (c0_0 : Nat) (l0_0 : List (S36)) (a0_1 : Int) (a1_0 : ByteArray) (a1_1 : ByteArray) (a1_2 : Bool) (r1 : List (S36)) (r2 : Int) (w : World) (hs0_0 : Kd.V k36 36 w w.heap.size (fun k_ => P0_0_ k_) (.slice A0_0 l0_0.length c0_0) l0_0) (h : impl_Table_add.f k l0_0 a0_1 a1_0 a1_1 a1_2 = some (r1, r2)) :
  Calls Try.prog 59 #[.agg #[.slice A0_0 l0_0.length c0_0, .int .i64 a0_1], .agg #[.string a1_0, .string a1_1, .bool a1_2]] w fun e w' => ∃ v0_ : Value, e = .returned (.agg #[v0_, .int .i64 r2]) ∧ Kd.R k36 36 w' w.heap.size (fun k_ => (w.heap.size ≤ k_)) v0_ r1 ∧ Below w.heap.size w w' := by
 have hu25 := Try.underlying25
 have hu36 := Try.underlying36
 have HO0_0 := Aside0.mk (show Kd.V k36 36 w w.heap.size (fun k_ => (P0_0_ k_ ∨ w.heap.size ≤ k_)) (.slice A0_0 l0_0.length c0_0) l0_0 from Kd.V_mono hs0_0 (fun k_ hk => .inl hk))
 have HB := Aside0.mk (Below.refl w.heap.size w)
 have H : ((Concat_Field.f (([(([(⟨a1_0, a1_1, a1_2⟩ : S36)] : List (S36))), l0_0] : List (List (S36))))).bind fun t439 => ((impl_Table_fit.f k t439 a0_1).bind fun bt442 => (some (bt442.1, bt442.2)))) = some (r1, r2) := h
 clear h
 obtain ⟨y433, hy433⟩ : ∃ y_ : List (S36), y_ = (([(⟨a1_0, a1_1, a1_2⟩ : S36)] : List (S36))) := ⟨_, rfl⟩
 replace H : ((Concat_Field.f (([y433, l0_0] : List (List (S36))))).bind fun t439 => ((impl_Table_fit.f k t439 a0_1).bind fun bt442 => (some (bt442.1, bt442.2)))) = some (r1, r2) := by first | (rw [hy433]; with_reducible exact H) | (have H2_ := (Option.bind_some _ _).symm.trans H; rw [hy433]; with_reducible exact H2_) | (have H2_ := (Option.bind_some _ _).symm.trans H; with_reducible exact H2_) | with_reducible exact H | (rw [hy433]; exact H) | exact H
 have Ny433 := Aside0.mk hy433
 clear hy433
 obtain ⟨y436, hy436⟩ : ∃ y_ : List (List (S36)), y_ = (([y433, l0_0] : List (List (S36)))) := ⟨_, rfl⟩
 replace H : ((Concat_Field.f y436).bind fun t439 => ((impl_Table_fit.f k t439 a0_1).bind fun bt442 => (some (bt442.1, bt442.2)))) = some (r1, r2) := by first | (rw [hy436]; with_reducible exact H) | (have H2_ := (Option.bind_some _ _).symm.trans H; rw [hy436]; with_reducible exact H2_) | (have H2_ := (Option.bind_some _ _).symm.trans H; with_reducible exact H2_) | with_reducible exact H | (rw [hy436]; exact H) | exact H
 have Ny436 := Aside0.mk hy436
 clear hy436
 replace H := Option.bind_eq_some_iff.mp H
 obtain ⟨t439, A30, H⟩ := H
 replace H : ((impl_Table_fit.f k t439 a0_1).bind fun bt442 => (some (bt442.1, bt442.2))) = some (r1, r2) := H
 have A3 := Aside0.mk A30
 clear A30
 replace H := Option.bind_eq_some_iff.mp H
 obtain ⟨⟨t442, t445⟩, A40, H⟩ := H
 replace H : (some (t442, t445)) = some (r1, r2) := H
 have A4 := Aside0.mk A40
 clear A40
 simp only [Option.some.injEq, Prod.mk.injEq] at H
 obtain ⟨rfl, rfl⟩ := H
 go_enter Try.func59, Try.ntmps59
 try go_wp2_with (first | ((with_reducible refine gd 2 rfl ?_); refine bx (N := 2) (cs := #[.slice A0_0 l0_0.length c0_0, .int .i64 a0_1]) (t := 25) ?_; intro gb430 hg w5 hbox hb; replace HO0_0 := Aside0.mk (Kd.V_below (Kd.V_elderB (by (with_reducible repeat (first | apply Kd.V_alloc | apply Kd.V_drewN | apply Kd.V_drew)); exact HO0_0.out) gb430 (Nat.le_of_eq hg.symm)) hb); have BK430 := Aside0.mk (hbox); have GW430 := Aside0.mk ((by rw [hg]; exact (below_size (zb HB)) : w.heap.size ≤ gb430)); have GE430 := Aside0.mk ((by rw [hg]; exact (below_size (zb HB)) : w.heap.size ≤ gb430)); replace HB := Aside0.mk (below_step (zb HB) hb); clear hb hbox hg) | ((with_reducible refine gd 3 rfl ?_); refine bx (N := 3) (cs := #[.string a1_0, .string a1_1, .bool a1_2]) (t := 36) ?_; intro gb431 hg w6 hbox hb; replace HO0_0 := Aside0.mk (Kd.V_below (Kd.V_elderB (by (with_reducible repeat (first | apply Kd.V_alloc | apply Kd.V_drewN | apply Kd.V_drew)); exact HO0_0.out) gb431 (Nat.le_of_eq hg.symm)) hb); have BK431 := Aside0.mk (hbox); have GW431 := Aside0.mk ((by rw [hg]; exact (below_size (zb HB)) : w.heap.size ≤ gb431)); have GE431 := Aside0.mk ((by rw [hg]; exact (below_size (zb HB)) : w.heap.size ≤ gb431)); replace HB := Aside0.mk (below_step (zb HB) hb); have NB430_431 := Aside0.mk ((by rw [hg]; exact Nat.ne_of_lt (blk_lt (g := gb430) (o := .cells #[.slice A0_0 l0_0.length c0_0, .int .i64 a0_1] 25 (0, 0)) (zk BK430)) : gb430 ≠ gb431)); have NB431_430 := Aside0.mk ((by rw [hg]; exact Nat.ne_of_gt (blk_lt (g := gb430) (o := .cells #[.slice A0_0 l0_0.length c0_0, .int .i64 a0_1] 25 (0, 0)) (zk BK430)) : gb431 ≠ gb430)); replace BK430 := Aside0.mk (blk_below (g := gb430) (o := .cells #[.slice A0_0 l0_0.length c0_0, .int .i64 a0_1] 25 (0, 0)) (zk BK430) hb); clear hb hbox hg) | ((with_reducible refine gd 4 rfl ?_); refine bx (N := 4) (cs := #[.slice none 0 0, .int .i64 0]) (t := 25) ?_; intro gb432 hg w7 hbox hb; replace HO0_0 := Aside0.mk (Kd.V_below (Kd.V_elderB (by (with_reducible repeat (first | apply Kd.V_alloc | apply Kd.V_drewN | apply Kd.V_drew)); exact HO0_0.out) gb432 (Nat.le_of_eq hg.symm)) hb); have BK432 := Aside0.mk (hbox); have GW432 := Aside0.mk ((by rw [hg]; exact (below_size (zb HB)) : w.heap.size ≤ gb432)); have GE432 := Aside0.mk ((by rw [hg]; exact (below_size (zb HB)) : w.heap.size ≤ gb432)); replace HB := Aside0.mk (below_step (zb HB) hb); have NB430_432 := Aside0.mk ((by rw [hg]; exact Nat.ne_of_lt (blk_lt (g := gb430) (o := .cells #[.slice A0_0 l0_0.length c0_0, .int .i64 a0_1] 25 (0, 0)) (zk BK430)) : gb430 ≠ gb432)); have NB432_430 := Aside0.mk ((by rw [hg]; exact Nat.ne_of_gt (blk_lt (g := gb430) (o := .cells #[.slice A0_0 l0_0.length c0_0, .int .i64 a0_1] 25 (0, 0)) (zk BK430)) : gb432 ≠ gb430)); replace BK430 := Aside0.mk (blk_below (g := gb430) (o := .cells #[.slice A0_0 l0_0.length c0_0, .int .i64 a0_1] 25 (0, 0)) (zk BK430) hb); have NB431_432 := Aside0.mk ((by rw [hg]; exact Nat.ne_of_lt (blk_lt (g := gb431) (o := .cells #[.string a1_0, .string a1_1, .bool a1_2] 36 (0, 0)) (zk BK431)) : gb431 ≠ gb432)); have NB432_431 := Aside0.mk ((by rw [hg]; exact Nat.ne_of_gt (blk_lt (g := gb431) (o := .cells #[.string a1_0, .string a1_1, .bool a1_2] 36 (0, 0)) (zk BK431)) : gb432 ≠ gb431)); replace BK431 := Aside0.mk (blk_below (g := gb431) (o := .cells #[.string a1_0, .string a1_1, .bool a1_2] 36 (0, 0)) (zk BK431) hb); clear hb hbox hg))
 replace HO0_0 := Aside0.mk (Kd.V_drew HO0_0.out)
 replace BK430 := Aside0.mk (blk_drew BK430.out)
 replace BK431 := Aside0.mk (blk_drew BK431.out)
 replace BK432 := Aside0.mk (blk_drew BK432.out)
 replace HB := Aside0.mk (below_drew1 HB.out)
 refine start_ (n := 11) (S := fun w' => w'.cell? ⟨gb431, 0, none⟩ = some (.string a1_0) ∧ w'.cell? ⟨gb431, 1, none⟩ = some (.string a1_1) ∧ w'.cell? ⟨gb431, 2, none⟩ = some (.bool a1_2) ∧ w'.cell? ⟨gb430, 0, none⟩ = some (.slice A0_0 l0_0.length c0_0) ∧ w'.cell? ⟨gb430, 1, none⟩ = some (.int .i64 a0_1)) (ds := []) #[false, false, false, false, false, false, false, false, false, false, false] (by kernel_rfl) rfl rfl ⟨(blk_cell BK431.out 0).trans rfl, (blk_cell BK431.out 1).trans rfl, (blk_cell BK431.out 2).trans rfl, (blk_cell BK430.out 0).trans rfl, (blk_cell BK430.out 1).trans rfl⟩ (fun hHeld => ?_); refine with_tabW impl_Table_add.tab1 impl_Table_add.bits1 (fun HT_ HW_ => ?_)
 generalize w7.drew = w8 at HO0_0 BK430 BK431 BK432 HB hHeld ⊢
 refine pu 2 (some 7) (bm 11 4) rfl rfl ?_
 refine pu 6 (some 11) (bm 11 68) rfl rfl ?_
 refine tk5 0 (some 5) (bm 11 69) rfl rfl hHeld ?_
 refine tk5 3 (some 8) (bm 11 77) rfl rfl hHeld ?_
 refine tk5 7 (some 12) (bm 11 205) rfl rfl hHeld ?_
 refine one_ (i := 1) (N := some 6) (bm 11 207) rfl rfl (one_of HT_.out (by kernel_rfl)) (by decide) (fun K hK => ?_)
 refine Kd.R_lit_step k36 _ 36 ?hg (N := 6) ?hd (xs := ([(⟨a1_0, a1_1, a1_2⟩ : S36)] : List (S36))) (inner := [.string a1_0, .string a1_1, .bool a1_2]) (ok := fun _ => True) (okp := fun _ => True) ?hr ?hp (fun _ hk => hk) trivial (Below.refl _ _) (Nat.le_refl _) (by simp) ?_; (case hd => rfl); (case hg => rfl); (case hr => first | (go_simp; done) | (go_simp; rfl)); (case hp => exact (Reps.c3 (show Kd.M k36 _ _ _ (⟨a1_0, a1_1, a1_2⟩ : S36) [.string a1_0, .string a1_1, .bool a1_2] from (k36_mkM _ _ _ (⟨a1_0, a1_1, a1_2⟩ : S36) )) (Reps.none _ _)))
 intro v434 w9 ho10 hb hg_ hnew_
 clear hg_ hnew_
 (first | rw [← Ny433.out] at ho10 | (simp only [Int.reduceToNat] at ho10; rw [← Ny433.out] at ho10))
 replace HO0_0 := Aside0.mk (Kd.V_elder' (by (with_reducible repeat (first | apply Kd.V_alloc | apply Kd.V_drewN | apply Kd.V_drew)); exact HO0_0.out) (Kd.R_base ho10) hb)
 have HO435 := Aside0.mk (Kd.R_lower (Kd.R_newB (Kd.R_newM (M := fun k_ => (w.heap.size ≤ k_)) ho10 (below_size (zb HB)) (fun k_ h_ => h_)) (g := gb431) (o := .cells #[.string a1_0, .string a1_1, .bool a1_2] 36 (0, 0)) (zk BK431)) (below_size (zb HB)))
 replace BK430 := Aside0.mk (blk_below (g := gb430) (o := .cells #[.slice A0_0 l0_0.length c0_0, .int .i64 a0_1] 25 (0, 0)) (zk BK430) hb)
 replace BK431 := Aside0.mk (blk_below (g := gb431) (o := .cells #[.string a1_0, .string a1_1, .bool a1_2] 36 (0, 0)) (zk BK431) hb)
 replace BK432 := Aside0.mk (blk_below (g := gb432) (o := .cells #[.slice none 0 0, .int .i64 0] 25 (0, 0)) (zk BK432) hb)
 replace HB := Aside0.mk (below_step (zb HB) hb)
 clear hb ho10
 obtain ⟨Ao11, co11, eo11⟩ := Kd.R_slice HO435.out
 (first | subst eo11 | (injection eo11 with f1_ f2_ f3_; have f4_ := f1_.symm; have f5_ := f3_.symm; clear f1_ f2_ f3_; subst f4_; subst f5_))
 refine hK.out _ _ ⟨(blk_cell BK431.out 0).trans rfl, (blk_cell BK431.out 1).trans rfl, (blk_cell BK431.out 2).trans rfl, (blk_cell BK430.out 0).trans rfl, (blk_cell BK430.out 1).trans rfl⟩ (fun hHeld => ?_)
 clear hK K
 refine nm ?_
 refine one_ (i := 4) (N := some 9) (bm 11 223) rfl rfl (one_of HT_.out (by kernel_rfl)) (by decide) (fun K hK => ?_)
 refine Kd.N_lit_step (Kd.slice 36 k36) _ 23 ?hg (N' := 9) ?hd (xs := ([y433, l0_0] : List (List (S36)))) (inner := [.slice Ao11 y433.length co11, .slice A0_0 l0_0.length c0_0]) (ok := (fun k_ => (P0_0_ k_ ∨ w.heap.size ≤ k_) ∧ k_ ≠ gb430 ∧ k_ ≠ gb431 ∧ k_ ≠ gb432)) (okp := (fun k_ => (P0_0_ k_ ∨ w.heap.size ≤ k_) ∧ k_ ≠ gb430 ∧ k_ ≠ gb431 ∧ k_ ≠ gb432)) ?hr ?hp (fun _ hk => hk) ((show ∀ k_, w9.heap.size ≤ k_ → (fun k_ => (P0_0_ k_ ∨ w.heap.size ≤ k_) ∧ k_ ≠ gb430 ∧ k_ ≠ gb431 ∧ k_ ≠ gb432) k_ from fun k_ hk => ⟨(.inr (Nat.le_trans (below_size (zb HB)) hk)), Kd.freshB (g := gb430) (o := .cells #[.slice A0_0 l0_0.length c0_0, .int .i64 a0_1] 25 (0, 0)) (zk BK430) k_ hk, Kd.freshB (g := gb431) (o := .cells #[.string a1_0, .string a1_1, .bool a1_2] 36 (0, 0)) (zk BK431) k_ hk, Kd.freshB (g := gb432) (o := .cells #[.slice none 0 0, .int .i64 0] 25 (0, 0)) (zk BK432) k_ hk⟩) _ (Nat.le_refl _)) (Below.refl _ _) (Nat.le_refl _) (by simp) ?_; (case hd => rfl); (case hg => rfl); (case hr => first | (go_simp; done) | (go_simp; rfl)); (case hp => exact (Reps.one (show Kd.FK (Kd.slice 36 k36) _ _ y433 [.slice Ao11 y433.length co11] from (Kd.FK_slice_mk (Kd.R_reads' (Kd.R_mono (ok' := (fun k_ => (P0_0_ k_ ∨ w.heap.size ≤ k_) ∧ k_ ≠ gb430 ∧ k_ ≠ gb431 ∧ k_ ≠ gb432)) (Kd.R_types (Kd.R_types (HO435.out) BK430.out (by decide)) BK432.out (by decide)) (fun k_ hk => ⟨(.inr (hk.1.1.1.1)), ⟨hk.1.2, ⟨hk.1.1.2, hk.2⟩⟩⟩))).2.1 (Kd.R_F (Kd.R_mono (ok' := (fun k_ => (P0_0_ k_ ∨ w.heap.size ≤ k_) ∧ k_ ≠ gb430 ∧ k_ ≠ gb431 ∧ k_ ≠ gb432)) (Kd.R_types (Kd.R_types (HO435.out) BK430.out (by decide)) BK432.out (by decide)) (fun k_ hk => ⟨(.inr (hk.1.1.1.1)), ⟨hk.1.2, ⟨hk.1.1.2, hk.2⟩⟩⟩))))) (Reps.one (show Kd.FK (Kd.slice 36 k36) _ _ l0_0 [.slice A0_0 l0_0.length c0_0] from (Kd.FK_slice_mk (Kd.V_reads' (Kd.V_mono (ok' := (fun k_ => (P0_0_ k_ ∨ w.heap.size ≤ k_) ∧ k_ ≠ gb430 ∧ k_ ≠ gb431 ∧ k_ ≠ gb432)) (HO0_0.out) (fun k_ hk => ⟨hk.1.1.1.1, ⟨hk.1.1.1.2, ⟨hk.1.1.2, hk.1.2⟩⟩⟩))).2.1 (Kd.V_F (Kd.V_mono (ok' := (fun k_ => (P0_0_ k_ ∨ w.heap.size ≤ k_) ∧ k_ ≠ gb430 ∧ k_ ≠ gb431 ∧ k_ ≠ gb432)) (HO0_0.out) (fun k_ hk => ⟨hk.1.1.1.1, ⟨hk.1.1.1.2, ⟨hk.1.1.2, hk.1.2⟩⟩⟩))))) (Reps.none _ _))))
 intro v437 w12 ho13 hb hg_ hnew_
 clear hg_ hnew_
 (first | rw [← Ny436.out] at ho13 | (simp only [Int.reduceToNat] at ho13; rw [← Ny436.out] at ho13))
 replace HO0_0 := Aside0.mk (Kd.V_elder' (by (with_reducible repeat (first | apply Kd.V_alloc | apply Kd.V_drewN | apply Kd.V_drew)); exact HO0_0.out) (Kd.N_base ho13) hb)
 have HO438 := Aside0.mk (Kd.N_lower ho13 (below_size (zb HB)))
 replace BK430 := Aside0.mk (blk_below (g := gb430) (o := .cells #[.slice A0_0 l0_0.length c0_0, .int .i64 a0_1] 25 (0, 0)) (zk BK430) hb)
 replace BK431 := Aside0.mk (blk_below (g := gb431) (o := .cells #[.string a1_0, .string a1_1, .bool a1_2] 36 (0, 0)) (zk BK431) hb)
 replace BK432 := Aside0.mk (blk_below (g := gb432) (o := .cells #[.slice none 0 0, .int .i64 0] 25 (0, 0)) (zk BK432) hb)
 replace HB := Aside0.mk (below_step (zb HB) hb)
 clear HO435
 clear hb ho13
 obtain ⟨Ao14, co14, eo14⟩ := Kd.N_slice HO438.out
 (first | subst eo14 | (injection eo14 with f1_ f2_ f3_; have f4_ := f1_.symm; have f5_ := f3_.symm; clear f1_ f2_ f3_; subst f4_; subst f5_))
 refine hK.out _ _ ⟨(blk_cell BK431.out 0).trans rfl, (blk_cell BK431.out 1).trans rfl, (blk_cell BK431.out 2).trans rfl, (blk_cell BK430.out 0).trans rfl, (blk_cell BK430.out 1).trans rfl⟩ (fun hHeld => ?_)
 clear hK K
 refine nm ?_
 refine one_ (i := 5) (N := some 10) (bm 11 255) rfl rfl (one_of HT_.out (by kernel_rfl)) (by decide) (fun K hK => ?_)
 refine gs Try.func75 #[.slice Ao14 y436.length co14] ?_
 with_reducible refine (Concat_Field.calls _ _ y436 t439 _ ?side1 ?side2 A3.out).mono ?_
 (case side1 => exact zc (Kd.N_reads' HO438.out).2.2)
 (case side2 => exact (Kd.N_reads' HO438.out).2.1)
 rintro e w15 ⟨v440, rfl, ho0, hb⟩
 refine ⟨_, rfl, ?_⟩
 replace HO0_0 := Aside0.mk (Kd.V_elder' (by (with_reducible repeat (first | apply Kd.V_alloc | apply Kd.V_drewN | apply Kd.V_drew)); exact HO0_0.out) (Kd.R_base ho0) hb)
 replace HO438 := Aside0.mk (Kd.N_elder' (by (with_reducible repeat (first | apply Kd.N_alloc | apply Kd.N_drewN | apply Kd.N_drew)); exact HO438.out) (Kd.R_base ho0) hb)
 have HO441 := Aside0.mk (Kd.R_lower (Kd.R_newB (Kd.R_newM (M := fun k_ => (w.heap.size ≤ k_)) ho0 (below_size (zb HB)) (fun k_ h_ => h_)) (g := gb431) (o := .cells #[.string a1_0, .string a1_1, .bool a1_2] 36 (0, 0)) (zk BK431)) (below_size (zb HB)))
 replace BK430 := Aside0.mk (blk_below (g := gb430) (o := .cells #[.slice A0_0 l0_0.length c0_0, .int .i64 a0_1] 25 (0, 0)) (zk BK430) hb)
 replace BK431 := Aside0.mk (blk_below (g := gb431) (o := .cells #[.string a1_0, .string a1_1, .bool a1_2] 36 (0, 0)) (zk BK431) hb)
 replace BK432 := Aside0.mk (blk_below (g := gb432) (o := .cells #[.slice none 0 0, .int .i64 0] 25 (0, 0)) (zk BK432) hb)
 replace HB := Aside0.mk (below_step (zb HB) hb)
 (try clear hb)
 (try clear ho0)
 obtain ⟨Ao16, co16, eo16⟩ := Kd.R_slice HO441.out
 (first | subst eo16 | (injection eo16 with f1_ f2_ f3_; have f4_ := f1_.symm; have f5_ := f3_.symm; clear f1_ f2_ f3_; subst f4_; subst f5_))
 refine hK.out _ _ ⟨(blk_cell BK431.out 0).trans rfl, (blk_cell BK431.out 1).trans rfl, (blk_cell BK431.out 2).trans rfl, (blk_cell BK430.out 0).trans rfl, (blk_cell BK430.out 1).trans rfl⟩ (fun hHeld => ?_)
 clear hK K
 refine nm ?_
 refine pu 8 (some 13) (bm 11 511) rfl rfl ?_
 refine one_ (i := 9) (N := some 14) (bm 11 1023) rfl rfl (one_of HT_.out (by kernel_rfl)) (by decide) (fun K hK => ?_)
 refine gs Try.func49 #[.agg #[.slice Ao16 t439.length co16, .int .i64 a0_1]] ?_
 with_reducible refine (impl_Table_fit.calls k _ _ t439 a0_1 t442 t445 _ ?side1 ?side2 A4.out).mono ?_
 (case side1 => exact zc (Kd.R_reads' HO441.out).2.2)
 (case side2 => exact (Kd.R_reads' HO441.out).2.1)
 rintro e w17 ⟨v443, rfl, ho0, hb⟩
 refine ⟨_, rfl, ?_⟩
 replace HO0_0 := Aside0.mk (Kd.V_elder' (by (with_reducible repeat (first | apply Kd.V_alloc | apply Kd.V_drewN | apply Kd.V_drew)); exact HO0_0.out) (Kd.R_base ho0) hb)
 replace HO438 := Aside0.mk (Kd.N_elder' (by (with_reducible repeat (first | apply Kd.N_alloc | apply Kd.N_drewN | apply Kd.N_drew)); exact HO438.out) (Kd.R_base ho0) hb)
 have HO444 := Aside0.mk (Kd.R_lower (Kd.R_newB (Kd.R_new' (Kd.R_newM (M := fun k_ => (w.heap.size ≤ k_)) ho0 (below_size (zb HB)) (fun k_ h_ => h_)) (Kd.R_lt (zr HO441))) (g := gb431) (o := .cells #[.string a1_0, .string a1_1, .bool a1_2] 36 (0, 0)) (zk BK431)) (below_size (zb HB)))
 replace HO441 := Aside0.mk (Kd.R_elder' (zr HO441) (Kd.R_base ho0) hb)
 replace BK430 := Aside0.mk (blk_below (g := gb430) (o := .cells #[.slice A0_0 l0_0.length c0_0, .int .i64 a0_1] 25 (0, 0)) (zk BK430) hb)
 replace BK431 := Aside0.mk (blk_below (g := gb431) (o := .cells #[.string a1_0, .string a1_1, .bool a1_2] 36 (0, 0)) (zk BK431) hb)
 replace BK432 := Aside0.mk (blk_below (g := gb432) (o := .cells #[.slice none 0 0, .int .i64 0] 25 (0, 0)) (zk BK432) hb)
 replace HB := Aside0.mk (below_step (zb HB) hb)
 (try clear hb)
 (try clear ho0)
 obtain ⟨Ao18, co18, eo18⟩ := Kd.R_slice HO444.out
 (first | subst eo18 | (injection eo18 with f1_ f2_ f3_; have f4_ := f1_.symm; have f5_ := f3_.symm; clear f1_ f2_ f3_; subst f4_; subst f5_))
 refine hK.out _ _ ⟨(blk_cell BK431.out 0).trans rfl, (blk_cell BK431.out 1).trans rfl, (blk_cell BK431.out 2).trans rfl, (blk_cell BK430.out 0).trans rfl, (blk_cell BK430.out 1).trans rfl⟩ (fun hHeld => ?_)
 clear hK K
 refine nm ?_
 refine one_ (i := 10) (N := none) (bm 11 2047) rfl rfl (one_of HT_.out (by kernel_rfl)) (by decide) (fun K hK => ?_)
 have hs19 : w17.cell? ⟨gb432, 0, none⟩ = some (.slice none 0 0) := (blk_cell BK432.out 0).trans rfl
 have hfs19 := blk_frozen BK432.out 0
 have hns19_0 := NB430_432.out
 have hns19_1 := NB431_432.out
 have hms19_0 := NB432_430.out
 have hms19_1 := NB432_431.out
 have hs20 : w17.cell? ⟨gb432, 1, none⟩ = some (.int .i64 0) := (blk_cell BK432.out 1).trans rfl
 have hfs20 := blk_frozen BK432.out 1
 have hns20_0 := NB430_432.out
 have hns20_1 := NB431_432.out
 have hms20_0 := NB432_430.out
 have hms20_1 := NB432_431.out
 refine skip_ (w1 := ?_) (by rfl) rfl ?_ ?_
 rotate_left
 ·go_simp
  rfl
 refine hK.out _ _ ⟨((cell_far (p := ⟨gb432, _, none⟩) NB431_432.out _).trans (((cell_far (p := ⟨gb432, _, none⟩) NB431_432.out _).trans (hHeld.1)))), ((cell_far (p := ⟨gb432, _, none⟩) NB431_432.out _).trans (((cell_far (p := ⟨gb432, _, none⟩) NB431_432.out _).trans (hHeld.2.1)))), ((cell_far (p := ⟨gb432, _, none⟩) NB431_432.out _).trans (((cell_far (p := ⟨gb432, _, none⟩) NB431_432.out _).trans (hHeld.2.2.1)))), ((cell_far (p := ⟨gb432, _, none⟩) NB430_432.out _).trans (((cell_far (p := ⟨gb432, _, none⟩) NB430_432.out _).trans (hHeld.2.2.2.1)))), ((cell_far (p := ⟨gb432, _, none⟩) NB430_432.out _).trans (((cell_far (p := ⟨gb432, _, none⟩) NB430_432.out _).trans (hHeld.2.2.2.2))))⟩ (fun hHeld => ?_)
 clear hK K
 refine done_ (done_of HT_.out (by kernel_rfl)) ?_
 try go_wp2
 refine bodyPost_ret (results_cell_row rfl _ _ gb432 25 #[.slice Ao18 t442.length co18, .int .i64 t445] (0, 0) _ rfl (by (with_reducible repeat (first | refine blk_drewN ?_ _ | refine blk_drew ?_ | refine blk_alloc ?_ _)); refine blk_put (cs := #[.slice Ao18 t442.length co18, .int .i64 0]) ?_ 1 _ rfl; (with_reducible repeat (first | refine blk_drewN ?_ _ | refine blk_drew ?_ | refine blk_alloc ?_ _)); refine blk_put (cs := #[.slice none 0 0, .int .i64 0]) ?_ 0 _ rfl; exact zk BK432) Try.underlying25 rfl (by kernel_rfl)) rfl ?_
 exact ⟨_, ze, by (with_reducible repeat (first | apply Kd.R_alloc | apply Kd.R_drewN | apply Kd.R_drew)); exact Kd.R_mono (Kd.R_far (p := ⟨gb432, 1, none⟩) (Kd.R_far (p := ⟨gb432, 0, none⟩) (Kd.R_types HO444.out BK432.out (by decide)) (fun _ hk => hk.2) (.slice Ao18 t442.length co18)) (fun _ hk => hk.2) (.int .i64 t445)) (fun _ hk => hk.1.1.1.1), zb HB⟩

/-! ### impl_NumWrite: function 83 -/
-- thin
mutual
def impl_NumWrite.j0 : Nat → Int → Int → Int → Bool → Option (ByteArray)
 | 0, _, _, _, _ => none
 | k + 1, x0, x1, x2, x25 => if x25 = true then (some (⟨#[]⟩ : ByteArray)) else (if 0 ≤ x1 then (if x0 < (wrap64 ((shl .i64 1 x1) - 1)) then (some (strOfNums (([(Go.bits .or .i64 (shl .i64 x2 x1) x0) % 256] : List Int)))) else (impl_NumWrite.l0 k (wrap64 (x0 - (wrap64 ((shl .i64 1 x1) - 1)))) (([(Go.bits .or .i64 (shl .i64 x2 x1) (wrap64 ((shl .i64 1 x1) - 1))) % 256] : List Int)))) else (none))
def impl_NumWrite.l0 : Nat → Int → List Int → Option (ByteArray)
 | 0, _, _ => none
 | k + 1, x0, x8 => if x0 > 127 then (if x8.length < 140737488355328 then (impl_NumWrite.l0 k (x0 / 128) (x8 ++ [(Go.bits .or .i64 128 (Go.bits .and .i64 x0 127)) % 256])) else (none)) else (if x8.length < 140737488355328 then (some (strOfNums (x8 ++ [(x0) % 256]))) else (none))
end
def impl_NumWrite.f (k : Nat) (a0 : Int) (a1 : Int) (a2 : Int) : Option (ByteArray) := (impl_in.f a0 0 9999).bind fun t446 => (if t446 = true then ((impl_in.f a1 3 7).bind fun t447 => (if t447 = true then (if 0 ≤ (wrap64 (8 - a1)) then ((impl_in.f a2 0 (wrap64 ((shl .i64 1 (wrap64 (8 - a1))) - 1))).bind fun t448 => (impl_NumWrite.j0 k a0 a1 a2 (!t448))) else (none)) else (impl_NumWrite.j0 k a0 a1 a2 true))) else (impl_NumWrite.j0 k a0 a1 a2 true))
theorem impl_NumWrite.mono_l : ∀ k, (∀ y0 y1 y2 y3, LeO (impl_NumWrite.j0 k y0 y1 y2 y3) (impl_NumWrite.j0 (k + 1) y0 y1 y2 y3)) ∧ (∀ y0 y1, LeO (impl_NumWrite.l0 k y0 y1) (impl_NumWrite.l0 (k + 1) y0 y1))
 | 0 => ⟨fun _ _ _ _ r h => by simp [impl_NumWrite.j0] at h, fun _ _ r h => by simp [impl_NumWrite.l0] at h⟩
 | k + 1 => by
  obtain ⟨ih0, ih1⟩ := impl_NumWrite.mono_l k
  refine ⟨?_, ?_⟩
  ·intro y0 y1 y2 y3
   unfold impl_NumWrite.j0
   repeat' first
   | (with_reducible exact ih0 _ _ _ _)
   | (with_reducible exact ih1 _ _)
   | (with_reducible exact LeO.refl _)
   | (with_reducible exact LeO.none _)
   | (with_reducible refine LeO.ite ?_ ?_)
   | (with_reducible refine LeO.bind ?_ (fun _ => ?_))
   | exact ih0 _ _ _ _
   | exact ih1 _ _
   | exact LeO.none _
   | refine LeO.ite ?_ ?_
   | refine LeO.bind ?_ (fun _ => ?_)
  ·intro y0 y1
   unfold impl_NumWrite.l0
   repeat' first
   | (with_reducible exact ih0 _ _ _ _)
   | (with_reducible exact ih1 _ _)
   | (with_reducible exact LeO.refl _)
   | (with_reducible exact LeO.none _)
   | (with_reducible refine LeO.ite ?_ ?_)
   | (with_reducible refine LeO.bind ?_ (fun _ => ?_))
   | exact ih0 _ _ _ _
   | exact ih1 _ _
   | exact LeO.none _
   | refine LeO.ite ?_ ?_
   | refine LeO.bind ?_ (fun _ => ?_)
theorem impl_NumWrite.mono : ∀ a0 a1 a2 k, LeO (impl_NumWrite.f k a0 a1 a2) (impl_NumWrite.f (k + 1) a0 a1 a2) := by
 intro a0 a1 a2 k
 obtain ⟨ih0, ih1⟩ := impl_NumWrite.mono_l k
 unfold impl_NumWrite.f
 repeat' first
   | (with_reducible exact ih0 _ _ _ _)
   | (with_reducible exact ih1 _ _)
   | (with_reducible exact LeO.refl _)
   | (with_reducible exact LeO.none _)
   | (with_reducible refine LeO.ite ?_ ?_)
   | (with_reducible refine LeO.bind ?_ (fun _ => ?_))
   | exact ih0 _ _ _ _
   | exact ih1 _ _
   | exact LeO.none _
   | refine LeO.ite ?_ ?_
   | refine LeO.bind ?_ (fun _ => ?_)
set_option maxHeartbeats 8000000 in
set_option maxRecDepth 100000 in
theorem impl_NumWrite.calls (k : Nat) (a0 : Int) (a1 : Int) (a2 : Int) (r : ByteArray) (w : World) (h : impl_NumWrite.f k a0 a1 a2 = some r) :
  Calls Try.prog 83 #[.int .i64 a0, .int .i64 a1, .int .i64 a2] w fun e w' => e = .returned (.string r) ∧ Below w.heap.size w w' := by
 have HB := Aside0.mk (Below.refl w.heap.size w)
 have H : ((impl_in.f a0 0 9999).bind fun t446 => (if t446 = true then ((impl_in.f a1 3 7).bind fun t447 => (if t447 = true then (if 0 ≤ (wrap64 (8 - a1)) then ((impl_in.f a2 0 (wrap64 ((shl .i64 1 (wrap64 (8 - a1))) - 1))).bind fun t448 => (impl_NumWrite.j0 k a0 a1 a2 (!t448))) else (none)) else (impl_NumWrite.j0 k a0 a1 a2 true))) else (impl_NumWrite.j0 k a0 a1 a2 true))) = some r := h
 clear h
 have HC4 := Aside0.mk H
 clear H
 go_enter Try.func83, Try.ntmps83
 go_upto_region 1 with (fail)
 go_cut [25] (fun v25 wc => ∃ (kq : Nat) (x25_3 : Bool), v25 = .bool x25_3 ∧ Aside0 (impl_NumWrite.j0 kq a0 a1 a2 x25_3 = some r) ∧ Aside0 (kq ≤ k) ∧ Aside0 (Below w.heap.size w wc))
 case first =>
  have H := HC4.out
  clear HC4
  replace H := Option.bind_eq_some_iff.mp H
  obtain ⟨t446, A50, H⟩ := H
  replace H : (if t446 = true then ((impl_in.f a1 3 7).bind fun t447 => (if t447 = true then (if 0 ≤ (wrap64 (8 - a1)) then ((impl_in.f a2 0 (wrap64 ((shl .i64 1 (wrap64 (8 - a1))) - 1))).bind fun t448 => (impl_NumWrite.j0 k a0 a1 a2 (!t448))) else (none)) else (impl_NumWrite.j0 k a0 a1 a2 true))) else (impl_NumWrite.j0 k a0 a1 a2 true)) = some r := H
  have A5 := Aside0.mk A50
  clear A50
  by_cases c6 : t446 = true
  ·subst c6
   have H1 : ((impl_in.f a1 3 7).bind fun t447 => (if t447 = true then (if 0 ≤ (wrap64 (8 - a1)) then ((impl_in.f a2 0 (wrap64 ((shl .i64 1 (wrap64 (8 - a1))) - 1))).bind fun t448 => (impl_NumWrite.j0 k a0 a1 a2 (!t448))) else (none)) else (impl_NumWrite.j0 k a0 a1 a2 true))) = some r := by rw [if_pos rfl] at H; exact H
   clear H
   have H := H1
   clear H1
   replace H := Option.bind_eq_some_iff.mp H
   obtain ⟨t447, A70, H⟩ := H
   replace H : (if t447 = true then (if 0 ≤ (wrap64 (8 - a1)) then ((impl_in.f a2 0 (wrap64 ((shl .i64 1 (wrap64 (8 - a1))) - 1))).bind fun t448 => (impl_NumWrite.j0 k a0 a1 a2 (!t448))) else (none)) else (impl_NumWrite.j0 k a0 a1 a2 true)) = some r := H
   have A7 := Aside0.mk A70
   clear A70
   by_cases c8 : t447 = true
   ·subst c8
    have H1 : (if 0 ≤ (wrap64 (8 - a1)) then ((impl_in.f a2 0 (wrap64 ((shl .i64 1 (wrap64 (8 - a1))) - 1))).bind fun t448 => (impl_NumWrite.j0 k a0 a1 a2 (!t448))) else (none)) = some r := by rw [if_pos rfl] at H; exact H
    clear H
    have H := H1
    clear H1
    obtain ⟨ji9, hji9⟩ : ∃ j_ : Int, (wrap64 (8 - a1)) = j_ := ⟨_, rfl⟩
    replace H : (if 0 ≤ (ji9) then ((impl_in.f a2 0 (wrap64 ((shl .i64 1 (ji9)) - 1))).bind fun t448 => (impl_NumWrite.j0 k a0 a1 a2 (!t448))) else (none)) = some r := by first | (rw [hji9] at H; exact H) | (simp only [hji9] at H ⊢; exact H)
    (try rw [hji9] at A5)
    (try rw [hji9] at A7)
    have hji9w : (IntKind.i64.wrap (8 - a1)) = ji9 := (i64_w _).trans hji9
    by_cases c10 : 0 ≤ (ji9)
    ·rw [if_pos c10] at H
     have c10b0 := eq_true c10
     have c10b1 : decide (0 ≤ (ji9)) = true := decide_eq_true c10
     clear c10
     obtain ⟨ji11, hji11⟩ : ∃ j_ : Int, (shl .i64 1 (ji9)) = j_ := ⟨_, rfl⟩
     replace H : ((impl_in.f a2 0 (wrap64 ((ji11) - 1))).bind fun t448 => (impl_NumWrite.j0 k a0 a1 a2 (!t448))) = some r := by first | (rw [hji11] at H; exact H) | (simp only [hji11] at H ⊢; exact H)
     (try rw [hji11] at A5)
     (try rw [hji11] at A7)
     have hji11_ : (IntKind.i64.wrap (1 * 2 ^ min (ji9).toNat 64)) = ji11 := hji11
     have hji11z : (ji9) ≤ 64 → (IntKind.i64.wrap (1 * 2 ^ (ji9).toNat)) = ji11 := shl_small hji11
     have hji11u : (IntKind.i64.wrap (2 ^ min (ji9).toNat 64)) = ji11 := by have h_ := hji11_; rw [Int.one_mul] at h_; exact h_
     have hji11v : (ji9) ≤ 64 → (IntKind.i64.wrap (2 ^ (ji9).toNat)) = ji11 := fun hle_ => by have h_ := hji11z hle_; rw [Int.one_mul] at h_; exact h_
     have hji11y : (wrap64 (1 * 2 ^ min (ji9).toNat 64)) = ji11 := (i64_w _).symm.trans hji11_
     have hji11x : (ji9) ≤ 64 → (wrap64 (1 * 2 ^ (ji9).toNat)) = ji11 := fun h_ => (i64_w _).symm.trans (hji11z h_)
     replace H := Option.bind_eq_some_iff.mp H
     obtain ⟨t448, A120, H⟩ := H
     replace H : (impl_NumWrite.j0 k a0 a1 a2 (!t448)) = some r := H
     have A12 := Aside0.mk A120
     clear A120
     have H' := Aside0.mk H
     clear H
     go_wp2_with (first | ((with_reducible refine gq 48 rfl ?_); refine gl (some 10) Try.func48 #[.int .i64 a0, .int .i64 0, .int .i64 9999] ?_; (with_reducible refine (impl_in.calls a0 0 9999 true _ A5.out).mono ?_); rintro e w' ⟨rfl, ⟨nd, rfl⟩⟩; refine ⟨_, rfl, ?_⟩) | (go_at_call 48; (with_reducible refine (impl_in.calls a1 3 7 true _ A7.out).mono ?_); rintro e w' ⟨rfl, ⟨nd, rfl⟩⟩) | (go_at_call 48; (with_reducible refine (impl_in.calls a2 0 (wrap64 ((ji11) - 1)) t448 _ A12.out).mono ?_); rintro e w' ⟨rfl, ⟨nd, rfl⟩⟩))
     go_meet
     case rel => exact ⟨_, (!t448), zs, H', ⟨by first | omega | exact Nat.le_refl _⟩, ⟨zb HB⟩⟩
    ·rw [if_neg c10] at H
     exact absurd H (by simp)
   ·replace c8 := Bool.eq_false_iff.mpr c8
    subst c8
    have H1 : (impl_NumWrite.j0 k a0 a1 a2 true) = some r := by rw [if_neg (show ¬ (false = true) by decide)] at H; exact H
    clear H
    have H := H1
    clear H1
    have H' := Aside0.mk H
    clear H
    go_wp2_with (first | ((with_reducible refine gq 48 rfl ?_); refine gl (some 10) Try.func48 #[.int .i64 a0, .int .i64 0, .int .i64 9999] ?_; (with_reducible refine (impl_in.calls a0 0 9999 true _ A5.out).mono ?_); rintro e w' ⟨rfl, ⟨nd, rfl⟩⟩; refine ⟨_, rfl, ?_⟩) | (go_at_call 48; (with_reducible refine (impl_in.calls a1 3 7 false _ A7.out).mono ?_); rintro e w' ⟨rfl, ⟨nd, rfl⟩⟩))
    go_meet
    case rel => exact ⟨_, (true), zs, H', ⟨by first | omega | exact Nat.le_refl _⟩, ⟨zb HB⟩⟩
  ·replace c6 := Bool.eq_false_iff.mpr c6
   subst c6
   have H1 : (impl_NumWrite.j0 k a0 a1 a2 true) = some r := by rw [if_neg (show ¬ (false = true) by decide)] at H; exact H
   clear H
   have H := H1
   clear H1
   have H' := Aside0.mk H
   clear H
   go_wp2_with (first | ((with_reducible refine gq 48 rfl ?_); refine gl (some 10) Try.func48 #[.int .i64 a0, .int .i64 0, .int .i64 9999] ?_; (with_reducible refine (impl_in.calls a0 0 9999 false _ A5.out).mono ?_); rintro e w' ⟨rfl, ⟨nd, rfl⟩⟩; refine ⟨_, rfl, ?_⟩))
   go_meet
   case rel => exact ⟨_, (true), zs, H', ⟨by first | omega | exact Nat.le_refl _⟩, ⟨zb HB⟩⟩
 case rest =>
  clear HC4
  try clear c1
  try clear p2
  try clear c4
  try clear c6
  try clear p6
  try clear c8
  try clear c10
  try clear c10b0
  try clear c10b1
  obtain ⟨kq, x25_3, rfl, HA, HJ3, HB⟩ := hcut
  cases kq with
  | zero => exact absurd HA.out (by simp [impl_NumWrite.j0])
  | succ kj3 =>
   have H := HA.out
   clear HA
   simp only [impl_NumWrite.j0] at H
   by_cases c13 : x25_3 = true
   ·subst c13
    have H1 : (some (⟨#[]⟩ : ByteArray)) = some r := by rw [if_pos rfl] at H; exact H
    clear H
    have H := H1
    clear H1
    obtain rfl := Option.some.inj H
    go_wp2
    go_ret
    exact ⟨ze, zb HB⟩
   ·replace c13 := Bool.eq_false_iff.mpr c13
    subst c13
    have H1 : (if 0 ≤ a1 then (if a0 < (wrap64 ((shl .i64 1 a1) - 1)) then (some (strOfNums (([(Go.bits .or .i64 (shl .i64 a2 a1) a0) % 256] : List Int)))) else (impl_NumWrite.l0 kj3 (wrap64 (a0 - (wrap64 ((shl .i64 1 a1) - 1)))) (([(Go.bits .or .i64 (shl .i64 a2 a1) (wrap64 ((shl .i64 1 a1) - 1))) % 256] : List Int)))) else (none)) = some r := by rw [if_neg (show ¬ (false = true) by decide)] at H; exact H
    clear H
    have H := H1
    clear H1
    by_cases c14 : 0 ≤ a1
    ·rw [if_pos c14] at H
     have c14b0 := eq_true c14
     have c14b1 : decide (0 ≤ a1) = true := decide_eq_true c14
     clear c14
     obtain ⟨ji15, hji15⟩ : ∃ j_ : Int, (shl .i64 1 a1) = j_ := ⟨_, rfl⟩
     replace H : (if a0 < (wrap64 ((ji15) - 1)) then (some (strOfNums (([(Go.bits .or .i64 (shl .i64 a2 a1) a0) % 256] : List Int)))) else (impl_NumWrite.l0 kj3 (wrap64 (a0 - (wrap64 ((ji15) - 1)))) (([(Go.bits .or .i64 (shl .i64 a2 a1) (wrap64 ((ji15) - 1))) % 256] : List Int)))) = some r := by first | (rw [hji15] at H; exact H) | (simp only [hji15] at H ⊢; exact H)
     have hji15_ : (IntKind.i64.wrap (1 * 2 ^ min a1.toNat 64)) = ji15 := hji15
     have hji15z : a1 ≤ 64 → (IntKind.i64.wrap (1 * 2 ^ a1.toNat)) = ji15 := shl_small hji15
     have hji15u : (IntKind.i64.wrap (2 ^ min a1.toNat 64)) = ji15 := by have h_ := hji15_; rw [Int.one_mul] at h_; exact h_
     have hji15v : a1 ≤ 64 → (IntKind.i64.wrap (2 ^ a1.toNat)) = ji15 := fun hle_ => by have h_ := hji15z hle_; rw [Int.one_mul] at h_; exact h_
     have hji15y : (wrap64 (1 * 2 ^ min a1.toNat 64)) = ji15 := (i64_w _).symm.trans hji15_
     have hji15x : a1 ≤ 64 → (wrap64 (1 * 2 ^ a1.toNat)) = ji15 := fun h_ => (i64_w _).symm.trans (hji15z h_)
     by_cases c16 : a0 < (wrap64 ((ji15) - 1))
     ·rw [if_pos c16] at H
      have c16b0 : decide (a0 < (wrap64 ((ji15) - 1))) = true := decide_eq_true c16
      clear c16
      have c17b0 := eq_true (of_decide_eq_true za : 0 ≤ a1)
      obtain ⟨ji18, hji18⟩ : ∃ j_ : Int, (shl .i64 a2 a1) = j_ := ⟨_, rfl⟩
      replace H : (some (strOfNums (([(Go.bits .or .i64 (ji18) a0) % 256] : List Int)))) = some r := by first | (rw [hji18] at H; exact H) | (simp only [hji18] at H ⊢; exact H)
      have hji18_ : (IntKind.i64.wrap (a2 * 2 ^ min a1.toNat 64)) = ji18 := hji18
      have hji18z : a1 ≤ 64 → (IntKind.i64.wrap (a2 * 2 ^ a1.toNat)) = ji18 := shl_small hji18
      have hji18y : (wrap64 (a2 * 2 ^ min a1.toNat 64)) = ji18 := (i64_w _).symm.trans hji18_
      have hji18x : a1 ≤ 64 → (wrap64 (a2 * 2 ^ a1.toNat)) = ji18 := fun h_ => (i64_w _).symm.trans (hji18z h_)
      obtain ⟨y449, hy449⟩ : ∃ y_ : List Int, y_ = (([(Go.bits .or .i64 (ji18) a0) % 256] : List Int)) := ⟨_, rfl⟩
      replace H : (some (strOfNums y449)) = some r := by first | (rw [hy449]; with_reducible exact H) | (have H2_ := (Option.bind_some _ _).symm.trans H; rw [hy449]; with_reducible exact H2_) | (have H2_ := (Option.bind_some _ _).symm.trans H; with_reducible exact H2_) | with_reducible exact H | (rw [hy449]; exact H) | exact H
      have Ny449 := Aside0.mk hy449
      clear hy449
      obtain rfl := Option.some.inj H
      go_wp2_with (first | ((with_reducible refine gd 38 rfl ?_); refine Kd.R_lit (Kd.int .u8) _ 5 ?hg (N := 38) ?hd (xs := ([(Go.bits .or .i64 (ji18) a0) % 256] : List Int)) (inner := [.int .u8 ((Go.bits .or .i64 (ji18) a0) % 256)]) (ok := fun _ => True) (okp := fun _ => True) ?hr ?hp (fun _ hk => hk) trivial (Below.refl _ _) (Nat.le_refl _) (by simp) ?_; (case hd => rfl); (case hg => rfl); (case hr => first | (go_simp; done) | (go_simp; rfl)); (case hp => exact (Reps.one (show Kd.M (Kd.int .u8) _ _ _ ((Go.bits .or .i64 (ji18) a0) % 256) [.int .u8 ((Go.bits .or .i64 (ji18) a0) % 256)] from rfl) (Reps.none _ _))); intro v450 w19 ho20 hb hg_ hnew_; clear hg_ hnew_; (first | rw [← Ny449.out] at ho20 | (simp only [Int.reduceToNat] at ho20; rw [← Ny449.out] at ho20)); have HO451 := Aside0.mk (Kd.R_lower ho20 (below_size (zb HB))); replace HB := Aside0.mk (below_step (zb HB) hb); clear hb ho20; have hcv21 := own_string (P := Try.prog) Try.underlying22 Try.underlying5 Try.underlying9 (Kd.own_of_R HO451.out)))
      go_ret
      exact ⟨by first | rfl | (simp [errW_none, errW_some] <;> rfl) | (simp only [← hji15, ← hji18]; first | rfl | (simp [errW_none, errW_some] <;> rfl)) | (simp [*, errW_none, errW_some] <;> rfl) | (simp [errW_none, errW_some]; exact (by intro l_; cases l_ <;> rfl : ∀ l_ : List UInt8, l_.isEmpty = !(l_ != [])) _), zb HB⟩
     ·rw [if_neg c16] at H
      have c16b0 : decide (a0 < (wrap64 ((ji15) - 1))) = false := decide_eq_false c16
      clear c16
      have c22b0 := eq_true (of_decide_eq_true za : 0 ≤ a1)
      obtain ⟨ji23, hji23⟩ : ∃ j_ : Int, (shl .i64 a2 a1) = j_ := ⟨_, rfl⟩
      replace H : (impl_NumWrite.l0 kj3 (wrap64 (a0 - (wrap64 ((ji15) - 1)))) (([(Go.bits .or .i64 (ji23) (wrap64 ((ji15) - 1))) % 256] : List Int))) = some r := by first | (rw [hji23] at H; exact H) | (simp only [hji23] at H ⊢; exact H)
      have hji23_ : (IntKind.i64.wrap (a2 * 2 ^ min a1.toNat 64)) = ji23 := hji23
      have hji23z : a1 ≤ 64 → (IntKind.i64.wrap (a2 * 2 ^ a1.toNat)) = ji23 := shl_small hji23
      have hji23y : (wrap64 (a2 * 2 ^ min a1.toNat 64)) = ji23 := (i64_w _).symm.trans hji23_
      have hji23x : a1 ≤ 64 → (wrap64 (a2 * 2 ^ a1.toNat)) = ji23 := fun h_ => (i64_w _).symm.trans (hji23z h_)
      obtain ⟨y452, hy452⟩ : ∃ y_ : List Int, y_ = (([(Go.bits .or .i64 (ji23) (wrap64 ((ji15) - 1))) % 256] : List Int)) := ⟨_, rfl⟩
      replace H : (impl_NumWrite.l0 kj3 (wrap64 (a0 - (wrap64 ((ji15) - 1)))) y452) = some r := by first | (rw [hy452]; with_reducible exact H) | (have H2_ := (Option.bind_some _ _).symm.trans H; rw [hy452]; with_reducible exact H2_) | (have H2_ := (Option.bind_some _ _).symm.trans H; with_reducible exact H2_) | with_reducible exact H | (rw [hy452]; exact H) | exact H
      have Ny452 := Aside0.mk hy452
      clear hy452
      have H' := Aside0.mk H
      clear H
      go_wp2_with (first | ((with_reducible refine gd 46 rfl ?_); refine Kd.R_lit (Kd.int .u8) _ 5 ?hg (N := 46) ?hd (xs := ([(Go.bits .or .i64 (ji23) (wrap64 ((ji15) - 1))) % 256] : List Int)) (inner := [.int .u8 ((Go.bits .or .i64 (ji23) (wrap64 ((ji15) - 1))) % 256)]) (ok := fun _ => True) (okp := fun _ => True) ?hr ?hp (fun _ hk => hk) trivial (Below.refl _ _) (Nat.le_refl _) (by simp) ?_; (case hd => rfl); (case hg => rfl); (case hr => first | (go_simp; done) | (go_simp; rfl)); (case hp => exact (Reps.one (show Kd.M (Kd.int .u8) _ _ _ ((Go.bits .or .i64 (ji23) (wrap64 ((ji15) - 1))) % 256) [.int .u8 ((Go.bits .or .i64 (ji23) (wrap64 ((ji15) - 1))) % 256)] from rfl) (Reps.none _ _))); intro v453 w24 ho25 hb hg_ hnew_; clear hg_ hnew_; (first | rw [← Ny452.out] at ho25 | (simp only [Int.reduceToNat] at ho25; rw [← Ny452.out] at ho25)); have HO454 := Aside0.mk (Kd.R_lower ho25 (below_size (zb HB))); replace HB := Aside0.mk (below_step (zb HB) hb); clear hb ho25))
      go_loopg [0, 8] kj3 (fun kq v0 v8 w' => ∃ (x0_2 : Int) (x8_2 : List Int), v0 = .int .i64 x0_2 ∧ Aside0 (impl_NumWrite.l0 kq x0_2 x8_2 = some r) ∧ Aside0 (kq ≤ kj3) ∧ Aside0 (Kd.R (Kd.int .u8) 5 w' w.heap.size (fun _ => True) v8 x8_2) ∧ Aside0 (Below w.heap.size w w'))
      case atStart => exact ⟨(wrap64 (a0 - (wrap64 ((ji15) - 1)))), (y452), (by first | rfl | (simp; done) | (simp only [← hji15] <;> (first | rfl | simp)) | (simp [*]; done)), H', ⟨Nat.le_refl _⟩, ⟨by exact zr HO454⟩, ⟨zb HB⟩⟩
      case round =>
       clear H'
       try clear c1
       try clear c2
       try clear p2
       try clear hcv2
       try clear c4
       try clear c6
       try clear p6
       try clear c8
       try clear c10
       try clear c10b0
       try clear c10b1
       try clear c13
       try clear c14
       try clear c14b0
       try clear c14b1
       try clear c16
       try clear c16b0
       try clear c17
       try clear c17b0
       try clear hcv21
       try clear c22
       try clear c22b0
       try clear p2
       try clear p6
       obtain ⟨x0_2, x8_2, rfl, HA, HK2, HO_8, HB⟩ := hrel
       cases gk with
       | zero => exact absurd HA.out (by simp [impl_NumWrite.l0])
       | succ k2 =>
        have H := HA.out
        clear HA
        simp only [impl_NumWrite.l0] at H
        by_cases c26 : x0_2 > 127
        ·rw [if_pos c26] at H
         have c26b0 : decide (127 < x0_2) = true := decide_eq_true c26
         clear c26
         by_cases c27 : x8_2.length < 140737488355328
         ·rw [if_pos c27] at H
          have LMc27 := Aside0.mk c27
          clear c27
          obtain ⟨y455, hy455⟩ : ∃ y_ : List Int, y_ = (x8_2 ++ [(Go.bits .or .i64 128 (Go.bits .and .i64 x0_2 127)) % 256]) := ⟨_, rfl⟩
          replace H : (impl_NumWrite.l0 k2 (x0_2 / 128) y455) = some r := by first | (rw [hy455]; with_reducible exact H) | (have H2_ := (Option.bind_some _ _).symm.trans H; rw [hy455]; with_reducible exact H2_) | (have H2_ := (Option.bind_some _ _).symm.trans H; with_reducible exact H2_) | with_reducible exact H | (rw [hy455]; exact H) | exact H
          have Ny455 := Aside0.mk hy455
          clear hy455
          have H' := Aside0.mk H
          clear H
          go_wp2_with (first | ((with_reducible refine gate_builtin (b := .append) (xs := #[.tmp 54, .tmp 59]) rfl ?_); at_builtin; refine Kd.R_append (Kd.int .u8) (w0 := w) w.heap.size rfl (.tmp 54) (.tmp 59) 22 5 (.int .u8 0) 1 rfl Try.underlying22 info5 rfl (by decide) (by omega) u8 x8_2 ((Go.bits .or .i64 128 (Go.bits .and .i64 x0_2 127)) % 256) [.int .u8 ((Go.bits .or .i64 128 (Go.bits .and .i64 x0_2 127)) % 256)] (fun _ => True) (fun _ => False) rfl rfl ?aP (fun _ hk => hk.elim) ?aF ?aO ?aB ?aS ?aL ?_; (case aP => exact rfl); (case aB => exact (zb HB)); (case aF => exact (fun _ _ => trivial)); (case aO => exact (zr HO_8)); (case aS => exact (below_size (zb HB))); (case aL => have := LMc27.out; omega); intro v456 w28 ho hb hg hat; rw [← Ny455.out] at ho; replace HB := Aside0.mk (hb); have HO457 := Aside0.mk (ho); clear HO_8; clear ho hb hg hat))
          go_roundg k2
          case measure => have := HJ3.out; have := HK2.out; omega
          case rel => exact ⟨(x0_2 / 128), (y455), zs, H', ⟨by have := HJ3.out; have := HK2.out; omega⟩, ⟨by exact zr HO457⟩, ⟨zb HB⟩⟩
         ·rw [if_neg c27] at H
          exact absurd H (by simp)
        ·rw [if_neg c26] at H
         have c26b0 : decide (127 < x0_2) = false := decide_eq_false c26
         clear c26
         by_cases c29 : x8_2.length < 140737488355328
         ·rw [if_pos c29] at H
          have LMc29 := Aside0.mk c29
          clear c29
          obtain ⟨y458, hy458⟩ : ∃ y_ : List Int, y_ = (x8_2 ++ [(x0_2) % 256]) := ⟨_, rfl⟩
          replace H : (some (strOfNums y458)) = some r := by first | (rw [hy458]; with_reducible exact H) | (have H2_ := (Option.bind_some _ _).symm.trans H; rw [hy458]; with_reducible exact H2_) | (have H2_ := (Option.bind_some _ _).symm.trans H; with_reducible exact H2_) | with_reducible exact H | (rw [hy458]; exact H) | exact H
          have Ny458 := Aside0.mk hy458
          clear hy458
          obtain rfl := Option.some.inj H
          go_wp2_with (first | ((with_reducible refine gate_builtin (b := .append) (xs := #[.tmp 61, .tmp 64]) rfl ?_); at_builtin; refine Kd.R_append (Kd.int .u8) (w0 := w) w.heap.size rfl (.tmp 61) (.tmp 64) 22 5 (.int .u8 0) 1 rfl Try.underlying22 info5 rfl (by decide) (by omega) u8 x8_2 ((x0_2) % 256) [.int .u8 ((x0_2) % 256)] (fun _ => True) (fun _ => False) rfl rfl ?aP (fun _ hk => hk.elim) ?aF ?aO ?aB ?aS ?aL ?_; (case aP => exact rfl); (case aB => exact (zb HB)); (case aF => exact (fun _ _ => trivial)); (case aO => exact (zr HO_8)); (case aS => exact (below_size (zb HB))); (case aL => have := LMc29.out; omega); intro v459 w30 ho hb hg hat; rw [← Ny458.out] at ho; replace HB := Aside0.mk (hb); have HO460 := Aside0.mk (ho); clear HO_8; clear ho hb hg hat; have hcv31 := own_string (P := Try.prog) Try.underlying22 Try.underlying5 Try.underlying9 (Kd.own_of_R HO460.out)))
          go_ret
          exact ⟨by first | rfl | (simp [errW_none, errW_some] <;> rfl) | (simp only [← hji15, ← hji23]; first | rfl | (simp [errW_none, errW_some] <;> rfl)) | (simp [*, errW_none, errW_some] <;> rfl) | (simp [errW_none, errW_some]; exact (by intro l_; cases l_ <;> rfl : ∀ l_ : List UInt8, l_.isEmpty = !(l_ != [])) _), zb HB⟩
         ·rw [if_neg c29] at H
          exact absurd H (by simp)
    ·rw [if_neg c14] at H
     exact absurd H (by simp)

end Go.Proofs.Ytdhahifdcoinhaa.PFnHeadAgain
