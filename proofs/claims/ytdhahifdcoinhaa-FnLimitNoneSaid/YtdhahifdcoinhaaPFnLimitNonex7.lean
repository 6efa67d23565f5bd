-- WRITTEN BY a turned print (wip/tools of the prover's repo)
import Derived.Test.YtdhahifdcoinhaaPFnLimitNonex0
import Derived.Test.YtdhahifdcoinhaaPFnLimitNonex4
import Derived.Test.YtdhahifdcoinhaaPFnLimitNonex5
import Derived.Test.YtdhahifdcoinhaaPFnLimitNonex6
namespace Go.Proofs.Ytdhahifdcoinhaa.PFnLimitNone
open Go.RowKit Go.Proofs.YtdhahifdcoinhaaW.PrintWords Go.Proofs.YtdhahifdcoinhaaW.PrintLast Go.Proofs.YtdhahifdcoinhaaW.PrintMore Go.Proofs.Ytdhahifdcoinhaa.Lm
attribute [local go_sem] max2_int min2_int max_two min_two max_three min_three max_four min_four   -- for this text's walks alone
set_option linter.unusedVariables false
set_option linter.unusedSimpArgs false

/-! ### impl_TableAdd: function 30 -/
-- thin
def impl_TableAdd.f (k : Nat) (l0_0 : List (S36)) (a0_1 : Int) (a1_0 : ByteArray) (a1_1 : ByteArray) (a1_2 : Bool) : Option ((List (S36)) × Int) := (impl_TableOk.f k l0_0 a0_1).bind fun t328 => (if t328 = true then ((impl_FieldOk.f k a1_0 a1_1 a1_2).bind fun t329 => (if t329 = true then ((impl_Table_add.f k l0_0 a0_1 a1_0 a1_1 false).bind fun bt330 => (some (bt330.1, bt330.2))) else (some (([] : List (S36)), 0)))) else (some (([] : List (S36)), 0)))
theorem impl_TableAdd.mono : ∀ a0 a1 a2 a3 a4 k, LeO (impl_TableAdd.f k a0 a1 a2 a3 a4) (impl_TableAdd.f (k + 1) a0 a1 a2 a3 a4) := by
 intro a0 a1 a2 a3 a4 k
 unfold impl_TableAdd.f
 repeat' first
   | (with_reducible exact impl_FieldOk.mono _ _ _ _)
   | (with_reducible exact impl_TableOk.mono _ _ _)
   | (with_reducible exact impl_Table_add.mono _ _ _ _ _ _)
   | (with_reducible exact LeO.refl _)
   | (with_reducible exact LeO.none _)
   | (with_reducible refine LeO.ite ?_ ?_)
   | (with_reducible refine LeO.bind ?_ (fun _ => ?_))
   | exact impl_FieldOk.mono _ _ _ _
   | exact impl_TableOk.mono _ _ _
   | exact impl_Table_add.mono _ _ _ _ _ _
   | exact LeO.none _
   | refine LeO.ite ?_ ?_
   | refine LeO.bind ?_ (fun _ => ?_)
set_option maxHeartbeats 8000000 in
set_option maxRecDepth 100000 in
theorem impl_TableAdd.calls (k : Nat) (A0_0 : Option Addr) (c0_0 : Nat) (l0_0 : List (S36)) (a0_1 : Int) (a1_0 : ByteArray) (a1_1 : ByteArray) (a1_2 : Bool) (r1 : List (S36)) (r2 : Int) (w : World) (hr0_0 : Kd.C k36 w A0_0 l0_0.length l0_0) (hc0_0 : l0_0.length ≤ c0_0) (h : impl_TableAdd.f k l0_0 a0_1 a1_0 a1_1 a1_2 = some (r1, r2)) :
  Calls Try.prog 30 #[.agg #[.slice A0_0 l0_0.length c0_0, .int .i64 a0_1], .agg #[.string a1_0, .string a1_1, .bool a1_2]] w fun e w' => ∃ v0_ : Value, e = .returned (.agg #[v0_, .int .i64 r2]) ∧ Kd.R k36 36 w' w.heap.size (fun _ => True) v0_ r1 ∧ Below w.heap.size w w' := by
 have hu25 := Try.underlying25
 have hu36 := Try.underlying36
 have HR0_0 := Aside0.mk hr0_0
 have HC0_0 := Aside0.mk hc0_0
 clear hr0_0 hc0_0
 have HB := Aside0.mk (Below.refl w.heap.size w)
 have H : ((impl_TableOk.f k l0_0 a0_1).bind fun t328 => (if t328 = true then ((impl_FieldOk.f k a1_0 a1_1 a1_2).bind fun t329 => (if t329 = true then ((impl_Table_add.f k l0_0 a0_1 a1_0 a1_1 false).bind fun bt330 => (some (bt330.1, bt330.2))) else (some (([] : List (S36)), 0)))) else (some (([] : List (S36)), 0)))) = some (r1, r2) := h
 clear h
 replace H := Option.bind_eq_some_iff.mp H
 obtain ⟨t328, A30, H⟩ := H
 replace H : (if t328 = true then ((impl_FieldOk.f k a1_0 a1_1 a1_2).bind fun t329 => (if t329 = true then ((impl_Table_add.f k l0_0 a0_1 a1_0 a1_1 false).bind fun bt330 => (some (bt330.1, bt330.2))) else (some (([] : List (S36)), 0)))) else (some (([] : List (S36)), 0))) = some (r1, r2) := H
 have A3 := Aside0.mk A30
 clear A30
 by_cases c4 : t328 = true
 ·subst c4
  have H1 : ((impl_FieldOk.f k a1_0 a1_1 a1_2).bind fun t329 => (if t329 = true then ((impl_Table_add.f k l0_0 a0_1 a1_0 a1_1 false).bind fun bt330 => (some (bt330.1, bt330.2))) else (some (([] : List (S36)), 0)))) = some (r1, r2) := by rw [if_pos rfl] at H; exact H
  clear H
  have H := H1
  clear H1
  replace H := Option.bind_eq_some_iff.mp H
  obtain ⟨t329, A50, H⟩ := H
  replace H : (if t329 = true then ((impl_Table_add.f k l0_0 a0_1 a1_0 a1_1 false).bind fun bt330 => (some (bt330.1, bt330.2))) else (some (([] : List (S36)), 0))) = some (r1, r2) := H
  have A5 := Aside0.mk A50
  clear A50
  have HC6 := Aside0.mk H
  clear H
  go_enter Try.func30, Try.ntmps30
  go_upto_if 12 with (first | ((with_reducible refine gd 2 rfl ?_); refine bx (N := 2) (cs := #[.slice A0_0 l0_0.length c0_0, .int .i64 a0_1]) (t := 25) ?_; intro gb325 hg w7 hbox hb; have BK325 := Aside0.mk (hbox); have GW325 := Aside0.mk ((by rw [hg]; exact (below_size (zb HB)) : w.heap.size ≤ gb325)); have GE325 := Aside0.mk ((by rw [hg]; exact (below_size (zb HB)) : w.heap.size ≤ gb325)); replace HB := Aside0.mk (below_step (zb HB) hb); clear hb hbox hg) | ((with_reducible refine gd 3 rfl ?_); refine bx (N := 3) (cs := #[.string a1_0, .string a1_1, .bool a1_2]) (t := 36) ?_; intro gb326 hg w8 hbox hb; have BK326 := Aside0.mk (hbox); have GW326 := Aside0.mk ((by rw [hg]; exact (below_size (zb HB)) : w.heap.size ≤ gb326)); have GE326 := Aside0.mk ((by rw [hg]; exact (below_size (zb HB)) : w.heap.size ≤ gb326)); replace HB := Aside0.mk (below_step (zb HB) hb); have NB325_326 := Aside0.mk ((by rw [hg]; exact Nat.ne_of_lt (blk_lt (g := gb325) (o := .cells #[.slice A0_0 l0_0.length c0_0, .int .i64 a0_1] 25 (0, 0)) (zk BK325)) : gb325 ≠ gb326)); have NB326_325 := Aside0.mk ((by rw [hg]; exact Nat.ne_of_gt (blk_lt (g := gb325) (o := .cells #[.slice A0_0 l0_0.length c0_0, .int .i64 a0_1] 25 (0, 0)) (zk BK325)) : gb326 ≠ gb325)); replace BK325 := Aside0.mk (blk_below (g := gb325) (o := .cells #[.slice A0_0 l0_0.length c0_0, .int .i64 a0_1] 25 (0, 0)) (zk BK325) hb); clear hb hbox hg) | ((with_reducible refine gd 4 rfl ?_); refine bx (N := 4) (cs := #[.slice none 0 0, .int .i64 0]) (t := 25) ?_; intro gb327 hg w9 hbox hb; have BK327 := Aside0.mk (hbox); have GW327 := Aside0.mk ((by rw [hg]; exact (below_size (zb HB)) : w.heap.size ≤ gb327)); have GE327 := Aside0.mk ((by rw [hg]; exact (below_size (zb HB)) : w.heap.size ≤ gb327)); replace HB := Aside0.mk (below_step (zb HB) hb); have NB325_327 := Aside0.mk ((by rw [hg]; exact Nat.ne_of_lt (blk_lt (g := gb325) (o := .cells #[.slice A0_0 l0_0.length c0_0, .int .i64 a0_1] 25 (0, 0)) (zk BK325)) : gb325 ≠ gb327)); have NB327_325 := Aside0.mk ((by rw [hg]; exact Nat.ne_of_gt (blk_lt (g := gb325) (o := .cells #[.slice A0_0 l0_0.length c0_0, .int .i64 a0_1] 25 (0, 0)) (zk BK325)) : gb327 ≠ gb325)); replace BK325 := Aside0.mk (blk_below (g := gb325) (o := .cells #[.slice A0_0 l0_0.length c0_0, .int .i64 a0_1] 25 (0, 0)) (zk BK325) hb); have NB326_327 := Aside0.mk ((by rw [hg]; exact Nat.ne_of_lt (blk_lt (g := gb326) (o := .cells #[.string a1_0, .string a1_1, .bool a1_2] 36 (0, 0)) (zk BK326)) : gb326 ≠ gb327)); have NB327_326 := Aside0.mk ((by rw [hg]; exact Nat.ne_of_gt (blk_lt (g := gb326) (o := .cells #[.string a1_0, .string a1_1, .bool a1_2] 36 (0, 0)) (zk BK326)) : gb327 ≠ gb326)); replace BK326 := Aside0.mk (blk_below (g := gb326) (o := .cells #[.string a1_0, .string a1_1, .bool a1_2] 36 (0, 0)) (zk BK326) hb); clear hb hbox hg; have hnb10 := NB325_326.out; have hnc10 := NB326_325.out; have hnb11 := NB325_327.out; have hnc11 := NB327_325.out; have hcz12_0 : w9.cell? ⟨gb325, 0, none⟩ = some (.slice A0_0 l0_0.length c0_0) := (blk_cell BK325.out 0).trans rfl; have hcz12_1 : w9.cell? ⟨gb325, 1, none⟩ = some (.int .i64 a0_1) := (blk_cell BK325.out 1).trans rfl; have hfz12_0 := blk_frozen BK325.out 0; have hfz12_1 := blk_frozen BK325.out 1) | ((with_reducible refine gq 21 rfl ?_); refine gl (some 6) Try.func21 #[.agg #[.slice A0_0 l0_0.length c0_0, .int .i64 a0_1]] ?_; (with_reducible refine (impl_TableOk.calls k _ _ l0_0 a0_1 true _ ?side1 ?side2 A3.out).mono ?_); (case side1 => exact zc (Kd.C_below HR0_0.out HB.out)); (case side2 => exact HC0_0.out); rintro e w13 ⟨rfl, hb⟩; refine ⟨_, rfl, ?_⟩; replace BK325 := Aside0.mk (blk_below (g := gb325) (o := .cells #[.slice A0_0 l0_0.length c0_0, .int .i64 a0_1] 25 (0, 0)) (zk BK325) hb); replace BK326 := Aside0.mk (blk_below (g := gb326) (o := .cells #[.string a1_0, .string a1_1, .bool a1_2] 36 (0, 0)) (zk BK326) hb); replace BK327 := Aside0.mk (blk_below (g := gb327) (o := .cells #[.slice none 0 0, .int .i64 0] 25 (0, 0)) (zk BK327) hb); replace HB := Aside0.mk (below_step (zb HB) hb); (try clear hb); have hnb14 := NB326_327.out; have hnc14 := NB327_326.out; have hcz15_0 : w13.cell? ⟨gb326, 0, none⟩ = some (.string a1_0) := (blk_cell BK326.out 0).trans rfl; have hcz15_1 : w13.cell? ⟨gb326, 1, none⟩ = some (.string a1_1) := (blk_cell BK326.out 1).trans rfl; have hcz15_2 : w13.cell? ⟨gb326, 2, none⟩ = some (.bool a1_2) := (blk_cell BK326.out 2).trans rfl; have hfz15_0 := blk_frozen BK326.out 0; have hfz15_1 := blk_frozen BK326.out 1; have hfz15_2 := blk_frozen BK326.out 2) | (go_at_call 55; (with_reducible refine (impl_FieldOk.calls k a1_0 a1_1 a1_2 t329 _ A5.out).mono ?_); rintro e w16 ⟨rfl, hb⟩; replace BK325 := Aside0.mk (blk_below (g := gb325) (o := .cells #[.slice A0_0 l0_0.length c0_0, .int .i64 a0_1] 25 (0, 0)) (zk BK325) hb); replace BK326 := Aside0.mk (blk_below (g := gb326) (o := .cells #[.string a1_0, .string a1_1, .bool a1_2] 36 (0, 0)) (zk BK326) hb); replace BK327 := Aside0.mk (blk_below (g := gb327) (o := .cells #[.slice none 0 0, .int .i64 0] 25 (0, 0)) (zk BK327) hb); replace HB := Aside0.mk (below_step (zb HB) hb); (try clear hb)))
  (try simp only [Act.put, s1, s2, s3])
  have H := HC6.out
  clear HC6
  by_cases c17 : t329 = true
  ·subst c17
   have H1 : ((impl_Table_add.f k l0_0 a0_1 a1_0 a1_1 false).bind fun bt330 => (some (bt330.1, bt330.2))) = some (r1, r2) := by rw [if_pos rfl] at H; exact H
   clear H
   have H := H1
   clear H1
   replace H := Option.bind_eq_some_iff.mp H
   obtain ⟨⟨t330, t333⟩, A180, H⟩ := H
   replace H : (some (t330, t333)) = some (r1, r2) := H
   have A18 := Aside0.mk A180
   clear A180
   simp only [Option.some.injEq, Prod.mk.injEq] at H
   obtain ⟨rfl, rfl⟩ := H
   have hnb19 := NB326_325.out
   have hnc19 := NB325_326.out
   have hnb20 := NB326_327.out
   have hnc20 := NB327_326.out
   have hcz21_0 : w16.cell? ⟨gb326, 0, none⟩ = some (.string a1_0) := (blk_cell BK326.out 0).trans rfl
   have hcz21_1 : w16.cell? ⟨gb326, 1, none⟩ = some (.string a1_1) := (blk_cell BK326.out 1).trans rfl
   have hcz21_2 : w16.cell? ⟨gb326, 2, none⟩ = some (.bool a1_2) := (blk_cell BK326.out 2).trans rfl
   have hfz21_0 := blk_frozen BK326.out 0
   have hfz21_1 := blk_frozen BK326.out 1
   have hfz21_2 := blk_frozen BK326.out 2
   go_wp2_with (first | ((with_reducible refine gate_store (t := 4) (p := 14) rfl ?_); refine store_event (t := 4) (p := 14) (v := ?vo_w22) (w1 := (w16.setCell ⟨gb326, 2, none⟩ (.bool false))) ?hg ?ho ?hn ?hr ?_; (case ho => rfl); (case hg => rfl); (case hn => rfl); (case hr => first | (go_simp; done) | (go_simp; rfl)); intro w22 hw; replace BK325 : Aside0 (w22.heap[gb325]? = some (.cells #[.slice A0_0 l0_0.length c0_0, .int .i64 a0_1] 25 (0, 0))) := ⟨(by rw [hw]; exact (by (with_reducible repeat (first | refine blk_drewN ?_ _ | refine blk_drew ?_ | refine blk_alloc ?_ _)); refine blk_far ?_ NB325_326.out _; exact zk BK325))⟩; replace BK326 : Aside0 (w22.heap[gb326]? = some (.cells #[.string a1_0, .string a1_1, .bool false] 36 (0, 0))) := ⟨(by rw [hw]; exact (by (with_reducible repeat (first | refine blk_drewN ?_ _ | refine blk_drew ?_ | refine blk_alloc ?_ _)); refine blk_put (cs := #[.string a1_0, .string a1_1, .bool a1_2]) ?_ 2 _ rfl; exact zk BK326))⟩; replace BK327 : Aside0 (w22.heap[gb327]? = some (.cells #[.slice none 0 0, .int .i64 0] 25 (0, 0))) := ⟨(by rw [hw]; exact (by (with_reducible repeat (first | refine blk_drewN ?_ _ | refine blk_drew ?_ | refine blk_alloc ?_ _)); refine blk_far ?_ NB327_326.out _; exact zk BK327))⟩; replace HB : Aside0 (Below w.heap.size w w22) := ⟨(by rw [hw]; exact (zb HB))⟩; clear hw; have hnb23 := NB325_327.out; have hnc23 := NB327_325.out; have hcz24_0 : w22.cell? ⟨gb325, 0, none⟩ = some (.slice A0_0 l0_0.length c0_0) := (blk_cell BK325.out 0).trans rfl; have hcz24_1 : w22.cell? ⟨gb325, 1, none⟩ = some (.int .i64 a0_1) := (blk_cell BK325.out 1).trans rfl; have hfz24_0 := blk_frozen BK325.out 0; have hfz24_1 := blk_frozen BK325.out 1; have hcz25_0 : w22.cell? ⟨gb326, 0, none⟩ = some (.string a1_0) := (blk_cell BK326.out 0).trans rfl; have hcz25_1 : w22.cell? ⟨gb326, 1, none⟩ = some (.string a1_1) := (blk_cell BK326.out 1).trans rfl; have hcz25_2 : w22.cell? ⟨gb326, 2, none⟩ = some (.bool false) := (blk_cell BK326.out 2).trans rfl; have hfz25_0 := blk_frozen BK326.out 0; have hfz25_1 := blk_frozen BK326.out 1; have hfz25_2 := blk_frozen BK326.out 2) | ((with_reducible refine gq 59 rfl ?_); refine gl (some 17) Try.func59 #[.agg #[.slice A0_0 l0_0.length c0_0, .int .i64 a0_1], .agg #[.string a1_0, .string a1_1, .bool false]] ?_; (with_reducible refine (impl_Table_add.calls k (fun k_ => k_ < w.heap.size) _ _ l0_0 a0_1 a1_0 a1_1 false t330 t333 _ ?side1 A18.out).mono ?_); (case side1 => exact Kd.V_mk HC0_0.out (Kd.F_below (Kd.C_F k36_heap HR0_0.out) (zb HB))); rintro e w26 ⟨v331, rfl, ho0, hb⟩; refine ⟨_, rfl, ?_⟩; have HO332 := Aside0.mk (Kd.R_lower (Kd.R_newB (Kd.R_mono (ok' := fun k_ => True) ho0 (fun _ hk_ => trivial)) (g := gb326) (o := .cells #[.string a1_0, .string a1_1, .bool false] 36 (0, 0)) (zk BK326)) (below_size (zb HB))); replace BK325 := Aside0.mk (blk_below (g := gb325) (o := .cells #[.slice A0_0 l0_0.length c0_0, .int .i64 a0_1] 25 (0, 0)) (zk BK325) hb); replace BK326 := Aside0.mk (blk_below (g := gb326) (o := .cells #[.string a1_0, .string a1_1, .bool false] 36 (0, 0)) (zk BK326) hb); replace BK327 := Aside0.mk (blk_below (g := gb327) (o := .cells #[.slice none 0 0, .int .i64 0] 25 (0, 0)) (zk BK327) hb); replace HB := Aside0.mk (below_step (zb HB) hb); (try clear hb); (try clear ho0); obtain ⟨Ao27, co27, eo27⟩ := Kd.R_slice HO332.out; subst eo27; have hcz28_0 : w26.cell? ⟨gb327, 0, none⟩ = some (.slice none 0 0) := (blk_cell BK327.out 0).trans rfl; have hcz28_1 : w26.cell? ⟨gb327, 1, none⟩ = some (.int .i64 0) := (blk_cell BK327.out 1).trans rfl; have hfz28_0 := blk_frozen BK327.out 0; have hfz28_1 := blk_frozen BK327.out 1))
   refine bodyPost_ret (results_cell_row rfl _ _ gb327 25 #[.slice Ao27 t330.length co27, .int .i64 t333] (0, 0) _ rfl (by (with_reducible repeat (first | refine blk_drewN ?_ _ | refine blk_drew ?_ | refine blk_alloc ?_ _)); refine blk_put (cs := #[.slice Ao27 t330.length co27, .int .i64 0]) ?_ 1 _ rfl; (with_reducible repeat (first | refine blk_drewN ?_ _ | refine blk_drew ?_ | refine blk_alloc ?_ _)); refine blk_put (cs := #[.slice none 0 0, .int .i64 0]) ?_ 0 _ rfl; exact zk BK327) Try.underlying25 rfl (by kernel_rfl)) rfl ?_
   exact ⟨_, ze, by (with_reducible repeat (first | apply Kd.R_alloc | apply Kd.R_drewN | apply Kd.R_drew)); exact Kd.R_mono (Kd.R_far (p := ⟨gb327, 1, none⟩) (Kd.R_far (p := ⟨gb327, 0, none⟩) (Kd.R_types HO332.out BK327.out (by decide)) (fun _ hk => hk.2) (.slice Ao27 t330.length co27)) (fun _ hk => hk.2) (.int .i64 t333)) (fun _ hk => trivial), zb HB⟩
  ·replace c17 := Bool.eq_false_iff.mpr c17
   subst c17
   have H1 : (some (([] : List (S36)), 0)) = some (r1, r2) := by rw [if_neg (show ¬ (false = true) by decide)] at H; exact H
   clear H
   have H := H1
   clear H1
   simp only [Option.some.injEq, Prod.mk.injEq] at H
   obtain ⟨rfl, rfl⟩ := H
   have hnb29 := NB327_325.out
   have hnc29 := NB325_327.out
   have hnb30 := NB327_326.out
   have hnc30 := NB326_327.out
   have hcz31_0 : w16.cell? ⟨gb327, 0, none⟩ = some (.slice none 0 0) := (blk_cell BK327.out 0).trans rfl
   have hcz31_1 : w16.cell? ⟨gb327, 1, none⟩ = some (.int .i64 0) := (blk_cell BK327.out 1).trans rfl
   have hfz31_0 := blk_frozen BK327.out 0
   have hfz31_1 := blk_frozen BK327.out 1
   go_wp2
   refine bodyPost_ret (results_cell_row rfl _ _ gb327 25 #[.slice none 0 0, .int .i64 0] (0, 0) _ rfl (by (with_reducible repeat (first | refine blk_drewN ?_ _ | refine blk_drew ?_ | refine blk_alloc ?_ _)); refine blk_put (cs := #[.slice none 0 0, .int .i64 0]) ?_ 1 _ rfl; (with_reducible repeat (first | refine blk_drewN ?_ _ | refine blk_drew ?_ | refine blk_alloc ?_ _)); refine blk_put (cs := #[.slice none 0 0, .int .i64 0]) ?_ 0 _ rfl; exact zk BK327) Try.underlying25 rfl (by kernel_rfl)) rfl ?_
   exact ⟨_, ze, by first | exact Kd.R_nil _ _ _ _ _ | exact Kd.N_nil _ _ _ _ _ | exact Kd.V_nil _ _ _ _ _ | exact Kd.Q_nil _ _ _ _ _ | exact Kd.S_nil _ _ _ _ _, zb HB⟩
 ·replace c4 := Bool.eq_false_iff.mpr c4
  subst c4
  have H1 : (some (([] : List (S36)), 0)) = some (r1, r2) := by rw [if_neg (show ¬ (false = true) by decide)] at H; exact H
  clear H
  have H := H1
  clear H1
  simp only [Option.some.injEq, Prod.mk.injEq] at H
  obtain ⟨rfl, rfl⟩ := H
  go_enter Try.func30, Try.ntmps30
  go_wp2_with (first | ((with_reducible refine gd 2 rfl ?_); refine bx (N := 2) (cs := #[.slice A0_0 l0_0.length c0_0, .int .i64 a0_1]) (t := 25) ?_; intro gb325 hg w32 hbox hb; have BK325 := Aside0.mk (hbox); have GW325 := Aside0.mk ((by rw [hg]; exact (below_size (zb HB)) : w.heap.size ≤ gb325)); have GE325 := Aside0.mk ((by rw [hg]; exact (below_size (zb HB)) : w.heap.size ≤ gb325)); replace HB := Aside0.mk (below_step (zb HB) hb); clear hb hbox hg) | ((with_reducible refine gd 3 rfl ?_); refine bx (N := 3) (cs := #[.string a1_0, .string a1_1, .bool a1_2]) (t := 36) ?_; intro gb326 hg w33 hbox hb; have BK326 := Aside0.mk (hbox); have GW326 := Aside0.mk ((by rw [hg]; exact (below_size (zb HB)) : w.heap.size ≤ gb326)); have GE326 := Aside0.mk ((by rw [hg]; exact (below_size (zb HB)) : w.heap.size ≤ gb326)); replace HB := Aside0.mk (below_step (zb HB) hb); have NB325_326 := Aside0.mk ((by rw [hg]; exact Nat.ne_of_lt (blk_lt (g := gb325) (o := .cells #[.slice A0_0 l0_0.length c0_0, .int .i64 a0_1] 25 (0, 0)) (zk BK325)) : gb325 ≠ gb326)); have NB326_325 := Aside0.mk ((by rw [hg]; exact Nat.ne_of_gt (blk_lt (g := gb325) (o := .cells #[.slice A0_0 l0_0.length c0_0, .int .i64 a0_1] 25 (0, 0)) (zk BK325)) : gb326 ≠ gb325)); replace BK325 := Aside0.mk (blk_below (g := gb325) (o := .cells #[.slice A0_0 l0_0.length c0_0, .int .i64 a0_1] 25 (0, 0)) (zk BK325) hb); clear hb hbox hg) | ((with_reducible refine gd 4 rfl ?_); refine bx (N := 4) (cs := #[.slice none 0 0, .int .i64 0]) (t := 25) ?_; intro gb327 hg w34 hbox hb; have BK327 := Aside0.mk (hbox); have GW327 := Aside0.mk ((by rw [hg]; exact (below_size (zb HB)) : w.heap.size ≤ gb327)); have GE327 := Aside0.mk ((by rw [hg]; exact (below_size (zb HB)) : w.heap.size ≤ gb327)); replace HB := Aside0.mk (below_step (zb HB) hb); have NB325_327 := Aside0.mk ((by rw [hg]; exact Nat.ne_of_lt (blk_lt (g := gb325) (o := .cells #[.slice A0_0 l0_0.length c0_0, .int .i64 a0_1] 25 (0, 0)) (zk BK325)) : gb325 ≠ gb327)); have NB327_325 := Aside0.mk ((by rw [hg]; exact Nat.ne_of_gt (blk_lt (g := gb325) (o := .cells #[.slice A0_0 l0_0.length c0_0, .int .i64 a0_1] 25 (0, 0)) (zk BK325)) : gb327 ≠ gb325)); replace BK325 := Aside0.mk (blk_below (g := gb325) (o := .cells #[.slice A0_0 l0_0.length c0_0, .int .i64 a0_1] 25 (0, 0)) (zk BK325) hb); have NB326_327 := Aside0.mk ((by rw [hg]; exact Nat.ne_of_lt (blk_lt (g := gb326) (o := .cells #[.string a1_0, .string a1_1, .bool a1_2] 36 (0, 0)) (zk BK326)) : gb326 ≠ gb327)); have NB327_326 := Aside0.mk ((by rw [hg]; exact Nat.ne_of_gt (blk_lt (g := gb326) (o := .cells #[.string a1_0, .string a1_1, .bool a1_2] 36 (0, 0)) (zk BK326)) : gb327 ≠ gb326)); replace BK326 := Aside0.mk (blk_below (g := gb326) (o := .cells #[.string a1_0, .string a1_1, .bool a1_2] 36 (0, 0)) (zk BK326) hb); clear hb hbox hg; have hnb35 := NB325_326.out; have hnc35 := NB326_325.out; have hnb36 := NB325_327.out; have hnc36 := NB327_325.out; have hcz37_0 : w34.cell? ⟨gb325, 0, none⟩ = some (.slice A0_0 l0_0.length c0_0) := (blk_cell BK325.out 0).trans rfl; have hcz37_1 : w34.cell? ⟨gb325, 1, none⟩ = some (.int .i64 a0_1) := (blk_cell BK325.out 1).trans rfl; have hfz37_0 := blk_frozen BK325.out 0; have hfz37_1 := blk_frozen BK325.out 1) | ((with_reducible refine gq 21 rfl ?_); refine gl (some 6) Try.func21 #[.agg #[.slice A0_0 l0_0.length c0_0, .int .i64 a0_1]] ?_; (with_reducible refine (impl_TableOk.calls k _ _ l0_0 a0_1 false _ ?side1 ?side2 A3.out).mono ?_); (case side1 => exact zc (Kd.C_below HR0_0.out HB.out)); (case side2 => exact HC0_0.out); rintro e w38 ⟨rfl, hb⟩; refine ⟨_, rfl, ?_⟩; replace BK325 := Aside0.mk (blk_below (g := gb325) (o := .cells #[.slice A0_0 l0_0.length c0_0, .int .i64 a0_1] 25 (0, 0)) (zk BK325) hb); replace BK326 := Aside0.mk (blk_below (g := gb326) (o := .cells #[.string a1_0, .string a1_1, .bool a1_2] 36 (0, 0)) (zk BK326) hb); replace BK327 := Aside0.mk (blk_below (g := gb327) (o := .cells #[.slice none 0 0, .int .i64 0] 25 (0, 0)) (zk BK327) hb); replace HB := Aside0.mk (below_step (zb HB) hb); (try clear hb); have hnb39 := NB327_326.out; have hnc39 := NB326_327.out; have hcz40_0 : w38.cell? ⟨gb327, 0, none⟩ = some (.slice none 0 0) := (blk_cell BK327.out 0).trans rfl; have hcz40_1 : w38.cell? ⟨gb327, 1, none⟩ = some (.int .i64 0) := (blk_cell BK327.out 1).trans rfl; have hfz40_0 := blk_frozen BK327.out 0; have hfz40_1 := blk_frozen BK327.out 1))
  refine bodyPost_ret (results_cell_row rfl _ _ gb327 25 #[.slice none 0 0, .int .i64 0] (0, 0) _ rfl (by (with_reducible repeat (first | refine blk_drewN ?_ _ | refine blk_drew ?_ | refine blk_alloc ?_ _)); refine blk_put (cs := #[.slice none 0 0, .int .i64 0]) ?_ 1 _ rfl; (with_reducible repeat (first | refine blk_drewN ?_ _ | refine blk_drew ?_ | refine blk_alloc ?_ _)); refine blk_put (cs := #[.slice none 0 0, .int .i64 0]) ?_ 0 _ rfl; exact zk BK327) Try.underlying25 rfl (by kernel_rfl)) rfl ?_
  exact ⟨_, ze, by first | exact Kd.R_nil _ _ _ _ _ | exact Kd.N_nil _ _ _ _ _ | exact Kd.V_nil _ _ _ _ _ | exact Kd.Q_nil _ _ _ _ _ | exact Kd.S_nil _ _ _ _ _, zb HB⟩

/-! ### laws_FnLimitNone: function 7 -/
-- thin
def laws_FnLimitNone.j0 : Nat → Int → Bool → List (S36) → Int → List (S36) → Int → Option (Bool)
 | 0, _, _, _, _, _, _ => none
 | k + 1, x4, x29, x340000, x340001, x345000, x345001 => if x29 = true then ((spec_TableLimit.f k x340000 x340001 x4).bind fun bt351 => ((laws_lkTable.f k x345000 x345001 bt351.1 bt351.2).bind fun t355 => (some t355))) else ((impl_TableLimit.f k x340000 x340001 0).bind fun bt356 => ((impl_TableAdd.f k bt356.1 bt356.2 (⟨#[97]⟩ : ByteArray) (⟨#[]⟩ : ByteArray) false).bind fun bt361 => (if (bt356.1.length : Int) = 0 then (if bt356.2 = 0 then (if (bt361.1.length : Int) = 0 then ((impl_TableOk.f k bt361.1 bt361.2).bind fun t366 => (some t366)) else (some false)) else (some false)) else (some false))))
def laws_FnLimitNone.f (k : Nat) (l0 : List Int) : Option (Bool) := if (l0.length : Int) > 1048576 then (some true) else ((spec_DrawTableLimit.f k l0).bind fun bt334 => ((impl_TableLimit.f k bt334.1 bt334.2.1 bt334.2.2).bind fun bt340 => ((spec_TableLimit.f k bt334.1 bt334.2.1 bt334.2.2).bind fun bt345 => ((laws_lkTable.f k bt340.1 bt340.2 bt345.1 bt345.2).bind fun t349 => (if t349 = true then ((spec_TableOk.f k bt334.1 bt334.2.1).bind fun t350 => (laws_FnLimitNone.j0 k bt334.2.2 (!t350) bt334.1 bt334.2.1 bt340.1 bt340.2)) else (laws_FnLimitNone.j0 k bt334.2.2 true bt334.1 bt334.2.1 bt340.1 bt340.2))))))
theorem laws_FnLimitNone.mono_l : ∀ k, (∀ y0 y1 y2 y3 y4 y5, LeO (laws_FnLimitNone.j0 k y0 y1 y2 y3 y4 y5) (laws_FnLimitNone.j0 (k + 1) y0 y1 y2 y3 y4 y5))
 | 0 => fun _ _ _ _ _ _ r h => by simp [laws_FnLimitNone.j0] at h
 | k + 1 => by
  have ih0 := laws_FnLimitNone.mono_l k
  ·intro y0 y1 y2 y3 y4 y5
   unfold laws_FnLimitNone.j0
   repeat' first
   | (with_reducible exact ih0 _ _ _ _ _ _)
   | (with_reducible exact impl_TableAdd.mono _ _ _ _ _ _)
   | (with_reducible exact impl_TableLimit.mono _ _ _ _)
   | (with_reducible exact impl_TableOk.mono _ _ _)
   | (with_reducible exact laws_lkTable.mono _ _ _ _ _)
   | (with_reducible exact spec_DrawTableLimit.mono _ _)
   | (with_reducible exact spec_TableLimit.mono _ _ _ _)
   | (with_reducible exact spec_TableOk.mono _ _ _)
   | (with_reducible exact LeO.refl _)
   | (with_reducible exact LeO.none _)
   | (with_reducible refine LeO.ite ?_ ?_)
   | (with_reducible refine LeO.bind ?_ (fun _ => ?_))
   | exact ih0 _ _ _ _ _ _
   | exact impl_TableAdd.mono _ _ _ _ _ _
   | exact impl_TableLimit.mono _ _ _ _
   | exact impl_TableOk.mono _ _ _
   | exact laws_lkTable.mono _ _ _ _ _
   | exact spec_DrawTableLimit.mono _ _
   | exact spec_TableLimit.mono _ _ _ _
   | exact spec_TableOk.mono _ _ _
   | exact LeO.none _
   | refine LeO.ite ?_ ?_
   | refine LeO.bind ?_ (fun _ => ?_)
theorem laws_FnLimitNone.mono : ∀ a0 k, LeO (laws_FnLimitNone.f k a0) (laws_FnLimitNone.f (k + 1) a0) := by
 intro a0 k
 have ih0 := laws_FnLimitNone.mono_l k
 unfold laws_FnLimitNone.f
 repeat' first
   | (with_reducible exact ih0 _ _ _ _ _ _)
   | (with_reducible exact impl_TableAdd.mono _ _ _ _ _ _)
   | (with_reducible exact impl_TableLimit.mono _ _ _ _)
   | (with_reducible exact impl_TableOk.mono _ _ _)
   | (with_reducible exact laws_lkTable.mono _ _ _ _ _)
   | (with_reducible exact spec_DrawTableLimit.mono _ _)
   | (with_reducible exact spec_TableLimit.mono _ _ _ _)
   | (with_reducible exact spec_TableOk.mono _ _ _)
   | (with_reducible exact LeO.refl _)
   | (with_reducible exact LeO.none _)
   | (with_reducible refine LeO.ite ?_ ?_)
   | (with_reducible refine LeO.bind ?_ (fun _ => ?_))
   | exact ih0 _ _ _ _ _ _
   | exact impl_TableAdd.mono _ _ _ _ _ _
   | exact impl_TableLimit.mono _ _ _ _
   | exact impl_TableOk.mono _ _ _
   | exact laws_lkTable.mono _ _ _ _ _
   | exact spec_DrawTableLimit.mono _ _
   | exact spec_TableLimit.mono _ _ _ _
   | exact spec_TableOk.mono _ _ _
   | exact LeO.none _
   | refine LeO.ite ?_ ?_
   | refine LeO.bind ?_ (fun _ => ?_)
def laws_FnLimitNone.T5 : Bool × List (List Nat × List Nat) := (true, [([], []), ([], []), ([], []), ([1, 2], [1, 2]), ([0, 3, 3], [0, 3]), ([4], [4]), ([5, 4], [5]), ([6], [6]), ([7, 6, 6], [6, 7]), ([8, 6], [6, 8]), ([6, 9], [6, 9])])
def laws_FnLimitNone.B5 : List Nat := [0, 0, 0, 6, 15, 31, 63, 127, 255, 511, 1023]
theorem laws_FnLimitNone.tab5 : rtab .any (opsOf Try.f7 5) = laws_FnLimitNone.T5 := by kernel_rfl
theorem laws_FnLimitNone.bits5 : waitsOk laws_FnLimitNone.T5.2 laws_FnLimitNone.B5 = true := by kernel_rfl
set_option maxHeartbeats 8000000 in
set_option maxRecDepth 100000 in
theorem laws_FnLimitNone.calls (k : Nat) (A0 : Option Addr) (c0 : Nat) (l0 : List Int) (r : Bool) (w : World) (hr0 : Kd.C (Kd.int .u8) w A0 l0.length l0) (hc0 : l0.length ≤ c0) (h : laws_FnLimitNone.f k l0 = some r) :
  Calls Try.prog 7 #[.slice A0 l0.length c0] w fun e w' => e = .returned (.bool r) ∧ Below w.heap.size w w' := by
 have hu25 := Try.underlying25
 have hu36 := Try.underlying36
 have HR0 := Aside0.mk hr0
 have HC0 := Aside0.mk hc0
 clear hr0 hc0
 have HB := Aside0.mk (Below.refl w.heap.size w)
 have H : (if (l0.length : Int) > 1048576 then (some true) else ((spec_DrawTableLimit.f k l0).bind fun bt334 => ((impl_TableLimit.f k bt334.1 bt334.2.1 bt334.2.2).bind fun bt340 => ((spec_TableLimit.f k bt334.1 bt334.2.1 bt334.2.2).bind fun bt345 => ((laws_lkTable.f k bt340.1 bt340.2 bt345.1 bt345.2).bind fun t349 => (if t349 = true then ((spec_TableOk.f k bt334.1 bt334.2.1).bind fun t350 => (laws_FnLimitNone.j0 k bt334.2.2 (!t350) bt334.1 bt334.2.1 bt340.1 bt340.2)) else (laws_FnLimitNone.j0 k bt334.2.2 true bt334.1 bt334.2.1 bt340.1 bt340.2))))))) = some r := h
 clear h
 by_cases c2 : (l0.length : Int) > 1048576
 ·rw [if_pos c2] at H
  have c2b0 : decide (1048576 < (l0.length : Int)) = true := decide_eq_true c2
  have c2b1 : decide (1048576 < l0.length) = true := decide_eq_true (by omega)
  clear c2
  obtain rfl := Option.some.inj H
  go_enter Try.func7, Try.ntmps7
  go_wp2
  go_ret
  exact ⟨ze, zb HB⟩
 ·rw [if_neg c2] at H
  have c2b0 : decide (1048576 < (l0.length : Int)) = false := decide_eq_false c2
  have c2b1 : decide (1048576 < l0.length) = false := decide_eq_false (by omega)
  clear c2
  replace H := Option.bind_eq_some_iff.mp H
  obtain ⟨⟨t334, t337, t338⟩, A30, H⟩ := H
  replace H : ((impl_TableLimit.f k t334 t337 t338).bind fun bt340 => ((spec_TableLimit.f k t334 t337 t338).bind fun bt345 => ((laws_lkTable.f k bt340.1 bt340.2 bt345.1 bt345.2).bind fun t349 => (if t349 = true then ((spec_TableOk.f k t334 t337).bind fun t350 => (laws_FnLimitNone.j0 k t338 (!t350) t334 t337 bt340.1 bt340.2)) else (laws_FnLimitNone.j0 k t338 true t334 t337 bt340.1 bt340.2))))) = some r := H
  have A3 := Aside0.mk A30
  clear A30
  replace H := Option.bind_eq_some_iff.mp H
  obtain ⟨⟨t340, t343⟩, A40, H⟩ := H
  replace H : ((spec_TableLimit.f k t334 t337 t338).bind fun bt345 => ((laws_lkTable.f k t340 t343 bt345.1 bt345.2).bind fun t349 => (if t349 = true then ((spec_TableOk.f k t334 t337).bind fun t350 => (laws_FnLimitNone.j0 k t338 (!t350) t334 t337 t340 t343)) else (laws_FnLimitNone.j0 k t338 true t334 t337 t340 t343)))) = some r := H
  have A4 := Aside0.mk A40
  clear A40
  have HC5 := Aside0.mk H
  clear H
  go_enter Try.func7, Try.ntmps7
  go_upto_region 5 with (first | ((with_reducible refine gq 15 rfl ?_); refine gl (some 13) Try.func15 #[.slice A0 l0.length c0] ?_; (with_reducible refine (spec_DrawTableLimit.calls k _ _ l0 t334 t337 t338 _ ?side1 ?side2 A3.out).mono ?_); (case side1 => exact zc HR0.out); (case side2 => exact HC0.out); rintro e w6 ⟨v335, rfl, ho0, hb⟩; refine ⟨_, rfl, ?_⟩; have HO336 := Aside0.mk (Kd.R_lower ho0 (below_size (zb HB))); replace HB := Aside0.mk (below_step (zb HB) hb); (try clear hb); (try clear ho0)) | ((with_reducible refine gd 3 rfl ?_); (try (refine gate_guard (by rfl) ?_; dsimp only)); refine bx (N := 3) (cs := #[.slice none 0 0, .int .i64 0]) (t := 25) ?_; intro gb339 hg w7 hbox hb; replace HO336 := Aside0.mk (Kd.R_below (zr HO336) hb); have BK339 := Aside0.mk (hbox); have GW339 := Aside0.mk ((by rw [hg]; exact (below_size (zb HB)) : w.heap.size ≤ gb339)); have GE339 := Aside0.mk ((by rw [hg]; exact (below_size (zb HB)) : w.heap.size ≤ gb339)); replace HB := Aside0.mk (below_step (zb HB) hb); clear hb hbox hg; obtain ⟨Ao8, co8, eo8⟩ := Kd.R_slice HO336.out; subst eo8; have hcz9_0 : w7.cell? ⟨gb339, 0, none⟩ = some (.slice none 0 0) := (blk_cell BK339.out 0).trans rfl; have hcz9_1 : w7.cell? ⟨gb339, 1, none⟩ = some (.int .i64 0) := (blk_cell BK339.out 1).trans rfl; have hfz9_0 := blk_frozen BK339.out 0; have hfz9_1 := blk_frozen BK339.out 1) | ((with_reducible refine gq 16 rfl ?_); refine gl (some 18) Try.func16 #[.agg #[.slice Ao8 t334.length co8, .int .i64 t337], .int .i64 t338] ?_; (with_reducible refine (impl_TableLimit.calls k _ _ t334 t337 t338 t340 t343 _ ?side1 ?side2 A4.out).mono ?_); (case side1 => refine (Kd.R_reads' (e := 36) (base := w.heap.size) (ok := fun k_ => True) (n := t334.length) (c := co8) ?_).2.2; exact (by (with_reducible repeat (first | apply Kd.R_alloc | apply Kd.R_drewN | apply Kd.R_drew)); exact (Kd.R_mono (Kd.R_far (p := ⟨gb339, 1, none⟩) (Kd.R_far (p := ⟨gb339, 0, none⟩) (Kd.R_types HO336.out BK339.out (by decide)) (fun _ hk => hk.2) (.slice Ao8 t334.length co8)) (fun _ hk => hk.2) (.int .i64 t337)) (fun _ h_ => h_.1)))); (case side2 => exact (Kd.R_reads' HO336.out).2.1); rintro e w10 ⟨v341, rfl, ho0, hb⟩; refine ⟨_, rfl, ?_⟩; have HO342 := Aside0.mk (Kd.R_lower (Kd.R_new' ho0 (Kd.R_lt (by (with_reducible repeat (first | apply Kd.R_alloc | apply Kd.R_drewN | apply Kd.R_drew)); exact (Kd.R_mono (Kd.R_far (p := ⟨gb339, 1, none⟩) (Kd.R_far (p := ⟨gb339, 0, none⟩) (Kd.R_types HO336.out BK339.out (by decide)) (fun _ hk => hk.2) (.slice Ao8 t334.length co8)) (fun _ hk => hk.2) (.int .i64 t337)) (fun _ h_ => h_.1))))) (below_size (zb HB))); replace HO336 := Aside0.mk (Kd.R_elder' (by (with_reducible repeat (first | apply Kd.R_alloc | apply Kd.R_drewN | apply Kd.R_drew)); exact (Kd.R_mono (Kd.R_far (p := ⟨gb339, 1, none⟩) (Kd.R_far (p := ⟨gb339, 0, none⟩) (Kd.R_types HO336.out BK339.out (by decide)) (fun _ hk => hk.2) (.slice Ao8 t334.length co8)) (fun _ hk => hk.2) (.int .i64 t337)) (fun _ h_ => h_.1))) (Kd.R_base ho0) hb); replace BK339 := Aside0.mk (blk_below (g := gb339) (o := .cells #[.slice Ao8 t334.length co8, .int .i64 t337] 25 (0, 0)) (by (with_reducible repeat (first | refine blk_drewN ?_ _ | refine blk_drew ?_ | refine blk_alloc ?_ _)); refine blk_put (cs := #[.slice Ao8 t334.length co8, .int .i64 0]) ?_ 1 _ rfl; (with_reducible repeat (first | refine blk_drewN ?_ _ | refine blk_drew ?_ | refine blk_alloc ?_ _)); refine blk_put (cs := #[.slice none 0 0, .int .i64 0]) ?_ 0 _ rfl; exact zk BK339) hb); replace HB := Aside0.mk (below_step (zb HB) hb); (try clear hb); (try clear hk); (try clear ho0)) | ((with_reducible refine gd 5 rfl ?_); (try (refine gate_guard (by rfl) ?_; dsimp only)); refine bx (N := 5) (cs := #[.slice none 0 0, .int .i64 0]) (t := 25) ?_; intro gb344 hg w11 hbox hb; replace HO336 := Aside0.mk (Kd.R_below (zr HO336) hb); replace HO342 := Aside0.mk (Kd.R_below (zr HO342) hb); have BK344 := Aside0.mk (hbox); have GW344 := Aside0.mk ((by rw [hg]; exact (below_size (zb HB)) : w.heap.size ≤ gb344)); have GE344 := Aside0.mk ((by rw [hg]; exact (below_size (zb HB)) : w.heap.size ≤ gb344)); replace HB := Aside0.mk (below_step (zb HB) hb); have NB339_344 := Aside0.mk ((by rw [hg]; exact Nat.ne_of_lt (blk_lt (g := gb339) (o := .cells #[.slice Ao8 t334.length co8, .int .i64 t337] 25 (0, 0)) (zk BK339)) : gb339 ≠ gb344)); have NB344_339 := Aside0.mk ((by rw [hg]; exact Nat.ne_of_gt (blk_lt (g := gb339) (o := .cells #[.slice Ao8 t334.length co8, .int .i64 t337] 25 (0, 0)) (zk BK339)) : gb344 ≠ gb339)); replace BK339 := Aside0.mk (blk_below (g := gb339) (o := .cells #[.slice Ao8 t334.length co8, .int .i64 t337] 25 (0, 0)) (zk BK339) hb); clear hb hbox hg; obtain ⟨Ao12, co12, eo12⟩ := Kd.R_slice HO342.out; subst eo12; have hnb13 := NB344_339.out; have hnc13 := NB339_344.out; have hcz14_0 : w11.cell? ⟨gb344, 0, none⟩ = some (.slice none 0 0) := (blk_cell BK344.out 0).trans rfl; have hcz14_1 : w11.cell? ⟨gb344, 1, none⟩ = some (.int .i64 0) := (blk_cell BK344.out 1).trans rfl; have hfz14_0 := blk_frozen BK344.out 0; have hfz14_1 := blk_frozen BK344.out 1))
  (try simp only [Act.put, s1, s2, s3])
  go_cut [29] (fun v29 wc => ∃ (kq : Nat) (x29_4 : Bool), v29 = .bool x29_4 ∧ Aside0 (laws_FnLimitNone.j0 kq t338 x29_4 t334 t337 t340 t343 = some r) ∧ Aside0 (kq ≤ k) ∧ Aside0 (Kd.R k36 36 wc w.heap.size (fun k_ => some k_ ≠ ((.slice Ao12 t340.length co12) : Value).ownBlock) (.slice Ao8 t334.length co8) t334) ∧ Aside0 (Kd.R k36 36 wc w.heap.size (fun k_ => some k_ ≠ ((.slice Ao8 t334.length co8) : Value).ownBlock) (.slice Ao12 t340.length co12) t340) ∧ Aside0 (wc.heap[gb339]? = some (.cells #[(.slice Ao8 t334.length co8), .int .i64 t337] 25 (0, 0))) ∧ Aside0 (wc.heap[gb344]? = some (.cells #[(.slice Ao12 t340.length co12), .int .i64 t343] 25 (0, 0))) ∧ Aside0 (Below w.heap.size w wc))
  case first =>
   have H := HC5.out
   clear HC5
   replace H := Option.bind_eq_some_iff.mp H
   obtain ⟨⟨t345, t348⟩, A150, H⟩ := H
   replace H : ((laws_lkTable.f k t340 t343 t345 t348).bind fun t349 => (if t349 = true then ((spec_TableOk.f k t334 t337).bind fun t350 => (laws_FnLimitNone.j0 k t338 (!t350) t334 t337 t340 t343)) else (laws_FnLimitNone.j0 k t338 true t334 t337 t340 t343))) = some r := H
   have A15 := Aside0.mk A150
   clear A150
   replace H := Option.bind_eq_some_iff.mp H
   obtain ⟨t349, A160, H⟩ := H
   replace H : (if t349 = true then ((spec_TableOk.f k t334 t337).bind fun t350 => (laws_FnLimitNone.j0 k t338 (!t350) t334 t337 t340 t343)) else (laws_FnLimitNone.j0 k t338 true t334 t337 t340 t343)) = some r := H
   have A16 := Aside0.mk A160
   clear A160
   by_cases c17 : t349 = true
   ·subst c17
    have H1 : ((spec_TableOk.f k t334 t337).bind fun t350 => (laws_FnLimitNone.j0 k t338 (!t350) t334 t337 t340 t343)) = some r := by rw [if_pos rfl] at H; exact H
    clear H
    have H := H1
    clear H1
    replace H := Option.bind_eq_some_iff.mp H
    obtain ⟨t350, A180, H⟩ := H
    replace H : (laws_FnLimitNone.j0 k t338 (!t350) t334 t337 t340 t343) = some r := H
    have A18 := Aside0.mk A180
    clear A180
    have H' := Aside0.mk H
    clear H
    try go_wp2
    have n0_ : Aside0 (Kd.R k36 36 ((w11.setCell ⟨gb344, 0, none⟩ (.slice Ao12 t340.length co12)).setCell ⟨gb344, 1, none⟩ (.int .i64 t343)) w.heap.size (fun k_ => some k_ ≠ (.slice Ao12 t340.length co12 : Value).ownBlock) (.slice Ao8 t334.length co8) t334) := ⟨by (with_reducible repeat (first | apply Kd.R_alloc | apply Kd.R_drewN | apply Kd.R_drew)); exact Kd.R_mono (Kd.R_far (p := ⟨gb344, 1, none⟩) (Kd.R_far (p := ⟨gb344, 0, none⟩) (Kd.R_types HO336.out BK344.out (by decide)) (fun _ hk => hk.2) (.slice Ao12 t340.length co12)) (fun _ hk => hk.2) (.int .i64 t343)) (fun _ hk => hk.1.2)⟩
    have n1_ : Aside0 (Kd.R k36 36 ((w11.setCell ⟨gb344, 0, none⟩ (.slice Ao12 t340.length co12)).setCell ⟨gb344, 1, none⟩ (.int .i64 t343)) w.heap.size (fun k_ => some k_ ≠ (.slice Ao8 t334.length co8 : Value).ownBlock) (.slice Ao12 t340.length co12) t340) := ⟨by (with_reducible repeat (first | apply Kd.R_alloc | apply Kd.R_drewN | apply Kd.R_drew)); exact Kd.R_mono (Kd.R_far (p := ⟨gb344, 1, none⟩) (Kd.R_far (p := ⟨gb344, 0, none⟩) (Kd.R_types HO342.out BK344.out (by decide)) (fun _ hk => hk.2) (.slice Ao12 t340.length co12)) (fun _ hk => hk.2) (.int .i64 t343)) (fun _ hk => hk.1.2)⟩
    have n2_ : Aside0 (((w11.setCell ⟨gb344, 0, none⟩ (.slice Ao12 t340.length co12)).setCell ⟨gb344, 1, none⟩ (.int .i64 t343)).heap[gb339]? = some (.cells #[.slice Ao8 t334.length co8, .int .i64 t337] 25 (0, 0))) := ⟨by (with_reducible repeat (first | refine blk_drewN ?_ _ | refine blk_drew ?_ | refine blk_alloc ?_ _)); refine blk_far ?_ NB339_344.out _; (with_reducible repeat (first | refine blk_drewN ?_ _ | refine blk_drew ?_ | refine blk_alloc ?_ _)); refine blk_far ?_ NB339_344.out _; exact zk BK339⟩
    have n3_ : Aside0 (((w11.setCell ⟨gb344, 0, none⟩ (.slice Ao12 t340.length co12)).setCell ⟨gb344, 1, none⟩ (.int .i64 t343)).heap[gb344]? = some (.cells #[.slice Ao12 t340.length co12, .int .i64 t343] 25 (0, 0))) := ⟨by (with_reducible repeat (first | refine blk_drewN ?_ _ | refine blk_drew ?_ | refine blk_alloc ?_ _)); refine blk_put (cs := #[.slice Ao12 t340.length co12, .int .i64 0]) ?_ 1 _ rfl; (with_reducible repeat (first | refine blk_drewN ?_ _ | refine blk_drew ?_ | refine blk_alloc ?_ _)); refine blk_put (cs := #[.slice none 0 0, .int .i64 0]) ?_ 0 _ rfl; exact zk BK344⟩
    have n4_ : Aside0 (Below w.heap.size w ((w11.setCell ⟨gb344, 0, none⟩ (.slice Ao12 t340.length co12)).setCell ⟨gb344, 1, none⟩ (.int .i64 t343))) := ⟨zb HB⟩
    (try clear HO336)
    (try clear HO342)
    (try clear BK339)
    (try clear BK344)
    (try clear HB)
    generalize ((w11.setCell ⟨gb344, 0, none⟩ (.slice Ao12 t340.length co12)).setCell ⟨gb344, 1, none⟩ (.int .i64 t343)) = w19 at n0_ n1_ n2_ n3_ n4_ ⊢
    have HO336 := n0_
    have HO342 := n1_
    have BK339 := n2_
    have BK344 := n3_
    have HB := n4_
    clear n0_ n1_ n2_ n3_ n4_
    replace HO336 := Aside0.mk (Kd.R_drew HO336.out)
    replace HO342 := Aside0.mk (Kd.R_drew HO342.out)
    replace BK339 := Aside0.mk (blk_drew BK339.out)
    replace BK344 := Aside0.mk (blk_drew BK344.out)
    replace HB := Aside0.mk (below_drew1 HB.out)
    refine start_ (n := 11) (S := fun w' => w'.cell? ⟨gb344, 0, none⟩ = some (.slice Ao12 t340.length co12) ∧ w'.cell? ⟨gb344, 1, none⟩ = some (.int .i64 t343) ∧ w'.cell? ⟨gb339, 0, none⟩ = some (.slice Ao8 t334.length co8) ∧ w'.cell? ⟨gb339, 1, none⟩ = some (.int .i64 t337)) (ds := []) #[false, false, false, false, false, false, false, false, false, false, false] (by kernel_rfl) rfl rfl ⟨(blk_cell BK344.out 0).trans rfl, (blk_cell BK344.out 1).trans rfl, (blk_cell BK339.out 0).trans rfl, (blk_cell BK339.out 1).trans rfl⟩ (fun hHeld => ?_); refine with_tabW laws_FnLimitNone.tab5 laws_FnLimitNone.bits5 (fun HT_ HW_ => ?_)
    generalize w19.drew = w20 at HO336 HO342 BK339 BK344 HB hHeld ⊢
    refine pu 2 (some 21) (bm 11 4) rfl rfl ?_
    refine tk4 0 (some 19) (bm 11 5) rfl rfl hHeld ?_
    refine tk4 1 (some 20) (bm 11 7) rfl rfl hHeld ?_
    refine one_ (i := 3) (N := some 22) (bm 11 15) rfl rfl (one_of HT_.out (by kernel_rfl)) (by decide) (fun K hK => ?_)
    refine gs Try.func18 #[.agg #[.slice Ao8 t334.length co8, .int .i64 t337], .int .i64 t338] ?_
    with_reducible refine (spec_TableLimit.calls k _ _ t334 t337 t338 t345 t348 _ ?side1 ?side2 A15.out).mono ?_
    (case side1 => exact zc (Kd.R_reads' HO336.out).2.2)
    (case side2 => exact (Kd.R_reads' HO336.out).2.1)
    rintro e w21 ⟨v346, rfl, ho0, hb⟩
    refine ⟨_, rfl, ?_⟩
    have HO347 := Aside0.mk (Kd.R_lower (Kd.R_new' (Kd.R_new' ho0 (Kd.R_lt (zr HO336))) (Kd.R_lt (zr HO342))) (below_size (zb HB)))
    replace HO336 := Aside0.mk (Kd.R_elder' (zr HO336) (Kd.R_base ho0) hb)
    replace HO342 := Aside0.mk (Kd.R_elder' (zr HO342) (Kd.R_base ho0) hb)
    replace BK339 := Aside0.mk (blk_below (g := gb339) (o := .cells #[.slice Ao8 t334.length co8, .int .i64 t337] 25 (0, 0)) (zk BK339) hb)
    replace BK344 := Aside0.mk (blk_below (g := gb344) (o := .cells #[.slice Ao12 t340.length co12, .int .i64 t343] 25 (0, 0)) (zk BK344) hb)
    replace HB := Aside0.mk (below_step (zb HB) hb)
    (try clear hb)
    (try clear ho0)
    obtain ⟨Ao22, co22, eo22⟩ := Kd.R_slice HO347.out
    (first | subst eo22 | (injection eo22 with f1_ f2_ f3_; have f4_ := f1_.symm; have f5_ := f3_.symm; clear f1_ f2_ f3_; subst f4_; subst f5_))
    refine hK.out _ _ ⟨(blk_cell BK344.out 0).trans rfl, (blk_cell BK344.out 1).trans rfl, (blk_cell BK339.out 0).trans rfl, (blk_cell BK339.out 1).trans rfl⟩ (fun hHeld => ?_)
    clear hK K
    refine nm ?_
    refine one_ (i := 4) (N := some 23) (bm 11 31) rfl rfl (one_of HT_.out (by kernel_rfl)) (by decide) (fun K hK => ?_)
    refine gs Try.func17 #[.agg #[.slice Ao12 t340.length co12, .int .i64 t343], .agg #[.slice Ao22 t345.length co22, .int .i64 t348]] ?_
    with_reducible refine (laws_lkTable.calls k _ _ t340 t343 _ _ t345 t348 true _ ?side1 ?side2 ?side3 ?side4 A16.out).mono ?_
    (case side1 => exact zc (Kd.R_reads' HO342.out).2.2)
    (case side2 => exact (Kd.R_reads' HO342.out).2.1)
    (case side3 => exact zc (Kd.R_reads' HO347.out).2.2)
    (case side4 => exact (Kd.R_reads' HO347.out).2.1)
    rintro e w23 ⟨rfl, hb⟩
    refine ⟨_, rfl, ?_⟩
    replace HO336 := Aside0.mk (Kd.R_below (zr HO336) hb)
    replace HO342 := Aside0.mk (Kd.R_below (zr HO342) hb)
    replace HO347 := Aside0.mk (Kd.R_below (zr HO347) hb)
    replace BK339 := Aside0.mk (blk_below (g := gb339) (o := .cells #[.slice Ao8 t334.length co8, .int .i64 t337] 25 (0, 0)) (zk BK339) hb)
    replace BK344 := Aside0.mk (blk_below (g := gb344) (o := .cells #[.slice Ao12 t340.length co12, .int .i64 t343] 25 (0, 0)) (zk BK344) hb)
    replace HB := Aside0.mk (below_step (zb HB) hb)
    (try clear hb)
    refine hK.out _ _ ⟨(blk_cell BK344.out 0).trans rfl, (blk_cell BK344.out 1).trans rfl, (blk_cell BK339.out 0).trans rfl, (blk_cell BK339.out 1).trans rfl⟩ (fun hHeld => ?_)
    clear hK K
    refine nm ?_
    refine pu 5 (some 24) (bm 11 63) rfl rfl ?_
    refine pu 6 (some 25) (bm 11 127) rfl rfl ?_
    refine tk4 7 (some 26) (bm 11 255) rfl rfl hHeld ?_
    refine one_ (i := 8) (N := some 27) (bm 11 511) rfl rfl (one_of HT_.out (by kernel_rfl)) (by decide) (fun K hK => ?_)
    refine gs Try.func19 #[.agg #[.slice Ao8 t334.length co8, .int .i64 t337]] ?_
    with_reducible refine (spec_TableOk.calls k _ _ t334 t337 t350 _ ?side1 ?side2 A18.out).mono ?_
    (case side1 => exact zc (Kd.R_reads' HO336.out).2.2)
    (case side2 => exact (Kd.R_reads' HO336.out).2.1)
    rintro e w24 ⟨rfl, hb⟩
    refine ⟨_, rfl, ?_⟩
    replace HO336 := Aside0.mk (Kd.R_below (zr HO336) hb)
    replace HO342 := Aside0.mk (Kd.R_below (zr HO342) hb)
    replace HO347 := Aside0.mk (Kd.R_below (zr HO347) hb)
    replace BK339 := Aside0.mk (blk_below (g := gb339) (o := .cells #[.slice Ao8 t334.length co8, .int .i64 t337] 25 (0, 0)) (zk BK339) hb)
    replace BK344 := Aside0.mk (blk_below (g := gb344) (o := .cells #[.slice Ao12 t340.length co12, .int .i64 t343] 25 (0, 0)) (zk BK344) hb)
    replace HB := Aside0.mk (below_step (zb HB) hb)
    (try clear hb)
    refine hK.out _ _ ⟨(blk_cell BK344.out 0).trans rfl, (blk_cell BK344.out 1).trans rfl, (blk_cell BK339.out 0).trans rfl, (blk_cell BK339.out 1).trans rfl⟩ (fun hHeld => ?_)
    clear hK K
    refine nm ?_
    refine pu 9 (some 28) (bm 11 1023) rfl rfl ?_
    refine pu 10 (some 29) (bm 11 2047) rfl rfl ?_
    refine done_ (done_of HT_.out (by kernel_rfl)) ?_
    try go_wp2
    go_meet
    case rel => exact ⟨_, (!t350), zs, H', ⟨by first | omega | exact Nat.le_refl _⟩, ⟨by (with_reducible repeat (first | apply Kd.R_alloc | apply Kd.R_drewN | apply Kd.R_drew)); exact Kd.R_mono HO336.out (fun _ hk => hk.1)⟩, ⟨by (with_reducible repeat (first | apply Kd.R_alloc | apply Kd.R_drewN | apply Kd.R_drew)); exact Kd.R_mono HO342.out (fun _ hk => hk.1)⟩, ⟨by exact zk BK339⟩, ⟨by exact zk BK344⟩, ⟨zb HB⟩⟩
   ·replace c17 := Bool.eq_false_iff.mpr c17
    subst c17
    have H1 : (laws_FnLimitNone.j0 k t338 true t334 t337 t340 t343) = some r := by rw [if_neg (show ¬ (false = true) by decide)] at H; exact H
    clear H
    have H := H1
    clear H1
    have H' := Aside0.mk H
    clear H
    try go_wp2
    have n0_ : Aside0 (Kd.R k36 36 ((w11.setCell ⟨gb344, 0, none⟩ (.slice Ao12 t340.length co12)).setCell ⟨gb344, 1, none⟩ (.int .i64 t343)) w.heap.size (fun k_ => some k_ ≠ (.slice Ao12 t340.length co12 : Value).ownBlock) (.slice Ao8 t334.length co8) t334) := ⟨by (with_reducible repeat (first | apply Kd.R_alloc | apply Kd.R_drewN | apply Kd.R_drew)); exact Kd.R_mono (Kd.R_far (p := ⟨gb344, 1, none⟩) (Kd.R_far (p := ⟨gb344, 0, none⟩) (Kd.R_types HO336.out BK344.out (by decide)) (fun _ hk => hk.2) (.slice Ao12 t340.length co12)) (fun _ hk => hk.2) (.int .i64 t343)) (fun _ hk => hk.1.2)⟩
    have n1_ : Aside0 (Kd.R k36 36 ((w11.setCell ⟨gb344, 0, none⟩ (.slice Ao12 t340.length co12)).setCell ⟨gb344, 1, none⟩ (.int .i64 t343)) w.heap.size (fun k_ => some k_ ≠ (.slice Ao8 t334.length co8 : Value).ownBlock) (.slice Ao12 t340.length co12) t340) := ⟨by (with_reducible repeat (first | apply Kd.R_alloc | apply Kd.R_drewN | apply Kd.R_drew)); exact Kd.R_mono (Kd.R_far (p := ⟨gb344, 1, none⟩) (Kd.R_far (p := ⟨gb344, 0, none⟩) (Kd.R_types HO342.out BK344.out (by decide)) (fun _ hk => hk.2) (.slice Ao12 t340.length co12)) (fun _ hk => hk.2) (.int .i64 t343)) (fun _ hk => hk.1.2)⟩
    have n2_ : Aside0 (((w11.setCell ⟨gb344, 0, none⟩ (.slice Ao12 t340.length co12)).setCell ⟨gb344, 1, none⟩ (.int .i64 t343)).heap[gb339]? = some (.cells #[.slice Ao8 t334.length co8, .int .i64 t337] 25 (0, 0))) := ⟨by (with_reducible repeat (first | refine blk_drewN ?_ _ | refine blk_drew ?_ | refine blk_alloc ?_ _)); refine blk_far ?_ NB339_344.out _; (with_reducible repeat (first | refine blk_drewN ?_ _ | refine blk_drew ?_ | refine blk_alloc ?_ _)); refine blk_far ?_ NB339_344.out _; exact zk BK339⟩
    have n3_ : Aside0 (((w11.setCell ⟨gb344, 0, none⟩ (.slice Ao12 t340.length co12)).setCell ⟨gb344, 1, none⟩ (.int .i64 t343)).heap[gb344]? = some (.cells #[.slice Ao12 t340.length co12, .int .i64 t343] 25 (0, 0))) := ⟨by (with_reducible repeat (first | refine blk_drewN ?_ _ | refine blk_drew ?_ | refine blk_alloc ?_ _)); refine blk_put (cs := #[.slice Ao12 t340.length co12, .int .i64 0]) ?_ 1 _ rfl; (with_reducible repeat (first | refine blk_drewN ?_ _ | refine blk_drew ?_ | refine blk_alloc ?_ _)); refine blk_put (cs := #[.slice none 0 0, .int .i64 0]) ?_ 0 _ rfl; exact zk BK344⟩
    have n4_ : Aside0 (Below w.heap.size w ((w11.setCell ⟨gb344, 0, none⟩ (.slice Ao12 t340.length co12)).setCell ⟨gb344, 1, none⟩ (.int .i64 t343))) := ⟨zb HB⟩
    (try clear HO336)
    (try clear HO342)
    (try clear BK339)
    (try clear BK344)
    (try clear HB)
    generalize ((w11.setCell ⟨gb344, 0, none⟩ (.slice Ao12 t340.length co12)).setCell ⟨gb344, 1, none⟩ (.int .i64 t343)) = w25 at n0_ n1_ n2_ n3_ n4_ ⊢
    have HO336 := n0_
    have HO342 := n1_
    have BK339 := n2_
    have BK344 := n3_
    have HB := n4_
    clear n0_ n1_ n2_ n3_ n4_
    replace HO336 := Aside0.mk (Kd.R_drew HO336.out)
    replace HO342 := Aside0.mk (Kd.R_drew HO342.out)
    replace BK339 := Aside0.mk (blk_drew BK339.out)
    replace BK344 := Aside0.mk (blk_drew BK344.out)
    replace HB := Aside0.mk (below_drew1 HB.out)
    refine start_ (n := 11) (S := fun w' => w'.cell? ⟨gb344, 0, none⟩ = some (.slice Ao12 t340.length co12) ∧ w'.cell? ⟨gb344, 1, none⟩ = some (.int .i64 t343) ∧ w'.cell? ⟨gb339, 0, none⟩ = some (.slice Ao8 t334.length co8) ∧ w'.cell? ⟨gb339, 1, none⟩ = some (.int .i64 t337)) (ds := []) #[false, false, false, false, false, false, false, false, false, false, false] (by kernel_rfl) rfl rfl ⟨(blk_cell BK344.out 0).trans rfl, (blk_cell BK344.out 1).trans rfl, (blk_cell BK339.out 0).trans rfl, (blk_cell BK339.out 1).trans rfl⟩ (fun hHeld => ?_); refine with_tabW laws_FnLimitNone.tab5 laws_FnLimitNone.bits5 (fun HT_ HW_ => ?_)
    generalize w25.drew = w26 at HO336 HO342 BK339 BK344 HB hHeld ⊢
    refine pu 2 (some 21) (bm 11 4) rfl rfl ?_
    refine tk4 0 (some 19) (bm 11 5) rfl rfl hHeld ?_
    refine tk4 1 (some 20) (bm 11 7) rfl rfl hHeld ?_
    refine one_ (i := 3) (N := some 22) (bm 11 15) rfl rfl (one_of HT_.out (by kernel_rfl)) (by decide) (fun K hK => ?_)
    refine gs Try.func18 #[.agg #[.slice Ao8 t334.length co8, .int .i64 t337], .int .i64 t338] ?_
    with_reducible refine (spec_TableLimit.calls k _ _ t334 t337 t338 t345 t348 _ ?side1 ?side2 A15.out).mono ?_
    (case side1 => exact zc (Kd.R_reads' HO336.out).2.2)
    (case side2 => exact (Kd.R_reads' HO336.out).2.1)
    rintro e w27 ⟨v346, rfl, ho0, hb⟩
    refine ⟨_, rfl, ?_⟩
    have HO347 := Aside0.mk (Kd.R_lower (Kd.R_new' (Kd.R_new' ho0 (Kd.R_lt (zr HO336))) (Kd.R_lt (zr HO342))) (below_size (zb HB)))
    replace HO336 := Aside0.mk (Kd.R_elder' (zr HO336) (Kd.R_base ho0) hb)
    replace HO342 := Aside0.mk (Kd.R_elder' (zr HO342) (Kd.R_base ho0) hb)
    replace BK339 := Aside0.mk (blk_below (g := gb339) (o := .cells #[.slice Ao8 t334.length co8, .int .i64 t337] 25 (0, 0)) (zk BK339) hb)
    replace BK344 := Aside0.mk (blk_below (g := gb344) (o := .cells #[.slice Ao12 t340.length co12, .int .i64 t343] 25 (0, 0)) (zk BK344) hb)
    replace HB := Aside0.mk (below_step (zb HB) hb)
    (try clear hb)
    (try clear ho0)
    obtain ⟨Ao28, co28, eo28⟩ := Kd.R_slice HO347.out
    (first | subst eo28 | (injection eo28 with f1_ f2_ f3_; have f4_ := f1_.symm; have f5_ := f3_.symm; clear f1_ f2_ f3_; subst f4_; subst f5_))
    refine hK.out _ _ ⟨(blk_cell BK344.out 0).trans rfl, (blk_cell BK344.out 1).trans rfl, (blk_cell BK339.out 0).trans rfl, (blk_cell BK339.out 1).trans rfl⟩ (fun hHeld => ?_)
    clear hK K
    refine nm ?_
    refine one_ (i := 4) (N := some 23) (bm 11 31) rfl rfl (one_of HT_.out (by kernel_rfl)) (by decide) (fun K hK => ?_)
    refine gs Try.func17 #[.agg #[.slice Ao12 t340.length co12, .int .i64 t343], .agg #[.slice Ao28 t345.length co28, .int .i64 t348]] ?_
    with_reducible refine (laws_lkTable.calls k _ _ t340 t343 _ _ t345 t348 false _ ?side1 ?side2 ?side3 ?side4 A16.out).mono ?_
    (case side1 => exact zc (Kd.R_reads' HO342.out).2.2)
    (case side2 => exact (Kd.R_reads' HO342.out).2.1)
    (case side3 => exact zc (Kd.R_reads' HO347.out).2.2)
    (case side4 => exact (Kd.R_reads' HO347.out).2.1)
    rintro e w29 ⟨rfl, hb⟩
    refine ⟨_, rfl, ?_⟩
    replace HO336 := Aside0.mk (Kd.R_below (zr HO336) hb)
    replace HO342 := Aside0.mk (Kd.R_below (zr HO342) hb)
    replace HO347 := Aside0.mk (Kd.R_below (zr HO347) hb)
    replace BK339 := Aside0.mk (blk_below (g := gb339) (o := .cells #[.slice Ao8 t334.length co8, .int .i64 t337] 25 (0, 0)) (zk BK339) hb)
    replace BK344 := Aside0.mk (blk_below (g := gb344) (o := .cells #[.slice Ao12 t340.length co12, .int .i64 t343] 25 (0, 0)) (zk BK344) hb)
    replace HB := Aside0.mk (below_step (zb HB) hb)
    (try clear hb)
    refine hK.out _ _ ⟨(blk_cell BK344.out 0).trans rfl, (blk_cell BK344.out 1).trans rfl, (blk_cell BK339.out 0).trans rfl, (blk_cell BK339.out 1).trans rfl⟩ (fun hHeld => ?_)
    clear hK K
    refine nm ?_
    refine pu 5 (some 24) (bm 11 63) rfl rfl ?_
    refine pu 6 (some 25) (bm 11 127) rfl rfl ?_
    refine pv 7 (some 26) (bm 11 255) rfl rfl ?_
    refine pv 8 (some 27) (bm 11 511) rfl rfl ?_
    refine pv 9 (some 28) (bm 11 1023) rfl rfl ?_
    refine pu 10 (some 29) (bm 11 2047) rfl rfl ?_
    refine done_ (done_of HT_.out (by kernel_rfl)) ?_
    try go_wp2
    go_meet
    case rel => exact ⟨_, (true), zs, H', ⟨by first | omega | exact Nat.le_refl _⟩, ⟨by (with_reducible repeat (first | apply Kd.R_alloc | apply Kd.R_drewN | apply Kd.R_drew)); exact Kd.R_mono HO336.out (fun _ hk => hk.1)⟩, ⟨by (with_reducible repeat (first | apply Kd.R_alloc | apply Kd.R_drewN | apply Kd.R_drew)); exact Kd.R_mono HO342.out (fun _ hk => hk.1)⟩, ⟨by exact zk BK339⟩, ⟨by exact zk BK344⟩, ⟨zb HB⟩⟩
  case rest =>
   clear HC5
   try clear c1
   try clear c2
   try clear c2b0
   try clear c2b1
   try clear p2
   try clear c7
   try clear c13
   try clear c15
   try clear c16
   try clear c17
   try clear c18
   try clear c19
   try clear hcz14_0
   try clear hcz14_1
   try clear hcz9_0
   try clear hcz9_1
   try clear hfz14_0
   try clear hfz14_1
   try clear hfz9_0
   try clear hfz9_1
   obtain ⟨kq, x29_4, rfl, HA, HJ4, HO_340000, HO_345000, BK339, BK344, HB⟩ := hcut
   cases kq with
   | zero => exact absurd HA.out (by simp [laws_FnLimitNone.j0])
   | succ kj4 =>
    have H := HA.out
    clear HA
    simp only [laws_FnLimitNone.j0] at H
    by_cases c30 : x29_4 = true
    ·subst c30
     have H1 : ((spec_TableLimit.f kj4 t334 t337 t338).bind fun bt351 => ((laws_lkTable.f kj4 t340 t343 bt351.1 bt351.2).bind fun t355 => (some t355))) = some r := by rw [if_pos rfl] at H; exact H
     clear H
     have H := H1
     clear H1
     replace H := Option.bind_eq_some_iff.mp H
     obtain ⟨⟨t351, t354⟩, A310, H⟩ := H
     replace H : ((laws_lkTable.f kj4 t340 t343 t351 t354).bind fun t355 => (some t355)) = some r := H
     have A31 := Aside0.mk A310
     clear A310
     replace H := Option.bind_eq_some_iff.mp H
     obtain ⟨t355, A320, H⟩ := H
     replace H : (some t355) = some r := H
     have A32 := Aside0.mk A320
     clear A320
     obtain rfl := Option.some.inj H
     try go_wp2
     replace HO_340000 := Aside0.mk (Kd.R_drew HO_340000.out)
     replace HO_345000 := Aside0.mk (Kd.R_drew HO_345000.out)
     replace BK339 := Aside0.mk (blk_drew BK339.out)
     replace BK344 := Aside0.mk (blk_drew BK344.out)
     replace HB := Aside0.mk (below_drew1 HB.out)
     refine start_ (n := 6) (S := fun w' => w'.cell? ⟨gb344, 0, none⟩ = some (.slice Ao12 t340.length co12) ∧ w'.cell? ⟨gb344, 1, none⟩ = some (.int .i64 t343) ∧ w'.cell? ⟨gb339, 0, none⟩ = some (.slice Ao8 t334.length co8) ∧ w'.cell? ⟨gb339, 1, none⟩ = some (.int .i64 t337)) (ds := []) #[false, false, false, false, false, false] (by kernel_rfl) rfl rfl ⟨(blk_cell BK344.out 0).trans rfl, (blk_cell BK344.out 1).trans rfl, (blk_cell BK339.out 0).trans rfl, (blk_cell BK339.out 1).trans rfl⟩ (fun hHeld => ?_)
     generalize wc.drew = w33 at HO_340000 HO_345000 BK339 BK344 HB hHeld ⊢
     refine pu 2 (some 32) (bm 6 4) rfl rfl ?_
     refine tk4 0 (some 30) (bm 6 5) rfl rfl hHeld ?_
     refine tk4 1 (some 31) (bm 6 7) rfl rfl hHeld ?_
     refine one_ (i := 3) (N := some 33) (bm 6 15) rfl rfl (by kernel_rfl) (by decide) (fun K hK => ?_)
     refine gs Try.func18 #[.agg #[.slice Ao8 t334.length co8, .int .i64 t337], .int .i64 t338] ?_
     with_reducible refine (spec_TableLimit.calls kj4 _ _ t334 t337 t338 t351 t354 _ ?side1 ?side2 A31.out).mono ?_
     (case side1 => exact zc (Kd.R_reads' HO_340000.out).2.2)
     (case side2 => exact (Kd.R_reads' HO_340000.out).2.1)
     rintro e w34 ⟨v352, rfl, ho0, hb⟩
     refine ⟨_, rfl, ?_⟩
     have HO353 := Aside0.mk (Kd.R_lower (Kd.R_new' (Kd.R_new' ho0 (Kd.R_lt (zr HO_340000))) (Kd.R_lt (zr HO_345000))) (below_size (zb HB)))
     replace HO_340000 := Aside0.mk (Kd.R_elder' (zr HO_340000) (Kd.R_base ho0) hb)
     replace HO_345000 := Aside0.mk (Kd.R_elder' (zr HO_345000) (Kd.R_base ho0) hb)
     replace BK339 := Aside0.mk (blk_below (g := gb339) (o := .cells #[.slice Ao8 t334.length co8, .int .i64 t337] 25 (0, 0)) (zk BK339) hb)
     replace BK344 := Aside0.mk (blk_below (g := gb344) (o := .cells #[.slice Ao12 t340.length co12, .int .i64 t343] 25 (0, 0)) (zk BK344) hb)
     replace HB := Aside0.mk (below_step (zb HB) hb)
     (try clear hb)
     (try clear ho0)
     obtain ⟨Ao35, co35, eo35⟩ := Kd.R_slice HO353.out
     (first | subst eo35 | (injection eo35 with f1_ f2_ f3_; have f4_ := f1_.symm; have f5_ := f3_.symm; clear f1_ f2_ f3_; subst f4_; subst f5_))
     refine hK.out _ _ ⟨(blk_cell BK344.out 0).trans rfl, (blk_cell BK344.out 1).trans rfl, (blk_cell BK339.out 0).trans rfl, (blk_cell BK339.out 1).trans rfl⟩ (fun hHeld => ?_)
     clear hK K
     refine nm ?_
     refine one_ (i := 4) (N := some 34) (bm 6 31) rfl rfl (by kernel_rfl) (by decide) (fun K hK => ?_)
     refine gs Try.func17 #[.agg #[.slice Ao12 t340.length co12, .int .i64 t343], .agg #[.slice Ao35 t351.length co35, .int .i64 t354]] ?_
     with_reducible refine (laws_lkTable.calls kj4 _ _ t340 t343 _ _ t351 t354 t355 _ ?side1 ?side2 ?side3 ?side4 A32.out).mono ?_
     (case side1 => exact zc (Kd.R_reads' HO_345000.out).2.2)
     (case side2 => exact (Kd.R_reads' HO_345000.out).2.1)
     (case side3 => exact zc (Kd.R_reads' HO353.out).2.2)
     (case side4 => exact (Kd.R_reads' HO353.out).2.1)
     rintro e w36 ⟨rfl, hb⟩
     refine ⟨_, rfl, ?_⟩
     replace HO_340000 := Aside0.mk (Kd.R_below (zr HO_340000) hb)
     replace HO_345000 := Aside0.mk (Kd.R_below (zr HO_345000) hb)
     replace HO353 := Aside0.mk (Kd.R_below (zr HO353) hb)
     replace BK339 := Aside0.mk (blk_below (g := gb339) (o := .cells #[.slice Ao8 t334.length co8, .int .i64 t337] 25 (0, 0)) (zk BK339) hb)
     replace BK344 := Aside0.mk (blk_below (g := gb344) (o := .cells #[.slice Ao12 t340.length co12, .int .i64 t343] 25 (0, 0)) (zk BK344) hb)
     replace HB := Aside0.mk (below_step (zb HB) hb)
     (try clear hb)
     refine hK.out _ _ ⟨(blk_cell BK344.out 0).trans rfl, (blk_cell BK344.out 1).trans rfl, (blk_cell BK339.out 0).trans rfl, (blk_cell BK339.out 1).trans rfl⟩ (fun hHeld => ?_)
     clear hK K
     refine nm ?_
     refine pu 5 (some 2) (bm 6 63) rfl rfl ?_
     refine done_ (by kernel_rfl) ?_
     try go_wp2
     go_ret
     exact ⟨ze, zb HB⟩
    ·replace c30 := Bool.eq_false_iff.mpr c30
     subst c30
     have H1 : ((impl_TableLimit.f kj4 t334 t337 0).bind fun bt356 => ((impl_TableAdd.f kj4 bt356.1 bt356.2 (⟨#[97]⟩ : ByteArray) (⟨#[]⟩ : ByteArray) false).bind fun bt361 => (if (bt356.1.length : Int) = 0 then (if bt356.2 = 0 then (if (bt361.1.length : Int) = 0 then ((impl_TableOk.f kj4 bt361.1 bt361.2).bind fun t366 => (some t366)) else (some false)) else (some false)) else (some false)))) = some r := by rw [if_neg (show ¬ (false = true) by decide)] at H; exact H
     clear H
     have H := H1
     clear H1
     replace H := Option.bind_eq_some_iff.mp H
     obtain ⟨⟨t356, t359⟩, A370, H⟩ := H
     replace H : ((impl_TableAdd.f kj4 t356 t359 (⟨#[97]⟩ : ByteArray) (⟨#[]⟩ : ByteArray) false).bind fun bt361 => (if (t356.length : Int) = 0 then (if t359 = 0 then (if (bt361.1.length : Int) = 0 then ((impl_TableOk.f kj4 bt361.1 bt361.2).bind fun t366 => (some t366)) else (some false)) else (some false)) else (some false))) = some r := H
     have A37 := Aside0.mk A370
     clear A370
     replace H := Option.bind_eq_some_iff.mp H
     obtain ⟨⟨t361, t364⟩, A380, H⟩ := H
     replace H : (if (t356.length : Int) = 0 then (if t359 = 0 then (if (t361.length : Int) = 0 then ((impl_TableOk.f kj4 t361 t364).bind fun t366 => (some t366)) else (some false)) else (some false)) else (some false)) = some r := H
     have A38 := Aside0.mk A380
     clear A380
     by_cases c39 : (t356.length : Int) = 0
     ·rw [if_pos c39] at H
      have c39b0 : ((t356.length : Int) == 0) = true := beq_iff_eq.mpr c39
      have c39b1 : ((t356.length : Int) != 0) = false := bne_eq_false_iff_eq.mpr c39
      clear c39
      by_cases c40 : t359 = 0
      ·rw [if_pos c40] at H
       have c40b0 : (t359 == 0) = true := beq_iff_eq.mpr c40
       have c40b1 : (t359 != 0) = false := bne_eq_false_iff_eq.mpr c40
       clear c40
       by_cases c41 : (t361.length : Int) = 0
       ·rw [if_pos c41] at H
        have c41b0 : ((t361.length : Int) == 0) = true := beq_iff_eq.mpr c41
        have c41b1 : ((t361.length : Int) != 0) = false := bne_eq_false_iff_eq.mpr c41
        clear c41
        replace H := Option.bind_eq_some_iff.mp H
        obtain ⟨t366, A420, H⟩ := H
        replace H : (some t366) = some r := H
        have A42 := Aside0.mk A420
        clear A420
        obtain rfl := Option.some.inj H
        have hnb43 := NB339_344.out
        have hnc43 := NB344_339.out
        have hcz44_0 : wc.cell? ⟨gb339, 0, none⟩ = some (.slice Ao8 t334.length co8) := (blk_cell BK339.out 0).trans rfl
        have hcz44_1 : wc.cell? ⟨gb339, 1, none⟩ = some (.int .i64 t337) := (blk_cell BK339.out 1).trans rfl
        have hfz44_0 := blk_frozen BK339.out 0
        have hfz44_1 := blk_frozen BK339.out 1
        go_wp2_with (first | ((with_reducible refine gq 16 rfl ?_); refine gl (some 36) Try.func16 #[.agg #[.slice Ao8 t334.length co8, .int .i64 t337], .int .i64 0] ?_; (with_reducible refine (impl_TableLimit.calls kj4 _ _ t334 t337 0 t356 t359 _ ?side1 ?side2 A37.out).mono ?_); (case side1 => exact zc (Kd.R_reads' HO_340000.out).2.2); (case side2 => exact (Kd.R_reads' HO_340000.out).2.1); rintro e w45 ⟨v357, rfl, ho0, hb⟩; refine ⟨_, rfl, ?_⟩; have HO358 := Aside0.mk (Kd.R_lower (Kd.R_new' (Kd.R_new' ho0 (Kd.R_lt (zr HO_340000))) (Kd.R_lt (zr HO_345000))) (below_size (zb HB))); replace HO_340000 := Aside0.mk (Kd.R_elder' (zr HO_340000) (Kd.R_base ho0) hb); replace HO_345000 := Aside0.mk (Kd.R_elder' (zr HO_345000) (Kd.R_base ho0) hb); replace BK339 := Aside0.mk (blk_below (g := gb339) (o := .cells #[.slice Ao8 t334.length co8, .int .i64 t337] 25 (0, 0)) (zk BK339) hb); replace BK344 := Aside0.mk (blk_below (g := gb344) (o := .cells #[.slice Ao12 t340.length co12, .int .i64 t343] 25 (0, 0)) (zk BK344) hb); replace HB := Aside0.mk (below_step (zb HB) hb); (try clear hb); (try clear ho0)) | ((with_reducible refine gd 6 rfl ?_); (try (refine gate_guard (by rfl) ?_; dsimp only)); refine bx (N := 6) (cs := #[.slice none 0 0, .int .i64 0]) (t := 25) ?_; intro gb360 hg w46 hbox hb; replace HO_340000 := Aside0.mk (Kd.R_below (zr HO_340000) hb); replace HO_345000 := Aside0.mk (Kd.R_below (zr HO_345000) hb); replace HO358 := Aside0.mk (Kd.R_below (zr HO358) hb); have BK360 := Aside0.mk (hbox); have GW360 := Aside0.mk ((by rw [hg]; exact (below_size (zb HB)) : w.heap.size ≤ gb360)); have GE360 := Aside0.mk ((by rw [hg]; exact (below_size (zb HB)) : w.heap.size ≤ gb360)); replace HB := Aside0.mk (below_step (zb HB) hb); have NB339_360 := Aside0.mk ((by rw [hg]; exact Nat.ne_of_lt (blk_lt (g := gb339) (o := .cells #[.slice Ao8 t334.length co8, .int .i64 t337] 25 (0, 0)) (zk BK339)) : gb339 ≠ gb360)); have NB360_339 := Aside0.mk ((by rw [hg]; exact Nat.ne_of_gt (blk_lt (g := gb339) (o := .cells #[.slice Ao8 t334.length co8, .int .i64 t337] 25 (0, 0)) (zk BK339)) : gb360 ≠ gb339)); replace BK339 := Aside0.mk (blk_below (g := gb339) (o := .cells #[.slice Ao8 t334.length co8, .int .i64 t337] 25 (0, 0)) (zk BK339) hb); have NB344_360 := Aside0.mk ((by rw [hg]; exact Nat.ne_of_lt (blk_lt (g := gb344) (o := .cells #[.slice Ao12 t340.length co12, .int .i64 t343] 25 (0, 0)) (zk BK344)) : gb344 ≠ gb360)); have NB360_344 := Aside0.mk ((by rw [hg]; exact Nat.ne_of_gt (blk_lt (g := gb344) (o := .cells #[.slice Ao12 t340.length co12, .int .i64 t343] 25 (0, 0)) (zk BK344)) : gb360 ≠ gb344)); replace BK344 := Aside0.mk (blk_below (g := gb344) (o := .cells #[.slice Ao12 t340.length co12, .int .i64 t343] 25 (0, 0)) (zk BK344) hb); clear hb hbox hg; obtain ⟨Ao47, co47, eo47⟩ := Kd.R_slice HO358.out; subst eo47; have hnb48 := NB360_339.out; have hnc48 := NB339_360.out; have hnb49 := NB360_344.out; have hnc49 := NB344_360.out; have hcz50_0 : w46.cell? ⟨gb360, 0, none⟩ = some (.slice none 0 0) := (blk_cell BK360.out 0).trans rfl; have hcz50_1 : w46.cell? ⟨gb360, 1, none⟩ = some (.int .i64 0) := (blk_cell BK360.out 1).trans rfl; have hfz50_0 := blk_frozen BK360.out 0; have hfz50_1 := blk_frozen BK360.out 1) | ((with_reducible refine gq 30 rfl ?_); refine gl (some 39) Try.func30 #[.agg #[.slice Ao47 t356.length co47, .int .i64 t359], .agg #[.string (⟨#[97]⟩ : ByteArray), .string (⟨#[]⟩ : ByteArray), .bool false]] ?_; (with_reducible refine (impl_TableAdd.calls kj4 _ _ t356 t359 (⟨#[97]⟩ : ByteArray) (⟨#[]⟩ : ByteArray) false t361 t364 _ ?side1 ?side2 A38.out).mono ?_); (case side1 => refine (Kd.R_reads' (e := 36) (base := w.heap.size) (ok := fun k_ => ((True ∧ some k_ ≠ (.slice Ao8 t334.length co8 : Value).ownBlock) ∧ some k_ ≠ (.slice Ao12 t340.length co12 : Value).ownBlock)) (n := t356.length) (c := co47) ?_).2.2; exact (by (with_reducible repeat (first | apply Kd.R_alloc | apply Kd.R_drewN | apply Kd.R_drew)); exact (Kd.R_mono (Kd.R_far (p := ⟨gb360, 1, none⟩) (Kd.R_far (p := ⟨gb360, 0, none⟩) (Kd.R_types HO358.out BK360.out (by decide)) (fun _ hk => hk.2) (.slice Ao47 t356.length co47)) (fun _ hk => hk.2) (.int .i64 t359)) (fun _ h_ => h_.1)))); (case side2 => exact (Kd.R_reads' HO358.out).2.1); rintro e w51 ⟨v362, rfl, ho0, hb⟩; refine ⟨_, rfl, ?_⟩; have HO363 := Aside0.mk (Kd.R_lower (Kd.R_new' (Kd.R_new' (Kd.R_new' ho0 (Kd.R_lt (by (with_reducible repeat (first | apply Kd.R_alloc | apply Kd.R_drewN | apply Kd.R_drew)); exact (Kd.R_mono (Kd.R_far (p := ⟨gb360, 1, none⟩) (Kd.R_far (p := ⟨gb360, 0, none⟩) (Kd.R_types HO_340000.out BK360.out (by decide)) (fun _ hk => hk.2) (.slice Ao47 t356.length co47)) (fun _ hk => hk.2) (.int .i64 t359)) (fun _ h_ => h_.1))))) (Kd.R_lt (by (with_reducible repeat (first | apply Kd.R_alloc | apply Kd.R_drewN | apply Kd.R_drew)); exact (Kd.R_mono (Kd.R_far (p := ⟨gb360, 1, none⟩) (Kd.R_far (p := ⟨gb360, 0, none⟩) (Kd.R_types HO_345000.out BK360.out (by decide)) (fun _ hk => hk.2) (.slice Ao47 t356.length co47)) (fun _ hk => hk.2) (.int .i64 t359)) (fun _ h_ => h_.1))))) (Kd.R_lt (by (with_reducible repeat (first | apply Kd.R_alloc | apply Kd.R_drewN | apply Kd.R_drew)); exact (Kd.R_mono (Kd.R_far (p := ⟨gb360, 1, none⟩) (Kd.R_far (p := ⟨gb360, 0, none⟩) (Kd.R_types HO358.out BK360.out (by decide)) (fun _ hk => hk.2) (.slice Ao47 t356.length co47)) (fun _ hk => hk.2) (.int .i64 t359)) (fun _ h_ => h_.1))))) (below_size (zb HB))); replace HO_340000 := Aside0.mk (Kd.R_elder' (by (with_reducible repeat (first | apply Kd.R_alloc | apply Kd.R_drewN | apply Kd.R_drew)); exact (Kd.R_mono (Kd.R_far (p := ⟨gb360, 1, none⟩) (Kd.R_far (p := ⟨gb360, 0, none⟩) (Kd.R_types HO_340000.out BK360.out (by decide)) (fun _ hk => hk.2) (.slice Ao47 t356.length co47)) (fun _ hk => hk.2) (.int .i64 t359)) (fun _ h_ => h_.1))) (Kd.R_base ho0) hb); replace HO_345000 := Aside0.mk (Kd.R_elder' (by (with_reducible repeat (first | apply Kd.R_alloc | apply Kd.R_drewN | apply Kd.R_drew)); exact (Kd.R_mono (Kd.R_far (p := ⟨gb360, 1, none⟩) (Kd.R_far (p := ⟨gb360, 0, none⟩) (Kd.R_types HO_345000.out BK360.out (by decide)) (fun _ hk => hk.2) (.slice Ao47 t356.length co47)) (fun _ hk => hk.2) (.int .i64 t359)) (fun _ h_ => h_.1))) (Kd.R_base ho0) hb); replace HO358 := Aside0.mk (Kd.R_elder' (by (with_reducible repeat (first | apply Kd.R_alloc | apply Kd.R_drewN | apply Kd.R_drew)); exact (Kd.R_mono (Kd.R_far (p := ⟨gb360, 1, none⟩) (Kd.R_far (p := ⟨gb360, 0, none⟩) (Kd.R_types HO358.out BK360.out (by decide)) (fun _ hk => hk.2) (.slice Ao47 t356.length co47)) (fun _ hk => hk.2) (.int .i64 t359)) (fun _ h_ => h_.1))) (Kd.R_base ho0) hb); replace BK339 := Aside0.mk (blk_below (g := gb339) (o := .cells #[.slice Ao8 t334.length co8, .int .i64 t337] 25 (0, 0)) (by (with_reducible repeat (first | refine blk_drewN ?_ _ | refine blk_drew ?_ | refine blk_alloc ?_ _)); refine blk_far ?_ NB339_360.out _; (with_reducible repeat (first | refine blk_drewN ?_ _ | refine blk_drew ?_ | refine blk_alloc ?_ _)); refine blk_far ?_ NB339_360.out _; exact zk BK339) hb); replace BK344 := Aside0.mk (blk_below (g := gb344) (o := .cells #[.slice Ao12 t340.length co12, .int .i64 t343] 25 (0, 0)) (by (with_reducible repeat (first | refine blk_drewN ?_ _ | refine blk_drew ?_ | refine blk_alloc ?_ _)); refine blk_far ?_ NB344_360.out _; (with_reducible repeat (first | refine blk_drewN ?_ _ | refine blk_drew ?_ | refine blk_alloc ?_ _)); refine blk_far ?_ NB344_360.out _; exact zk BK344) hb); replace BK360 := Aside0.mk (blk_below (g := gb360) (o := .cells #[.slice Ao47 t356.length co47, .int .i64 t359] 25 (0, 0)) (by (with_reducible repeat (first | refine blk_drewN ?_ _ | refine blk_drew ?_ | refine blk_alloc ?_ _)); refine blk_put (cs := #[.slice Ao47 t356.length co47, .int .i64 0]) ?_ 1 _ rfl; (with_reducible repeat (first | refine blk_drewN ?_ _ | refine blk_drew ?_ | refine blk_alloc ?_ _)); refine blk_put (cs := #[.slice none 0 0, .int .i64 0]) ?_ 0 _ rfl; exact zk BK360) hb); replace HB := Aside0.mk (below_step (zb HB) hb); (try clear hb); (try clear hk); (try clear ho0)) | ((with_reducible refine gd 7 rfl ?_); (try (refine gate_guard (by rfl) ?_; dsimp only)); refine bx (N := 7) (cs := #[.slice none 0 0, .int .i64 0]) (t := 25) ?_; intro gb365 hg w52 hbox hb; replace HO_340000 := Aside0.mk (Kd.R_below (zr HO_340000) hb); replace HO_345000 := Aside0.mk (Kd.R_below (zr HO_345000) hb); replace HO358 := Aside0.mk (Kd.R_below (zr HO358) hb); replace HO363 := Aside0.mk (Kd.R_below (zr HO363) hb); have BK365 := Aside0.mk (hbox); have GW365 := Aside0.mk ((by rw [hg]; exact (below_size (zb HB)) : w.heap.size ≤ gb365)); have GE365 := Aside0.mk ((by rw [hg]; exact (below_size (zb HB)) : w.heap.size ≤ gb365)); replace HB := Aside0.mk (below_step (zb HB) hb); have NB339_365 := Aside0.mk ((by rw [hg]; exact Nat.ne_of_lt (blk_lt (g := gb339) (o := .cells #[.slice Ao8 t334.length co8, .int .i64 t337] 25 (0, 0)) (zk BK339)) : gb339 ≠ gb365)); have NB365_339 := Aside0.mk ((by rw [hg]; exact Nat.ne_of_gt (blk_lt (g := gb339) (o := .cells #[.slice Ao8 t334.length co8, .int .i64 t337] 25 (0, 0)) (zk BK339)) : gb365 ≠ gb339)); replace BK339 := Aside0.mk (blk_below (g := gb339) (o := .cells #[.slice Ao8 t334.length co8, .int .i64 t337] 25 (0, 0)) (zk BK339) hb); have NB344_365 := Aside0.mk ((by rw [hg]; exact Nat.ne_of_lt (blk_lt (g := gb344) (o := .cells #[.slice Ao12 t340.length co12, .int .i64 t343] 25 (0, 0)) (zk BK344)) : gb344 ≠ gb365)); have NB365_344 := Aside0.mk ((by rw [hg]; exact Nat.ne_of_gt (blk_lt (g := gb344) (o := .cells #[.slice Ao12 t340.length co12, .int .i64 t343] 25 (0, 0)) (zk BK344)) : gb365 ≠ gb344)); replace BK344 := Aside0.mk (blk_below (g := gb344) (o := .cells #[.slice Ao12 t340.length co12, .int .i64 t343] 25 (0, 0)) (zk BK344) hb); have NB360_365 := Aside0.mk ((by rw [hg]; exact Nat.ne_of_lt (blk_lt (g := gb360) (o := .cells #[.slice Ao47 t356.length co47, .int .i64 t359] 25 (0, 0)) (zk BK360)) : gb360 ≠ gb365)); have NB365_360 := Aside0.mk ((by rw [hg]; exact Nat.ne_of_gt (blk_lt (g := gb360) (o := .cells #[.slice Ao47 t356.length co47, .int .i64 t359] 25 (0, 0)) (zk BK360)) : gb365 ≠ gb360)); replace BK360 := Aside0.mk (blk_below (g := gb360) (o := .cells #[.slice Ao47 t356.length co47, .int .i64 t359] 25 (0, 0)) (zk BK360) hb); clear hb hbox hg; obtain ⟨Ao53, co53, eo53⟩ := Kd.R_slice HO363.out; subst eo53; have hnb54 := NB365_339.out; have hnc54 := NB339_365.out; have hnb55 := NB365_344.out; have hnc55 := NB344_365.out; have hnb56 := NB365_360.out; have hnc56 := NB360_365.out; have hcz57_0 : w52.cell? ⟨gb365, 0, none⟩ = some (.slice none 0 0) := (blk_cell BK365.out 0).trans rfl; have hcz57_1 : w52.cell? ⟨gb365, 1, none⟩ = some (.int .i64 0) := (blk_cell BK365.out 1).trans rfl; have hfz57_0 := blk_frozen BK365.out 0; have hfz57_1 := blk_frozen BK365.out 1; have hcz58_0 : w52.cell? ⟨gb360, 0, none⟩ = some (.slice Ao47 t356.length co47) := (blk_cell BK360.out 0).trans rfl; have hcz58_1 : w52.cell? ⟨gb360, 1, none⟩ = some (.int .i64 t359) := (blk_cell BK360.out 1).trans rfl; have hfz58_0 := blk_frozen BK360.out 0; have hfz58_1 := blk_frozen BK360.out 1) | (go_at_call 21; (with_reducible refine (impl_TableOk.calls kj4 _ _ t361 t364 t366 _ ?side1 ?side2 A42.out).mono ?_); (case side1 => refine (Kd.R_reads' (e := 36) (base := w.heap.size) (ok := fun k_ => (((True ∧ some k_ ≠ (.slice Ao8 t334.length co8 : Value).ownBlock) ∧ some k_ ≠ (.slice Ao12 t340.length co12 : Value).ownBlock) ∧ some k_ ≠ (.slice Ao47 t356.length co47 : Value).ownBlock)) (n := t361.length) (c := co53) ?_).2.2; exact (by (with_reducible repeat (first | apply Kd.R_alloc | apply Kd.R_drewN | apply Kd.R_drew)); exact (Kd.R_mono (Kd.R_far (p := ⟨gb365, 1, none⟩) (Kd.R_far (p := ⟨gb365, 0, none⟩) (Kd.R_types HO363.out BK365.out (by decide)) (fun _ hk => hk.2) (.slice Ao53 t361.length co53)) (fun _ hk => hk.2) (.int .i64 t364)) (fun _ h_ => h_.1)))); (case side2 => exact (Kd.R_reads' HO363.out).2.1); rintro e w59 ⟨rfl, hb⟩; replace HO_340000 := Aside0.mk (Kd.R_below (by (with_reducible repeat (first | apply Kd.R_alloc | apply Kd.R_drewN | apply Kd.R_drew)); exact (Kd.R_mono (Kd.R_far (p := ⟨gb365, 1, none⟩) (Kd.R_far (p := ⟨gb365, 0, none⟩) (Kd.R_types HO_340000.out BK365.out (by decide)) (fun _ hk => hk.2) (.slice Ao53 t361.length co53)) (fun _ hk => hk.2) (.int .i64 t364)) (fun _ h_ => h_.1))) hb); replace HO_345000 := Aside0.mk (Kd.R_below (by (with_reducible repeat (first | apply Kd.R_alloc | apply Kd.R_drewN | apply Kd.R_drew)); exact (Kd.R_mono (Kd.R_far (p := ⟨gb365, 1, none⟩) (Kd.R_far (p := ⟨gb365, 0, none⟩) (Kd.R_types HO_345000.out BK365.out (by decide)) (fun _ hk => hk.2) (.slice Ao53 t361.length co53)) (fun _ hk => hk.2) (.int .i64 t364)) (fun _ h_ => h_.1))) hb); replace HO358 := Aside0.mk (Kd.R_below (by (with_reducible repeat (first | apply Kd.R_alloc | apply Kd.R_drewN | apply Kd.R_drew)); exact (Kd.R_mono (Kd.R_far (p := ⟨gb365, 1, none⟩) (Kd.R_far (p := ⟨gb365, 0, none⟩) (Kd.R_types HO358.out BK365.out (by decide)) (fun _ hk => hk.2) (.slice Ao53 t361.length co53)) (fun _ hk => hk.2) (.int .i64 t364)) (fun _ h_ => h_.1))) hb); replace HO363 := Aside0.mk (Kd.R_below (by (with_reducible repeat (first | apply Kd.R_alloc | apply Kd.R_drewN | apply Kd.R_drew)); exact (Kd.R_mono (Kd.R_far (p := ⟨gb365, 1, none⟩) (Kd.R_far (p := ⟨gb365, 0, none⟩) (Kd.R_types HO363.out BK365.out (by decide)) (fun _ hk => hk.2) (.slice Ao53 t361.length co53)) (fun _ hk => hk.2) (.int .i64 t364)) (fun _ h_ => h_.1))) hb); replace BK339 := Aside0.mk (blk_below (g := gb339) (o := .cells #[.slice Ao8 t334.length co8, .int .i64 t337] 25 (0, 0)) (by (with_reducible repeat (first | refine blk_drewN ?_ _ | refine blk_drew ?_ | refine blk_alloc ?_ _)); refine blk_far ?_ NB339_365.out _; (with_reducible repeat (first | refine blk_drewN ?_ _ | refine blk_drew ?_ | refine blk_alloc ?_ _)); refine blk_far ?_ NB339_365.out _; exact zk BK339) hb); replace BK344 := Aside0.mk (blk_below (g := gb344) (o := .cells #[.slice Ao12 t340.length co12, .int .i64 t343] 25 (0, 0)) (by (with_reducible repeat (first | refine blk_drewN ?_ _ | refine blk_drew ?_ | refine blk_alloc ?_ _)); refine blk_far ?_ NB344_365.out _; (with_reducible repeat (first | refine blk_drewN ?_ _ | refine blk_drew ?_ | refine blk_alloc ?_ _)); refine blk_far ?_ NB344_365.out _; exact zk BK344) hb); replace BK360 := Aside0.mk (blk_below (g := gb360) (o := .cells #[.slice Ao47 t356.length co47, .int .i64 t359] 25 (0, 0)) (by (with_reducible repeat (first | refine blk_drewN ?_ _ | refine blk_drew ?_ | refine blk_alloc ?_ _)); refine blk_far ?_ NB360_365.out _; (with_reducible repeat (first | refine blk_drewN ?_ _ | refine blk_drew ?_ | refine blk_alloc ?_ _)); refine blk_far ?_ NB360_365.out _; exact zk BK360) hb); replace BK365 := Aside0.mk (blk_below (g := gb365) (o := .cells #[.slice Ao53 t361.length co53, .int .i64 t364] 25 (0, 0)) (by (with_reducible repeat (first | refine blk_drewN ?_ _ | refine blk_drew ?_ | refine blk_alloc ?_ _)); refine blk_put (cs := #[.slice Ao53 t361.length co53, .int .i64 0]) ?_ 1 _ rfl; (with_reducible repeat (first | refine blk_drewN ?_ _ | refine blk_drew ?_ | refine blk_alloc ?_ _)); refine blk_put (cs := #[.slice none 0 0, .int .i64 0]) ?_ 0 _ rfl; exact zk BK365) hb); replace HB := Aside0.mk (below_step (zb HB) hb); (try clear hb); (try clear hk)))
        go_ret
        exact ⟨ze, zb HB⟩
       ·rw [if_neg c41] at H
        have c41b0 : ((t361.length : Int) == 0) = false := beq_eq_false_iff_ne.mpr c41
        have c41b1 : ((t361.length : Int) != 0) = true := bne_iff_ne.mpr c41
        have c41b2 : ¬ (t361 = []) := fun h_ => c41 (by rw [h_]; rfl)
        obtain rfl := Option.some.inj H
        have hnb60 := NB339_344.out
        have hnc60 := NB344_339.out
        have hcz61_0 : wc.cell? ⟨gb339, 0, none⟩ = some (.slice Ao8 t334.length co8) := (blk_cell BK339.out 0).trans rfl
        have hcz61_1 : wc.cell? ⟨gb339, 1, none⟩ = some (.int .i64 t337) := (blk_cell BK339.out 1).trans rfl
        have hfz61_0 := blk_frozen BK339.out 0
        have hfz61_1 := blk_frozen BK339.out 1
        go_wp2_with (first | ((with_reducible refine gq 16 rfl ?_); refine gl (some 36) Try.func16 #[.agg #[.slice Ao8 t334.length co8, .int .i64 t337], .int .i64 0] ?_; (with_reducible refine (impl_TableLimit.calls kj4 _ _ t334 t337 0 t356 t359 _ ?side1 ?side2 A37.out).mono ?_); (case side1 => exact zc (Kd.R_reads' HO_340000.out).2.2); (case side2 => exact (Kd.R_reads' HO_340000.out).2.1); rintro e w62 ⟨v357, rfl, ho0, hb⟩; refine ⟨_, rfl, ?_⟩; have HO358 := Aside0.mk (Kd.R_lower (Kd.R_new' (Kd.R_new' ho0 (Kd.R_lt (zr HO_340000))) (Kd.R_lt (zr HO_345000))) (below_size (zb HB))); replace HO_340000 := Aside0.mk (Kd.R_elder' (zr HO_340000) (Kd.R_base ho0) hb); replace HO_345000 := Aside0.mk (Kd.R_elder' (zr HO_345000) (Kd.R_base ho0) hb); replace BK339 := Aside0.mk (blk_below (g := gb339) (o := .cells #[.slice Ao8 t334.length co8, .int .i64 t337] 25 (0, 0)) (zk BK339) hb); replace BK344 := Aside0.mk (blk_below (g := gb344) (o := .cells #[.slice Ao12 t340.length co12, .int .i64 t343] 25 (0, 0)) (zk BK344) hb); replace HB := Aside0.mk (below_step (zb HB) hb); (try clear hb); (try clear ho0)) | ((with_reducible refine gd 6 rfl ?_); (try (refine gate_guard (by rfl) ?_; dsimp only)); refine bx (N := 6) (cs := #[.slice none 0 0, .int .i64 0]) (t := 25) ?_; intro gb360 hg w63 hbox hb; replace HO_340000 := Aside0.mk (Kd.R_below (zr HO_340000) hb); replace HO_345000 := Aside0.mk (Kd.R_below (zr HO_345000) hb); replace HO358 := Aside0.mk (Kd.R_below (zr HO358) hb); have BK360 := Aside0.mk (hbox); have GW360 := Aside0.mk ((by rw [hg]; exact (below_size (zb HB)) : w.heap.size ≤ gb360)); have GE360 := Aside0.mk ((by rw [hg]; exact (below_size (zb HB)) : w.heap.size ≤ gb360)); replace HB := Aside0.mk (below_step (zb HB) hb); have NB339_360 := Aside0.mk ((by rw [hg]; exact Nat.ne_of_lt (blk_lt (g := gb339) (o := .cells #[.slice Ao8 t334.length co8, .int .i64 t337] 25 (0, 0)) (zk BK339)) : gb339 ≠ gb360)); have NB360_339 := Aside0.mk ((by rw [hg]; exact Nat.ne_of_gt (blk_lt (g := gb339) (o := .cells #[.slice Ao8 t334.length co8, .int .i64 t337] 25 (0, 0)) (zk BK339)) : gb360 ≠ gb339)); replace BK339 := Aside0.mk (blk_below (g := gb339) (o := .cells #[.slice Ao8 t334.length co8, .int .i64 t337] 25 (0, 0)) (zk BK339) hb); have NB344_360 := Aside0.mk ((by rw [hg]; exact Nat.ne_of_lt (blk_lt (g := gb344) (o := .cells #[.slice Ao12 t340.length co12, .int .i64 t343] 25 (0, 0)) (zk BK344)) : gb344 ≠ gb360)); have NB360_344 := Aside0.mk ((by rw [hg]; exact Nat.ne_of_gt (blk_lt (g := gb344) (o := .cells #[.slice Ao12 t340.length co12, .int .i64 t343] 25 (0, 0)) (zk BK344)) : gb360 ≠ gb344)); replace BK344 := Aside0.mk (blk_below (g := gb344) (o := .cells #[.slice Ao12 t340.length co12, .int .i64 t343] 25 (0, 0)) (zk BK344) hb); clear hb hbox hg; obtain ⟨Ao64, co64, eo64⟩ := Kd.R_slice HO358.out; subst eo64; have hnb65 := NB360_339.out; have hnc65 := NB339_360.out; have hnb66 := NB360_344.out; have hnc66 := NB344_360.out; have hcz67_0 : w63.cell? ⟨gb360, 0, none⟩ = some (.slice none 0 0) := (blk_cell BK360.out 0).trans rfl; have hcz67_1 : w63.cell? ⟨gb360, 1, none⟩ = some (.int .i64 0) := (blk_cell BK360.out 1).trans rfl; have hfz67_0 := blk_frozen BK360.out 0; have hfz67_1 := blk_frozen BK360.out 1) | ((with_reducible refine gq 30 rfl ?_); refine gl (some 39) Try.func30 #[.agg #[.slice Ao64 t356.length co64, .int .i64 t359], .agg #[.string (⟨#[97]⟩ : ByteArray), .string (⟨#[]⟩ : ByteArray), .bool false]] ?_; (with_reducible refine (impl_TableAdd.calls kj4 _ _ t356 t359 (⟨#[97]⟩ : ByteArray) (⟨#[]⟩ : ByteArray) false t361 t364 _ ?side1 ?side2 A38.out).mono ?_); (case side1 => refine (Kd.R_reads' (e := 36) (base := w.heap.size) (ok := fun k_ => ((True ∧ some k_ ≠ (.slice Ao8 t334.length co8 : Value).ownBlock) ∧ some k_ ≠ (.slice Ao12 t340.length co12 : Value).ownBlock)) (n := t356.length) (c := co64) ?_).2.2; exact (by (with_reducible repeat (first | apply Kd.R_alloc | apply Kd.R_drewN | apply Kd.R_drew)); exact (Kd.R_mono (Kd.R_far (p := ⟨gb360, 1, none⟩) (Kd.R_far (p := ⟨gb360, 0, none⟩) (Kd.R_types HO358.out BK360.out (by decide)) (fun _ hk => hk.2) (.slice Ao64 t356.length co64)) (fun _ hk => hk.2) (.int .i64 t359)) (fun _ h_ => h_.1)))); (case side2 => exact (Kd.R_reads' HO358.out).2.1); rintro e w68 ⟨v362, rfl, ho0, hb⟩; refine ⟨_, rfl, ?_⟩; have HO363 := Aside0.mk (Kd.R_lower (Kd.R_new' (Kd.R_new' (Kd.R_new' ho0 (Kd.R_lt (by (with_reducible repeat (first | apply Kd.R_alloc | apply Kd.R_drewN | apply Kd.R_drew)); exact (Kd.R_mono (Kd.R_far (p := ⟨gb360, 1, none⟩) (Kd.R_far (p := ⟨gb360, 0, none⟩) (Kd.R_types HO_340000.out BK360.out (by decide)) (fun _ hk => hk.2) (.slice Ao64 t356.length co64)) (fun _ hk => hk.2) (.int .i64 t359)) (fun _ h_ => h_.1))))) (Kd.R_lt (by (with_reducible repeat (first | apply Kd.R_alloc | apply Kd.R_drewN | apply Kd.R_drew)); exact (Kd.R_mono (Kd.R_far (p := ⟨gb360, 1, none⟩) (Kd.R_far (p := ⟨gb360, 0, none⟩) (Kd.R_types HO_345000.out BK360.out (by decide)) (fun _ hk => hk.2) (.slice Ao64 t356.length co64)) (fun _ hk => hk.2) (.int .i64 t359)) (fun _ h_ => h_.1))))) (Kd.R_lt (by (with_reducible repeat (first | apply Kd.R_alloc | apply Kd.R_drewN | apply Kd.R_drew)); exact (Kd.R_mono (Kd.R_far (p := ⟨gb360, 1, none⟩) (Kd.R_far (p := ⟨gb360, 0, none⟩) (Kd.R_types HO358.out BK360.out (by decide)) (fun _ hk => hk.2) (.slice Ao64 t356.length co64)) (fun _ hk => hk.2) (.int .i64 t359)) (fun _ h_ => h_.1))))) (below_size (zb HB))); replace HO_340000 := Aside0.mk (Kd.R_elder' (by (with_reducible repeat (first | apply Kd.R_alloc | apply Kd.R_drewN | apply Kd.R_drew)); exact (Kd.R_mono (Kd.R_far (p := ⟨gb360, 1, none⟩) (Kd.R_far (p := ⟨gb360, 0, none⟩) (Kd.R_types HO_340000.out BK360.out (by decide)) (fun _ hk => hk.2) (.slice Ao64 t356.length co64)) (fun _ hk => hk.2) (.int .i64 t359)) (fun _ h_ => h_.1))) (Kd.R_base ho0) hb); replace HO_345000 := Aside0.mk (Kd.R_elder' (by (with_reducible repeat (first | apply Kd.R_alloc | apply Kd.R_drewN | apply Kd.R_drew)); exact (Kd.R_mono (Kd.R_far (p := ⟨gb360, 1, none⟩) (Kd.R_far (p := ⟨gb360, 0, none⟩) (Kd.R_types HO_345000.out BK360.out (by decide)) (fun _ hk => hk.2) (.slice Ao64 t356.length co64)) (fun _ hk => hk.2) (.int .i64 t359)) (fun _ h_ => h_.1))) (Kd.R_base ho0) hb); replace HO358 := Aside0.mk (Kd.R_elder' (by (with_reducible repeat (first | apply Kd.R_alloc | apply Kd.R_drewN | apply Kd.R_drew)); exact (Kd.R_mono (Kd.R_far (p := ⟨gb360, 1, none⟩) (Kd.R_far (p := ⟨gb360, 0, none⟩) (Kd.R_types HO358.out BK360.out (by decide)) (fun _ hk => hk.2) (.slice Ao64 t356.length co64)) (fun _ hk => hk.2) (.int .i64 t359)) (fun _ h_ => h_.1))) (Kd.R_base ho0) hb); replace BK339 := Aside0.mk (blk_below (g := gb339) (o := .cells #[.slice Ao8 t334.length co8, .int .i64 t337] 25 (0, 0)) (by (with_reducible repeat (first | refine blk_drewN ?_ _ | refine blk_drew ?_ | refine blk_alloc ?_ _)); refine blk_far ?_ NB339_360.out _; (with_reducible repeat (first | refine blk_drewN ?_ _ | refine blk_drew ?_ | refine blk_alloc ?_ _)); refine blk_far ?_ NB339_360.out _; exact zk BK339) hb); replace BK344 := Aside0.mk (blk_below (g := gb344) (o := .cells #[.slice Ao12 t340.length co12, .int .i64 t343] 25 (0, 0)) (by (with_reducible repeat (first | refine blk_drewN ?_ _ | refine blk_drew ?_ | refine blk_alloc ?_ _)); refine blk_far ?_ NB344_360.out _; (with_reducible repeat (first | refine blk_drewN ?_ _ | refine blk_drew ?_ | refine blk_alloc ?_ _)); refine blk_far ?_ NB344_360.out _; exact zk BK344) hb); replace BK360 := Aside0.mk (blk_below (g := gb360) (o := .cells #[.slice Ao64 t356.length co64, .int .i64 t359] 25 (0, 0)) (by (with_reducible repeat (first | refine blk_drewN ?_ _ | refine blk_drew ?_ | refine blk_alloc ?_ _)); refine blk_put (cs := #[.slice Ao64 t356.length co64, .int .i64 0]) ?_ 1 _ rfl; (with_reducible repeat (first | refine blk_drewN ?_ _ | refine blk_drew ?_ | refine blk_alloc ?_ _)); refine blk_put (cs := #[.slice none 0 0, .int .i64 0]) ?_ 0 _ rfl; exact zk BK360) hb); replace HB := Aside0.mk (below_step (zb HB) hb); (try clear hb); (try clear hk); (try clear ho0)) | ((with_reducible refine gd 7 rfl ?_); (try (refine gate_guard (by rfl) ?_; dsimp only)); refine bx (N := 7) (cs := #[.slice none 0 0, .int .i64 0]) (t := 25) ?_; intro gb365 hg w69 hbox hb; replace HO_340000 := Aside0.mk (Kd.R_below (zr HO_340000) hb); replace HO_345000 := Aside0.mk (Kd.R_below (zr HO_345000) hb); replace HO358 := Aside0.mk (Kd.R_below (zr HO358) hb); replace HO363 := Aside0.mk (Kd.R_below (zr HO363) hb); have BK365 := Aside0.mk (hbox); have GW365 := Aside0.mk ((by rw [hg]; exact (below_size (zb HB)) : w.heap.size ≤ gb365)); have GE365 := Aside0.mk ((by rw [hg]; exact (below_size (zb HB)) : w.heap.size ≤ gb365)); replace HB := Aside0.mk (below_step (zb HB) hb); have NB339_365 := Aside0.mk ((by rw [hg]; exact Nat.ne_of_lt (blk_lt (g := gb339) (o := .cells #[.slice Ao8 t334.length co8, .int .i64 t337] 25 (0, 0)) (zk BK339)) : gb339 ≠ gb365)); have NB365_339 := Aside0.mk ((by rw [hg]; exact Nat.ne_of_gt (blk_lt (g := gb339) (o := .cells #[.slice Ao8 t334.length co8, .int .i64 t337] 25 (0, 0)) (zk BK339)) : gb365 ≠ gb339)); replace BK339 := Aside0.mk (blk_below (g := gb339) (o := .cells #[.slice Ao8 t334.length co8, .int .i64 t337] 25 (0, 0)) (zk BK339) hb); have NB344_365 := Aside0.mk ((by rw [hg]; exact Nat.ne_of_lt (blk_lt (g := gb344) (o := .cells #[.slice Ao12 t340.length co12, .int .i64 t343] 25 (0, 0)) (zk BK344)) : gb344 ≠ gb365)); have NB365_344 := Aside0.mk ((by rw [hg]; exact Nat.ne_of_gt (blk_lt (g := gb344) (o := .cells #[.slice Ao12 t340.length co12, .int .i64 t343] 25 (0, 0)) (zk BK344)) : gb365 ≠ gb344)); replace BK344 := Aside0.mk (blk_below (g := gb344) (o := .cells #[.slice Ao12 t340.length co12, .int .i64 t343] 25 (0, 0)) (zk BK344) hb); have NB360_365 := Aside0.mk ((by rw [hg]; exact Nat.ne_of_lt (blk_lt (g := gb360) (o := .cells #[.slice Ao64 t356.length co64, .int .i64 t359] 25 (0, 0)) (zk BK360)) : gb360 ≠ gb365)); have NB365_360 := Aside0.mk ((by rw [hg]; exact Nat.ne_of_gt (blk_lt (g := gb360) (o := .cells #[.slice Ao64 t356.length co64, .int .i64 t359] 25 (0, 0)) (zk BK360)) : gb365 ≠ gb360)); replace BK360 := Aside0.mk (blk_below (g := gb360) (o := .cells #[.slice Ao64 t356.length co64, .int .i64 t359] 25 (0, 0)) (zk BK360) hb); clear hb hbox hg; obtain ⟨Ao70, co70, eo70⟩ := Kd.R_slice HO363.out; subst eo70; have hnb71 := NB365_339.out; have hnc71 := NB339_365.out; have hnb72 := NB365_344.out; have hnc72 := NB344_365.out; have hnb73 := NB365_360.out; have hnc73 := NB360_365.out; have hcz74_0 : w69.cell? ⟨gb365, 0, none⟩ = some (.slice none 0 0) := (blk_cell BK365.out 0).trans rfl; have hcz74_1 : w69.cell? ⟨gb365, 1, none⟩ = some (.int .i64 0) := (blk_cell BK365.out 1).trans rfl; have hfz74_0 := blk_frozen BK365.out 0; have hfz74_1 := blk_frozen BK365.out 1; have hcz75_0 : w69.cell? ⟨gb360, 0, none⟩ = some (.slice Ao64 t356.length co64) := (blk_cell BK360.out 0).trans rfl; have hcz75_1 : w69.cell? ⟨gb360, 1, none⟩ = some (.int .i64 t359) := (blk_cell BK360.out 1).trans rfl; have hfz75_0 := blk_frozen BK360.out 0; have hfz75_1 := blk_frozen BK360.out 1))
        go_ret
        exact ⟨ze, zb HB⟩
      ·rw [if_neg c40] at H
       have c40b0 : (t359 == 0) = false := beq_eq_false_iff_ne.mpr c40
       have c40b1 : (t359 != 0) = true := bne_iff_ne.mpr c40
       obtain rfl := Option.some.inj H
       have hnb76 := NB339_344.out
       have hnc76 := NB344_339.out
       have hcz77_0 : wc.cell? ⟨gb339, 0, none⟩ = some (.slice Ao8 t334.length co8) := (blk_cell BK339.out 0).trans rfl
       have hcz77_1 : wc.cell? ⟨gb339, 1, none⟩ = some (.int .i64 t337) := (blk_cell BK339.out 1).trans rfl
       have hfz77_0 := blk_frozen BK339.out 0
       have hfz77_1 := blk_frozen BK339.out 1
       go_wp2_with (first | ((with_reducible refine gq 16 rfl ?_); refine gl (some 36) Try.func16 #[.agg #[.slice Ao8 t334.length co8, .int .i64 t337], .int .i64 0] ?_; (with_reducible refine (impl_TableLimit.calls kj4 _ _ t334 t337 0 t356 t359 _ ?side1 ?side2 A37.out).mono ?_); (case side1 => exact zc (Kd.R_reads' HO_340000.out).2.2); (case side2 => exact (Kd.R_reads' HO_340000.out).2.1); rintro e w78 ⟨v357, rfl, ho0, hb⟩; refine ⟨_, rfl, ?_⟩; have HO358 := Aside0.mk (Kd.R_lower (Kd.R_new' (Kd.R_new' ho0 (Kd.R_lt (zr HO_340000))) (Kd.R_lt (zr HO_345000))) (below_size (zb HB))); replace HO_340000 := Aside0.mk (Kd.R_elder' (zr HO_340000) (Kd.R_base ho0) hb); replace HO_345000 := Aside0.mk (Kd.R_elder' (zr HO_345000) (Kd.R_base ho0) hb); replace BK339 := Aside0.mk (blk_below (g := gb339) (o := .cells #[.slice Ao8 t334.length co8, .int .i64 t337] 25 (0, 0)) (zk BK339) hb); replace BK344 := Aside0.mk (blk_below (g := gb344) (o := .cells #[.slice Ao12 t340.length co12, .int .i64 t343] 25 (0, 0)) (zk BK344) hb); replace HB := Aside0.mk (below_step (zb HB) hb); (try clear hb); (try clear ho0)) | ((with_reducible refine gd 6 rfl ?_); (try (refine gate_guard (by rfl) ?_; dsimp only)); refine bx (N := 6) (cs := #[.slice none 0 0, .int .i64 0]) (t := 25) ?_; intro gb360 hg w79 hbox hb; replace HO_340000 := Aside0.mk (Kd.R_below (zr HO_340000) hb); replace HO_345000 := Aside0.mk (Kd.R_below (zr HO_345000) hb); replace HO358 := Aside0.mk (Kd.R_below (zr HO358) hb); have BK360 := Aside0.mk (hbox); have GW360 := Aside0.mk ((by rw [hg]; exact (below_size (zb HB)) : w.heap.size ≤ gb360)); have GE360 := Aside0.mk ((by rw [hg]; exact (below_size (zb HB)) : w.heap.size ≤ gb360)); replace HB := Aside0.mk (below_step (zb HB) hb); have NB339_360 := Aside0.mk ((by rw [hg]; exact Nat.ne_of_lt (blk_lt (g := gb339) (o := .cells #[.slice Ao8 t334.length co8, .int .i64 t337] 25 (0, 0)) (zk BK339)) : gb339 ≠ gb360)); have NB360_339 := Aside0.mk ((by rw [hg]; exact Nat.ne_of_gt (blk_lt (g := gb339) (o := .cells #[.slice Ao8 t334.length co8, .int .i64 t337] 25 (0, 0)) (zk BK339)) : gb360 ≠ gb339)); replace BK339 := Aside0.mk (blk_below (g := gb339) (o := .cells #[.slice Ao8 t334.length co8, .int .i64 t337] 25 (0, 0)) (zk BK339) hb); have NB344_360 := Aside0.mk ((by rw [hg]; exact Nat.ne_of_lt (blk_lt (g := gb344) (o := .cells #[.slice Ao12 t340.length co12, .int .i64 t343] 25 (0, 0)) (zk BK344)) : gb344 ≠ gb360)); have NB360_344 := Aside0.mk ((by rw [hg]; exact Nat.ne_of_gt (blk_lt (g := gb344) (o := .cells #[.slice Ao12 t340.length co12, .int .i64 t343] 25 (0, 0)) (zk BK344)) : gb360 ≠ gb344)); replace BK344 := Aside0.mk (blk_below (g := gb344) (o := .cells #[.slice Ao12 t340.length co12, .int .i64 t343] 25 (0, 0)) (zk BK344) hb); clear hb hbox hg; obtain ⟨Ao80, co80, eo80⟩ := Kd.R_slice HO358.out; subst eo80; have hnb81 := NB360_339.out; have hnc81 := NB339_360.out; have hnb82 := NB360_344.out; have hnc82 := NB344_360.out; have hcz83_0 : w79.cell? ⟨gb360, 0, none⟩ = some (.slice none 0 0) := (blk_cell BK360.out 0).trans rfl; have hcz83_1 : w79.cell? ⟨gb360, 1, none⟩ = some (.int .i64 0) := (blk_cell BK360.out 1).trans rfl; have hfz83_0 := blk_frozen BK360.out 0; have hfz83_1 := blk_frozen BK360.out 1) | ((with_reducible refine gq 30 rfl ?_); refine gl (some 39) Try.func30 #[.agg #[.slice Ao80 t356.length co80, .int .i64 t359], .agg #[.string (⟨#[97]⟩ : ByteArray), .string (⟨#[]⟩ : ByteArray), .bool false]] ?_; (with_reducible refine (impl_TableAdd.calls kj4 _ _ t356 t359 (⟨#[97]⟩ : ByteArray) (⟨#[]⟩ : ByteArray) false t361 t364 _ ?side1 ?side2 A38.out).mono ?_); (case side1 => refine (Kd.R_reads' (e := 36) (base := w.heap.size) (ok := fun k_ => ((True ∧ some k_ ≠ (.slice Ao8 t334.length co8 : Value).ownBlock) ∧ some k_ ≠ (.slice Ao12 t340.length co12 : Value).ownBlock)) (n := t356.length) (c := co80) ?_).2.2; exact (by (with_reducible repeat (first | apply Kd.R_alloc | apply Kd.R_drewN | apply Kd.R_drew)); exact (Kd.R_mono (Kd.R_far (p := ⟨gb360, 1, none⟩) (Kd.R_far (p := ⟨gb360, 0, none⟩) (Kd.R_types HO358.out BK360.out (by decide)) (fun _ hk => hk.2) (.slice Ao80 t356.length co80)) (fun _ hk => hk.2) (.int .i64 t359)) (fun _ h_ => h_.1)))); (case side2 => exact (Kd.R_reads' HO358.out).2.1); rintro e w84 ⟨v362, rfl, ho0, hb⟩; refine ⟨_, rfl, ?_⟩; have HO363 := Aside0.mk (Kd.R_lower (Kd.R_new' (Kd.R_new' (Kd.R_new' ho0 (Kd.R_lt (by (with_reducible repeat (first | apply Kd.R_alloc | apply Kd.R_drewN | apply Kd.R_drew)); exact (Kd.R_mono (Kd.R_far (p := ⟨gb360, 1, none⟩) (Kd.R_far (p := ⟨gb360, 0, none⟩) (Kd.R_types HO_340000.out BK360.out (by decide)) (fun _ hk => hk.2) (.slice Ao80 t356.length co80)) (fun _ hk => hk.2) (.int .i64 t359)) (fun _ h_ => h_.1))))) (Kd.R_lt (by (with_reducible repeat (first | apply Kd.R_alloc | apply Kd.R_drewN | apply Kd.R_drew)); exact (Kd.R_mono (Kd.R_far (p := ⟨gb360, 1, none⟩) (Kd.R_far (p := ⟨gb360, 0, none⟩) (Kd.R_types HO_345000.out BK360.out (by decide)) (fun _ hk => hk.2) (.slice Ao80 t356.length co80)) (fun _ hk => hk.2) (.int .i64 t359)) (fun _ h_ => h_.1))))) (Kd.R_lt (by (with_reducible repeat (first | apply Kd.R_alloc | apply Kd.R_drewN | apply Kd.R_drew)); exact (Kd.R_mono (Kd.R_far (p := ⟨gb360, 1, none⟩) (Kd.R_far (p := ⟨gb360, 0, none⟩) (Kd.R_types HO358.out BK360.out (by decide)) (fun _ hk => hk.2) (.slice Ao80 t356.length co80)) (fun _ hk => hk.2) (.int .i64 t359)) (fun _ h_ => h_.1))))) (below_size (zb HB))); replace HO_340000 := Aside0.mk (Kd.R_elder' (by (with_reducible repeat (first | apply Kd.R_alloc | apply Kd.R_drewN | apply Kd.R_drew)); exact (Kd.R_mono (Kd.R_far (p := ⟨gb360, 1, none⟩) (Kd.R_far (p := ⟨gb360, 0, none⟩) (Kd.R_types HO_340000.out BK360.out (by decide)) (fun _ hk => hk.2) (.slice Ao80 t356.length co80)) (fun _ hk => hk.2) (.int .i64 t359)) (fun _ h_ => h_.1))) (Kd.R_base ho0) hb); replace HO_345000 := Aside0.mk (Kd.R_elder' (by (with_reducible repeat (first | apply Kd.R_alloc | apply Kd.R_drewN | apply Kd.R_drew)); exact (Kd.R_mono (Kd.R_far (p := ⟨gb360, 1, none⟩) (Kd.R_far (p := ⟨gb360, 0, none⟩) (Kd.R_types HO_345000.out BK360.out (by decide)) (fun _ hk => hk.2) (.slice Ao80 t356.length co80)) (fun _ hk => hk.2) (.int .i64 t359)) (fun _ h_ => h_.1))) (Kd.R_base ho0) hb); replace HO358 := Aside0.mk (Kd.R_elder' (by (with_reducible repeat (first | apply Kd.R_alloc | apply Kd.R_drewN | apply Kd.R_drew)); exact (Kd.R_mono (Kd.R_far (p := ⟨gb360, 1, none⟩) (Kd.R_far (p := ⟨gb360, 0, none⟩) (Kd.R_types HO358.out BK360.out (by decide)) (fun _ hk => hk.2) (.slice Ao80 t356.length co80)) (fun _ hk => hk.2) (.int .i64 t359)) (fun _ h_ => h_.1))) (Kd.R_base ho0) hb); replace BK339 := Aside0.mk (blk_below (g := gb339) (o := .cells #[.slice Ao8 t334.length co8, .int .i64 t337] 25 (0, 0)) (by (with_reducible repeat (first | refine blk_drewN ?_ _ | refine blk_drew ?_ | refine blk_alloc ?_ _)); refine blk_far ?_ NB339_360.out _; (with_reducible repeat (first | refine blk_drewN ?_ _ | refine blk_drew ?_ | refine blk_alloc ?_ _)); refine blk_far ?_ NB339_360.out _; exact zk BK339) hb); replace BK344 := Aside0.mk (blk_below (g := gb344) (o := .cells #[.slice Ao12 t340.length co12, .int .i64 t343] 25 (0, 0)) (by (with_reducible repeat (first | refine blk_drewN ?_ _ | refine blk_drew ?_ | refine blk_alloc ?_ _)); refine blk_far ?_ NB344_360.out _; (with_reducible repeat (first | refine blk_drewN ?_ _ | refine blk_drew ?_ | refine blk_alloc ?_ _)); refine blk_far ?_ NB344_360.out _; exact zk BK344) hb); replace BK360 := Aside0.mk (blk_below (g := gb360) (o := .cells #[.slice Ao80 t356.length co80, .int .i64 t359] 25 (0, 0)) (by (with_reducible repeat (first | refine blk_drewN ?_ _ | refine blk_drew ?_ | refine blk_alloc ?_ _)); refine blk_put (cs := #[.slice Ao80 t356.length co80, .int .i64 0]) ?_ 1 _ rfl; (with_reducible repeat (first | refine blk_drewN ?_ _ | refine blk_drew ?_ | refine blk_alloc ?_ _)); refine blk_put (cs := #[.slice none 0 0, .int .i64 0]) ?_ 0 _ rfl; exact zk BK360) hb); replace HB := Aside0.mk (below_step (zb HB) hb); (try clear hb); (try clear hk); (try clear ho0)) | ((with_reducible refine gd 7 rfl ?_); (try (refine gate_guard (by rfl) ?_; dsimp only)); refine bx (N := 7) (cs := #[.slice none 0 0, .int .i64 0]) (t := 25) ?_; intro gb365 hg w85 hbox hb; replace HO_340000 := Aside0.mk (Kd.R_below (zr HO_340000) hb); replace HO_345000 := Aside0.mk (Kd.R_below (zr HO_345000) hb); replace HO358 := Aside0.mk (Kd.R_below (zr HO358) hb); replace HO363 := Aside0.mk (Kd.R_below (zr HO363) hb); have BK365 := Aside0.mk (hbox); have GW365 := Aside0.mk ((by rw [hg]; exact (below_size (zb HB)) : w.heap.size ≤ gb365)); have GE365 := Aside0.mk ((by rw [hg]; exact (below_size (zb HB)) : w.heap.size ≤ gb365)); replace HB := Aside0.mk (below_step (zb HB) hb); have NB339_365 := Aside0.mk ((by rw [hg]; exact Nat.ne_of_lt (blk_lt (g := gb339) (o := .cells #[.slice Ao8 t334.length co8, .int .i64 t337] 25 (0, 0)) (zk BK339)) : gb339 ≠ gb365)); have NB365_339 := Aside0.mk ((by rw [hg]; exact Nat.ne_of_gt (blk_lt (g := gb339) (o := .cells #[.slice Ao8 t334.length co8, .int .i64 t337] 25 (0, 0)) (zk BK339)) : gb365 ≠ gb339)); replace BK339 := Aside0.mk (blk_below (g := gb339) (o := .cells #[.slice Ao8 t334.length co8, .int .i64 t337] 25 (0, 0)) (zk BK339) hb); have NB344_365 := Aside0.mk ((by rw [hg]; exact Nat.ne_of_lt (blk_lt (g := gb344) (o := .cells #[.slice Ao12 t340.length co12, .int .i64 t343] 25 (0, 0)) (zk BK344)) : gb344 ≠ gb365)); have NB365_344 := Aside0.mk ((by rw [hg]; exact Nat.ne_of_gt (blk_lt (g := gb344) (o := .cells #[.slice Ao12 t340.length co12, .int .i64 t343] 25 (0, 0)) (zk BK344)) : gb365 ≠ gb344)); replace BK344 := Aside0.mk (blk_below (g := gb344) (o := .cells #[.slice Ao12 t340.length co12, .int .i64 t343] 25 (0, 0)) (zk BK344) hb); have NB360_365 := Aside0.mk ((by rw [hg]; exact Nat.ne_of_lt (blk_lt (g := gb360) (o := .cells #[.slice Ao80 t356.length co80, .int .i64 t359] 25 (0, 0)) (zk BK360)) : gb360 ≠ gb365)); have NB365_360 := Aside0.mk ((by rw [hg]; exact Nat.ne_of_gt (blk_lt (g := gb360) (o := .cells #[.slice Ao80 t356.length co80, .int .i64 t359] 25 (0, 0)) (zk BK360)) : gb365 ≠ gb360)); replace BK360 := Aside0.mk (blk_below (g := gb360) (o := .cells #[.slice Ao80 t356.length co80, .int .i64 t359] 25 (0, 0)) (zk BK360) hb); clear hb hbox hg; obtain ⟨Ao86, co86, eo86⟩ := Kd.R_slice HO363.out; subst eo86; have hnb87 := NB365_339.out; have hnc87 := NB339_365.out; have hnb88 := NB365_344.out; have hnc88 := NB344_365.out; have hnb89 := NB365_360.out; have hnc89 := NB360_365.out; have hcz90_0 : w85.cell? ⟨gb365, 0, none⟩ = some (.slice none 0 0) := (blk_cell BK365.out 0).trans rfl; have hcz90_1 : w85.cell? ⟨gb365, 1, none⟩ = some (.int .i64 0) := (blk_cell BK365.out 1).trans rfl; have hfz90_0 := blk_frozen BK365.out 0; have hfz90_1 := blk_frozen BK365.out 1; have hcz91_0 : w85.cell? ⟨gb360, 0, none⟩ = some (.slice Ao80 t356.length co80) := (blk_cell BK360.out 0).trans rfl; have hcz91_1 : w85.cell? ⟨gb360, 1, none⟩ = some (.int .i64 t359) := (blk_cell BK360.out 1).trans rfl; have hfz91_0 := blk_frozen BK360.out 0; have hfz91_1 := blk_frozen BK360.out 1))
       go_ret
       exact ⟨ze, zb HB⟩
     ·rw [if_neg c39] at H
      have c39b0 : ((t356.length : Int) == 0) = false := beq_eq_false_iff_ne.mpr c39
      have c39b1 : ((t356.length : Int) != 0) = true := bne_iff_ne.mpr c39
      have c39b2 : ¬ (t356 = []) := fun h_ => c39 (by rw [h_]; rfl)
      obtain rfl := Option.some.inj H
      have hnb92 := NB339_344.out
      have hnc92 := NB344_339.out
      have hcz93_0 : wc.cell? ⟨gb339, 0, none⟩ = some (.slice Ao8 t334.length co8) := (blk_cell BK339.out 0).trans rfl
      have hcz93_1 : wc.cell? ⟨gb339, 1, none⟩ = some (.int .i64 t337) := (blk_cell BK339.out 1).trans rfl
      have hfz93_0 := blk_frozen BK339.out 0
      have hfz93_1 := blk_frozen BK339.out 1
      go_wp2_with (first | ((with_reducible refine gq 16 rfl ?_); refine gl (some 36) Try.func16 #[.agg #[.slice Ao8 t334.length co8, .int .i64 t337], .int .i64 0] ?_; (with_reducible refine (impl_TableLimit.calls kj4 _ _ t334 t337 0 t356 t359 _ ?side1 ?side2 A37.out).mono ?_); (case side1 => exact zc (Kd.R_reads' HO_340000.out).2.2); (case side2 => exact (Kd.R_reads' HO_340000.out).2.1); rintro e w94 ⟨v357, rfl, ho0, hb⟩; refine ⟨_, rfl, ?_⟩; have HO358 := Aside0.mk (Kd.R_lower (Kd.R_new' (Kd.R_new' ho0 (Kd.R_lt (zr HO_340000))) (Kd.R_lt (zr HO_345000))) (below_size (zb HB))); replace HO_340000 := Aside0.mk (Kd.R_elder' (zr HO_340000) (Kd.R_base ho0) hb); replace HO_345000 := Aside0.mk (Kd.R_elder' (zr HO_345000) (Kd.R_base ho0) hb); replace BK339 := Aside0.mk (blk_below (g := gb339) (o := .cells #[.slice Ao8 t334.length co8, .int .i64 t337] 25 (0, 0)) (zk BK339) hb); replace BK344 := Aside0.mk (blk_below (g := gb344) (o := .cells #[.slice Ao12 t340.length co12, .int .i64 t343] 25 (0, 0)) (zk BK344) hb); replace HB := Aside0.mk (below_step (zb HB) hb); (try clear hb); (try clear ho0)) | ((with_reducible refine gd 6 rfl ?_); (try (refine gate_guard (by rfl) ?_; dsimp only)); refine bx (N := 6) (cs := #[.slice none 0 0, .int .i64 0]) (t := 25) ?_; intro gb360 hg w95 hbox hb; replace HO_340000 := Aside0.mk (Kd.R_below (zr HO_340000) hb); replace HO_345000 := Aside0.mk (Kd.R_below (zr HO_345000) hb); replace HO358 := Aside0.mk (Kd.R_below (zr HO358) hb); have BK360 := Aside0.mk (hbox); have GW360 := Aside0.mk ((by rw [hg]; exact (below_size (zb HB)) : w.heap.size ≤ gb360)); have GE360 := Aside0.mk ((by rw [hg]; exact (below_size (zb HB)) : w.heap.size ≤ gb360)); replace HB := Aside0.mk (below_step (zb HB) hb); have NB339_360 := Aside0.mk ((by rw [hg]; exact Nat.ne_of_lt (blk_lt (g := gb339) (o := .cells #[.slice Ao8 t334.length co8, .int .i64 t337] 25 (0, 0)) (zk BK339)) : gb339 ≠ gb360)); have NB360_339 := Aside0.mk ((by rw [hg]; exact Nat.ne_of_gt (blk_lt (g := gb339) (o := .cells #[.slice Ao8 t334.length co8, .int .i64 t337] 25 (0, 0)) (zk BK339)) : gb360 ≠ gb339)); replace BK339 := Aside0.mk (blk_below (g := gb339) (o := .cells #[.slice Ao8 t334.length co8, .int .i64 t337] 25 (0, 0)) (zk BK339) hb); have NB344_360 := Aside0.mk ((by rw [hg]; exact Nat.ne_of_lt (blk_lt (g := gb344) (o := .cells #[.slice Ao12 t340.length co12, .int .i64 t343] 25 (0, 0)) (zk BK344)) : gb344 ≠ gb360)); have NB360_344 := Aside0.mk ((by rw [hg]; exact Nat.ne_of_gt (blk_lt (g := gb344) (o := .cells #[.slice Ao12 t340.length co12, .int .i64 t343] 25 (0, 0)) (zk BK344)) : gb360 ≠ gb344)); replace BK344 := Aside0.mk (blk_below (g := gb344) (o := .cells #[.slice Ao12 t340.length co12, .int .i64 t343] 25 (0, 0)) (zk BK344) hb); clear hb hbox hg; obtain ⟨Ao96, co96, eo96⟩ := Kd.R_slice HO358.out; subst eo96; have hnb97 := NB360_339.out; have hnc97 := NB339_360.out; have hnb98 := NB360_344.out; have hnc98 := NB344_360.out; have hcz99_0 : w95.cell? ⟨gb360, 0, none⟩ = some (.slice none 0 0) := (blk_cell BK360.out 0).trans rfl; have hcz99_1 : w95.cell? ⟨gb360, 1, none⟩ = some (.int .i64 0) := (blk_cell BK360.out 1).trans rfl; have hfz99_0 := blk_frozen BK360.out 0; have hfz99_1 := blk_frozen BK360.out 1) | ((with_reducible refine gq 30 rfl ?_); refine gl (some 39) Try.func30 #[.agg #[.slice Ao96 t356.length co96, .int .i64 t359], .agg #[.string (⟨#[97]⟩ : ByteArray), .string (⟨#[]⟩ : ByteArray), .bool false]] ?_; (with_reducible refine (impl_TableAdd.calls kj4 _ _ t356 t359 (⟨#[97]⟩ : ByteArray) (⟨#[]⟩ : ByteArray) false t361 t364 _ ?side1 ?side2 A38.out).mono ?_); (case side1 => refine (Kd.R_reads' (e := 36) (base := w.heap.size) (ok := fun k_ => ((True ∧ some k_ ≠ (.slice Ao8 t334.length co8 : Value).ownBlock) ∧ some k_ ≠ (.slice Ao12 t340.length co12 : Value).ownBlock)) (n := t356.length) (c := co96) ?_).2.2; exact (by (with_reducible repeat (first | apply Kd.R_alloc | apply Kd.R_drewN | apply Kd.R_drew)); exact (Kd.R_mono (Kd.R_far (p := ⟨gb360, 1, none⟩) (Kd.R_far (p := ⟨gb360, 0, none⟩) (Kd.R_types HO358.out BK360.out (by decide)) (fun _ hk => hk.2) (.slice Ao96 t356.length co96)) (fun _ hk => hk.2) (.int .i64 t359)) (fun _ h_ => h_.1)))); (case side2 => exact (Kd.R_reads' HO358.out).2.1); rintro e w100 ⟨v362, rfl, ho0, hb⟩; refine ⟨_, rfl, ?_⟩; have HO363 := Aside0.mk (Kd.R_lower (Kd.R_new' (Kd.R_new' (Kd.R_new' ho0 (Kd.R_lt (by (with_reducible repeat (first | apply Kd.R_alloc | apply Kd.R_drewN | apply Kd.R_drew)); exact (Kd.R_mono (Kd.R_far (p := ⟨gb360, 1, none⟩) (Kd.R_far (p := ⟨gb360, 0, none⟩) (Kd.R_types HO_340000.out BK360.out (by decide)) (fun _ hk => hk.2) (.slice Ao96 t356.length co96)) (fun _ hk => hk.2) (.int .i64 t359)) (fun _ h_ => h_.1))))) (Kd.R_lt (by (with_reducible repeat (first | apply Kd.R_alloc | apply Kd.R_drewN | apply Kd.R_drew)); exact (Kd.R_mono (Kd.R_far (p := ⟨gb360, 1, none⟩) (Kd.R_far (p := ⟨gb360, 0, none⟩) (Kd.R_types HO_345000.out BK360.out (by decide)) (fun _ hk => hk.2) (.slice Ao96 t356.length co96)) (fun _ hk => hk.2) (.int .i64 t359)) (fun _ h_ => h_.1))))) (Kd.R_lt (by (with_reducible repeat (first | apply Kd.R_alloc | apply Kd.R_drewN | apply Kd.R_drew)); exact (Kd.R_mono (Kd.R_far (p := ⟨gb360, 1, none⟩) (Kd.R_far (p := ⟨gb360, 0, none⟩) (Kd.R_types HO358.out BK360.out (by decide)) (fun _ hk => hk.2) (.slice Ao96 t356.length co96)) (fun _ hk => hk.2) (.int .i64 t359)) (fun _ h_ => h_.1))))) (below_size (zb HB))); replace HO_340000 := Aside0.mk (Kd.R_elder' (by (with_reducible repeat (first | apply Kd.R_alloc | apply Kd.R_drewN | apply Kd.R_drew)); exact (Kd.R_mono (Kd.R_far (p := ⟨gb360, 1, none⟩) (Kd.R_far (p := ⟨gb360, 0, none⟩) (Kd.R_types HO_340000.out BK360.out (by decide)) (fun _ hk => hk.2) (.slice Ao96 t356.length co96)) (fun _ hk => hk.2) (.int .i64 t359)) (fun _ h_ => h_.1))) (Kd.R_base ho0) hb); replace HO_345000 := Aside0.mk (Kd.R_elder' (by (with_reducible repeat (first | apply Kd.R_alloc | apply Kd.R_drewN | apply Kd.R_drew)); exact (Kd.R_mono (Kd.R_far (p := ⟨gb360, 1, none⟩) (Kd.R_far (p := ⟨gb360, 0, none⟩) (Kd.R_types HO_345000.out BK360.out (by decide)) (fun _ hk => hk.2) (.slice Ao96 t356.length co96)) (fun _ hk => hk.2) (.int .i64 t359)) (fun _ h_ => h_.1))) (Kd.R_base ho0) hb); replace HO358 := Aside0.mk (Kd.R_elder' (by (with_reducible repeat (first | apply Kd.R_alloc | apply Kd.R_drewN | apply Kd.R_drew)); exact (Kd.R_mono (Kd.R_far (p := ⟨gb360, 1, none⟩) (Kd.R_far (p := ⟨gb360, 0, none⟩) (Kd.R_types HO358.out BK360.out (by decide)) (fun _ hk => hk.2) (.slice Ao96 t356.length co96)) (fun _ hk => hk.2) (.int .i64 t359)) (fun _ h_ => h_.1))) (Kd.R_base ho0) hb); replace BK339 := Aside0.mk (blk_below (g := gb339) (o := .cells #[.slice Ao8 t334.length co8, .int .i64 t337] 25 (0, 0)) (by (with_reducible repeat (first | refine blk_drewN ?_ _ | refine blk_drew ?_ | refine blk_alloc ?_ _)); refine blk_far ?_ NB339_360.out _; (with_reducible repeat (first | refine blk_drewN ?_ _ | refine blk_drew ?_ | refine blk_alloc ?_ _)); refine blk_far ?_ NB339_360.out _; exact zk BK339) hb); replace BK344 := Aside0.mk (blk_below (g := gb344) (o := .cells #[.slice Ao12 t340.length co12, .int .i64 t343] 25 (0, 0)) (by (with_reducible repeat (first | refine blk_drewN ?_ _ | refine blk_drew ?_ | refine blk_alloc ?_ _)); refine blk_far ?_ NB344_360.out _; (with_reducible repeat (first | refine blk_drewN ?_ _ | refine blk_drew ?_ | refine blk_alloc ?_ _)); refine blk_far ?_ NB344_360.out _; exact zk BK344) hb); replace BK360 := Aside0.mk (blk_below (g := gb360) (o := .cells #[.slice Ao96 t356.length co96, .int .i64 t359] 25 (0, 0)) (by (with_reducible repeat (first | refine blk_drewN ?_ _ | refine blk_drew ?_ | refine blk_alloc ?_ _)); refine blk_put (cs := #[.slice Ao96 t356.length co96, .int .i64 0]) ?_ 1 _ rfl; (with_reducible repeat (first | refine blk_drewN ?_ _ | refine blk_drew ?_ | refine blk_alloc ?_ _)); refine blk_put (cs := #[.slice none 0 0, .int .i64 0]) ?_ 0 _ rfl; exact zk BK360) hb); replace HB := Aside0.mk (below_step (zb HB) hb); (try clear hb); (try clear hk); (try clear ho0)) | ((with_reducible refine gd 7 rfl ?_); (try (refine gate_guard (by rfl) ?_; dsimp only)); refine bx (N := 7) (cs := #[.slice none 0 0, .int .i64 0]) (t := 25) ?_; intro gb365 hg w101 hbox hb; replace HO_340000 := Aside0.mk (Kd.R_below (zr HO_340000) hb); replace HO_345000 := Aside0.mk (Kd.R_below (zr HO_345000) hb); replace HO358 := Aside0.mk (Kd.R_below (zr HO358) hb); replace HO363 := Aside0.mk (Kd.R_below (zr HO363) hb); have BK365 := Aside0.mk (hbox); have GW365 := Aside0.mk ((by rw [hg]; exact (below_size (zb HB)) : w.heap.size ≤ gb365)); have GE365 := Aside0.mk ((by rw [hg]; exact (below_size (zb HB)) : w.heap.size ≤ gb365)); replace HB := Aside0.mk (below_step (zb HB) hb); have NB339_365 := Aside0.mk ((by rw [hg]; exact Nat.ne_of_lt (blk_lt (g := gb339) (o := .cells #[.slice Ao8 t334.length co8, .int .i64 t337] 25 (0, 0)) (zk BK339)) : gb339 ≠ gb365)); have NB365_339 := Aside0.mk ((by rw [hg]; exact Nat.ne_of_gt (blk_lt (g := gb339) (o := .cells #[.slice Ao8 t334.length co8, .int .i64 t337] 25 (0, 0)) (zk BK339)) : gb365 ≠ gb339)); replace BK339 := Aside0.mk (blk_below (g := gb339) (o := .cells #[.slice Ao8 t334.length co8, .int .i64 t337] 25 (0, 0)) (zk BK339) hb); have NB344_365 := Aside0.mk ((by rw [hg]; exact Nat.ne_of_lt (blk_lt (g := gb344) (o := .cells #[.slice Ao12 t340.length co12, .int .i64 t343] 25 (0, 0)) (zk BK344)) : gb344 ≠ gb365)); have NB365_344 := Aside0.mk ((by rw [hg]; exact Nat.ne_of_gt (blk_lt (g := gb344) (o := .cells #[.slice Ao12 t340.length co12, .int .i64 t343] 25 (0, 0)) (zk BK344)) : gb365 ≠ gb344)); replace BK344 := Aside0.mk (blk_below (g := gb344) (o := .cells #[.slice Ao12 t340.length co12, .int .i64 t343] 25 (0, 0)) (zk BK344) hb); have NB360_365 := Aside0.mk ((by rw [hg]; exact Nat.ne_of_lt (blk_lt (g := gb360) (o := .cells #[.slice Ao96 t356.length co96, .int .i64 t359] 25 (0, 0)) (zk BK360)) : gb360 ≠ gb365)); have NB365_360 := Aside0.mk ((by rw [hg]; exact Nat.ne_of_gt (blk_lt (g := gb360) (o := .cells #[.slice Ao96 t356.length co96, .int .i64 t359] 25 (0, 0)) (zk BK360)) : gb365 ≠ gb360)); replace BK360 := Aside0.mk (blk_below (g := gb360) (o := .cells #[.slice Ao96 t356.length co96, .int .i64 t359] 25 (0, 0)) (zk BK360) hb); clear hb hbox hg; obtain ⟨Ao102, co102, eo102⟩ := Kd.R_slice HO363.out; subst eo102; have hnb103 := NB365_339.out; have hnc103 := NB339_365.out; have hnb104 := NB365_344.out; have hnc104 := NB344_365.out; have hnb105 := NB365_360.out; have hnc105 := NB360_365.out; have hcz106_0 : w101.cell? ⟨gb365, 0, none⟩ = some (.slice none 0 0) := (blk_cell BK365.out 0).trans rfl; have hcz106_1 : w101.cell? ⟨gb365, 1, none⟩ = some (.int .i64 0) := (blk_cell BK365.out 1).trans rfl; have hfz106_0 := blk_frozen BK365.out 0; have hfz106_1 := blk_frozen BK365.out 1; have hcz107_0 : w101.cell? ⟨gb360, 0, none⟩ = some (.slice Ao96 t356.length co96) := (blk_cell BK360.out 0).trans rfl; have hcz107_1 : w101.cell? ⟨gb360, 1, none⟩ = some (.int .i64 t359) := (blk_cell BK360.out 1).trans rfl; have hfz107_0 := blk_frozen BK360.out 0; have hfz107_1 := blk_frozen BK360.out 1))
      go_ret
      exact ⟨ze, zb HB⟩

/-- THE ONE PURE STATEMENT of laws_FnLimitNone: yours. -/
def laws_FnLimitNone.Pure : Prop := ∀ (l0 : List Int), l0.length ≤ maxLen → l0.length * 1 ≤ 140737488351232 → (∀ x ∈ l0, (Lit.int .u8 x).wf = true) → ∃ k, laws_FnLimitNone.f k l0 = some true
theorem laws_FnLimitNone.walk (P : laws_FnLimitNone.Pure) (a0 : Option Addr) (len0 cap0 : Nat) (z0 : List Int) (w : World) (w0 : (a0 = none ∧ len0 = 0 ∧ cap0 = 0 ∧ z0 = []) ∨ ∃ x, a0 = some x ∧ len0 ≤ cap0 ∧ cap0 ≤ maxLen ∧ z0.length = cap0 ∧ (∀ i, i < z0.length → w.cell? (x.add i) = some (.int .u8 (z0.getD i 0))) ∧ ∀ n ∈ z0, (Lit.int .u8 n).wf = true) (y0 : len0 * 1 ≤ 140737488351232) :
  Calls Try.prog 7 #[.slice a0 len0 cap0] w fun e w' => e = .returned (.bool true) ∧ Below w.heap.size w w' := by
 obtain ⟨l0, rfl, hr0, hm0, hw0, hc0⟩ := ReadsInt.ofRowC w0
 obtain ⟨k, h⟩ := P l0 hm0 y0 hw0
 refine (laws_FnLimitNone.calls k _ _ l0 true w (Kd.C_of_reads (d := (0 : Int)) (h1 := fun _ => rfl) hr0) hc0 h).mono ?_
 rintro e w' ⟨rfl, hd⟩
 exact ⟨rfl, hd⟩

end Go.Proofs.Ytdhahifdcoinhaa.PFnLimitNone
