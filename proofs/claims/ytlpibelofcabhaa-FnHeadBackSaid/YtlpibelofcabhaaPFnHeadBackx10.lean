-- WRITTEN BY a turned print (wip/tools of the prover's repo)
import Derived.Test.YtlpibelofcabhaaPFnHeadBackx0
import Derived.Test.YtlpibelofcabhaaPFnHeadBackx1
import Derived.Test.YtlpibelofcabhaaPFnHeadBackx8
import Derived.Test.YtlpibelofcabhaaPFnHeadBackx9
namespace Go.Proofs.Ytlpibelofcabhaa.PFnHeadBack
open Go.RowKit Go.Proofs.YtlpibelofcabhaaW.PrintWords Go.Proofs.YtlpibelofcabhaaW.PrintLast Go.Proofs.YtlpibelofcabhaaW.PrintMore Go.Proofs.Ytlpibelofcabhaa.Lm
attribute [local go_sem] max2_int min2_int max_two min_two max_three min_three max_four min_four   -- for this text's walks alone
set_option linter.unusedVariables false
set_option linter.unusedSimpArgs false

attribute [local go_sem high] eqA88
/-! ### impl_Table_write: function 54 -/
-- thin
def impl_Table_write.l0 : Nat → ByteArray → List (S88) → Int → Int → List (S88) → Int → Option ((List (S88)) × Int × ByteArray)
 | 0, _, _, _, _, _, _ => none
 | k + 1, x6, x11, x12, x13, x460000, x460001 => if x13 < x12 then (if 0 ≤ x13 then (if x13 < (x11.length : Int) then ((impl_Table_find.f x460000 x460001 ((rd_T88 x11 x13).f0) ((rd_T88 x11 x13).f1) ((rd_T88 x11 x13).f2)).bind fun bt467 => (if (rd_T88 x11 x13).f2 = true then ((impl_named.f k ((rd_T88 x11 x13).f0) ((rd_T88 x11 x13).f1) ((rd_T88 x11 x13).f2) bt467.1 4).bind fun t469 => (if x6.size + t469.size ≤ 9223372036854775807 then (impl_Table_write.l0 k (x6 ++ t469) x11 x12 (wrap64 (x13 + 1)) x460000 x460001) else (none))) else (if bt467.2 = true then ((impl_NumWrite.f k bt467.1 7 1).bind fun t470 => (if x6.size + t470.size ≤ 9223372036854775807 then (impl_Table_write.l0 k (x6 ++ t470) x11 x12 (wrap64 (x13 + 1)) x460000 x460001) else (none))) else ((impl_named.f k ((rd_T88 x11 x13).f0) ((rd_T88 x11 x13).f1) ((rd_T88 x11 x13).f2) bt467.1 6).bind fun t471 => (if x6.size + t471.size ≤ 9223372036854775807 then ((impl_Table_add.f k x460000 x460001 ((rd_T88 x11 x13).f0) ((rd_T88 x11 x13).f1) ((rd_T88 x11 x13).f2)).bind fun bt472 => (impl_Table_write.l0 k (x6 ++ t471) x11 x12 (wrap64 (x13 + 1)) bt472.1 bt472.2)) else (none)))))) else (none)) else (none)) else ((impl_Table_clone.f x460000 x460001).bind fun bt461 => (some (bt461.1, bt461.2, x6)))
def impl_Table_write.f (k : Nat) (l0_0 : List (S88)) (a0_1 : Int) (l1 : List (S88)) : Option ((List (S88)) × Int × ByteArray) := impl_Table_write.l0 k (⟨#[]⟩ : ByteArray) l1 (l1.length : Int) 0 l0_0 a0_1
theorem impl_Table_write.mono_l : ∀ k, (∀ y0 y1 y2 y3 y4 y5, LeO (impl_Table_write.l0 k y0 y1 y2 y3 y4 y5) (impl_Table_write.l0 (k + 1) y0 y1 y2 y3 y4 y5))
 | 0 => fun _ _ _ _ _ _ r h => by simp [impl_Table_write.l0] at h
 | k + 1 => by
  have ih0 := impl_Table_write.mono_l k
  ·intro y0 y1 y2 y3 y4 y5
   unfold impl_Table_write.l0
   have m0 := @impl_NumWrite.mono
   have m1 := @impl_Table_add.mono
   have m2 := @impl_named.mono
   exact zm
theorem impl_Table_write.mono : ∀ a0 a1 a2 k, LeO (impl_Table_write.f k a0 a1 a2) (impl_Table_write.f (k + 1) a0 a1 a2) := by
 intro a0 a1 a2 k
 have ih0 := impl_Table_write.mono_l k
 unfold impl_Table_write.f
 have m0 := @impl_NumWrite.mono
 have m1 := @impl_Table_add.mono
 have m2 := @impl_named.mono
 exact zm
set_option maxHeartbeats 8000000 in
set_option maxRecDepth 100000 in
theorem impl_Table_write.calls (k : Nat) (P0_0_ : Nat → Prop) (A0_0 : Option Addr) (c0_0 : Nat) (l0_0 : List (S88)) (a0_1 : Int) (A1 : Option Addr) (c1 : Nat) (l1 : List (S88)) (r1 : List (S88)) (r2 : Int) (r3 : ByteArray) (w : World) (hs0_0 : Kd.V k88 88 w w.heap.size (fun k_ => P0_0_ k_) (.slice A0_0 l0_0.length c0_0) l0_0) (hr1 : Kd.C k88 w A1 l1.length l1) (hc1 : l1.length ≤ c1) (h : impl_Table_write.f k l0_0 a0_1 l1 = some (r1, r2, r3)) :
  Calls Try.prog 54 #[.agg #[.slice A0_0 l0_0.length c0_0, .int .i64 a0_1], .slice A1 l1.length c1] w fun e w' => ∃ v0_ : Value, e = .returned (.tuple #[.agg #[v0_, .int .i64 r2], .string r3]) ∧ Kd.R k88 88 w' w.heap.size (fun k_ => (w.heap.size ≤ k_)) v0_ r1 ∧ Below w.heap.size w w' := by
 have hu25 := Try.underlying25
 have hu88 := Try.underlying88
 have HO0_0 := Aside0.mk (show Kd.V k88 88 w w.heap.size (fun k_ => (P0_0_ k_ ∨ w.heap.size ≤ k_)) (.slice A0_0 l0_0.length c0_0) l0_0 from Kd.V_mono hs0_0 (fun k_ hk => .inl hk))
 have HR1 := Aside0.mk hr1
 have HC1 := Aside0.mk hc1
 clear hr1 hc1
 have HB := Aside0.mk (Below.refl w.heap.size w)
 have H : (impl_Table_write.l0 k (⟨#[]⟩ : ByteArray) l1 (l1.length : Int) 0 l0_0 a0_1) = some (r1, r2, r3) := h
 clear h
 have H' := Aside0.mk H
 clear H
 go_enter Try.func54, Try.ntmps54
 go_wp2_with (first | ((with_reducible refine gd 2 rfl ?_); refine bx (N := 2) (cs := #[.slice A0_0 l0_0.length c0_0, .int .i64 a0_1]) (t := 25) ?_; intro gb459 hg w3 hbox hb; replace HO0_0 := Aside0.mk (Kd.V_below (Kd.V_elderB (zV HO0_0) gb459 (Nat.le_of_eq hg.symm)) hb); have BK459 := Aside0.mk (hbox); have GW459 := gw HB hg; have GE459 := GW459; replace HB := Aside0.mk (below_step (zb HB) hb); clear hb hbox hg) | ((with_reducible refine gd 4 rfl ?_); refine bx (N := 4) (cs := #[.slice none 0 0, .int .i64 0]) (t := 25) ?_; intro gb460 hg w4 hbox hb; replace HO0_0 := Aside0.mk (Kd.V_below (Kd.V_elderB (zV HO0_0) gb460 (Nat.le_of_eq hg.symm)) hb); have BK460 := Aside0.mk (hbox); have GW460 := gw HB hg; have GE460 := GW460; replace HB := Aside0.mk (below_step (zb HB) hb); obtain ⟨NB459_460, NB460_459⟩ := nb BK459 hg; replace BK459 := kb BK459 hb; clear hb hbox hg))
 go_loopg [6, 13] k (fun kq v6 v13 w' => ∃ (x6_1 : ByteArray) (x13_1 : Int) (x460000_1 : List (S88)) (x460001_1 : Int) (u460000 : Value), v6 = .string x6_1 ∧ v13 = .int .i64 x13_1 ∧ Aside0 (impl_Table_write.l0 kq x6_1 l1 (l1.length : Int) x13_1 x460000_1 x460001_1 = some (r1, r2, r3)) ∧ Aside0 (kq ≤ k) ∧ Aside0 (Kd.V k88 88 w' w.heap.size (fun k_ => (P0_0_ k_ ∨ w.heap.size ≤ k_) ∧ k_ ≠ gb459 ∧ k_ ≠ gb460) u460000 x460000_1) ∧ Aside0 (w'.heap[gb459]? = some (.cells #[u460000, .int .i64 x460001_1] 25 (0, 0))) ∧ Aside0 (w'.heap[gb460]? = some (.cells #[(.slice none 0 0), .int .i64 0] 25 (0, 0))) ∧ Aside0 (Below w.heap.size w w'))
 case atStart => exact ⟨((⟨#[]⟩ : ByteArray)), (0), (l0_0), (a0_1), (.slice A0_0 l0_0.length c0_0), zs, zs, H', ⟨Nat.le_refl _⟩, ⟨by (with_reducible repeat (first | apply Kd.V_alloc | apply Kd.V_drewN | apply Kd.V_drew)); exact Kd.V_mono HO0_0.out (fun _ hk => ⟨hk.1.1, ⟨hk.1.2, hk.2⟩⟩)⟩, ⟨by exact zk BK459⟩, ⟨by exact zk BK460⟩, ⟨zb HB⟩⟩
 case round =>
  clear H'
  try clear c1
  try clear p2
  obtain ⟨x6_1, x13_1, x460000_1, x460001_1, u460000, rfl, rfl, HA, HK1, HO_460000, BK459, BK460, HB⟩ := hrel
  cases gk with
  | zero => exact absurd HA.out (by simp [impl_Table_write.l0])
  | succ k1 =>
   have H := HA.out
   clear HA
   simp only [impl_Table_write.l0] at H
   replace H := sp H
   rcases H with ⟨c5, H⟩ | ⟨c5, H⟩
   ·skip
    have c5b0 := decide_eq_true c5
    clear c5
    by_cases c6 : 0 ≤ x13_1
    ·rw [if_pos c6] at H
     have c6b0 := decide_eq_true c6
     clear c6
     by_cases c7 : x13_1 < (l1.length : Int)
     ·rw [if_pos c7] at H
      have c7b0 := decide_eq_true c7
      clear c7
      obtain ⟨⟨t467, t468⟩, A8, H⟩ := ob H
      (try dsimp only at H)
      have HC9 := Aside0.mk H
      clear H
      have p465 : 0 ≤ (x13_1 : Int) := of_decide_eq_true za
      have q465 : x13_1 < (l1.length : Int) := of_decide_eq_true za
      obtain ⟨ad465, e465, hx465_0, hx465_1, hx465_2⟩ := at_T88 HR1.out x13_1 p465 q465
      cases e465
      replace hx465_0 := (HB.out.cell (World.block_lt_of_cell? w _ hx465_0)).trans hx465_0
      replace hx465_1 := (HB.out.cell (World.block_lt_of_cell? w _ hx465_1)).trans hx465_1
      replace hx465_2 := (HB.out.cell (World.block_lt_of_cell? w _ hx465_2)).trans hx465_2
      replace p465 := eq_true p465
      replace q465 := eq_true q465
      go_upto_if 31 with (first | ((with_reducible refine gd 8 rfl ?_); refine bx (N := 8) (cs := #[.string (⟨#[]⟩ : ByteArray), .string (⟨#[]⟩ : ByteArray), .bool false]) (t := 88) ?_; intro gb466 hg w10 hbox hb; replace HO_460000 := Aside0.mk (Kd.V_below (Kd.V_elderB (zV HO_460000) gb466 (Nat.le_of_eq hg.symm)) hb); have BK466 := Aside0.mk (hbox); have GW466 := gw HB hg; have GE466 := GW466; replace HB := Aside0.mk (below_step (zb HB) hb); obtain ⟨NB459_466, NB466_459⟩ := nb BK459 hg; replace BK459 := kb BK459 hb; obtain ⟨NB460_466, NB466_460⟩ := nb BK460 hg; replace BK460 := kb BK460 hb; clear hb hbox hg; have hnb11 := NB466_459.out; have hnc11 := NB459_466.out; have hnb12 := NB466_460.out; have hnc12 := NB460_466.out; obtain ⟨hcz13_0, hcz13_1, hcz13_2, hfz13_0, hfz13_1, hfz13_2⟩ := c3 BK466; have hnb14 := NB459_460.out; have hnc14 := NB460_459.out; obtain ⟨hcz15_0, hcz15_1, hfz15_0, hfz15_1⟩ := c2 BK459; obtain ⟨Ao16, co16, eo16⟩ := Kd.V_slice HO_460000.out; subst eo16) | ((with_reducible refine gq 110 rfl ?_); refine gl (some 20) Try.func110 #[.agg #[.slice Ao16 x460000_1.length co16, .int .i64 x460001_1], .agg #[.string ((rd_T88 l1 x13_1).f0), .string ((rd_T88 l1 x13_1).f1), .bool ((rd_T88 l1 x13_1).f2)]] ?_; (with_reducible refine (impl_Table_find.calls _ _ x460000_1 x460001_1 ((rd_T88 l1 x13_1).f0) ((rd_T88 l1 x13_1).f1) ((rd_T88 l1 x13_1).f2) t467 t468 _ ?side1 ?side2 A8.out).mono ?_); (case side1 => refine (Kd.V_reads' (e := 88) (base := w.heap.size) (ok := fun k_ => ((((P0_0_ k_ ∨ w.heap.size ≤ k_)) ∧ (k_ ≠ gb459 ∧ k_ ≠ gb460)) ∧ k_ ≠ gb466)) (n := x460000_1.length) (c := co16) ?_).2.2; exact (by (with_reducible repeat (first | apply Kd.V_alloc | apply Kd.V_drewN | apply Kd.V_drew)); exact (Kd.V_mono (Kd.V_far (p := ⟨gb466, 2, none⟩) (Kd.V_far (p := ⟨gb466, 1, none⟩) (Kd.V_far (p := ⟨gb466, 0, none⟩) (Kd.V_mono HO_460000.out (fun k_ hk => (⟨hk, hk.2⟩ : _ ∧ k_ ≠ gb466))) (fun _ hk => hk.2) (.string ((rd_T88 l1 x13_1).f0))) (fun _ hk => hk.2) (.string ((rd_T88 l1 x13_1).f1))) (fun _ hk => hk.2) (.bool ((rd_T88 l1 x13_1).f2))) (fun _ h_ => h_.1)))); (case side2 => exact (Kd.V_reads' HO_460000.out).2.1); rintro e w17 ⟨rfl, hb⟩; refine ⟨_, rfl, ?_⟩; replace HO_460000 := Aside0.mk (Kd.V_below (by (with_reducible repeat (first | apply Kd.V_alloc | apply Kd.V_drewN | apply Kd.V_drew)); exact (Kd.V_mono (Kd.V_far (p := ⟨gb466, 2, none⟩) (Kd.V_far (p := ⟨gb466, 1, none⟩) (Kd.V_far (p := ⟨gb466, 0, none⟩) (Kd.V_mono HO_460000.out (fun k_ hk => (⟨hk, hk.2⟩ : _ ∧ k_ ≠ gb466))) (fun _ hk => hk.2) (.string ((rd_T88 l1 x13_1).f0))) (fun _ hk => hk.2) (.string ((rd_T88 l1 x13_1).f1))) (fun _ hk => hk.2) (.bool ((rd_T88 l1 x13_1).f2))) (fun _ h_ => h_.1))) hb); replace BK459 := Aside0.mk (blk_below (g := gb459) (o := .cells #[.slice Ao16 x460000_1.length co16, .int .i64 x460001_1] 25 (0, 0)) (by (with_reducible repeat (first | refine blk_drewN ?_ _ | refine blk_drew ?_ | refine blk_alloc ?_ _)); refine blk_far ?_ NB459_466.out _; (with_reducible repeat (first | refine blk_drewN ?_ _ | refine blk_drew ?_ | refine blk_alloc ?_ _)); refine blk_far ?_ NB459_466.out _; (with_reducible repeat (first | refine blk_drewN ?_ _ | refine blk_drew ?_ | refine blk_alloc ?_ _)); refine blk_far ?_ NB459_466.out _; exact zk BK459) hb); replace BK460 := Aside0.mk (blk_below (g := gb460) (o := .cells #[.slice none 0 0, .int .i64 0] 25 (0, 0)) (by (with_reducible repeat (first | refine blk_drewN ?_ _ | refine blk_drew ?_ | refine blk_alloc ?_ _)); refine blk_far ?_ NB460_466.out _; (with_reducible repeat (first | refine blk_drewN ?_ _ | refine blk_drew ?_ | refine blk_alloc ?_ _)); refine blk_far ?_ NB460_466.out _; (with_reducible repeat (first | refine blk_drewN ?_ _ | refine blk_drew ?_ | refine blk_alloc ?_ _)); refine blk_far ?_ NB460_466.out _; exact zk BK460) hb); replace BK466 := Aside0.mk (blk_below (g := gb466) (o := .cells #[.string ((rd_T88 l1 x13_1).f0), .string ((rd_T88 l1 x13_1).f1), .bool ((rd_T88 l1 x13_1).f2)] 88 (0, 0)) (by (with_reducible repeat (first | refine blk_drewN ?_ _ | refine blk_drew ?_ | refine blk_alloc ?_ _)); refine blk_put (cs := #[.string ((rd_T88 l1 x13_1).f0), .string ((rd_T88 l1 x13_1).f1), .bool false]) ?_ 2 _ rfl; (with_reducible repeat (first | refine blk_drewN ?_ _ | refine blk_drew ?_ | refine blk_alloc ?_ _)); refine blk_put (cs := #[.string ((rd_T88 l1 x13_1).f0), .string (⟨#[]⟩ : ByteArray), .bool false]) ?_ 1 _ rfl; (with_reducible repeat (first | refine blk_drewN ?_ _ | refine blk_drew ?_ | refine blk_alloc ?_ _)); refine blk_put (cs := #[.string (⟨#[]⟩ : ByteArray), .string (⟨#[]⟩ : ByteArray), .bool false]) ?_ 0 _ rfl; exact zk BK466) hb); replace HB := Aside0.mk (below_step (zb HB) hb); (try clear hb); (try clear hk); obtain ⟨hcz18_0, hcz18_1, hcz18_2, hfz18_0, hfz18_1, hfz18_2⟩ := c3 BK466))
      (try simp only [Act.put, s1, s2, s3])
      have H := HC9.out
      clear HC9
      obtain ⟨bq19, hbq19⟩ : ∃ b_ : Bool, b_ = ((rd_T88 l1 x13_1).f2) := ⟨_, rfl⟩
      replace H : (if bq19 = true then ((impl_named.f k1 ((rd_T88 l1 x13_1).f0) ((rd_T88 l1 x13_1).f1) (bq19) t467 4).bind fun t469 => (if x6_1.size + t469.size ≤ 9223372036854775807 then (impl_Table_write.l0 k1 (x6_1 ++ t469) l1 (l1.length : Int) (wrap64 (x13_1 + 1)) x460000_1 x460001_1) else (none))) else (if t468 = true then ((impl_NumWrite.f k1 t467 7 1).bind fun t470 => (if x6_1.size + t470.size ≤ 9223372036854775807 then (impl_Table_write.l0 k1 (x6_1 ++ t470) l1 (l1.length : Int) (wrap64 (x13_1 + 1)) x460000_1 x460001_1) else (none))) else ((impl_named.f k1 ((rd_T88 l1 x13_1).f0) ((rd_T88 l1 x13_1).f1) (bq19) t467 6).bind fun t471 => (if x6_1.size + t471.size ≤ 9223372036854775807 then ((impl_Table_add.f k1 x460000_1 x460001_1 ((rd_T88 l1 x13_1).f0) ((rd_T88 l1 x13_1).f1) (bq19)).bind fun bt472 => (impl_Table_write.l0 k1 (x6_1 ++ t471) l1 (l1.length : Int) (wrap64 (x13_1 + 1)) bt472.1 bt472.2)) else (none))))) = some (r1, r2, r3) := by rw [← hbq19] at H; exact H
      have Nbq19 := Aside0.mk hbq19
      clear hbq19
      (try rw [← Nbq19.out])
      (try rw [← Nbq19.out] at BK459)
      (try rw [← Nbq19.out] at BK460)
      (try rw [← Nbq19.out] at BK466)
      (try rw [← Nbq19.out] at hcz18_2)
      by_cases c20 : bq19 = true
      ·subst c20
       rw [if_pos rfl] at H
       obtain ⟨t469, A21, H⟩ := ob H
       (try dsimp only at H)
       by_cases c22 : x6_1.size + t469.size ≤ 9223372036854775807
       ·rw [if_pos c22] at H
        have c22b0 := eq_true c22
        have c22b1 := decide_eq_true c22
        try have c22b2 : (9223372036854775807 < x6_1.size + t469.size) = False := eq_false (Nat.not_lt.2 c22)
        have H' := Aside0.mk H
        clear H
        have hnb23 := NB466_459.out
        have hnc23 := NB459_466.out
        have hnb24 := NB466_460.out
        have hnc24 := NB460_466.out
        obtain ⟨hcz25_0, hcz25_1, hcz25_2, hfz25_0, hfz25_1, hfz25_2⟩ := c3 BK466
        go_wp2_with (first | ((with_reducible refine gq 111 rfl ?_); refine gl (some 37) Try.func111 #[.agg #[.string ((rd_T88 l1 x13_1).f0), .string ((rd_T88 l1 x13_1).f1), .bool true], .int .i64 t467, .int .i64 4] ?_; (with_reducible refine (impl_named.calls k1 ((rd_T88 l1 x13_1).f0) ((rd_T88 l1 x13_1).f1) true t467 4 t469 _ A21.out).mono ?_); rintro e w26 ⟨rfl, hb⟩; refine ⟨_, rfl, ?_⟩; replace HO_460000 := Aside0.mk (Kd.V_below (zV HO_460000) hb); replace BK459 := kb BK459 hb; replace BK460 := kb BK460 hb; replace BK466 := kb BK466 hb; replace HB := Aside0.mk (below_step (zb HB) hb); (try clear hb)))
        go_roundg k1
        case measure => have := HK1.out; omega
        case rel => exact ⟨(x6_1 ++ t469), (wrap64 (x13_1 + 1)), (x460000_1), (x460001_1), (.slice Ao16 x460000_1.length co16), zs, zs, H', ⟨by have := HK1.out; omega⟩, ⟨by (with_reducible repeat (first | apply Kd.V_alloc | apply Kd.V_drewN | apply Kd.V_drew)); exact Kd.V_mono HO_460000.out (fun _ hk => ⟨hk.1.1, ⟨hk.1.2.1, hk.1.2.2⟩⟩)⟩, ⟨by exact zk BK459⟩, ⟨by exact zk BK460⟩, ⟨zb HB⟩⟩
       ·rw [if_neg c22] at H
        exact absurd H (by simp)
      ·replace c20 := Bool.eq_false_iff.mpr c20
       subst c20
       rw [if_neg (show ¬ (false = true) by decide)] at H
       by_cases c27 : t468 = true
       ·subst c27
        rw [if_pos rfl] at H
        obtain ⟨t470, A28, H⟩ := ob H
        (try dsimp only at H)
        by_cases c29 : x6_1.size + t470.size ≤ 9223372036854775807
        ·rw [if_pos c29] at H
         have c29b0 := eq_true c29
         have c29b1 := decide_eq_true c29
         try have c29b2 : (9223372036854775807 < x6_1.size + t470.size) = False := eq_false (Nat.not_lt.2 c29)
         have H' := Aside0.mk H
         clear H
         go_wp2_with (first | ((with_reducible refine gq 112 rfl ?_); refine gl (some 43) Try.func112 #[.int .i64 t467, .int .i64 7, .int .i64 1] ?_; (with_reducible refine (impl_NumWrite.calls k1 t467 7 1 t470 _ A28.out).mono ?_); rintro e w30 ⟨rfl, hb⟩; refine ⟨_, rfl, ?_⟩; replace HO_460000 := Aside0.mk (Kd.V_below (zV HO_460000) hb); replace BK459 := kb BK459 hb; replace BK460 := kb BK460 hb; replace BK466 := kb BK466 hb; replace HB := Aside0.mk (below_step (zb HB) hb); (try clear hb)))
         go_roundg k1
         case measure => have := HK1.out; omega
         case rel => exact ⟨(x6_1 ++ t470), (wrap64 (x13_1 + 1)), (x460000_1), (x460001_1), (.slice Ao16 x460000_1.length co16), zs, zs, H', ⟨by have := HK1.out; omega⟩, ⟨by (with_reducible repeat (first | apply Kd.V_alloc | apply Kd.V_drewN | apply Kd.V_drew)); exact Kd.V_mono HO_460000.out (fun _ hk => ⟨hk.1.1, ⟨hk.1.2.1, hk.1.2.2⟩⟩)⟩, ⟨by exact zk BK459⟩, ⟨by exact zk BK460⟩, ⟨zb HB⟩⟩
        ·rw [if_neg c29] at H
         exact absurd H (by simp)
       ·replace c27 := Bool.eq_false_iff.mpr c27
        subst c27
        rw [if_neg (show ¬ (false = true) by decide)] at H
        obtain ⟨t471, A31, H⟩ := ob H
        (try dsimp only at H)
        by_cases c32 : x6_1.size + t471.size ≤ 9223372036854775807
        ·rw [if_pos c32] at H
         have c32b0 := eq_true c32
         have c32b1 := decide_eq_true c32
         try have c32b2 : (9223372036854775807 < x6_1.size + t471.size) = False := eq_false (Nat.not_lt.2 c32)
         obtain ⟨⟨t472, t475⟩, A33, H⟩ := ob H
         (try dsimp only at H)
         have H' := Aside0.mk H
         clear H
         have hnb34 := NB466_459.out
         have hnc34 := NB459_466.out
         have hnb35 := NB466_460.out
         have hnc35 := NB460_466.out
         obtain ⟨hcz36_0, hcz36_1, hcz36_2, hfz36_0, hfz36_1, hfz36_2⟩ := c3 BK466
         go_wp2_with (first | ((with_reducible refine gq 111 rfl ?_); refine gl (some 26) Try.func111 #[.agg #[.string ((rd_T88 l1 x13_1).f0), .string ((rd_T88 l1 x13_1).f1), .bool false], .int .i64 t467, .int .i64 6] ?_; (with_reducible refine (impl_named.calls k1 ((rd_T88 l1 x13_1).f0) ((rd_T88 l1 x13_1).f1) false t467 6 t471 _ A31.out).mono ?_); rintro e w37 ⟨rfl, hb⟩; refine ⟨_, rfl, ?_⟩; replace HO_460000 := Aside0.mk (Kd.V_below (zV HO_460000) hb); replace BK459 := kb BK459 hb; replace BK460 := kb BK460 hb; replace BK466 := kb BK466 hb; replace HB := Aside0.mk (below_step (zb HB) hb); (try clear hb); have hnb38 := NB459_460.out; have hnc38 := NB460_459.out; obtain ⟨hcz39_0, hcz39_1, hfz39_0, hfz39_1⟩ := c2 BK459; obtain ⟨hcz40_0, hcz40_1, hcz40_2, hfz40_0, hfz40_1, hfz40_2⟩ := c3 BK466) | ((with_reducible refine gq 59 rfl ?_); refine gl (some 30) Try.func59 #[.agg #[.slice Ao16 x460000_1.length co16, .int .i64 x460001_1], .agg #[.string ((rd_T88 l1 x13_1).f0), .string ((rd_T88 l1 x13_1).f1), .bool false]] ?_; (with_reducible refine (impl_Table_add.calls k1 (fun k_ => (((P0_0_ k_ ∨ w.heap.size ≤ k_) ∧ (k_ ≠ gb459 ∧ k_ ≠ gb460)) ∧ k_ ≠ gb466)) _ _ x460000_1 x460001_1 ((rd_T88 l1 x13_1).f0) ((rd_T88 l1 x13_1).f1) false t472 t475 _ ?side1 A33.out).mono ?_); (case side1 => exact HO_460000.out); rintro e w41 ⟨v473, rfl, ho0, hb⟩; refine ⟨_, rfl, ?_⟩; replace HO_460000 := Aside0.mk (Kd.V_elder' (zV HO_460000) (Kd.R_base ho0) hb); have HO474 := Aside0.mk (Kd.R_lower (Kd.R_newB (Kd.R_newM (M := fun k_ => (w.heap.size ≤ k_)) (Kd.R_mono (ok' := fun k_ => True) ho0 (fun _ hk_ => trivial)) (below_size (zb HB)) (fun k_ h_ => h_)) (zk BK466)) (below_size (zb HB))); replace BK459 := kb BK459 hb; replace BK460 := kb BK460 hb; replace BK466 := kb BK466 hb; replace HB := Aside0.mk (below_step (zb HB) hb); (try clear hb); (try clear ho0); obtain ⟨Ao42, co42, eo42⟩ := Kd.R_slice HO474.out; subst eo42; obtain ⟨hcz43_0, hcz43_1, hfz43_0, hfz43_1⟩ := c2 BK459))
         go_roundg k1
         case measure => have := HK1.out; omega
         case rel => exact ⟨(x6_1 ++ t471), (wrap64 (x13_1 + 1)), (t472), (t475), (.slice Ao42 t472.length co42), zs, zs, H', ⟨by have := HK1.out; omega⟩, ⟨by first | (refine Kd.V_mono (Kd.R_V (base := w.heap.size) ?h_) (fun k_ (hk : ((w.heap.size ≤ k_)) ∧ _) => ⟨(.inr (hk.1)), hk.2⟩); exact (by (with_reducible repeat (first | apply Kd.R_alloc | apply Kd.R_drewN | apply Kd.R_drew)); exact Kd.R_mono (Kd.R_far (p := ⟨gb459, 1, none⟩) (Kd.R_far (p := ⟨gb459, 0, none⟩) (Kd.R_types (Kd.R_types (Kd.R_types HO474.out BK459.out (by decide)) BK460.out (by decide)) BK459.out (by decide)) (fun _ hk => hk.2) (.slice Ao42 t472.length co42)) (fun _ hk => hk.2) (.int .i64 t475)) (fun _ hk => ⟨hk.1.1.1.1.1, ⟨hk.1.1.2, hk.1.2⟩⟩))) | (refine Kd.V_mono (Kd.R_V (base := w.heap.size) ?h_) (fun k_ (hk : (w.heap.size ≤ k_)) => (.inr (hk))); exact (by (with_reducible repeat (first | apply Kd.R_alloc | apply Kd.R_drewN | apply Kd.R_drew)); exact Kd.R_mono (Kd.R_far (p := ⟨gb459, 1, none⟩) (Kd.R_far (p := ⟨gb459, 0, none⟩) (Kd.R_types (Kd.R_types (Kd.R_types HO474.out BK459.out (by decide)) BK460.out (by decide)) BK459.out (by decide)) (fun _ hk => hk.2) (.slice Ao42 t472.length co42)) (fun _ hk => hk.2) (.int .i64 t475)) (fun _ hk => ⟨hk.1.1.1.1.1, ⟨hk.1.1.2, hk.1.2⟩⟩)))⟩, ⟨by (with_reducible repeat (first | refine blk_drewN ?_ _ | refine blk_drew ?_ | refine blk_alloc ?_ _)); refine blk_put (cs := #[.slice Ao42 t472.length co42, .int .i64 x460001_1]) ?_ 1 _ rfl; (with_reducible repeat (first | refine blk_drewN ?_ _ | refine blk_drew ?_ | refine blk_alloc ?_ _)); refine blk_put (cs := #[.slice Ao16 x460000_1.length co16, .int .i64 x460001_1]) ?_ 0 _ rfl; exact zk BK459⟩, ⟨by (with_reducible repeat (first | refine blk_drewN ?_ _ | refine blk_drew ?_ | refine blk_alloc ?_ _)); refine blk_far ?_ NB460_459.out _; (with_reducible repeat (first | refine blk_drewN ?_ _ | refine blk_drew ?_ | refine blk_alloc ?_ _)); refine blk_far ?_ NB460_459.out _; exact zk BK460⟩, ⟨zb HB⟩⟩
        ·rw [if_neg c32] at H
         exact absurd H (by simp)
     ·rw [if_neg c7] at H
      exact absurd H (by simp)
    ·rw [if_neg c6] at H
     exact absurd H (by simp)
   ·skip
    have c5b0 := decide_eq_false c5
    clear c5
    obtain ⟨⟨t461, t464⟩, A44, H⟩ := ob H
    (try dsimp only at H)
    simp only [Option.some.injEq, Prod.mk.injEq] at H
    obtain ⟨rfl, rfl, rfl⟩ := H
    have hnb45 := NB459_460.out
    have hnc45 := NB460_459.out
    obtain ⟨hcz46_0, hcz46_1, hfz46_0, hfz46_1⟩ := c2 BK459
    obtain ⟨Ao47, co47, eo47⟩ := Kd.V_slice HO_460000.out
    subst eo47
    go_wp2_with (first | ((with_reducible refine gq 60 rfl ?_); refine gl (some 47) Try.func60 #[.agg #[.slice Ao47 x460000_1.length co47, .int .i64 x460001_1]] ?_; (with_reducible refine (impl_Table_clone.calls _ _ x460000_1 x460001_1 t461 t464 _ ?side1 ?side2 A44.out).mono ?_); (case side1 => exact zc (Kd.V_reads' HO_460000.out).2.2); (case side2 => exact (Kd.V_reads' HO_460000.out).2.1); rintro e w48 ⟨v462, rfl, ho0, hb⟩; refine ⟨_, rfl, ?_⟩; replace HO_460000 := Aside0.mk (Kd.V_elder' (zV HO_460000) (Kd.R_base ho0) hb); have HO463 := Aside0.mk (Kd.R_lower (Kd.R_newM (M := fun k_ => (w.heap.size ≤ k_)) ho0 (below_size (zb HB)) (fun k_ h_ => h_)) (below_size (zb HB))); replace BK459 := kb BK459 hb; replace BK460 := kb BK460 hb; replace HB := Aside0.mk (below_step (zb HB) hb); (try clear hb); (try clear ho0); obtain ⟨Ao49, co49, eo49⟩ := Kd.R_slice HO463.out; subst eo49; obtain ⟨hcz50_0, hcz50_1, hfz50_0, hfz50_1⟩ := c2 BK460))
    refine bodyPost_ret (results_ct rfl _ _ gb460 25 #[.slice Ao49 t461.length co49, .int .i64 t464] (0, 0) _ rfl (by (with_reducible repeat (first | refine blk_drewN ?_ _ | refine blk_drew ?_ | refine blk_alloc ?_ _)); refine blk_put (cs := #[.slice Ao49 t461.length co49, .int .i64 0]) ?_ 1 _ rfl; (with_reducible repeat (first | refine blk_drewN ?_ _ | refine blk_drew ?_ | refine blk_alloc ?_ _)); refine blk_put (cs := #[.slice none 0 0, .int .i64 0]) ?_ 0 _ rfl; exact zk BK460) Try.underlying25 rfl (by kernel_rfl)) rfl ?_
    exact ⟨_, ze, by (with_reducible repeat (first | apply Kd.R_alloc | apply Kd.R_drewN | apply Kd.R_drew)); exact Kd.R_mono (Kd.R_far (p := ⟨gb460, 1, none⟩) (Kd.R_far (p := ⟨gb460, 0, none⟩) (Kd.R_types HO463.out BK460.out (by decide)) (fun _ hk => hk.2) (.slice Ao49 t461.length co49)) (fun _ hk => hk.2) (.int .i64 t464)) (fun _ hk => hk.1.1), zb HB⟩

/-! ### impl_HeadWrite: function 13 -/
-- thin
def impl_HeadWrite.f (k : Nat) (l0_0 : List (S88)) (a0_1 : Int) (l1 : List (S88)) : Option ((List (S88)) × Int × ByteArray) := (impl_TableOk.f k l0_0 a0_1).bind fun t478 => (if t478 = true then ((impl_HeadOk.f k l1).bind fun t479 => (if t479 = true then ((impl_Table_write.f k l0_0 a0_1 l1).bind fun bt480 => (some (bt480.1, bt480.2.1, bt480.2.2))) else (some (([] : List (S88)), 0, (⟨#[]⟩ : ByteArray))))) else (some (([] : List (S88)), 0, (⟨#[]⟩ : ByteArray))))
theorem impl_HeadWrite.mono : ∀ a0 a1 a2 k, LeO (impl_HeadWrite.f k a0 a1 a2) (impl_HeadWrite.f (k + 1) a0 a1 a2) := by
 intro a0 a1 a2 k
 unfold impl_HeadWrite.f
 have m0 := @impl_HeadOk.mono
 have m1 := @impl_TableOk.mono
 have m2 := @impl_Table_write.mono
 exact zm
set_option maxHeartbeats 8000000 in
set_option maxRecDepth 100000 in
theorem impl_HeadWrite.calls (k : Nat) (A0_0 : Option Addr) (c0_0 : Nat) (l0_0 : List (S88)) (a0_1 : Int) (A1 : Option Addr) (c1 : Nat) (l1 : List (S88)) (r1 : List (S88)) (r2 : Int) (r3 : ByteArray) (w : World) (hr0_0 : Kd.C k88 w A0_0 l0_0.length l0_0) (hc0_0 : l0_0.length ≤ c0_0) (hr1 : Kd.C k88 w A1 l1.length l1) (hc1 : l1.length ≤ c1) (h : impl_HeadWrite.f k l0_0 a0_1 l1 = some (r1, r2, r3)) :
  Calls Try.prog 13 #[.agg #[.slice A0_0 l0_0.length c0_0, .int .i64 a0_1], .slice A1 l1.length c1] w fun e w' => ∃ v0_ : Value, e = .returned (.tuple #[.agg #[v0_, .int .i64 r2], .string r3]) ∧ Kd.R k88 88 w' w.heap.size (fun _ => True) v0_ r1 ∧ Below w.heap.size w w' := by
 have hu25 := Try.underlying25
 have HR0_0 := Aside0.mk hr0_0
 have HC0_0 := Aside0.mk hc0_0
 clear hr0_0 hc0_0
 have HR1 := Aside0.mk hr1
 have HC1 := Aside0.mk hc1
 clear hr1 hc1
 have HB := Aside0.mk (Below.refl w.heap.size w)
 have H : ((impl_TableOk.f k l0_0 a0_1).bind fun t478 => (if t478 = true then ((impl_HeadOk.f k l1).bind fun t479 => (if t479 = true then ((impl_Table_write.f k l0_0 a0_1 l1).bind fun bt480 => (some (bt480.1, bt480.2.1, bt480.2.2))) else (some (([] : List (S88)), 0, (⟨#[]⟩ : ByteArray))))) else (some (([] : List (S88)), 0, (⟨#[]⟩ : ByteArray))))) = some (r1, r2, r3) := h
 clear h
 obtain ⟨t478, A3, H⟩ := ob H
 (try dsimp only at H)
 by_cases c4 : t478 = true
 ·subst c4
  rw [if_pos rfl] at H
  obtain ⟨t479, A5, H⟩ := ob H
  (try dsimp only at H)
  have HC6 := Aside0.mk H
  clear H
  go_enter Try.func13, Try.ntmps13
  go_upto_if 13 with (first | ((with_reducible refine gd 2 rfl ?_); refine bx (N := 2) (cs := #[.slice A0_0 l0_0.length c0_0, .int .i64 a0_1]) (t := 25) ?_; intro gb476 hg w7 hbox hb; have BK476 := Aside0.mk (hbox); have GW476 := gw HB hg; have GE476 := GW476; replace HB := Aside0.mk (below_step (zb HB) hb); clear hb hbox hg) | ((with_reducible refine gd 4 rfl ?_); refine bx (N := 4) (cs := #[.slice none 0 0, .int .i64 0]) (t := 25) ?_; intro gb477 hg w8 hbox hb; have BK477 := Aside0.mk (hbox); have GW477 := gw HB hg; have GE477 := GW477; replace HB := Aside0.mk (below_step (zb HB) hb); obtain ⟨NB476_477, NB477_476⟩ := nb BK476 hg; replace BK476 := kb BK476 hb; clear hb hbox hg; have hnb9 := NB476_477.out; have hnc9 := NB477_476.out; obtain ⟨hcz10_0, hcz10_1, hfz10_0, hfz10_1⟩ := c2 BK476) | ((with_reducible refine gq 19 rfl ?_); refine gl (some 7) Try.func19 #[.agg #[.slice A0_0 l0_0.length c0_0, .int .i64 a0_1]] ?_; (with_reducible refine (impl_TableOk.calls k _ _ l0_0 a0_1 true _ ?side1 ?side2 A3.out).mono ?_); (case side1 => exact zc (Kd.C_below HR0_0.out HB.out)); (case side2 => exact HC0_0.out); rintro e w11 ⟨rfl, hb⟩; refine ⟨_, rfl, ?_⟩; replace BK476 := kb BK476 hb; replace BK477 := kb BK477 hb; replace HB := Aside0.mk (below_step (zb HB) hb); (try clear hb)) | (go_at_call 53; (with_reducible refine (impl_HeadOk.calls k _ _ l1 t479 _ ?side1 ?side2 A5.out).mono ?_); (case side1 => exact zc (Kd.C_below HR1.out HB.out)); (case side2 => exact HC1.out); rintro e w12 ⟨rfl, hb⟩; replace BK476 := kb BK476 hb; replace BK477 := kb BK477 hb; replace HB := Aside0.mk (below_step (zb HB) hb); (try clear hb)))
  (try simp only [Act.put, s1, s2, s3])
  have H := HC6.out
  clear HC6
  by_cases c13 : t479 = true
  ·subst c13
   rw [if_pos rfl] at H
   obtain ⟨⟨t480, t483, t484⟩, A14, H⟩ := ob H
   (try dsimp only at H)
   simp only [Option.some.injEq, Prod.mk.injEq] at H
   obtain ⟨rfl, rfl, rfl⟩ := H
   have hnb15 := NB476_477.out
   have hnc15 := NB477_476.out
   obtain ⟨hcz16_0, hcz16_1, hfz16_0, hfz16_1⟩ := c2 BK476
   go_wp2_with (first | ((with_reducible refine gq 54 rfl ?_); refine gl (some 17) Try.func54 #[.agg #[.slice A0_0 l0_0.length c0_0, .int .i64 a0_1], .slice A1 l1.length c1] ?_; (with_reducible refine (impl_Table_write.calls k (fun k_ => k_ < w.heap.size) _ _ l0_0 a0_1 _ _ l1 t480 t483 t484 _ ?side1 ?side2 ?side3 A14.out).mono ?_); (case side1 => exact Kd.V_mk HC0_0.out (Kd.F_below (Kd.C_F k88_heap HR0_0.out) (zb HB))); (case side2 => exact zc (Kd.C_below HR1.out HB.out)); (case side3 => exact HC1.out); rintro e w17 ⟨v481, rfl, ho0, hb⟩; refine ⟨_, rfl, ?_⟩; have HO482 := Aside0.mk (Kd.R_lower (Kd.R_mono (ok' := fun k_ => True) ho0 (fun _ hk_ => trivial)) (below_size (zb HB))); replace BK476 := kb BK476 hb; replace BK477 := kb BK477 hb; replace HB := Aside0.mk (below_step (zb HB) hb); (try clear hb); (try clear ho0); obtain ⟨Ao18, co18, eo18⟩ := Kd.R_slice HO482.out; subst eo18; obtain ⟨hcz19_0, hcz19_1, hfz19_0, hfz19_1⟩ := c2 BK477))
   refine bodyPost_ret (results_ct rfl _ _ gb477 25 #[.slice Ao18 t480.length co18, .int .i64 t483] (0, 0) _ rfl (by (with_reducible repeat (first | refine blk_drewN ?_ _ | refine blk_drew ?_ | refine blk_alloc ?_ _)); refine blk_put (cs := #[.slice Ao18 t480.length co18, .int .i64 0]) ?_ 1 _ rfl; (with_reducible repeat (first | refine blk_drewN ?_ _ | refine blk_drew ?_ | refine blk_alloc ?_ _)); refine blk_put (cs := #[.slice none 0 0, .int .i64 0]) ?_ 0 _ rfl; exact zk BK477) Try.underlying25 rfl (by kernel_rfl)) rfl ?_
   exact ⟨_, ze, by (with_reducible repeat (first | apply Kd.R_alloc | apply Kd.R_drewN | apply Kd.R_drew)); exact Kd.R_mono (Kd.R_far (p := ⟨gb477, 1, none⟩) (Kd.R_far (p := ⟨gb477, 0, none⟩) (Kd.R_types HO482.out BK477.out (by decide)) (fun _ hk => hk.2) (.slice Ao18 t480.length co18)) (fun _ hk => hk.2) (.int .i64 t483)) (fun _ hk => trivial), zb HB⟩
  ·replace c13 := Bool.eq_false_iff.mpr c13
   subst c13
   rw [if_neg (show ¬ (false = true) by decide)] at H
   simp only [Option.some.injEq, Prod.mk.injEq] at H
   obtain ⟨rfl, rfl, rfl⟩ := H
   have hnb20 := NB477_476.out
   have hnc20 := NB476_477.out
   obtain ⟨hcz21_0, hcz21_1, hfz21_0, hfz21_1⟩ := c2 BK477
   go_wp2
   refine bodyPost_ret (results_ct rfl _ _ gb477 25 #[.slice none 0 0, .int .i64 0] (0, 0) _ rfl (by (with_reducible repeat (first | refine blk_drewN ?_ _ | refine blk_drew ?_ | refine blk_alloc ?_ _)); refine blk_put (cs := #[.slice none 0 0, .int .i64 0]) ?_ 1 _ rfl; (with_reducible repeat (first | refine blk_drewN ?_ _ | refine blk_drew ?_ | refine blk_alloc ?_ _)); refine blk_put (cs := #[.slice none 0 0, .int .i64 0]) ?_ 0 _ rfl; exact zk BK477) Try.underlying25 rfl (by kernel_rfl)) rfl ?_
   exact ⟨_, ze, by first | exact Kd.R_nil _ _ _ _ _ | exact Kd.N_nil _ _ _ _ _ | exact Kd.V_nil _ _ _ _ _ | exact Kd.Q_nil _ _ _ _ _ | exact Kd.S_nil _ _ _ _ _, zb HB⟩
 ·replace c4 := Bool.eq_false_iff.mpr c4
  subst c4
  rw [if_neg (show ¬ (false = true) by decide)] at H
  simp only [Option.some.injEq, Prod.mk.injEq] at H
  obtain ⟨rfl, rfl, rfl⟩ := H
  go_enter Try.func13, Try.ntmps13
  go_wp2_with (first | ((with_reducible refine gd 2 rfl ?_); refine bx (N := 2) (cs := #[.slice A0_0 l0_0.length c0_0, .int .i64 a0_1]) (t := 25) ?_; intro gb476 hg w22 hbox hb; have BK476 := Aside0.mk (hbox); have GW476 := gw HB hg; have GE476 := GW476; replace HB := Aside0.mk (below_step (zb HB) hb); clear hb hbox hg) | ((with_reducible refine gd 4 rfl ?_); refine bx (N := 4) (cs := #[.slice none 0 0, .int .i64 0]) (t := 25) ?_; intro gb477 hg w23 hbox hb; have BK477 := Aside0.mk (hbox); have GW477 := gw HB hg; have GE477 := GW477; replace HB := Aside0.mk (below_step (zb HB) hb); obtain ⟨NB476_477, NB477_476⟩ := nb BK476 hg; replace BK476 := kb BK476 hb; clear hb hbox hg; have hnb24 := NB476_477.out; have hnc24 := NB477_476.out; obtain ⟨hcz25_0, hcz25_1, hfz25_0, hfz25_1⟩ := c2 BK476) | ((with_reducible refine gq 19 rfl ?_); refine gl (some 7) Try.func19 #[.agg #[.slice A0_0 l0_0.length c0_0, .int .i64 a0_1]] ?_; (with_reducible refine (impl_TableOk.calls k _ _ l0_0 a0_1 false _ ?side1 ?side2 A3.out).mono ?_); (case side1 => exact zc (Kd.C_below HR0_0.out HB.out)); (case side2 => exact HC0_0.out); rintro e w26 ⟨rfl, hb⟩; refine ⟨_, rfl, ?_⟩; replace BK476 := kb BK476 hb; replace BK477 := kb BK477 hb; replace HB := Aside0.mk (below_step (zb HB) hb); (try clear hb); obtain ⟨hcz27_0, hcz27_1, hfz27_0, hfz27_1⟩ := c2 BK477))
  refine bodyPost_ret (results_ct rfl _ _ gb477 25 #[.slice none 0 0, .int .i64 0] (0, 0) _ rfl (by (with_reducible repeat (first | refine blk_drewN ?_ _ | refine blk_drew ?_ | refine blk_alloc ?_ _)); refine blk_put (cs := #[.slice none 0 0, .int .i64 0]) ?_ 1 _ rfl; (with_reducible repeat (first | refine blk_drewN ?_ _ | refine blk_drew ?_ | refine blk_alloc ?_ _)); refine blk_put (cs := #[.slice none 0 0, .int .i64 0]) ?_ 0 _ rfl; exact zk BK477) Try.underlying25 rfl (by kernel_rfl)) rfl ?_
  exact ⟨_, ze, by first | exact Kd.R_nil _ _ _ _ _ | exact Kd.N_nil _ _ _ _ _ | exact Kd.V_nil _ _ _ _ _ | exact Kd.Q_nil _ _ _ _ _ | exact Kd.S_nil _ _ _ _ _, zb HB⟩

/-! ### laws_lkFields: function 18 -/
-- thin
def laws_lkFields.l0 : Nat → List (S88) → List (S88) → Int → Option (Bool)
 | 0, _, _, _ => none
 | k + 1, x0, x1, x5 => if x5 < (x0.length : Int) then (if 0 ≤ x5 then (if x5 < (x1.length : Int) then (if (!((((rd_T88 x0 x5).f0).toList) == (((rd_T88 x1 x5).f0).toList)) || (!((((rd_T88 x0 x5).f1).toList) == (((rd_T88 x1 x5).f1).toList)) || (!(((rd_T88 x0 x5).f2) == ((rd_T88 x1 x5).f2))))) = true then (some false) else (laws_lkFields.l0 k x0 x1 (wrap64 (x5 + 1)))) else (none)) else (none)) else (some true)
def laws_lkFields.f (k : Nat) (l0 : List (S88)) (l1 : List (S88)) : Option (Bool) := if (l0.length : Int) = (l1.length : Int) then (laws_lkFields.l0 k l0 l1 0) else (some false)
theorem laws_lkFields.mono_l : ∀ k, (∀ y0 y1 y2, LeO (laws_lkFields.l0 k y0 y1 y2) (laws_lkFields.l0 (k + 1) y0 y1 y2))
 | 0 => fun _ _ _ r h => by simp [laws_lkFields.l0] at h
 | k + 1 => by
  have ih0 := laws_lkFields.mono_l k
  ·intro y0 y1 y2
   unfold laws_lkFields.l0
   exact zm
theorem laws_lkFields.mono : ∀ a0 a1 k, LeO (laws_lkFields.f k a0 a1) (laws_lkFields.f (k + 1) a0 a1) := by
 intro a0 a1 k
 have ih0 := laws_lkFields.mono_l k
 unfold laws_lkFields.f
 exact zm
set_option maxHeartbeats 8000000 in
set_option maxRecDepth 100000 in
theorem laws_lkFields.calls (k : Nat) (A0 : Option Addr) (c0 : Nat) (l0 : List (S88)) (A1 : Option Addr) (c1 : Nat) (l1 : List (S88)) (r : Bool) (w : World) (hr0 : Kd.C k88 w A0 l0.length l0) (hc0 : l0.length ≤ c0) (hr1 : Kd.C k88 w A1 l1.length l1) (hc1 : l1.length ≤ c1) (h : laws_lkFields.f k l0 l1 = some r) :
  Calls Try.prog 18 #[.slice A0 l0.length c0, .slice A1 l1.length c1] w fun e w' => e = .returned (.bool r) ∧ Drawn0 w w' := by
 have hu88 := Try.underlying88
 have HR0 := Aside0.mk hr0
 have HC0 := Aside0.mk hc0
 clear hr0 hc0
 have HR1 := Aside0.mk hr1
 have HC1 := Aside0.mk hc1
 clear hr1 hc1
 have H : (if (l0.length : Int) = (l1.length : Int) then (laws_lkFields.l0 k l0 l1 0) else (some false)) = some r := h
 clear h
 replace H := sp H
 rcases H with ⟨c3, H⟩ | ⟨c3, H⟩
 ·skip
  have c3b0 : ((l0.length : Int) == (l1.length : Int)) = true := beq_iff_eq.mpr c3
  have c3b1 : ((l0.length : Int) != (l1.length : Int)) = false := bne_eq_false_iff_eq.mpr c3
  have c3b2 : (l0.length == l1.length) = true := by first | simpa using c3 | (simp at c3 ⊢; omega)
  clear c3
  have H' := Aside0.mk H
  clear H
  go_enter Try.func18, Try.ntmps18
  go_wp2
  repeat (go_quiet (fail); try go_wp2)
  go_loopg [5] k (fun kq v5 w' => ∃ (x5_1 : Int), v5 = .int .i64 x5_1 ∧ Aside0 (laws_lkFields.l0 kq l0 l1 x5_1 = some r) ∧ Aside0 (kq ≤ k) ∧ Drawn0 w w')
  case atStart => exact ⟨(0), zs, H', ⟨Nat.le_refl _⟩, by repeat (first | exact Drawn0.refl _ | apply Drawn0.step)⟩
  case round =>
   clear H'
   try clear c1
   try clear p2
   try clear c3
   try clear c3b0
   try clear c3b1
   try clear c3b2
   obtain ⟨x5_1, rfl, HA, HK1, ⟨m1, rfl⟩⟩ := hrel
   cases gk with
   | zero => exact absurd HA.out (by simp [laws_lkFields.l0])
   | succ k1 =>
    have H := HA.out
    clear HA
    simp only [laws_lkFields.l0] at H
    by_cases c4 : x5_1 < (l0.length : Int)
    ·rw [if_pos c4] at H
     have c4b0 := decide_eq_true c4
     clear c4
     by_cases c5 : 0 ≤ x5_1
     ·rw [if_pos c5] at H
      have c5b0 := decide_eq_true c5
      clear c5
      by_cases c6 : x5_1 < (l1.length : Int)
      ·rw [if_pos c6] at H
       have c6b0 := decide_eq_true c6
       clear c6
       have HC7 := Aside0.mk H
       clear H
       have p485 : 0 ≤ (x5_1 : Int) := of_decide_eq_true za
       have q485 : x5_1 < (l0.length : Int) := of_decide_eq_true za
       obtain ⟨ad485, e485, hx485_0, hx485_1, hx485_2⟩ := at_T88 HR0.out x5_1 p485 q485
       cases e485
       replace p485 := eq_true p485
       replace q485 := eq_true q485
       have p486 : 0 ≤ (x5_1 : Int) := of_decide_eq_true za
       have q486 : x5_1 < (l1.length : Int) := of_decide_eq_true za
       obtain ⟨ad486, e486, hx486_0, hx486_1, hx486_2⟩ := at_T88 HR1.out x5_1 p486 q486
       cases e486
       replace p486 := eq_true p486
       replace q486 := eq_true q486
       go_upto_if 25 with (fail)
       repeat (go_quiet (fail); go_upto_if 25 with (fail))
       have H := HC7.out
       clear HC7
       by_cases c8 : (!((((rd_T88 l0 x5_1).f0).toList) == (((rd_T88 l1 x5_1).f0).toList)) || (!((((rd_T88 l0 x5_1).f1).toList) == (((rd_T88 l1 x5_1).f1).toList)) || (!(((rd_T88 l0 x5_1).f2) == ((rd_T88 l1 x5_1).f2))))) = true
       ·rw [if_pos c8] at H
        have c8b0 : (!((((rd_T88 l0 x5_1).f0).toList) == (((rd_T88 l1 x5_1).f0).toList)) || (!((((rd_T88 l0 x5_1).f1).toList) == (((rd_T88 l1 x5_1).f1).toList)) || (!(((rd_T88 l0 x5_1).f2) == ((rd_T88 l1 x5_1).f2))))) = true := c8
        clear c8
        (first | rw [c8b0] | rw [c8b1] | (simp only [i64_w, i32_w]; rw [c8b0]) | skip)
        obtain rfl := Option.some.inj H
        go_wp2
        repeat (go_quiet (fail); try go_wp2)
        go_ret
        exact ⟨zs, by repeat (first | exact Drawn0.refl _ | apply Drawn0.step)⟩
       ·rw [if_neg c8] at H
        have c8b0 : (!((((rd_T88 l0 x5_1).f0).toList) == (((rd_T88 l1 x5_1).f0).toList)) || (!((((rd_T88 l0 x5_1).f1).toList) == (((rd_T88 l1 x5_1).f1).toList)) || (!(((rd_T88 l0 x5_1).f2) == ((rd_T88 l1 x5_1).f2))))) = false := by simpa using c8
        clear c8
        (first | rw [c8b0] | rw [c8b1] | (simp only [i64_w, i32_w]; rw [c8b0]) | skip)
        have H' := Aside0.mk H
        clear H
        go_wp2
        repeat (go_quiet (fail); try go_wp2)
        go_roundg k1
        case measure => have := HK1.out; omega
        case rel => exact ⟨(wrap64 (x5_1 + 1)), zs, H', ⟨by have := HK1.out; omega⟩, by repeat (first | exact Drawn0.refl _ | apply Drawn0.step)⟩
      ·rw [if_neg c6] at H
       exact absurd H (by simp)
     ·rw [if_neg c5] at H
      exact absurd H (by simp)
    ·rw [if_neg c4] at H
     have c4b0 := decide_eq_false c4
     clear c4
     obtain rfl := Option.some.inj H
     go_wp2
     repeat (go_quiet (fail); try go_wp2)
     go_ret
     exact ⟨zs, by repeat (first | exact Drawn0.refl _ | apply Drawn0.step)⟩
 ·skip
  have c3b0 : ((l0.length : Int) == (l1.length : Int)) = false := beq_eq_false_iff_ne.mpr c3
  have c3b1 : ((l0.length : Int) != (l1.length : Int)) = true := bne_iff_ne.mpr c3
  have c3b2 : (l0.length == l1.length) = false := by first | simpa using c3 | (simp at c3 ⊢; omega)
  obtain rfl := Option.some.inj H
  go_enter Try.func18, Try.ntmps18
  go_wp2
  repeat (go_quiet (fail); try go_wp2)
  go_ret
  exact ⟨zs, by repeat (first | exact Drawn0.refl _ | apply Drawn0.step)⟩

/-! ### laws_lkTable: function 14 -/
-- thin
def laws_lkTable.f (k : Nat) (l0_0 : List (S88)) (a0_1 : Int) (l1_0 : List (S88)) (a1_1 : Int) : Option (Bool) := if a0_1 = a1_1 then ((laws_lkFields.f k l0_0 l1_0).bind fun t489 => (some t489)) else (some false)
theorem laws_lkTable.mono : ∀ a0 a1 a2 a3 k, LeO (laws_lkTable.f k a0 a1 a2 a3) (laws_lkTable.f (k + 1) a0 a1 a2 a3) := by
 intro a0 a1 a2 a3 k
 unfold laws_lkTable.f
 have m0 := @laws_lkFields.mono
 exact zm
set_option maxHeartbeats 8000000 in
set_option maxRecDepth 100000 in
theorem laws_lkTable.calls (k : Nat) (A0_0 : Option Addr) (c0_0 : Nat) (l0_0 : List (S88)) (a0_1 : Int) (A1_0 : Option Addr) (c1_0 : Nat) (l1_0 : List (S88)) (a1_1 : Int) (r : Bool) (w : World) (hr0_0 : Kd.C k88 w A0_0 l0_0.length l0_0) (hc0_0 : l0_0.length ≤ c0_0) (hr1_0 : Kd.C k88 w A1_0 l1_0.length l1_0) (hc1_0 : l1_0.length ≤ c1_0) (h : laws_lkTable.f k l0_0 a0_1 l1_0 a1_1 = some r) :
  Calls Try.prog 14 #[.agg #[.slice A0_0 l0_0.length c0_0, .int .i64 a0_1], .agg #[.slice A1_0 l1_0.length c1_0, .int .i64 a1_1]] w fun e w' => e = .returned (.bool r) ∧ Below w.heap.size w w' := by
 have hu25 := Try.underlying25
 have HR0_0 := Aside0.mk hr0_0
 have HC0_0 := Aside0.mk hc0_0
 clear hr0_0 hc0_0
 have HR1_0 := Aside0.mk hr1_0
 have HC1_0 := Aside0.mk hc1_0
 clear hr1_0 hc1_0
 have HB := Aside0.mk (Below.refl w.heap.size w)
 have H : (if a0_1 = a1_1 then ((laws_lkFields.f k l0_0 l1_0).bind fun t489 => (some t489)) else (some false)) = some r := h
 clear h
 replace H := sp H
 rcases H with ⟨c3, H⟩ | ⟨c3, H⟩
 ·skip
  have c3b0 : (a0_1 == a1_1) = true := beq_iff_eq.mpr c3
  have c3b1 : (a0_1 != a1_1) = false := bne_eq_false_iff_eq.mpr c3
  clear c3
  obtain ⟨t489, A4, H⟩ := ob H
  (try dsimp only at H)
  obtain rfl := Option.some.inj H
  go_enter Try.func14, Try.ntmps14
  go_wp2_with (first | ((with_reducible refine gd 2 rfl ?_); refine bx (N := 2) (cs := #[.slice A0_0 l0_0.length c0_0, .int .i64 a0_1]) (t := 25) ?_; intro gb487 hg w5 hbox hb; have BK487 := Aside0.mk (hbox); have GW487 := gw HB hg; have GE487 := GW487; replace HB := Aside0.mk (below_step (zb HB) hb); clear hb hbox hg) | ((with_reducible refine gd 3 rfl ?_); refine bx (N := 3) (cs := #[.slice A1_0 l1_0.length c1_0, .int .i64 a1_1]) (t := 25) ?_; intro gb488 hg w6 hbox hb; have BK488 := Aside0.mk (hbox); have GW488 := gw HB hg; have GE488 := GW488; replace HB := Aside0.mk (below_step (zb HB) hb); obtain ⟨NB487_488, NB488_487⟩ := nb BK487 hg; replace BK487 := kb BK487 hb; clear hb hbox hg; have hnb7 := NB487_488.out; have hnc7 := NB488_487.out; obtain ⟨hcz8_0, hcz8_1, hfz8_0, hfz8_1⟩ := c2 BK487; obtain ⟨hcz9_0, hcz9_1, hfz9_0, hfz9_1⟩ := c2 BK488) | (go_at_call 18; (with_reducible refine (laws_lkFields.calls k _ _ l0_0 _ _ l1_0 t489 _ ?side1 ?side2 ?side3 ?side4 A4.out).mono ?_); (case side1 => exact zc (Kd.C_below HR0_0.out HB.out)); (case side2 => exact HC0_0.out); (case side3 => exact zc (Kd.C_below HR1_0.out HB.out)); (case side4 => exact HC1_0.out); rintro e w' ⟨rfl, ⟨nd, rfl⟩⟩))
  go_ret
  exact ⟨ze, zb HB⟩
 ·skip
  have c3b0 : (a0_1 == a1_1) = false := beq_eq_false_iff_ne.mpr c3
  have c3b1 : (a0_1 != a1_1) = true := bne_iff_ne.mpr c3
  obtain rfl := Option.some.inj H
  go_enter Try.func14, Try.ntmps14
  go_wp2_with (first | ((with_reducible refine gd 2 rfl ?_); refine bx (N := 2) (cs := #[.slice A0_0 l0_0.length c0_0, .int .i64 a0_1]) (t := 25) ?_; intro gb487 hg w10 hbox hb; have BK487 := Aside0.mk (hbox); have GW487 := gw HB hg; have GE487 := GW487; replace HB := Aside0.mk (below_step (zb HB) hb); clear hb hbox hg) | ((with_reducible refine gd 3 rfl ?_); refine bx (N := 3) (cs := #[.slice A1_0 l1_0.length c1_0, .int .i64 a1_1]) (t := 25) ?_; intro gb488 hg w11 hbox hb; have BK488 := Aside0.mk (hbox); have GW488 := gw HB hg; have GE488 := GW488; replace HB := Aside0.mk (below_step (zb HB) hb); obtain ⟨NB487_488, NB488_487⟩ := nb BK487 hg; replace BK487 := kb BK487 hb; clear hb hbox hg; have hnb12 := NB487_488.out; have hnc12 := NB488_487.out; obtain ⟨hcz13_0, hcz13_1, hfz13_0, hfz13_1⟩ := c2 BK487; obtain ⟨hcz14_0, hcz14_1, hfz14_0, hfz14_1⟩ := c2 BK488))
  go_ret
  exact ⟨ze, zb HB⟩

end Go.Proofs.Ytlpibelofcabhaa.PFnHeadBack
