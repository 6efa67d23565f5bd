-- WRITTEN BY a turned print (wip/tools of the prover's repo)
import Derived.Test.YtdhahifdcoinhaaPFnHeadFixedx0
import Derived.Test.YtdhahifdcoinhaaPFnHeadFixedx8
import Derived.Test.YtdhahifdcoinhaaPFnHeadFixedx9
namespace Go.Proofs.Ytdhahifdcoinhaa.PFnHeadFixed
open Go.RowKit Go.Proofs.YtdhahifdcoinhaaW.PrintWords Go.Proofs.YtdhahifdcoinhaaW.PrintLast Go.Proofs.YtdhahifdcoinhaaW.PrintMore Go.Proofs.Ytdhahifdcoinhaa.Lm
attribute [local go_sem] max2_int min2_int max_two min_two max_three min_three max_four min_four   -- for this text's walks alone
set_option linter.unusedVariables false
set_option linter.unusedSimpArgs false

/-! ### impl_Table_write: function 66 -/
-- thin
def impl_Table_write.l0 : Nat → ByteArray → List (S36) → Int → Int → List (S36) → Int → Option ((List (S36)) × Int × ByteArray)
 | 0, _, _, _, _, _, _ => none
 | k + 1, x6, x11, x12, x13, x465000, x465001 => if x13 < x12 then (if 0 ≤ x13 then (if x13 < (x11.length : Int) then ((impl_Table_find.f x465000 x465001 ((rd_T36 x11 x13).f0) ((rd_T36 x11 x13).f1) ((rd_T36 x11 x13).f2)).bind fun bt472 => (if (rd_T36 x11 x13).f2 = true then ((impl_named.f k ((rd_T36 x11 x13).f0) ((rd_T36 x11 x13).f1) ((rd_T36 x11 x13).f2) bt472.1 4).bind fun t474 => (if x6.size + t474.size ≤ 9223372036854775807 then (impl_Table_write.l0 k (x6 ++ t474) x11 x12 (wrap64 (x13 + 1)) x465000 x465001) else (none))) else (if bt472.2 = true then ((impl_NumWrite.f k bt472.1 7 1).bind fun t475 => (if x6.size + t475.size ≤ 9223372036854775807 then (impl_Table_write.l0 k (x6 ++ t475) x11 x12 (wrap64 (x13 + 1)) x465000 x465001) else (none))) else ((impl_named.f k ((rd_T36 x11 x13).f0) ((rd_T36 x11 x13).f1) ((rd_T36 x11 x13).f2) bt472.1 6).bind fun t476 => (if x6.size + t476.size ≤ 9223372036854775807 then ((impl_Table_add.f k x465000 x465001 ((rd_T36 x11 x13).f0) ((rd_T36 x11 x13).f1) ((rd_T36 x11 x13).f2)).bind fun bt477 => (impl_Table_write.l0 k (x6 ++ t476) x11 x12 (wrap64 (x13 + 1)) bt477.1 bt477.2)) else (none)))))) else (none)) else (none)) else ((impl_Table_clone.f x465000 x465001).bind fun bt466 => (some (bt466.1, bt466.2, x6)))
def impl_Table_write.f (k : Nat) (l0_0 : List (S36)) (a0_1 : Int) (l1 : List (S36)) : Option ((List (S36)) × Int × ByteArray) := impl_Table_write.l0 k (⟨#[]⟩ : ByteArray) l1 (l1.length : Int) 0 l0_0 a0_1
theorem impl_Table_write.mono_l : ∀ k, (∀ y0 y1 y2 y3 y4 y5, LeO (impl_Table_write.l0 k y0 y1 y2 y3 y4 y5) (impl_Table_write.l0 (k + 1) y0 y1 y2 y3 y4 y5))
 | 0 => fun _ _ _ _ _ _ r h => by simp [impl_Table_write.l0] at h
 | k + 1 => by
  have ih0 := impl_Table_write.mono_l k
  ·intro y0 y1 y2 y3 y4 y5
   unfold impl_Table_write.l0
   have m0 := @impl_NumWrite.mono
   have m1 := @impl_Table_add.mono
   have m2 := @impl_named.mono
   exact zm
theorem impl_Table_write.mono : ∀ a0 a1 a2 k, LeO (impl_Table_write.f k a0 a1 a2) (impl_Table_write.f (k + 1) a0 a1 a2) := by
 intro a0 a1 a2 k
 have ih0 := impl_Table_write.mono_l k
 unfold impl_Table_write.f
 have m0 := @impl_NumWrite.mono
 have m1 := @impl_Table_add.mono
 have m2 := @impl_named.mono
 exact zm
set_option maxHeartbeats 8000000 in
set_option maxRecDepth 100000 in
theorem impl_Table_write.calls (k : Nat) (P0_0_ : Nat → Prop) (A0_0 : Option Addr) (c0_0 : Nat) (l0_0 : List (S36)) (a0_1 : Int) (A1 : Option Addr) (c1 : Nat) (l1 : List (S36)) (r1 : List (S36)) (r2 : Int) (r3 : ByteArray) (w : World) (hs0_0 : Kd.V k36 36 w w.heap.size (fun k_ => P0_0_ k_) (.slice A0_0 l0_0.length c0_0) l0_0) (hr1 : Kd.C k36 w A1 l1.length l1) (hc1 : l1.length ≤ c1) (h : impl_Table_write.f k l0_0 a0_1 l1 = some (r1, r2, r3)) :
  Calls Try.prog 66 #[.agg #[.slice A0_0 l0_0.length c0_0, .int .i64 a0_1], .slice A1 l1.length c1] w fun e w' => ∃ v0_ : Value, e = .returned (.tuple #[.agg #[v0_, .int .i64 r2], .string r3]) ∧ Kd.R k36 36 w' w.heap.size (fun k_ => (w.heap.size ≤ k_)) v0_ r1 ∧ Below w.heap.size w w' := by
 have hu25 := Try.underlying25
 have hu36 := Try.underlying36
 have HO0_0 := Aside0.mk (show Kd.V k36 36 w w.heap.size (fun k_ => (P0_0_ k_ ∨ w.heap.size ≤ k_)) (.slice A0_0 l0_0.length c0_0) l0_0 from Kd.V_mono hs0_0 (fun k_ hk => .inl hk))
 have HR1 := Aside0.mk hr1
 have HC1 := Aside0.mk hc1
 clear hr1 hc1
 have HB := Aside0.mk (Below.refl w.heap.size w)
 have H : (impl_Table_write.l0 k (⟨#[]⟩ : ByteArray) l1 (l1.length : Int) 0 l0_0 a0_1) = some (r1, r2, r3) := h
 clear h
 have H' := Aside0.mk H
 clear H
 go_enter Try.func66, Try.ntmps66
 go_wp2_with (first | ((with_reducible refine gd 2 rfl ?_); refine bx (N := 2) (cs := #[.slice A0_0 l0_0.length c0_0, .int .i64 a0_1]) (t := 25) ?_; intro gb464 hg w3 hbox hb; replace HO0_0 := Aside0.mk (Kd.V_below (Kd.V_elderB (zV HO0_0) gb464 (Nat.le_of_eq hg.symm)) hb); have BK464 := Aside0.mk (hbox); have GW464 := gw HB hg; have GE464 := GW464; replace HB := Aside0.mk (below_step (zb HB) hb); clear hb hbox hg) | ((with_reducible refine gd 4 rfl ?_); refine bx (N := 4) (cs := #[.slice none 0 0, .int .i64 0]) (t := 25) ?_; intro gb465 hg w4 hbox hb; replace HO0_0 := Aside0.mk (Kd.V_below (Kd.V_elderB (zV HO0_0) gb465 (Nat.le_of_eq hg.symm)) hb); have BK465 := Aside0.mk (hbox); have GW465 := gw HB hg; have GE465 := GW465; replace HB := Aside0.mk (below_step (zb HB) hb); obtain ⟨NB464_465, NB465_464⟩ := nb BK464 hg; replace BK464 := kb BK464 hb; clear hb hbox hg))
 go_loopg [6, 13] k (fun kq v6 v13 w' => ∃ (x6_1 : ByteArray) (x13_1 : Int) (x465000_1 : List (S36)) (x465001_1 : Int) (u465000 : Value), v6 = .string x6_1 ∧ v13 = .int .i64 x13_1 ∧ Aside0 (impl_Table_write.l0 kq x6_1 l1 (l1.length : Int) x13_1 x465000_1 x465001_1 = some (r1, r2, r3)) ∧ Aside0 (kq ≤ k) ∧ Aside0 (Kd.V k36 36 w' w.heap.size (fun k_ => (P0_0_ k_ ∨ w.heap.size ≤ k_) ∧ k_ ≠ gb464 ∧ k_ ≠ gb465) u465000 x465000_1) ∧ Aside0 (w'.heap[gb464]? = some (.cells #[u465000, .int .i64 x465001_1] 25 (0, 0))) ∧ Aside0 (w'.heap[gb465]? = some (.cells #[(.slice none 0 0), .int .i64 0] 25 (0, 0))) ∧ Aside0 (Below w.heap.size w w'))
 case atStart => exact ⟨((⟨#[]⟩ : ByteArray)), (0), (l0_0), (a0_1), (.slice A0_0 l0_0.length c0_0), zs, zs, H', ⟨Nat.le_refl _⟩, ⟨by (with_reducible repeat (first | apply Kd.V_alloc | apply Kd.V_drewN | apply Kd.V_drew)); exact Kd.V_mono HO0_0.out (fun _ hk => ⟨hk.1.1, ⟨hk.1.2, hk.2⟩⟩)⟩, ⟨by exact zk BK464⟩, ⟨by exact zk BK465⟩, ⟨zb HB⟩⟩
 case round =>
  clear H'
  try clear c1
  try clear p2
  obtain ⟨x6_1, x13_1, x465000_1, x465001_1, u465000, rfl, rfl, HA, HK1, HO_465000, BK464, BK465, HB⟩ := hrel
  cases gk with
  | zero => exact absurd HA.out (by simp [impl_Table_write.l0])
  | succ k1 =>
   have H := HA.out
   clear HA
   simp only [impl_Table_write.l0] at H
   replace H := sp H
   rcases H with ⟨c5, H⟩ | ⟨c5, H⟩
   ·skip
    have c5b0 := decide_eq_true c5
    clear c5
    by_cases c6 : 0 ≤ x13_1
    ·rw [if_pos c6] at H
     have c6b0 := decide_eq_true c6
     clear c6
     by_cases c7 : x13_1 < (l1.length : Int)
     ·rw [if_pos c7] at H
      have c7b0 := decide_eq_true c7
      clear c7
      obtain ⟨⟨t472, t473⟩, A8, H⟩ := ob H
      (try dsimp only at H)
      have HC9 := Aside0.mk H
      clear H
      have p470 : 0 ≤ (x13_1 : Int) := of_decide_eq_true za
      have q470 : x13_1 < (l1.length : Int) := of_decide_eq_true za
      obtain ⟨ad470, e470, hx470_0, hx470_1, hx470_2⟩ := at_T36 HR1.out x13_1 p470 q470
      cases e470
      replace hx470_0 := cb0 hx470_0 HB
      replace hx470_1 := cb0 hx470_1 HB
      replace hx470_2 := cb0 hx470_2 HB
      replace p470 := eq_true p470
      replace q470 := eq_true q470
      go_upto_if 31 with (first | ((with_reducible refine gd 8 rfl ?_); refine bx (N := 8) (cs := #[.string (⟨#[]⟩ : ByteArray), .string (⟨#[]⟩ : ByteArray), .bool false]) (t := 36) ?_; intro gb471 hg w10 hbox hb; replace HO_465000 := Aside0.mk (Kd.V_below (Kd.V_elderB (zV HO_465000) gb471 (Nat.le_of_eq hg.symm)) hb); have BK471 := Aside0.mk (hbox); have GW471 := gw HB hg; have GE471 := GW471; replace HB := Aside0.mk (below_step (zb HB) hb); obtain ⟨NB464_471, NB471_464⟩ := nb BK464 hg; replace BK464 := kb BK464 hb; obtain ⟨NB465_471, NB471_465⟩ := nb BK465 hg; replace BK465 := kb BK465 hb; clear hb hbox hg; have hnb11 := NB471_464.out; have hnc11 := NB464_471.out; have hnb12 := NB471_465.out; have hnc12 := NB465_471.out; obtain ⟨hcz13_0, hcz13_1, hcz13_2, hfz13_0, hfz13_1, hfz13_2⟩ := c3 BK471; have hnb14 := NB464_465.out; have hnc14 := NB465_464.out; obtain ⟨hcz15_0, hcz15_1, hfz15_0, hfz15_1⟩ := c2 BK464; obtain ⟨Ao16, co16, eo16⟩ := Kd.V_slice HO_465000.out; subst eo16) | ((with_reducible refine gq 62 rfl ?_); refine gl (some 20) Try.func62 #[.agg #[.slice Ao16 x465000_1.length co16, .int .i64 x465001_1], .agg #[.string ((rd_T36 l1 x13_1).f0), .string ((rd_T36 l1 x13_1).f1), .bool ((rd_T36 l1 x13_1).f2)]] ?_; (with_reducible refine (impl_Table_find.calls _ _ x465000_1 x465001_1 ((rd_T36 l1 x13_1).f0) ((rd_T36 l1 x13_1).f1) ((rd_T36 l1 x13_1).f2) t472 t473 _ ?side1 ?side2 A8.out).mono ?_); (case side1 => refine (Kd.V_reads' (e := 36) (base := w.heap.size) (ok := fun k_ => ((((P0_0_ k_ ∨ w.heap.size ≤ k_)) ∧ (k_ ≠ gb464 ∧ k_ ≠ gb465)) ∧ k_ ≠ gb471)) (n := x465000_1.length) (c := co16) ?_).2.2; exact (by (with_reducible repeat (first | apply Kd.V_alloc | apply Kd.V_drewN | apply Kd.V_drew)); exact (Kd.V_mono (Kd.V_far (p := ⟨gb471, 2, none⟩) (Kd.V_far (p := ⟨gb471, 1, none⟩) (Kd.V_far (p := ⟨gb471, 0, none⟩) (Kd.V_mono HO_465000.out (fun k_ hk => (⟨hk, hk.2⟩ : _ ∧ k_ ≠ gb471))) (fun _ hk => hk.2) (.string ((rd_T36 l1 x13_1).f0))) (fun _ hk => hk.2) (.string ((rd_T36 l1 x13_1).f1))) (fun _ hk => hk.2) (.bool ((rd_T36 l1 x13_1).f2))) (fun _ h_ => h_.1)))); (case side2 => exact (Kd.V_reads' HO_465000.out).2.1); rintro e w17 ⟨rfl, hb⟩; refine ⟨_, rfl, ?_⟩; replace HO_465000 := Aside0.mk (Kd.V_below (by (with_reducible repeat (first | apply Kd.V_alloc | apply Kd.V_drewN | apply Kd.V_drew)); exact (Kd.V_mono (Kd.V_far (p := ⟨gb471, 2, none⟩) (Kd.V_far (p := ⟨gb471, 1, none⟩) (Kd.V_far (p := ⟨gb471, 0, none⟩) (Kd.V_mono HO_465000.out (fun k_ hk => (⟨hk, hk.2⟩ : _ ∧ k_ ≠ gb471))) (fun _ hk => hk.2) (.string ((rd_T36 l1 x13_1).f0))) (fun _ hk => hk.2) (.string ((rd_T36 l1 x13_1).f1))) (fun _ hk => hk.2) (.bool ((rd_T36 l1 x13_1).f2))) (fun _ h_ => h_.1))) hb); replace BK464 := Aside0.mk (blk_below (g := gb464) (o := .cells #[.slice Ao16 x465000_1.length co16, .int .i64 x465001_1] 25 (0, 0)) (zp BK464) hb); replace BK465 := Aside0.mk (blk_below (g := gb465) (o := .cells #[.slice none 0 0, .int .i64 0] 25 (0, 0)) (zp BK465) hb); replace BK471 := Aside0.mk (blk_below (g := gb471) (o := .cells #[.string ((rd_T36 l1 x13_1).f0), .string ((rd_T36 l1 x13_1).f1), .bool ((rd_T36 l1 x13_1).f2)] 36 (0, 0)) (zp BK471) hb); replace HB := Aside0.mk (below_step (zb HB) hb); (try clear hb); (try clear hk); obtain ⟨hcz18_0, hcz18_1, hcz18_2, hfz18_0, hfz18_1, hfz18_2⟩ := c3 BK471))
      (try simp only [Act.put, s1, s2, s3])
      have H := HC9.out
      clear HC9
      obtain ⟨bq19, hbq19⟩ : ∃ b_ : Bool, b_ = ((rd_T36 l1 x13_1).f2) := ⟨_, rfl⟩
      replace H : (if bq19 = true then ((impl_named.f k1 ((rd_T36 l1 x13_1).f0) ((rd_T36 l1 x13_1).f1) (bq19) t472 4).bind fun t474 => (if x6_1.size + t474.size ≤ 9223372036854775807 then (impl_Table_write.l0 k1 (x6_1 ++ t474) l1 (l1.length : Int) (wrap64 (x13_1 + 1)) x465000_1 x465001_1) else (none))) else (if t473 = true then ((impl_NumWrite.f k1 t472 7 1).bind fun t475 => (if x6_1.size + t475.size ≤ 9223372036854775807 then (impl_Table_write.l0 k1 (x6_1 ++ t475) l1 (l1.length : Int) (wrap64 (x13_1 + 1)) x465000_1 x465001_1) else (none))) else ((impl_named.f k1 ((rd_T36 l1 x13_1).f0) ((rd_T36 l1 x13_1).f1) (bq19) t472 6).bind fun t476 => (if x6_1.size + t476.size ≤ 9223372036854775807 then ((impl_Table_add.f k1 x465000_1 x465001_1 ((rd_T36 l1 x13_1).f0) ((rd_T36 l1 x13_1).f1) (bq19)).bind fun bt477 => (impl_Table_write.l0 k1 (x6_1 ++ t476) l1 (l1.length : Int) (wrap64 (x13_1 + 1)) bt477.1 bt477.2)) else (none))))) = some (r1, r2, r3) := by rw [← hbq19] at H; exact H
      have Nbq19 := Aside0.mk hbq19
      clear hbq19
      (try rw [← Nbq19.out])
      (try rw [← Nbq19.out] at BK464)
      (try rw [← Nbq19.out] at BK465)
      (try rw [← Nbq19.out] at BK471)
      (try rw [← Nbq19.out] at hcz18_2)
      by_cases c20 : bq19 = true
      ·subst c20
       rw [if_pos rfl] at H
       obtain ⟨t474, A21, H⟩ := ob H
       (try dsimp only at H)
       by_cases c22 : x6_1.size + t474.size ≤ 9223372036854775807
       ·rw [if_pos c22] at H
        have c22b0 := eq_true c22
        have c22b1 := decide_eq_true c22
        try have c22b2 : (9223372036854775807 < x6_1.size + t474.size) = False := eq_false (Nat.not_lt.2 c22)
        have H' := Aside0.mk H
        clear H
        have hnb23 := NB471_464.out
        have hnc23 := NB464_471.out
        have hnb24 := NB471_465.out
        have hnc24 := NB465_471.out
        obtain ⟨hcz25_0, hcz25_1, hcz25_2, hfz25_0, hfz25_1, hfz25_2⟩ := c3 BK471
        go_wp2_with (first | ((with_reducible refine gq 82 rfl ?_); refine gl (some 37) Try.func82 #[.agg #[.string ((rd_T36 l1 x13_1).f0), .string ((rd_T36 l1 x13_1).f1), .bool true], .int .i64 t472, .int .i64 4] ?_; (with_reducible refine (impl_named.calls k1 ((rd_T36 l1 x13_1).f0) ((rd_T36 l1 x13_1).f1) true t472 4 t474 _ A21.out).mono ?_); rintro e w26 ⟨rfl, hb⟩; refine ⟨_, rfl, ?_⟩; replace HO_465000 := Aside0.mk (Kd.V_below (zV HO_465000) hb); replace BK464 := kb BK464 hb; replace BK465 := kb BK465 hb; replace BK471 := kb BK471 hb; replace HB := Aside0.mk (below_step (zb HB) hb); (try clear hb)))
        go_roundg k1
        case measure => have := HK1.out; omega
        case rel => exact ⟨(x6_1 ++ t474), (wrap64 (x13_1 + 1)), (x465000_1), (x465001_1), (.slice Ao16 x465000_1.length co16), zs, zs, H', ⟨by have := HK1.out; omega⟩, ⟨by (with_reducible repeat (first | apply Kd.V_alloc | apply Kd.V_drewN | apply Kd.V_drew)); exact Kd.V_mono HO_465000.out (fun _ hk => ⟨hk.1.1, ⟨hk.1.2.1, hk.1.2.2⟩⟩)⟩, ⟨by exact zk BK464⟩, ⟨by exact zk BK465⟩, ⟨zb HB⟩⟩
       ·rw [if_neg c22] at H
        exact absurd H (by simp)
      ·replace c20 := Bool.eq_false_iff.mpr c20
       subst c20
       rw [if_neg (show ¬ (false = true) by decide)] at H
       by_cases c27 : t473 = true
       ·subst c27
        rw [if_pos rfl] at H
        obtain ⟨t475, A28, H⟩ := ob H
        (try dsimp only at H)
        by_cases c29 : x6_1.size + t475.size ≤ 9223372036854775807
        ·rw [if_pos c29] at H
         have c29b0 := eq_true c29
         have c29b1 := decide_eq_true c29
         try have c29b2 : (9223372036854775807 < x6_1.size + t475.size) = False := eq_false (Nat.not_lt.2 c29)
         have H' := Aside0.mk H
         clear H
         go_wp2_with (first | ((with_reducible refine gq 83 rfl ?_); refine gl (some 43) Try.func83 #[.int .i64 t472, .int .i64 7, .int .i64 1] ?_; (with_reducible refine (impl_NumWrite.calls k1 t472 7 1 t475 _ A28.out).mono ?_); rintro e w30 ⟨rfl, hb⟩; refine ⟨_, rfl, ?_⟩; replace HO_465000 := Aside0.mk (Kd.V_below (zV HO_465000) hb); replace BK464 := kb BK464 hb; replace BK465 := kb BK465 hb; replace BK471 := kb BK471 hb; replace HB := Aside0.mk (below_step (zb HB) hb); (try clear hb)))
         go_roundg k1
         case measure => have := HK1.out; omega
         case rel => exact ⟨(x6_1 ++ t475), (wrap64 (x13_1 + 1)), (x465000_1), (x465001_1), (.slice Ao16 x465000_1.length co16), zs, zs, H', ⟨by have := HK1.out; omega⟩, ⟨by (with_reducible repeat (first | apply Kd.V_alloc | apply Kd.V_drewN | apply Kd.V_drew)); exact Kd.V_mono HO_465000.out (fun _ hk => ⟨hk.1.1, ⟨hk.1.2.1, hk.1.2.2⟩⟩)⟩, ⟨by exact zk BK464⟩, ⟨by exact zk BK465⟩, ⟨zb HB⟩⟩
        ·rw [if_neg c29] at H
         exact absurd H (by simp)
       ·replace c27 := Bool.eq_false_iff.mpr c27
        subst c27
        rw [if_neg (show ¬ (false = true) by decide)] at H
        obtain ⟨t476, A31, H⟩ := ob H
        (try dsimp only at H)
        by_cases c32 : x6_1.size + t476.size ≤ 9223372036854775807
        ·rw [if_pos c32] at H
         have c32b0 := eq_true c32
         have c32b1 := decide_eq_true c32
         try have c32b2 : (9223372036854775807 < x6_1.size + t476.size) = False := eq_false (Nat.not_lt.2 c32)
         obtain ⟨⟨t477, t480⟩, A33, H⟩ := ob H
         (try dsimp only at H)
         have H' := Aside0.mk H
         clear H
         have hnb34 := NB471_464.out
         have hnc34 := NB464_471.out
         have hnb35 := NB471_465.out
         have hnc35 := NB465_471.out
         obtain ⟨hcz36_0, hcz36_1, hcz36_2, hfz36_0, hfz36_1, hfz36_2⟩ := c3 BK471
         go_wp2_with (first | ((with_reducible refine gq 82 rfl ?_); refine gl (some 26) Try.func82 #[.agg #[.string ((rd_T36 l1 x13_1).f0), .string ((rd_T36 l1 x13_1).f1), .bool false], .int .i64 t472, .int .i64 6] ?_; (with_reducible refine (impl_named.calls k1 ((rd_T36 l1 x13_1).f0) ((rd_T36 l1 x13_1).f1) false t472 6 t476 _ A31.out).mono ?_); rintro e w37 ⟨rfl, hb⟩; refine ⟨_, rfl, ?_⟩; replace HO_465000 := Aside0.mk (Kd.V_below (zV HO_465000) hb); replace BK464 := kb BK464 hb; replace BK465 := kb BK465 hb; replace BK471 := kb BK471 hb; replace HB := Aside0.mk (below_step (zb HB) hb); (try clear hb); have hnb38 := NB464_465.out; have hnc38 := NB465_464.out; obtain ⟨hcz39_0, hcz39_1, hfz39_0, hfz39_1⟩ := c2 BK464; obtain ⟨hcz40_0, hcz40_1, hcz40_2, hfz40_0, hfz40_1, hfz40_2⟩ := c3 BK471) | ((with_reducible refine gq 59 rfl ?_); refine gl (some 30) Try.func59 #[.agg #[.slice Ao16 x465000_1.length co16, .int .i64 x465001_1], .agg #[.string ((rd_T36 l1 x13_1).f0), .string ((rd_T36 l1 x13_1).f1), .bool false]] ?_; (with_reducible refine (impl_Table_add.calls k1 (fun k_ => (((P0_0_ k_ ∨ w.heap.size ≤ k_) ∧ (k_ ≠ gb464 ∧ k_ ≠ gb465)) ∧ k_ ≠ gb471)) _ _ x465000_1 x465001_1 ((rd_T36 l1 x13_1).f0) ((rd_T36 l1 x13_1).f1) false t477 t480 _ ?side1 A33.out).mono ?_); (case side1 => exact HO_465000.out); rintro e w41 ⟨v478, rfl, ho0, hb⟩; refine ⟨_, rfl, ?_⟩; replace HO_465000 := Aside0.mk (Kd.V_elder' (zV HO_465000) (Kd.R_base ho0) hb); have HO479 := Aside0.mk (Kd.R_lower (Kd.R_newB (Kd.R_newM (M := fun k_ => (w.heap.size ≤ k_)) (Kd.R_mono (ok' := fun k_ => True) ho0 (fun _ hk_ => trivial)) (below_size (zb HB)) (fun k_ h_ => h_)) (zk BK471)) (below_size (zb HB))); replace BK464 := kb BK464 hb; replace BK465 := kb BK465 hb; replace BK471 := kb BK471 hb; replace HB := Aside0.mk (below_step (zb HB) hb); (try clear hb); (try clear ho0); obtain ⟨Ao42, co42, eo42⟩ := Kd.R_slice HO479.out; subst eo42; obtain ⟨hcz43_0, hcz43_1, hfz43_0, hfz43_1⟩ := c2 BK464))
         go_roundg k1
         case measure => have := HK1.out; omega
         case rel => exact ⟨(x6_1 ++ t476), (wrap64 (x13_1 + 1)), (t477), (t480), (.slice Ao42 t477.length co42), zs, zs, H', ⟨by have := HK1.out; omega⟩, ⟨by first | (refine Kd.V_mono (Kd.R_V (base := w.heap.size) ?h_) (fun k_ (hk : ((w.heap.size ≤ k_)) ∧ _) => ⟨(.inr (hk.1)), hk.2⟩); exact ((Kd.R_mono (ztR (Kd.R_types (Kd.R_types (Kd.R_types HO479.out BK464.out (by decide)) BK465.out (by decide)) BK464.out (by decide))) (fun _ hk => ⟨hk.1.1.1.1.1, ⟨hk.1.1.2, hk.1.2⟩⟩)))) | (refine Kd.V_mono (Kd.R_V (base := w.heap.size) ?h_) (fun k_ (hk : (w.heap.size ≤ k_)) => (.inr (hk))); exact ((Kd.R_mono (ztR (Kd.R_types (Kd.R_types (Kd.R_types HO479.out BK464.out (by decide)) BK465.out (by decide)) BK464.out (by decide))) (fun _ hk => ⟨hk.1.1.1.1.1, ⟨hk.1.1.2, hk.1.2⟩⟩))))⟩, ⟨zp BK464⟩, ⟨zp BK465⟩, ⟨zb HB⟩⟩
        ·rw [if_neg c32] at H
         exact absurd H (by simp)
     ·rw [if_neg c7] at H
      exact absurd H (by simp)
    ·rw [if_neg c6] at H
     exact absurd H (by simp)
   ·skip
    have c5b0 := decide_eq_false c5
    clear c5
    obtain ⟨⟨t466, t469⟩, A44, H⟩ := ob H
    (try dsimp only at H)
    simp only [Option.some.injEq, Prod.mk.injEq] at H
    obtain ⟨rfl, rfl, rfl⟩ := H
    have hnb45 := NB464_465.out
    have hnc45 := NB465_464.out
    obtain ⟨hcz46_0, hcz46_1, hfz46_0, hfz46_1⟩ := c2 BK464
    obtain ⟨Ao47, co47, eo47⟩ := Kd.V_slice HO_465000.out
    subst eo47
    go_wp2_with (first | ((with_reducible refine gq 69 rfl ?_); refine gl (some 47) Try.func69 #[.agg #[.slice Ao47 x465000_1.length co47, .int .i64 x465001_1]] ?_; (with_reducible refine (impl_Table_clone.calls _ _ x465000_1 x465001_1 t466 t469 _ ?side1 ?side2 A44.out).mono ?_); (case side1 => exact zc (Kd.V_reads' HO_465000.out).2.2); (case side2 => exact (Kd.V_reads' HO_465000.out).2.1); rintro e w48 ⟨v467, rfl, ho0, hb⟩; refine ⟨_, rfl, ?_⟩; replace HO_465000 := Aside0.mk (Kd.V_elder' (zV HO_465000) (Kd.R_base ho0) hb); have HO468 := Aside0.mk (Kd.R_lower (Kd.R_newM (M := fun k_ => (w.heap.size ≤ k_)) ho0 (below_size (zb HB)) (fun k_ h_ => h_)) (below_size (zb HB))); replace BK464 := kb BK464 hb; replace BK465 := kb BK465 hb; replace HB := Aside0.mk (below_step (zb HB) hb); (try clear hb); (try clear ho0); obtain ⟨Ao49, co49, eo49⟩ := Kd.R_slice HO468.out; subst eo49; obtain ⟨hcz50_0, hcz50_1, hfz50_0, hfz50_1⟩ := c2 BK465))
    refine bodyPost_ret (results_ct rfl _ _ gb465 25 #[.slice Ao49 t466.length co49, .int .i64 t469] (0, 0) _ rfl (zp BK465) Try.underlying25 rfl (by kernel_rfl)) rfl ?_
    exact ⟨_, ze, (Kd.R_mono (ztR (Kd.R_types HO468.out BK465.out (by decide))) (fun _ hk => hk.1.1)), zb HB⟩

/-! ### impl_HeadWrite: function 39 -/
-- thin
def impl_HeadWrite.f (k : Nat) (l0_0 : List (S36)) (a0_1 : Int) (l1 : List (S36)) : Option ((List (S36)) × Int × ByteArray) := (impl_TableOk.f k l0_0 a0_1).bind fun t483 => (if t483 = true then ((impl_HeadOk.f k l1).bind fun t484 => (if t484 = true then ((impl_Table_write.f k l0_0 a0_1 l1).bind fun bt485 => (some (bt485.1, bt485.2.1, bt485.2.2))) else (some (([] : List (S36)), 0, (⟨#[]⟩ : ByteArray))))) else (some (([] : List (S36)), 0, (⟨#[]⟩ : ByteArray))))
theorem impl_HeadWrite.mono : ∀ a0 a1 a2 k, LeO (impl_HeadWrite.f k a0 a1 a2) (impl_HeadWrite.f (k + 1) a0 a1 a2) := by
 intro a0 a1 a2 k
 unfold impl_HeadWrite.f
 have m0 := @impl_HeadOk.mono
 have m1 := @impl_TableOk.mono
 have m2 := @impl_Table_write.mono
 exact zm
set_option maxHeartbeats 8000000 in
set_option maxRecDepth 100000 in
theorem impl_HeadWrite.calls (k : Nat) (A0_0 : Option Addr) (c0_0 : Nat) (l0_0 : List (S36)) (a0_1 : Int) (A1 : Option Addr) (c1 : Nat) (l1 : List (S36)) (r1 : List (S36)) (r2 : Int) (r3 : ByteArray) (w : World) (hr0_0 : Kd.C k36 w A0_0 l0_0.length l0_0) (hc0_0 : l0_0.length ≤ c0_0) (hr1 : Kd.C k36 w A1 l1.length l1) (hc1 : l1.length ≤ c1) (h : impl_HeadWrite.f k l0_0 a0_1 l1 = some (r1, r2, r3)) :
  Calls Try.prog 39 #[.agg #[.slice A0_0 l0_0.length c0_0, .int .i64 a0_1], .slice A1 l1.length c1] w fun e w' => ∃ v0_ : Value, e = .returned (.tuple #[.agg #[v0_, .int .i64 r2], .string r3]) ∧ Kd.R k36 36 w' w.heap.size (fun _ => True) v0_ r1 ∧ Below w.heap.size w w' := by
 have hu25 := Try.underlying25
 have HR0_0 := Aside0.mk hr0_0
 have HC0_0 := Aside0.mk hc0_0
 clear hr0_0 hc0_0
 have HR1 := Aside0.mk hr1
 have HC1 := Aside0.mk hc1
 clear hr1 hc1
 have HB := Aside0.mk (Below.refl w.heap.size w)
 have H : ((impl_TableOk.f k l0_0 a0_1).bind fun t483 => (if t483 = true then ((impl_HeadOk.f k l1).bind fun t484 => (if t484 = true then ((impl_Table_write.f k l0_0 a0_1 l1).bind fun bt485 => (some (bt485.1, bt485.2.1, bt485.2.2))) else (some (([] : List (S36)), 0, (⟨#[]⟩ : ByteArray))))) else (some (([] : List (S36)), 0, (⟨#[]⟩ : ByteArray))))) = some (r1, r2, r3) := h
 clear h
 obtain ⟨t483, A3, H⟩ := ob H
 (try dsimp only at H)
 by_cases c4 : t483 = true
 ·subst c4
  rw [if_pos rfl] at H
  obtain ⟨t484, A5, H⟩ := ob H
  (try dsimp only at H)
  have HC6 := Aside0.mk H
  clear H
  go_enter Try.func39, Try.ntmps39
  go_upto_if 13 with (first | ((with_reducible refine gd 2 rfl ?_); refine bx (N := 2) (cs := #[.slice A0_0 l0_0.length c0_0, .int .i64 a0_1]) (t := 25) ?_; intro gb481 hg w7 hbox hb; have BK481 := Aside0.mk (hbox); have GW481 := gw HB hg; have GE481 := GW481; replace HB := Aside0.mk (below_step (zb HB) hb); clear hb hbox hg) | ((with_reducible refine gd 4 rfl ?_); refine bx (N := 4) (cs := #[.slice none 0 0, .int .i64 0]) (t := 25) ?_; intro gb482 hg w8 hbox hb; have BK482 := Aside0.mk (hbox); have GW482 := gw HB hg; have GE482 := GW482; replace HB := Aside0.mk (below_step (zb HB) hb); obtain ⟨NB481_482, NB482_481⟩ := nb BK481 hg; replace BK481 := kb BK481 hb; clear hb hbox hg; have hnb9 := NB481_482.out; have hnc9 := NB482_481.out; obtain ⟨hcz10_0, hcz10_1, hfz10_0, hfz10_1⟩ := c2 BK481) | ((with_reducible refine gq 21 rfl ?_); refine gl (some 7) Try.func21 #[.agg #[.slice A0_0 l0_0.length c0_0, .int .i64 a0_1]] ?_; (with_reducible refine (impl_TableOk.calls k _ _ l0_0 a0_1 true _ ?side1 ?side2 A3.out).mono ?_); (case side1 => exact zc (Kd.C_below HR0_0.out HB.out)); (case side2 => exact HC0_0.out); rintro e w11 ⟨rfl, hb⟩; refine ⟨_, rfl, ?_⟩; replace BK481 := kb BK481 hb; replace BK482 := kb BK482 hb; replace HB := Aside0.mk (below_step (zb HB) hb); (try clear hb)) | (go_at_call 65; (with_reducible refine (impl_HeadOk.calls k _ _ l1 t484 _ ?side1 ?side2 A5.out).mono ?_); (case side1 => exact zc (Kd.C_below HR1.out HB.out)); (case side2 => exact HC1.out); rintro e w12 ⟨rfl, hb⟩; replace BK481 := kb BK481 hb; replace BK482 := kb BK482 hb; replace HB := Aside0.mk (below_step (zb HB) hb); (try clear hb)))
  (try simp only [Act.put, s1, s2, s3])
  have H := HC6.out
  clear HC6
  by_cases c13 : t484 = true
  ·subst c13
   rw [if_pos rfl] at H
   obtain ⟨⟨t485, t488, t489⟩, A14, H⟩ := ob H
   (try dsimp only at H)
   simp only [Option.some.injEq, Prod.mk.injEq] at H
   obtain ⟨rfl, rfl, rfl⟩ := H
   have hnb15 := NB481_482.out
   have hnc15 := NB482_481.out
   obtain ⟨hcz16_0, hcz16_1, hfz16_0, hfz16_1⟩ := c2 BK481
   go_wp2_with (first | ((with_reducible refine gq 66 rfl ?_); refine gl (some 17) Try.func66 #[.agg #[.slice A0_0 l0_0.length c0_0, .int .i64 a0_1], .slice A1 l1.length c1] ?_; (with_reducible refine (impl_Table_write.calls k (fun k_ => k_ < w.heap.size) _ _ l0_0 a0_1 _ _ l1 t485 t488 t489 _ ?side1 ?side2 ?side3 A14.out).mono ?_); (case side1 => exact Kd.V_mk HC0_0.out (Kd.F_below (Kd.C_F k36_heap HR0_0.out) (zb HB))); (case side2 => exact zc (Kd.C_below HR1.out HB.out)); (case side3 => exact HC1.out); rintro e w17 ⟨v486, rfl, ho0, hb⟩; refine ⟨_, rfl, ?_⟩; have HO487 := Aside0.mk (Kd.R_lower (Kd.R_mono (ok' := fun k_ => True) ho0 (fun _ hk_ => trivial)) (below_size (zb HB))); replace BK481 := kb BK481 hb; replace BK482 := kb BK482 hb; replace HB := Aside0.mk (below_step (zb HB) hb); (try clear hb); (try clear ho0); obtain ⟨Ao18, co18, eo18⟩ := Kd.R_slice HO487.out; subst eo18; obtain ⟨hcz19_0, hcz19_1, hfz19_0, hfz19_1⟩ := c2 BK482))
   refine bodyPost_ret (results_ct rfl _ _ gb482 25 #[.slice Ao18 t485.length co18, .int .i64 t488] (0, 0) _ rfl (zp BK482) Try.underlying25 rfl (by kernel_rfl)) rfl ?_
   exact ⟨_, ze, (Kd.R_mono (ztR (Kd.R_types HO487.out BK482.out (by decide))) (fun _ hk => trivial)), zb HB⟩
  ·replace c13 := Bool.eq_false_iff.mpr c13
   subst c13
   rw [if_neg (show ¬ (false = true) by decide)] at H
   simp only [Option.some.injEq, Prod.mk.injEq] at H
   obtain ⟨rfl, rfl, rfl⟩ := H
   have hnb20 := NB482_481.out
   have hnc20 := NB481_482.out
   obtain ⟨hcz21_0, hcz21_1, hfz21_0, hfz21_1⟩ := c2 BK482
   go_wp2
   refine bodyPost_ret (results_ct rfl _ _ gb482 25 #[.slice none 0 0, .int .i64 0] (0, 0) _ rfl (zp BK482) Try.underlying25 rfl (by kernel_rfl)) rfl ?_
   exact ⟨_, ze, by first | exact Kd.R_nil _ _ _ _ _ | exact Kd.N_nil _ _ _ _ _ | exact Kd.V_nil _ _ _ _ _ | exact Kd.Q_nil _ _ _ _ _ | exact Kd.S_nil _ _ _ _ _, zb HB⟩
 ·replace c4 := Bool.eq_false_iff.mpr c4
  subst c4
  rw [if_neg (show ¬ (false = true) by decide)] at H
  simp only [Option.some.injEq, Prod.mk.injEq] at H
  obtain ⟨rfl, rfl, rfl⟩ := H
  go_enter Try.func39, Try.ntmps39
  go_wp2_with (first | ((with_reducible refine gd 2 rfl ?_); refine bx (N := 2) (cs := #[.slice A0_0 l0_0.length c0_0, .int .i64 a0_1]) (t := 25) ?_; intro gb481 hg w22 hbox hb; have BK481 := Aside0.mk (hbox); have GW481 := gw HB hg; have GE481 := GW481; replace HB := Aside0.mk (below_step (zb HB) hb); clear hb hbox hg) | ((with_reducible refine gd 4 rfl ?_); refine bx (N := 4) (cs := #[.slice none 0 0, .int .i64 0]) (t := 25) ?_; intro gb482 hg w23 hbox hb; have BK482 := Aside0.mk (hbox); have GW482 := gw HB hg; have GE482 := GW482; replace HB := Aside0.mk (below_step (zb HB) hb); obtain ⟨NB481_482, NB482_481⟩ := nb BK481 hg; replace BK481 := kb BK481 hb; clear hb hbox hg; have hnb24 := NB481_482.out; have hnc24 := NB482_481.out; obtain ⟨hcz25_0, hcz25_1, hfz25_0, hfz25_1⟩ := c2 BK481) | ((with_reducible refine gq 21 rfl ?_); refine gl (some 7) Try.func21 #[.agg #[.slice A0_0 l0_0.length c0_0, .int .i64 a0_1]] ?_; (with_reducible refine (impl_TableOk.calls k _ _ l0_0 a0_1 false _ ?side1 ?side2 A3.out).mono ?_); (case side1 => exact zc (Kd.C_below HR0_0.out HB.out)); (case side2 => exact HC0_0.out); rintro e w26 ⟨rfl, hb⟩; refine ⟨_, rfl, ?_⟩; replace BK481 := kb BK481 hb; replace BK482 := kb BK482 hb; replace HB := Aside0.mk (below_step (zb HB) hb); (try clear hb); obtain ⟨hcz27_0, hcz27_1, hfz27_0, hfz27_1⟩ := c2 BK482))
  refine bodyPost_ret (results_ct rfl _ _ gb482 25 #[.slice none 0 0, .int .i64 0] (0, 0) _ rfl (zp BK482) Try.underlying25 rfl (by kernel_rfl)) rfl ?_
  exact ⟨_, ze, by first | exact Kd.R_nil _ _ _ _ _ | exact Kd.N_nil _ _ _ _ _ | exact Kd.V_nil _ _ _ _ _ | exact Kd.Q_nil _ _ _ _ _ | exact Kd.S_nil _ _ _ _ _, zb HB⟩

end Go.Proofs.Ytdhahifdcoinhaa.PFnHeadFixed
