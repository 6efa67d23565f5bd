-- WRITTEN BY a turned print (wip/tools of the prover's repo)
import Derived.Test.YtdhahifdcoinhaaPFnExactTableLimitx0
import Derived.Test.YtdhahifdcoinhaaPFnExactTableLimitx1
namespace Go.Proofs.Ytdhahifdcoinhaa.PFnExactTableLimit
open Go.RowKit Go.Proofs.YtdhahifdcoinhaaW.PrintWords Go.Proofs.YtdhahifdcoinhaaW.PrintLast Go.Proofs.YtdhahifdcoinhaaW.PrintMore Go.Proofs.Ytdhahifdcoinhaa.Lm
attribute [local go_sem] max2_int min2_int max_two min_two max_three min_three max_four min_four   -- for this text's walks alone
set_option linter.unusedVariables false
set_option linter.unusedSimpArgs false

/-! ### impl_Table_fit: function 49 -/
-- thin
def impl_Table_fit.l0 : Nat → List (S36) → Int → Option ((List (S36)) × Int)
 | 0, _, _ => none
 | k + 1, x128000, x128001 => (impl_Table_size.f k x128000 x128001).bind fun t128 => (if t128 > x128001 then (if 0 ≤ (wrap64 ((x128000.length : Int) - 1)) then (if (wrap64 ((x128000.length : Int) - 1)) ≤ (x128000.length : Int) then (impl_Table_fit.l0 k (x128000.take ((wrap64 ((x128000.length : Int) - 1)) : Int).toNat) x128001) else (none)) else (none)) else ((impl_Table_clone.f x128000 x128001).bind fun bt132 => (some (bt132.1, bt132.2))))
def impl_Table_fit.f (k : Nat) (l0_0 : List (S36)) (a0_1 : Int) : Option ((List (S36)) × Int) := (impl_Table_clone.f l0_0 a0_1).bind fun bt123 => (impl_Table_fit.l0 k bt123.1 bt123.2)
theorem impl_Table_fit.mono_l : ∀ k, (∀ y0 y1, LeO (impl_Table_fit.l0 k y0 y1) (impl_Table_fit.l0 (k + 1) y0 y1))
 | 0 => fun _ _ r h => by simp [impl_Table_fit.l0] at h
 | k + 1 => by
  have ih0 := impl_Table_fit.mono_l k
  ·intro y0 y1
   unfold impl_Table_fit.l0
   repeat' first
   | (with_reducible exact ih0 _ _)
   | (with_reducible exact impl_Table_size.mono _ _ _)
   | (with_reducible exact LeO.refl _)
   | (with_reducible exact LeO.none _)
   | (with_reducible refine LeO.ite ?_ ?_)
   | (with_reducible refine LeO.bind ?_ (fun _ => ?_))
   | exact ih0 _ _
   | exact impl_Table_size.mono _ _ _
   | exact LeO.none _
   | refine LeO.ite ?_ ?_
   | refine LeO.bind ?_ (fun _ => ?_)
theorem impl_Table_fit.mono : ∀ a0 a1 k, LeO (impl_Table_fit.f k a0 a1) (impl_Table_fit.f (k + 1) a0 a1) := by
 intro a0 a1 k
 have ih0 := impl_Table_fit.mono_l k
 unfold impl_Table_fit.f
 repeat' first
   | (with_reducible exact ih0 _ _)
   | (with_reducible exact impl_Table_size.mono _ _ _)
   | (with_reducible exact LeO.refl _)
   | (with_reducible exact LeO.none _)
   | (with_reducible refine LeO.ite ?_ ?_)
   | (with_reducible refine LeO.bind ?_ (fun _ => ?_))
   | exact ih0 _ _
   | exact impl_Table_size.mono _ _ _
   | exact LeO.none _
   | refine LeO.ite ?_ ?_
   | refine LeO.bind ?_ (fun _ => ?_)
set_option maxHeartbeats 8000000 in
set_option maxRecDepth 100000 in
theorem impl_Table_fit.calls (k : Nat) (A0_0 : Option Addr) (c0_0 : Nat) (l0_0 : List (S36)) (a0_1 : Int) (r1 : List (S36)) (r2 : Int) (w : World) (hr0_0 : Kd.C k36 w A0_0 l0_0.length l0_0) (hc0_0 : l0_0.length ≤ c0_0) (h : impl_Table_fit.f k l0_0 a0_1 = some (r1, r2)) :
  Calls Try.prog 49 #[.agg #[.slice A0_0 l0_0.length c0_0, .int .i64 a0_1]] w fun e w' => ∃ v0_ : Value, e = .returned (.agg #[v0_, .int .i64 r2]) ∧ Kd.R k36 36 w' w.heap.size (fun _ => True) v0_ r1 ∧ Below w.heap.size w w' := by
 have hu25 := Try.underlying25
 have HR0_0 := Aside0.mk hr0_0
 have HC0_0 := Aside0.mk hc0_0
 clear hr0_0 hc0_0
 have HB := Aside0.mk (Below.refl w.heap.size w)
 have H : ((impl_Table_clone.f l0_0 a0_1).bind fun bt123 => (impl_Table_fit.l0 k bt123.1 bt123.2)) = some (r1, r2) := h
 clear h
 replace H := Option.bind_eq_some_iff.mp H
 obtain ⟨⟨t123, t126⟩, A20, H⟩ := H
 replace H : (impl_Table_fit.l0 k t123 t126) = some (r1, r2) := H
 have A2 := Aside0.mk A20
 clear A20
 have H' := Aside0.mk H
 clear H
 go_enter Try.func49, Try.ntmps49
 go_wp2_with (first | ((with_reducible refine gd 1 rfl ?_); refine bx (N := 1) (cs := #[.slice A0_0 l0_0.length c0_0, .int .i64 a0_1]) (t := 25) ?_; intro gb121 hg w3 hbox hb; have BK121 := Aside0.mk (hbox); have GW121 := Aside0.mk ((by rw [hg]; exact (below_size (zb HB)) : w.heap.size ≤ gb121)); have GE121 := Aside0.mk ((by rw [hg]; exact (below_size (zb HB)) : w.heap.size ≤ gb121)); replace HB := Aside0.mk (below_step (zb HB) hb); clear hb hbox hg) | ((with_reducible refine gd 2 rfl ?_); refine bx (N := 2) (cs := #[.slice none 0 0, .int .i64 0]) (t := 25) ?_; intro gb122 hg w4 hbox hb; have BK122 := Aside0.mk (hbox); have GW122 := Aside0.mk ((by rw [hg]; exact (below_size (zb HB)) : w.heap.size ≤ gb122)); have GE122 := Aside0.mk ((by rw [hg]; exact (below_size (zb HB)) : w.heap.size ≤ gb122)); replace HB := Aside0.mk (below_step (zb HB) hb); have NB121_122 := Aside0.mk ((by rw [hg]; exact Nat.ne_of_lt (blk_lt (g := gb121) (o := .cells #[.slice A0_0 l0_0.length c0_0, .int .i64 a0_1] 25 (0, 0)) (zk BK121)) : gb121 ≠ gb122)); have NB122_121 := Aside0.mk ((by rw [hg]; exact Nat.ne_of_gt (blk_lt (g := gb121) (o := .cells #[.slice A0_0 l0_0.length c0_0, .int .i64 a0_1] 25 (0, 0)) (zk BK121)) : gb122 ≠ gb121)); replace BK121 := Aside0.mk (blk_below (g := gb121) (o := .cells #[.slice A0_0 l0_0.length c0_0, .int .i64 a0_1] 25 (0, 0)) (zk BK121) hb); clear hb hbox hg; have hnb5 := NB121_122.out; have hnc5 := NB122_121.out; have hcz6_0 : w4.cell? ⟨gb121, 0, none⟩ = some (.slice A0_0 l0_0.length c0_0) := (blk_cell BK121.out 0).trans rfl; have hcz6_1 : w4.cell? ⟨gb121, 1, none⟩ = some (.int .i64 a0_1) := (blk_cell BK121.out 1).trans rfl; have hfz6_0 := blk_frozen BK121.out 0; have hfz6_1 := blk_frozen BK121.out 1) | ((with_reducible refine gq 69 rfl ?_); refine gl (some 5) Try.func69 #[.agg #[.slice A0_0 l0_0.length c0_0, .int .i64 a0_1]] ?_; (with_reducible refine (impl_Table_clone.calls _ _ l0_0 a0_1 t123 t126 _ ?side1 ?side2 A2.out).mono ?_); (case side1 => exact zc (Kd.C_below HR0_0.out HB.out)); (case side2 => exact HC0_0.out); rintro e w7 ⟨v124, rfl, ho0, hb⟩; refine ⟨_, rfl, ?_⟩; have HO125 := Aside0.mk (Kd.R_lower ho0 (below_size (zb HB))); replace BK121 := Aside0.mk (blk_below (g := gb121) (o := .cells #[.slice A0_0 l0_0.length c0_0, .int .i64 a0_1] 25 (0, 0)) (zk BK121) hb); replace BK122 := Aside0.mk (blk_below (g := gb122) (o := .cells #[.slice none 0 0, .int .i64 0] 25 (0, 0)) (zk BK122) hb); replace HB := Aside0.mk (below_step (zb HB) hb); (try clear hb); (try clear ho0)) | ((with_reducible refine gd 3 rfl ?_); refine bx (N := 3) (cs := #[.slice none 0 0, .int .i64 0]) (t := 25) ?_; intro gb127 hg w8 hbox hb; replace HO125 := Aside0.mk (Kd.R_below (zr HO125) hb); have BK127 := Aside0.mk (hbox); have GW127 := Aside0.mk ((by rw [hg]; exact (below_size (zb HB)) : w.heap.size ≤ gb127)); have GE127 := Aside0.mk ((by rw [hg]; exact (below_size (zb HB)) : w.heap.size ≤ gb127)); replace HB := Aside0.mk (below_step (zb HB) hb); have NB121_127 := Aside0.mk ((by rw [hg]; exact Nat.ne_of_lt (blk_lt (g := gb121) (o := .cells #[.slice A0_0 l0_0.length c0_0, .int .i64 a0_1] 25 (0, 0)) (zk BK121)) : gb121 ≠ gb127)); have NB127_121 := Aside0.mk ((by rw [hg]; exact Nat.ne_of_gt (blk_lt (g := gb121) (o := .cells #[.slice A0_0 l0_0.length c0_0, .int .i64 a0_1] 25 (0, 0)) (zk BK121)) : gb127 ≠ gb121)); replace BK121 := Aside0.mk (blk_below (g := gb121) (o := .cells #[.slice A0_0 l0_0.length c0_0, .int .i64 a0_1] 25 (0, 0)) (zk BK121) hb); have NB122_127 := Aside0.mk ((by rw [hg]; exact Nat.ne_of_lt (blk_lt (g := gb122) (o := .cells #[.slice none 0 0, .int .i64 0] 25 (0, 0)) (zk BK122)) : gb122 ≠ gb127)); have NB127_122 := Aside0.mk ((by rw [hg]; exact Nat.ne_of_gt (blk_lt (g := gb122) (o := .cells #[.slice none 0 0, .int .i64 0] 25 (0, 0)) (zk BK122)) : gb127 ≠ gb122)); replace BK122 := Aside0.mk (blk_below (g := gb122) (o := .cells #[.slice none 0 0, .int .i64 0] 25 (0, 0)) (zk BK122) hb); clear hb hbox hg; obtain ⟨Ao9, co9, eo9⟩ := Kd.R_slice HO125.out; subst eo9; have hnb10 := NB127_121.out; have hnc10 := NB121_127.out; have hnb11 := NB127_122.out; have hnc11 := NB122_127.out; have hcz12_0 : w8.cell? ⟨gb127, 0, none⟩ = some (.slice none 0 0) := (blk_cell BK127.out 0).trans rfl; have hcz12_1 : w8.cell? ⟨gb127, 1, none⟩ = some (.int .i64 0) := (blk_cell BK127.out 1).trans rfl; have hfz12_0 := blk_frozen BK127.out 0; have hfz12_1 := blk_frozen BK127.out 1))
 go_loopg [] k (fun kq w' => ∃ (x128000_1 : List (S36)) (u128000 : Value), Aside0 (impl_Table_fit.l0 kq x128000_1 t126 = some (r1, r2)) ∧ Aside0 (kq ≤ k) ∧ Aside0 (Kd.R k36 36 w' w.heap.size (fun _ => True) u128000 x128000_1) ∧ Aside0 (w'.heap[gb121]? = some (.cells #[(.slice A0_0 l0_0.length c0_0), .int .i64 a0_1] 25 (0, 0))) ∧ Aside0 (w'.heap[gb122]? = some (.cells #[(.slice none 0 0), .int .i64 0] 25 (0, 0))) ∧ Aside0 (w'.heap[gb127]? = some (.cells #[u128000, .int .i64 t126] 25 (0, 0))) ∧ Aside0 (Below w.heap.size w w'))
 case atStart => exact ⟨(t123), (.slice Ao9 t123.length co9), H', ⟨Nat.le_refl _⟩, ⟨by (with_reducible repeat (first | apply Kd.R_alloc | apply Kd.R_drewN | apply Kd.R_drew)); exact Kd.R_mono (Kd.R_far (p := ⟨gb127, 1, none⟩) (Kd.R_far (p := ⟨gb127, 0, none⟩) (Kd.R_types HO125.out BK127.out (by decide)) (fun _ hk => hk.2) (.slice Ao9 t123.length co9)) (fun _ hk => hk.2) (.int .i64 t126)) (fun _ hk => trivial)⟩, ⟨by (with_reducible repeat (first | refine blk_drewN ?_ _ | refine blk_drew ?_ | refine blk_alloc ?_ _)); refine blk_far ?_ NB121_127.out _; (with_reducible repeat (first | refine blk_drewN ?_ _ | refine blk_drew ?_ | refine blk_alloc ?_ _)); refine blk_far ?_ NB121_127.out _; exact zk BK121⟩, ⟨by (with_reducible repeat (first | refine blk_drewN ?_ _ | refine blk_drew ?_ | refine blk_alloc ?_ _)); refine blk_far ?_ NB122_127.out _; (with_reducible repeat (first | refine blk_drewN ?_ _ | refine blk_drew ?_ | refine blk_alloc ?_ _)); refine blk_far ?_ NB122_127.out _; exact zk BK122⟩, ⟨by (with_reducible repeat (first | refine blk_drewN ?_ _ | refine blk_drew ?_ | refine blk_alloc ?_ _)); refine blk_put (cs := #[.slice Ao9 t123.length co9, .int .i64 0]) ?_ 1 _ rfl; (with_reducible repeat (first | refine blk_drewN ?_ _ | refine blk_drew ?_ | refine blk_alloc ?_ _)); refine blk_put (cs := #[.slice none 0 0, .int .i64 0]) ?_ 0 _ rfl; exact zk BK127⟩, ⟨zb HB⟩⟩
 case round =>
  clear H'
  try clear c1
  try clear p2
  try clear c4
  try clear c5
  try clear c6
  try clear c10
  try clear c11
  try clear hcz12_0
  try clear hcz12_1
  try clear hcz6_0
  try clear hcz6_1
  try clear hfz12_0
  try clear hfz12_1
  try clear hfz6_0
  try clear hfz6_1
  obtain ⟨x128000_1, u128000, HA, HK1, HO_128000, BK121, BK122, BK127, HB⟩ := hrel
  cases gk with
  | zero => exact absurd HA.out (by simp [impl_Table_fit.l0])
  | succ k1 =>
   have H := HA.out
   clear HA
   simp only [impl_Table_fit.l0] at H
   replace H := Option.bind_eq_some_iff.mp H
   obtain ⟨t128, A130, H⟩ := H
   replace H : (if t128 > t126 then (if 0 ≤ (wrap64 ((x128000_1.length : Int) - 1)) then (if (wrap64 ((x128000_1.length : Int) - 1)) ≤ (x128000_1.length : Int) then (impl_Table_fit.l0 k1 (x128000_1.take ((wrap64 ((x128000_1.length : Int) - 1)) : Int).toNat) t126) else (none)) else (none)) else ((impl_Table_clone.f x128000_1 t126).bind fun bt132 => (some (bt132.1, bt132.2)))) = some (r1, r2) := H
   have A13 := Aside0.mk A130
   clear A130
   by_cases c14 : t128 > t126
   ·rw [if_pos c14] at H
    have c14b0 : decide (t126 < t128) = true := decide_eq_true c14
    clear c14
    obtain ⟨ji15, hji15⟩ : ∃ j_ : Int, (wrap64 ((x128000_1.length : Int) - 1)) = j_ := ⟨_, rfl⟩
    replace H : (if 0 ≤ (ji15) then (if (ji15) ≤ (x128000_1.length : Int) then (impl_Table_fit.l0 k1 (x128000_1.take ((ji15) : Int).toNat) t126) else (none)) else (none)) = some (r1, r2) := by first | (rw [hji15] at H; exact H) | (simp only [hji15] at H ⊢; exact H)
    (try rw [hji15] at A13)
    have hji15w : (IntKind.i64.wrap ((x128000_1.length : Int) - 1)) = ji15 := (i64_w _).trans hji15
    by_cases c16 : 0 ≤ (ji15)
    ·rw [if_pos c16] at H
     have c16b0 := eq_true c16
     have c16b1 : decide (0 ≤ (ji15)) = true := decide_eq_true c16
     clear c16
     by_cases c17 : (ji15) ≤ (x128000_1.length : Int)
     ·rw [if_pos c17] at H
      have c17b0 := eq_true c17
      have c17b1 : decide ((ji15) ≤ (x128000_1.length : Int)) = true := decide_eq_true c17
      clear c17
      obtain ⟨y129, hy129⟩ : ∃ y_ : List (S36), y_ = (x128000_1.take ((ji15) : Int).toNat) := ⟨_, rfl⟩
      replace H : (impl_Table_fit.l0 k1 y129 t126) = some (r1, r2) := by first | (rw [hy129]; with_reducible exact H) | (have H2_ := (Option.bind_some _ _).symm.trans H; rw [hy129]; with_reducible exact H2_) | (have H2_ := (Option.bind_some _ _).symm.trans H; with_reducible exact H2_) | with_reducible exact H | (rw [hy129]; exact H) | exact H
      have Ny129 := Aside0.mk hy129
      clear hy129
      have H' := Aside0.mk H
      clear H
      try go_wp2
      replace HO_128000 := Aside0.mk (Kd.R_drew HO_128000.out)
      replace BK121 := Aside0.mk (blk_drew BK121.out)
      replace BK122 := Aside0.mk (blk_drew BK122.out)
      replace BK127 := Aside0.mk (blk_drew BK127.out)
      replace HB := Aside0.mk (below_drew1 HB.out)
      obtain ⟨Ao19, co19, eo19⟩ := Kd.R_slice HO_128000.out
      (first | subst eo19 | (injection eo19 with f1_ f2_ f3_; have f4_ := f1_.symm; have f5_ := f3_.symm; clear f1_ f2_ f3_; subst f4_; subst f5_))
      refine start_ (n := 5) (S := fun w' => w'.cell? ⟨gb127, 0, none⟩ = some (.slice Ao19 x128000_1.length co19) ∧ w'.cell? ⟨gb127, 1, none⟩ = some (.int .i64 t126)) (ds := []) #[false, false, false, false, false] (by kernel_rfl) rfl rfl ⟨(blk_cell BK127.out 0).trans rfl, (blk_cell BK127.out 1).trans rfl⟩ (fun hHeld => ?_)
      generalize wr.drew = w18 at HO_128000 BK121 BK122 BK127 HB hHeld ⊢
      refine pu 2 (some 8) (bm 5 4) rfl rfl ?_
      refine tk2 0 (some 6) (bm 5 5) rfl rfl hHeld ?_
      refine tk2 3 (some 9) (bm 5 13) rfl rfl hHeld ?_
      refine one_ (i := 1) (N := some 7) (bm 5 15) rfl rfl (by kernel_rfl) (by decide) (fun K hK => ?_)
      refine gs Try.func56 #[.agg #[.slice Ao19 x128000_1.length co19, .int .i64 t126]] ?_
      with_reducible refine (impl_Table_size.calls k1 _ _ x128000_1 t126 t128 _ ?side1 ?side2 A13.out).mono ?_
      (case side1 => exact zc (Kd.R_reads' HO_128000.out).2.2)
      (case side2 => exact (Kd.R_reads' HO_128000.out).2.1)
      rintro e w20 ⟨rfl, hb⟩
      refine ⟨_, rfl, ?_⟩
      replace HO_128000 := Aside0.mk (Kd.R_below (zr HO_128000) hb)
      replace BK121 := Aside0.mk (blk_below (g := gb121) (o := .cells #[.slice A0_0 l0_0.length c0_0, .int .i64 a0_1] 25 (0, 0)) (zk BK121) hb)
      replace BK122 := Aside0.mk (blk_below (g := gb122) (o := .cells #[.slice none 0 0, .int .i64 0] 25 (0, 0)) (zk BK122) hb)
      replace BK127 := Aside0.mk (blk_below (g := gb127) (o := .cells #[.slice Ao19 x128000_1.length co19, .int .i64 t126] 25 (0, 0)) (zk BK127) hb)
      replace HB := Aside0.mk (below_step (zb HB) hb)
      (try clear hb)
      refine hK.out _ _ ⟨(blk_cell BK127.out 0).trans rfl, (blk_cell BK127.out 1).trans rfl⟩ (fun hHeld => ?_)
      clear hK K
      refine nm ?_
      refine pu 4 (some 10) (bm 5 31) rfl rfl ?_
      refine done_ (by kernel_rfl) ?_
      have hnb21 := NB127_121.out
      have hnc21 := NB121_127.out
      have hnb22 := NB127_122.out
      have hnc22 := NB122_127.out
      have hcz23_0 : w20.cell? ⟨gb127, 0, none⟩ = some (.slice Ao19 x128000_1.length co19) := (blk_cell BK127.out 0).trans rfl
      have hcz23_1 : w20.cell? ⟨gb127, 1, none⟩ = some (.int .i64 t126) := (blk_cell BK127.out 1).trans rfl
      have hfz23_0 := blk_frozen BK127.out 0
      have hfz23_1 := blk_frozen BK127.out 1
      have q24 : ((ji15) : Int) ≤ ((x128000_1.length : Int) : Int) := of_decide_eq_true za
      obtain ⟨i024, hi024, _, hsz24, _⟩ := info_parts info36
      have hcut24 := cut_to (P := Try.prog) 23 36 .i64 Try.underlying23 hi024 Ao19 x128000_1.length co19 (ji15) (of_decide_eq_true za) q24 (Kd.R_reads' HO_128000.out).2.1
      have hr24 := Kd.R_take (m := ((ji15) : Int).toNat) HO_128000.out (by omega)
      have hy24 : y129.length = ((ji15) : Int).toNat := (by rw [Ny129.out, List.length_take]; omega)
      rw [← Ny129.out] at hr24
      rw [← hy24] at hr24 hcut24
      clear hy24 hi024 hsz24 HO_128000
      have HO131 := Aside0.mk hr24
      clear hr24
      replace q24 := eq_true q24
      try go_wp2
      go_roundg k1
      case measure => have := HK1.out; omega
      case rel => exact ⟨(y129), (.slice Ao19 y129.length co19), H', ⟨by have := HK1.out; omega⟩, ⟨by (with_reducible repeat (first | apply Kd.R_alloc | apply Kd.R_drewN | apply Kd.R_drew)); exact Kd.R_mono (Kd.R_far (p := ⟨gb127, 0, none⟩) (Kd.R_types HO131.out BK127.out (by decide)) (fun _ hk => hk.2) (.slice Ao19 y129.length co19)) (fun _ hk => trivial)⟩, ⟨by (with_reducible repeat (first | refine blk_drewN ?_ _ | refine blk_drew ?_ | refine blk_alloc ?_ _)); refine blk_far ?_ NB121_127.out _; exact zk BK121⟩, ⟨by (with_reducible repeat (first | refine blk_drewN ?_ _ | refine blk_drew ?_ | refine blk_alloc ?_ _)); refine blk_far ?_ NB122_127.out _; exact zk BK122⟩, ⟨by (with_reducible repeat (first | refine blk_drewN ?_ _ | refine blk_drew ?_ | refine blk_alloc ?_ _)); refine blk_put (cs := #[.slice Ao19 x128000_1.length co19, .int .i64 t126]) ?_ 0 _ rfl; exact zk BK127⟩, ⟨zb HB⟩⟩
     ·rw [if_neg c17] at H
      exact absurd H (by simp)
    ·rw [if_neg c16] at H
     exact absurd H (by simp)
   ·rw [if_neg c14] at H
    have c14b0 : decide (t126 < t128) = false := decide_eq_false c14
    clear c14
    replace H := Option.bind_eq_some_iff.mp H
    obtain ⟨⟨t132, t135⟩, A250, H⟩ := H
    replace H : (some (t132, t135)) = some (r1, r2) := H
    have A25 := Aside0.mk A250
    clear A250
    simp only [Option.some.injEq, Prod.mk.injEq] at H
    obtain ⟨rfl, rfl⟩ := H
    try go_wp2
    replace HO_128000 := Aside0.mk (Kd.R_drew HO_128000.out)
    replace BK121 := Aside0.mk (blk_drew BK121.out)
    replace BK122 := Aside0.mk (blk_drew BK122.out)
    replace BK127 := Aside0.mk (blk_drew BK127.out)
    replace HB := Aside0.mk (below_drew1 HB.out)
    obtain ⟨Ao27, co27, eo27⟩ := Kd.R_slice HO_128000.out
    (first | subst eo27 | (injection eo27 with f1_ f2_ f3_; have f4_ := f1_.symm; have f5_ := f3_.symm; clear f1_ f2_ f3_; subst f4_; subst f5_))
    refine start_ (n := 5) (S := fun w' => w'.cell? ⟨gb127, 0, none⟩ = some (.slice Ao27 x128000_1.length co27) ∧ w'.cell? ⟨gb127, 1, none⟩ = some (.int .i64 t126)) (ds := []) #[false, false, false, false, false] (by kernel_rfl) rfl rfl ⟨(blk_cell BK127.out 0).trans rfl, (blk_cell BK127.out 1).trans rfl⟩ (fun hHeld => ?_)
    generalize wr.drew = w26 at HO_128000 BK121 BK122 BK127 HB hHeld ⊢
    refine pu 2 (some 8) (bm 5 4) rfl rfl ?_
    refine tk2 0 (some 6) (bm 5 5) rfl rfl hHeld ?_
    refine tk2 3 (some 9) (bm 5 13) rfl rfl hHeld ?_
    refine one_ (i := 1) (N := some 7) (bm 5 15) rfl rfl (by kernel_rfl) (by decide) (fun K hK => ?_)
    refine gs Try.func56 #[.agg #[.slice Ao27 x128000_1.length co27, .int .i64 t126]] ?_
    with_reducible refine (impl_Table_size.calls k1 _ _ x128000_1 t126 t128 _ ?side1 ?side2 A13.out).mono ?_
    (case side1 => exact zc (Kd.R_reads' HO_128000.out).2.2)
    (case side2 => exact (Kd.R_reads' HO_128000.out).2.1)
    rintro e w28 ⟨rfl, hb⟩
    refine ⟨_, rfl, ?_⟩
    replace HO_128000 := Aside0.mk (Kd.R_below (zr HO_128000) hb)
    replace BK121 := Aside0.mk (blk_below (g := gb121) (o := .cells #[.slice A0_0 l0_0.length c0_0, .int .i64 a0_1] 25 (0, 0)) (zk BK121) hb)
    replace BK122 := Aside0.mk (blk_below (g := gb122) (o := .cells #[.slice none 0 0, .int .i64 0] 25 (0, 0)) (zk BK122) hb)
    replace BK127 := Aside0.mk (blk_below (g := gb127) (o := .cells #[.slice Ao27 x128000_1.length co27, .int .i64 t126] 25 (0, 0)) (zk BK127) hb)
    replace HB := Aside0.mk (below_step (zb HB) hb)
    (try clear hb)
    refine hK.out _ _ ⟨(blk_cell BK127.out 0).trans rfl, (blk_cell BK127.out 1).trans rfl⟩ (fun hHeld => ?_)
    clear hK K
    refine nm ?_
    refine pu 4 (some 10) (bm 5 31) rfl rfl ?_
    refine done_ (by kernel_rfl) ?_
    have hnb29 := NB127_121.out
    have hnc29 := NB121_127.out
    have hnb30 := NB127_122.out
    have hnc30 := NB122_127.out
    have hcz31_0 : w28.cell? ⟨gb127, 0, none⟩ = some (.slice Ao27 x128000_1.length co27) := (blk_cell BK127.out 0).trans rfl
    have hcz31_1 : w28.cell? ⟨gb127, 1, none⟩ = some (.int .i64 t126) := (blk_cell BK127.out 1).trans rfl
    have hfz31_0 := blk_frozen BK127.out 0
    have hfz31_1 := blk_frozen BK127.out 1
    try go_wp2_with (first | ((with_reducible refine gq 69 rfl ?_); refine gl (some 20) Try.func69 #[.agg #[.slice Ao27 x128000_1.length co27, .int .i64 t126]] ?_; (with_reducible refine (impl_Table_clone.calls _ _ x128000_1 t126 t132 t135 _ ?side1 ?side2 A25.out).mono ?_); (case side1 => exact zc (Kd.R_reads' HO_128000.out).2.2); (case side2 => exact (Kd.R_reads' HO_128000.out).2.1); rintro e w32 ⟨v133, rfl, ho0, hb⟩; refine ⟨_, rfl, ?_⟩; have HO134 := Aside0.mk (Kd.R_lower (Kd.R_new' ho0 (Kd.R_lt (zr HO_128000))) (below_size (zb HB))); replace HO_128000 := Aside0.mk (Kd.R_elder' (zr HO_128000) (Kd.R_base ho0) hb); replace BK121 := Aside0.mk (blk_below (g := gb121) (o := .cells #[.slice A0_0 l0_0.length c0_0, .int .i64 a0_1] 25 (0, 0)) (zk BK121) hb); replace BK122 := Aside0.mk (blk_below (g := gb122) (o := .cells #[.slice none 0 0, .int .i64 0] 25 (0, 0)) (zk BK122) hb); replace BK127 := Aside0.mk (blk_below (g := gb127) (o := .cells #[.slice Ao27 x128000_1.length co27, .int .i64 t126] 25 (0, 0)) (zk BK127) hb); replace HB := Aside0.mk (below_step (zb HB) hb); (try clear hb); (try clear ho0); obtain ⟨Ao33, co33, eo33⟩ := Kd.R_slice HO134.out; subst eo33; have hnb34 := NB122_121.out; have hnc34 := NB121_122.out; have hcz35_0 : w32.cell? ⟨gb122, 0, none⟩ = some (.slice none 0 0) := (blk_cell BK122.out 0).trans rfl; have hcz35_1 : w32.cell? ⟨gb122, 1, none⟩ = some (.int .i64 0) := (blk_cell BK122.out 1).trans rfl; have hfz35_0 := blk_frozen BK122.out 0; have hfz35_1 := blk_frozen BK122.out 1))
    refine bodyPost_ret (results_cell_row rfl _ _ gb122 25 #[.slice Ao33 t132.length co33, .int .i64 t135] (0, 0) _ rfl (by (with_reducible repeat (first | refine blk_drewN ?_ _ | refine blk_drew ?_ | refine blk_alloc ?_ _)); refine blk_put (cs := #[.slice Ao33 t132.length co33, .int .i64 0]) ?_ 1 _ rfl; (with_reducible repeat (first | refine blk_drewN ?_ _ | refine blk_drew ?_ | refine blk_alloc ?_ _)); refine blk_put (cs := #[.slice none 0 0, .int .i64 0]) ?_ 0 _ rfl; exact zk BK122) Try.underlying25 rfl (by kernel_rfl)) rfl ?_
    exact ⟨_, ze, by (with_reducible repeat (first | apply Kd.R_alloc | apply Kd.R_drewN | apply Kd.R_drew)); exact Kd.R_mono (Kd.R_far (p := ⟨gb122, 1, none⟩) (Kd.R_far (p := ⟨gb122, 0, none⟩) (Kd.R_types HO134.out BK122.out (by decide)) (fun _ hk => hk.2) (.slice Ao33 t132.length co33)) (fun _ hk => hk.2) (.int .i64 t135)) (fun _ hk => trivial), zb HB⟩

/-! ### impl_TableLimit: function 16 -/
-- thin
def impl_TableLimit.f (k : Nat) (l0_0 : List (S36)) (a0_1 : Int) (a1 : Int) : Option ((List (S36)) × Int) := (impl_TableOk.f k l0_0 a0_1).bind fun t138 => (if t138 = true then ((impl_in.f a1 0 64).bind fun t139 => (if t139 = true then ((impl_Table_fit.f k l0_0 a1).bind fun bt140 => (some (bt140.1, bt140.2))) else (some (([] : List (S36)), 0)))) else (some (([] : List (S36)), 0)))
theorem impl_TableLimit.mono : ∀ a0 a1 a2 k, LeO (impl_TableLimit.f k a0 a1 a2) (impl_TableLimit.f (k + 1) a0 a1 a2) := by
 intro a0 a1 a2 k
 unfold impl_TableLimit.f
 repeat' first
   | (with_reducible exact impl_TableOk.mono _ _ _)
   | (with_reducible exact impl_Table_fit.mono _ _ _)
   | (with_reducible exact LeO.refl _)
   | (with_reducible exact LeO.none _)
   | (with_reducible refine LeO.ite ?_ ?_)
   | (with_reducible refine LeO.bind ?_ (fun _ => ?_))
   | exact impl_TableOk.mono _ _ _
   | exact impl_Table_fit.mono _ _ _
   | exact LeO.none _
   | refine LeO.ite ?_ ?_
   | refine LeO.bind ?_ (fun _ => ?_)
set_option maxHeartbeats 8000000 in
set_option maxRecDepth 100000 in
theorem impl_TableLimit.calls (k : Nat) (A0_0 : Option Addr) (c0_0 : Nat) (l0_0 : List (S36)) (a0_1 : Int) (a1 : Int) (r1 : List (S36)) (r2 : Int) (w : World) (hr0_0 : Kd.C k36 w A0_0 l0_0.length l0_0) (hc0_0 : l0_0.length ≤ c0_0) (h : impl_TableLimit.f k l0_0 a0_1 a1 = some (r1, r2)) :
  Calls Try.prog 16 #[.agg #[.slice A0_0 l0_0.length c0_0, .int .i64 a0_1], .int .i64 a1] w fun e w' => ∃ v0_ : Value, e = .returned (.agg #[v0_, .int .i64 r2]) ∧ Kd.R k36 36 w' w.heap.size (fun _ => True) v0_ r1 ∧ Below w.heap.size w w' := by
 have hu25 := Try.underlying25
 have HR0_0 := Aside0.mk hr0_0
 have HC0_0 := Aside0.mk hc0_0
 clear hr0_0 hc0_0
 have HB := Aside0.mk (Below.refl w.heap.size w)
 have H : ((impl_TableOk.f k l0_0 a0_1).bind fun t138 => (if t138 = true then ((impl_in.f a1 0 64).bind fun t139 => (if t139 = true then ((impl_Table_fit.f k l0_0 a1).bind fun bt140 => (some (bt140.1, bt140.2))) else (some (([] : List (S36)), 0)))) else (some (([] : List (S36)), 0)))) = some (r1, r2) := h
 clear h
 replace H := Option.bind_eq_some_iff.mp H
 obtain ⟨t138, A30, H⟩ := H
 replace H : (if t138 = true then ((impl_in.f a1 0 64).bind fun t139 => (if t139 = true then ((impl_Table_fit.f k l0_0 a1).bind fun bt140 => (some (bt140.1, bt140.2))) else (some (([] : List (S36)), 0)))) else (some (([] : List (S36)), 0))) = some (r1, r2) := H
 have A3 := Aside0.mk A30
 clear A30
 by_cases c4 : t138 = true
 ·subst c4
  have H1 : ((impl_in.f a1 0 64).bind fun t139 => (if t139 = true then ((impl_Table_fit.f k l0_0 a1).bind fun bt140 => (some (bt140.1, bt140.2))) else (some (([] : List (S36)), 0)))) = some (r1, r2) := by rw [if_pos rfl] at H; exact H
  clear H
  have H := H1
  clear H1
  replace H := Option.bind_eq_some_iff.mp H
  obtain ⟨t139, A50, H⟩ := H
  replace H : (if t139 = true then ((impl_Table_fit.f k l0_0 a1).bind fun bt140 => (some (bt140.1, bt140.2))) else (some (([] : List (S36)), 0))) = some (r1, r2) := H
  have A5 := Aside0.mk A50
  clear A50
  have HC6 := Aside0.mk H
  clear H
  go_enter Try.func16, Try.ntmps16
  go_upto_if 12 with (first | ((with_reducible refine gd 2 rfl ?_); refine bx (N := 2) (cs := #[.slice A0_0 l0_0.length c0_0, .int .i64 a0_1]) (t := 25) ?_; intro gb136 hg w7 hbox hb; have BK136 := Aside0.mk (hbox); have GW136 := Aside0.mk ((by rw [hg]; exact (below_size (zb HB)) : w.heap.size ≤ gb136)); have GE136 := Aside0.mk ((by rw [hg]; exact (below_size (zb HB)) : w.heap.size ≤ gb136)); replace HB := Aside0.mk (below_step (zb HB) hb); clear hb hbox hg) | ((with_reducible refine gd 4 rfl ?_); refine bx (N := 4) (cs := #[.slice none 0 0, .int .i64 0]) (t := 25) ?_; intro gb137 hg w8 hbox hb; have BK137 := Aside0.mk (hbox); have GW137 := Aside0.mk ((by rw [hg]; exact (below_size (zb HB)) : w.heap.size ≤ gb137)); have GE137 := Aside0.mk ((by rw [hg]; exact (below_size (zb HB)) : w.heap.size ≤ gb137)); replace HB := Aside0.mk (below_step (zb HB) hb); have NB136_137 := Aside0.mk ((by rw [hg]; exact Nat.ne_of_lt (blk_lt (g := gb136) (o := .cells #[.slice A0_0 l0_0.length c0_0, .int .i64 a0_1] 25 (0, 0)) (zk BK136)) : gb136 ≠ gb137)); have NB137_136 := Aside0.mk ((by rw [hg]; exact Nat.ne_of_gt (blk_lt (g := gb136) (o := .cells #[.slice A0_0 l0_0.length c0_0, .int .i64 a0_1] 25 (0, 0)) (zk BK136)) : gb137 ≠ gb136)); replace BK136 := Aside0.mk (blk_below (g := gb136) (o := .cells #[.slice A0_0 l0_0.length c0_0, .int .i64 a0_1] 25 (0, 0)) (zk BK136) hb); clear hb hbox hg; have hnb9 := NB136_137.out; have hnc9 := NB137_136.out; have hcz10_0 : w8.cell? ⟨gb136, 0, none⟩ = some (.slice A0_0 l0_0.length c0_0) := (blk_cell BK136.out 0).trans rfl; have hcz10_1 : w8.cell? ⟨gb136, 1, none⟩ = some (.int .i64 a0_1) := (blk_cell BK136.out 1).trans rfl; have hfz10_0 := blk_frozen BK136.out 0; have hfz10_1 := blk_frozen BK136.out 1) | ((with_reducible refine gq 21 rfl ?_); refine gl (some 6) Try.func21 #[.agg #[.slice A0_0 l0_0.length c0_0, .int .i64 a0_1]] ?_; (with_reducible refine (impl_TableOk.calls k _ _ l0_0 a0_1 true _ ?side1 ?side2 A3.out).mono ?_); (case side1 => exact zc (Kd.C_below HR0_0.out HB.out)); (case side2 => exact HC0_0.out); rintro e w11 ⟨rfl, hb⟩; refine ⟨_, rfl, ?_⟩; replace BK136 := Aside0.mk (blk_below (g := gb136) (o := .cells #[.slice A0_0 l0_0.length c0_0, .int .i64 a0_1] 25 (0, 0)) (zk BK136) hb); replace BK137 := Aside0.mk (blk_below (g := gb137) (o := .cells #[.slice none 0 0, .int .i64 0] 25 (0, 0)) (zk BK137) hb); replace HB := Aside0.mk (below_step (zb HB) hb); (try clear hb)) | (go_at_call 48; (with_reducible refine (impl_in.calls a1 0 64 t139 _ A5.out).mono ?_); rintro e w' ⟨rfl, ⟨nd, rfl⟩⟩))
  (try simp only [Act.put, s1, s2, s3])
  have H := HC6.out
  clear HC6
  by_cases c12 : t139 = true
  ·subst c12
   have H1 : ((impl_Table_fit.f k l0_0 a1).bind fun bt140 => (some (bt140.1, bt140.2))) = some (r1, r2) := by rw [if_pos rfl] at H; exact H
   clear H
   have H := H1
   clear H1
   replace H := Option.bind_eq_some_iff.mp H
   obtain ⟨⟨t140, t143⟩, A130, H⟩ := H
   replace H : (some (t140, t143)) = some (r1, r2) := H
   have A13 := Aside0.mk A130
   clear A130
   simp only [Option.some.injEq, Prod.mk.injEq] at H
   obtain ⟨rfl, rfl⟩ := H
   have hnb14 := NB136_137.out
   have hnc14 := NB137_136.out
   have hcz15_0 : w11.cell? ⟨gb136, 0, none⟩ = some (.slice A0_0 l0_0.length c0_0) := (blk_cell BK136.out 0).trans rfl
   have hcz15_1 : w11.cell? ⟨gb136, 1, none⟩ = some (.int .i64 a0_1) := (blk_cell BK136.out 1).trans rfl
   have hfz15_0 := blk_frozen BK136.out 0
   have hfz15_1 := blk_frozen BK136.out 1
   go_wp2_with (first | ((with_reducible refine gq 49 rfl ?_); refine gl (some 18) Try.func49 #[.agg #[.slice A0_0 l0_0.length c0_0, .int .i64 a1]] ?_; (with_reducible refine (impl_Table_fit.calls k _ _ l0_0 a1 t140 t143 _ ?side1 ?side2 A13.out).mono ?_); (case side1 => exact zc (Kd.C_below HR0_0.out HB.out)); (case side2 => exact HC0_0.out); rintro e w16 ⟨v141, rfl, ho0, hb⟩; refine ⟨_, rfl, ?_⟩; have HO142 := Aside0.mk (Kd.R_lower ho0 (below_size (zb HB))); replace BK136 := Aside0.mk (blk_below (g := gb136) (o := .cells #[.slice A0_0 l0_0.length c0_0, .int .i64 a0_1] 25 (0, 0)) (zk BK136) hb); replace BK137 := Aside0.mk (blk_below (g := gb137) (o := .cells #[.slice none 0 0, .int .i64 0] 25 (0, 0)) (zk BK137) hb); replace HB := Aside0.mk (below_step (zb HB) hb); (try clear hb); (try clear ho0); obtain ⟨Ao17, co17, eo17⟩ := Kd.R_slice HO142.out; subst eo17; have hcz18_0 : w16.cell? ⟨gb137, 0, none⟩ = some (.slice none 0 0) := (blk_cell BK137.out 0).trans rfl; have hcz18_1 : w16.cell? ⟨gb137, 1, none⟩ = some (.int .i64 0) := (blk_cell BK137.out 1).trans rfl; have hfz18_0 := blk_frozen BK137.out 0; have hfz18_1 := blk_frozen BK137.out 1))
   refine bodyPost_ret (results_cell_row rfl _ _ gb137 25 #[.slice Ao17 t140.length co17, .int .i64 t143] (0, 0) _ rfl (by (with_reducible repeat (first | refine blk_drewN ?_ _ | refine blk_drew ?_ | refine blk_alloc ?_ _)); refine blk_put (cs := #[.slice Ao17 t140.length co17, .int .i64 0]) ?_ 1 _ rfl; (with_reducible repeat (first | refine blk_drewN ?_ _ | refine blk_drew ?_ | refine blk_alloc ?_ _)); refine blk_put (cs := #[.slice none 0 0, .int .i64 0]) ?_ 0 _ rfl; exact zk BK137) Try.underlying25 rfl (by kernel_rfl)) rfl ?_
   exact ⟨_, ze, by (with_reducible repeat (first | apply Kd.R_alloc | apply Kd.R_drewN | apply Kd.R_drew)); exact Kd.R_mono (Kd.R_far (p := ⟨gb137, 1, none⟩) (Kd.R_far (p := ⟨gb137, 0, none⟩) (Kd.R_types HO142.out BK137.out (by decide)) (fun _ hk => hk.2) (.slice Ao17 t140.length co17)) (fun _ hk => hk.2) (.int .i64 t143)) (fun _ hk => trivial), zb HB⟩
  ·replace c12 := Bool.eq_false_iff.mpr c12
   subst c12
   have H1 : (some (([] : List (S36)), 0)) = some (r1, r2) := by rw [if_neg (show ¬ (false = true) by decide)] at H; exact H
   clear H
   have H := H1
   clear H1
   simp only [Option.some.injEq, Prod.mk.injEq] at H
   obtain ⟨rfl, rfl⟩ := H
   have hnb19 := NB137_136.out
   have hnc19 := NB136_137.out
   have hcz20_0 : w11.cell? ⟨gb137, 0, none⟩ = some (.slice none 0 0) := (blk_cell BK137.out 0).trans rfl
   have hcz20_1 : w11.cell? ⟨gb137, 1, none⟩ = some (.int .i64 0) := (blk_cell BK137.out 1).trans rfl
   have hfz20_0 := blk_frozen BK137.out 0
   have hfz20_1 := blk_frozen BK137.out 1
   go_wp2
   refine bodyPost_ret (results_cell_row rfl _ _ gb137 25 #[.slice none 0 0, .int .i64 0] (0, 0) _ rfl (by (with_reducible repeat (first | refine blk_drewN ?_ _ | refine blk_drew ?_ | refine blk_alloc ?_ _)); refine blk_put (cs := #[.slice none 0 0, .int .i64 0]) ?_ 1 _ rfl; (with_reducible repeat (first | refine blk_drewN ?_ _ | refine blk_drew ?_ | refine blk_alloc ?_ _)); refine blk_put (cs := #[.slice none 0 0, .int .i64 0]) ?_ 0 _ rfl; exact zk BK137) Try.underlying25 rfl (by kernel_rfl)) rfl ?_
   exact ⟨_, ze, by first | exact Kd.R_nil _ _ _ _ _ | exact Kd.N_nil _ _ _ _ _ | exact Kd.V_nil _ _ _ _ _ | exact Kd.Q_nil _ _ _ _ _ | exact Kd.S_nil _ _ _ _ _, zb HB⟩
 ·replace c4 := Bool.eq_false_iff.mpr c4
  subst c4
  have H1 : (some (([] : List (S36)), 0)) = some (r1, r2) := by rw [if_neg (show ¬ (false = true) by decide)] at H; exact H
  clear H
  have H := H1
  clear H1
  simp only [Option.some.injEq, Prod.mk.injEq] at H
  obtain ⟨rfl, rfl⟩ := H
  go_enter Try.func16, Try.ntmps16
  go_wp2_with (first | ((with_reducible refine gd 2 rfl ?_); refine bx (N := 2) (cs := #[.slice A0_0 l0_0.length c0_0, .int .i64 a0_1]) (t := 25) ?_; intro gb136 hg w21 hbox hb; have BK136 := Aside0.mk (hbox); have GW136 := Aside0.mk ((by rw [hg]; exact (below_size (zb HB)) : w.heap.size ≤ gb136)); have GE136 := Aside0.mk ((by rw [hg]; exact (below_size (zb HB)) : w.heap.size ≤ gb136)); replace HB := Aside0.mk (below_step (zb HB) hb); clear hb hbox hg) | ((with_reducible refine gd 4 rfl ?_); refine bx (N := 4) (cs := #[.slice none 0 0, .int .i64 0]) (t := 25) ?_; intro gb137 hg w22 hbox hb; have BK137 := Aside0.mk (hbox); have GW137 := Aside0.mk ((by rw [hg]; exact (below_size (zb HB)) : w.heap.size ≤ gb137)); have GE137 := Aside0.mk ((by rw [hg]; exact (below_size (zb HB)) : w.heap.size ≤ gb137)); replace HB := Aside0.mk (below_step (zb HB) hb); have NB136_137 := Aside0.mk ((by rw [hg]; exact Nat.ne_of_lt (blk_lt (g := gb136) (o := .cells #[.slice A0_0 l0_0.length c0_0, .int .i64 a0_1] 25 (0, 0)) (zk BK136)) : gb136 ≠ gb137)); have NB137_136 := Aside0.mk ((by rw [hg]; exact Nat.ne_of_gt (blk_lt (g := gb136) (o := .cells #[.slice A0_0 l0_0.length c0_0, .int .i64 a0_1] 25 (0, 0)) (zk BK136)) : gb137 ≠ gb136)); replace BK136 := Aside0.mk (blk_below (g := gb136) (o := .cells #[.slice A0_0 l0_0.length c0_0, .int .i64 a0_1] 25 (0, 0)) (zk BK136) hb); clear hb hbox hg; have hnb23 := NB136_137.out; have hnc23 := NB137_136.out; have hcz24_0 : w22.cell? ⟨gb136, 0, none⟩ = some (.slice A0_0 l0_0.length c0_0) := (blk_cell BK136.out 0).trans rfl; have hcz24_1 : w22.cell? ⟨gb136, 1, none⟩ = some (.int .i64 a0_1) := (blk_cell BK136.out 1).trans rfl; have hfz24_0 := blk_frozen BK136.out 0; have hfz24_1 := blk_frozen BK136.out 1) | ((with_reducible refine gq 21 rfl ?_); refine gl (some 6) Try.func21 #[.agg #[.slice A0_0 l0_0.length c0_0, .int .i64 a0_1]] ?_; (with_reducible refine (impl_TableOk.calls k _ _ l0_0 a0_1 false _ ?side1 ?side2 A3.out).mono ?_); (case side1 => exact zc (Kd.C_below HR0_0.out HB.out)); (case side2 => exact HC0_0.out); rintro e w25 ⟨rfl, hb⟩; refine ⟨_, rfl, ?_⟩; replace BK136 := Aside0.mk (blk_below (g := gb136) (o := .cells #[.slice A0_0 l0_0.length c0_0, .int .i64 a0_1] 25 (0, 0)) (zk BK136) hb); replace BK137 := Aside0.mk (blk_below (g := gb137) (o := .cells #[.slice none 0 0, .int .i64 0] 25 (0, 0)) (zk BK137) hb); replace HB := Aside0.mk (below_step (zb HB) hb); (try clear hb); have hcz26_0 : w25.cell? ⟨gb137, 0, none⟩ = some (.slice none 0 0) := (blk_cell BK137.out 0).trans rfl; have hcz26_1 : w25.cell? ⟨gb137, 1, none⟩ = some (.int .i64 0) := (blk_cell BK137.out 1).trans rfl; have hfz26_0 := blk_frozen BK137.out 0; have hfz26_1 := blk_frozen BK137.out 1))
  refine bodyPost_ret (results_cell_row rfl _ _ gb137 25 #[.slice none 0 0, .int .i64 0] (0, 0) _ rfl (by (with_reducible repeat (first | refine blk_drewN ?_ _ | refine blk_drew ?_ | refine blk_alloc ?_ _)); refine blk_put (cs := #[.slice none 0 0, .int .i64 0]) ?_ 1 _ rfl; (with_reducible repeat (first | refine blk_drewN ?_ _ | refine blk_drew ?_ | refine blk_alloc ?_ _)); refine blk_put (cs := #[.slice none 0 0, .int .i64 0]) ?_ 0 _ rfl; exact zk BK137) Try.underlying25 rfl (by kernel_rfl)) rfl ?_
  exact ⟨_, ze, by first | exact Kd.R_nil _ _ _ _ _ | exact Kd.N_nil _ _ _ _ _ | exact Kd.V_nil _ _ _ _ _ | exact Kd.Q_nil _ _ _ _ _ | exact Kd.S_nil _ _ _ _ _, zb HB⟩

/-! ### spec_l2Sign: function 76 -/
-- thin
def spec_l2Sign.l0 : Nat → Int → Int → Option (Int)
 | 0, _, _ => none
 | k + 1, x0, x3 => if x3 < 39 then (if 0 ≤ x3 then (if (bt (⟨#[101, 116, 97, 111, 105, 110, 115, 114, 104, 108, 48, 49, 50, 51, 52, 53, 54, 55, 56, 57, 100, 99, 117, 109, 102, 112, 103, 119, 121, 98, 118, 107, 120, 106, 113, 122, 58, 47, 45]⟩ : ByteArray) x3) = x0 then (some x3) else (spec_l2Sign.l0 k x0 (wrap64 (x3 + 1)))) else (none)) else (some (-1))
def spec_l2Sign.f (k : Nat) (a0 : Int) : Option (Int) := spec_l2Sign.l0 k a0 0
theorem spec_l2Sign.mono_l : ∀ k, (∀ y0 y1, LeO (spec_l2Sign.l0 k y0 y1) (spec_l2Sign.l0 (k + 1) y0 y1))
 | 0 => fun _ _ r h => by simp [spec_l2Sign.l0] at h
 | k + 1 => by
  have ih0 := spec_l2Sign.mono_l k
  ·intro y0 y1
   unfold spec_l2Sign.l0
   repeat' first
   | (with_reducible exact ih0 _ _)
   | (with_reducible exact LeO.refl _)
   | (with_reducible exact LeO.none _)
   | (with_reducible refine LeO.ite ?_ ?_)
   | (with_reducible refine LeO.bind ?_ (fun _ => ?_))
   | exact ih0 _ _
   | exact LeO.none _
   | refine LeO.ite ?_ ?_
   | refine LeO.bind ?_ (fun _ => ?_)
theorem spec_l2Sign.mono : ∀ a0 k, LeO (spec_l2Sign.f k a0) (spec_l2Sign.f (k + 1) a0) := by
 intro a0 k
 have ih0 := spec_l2Sign.mono_l k
 unfold spec_l2Sign.f
 repeat' first
   | (with_reducible exact ih0 _ _)
   | (with_reducible exact LeO.refl _)
   | (with_reducible exact LeO.none _)
   | (with_reducible refine LeO.ite ?_ ?_)
   | (with_reducible refine LeO.bind ?_ (fun _ => ?_))
   | exact ih0 _ _
   | exact LeO.none _
   | refine LeO.ite ?_ ?_
   | refine LeO.bind ?_ (fun _ => ?_)
set_option maxHeartbeats 8000000 in
set_option maxRecDepth 100000 in
theorem spec_l2Sign.calls (k : Nat) (a0 : Int) (r : Int) (w : World) (h : spec_l2Sign.f k a0 = some r) :
  Calls Try.prog 76 #[.int .u8 a0] w fun e w' => e = .returned (.int .i64 r) ∧ Drawn0 w w' := by
 have H : (spec_l2Sign.l0 k a0 0) = some r := h
 clear h
 have H' := Aside0.mk H
 clear H
 go_enter Try.func76, Try.ntmps76
 go_wp2
 go_loopg [3] k (fun kq v3 w' => ∃ (x3_1 : Int), v3 = .int .i64 x3_1 ∧ Aside0 (spec_l2Sign.l0 kq a0 x3_1 = some r) ∧ Aside0 (kq ≤ k) ∧ Drawn0 w w')
 case atStart => exact ⟨(0), zs, H', ⟨Nat.le_refl _⟩, by repeat (first | exact Drawn0.refl _ | apply Drawn0.step)⟩
 case round =>
  clear H'
  obtain ⟨x3_1, rfl, HA, HK1, ⟨m1, rfl⟩⟩ := hrel
  cases gk with
  | zero => exact absurd HA.out (by simp [spec_l2Sign.l0])
  | succ k1 =>
   have H := HA.out
   clear HA
   simp only [spec_l2Sign.l0] at H
   by_cases c2 : x3_1 < 39
   ·rw [if_pos c2] at H
    have c2b0 : decide (x3_1 < 39) = true := decide_eq_true c2
    clear c2
    by_cases c3 : 0 ≤ x3_1
    ·rw [if_pos c3] at H
     have c3b0 : decide (0 ≤ x3_1) = true := decide_eq_true c3
     clear c3
     by_cases c5 : (bt (⟨#[101, 116, 97, 111, 105, 110, 115, 114, 104, 108, 48, 49, 50, 51, 52, 53, 54, 55, 56, 57, 100, 99, 117, 109, 102, 112, 103, 119, 121, 98, 118, 107, 120, 106, 113, 122, 58, 47, 45]⟩ : ByteArray) x3_1) = a0
     ·rw [if_pos c5] at H
      have c5b0 : ((bt (⟨#[101, 116, 97, 111, 105, 110, 115, 114, 104, 108, 48, 49, 50, 51, 52, 53, 54, 55, 56, 57, 100, 99, 117, 109, 102, 112, 103, 119, 121, 98, 118, 107, 120, 106, 113, 122, 58, 47, 45]⟩ : ByteArray) x3_1) == a0) = true := beq_iff_eq.mpr c5
      have c5b1 : ((bt (⟨#[101, 116, 97, 111, 105, 110, 115, 114, 104, 108, 48, 49, 50, 51, 52, 53, 54, 55, 56, 57, 100, 99, 117, 109, 102, 112, 103, 119, 121, 98, 118, 107, 120, 106, 113, 122, 58, 47, 45]⟩ : ByteArray) x3_1) != a0) = false := bne_eq_false_iff_eq.mpr c5
      clear c5
      obtain rfl := Option.some.inj H
      have p4 : 0 ≤ (x3_1 : Int) := of_decide_eq_true za
      have q4 : x3_1 < (39 : Int) := of_decide_eq_true za
      have hx4 := bt_at (⟨#[101, 116, 97, 111, 105, 110, 115, 114, 104, 108, 48, 49, 50, 51, 52, 53, 54, 55, 56, 57, 100, 99, 117, 109, 102, 112, 103, 119, 121, 98, 118, 107, 120, 106, 113, 122, 58, 47, 45]⟩ : ByteArray) x3_1
      replace p4 := eq_true p4
      replace q4 := eq_true q4
      go_wp2
      go_ret
      exact ⟨zs, by repeat (first | exact Drawn0.refl _ | apply Drawn0.step)⟩
     ·rw [if_neg c5] at H
      have c5b0 : ((bt (⟨#[101, 116, 97, 111, 105, 110, 115, 114, 104, 108, 48, 49, 50, 51, 52, 53, 54, 55, 56, 57, 100, 99, 117, 109, 102, 112, 103, 119, 121, 98, 118, 107, 120, 106, 113, 122, 58, 47, 45]⟩ : ByteArray) x3_1) == a0) = false := beq_eq_false_iff_ne.mpr c5
      have c5b1 : ((bt (⟨#[101, 116, 97, 111, 105, 110, 115, 114, 104, 108, 48, 49, 50, 51, 52, 53, 54, 55, 56, 57, 100, 99, 117, 109, 102, 112, 103, 119, 121, 98, 118, 107, 120, 106, 113, 122, 58, 47, 45]⟩ : ByteArray) x3_1) != a0) = true := bne_iff_ne.mpr c5
      have H' := Aside0.mk H
      clear H
      have p4 : 0 ≤ (x3_1 : Int) := of_decide_eq_true za
      have q4 : x3_1 < (39 : Int) := of_decide_eq_true za
      have hx4 := bt_at (⟨#[101, 116, 97, 111, 105, 110, 115, 114, 104, 108, 48, 49, 50, 51, 52, 53, 54, 55, 56, 57, 100, 99, 117, 109, 102, 112, 103, 119, 121, 98, 118, 107, 120, 106, 113, 122, 58, 47, 45]⟩ : ByteArray) x3_1
      replace p4 := eq_true p4
      replace q4 := eq_true q4
      go_wp2
      go_roundg k1
      case measure => have := HK1.out; omega
      case rel => exact ⟨(wrap64 (x3_1 + 1)), zs, H', ⟨by have := HK1.out; omega⟩, by repeat (first | exact Drawn0.refl _ | apply Drawn0.step)⟩
    ·rw [if_neg c3] at H
     exact absurd H (by simp)
   ·rw [if_neg c2] at H
    have c2b0 : decide (x3_1 < 39) = false := decide_eq_false c2
    clear c2
    obtain rfl := Option.some.inj H
    go_wp2
    go_ret
    exact ⟨zs, by repeat (first | exact Drawn0.refl _ | apply Drawn0.step)⟩

/-! ### spec_WordOk: function 61 -/
-- thin
def spec_WordOk.l0 : Nat → ByteArray → Int → Option (Bool)
 | 0, _, _ => none
 | k + 1, x0, x3 => if x3 < (x0.size : Int) then (if 0 ≤ x3 then ((spec_l2Sign.f k (bt x0 x3)).bind fun t144 => (if t144 < 0 then (some false) else (spec_WordOk.l0 k x0 (wrap64 (x3 + 1))))) else (none)) else (some (decide ((x0.size : Int) ≤ 16)))
def spec_WordOk.f (k : Nat) (a0 : ByteArray) : Option (Bool) := spec_WordOk.l0 k a0 0
theorem spec_WordOk.mono_l : ∀ k, (∀ y0 y1, LeO (spec_WordOk.l0 k y0 y1) (spec_WordOk.l0 (k + 1) y0 y1))
 | 0 => fun _ _ r h => by simp [spec_WordOk.l0] at h
 | k + 1 => by
  have ih0 := spec_WordOk.mono_l k
  ·intro y0 y1
   unfold spec_WordOk.l0
   repeat' first
   | (with_reducible exact ih0 _ _)
   | (with_reducible exact spec_l2Sign.mono _ _)
   | (with_reducible exact LeO.refl _)
   | (with_reducible exact LeO.none _)
   | (with_reducible refine LeO.ite ?_ ?_)
   | (with_reducible refine LeO.bind ?_ (fun _ => ?_))
   | exact ih0 _ _
   | exact spec_l2Sign.mono _ _
   | exact LeO.none _
   | refine LeO.ite ?_ ?_
   | refine LeO.bind ?_ (fun _ => ?_)
theorem spec_WordOk.mono : ∀ a0 k, LeO (spec_WordOk.f k a0) (spec_WordOk.f (k + 1) a0) := by
 intro a0 k
 have ih0 := spec_WordOk.mono_l k
 unfold spec_WordOk.f
 repeat' first
   | (with_reducible exact ih0 _ _)
   | (with_reducible exact spec_l2Sign.mono _ _)
   | (with_reducible exact LeO.refl _)
   | (with_reducible exact LeO.none _)
   | (with_reducible refine LeO.ite ?_ ?_)
   | (with_reducible refine LeO.bind ?_ (fun _ => ?_))
   | exact ih0 _ _
   | exact spec_l2Sign.mono _ _
   | exact LeO.none _
   | refine LeO.ite ?_ ?_
   | refine LeO.bind ?_ (fun _ => ?_)
set_option maxHeartbeats 8000000 in
set_option maxRecDepth 100000 in
theorem spec_WordOk.calls (k : Nat) (a0 : ByteArray) (r : Bool) (w : World) (h : spec_WordOk.f k a0 = some r) :
  Calls Try.prog 61 #[.string a0] w fun e w' => e = .returned (.bool r) ∧ Drawn0 w w' := by
 have H : (spec_WordOk.l0 k a0 0) = some r := h
 clear h
 have H' := Aside0.mk H
 clear H
 go_enter Try.func61, Try.ntmps61
 go_wp2
 go_loopg [3] k (fun kq v3 w' => ∃ (x3_1 : Int), v3 = .int .i64 x3_1 ∧ Aside0 (spec_WordOk.l0 kq a0 x3_1 = some r) ∧ Aside0 (kq ≤ k) ∧ Drawn0 w w')
 case atStart => exact ⟨(0), zs, H', ⟨Nat.le_refl _⟩, by repeat (first | exact Drawn0.refl _ | apply Drawn0.step)⟩
 case round =>
  clear H'
  obtain ⟨x3_1, rfl, HA, HK1, ⟨m1, rfl⟩⟩ := hrel
  cases gk with
  | zero => exact absurd HA.out (by simp [spec_WordOk.l0])
  | succ k1 =>
   have H := HA.out
   clear HA
   simp only [spec_WordOk.l0] at H
   by_cases c2 : x3_1 < (a0.size : Int)
   ·rw [if_pos c2] at H
    have c2b0 : decide (x3_1 < (a0.size : Int)) = true := decide_eq_true c2
    clear c2
    by_cases c3 : 0 ≤ x3_1
    ·rw [if_pos c3] at H
     have c3b0 : decide (0 ≤ x3_1) = true := decide_eq_true c3
     clear c3
     replace H := Option.bind_eq_some_iff.mp H
     obtain ⟨t144, A50, H⟩ := H
     replace H : (if t144 < 0 then (some false) else (spec_WordOk.l0 k1 a0 (wrap64 (x3_1 + 1)))) = some r := H
     have A5 := Aside0.mk A50
     clear A50
     by_cases c6 : t144 < 0
     ·rw [if_pos c6] at H
      have c6b0 : decide (t144 < 0) = true := decide_eq_true c6
      clear c6
      obtain rfl := Option.some.inj H
      have p4 : 0 ≤ (x3_1 : Int) := of_decide_eq_true za
      have q4 : x3_1 < (a0.size : Int) := of_decide_eq_true za
      have hx4 := bt_at a0 x3_1
      replace p4 := eq_true p4
      replace q4 := eq_true q4
      go_wp2_with (first | ((with_reducible refine gq 76 rfl ?_); refine gl (some 13) Try.func76 #[.int .u8 (bt a0 x3_1)] ?_; (with_reducible refine (spec_l2Sign.calls k1 (bt a0 x3_1) t144 _ A5.out).mono ?_); rintro e w' ⟨rfl, ⟨nd, rfl⟩⟩; refine ⟨_, rfl, ?_⟩))
      go_ret
      exact ⟨zs, by repeat (first | exact Drawn0.refl _ | apply Drawn0.step)⟩
     ·rw [if_neg c6] at H
      have c6b0 : decide (t144 < 0) = false := decide_eq_false c6
      clear c6
      have H' := Aside0.mk H
      clear H
      have p4 : 0 ≤ (x3_1 : Int) := of_decide_eq_true za
      have q4 : x3_1 < (a0.size : Int) := of_decide_eq_true za
      have hx4 := bt_at a0 x3_1
      replace p4 := eq_true p4
      replace q4 := eq_true q4
      go_wp2_with (first | ((with_reducible refine gq 76 rfl ?_); refine gl (some 13) Try.func76 #[.int .u8 (bt a0 x3_1)] ?_; (with_reducible refine (spec_l2Sign.calls k1 (bt a0 x3_1) t144 _ A5.out).mono ?_); rintro e w' ⟨rfl, ⟨nd, rfl⟩⟩; refine ⟨_, rfl, ?_⟩))
      go_roundg k1
      case measure => have := HK1.out; omega
      case rel => exact ⟨(wrap64 (x3_1 + 1)), zs, H', ⟨by have := HK1.out; omega⟩, by repeat (first | exact Drawn0.refl _ | apply Drawn0.step)⟩
    ·rw [if_neg c3] at H
     exact absurd H (by simp)
   ·rw [if_neg c2] at H
    have c2b0 : decide (x3_1 < (a0.size : Int)) = false := decide_eq_false c2
    clear c2
    obtain rfl := Option.some.inj H
    go_wp2
    go_ret
    exact ⟨zs, by repeat (first | exact Drawn0.refl _ | apply Drawn0.step)⟩

/-! ### spec_FieldOk: function 32 -/
-- thin
def spec_FieldOk.f (k : Nat) (a0_0 : ByteArray) (a0_1 : ByteArray) (a0_2 : Bool) : Option (Bool) := (spec_WordOk.f k a0_0).bind fun t146 => (if t146 = true then (if a0_0.toList = ([] : List UInt8) then (some false) else ((spec_WordOk.f k a0_1).bind fun t147 => (some t147))) else (some false))
theorem spec_FieldOk.mono : ∀ a0 a1 a2 k, LeO (spec_FieldOk.f k a0 a1 a2) (spec_FieldOk.f (k + 1) a0 a1 a2) := by
 intro a0 a1 a2 k
 unfold spec_FieldOk.f
 repeat' first
   | (with_reducible exact spec_WordOk.mono _ _)
   | (with_reducible exact LeO.refl _)
   | (with_reducible exact LeO.none _)
   | (with_reducible refine LeO.ite ?_ ?_)
   | (with_reducible refine LeO.bind ?_ (fun _ => ?_))
   | exact spec_WordOk.mono _ _
   | exact LeO.none _
   | refine LeO.ite ?_ ?_
   | refine LeO.bind ?_ (fun _ => ?_)
set_option maxHeartbeats 8000000 in
set_option maxRecDepth 100000 in
theorem spec_FieldOk.calls (k : Nat) (a0_0 : ByteArray) (a0_1 : ByteArray) (a0_2 : Bool) (r : Bool) (w : World) (h : spec_FieldOk.f k a0_0 a0_1 a0_2 = some r) :
  Calls Try.prog 32 #[.agg #[.string a0_0, .string a0_1, .bool a0_2]] w fun e w' => e = .returned (.bool r) ∧ Below w.heap.size w w' := by
 have hu36 := Try.underlying36
 have HB := Aside0.mk (Below.refl w.heap.size w)
 have H : ((spec_WordOk.f k a0_0).bind fun t146 => (if t146 = true then (if a0_0.toList = ([] : List UInt8) then (some false) else ((spec_WordOk.f k a0_1).bind fun t147 => (some t147))) else (some false))) = some r := h
 clear h
 replace H := Option.bind_eq_some_iff.mp H
 obtain ⟨t146, A20, H⟩ := H
 replace H : (if t146 = true then (if a0_0.toList = ([] : List UInt8) then (some false) else ((spec_WordOk.f k a0_1).bind fun t147 => (some t147))) else (some false)) = some r := H
 have A2 := Aside0.mk A20
 clear A20
 by_cases c3 : t146 = true
 ·subst c3
  have H1 : (if a0_0.toList = ([] : List UInt8) then (some false) else ((spec_WordOk.f k a0_1).bind fun t147 => (some t147))) = some r := by rw [if_pos rfl] at H; exact H
  clear H
  have H := H1
  clear H1
  by_cases c4 : a0_0.toList = ([] : List UInt8)
  ·rw [if_pos c4] at H
   have c4b0 : (a0_0.toList == ([] : List UInt8)) = true := beq_iff_eq.mpr c4
   have c4b1 : (a0_0.toList != ([] : List UInt8)) = false := bne_eq_false_iff_eq.mpr c4
   clear c4
   obtain rfl := Option.some.inj H
   go_enter Try.func32, Try.ntmps32
   go_wp2_with (first | ((with_reducible refine gd 1 rfl ?_); refine bx (N := 1) (cs := #[.string a0_0, .string a0_1, .bool a0_2]) (t := 36) ?_; intro gb145 hg w5 hbox hb; have BK145 := Aside0.mk (hbox); have GW145 := Aside0.mk ((by rw [hg]; exact (below_size (zb HB)) : w.heap.size ≤ gb145)); have GE145 := Aside0.mk ((by rw [hg]; exact (below_size (zb HB)) : w.heap.size ≤ gb145)); replace HB := Aside0.mk (below_step (zb HB) hb); clear hb hbox hg; have hcz6_0 : w5.cell? ⟨gb145, 0, none⟩ = some (.string a0_0) := (blk_cell BK145.out 0).trans rfl; have hcz6_1 : w5.cell? ⟨gb145, 1, none⟩ = some (.string a0_1) := (blk_cell BK145.out 1).trans rfl; have hcz6_2 : w5.cell? ⟨gb145, 2, none⟩ = some (.bool a0_2) := (blk_cell BK145.out 2).trans rfl; have hfz6_0 := blk_frozen BK145.out 0; have hfz6_1 := blk_frozen BK145.out 1; have hfz6_2 := blk_frozen BK145.out 2) | ((with_reducible refine gq 61 rfl ?_); refine gl (some 5) Try.func61 #[.string a0_0] ?_; (with_reducible refine (spec_WordOk.calls k a0_0 true _ A2.out).mono ?_); rintro e w' ⟨rfl, ⟨nd, rfl⟩⟩; refine ⟨_, rfl, ?_⟩))
   go_ret
   exact ⟨ze, zb HB⟩
  ·rw [if_neg c4] at H
   have c4b0 : (a0_0.toList == ([] : List UInt8)) = false := beq_eq_false_iff_ne.mpr c4
   have c4b1 : (a0_0.toList != ([] : List UInt8)) = true := bne_iff_ne.mpr c4
   replace H := Option.bind_eq_some_iff.mp H
   obtain ⟨t147, A70, H⟩ := H
   replace H : (some t147) = some r := H
   have A7 := Aside0.mk A70
   clear A70
   obtain rfl := Option.some.inj H
   go_enter Try.func32, Try.ntmps32
   go_wp2_with (first | ((with_reducible refine gd 1 rfl ?_); refine bx (N := 1) (cs := #[.string a0_0, .string a0_1, .bool a0_2]) (t := 36) ?_; intro gb145 hg w8 hbox hb; have BK145 := Aside0.mk (hbox); have GW145 := Aside0.mk ((by rw [hg]; exact (below_size (zb HB)) : w.heap.size ≤ gb145)); have GE145 := Aside0.mk ((by rw [hg]; exact (below_size (zb HB)) : w.heap.size ≤ gb145)); replace HB := Aside0.mk (below_step (zb HB) hb); clear hb hbox hg; have hcz9_0 : w8.cell? ⟨gb145, 0, none⟩ = some (.string a0_0) := (blk_cell BK145.out 0).trans rfl; have hcz9_1 : w8.cell? ⟨gb145, 1, none⟩ = some (.string a0_1) := (blk_cell BK145.out 1).trans rfl; have hcz9_2 : w8.cell? ⟨gb145, 2, none⟩ = some (.bool a0_2) := (blk_cell BK145.out 2).trans rfl; have hfz9_0 := blk_frozen BK145.out 0; have hfz9_1 := blk_frozen BK145.out 1; have hfz9_2 := blk_frozen BK145.out 2) | ((with_reducible refine gq 61 rfl ?_); refine gl (some 5) Try.func61 #[.string a0_0] ?_; (with_reducible refine (spec_WordOk.calls k a0_0 true _ A2.out).mono ?_); rintro e w' ⟨rfl, ⟨nd, rfl⟩⟩; refine ⟨_, rfl, ?_⟩) | (go_at_call 61; (with_reducible refine (spec_WordOk.calls k a0_1 t147 _ A7.out).mono ?_); rintro e w' ⟨rfl, ⟨nd, rfl⟩⟩))
   go_ret
   exact ⟨ze, zb HB⟩
 ·replace c3 := Bool.eq_false_iff.mpr c3
  subst c3
  have H1 : (some false) = some r := by rw [if_neg (show ¬ (false = true) by decide)] at H; exact H
  clear H
  have H := H1
  clear H1
  obtain rfl := Option.some.inj H
  go_enter Try.func32, Try.ntmps32
  go_wp2_with (first | ((with_reducible refine gd 1 rfl ?_); refine bx (N := 1) (cs := #[.string a0_0, .string a0_1, .bool a0_2]) (t := 36) ?_; intro gb145 hg w10 hbox hb; have BK145 := Aside0.mk (hbox); have GW145 := Aside0.mk ((by rw [hg]; exact (below_size (zb HB)) : w.heap.size ≤ gb145)); have GE145 := Aside0.mk ((by rw [hg]; exact (below_size (zb HB)) : w.heap.size ≤ gb145)); replace HB := Aside0.mk (below_step (zb HB) hb); clear hb hbox hg; have hcz11_0 : w10.cell? ⟨gb145, 0, none⟩ = some (.string a0_0) := (blk_cell BK145.out 0).trans rfl; have hcz11_1 : w10.cell? ⟨gb145, 1, none⟩ = some (.string a0_1) := (blk_cell BK145.out 1).trans rfl; have hcz11_2 : w10.cell? ⟨gb145, 2, none⟩ = some (.bool a0_2) := (blk_cell BK145.out 2).trans rfl; have hfz11_0 := blk_frozen BK145.out 0; have hfz11_1 := blk_frozen BK145.out 1; have hfz11_2 := blk_frozen BK145.out 2) | ((with_reducible refine gq 61 rfl ?_); refine gl (some 5) Try.func61 #[.string a0_0] ?_; (with_reducible refine (spec_WordOk.calls k a0_0 false _ A2.out).mono ?_); rintro e w' ⟨rfl, ⟨nd, rfl⟩⟩; refine ⟨_, rfl, ?_⟩))
  go_ret
  exact ⟨ze, zb HB⟩

/-! ### spec_l6In: function 50 -/
-- thin
def spec_l6In.f (a0 : Int) (a1 : Int) (a2 : Int) : Option (Bool) := if a0 ≥ a1 then (some (decide (a0 ≤ a2))) else (some false)
set_option maxHeartbeats 8000000 in
set_option maxRecDepth 100000 in
theorem spec_l6In.calls (a0 : Int) (a1 : Int) (a2 : Int) (r : Bool) (w : World) (h : spec_l6In.f a0 a1 a2 = some r) :
  Calls Try.prog 50 #[.int .i64 a0, .int .i64 a1, .int .i64 a2] w fun e w' => e = .returned (.bool r) ∧ Drawn0 w w' := by
 have H : (if a0 ≥ a1 then (some (decide (a0 ≤ a2))) else (some false)) = some r := h
 clear h
 by_cases c4 : a0 ≥ a1
 ·rw [if_pos c4] at H
  have c4b0 : decide (a1 ≤ a0) = true := decide_eq_true c4
  clear c4
  obtain rfl := Option.some.inj H
  go_enter Try.func50, Try.ntmps50
  go_wp2
  go_ret
  exact ⟨zs, by repeat (first | exact Drawn0.refl _ | apply Drawn0.step)⟩
 ·rw [if_neg c4] at H
  have c4b0 : decide (a1 ≤ a0) = false := decide_eq_false c4
  clear c4
  obtain rfl := Option.some.inj H
  go_enter Try.func50, Try.ntmps50
  go_wp2
  go_ret
  exact ⟨zs, by repeat (first | exact Drawn0.refl _ | apply Drawn0.step)⟩

/-! ### spec_l3One: function 70 -/
-- thin
def spec_l3One.f (a0_0 : ByteArray) (a0_1 : ByteArray) (a0_2 : Bool) : Option (Int) := some (wrap64 ((wrap64 ((a0_0.size : Int) + (a0_1.size : Int))) + 4))
set_option maxHeartbeats 8000000 in
set_option maxRecDepth 100000 in
theorem spec_l3One.calls (a0_0 : ByteArray) (a0_1 : ByteArray) (a0_2 : Bool) (r : Int) (w : World) (h : spec_l3One.f a0_0 a0_1 a0_2 = some r) :
  Calls Try.prog 70 #[.agg #[.string a0_0, .string a0_1, .bool a0_2]] w fun e w' => e = .returned (.int .i64 r) ∧ Below w.heap.size w w' := by
 have hu36 := Try.underlying36
 have HB := Aside0.mk (Below.refl w.heap.size w)
 have H : (some (wrap64 ((wrap64 ((a0_0.size : Int) + (a0_1.size : Int))) + 4))) = some r := h
 clear h
 obtain rfl := Option.some.inj H
 go_enter Try.func70, Try.ntmps70
 go_wp2_with (first | ((with_reducible refine gd 1 rfl ?_); refine bx (N := 1) (cs := #[.string a0_0, .string a0_1, .bool a0_2]) (t := 36) ?_; intro gb148 hg w2 hbox hb; have BK148 := Aside0.mk (hbox); have GW148 := Aside0.mk ((by rw [hg]; exact (below_size (zb HB)) : w.heap.size ≤ gb148)); have GE148 := Aside0.mk ((by rw [hg]; exact (below_size (zb HB)) : w.heap.size ≤ gb148)); replace HB := Aside0.mk (below_step (zb HB) hb); clear hb hbox hg; have hcz3_0 : w2.cell? ⟨gb148, 0, none⟩ = some (.string a0_0) := (blk_cell BK148.out 0).trans rfl; have hcz3_1 : w2.cell? ⟨gb148, 1, none⟩ = some (.string a0_1) := (blk_cell BK148.out 1).trans rfl; have hcz3_2 : w2.cell? ⟨gb148, 2, none⟩ = some (.bool a0_2) := (blk_cell BK148.out 2).trans rfl; have hfz3_0 := blk_frozen BK148.out 0; have hfz3_1 := blk_frozen BK148.out 1; have hfz3_2 := blk_frozen BK148.out 2))
 go_ret
 exact ⟨ze, zb HB⟩

/-! ### spec_l3Size: function 52 -/
-- thin
def spec_l3Size.l0 : Nat → List (S36) → Int → Int → Option (Int)
 | 0, _, _, _ => none
 | k + 1, x0, x3, x4 => if x4 < (x0.length : Int) then (if 0 ≤ x4 then ((spec_l3One.f ((rd_T36 x0 x4).f0) ((rd_T36 x0 x4).f1) ((rd_T36 x0 x4).f2)).bind fun t150 => (spec_l3Size.l0 k x0 (wrap64 (x3 + t150)) (wrap64 (x4 + 1)))) else (none)) else (some x3)
def spec_l3Size.f (k : Nat) (l0 : List (S36)) : Option (Int) := spec_l3Size.l0 k l0 0 0
theorem spec_l3Size.mono_l : ∀ k, (∀ y0 y1 y2, LeO (spec_l3Size.l0 k y0 y1 y2) (spec_l3Size.l0 (k + 1) y0 y1 y2))
 | 0 => fun _ _ _ r h => by simp [spec_l3Size.l0] at h
 | k + 1 => by
  have ih0 := spec_l3Size.mono_l k
  ·intro y0 y1 y2
   unfold spec_l3Size.l0
   repeat' first
   | (with_reducible exact ih0 _ _ _)
   | (with_reducible exact LeO.refl _)
   | (with_reducible exact LeO.none _)
   | (with_reducible refine LeO.ite ?_ ?_)
   | (with_reducible refine LeO.bind ?_ (fun _ => ?_))
   | exact ih0 _ _ _
   | exact LeO.none _
   | refine LeO.ite ?_ ?_
   | refine LeO.bind ?_ (fun _ => ?_)
theorem spec_l3Size.mono : ∀ a0 k, LeO (spec_l3Size.f k a0) (spec_l3Size.f (k + 1) a0) := by
 intro a0 k
 have ih0 := spec_l3Size.mono_l k
 unfold spec_l3Size.f
 repeat' first
   | (with_reducible exact ih0 _ _ _)
   | (with_reducible exact LeO.refl _)
   | (with_reducible exact LeO.none _)
   | (with_reducible refine LeO.ite ?_ ?_)
   | (with_reducible refine LeO.bind ?_ (fun _ => ?_))
   | exact ih0 _ _ _
   | exact LeO.none _
   | refine LeO.ite ?_ ?_
   | refine LeO.bind ?_ (fun _ => ?_)
set_option maxHeartbeats 8000000 in
set_option maxRecDepth 100000 in
theorem spec_l3Size.calls (k : Nat) (A0 : Option Addr) (c0 : Nat) (l0 : List (S36)) (r : Int) (w : World) (hr0 : Kd.C k36 w A0 l0.length l0) (hc0 : l0.length ≤ c0) (h : spec_l3Size.f k l0 = some r) :
  Calls Try.prog 52 #[.slice A0 l0.length c0] w fun e w' => e = .returned (.int .i64 r) ∧ Below w.heap.size w w' := by
 have hu36 := Try.underlying36
 have HR0 := Aside0.mk hr0
 have HC0 := Aside0.mk hc0
 clear hr0 hc0
 have HB := Aside0.mk (Below.refl w.heap.size w)
 have H : (spec_l3Size.l0 k l0 0 0) = some r := h
 clear h
 have H' := Aside0.mk H
 clear H
 go_enter Try.func52, Try.ntmps52
 go_wp2
 go_loopg [3, 4] k (fun kq v3 v4 w' => ∃ (x3_1 : Int) (x4_1 : Int), v3 = .int .i64 x3_1 ∧ v4 = .int .i64 x4_1 ∧ Aside0 (spec_l3Size.l0 kq l0 x3_1 x4_1 = some r) ∧ Aside0 (kq ≤ k) ∧ Aside0 (Below w.heap.size w w'))
 case atStart => exact ⟨(0), (0), zs, zs, H', ⟨Nat.le_refl _⟩, ⟨zb HB⟩⟩
 case round =>
  clear H'
  obtain ⟨x3_1, x4_1, rfl, rfl, HA, HK1, HB⟩ := hrel
  cases gk with
  | zero => exact absurd HA.out (by simp [spec_l3Size.l0])
  | succ k1 =>
   have H := HA.out
   clear HA
   simp only [spec_l3Size.l0] at H
   by_cases c2 : x4_1 < (l0.length : Int)
   ·rw [if_pos c2] at H
    have c2b0 : decide (x4_1 < (l0.length : Int)) = true := decide_eq_true c2
    clear c2
    by_cases c3 : 0 ≤ x4_1
    ·rw [if_pos c3] at H
     have c3b0 : decide (0 ≤ x4_1) = true := decide_eq_true c3
     clear c3
     replace H := Option.bind_eq_some_iff.mp H
     obtain ⟨t150, A40, H⟩ := H
     replace H : (spec_l3Size.l0 k1 l0 (wrap64 (x3_1 + t150)) (wrap64 (x4_1 + 1))) = some r := H
     have A4 := Aside0.mk A40
     clear A40
     have H' := Aside0.mk H
     clear H
     have p149 : 0 ≤ (x4_1 : Int) := of_decide_eq_true za
     have q149 : x4_1 < (l0.length : Int) := of_decide_eq_true za
     obtain ⟨ad149, e149, hx149_0, hx149_1, hx149_2⟩ := at_T36 HR0.out x4_1 p149 q149
     cases e149
     replace hx149_0 := (HB.out.cell (World.block_lt_of_cell? w _ hx149_0)).trans hx149_0
     replace hx149_1 := (HB.out.cell (World.block_lt_of_cell? w _ hx149_1)).trans hx149_1
     replace hx149_2 := (HB.out.cell (World.block_lt_of_cell? w _ hx149_2)).trans hx149_2
     replace p149 := eq_true p149
     replace q149 := eq_true q149
     go_wp2_with (first | ((with_reducible refine gq 70 rfl ?_); refine gl (some 16) Try.func70 #[.agg #[.string ((rd_T36 l0 x4_1).f0), .string ((rd_T36 l0 x4_1).f1), .bool ((rd_T36 l0 x4_1).f2)]] ?_; (with_reducible refine (spec_l3One.calls ((rd_T36 l0 x4_1).f0) ((rd_T36 l0 x4_1).f1) ((rd_T36 l0 x4_1).f2) t150 _ A4.out).mono ?_); rintro e w5 ⟨rfl, hb⟩; refine ⟨_, rfl, ?_⟩; replace HB := Aside0.mk (below_step (zb HB) hb); (try clear hb)))
     go_roundg k1
     case measure => have := HK1.out; omega
     case rel => exact ⟨(wrap64 (x3_1 + t150)), (wrap64 (x4_1 + 1)), zs, zs, H', ⟨by have := HK1.out; omega⟩, ⟨zb HB⟩⟩
    ·rw [if_neg c3] at H
     exact absurd H (by simp)
   ·rw [if_neg c2] at H
    have c2b0 : decide (x4_1 < (l0.length : Int)) = false := decide_eq_false c2
    clear c2
    obtain rfl := Option.some.inj H
    go_wp2
    go_ret
    exact ⟨ze, zb HB⟩

end Go.Proofs.Ytdhahifdcoinhaa.PFnExactTableLimit
