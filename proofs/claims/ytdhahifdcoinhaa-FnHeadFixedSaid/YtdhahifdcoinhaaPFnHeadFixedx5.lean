-- WRITTEN BY a turned print (wip/tools of the prover's repo)
import Derived.Test.YtdhahifdcoinhaaPFnHeadFixedx0
import Derived.Test.YtdhahifdcoinhaaPFnHeadFixedx3
import Derived.Test.YtdhahifdcoinhaaPFnHeadFixedx4
namespace Go.Proofs.Ytdhahifdcoinhaa.PFnHeadFixed
open Go.RowKit Go.Proofs.YtdhahifdcoinhaaW.PrintWords Go.Proofs.YtdhahifdcoinhaaW.PrintLast Go.Proofs.YtdhahifdcoinhaaW.PrintMore Go.Proofs.Ytdhahifdcoinhaa.Lm
attribute [local go_sem] max2_int min2_int max_two min_two max_three min_three max_four min_four   -- for this text's walks alone
set_option linter.unusedVariables false
set_option linter.unusedSimpArgs false

/-! ### spec_l3Find: function 89 -/
-- thin
mutual
def spec_l3Find.l0 : Nat → List (S36) → Int → Int → ByteArray → ByteArray → Bool → Option (Int × Bool)
 | 0, _, _, _, _, _, _ => none
 | k + 1, x6, x7, x8, x292000, x292001, x292002 => if x8 ≥ 0 then (if 0 ≤ x8 then (if x8 < (x6.length : Int) then (if ((rd_T36 x6 x8).f0).toList = x292000.toList then (spec_l3Find.l0 k x6 (wrap64 (x8 + 1)) (wrap64 (x8 - 1)) x292000 x292001 x292002) else (spec_l3Find.l0 k x6 x7 (wrap64 (x8 - 1)) x292000 x292001 x292002)) else (none)) else (none)) else (spec_l3Find.l1 k x6 x7 0 x292000 x292001 x292002)
def spec_l3Find.l1 : Nat → List (S36) → Int → Int → ByteArray → ByteArray → Bool → Option (Int × Bool)
 | 0, _, _, _, _, _, _ => none
 | k + 1, x6, x7, x9, x292000, x292001, x292002 => if x9 < (x6.length : Int) then (if 0 ≤ x9 then (if ((rd_T36 x6 x9).f0).toList = x292000.toList then (if ((rd_T36 x6 x9).f1).toList = x292001.toList then (some (wrap64 (x9 + 1), true)) else (spec_l3Find.l1 k x6 x7 (wrap64 (x9 + 1)) x292000 x292001 x292002)) else (spec_l3Find.l1 k x6 x7 (wrap64 (x9 + 1)) x292000 x292001 x292002)) else (none)) else (some (x7, false))
end
def spec_l3Find.f (k : Nat) (l0_0 : List (S36)) (a0_1 : Int) (a1_0 : ByteArray) (a1_1 : ByteArray) (a1_2 : Bool) : Option (Int × Bool) := (spec_l3All.f l0_0 a0_1).bind fun t292 => (spec_l3Find.l0 k t292 0 (wrap64 ((t292.length : Int) - 1)) a1_0 a1_1 a1_2)
theorem spec_l3Find.mono_l : ∀ k, (∀ y0 y1 y2 y3 y4 y5, LeO (spec_l3Find.l0 k y0 y1 y2 y3 y4 y5) (spec_l3Find.l0 (k + 1) y0 y1 y2 y3 y4 y5)) ∧ (∀ y0 y1 y2 y3 y4 y5, LeO (spec_l3Find.l1 k y0 y1 y2 y3 y4 y5) (spec_l3Find.l1 (k + 1) y0 y1 y2 y3 y4 y5))
 | 0 => ⟨fun _ _ _ _ _ _ r h => by simp [spec_l3Find.l0] at h, fun _ _ _ _ _ _ r h => by simp [spec_l3Find.l1] at h⟩
 | k + 1 => by
  obtain ⟨ih0, ih1⟩ := spec_l3Find.mono_l k
  refine ⟨?_, ?_⟩
  ·intro y0 y1 y2 y3 y4 y5
   unfold spec_l3Find.l0
   exact zm
  ·intro y0 y1 y2 y3 y4 y5
   unfold spec_l3Find.l1
   exact zm
theorem spec_l3Find.mono : ∀ a0 a1 a2 a3 a4 k, LeO (spec_l3Find.f k a0 a1 a2 a3 a4) (spec_l3Find.f (k + 1) a0 a1 a2 a3 a4) := by
 intro a0 a1 a2 a3 a4 k
 obtain ⟨ih0, ih1⟩ := spec_l3Find.mono_l k
 unfold spec_l3Find.f
 exact zm
set_option maxHeartbeats 8000000 in
set_option maxRecDepth 100000 in
theorem spec_l3Find.calls (k : Nat) (A0_0 : Option Addr) (c0_0 : Nat) (l0_0 : List (S36)) (a0_1 : Int) (a1_0 : ByteArray) (a1_1 : ByteArray) (a1_2 : Bool) (r1 : Int) (r2 : Bool) (w : World) (hr0_0 : Kd.C k36 w A0_0 l0_0.length l0_0) (hc0_0 : l0_0.length ≤ c0_0) (h : spec_l3Find.f k l0_0 a0_1 a1_0 a1_1 a1_2 = some (r1, r2)) :
  Calls Try.prog 89 #[.agg #[.slice A0_0 l0_0.length c0_0, .int .i64 a0_1], .agg #[.string a1_0, .string a1_1, .bool a1_2]] w fun e w' => e = .returned (.tuple #[.int .i64 r1, .bool r2]) ∧ Below w.heap.size w w' := by
 have hu25 := Try.underlying25
 have hu36 := Try.underlying36
 have HR0_0 := Aside0.mk hr0_0
 have HC0_0 := Aside0.mk hc0_0
 clear hr0_0 hc0_0
 have HB := Aside0.mk (Below.refl w.heap.size w)
 have H : ((spec_l3All.f l0_0 a0_1).bind fun t292 => (spec_l3Find.l0 k t292 0 (wrap64 ((t292.length : Int) - 1)) a1_0 a1_1 a1_2)) = some (r1, r2) := h
 clear h
 obtain ⟨t292, A3, H⟩ := ob H
 (try dsimp only at H)
 have H' := Aside0.mk H
 clear H
 go_enter Try.func89, Try.ntmps89
 go_wp2_with (first | ((with_reducible refine gd 2 rfl ?_); refine bx (N := 2) (cs := #[.slice A0_0 l0_0.length c0_0, .int .i64 a0_1]) (t := 25) ?_; intro gb290 hg w4 hbox hb; have BK290 := Aside0.mk (hbox); have GW290 := gw HB hg; have GE290 := GW290; replace HB := Aside0.mk (below_step (zb HB) hb); clear hb hbox hg) | ((with_reducible refine gd 3 rfl ?_); refine bx (N := 3) (cs := #[.string a1_0, .string a1_1, .bool a1_2]) (t := 36) ?_; intro gb291 hg w5 hbox hb; have BK291 := Aside0.mk (hbox); have GW291 := gw HB hg; have GE291 := GW291; replace HB := Aside0.mk (below_step (zb HB) hb); obtain ⟨NB290_291, NB291_290⟩ := nb BK290 hg; replace BK290 := kb BK290 hb; clear hb hbox hg; have hnb6 := NB290_291.out; have hnc6 := NB291_290.out; obtain ⟨hcz7_0, hcz7_1, hfz7_0, hfz7_1⟩ := c2 BK290) | (go_at_call 95; (with_reducible refine (spec_l3All.calls _ _ l0_0 a0_1 t292 _ ?side1 ?side2 A3.out).mono ?_); (case side1 => exact zc (Kd.C_below HR0_0.out HB.out)); (case side2 => exact HC0_0.out); rintro e w8 ⟨v293, rfl, ho0, hb⟩; have HO294 := Aside0.mk (Kd.R_lower (Kd.R_newB ho0 (zk BK291)) (below_size (zb HB))); replace BK290 := kb BK290 hb; replace BK291 := kb BK291 hb; replace HB := Aside0.mk (below_step (zb HB) hb); (try clear hb); (try clear ho0); obtain ⟨Ao9, co9, eo9⟩ := Kd.R_slice HO294.out; subst eo9))
 repeat (go_quiet (first | ((with_reducible refine gd 2 rfl ?_); refine bx (N := 2) (cs := #[.slice A0_0 l0_0.length c0_0, .int .i64 a0_1]) (t := 25) ?_; intro gb290 hg w4 hbox hb; have BK290 := Aside0.mk (hbox); have GW290 := gw HB hg; have GE290 := GW290; replace HB := Aside0.mk (below_step (zb HB) hb); clear hb hbox hg) | ((with_reducible refine gd 3 rfl ?_); refine bx (N := 3) (cs := #[.string a1_0, .string a1_1, .bool a1_2]) (t := 36) ?_; intro gb291 hg w5 hbox hb; have BK291 := Aside0.mk (hbox); have GW291 := gw HB hg; have GE291 := GW291; replace HB := Aside0.mk (below_step (zb HB) hb); obtain ⟨NB290_291, NB291_290⟩ := nb BK290 hg; replace BK290 := kb BK290 hb; clear hb hbox hg; have hnb6 := NB290_291.out; have hnc6 := NB291_290.out; obtain ⟨hcz7_0, hcz7_1, hfz7_0, hfz7_1⟩ := c2 BK290) | (go_at_call 95; (with_reducible refine (spec_l3All.calls _ _ l0_0 a0_1 t292 _ ?side1 ?side2 A3.out).mono ?_); (case side1 => exact zc (Kd.C_below HR0_0.out HB.out)); (case side2 => exact HC0_0.out); rintro e w8 ⟨v293, rfl, ho0, hb⟩; have HO294 := Aside0.mk (Kd.R_lower (Kd.R_newB ho0 (zk BK291)) (below_size (zb HB))); replace BK290 := kb BK290 hb; replace BK291 := kb BK291 hb; replace HB := Aside0.mk (below_step (zb HB) hb); (try clear hb); (try clear ho0); obtain ⟨Ao9, co9, eo9⟩ := Kd.R_slice HO294.out; subst eo9)); try go_wp2_with (first | ((with_reducible refine gd 2 rfl ?_); refine bx (N := 2) (cs := #[.slice A0_0 l0_0.length c0_0, .int .i64 a0_1]) (t := 25) ?_; intro gb290 hg w4 hbox hb; have BK290 := Aside0.mk (hbox); have GW290 := gw HB hg; have GE290 := GW290; replace HB := Aside0.mk (below_step (zb HB) hb); clear hb hbox hg) | ((with_reducible refine gd 3 rfl ?_); refine bx (N := 3) (cs := #[.string a1_0, .string a1_1, .bool a1_2]) (t := 36) ?_; intro gb291 hg w5 hbox hb; have BK291 := Aside0.mk (hbox); have GW291 := gw HB hg; have GE291 := GW291; replace HB := Aside0.mk (below_step (zb HB) hb); obtain ⟨NB290_291, NB291_290⟩ := nb BK290 hg; replace BK290 := kb BK290 hb; clear hb hbox hg; have hnb6 := NB290_291.out; have hnc6 := NB291_290.out; obtain ⟨hcz7_0, hcz7_1, hfz7_0, hfz7_1⟩ := c2 BK290) | (go_at_call 95; (with_reducible refine (spec_l3All.calls _ _ l0_0 a0_1 t292 _ ?side1 ?side2 A3.out).mono ?_); (case side1 => exact zc (Kd.C_below HR0_0.out HB.out)); (case side2 => exact HC0_0.out); rintro e w8 ⟨v293, rfl, ho0, hb⟩; have HO294 := Aside0.mk (Kd.R_lower (Kd.R_newB ho0 (zk BK291)) (below_size (zb HB))); replace BK290 := kb BK290 hb; replace BK291 := kb BK291 hb; replace HB := Aside0.mk (below_step (zb HB) hb); (try clear hb); (try clear ho0); obtain ⟨Ao9, co9, eo9⟩ := Kd.R_slice HO294.out; subst eo9)))
 go_loopg [7, 8] k (fun kq v7 v8 w' => ∃ (x7_1 : Int) (x8_1 : Int), v7 = .int .i64 x7_1 ∧ v8 = .int .i64 x8_1 ∧ Aside0 (spec_l3Find.l0 kq t292 x7_1 x8_1 a1_0 a1_1 a1_2 = some (r1, r2)) ∧ Aside0 (kq ≤ k) ∧ Aside0 (Kd.R k36 36 w' w.heap.size (fun k_ => k_ ≠ gb291) (.slice Ao9 t292.length co9) t292) ∧ Aside0 (w'.heap[gb290]? = some (.cells #[(.slice A0_0 l0_0.length c0_0), .int .i64 a0_1] 25 (0, 0))) ∧ Aside0 (w'.heap[gb291]? = some (.cells #[.string a1_0, .string a1_1, .bool a1_2] 36 (0, 0))) ∧ Aside0 (Below w.heap.size w w'))
 case atStart => exact ⟨(0), (wrap64 ((t292.length : Int) - 1)), zs, zs, H', ⟨Nat.le_refl _⟩, ⟨zq (Kd.R_mono HO294.out (fun _ hk => hk.2))⟩, ⟨by exact zk BK290⟩, ⟨by exact zk BK291⟩, ⟨zb HB⟩⟩
 case round =>
  clear H'
  try clear p2
  try clear c6
  try clear p6
  try clear c8
  try clear hcz7_0
  try clear hcz7_1
  try clear hfz7_0
  try clear hfz7_1
  obtain ⟨x7_1, x8_1, rfl, rfl, HA, HK1, HO_6, BK290, BK291, HB⟩ := hrel
  cases gk with
  | zero => exact absurd HA.out (by simp [spec_l3Find.l0])
  | succ k1 =>
   have H := HA.out
   clear HA
   simp only [spec_l3Find.l0] at H
   replace H := sp H
   rcases H with ⟨c10, H⟩ | ⟨c10, H⟩
   ·skip
    have c10b0 := decide_eq_true c10
    clear c10
    by_cases c11 : 0 ≤ x8_1
    ·rw [if_pos c11] at H
     have c11b0 := decide_eq_true c11
     clear c11
     by_cases c12 : x8_1 < (t292.length : Int)
     ·rw [if_pos c12] at H
      have c12b0 := decide_eq_true c12
      clear c12
      by_cases c13 : ((rd_T36 t292 x8_1).f0).toList = a1_0.toList
      ·rw [if_pos c13] at H
       have c13b0 : (((rd_T36 t292 x8_1).f0).toList == a1_0.toList) = true := beq_iff_eq.mpr c13
       have c13b1 : (((rd_T36 t292 x8_1).f0).toList != a1_0.toList) = false := bne_eq_false_iff_eq.mpr c13
       clear c13
       have H' := Aside0.mk H
       clear H
       have p295 : 0 ≤ (x8_1 : Int) := of_decide_eq_true za
       have q295 : x8_1 < (t292.length : Int) := of_decide_eq_true za
       obtain ⟨ad295, e295, hx295_0, hx295_1, hx295_2⟩ := at_T36 (Kd.R_reads' HO_6.out).2.2 x8_1 p295 q295
       cases e295
       replace p295 := eq_true p295
       replace q295 := eq_true q295
       have hnb14 := NB291_290.out
       have hnc14 := NB290_291.out
       obtain ⟨hcz15_0, hcz15_1, hcz15_2, hfz15_0, hfz15_1, hfz15_2⟩ := c3 BK291
       go_wp2
       repeat (go_quiet (fail); try go_wp2)
       go_roundg k1
       case measure => have := HK1.out; omega
       case rel => exact ⟨(wrap64 (x8_1 + 1)), (wrap64 (x8_1 - 1)), zs, zs, H', ⟨by have := HK1.out; omega⟩, ⟨by exact zr HO_6⟩, ⟨by exact zk BK290⟩, ⟨by exact zk BK291⟩, ⟨zb HB⟩⟩
      ·rw [if_neg c13] at H
       have c13b0 : (((rd_T36 t292 x8_1).f0).toList == a1_0.toList) = false := beq_eq_false_iff_ne.mpr c13
       have c13b1 : (((rd_T36 t292 x8_1).f0).toList != a1_0.toList) = true := bne_iff_ne.mpr c13
       have H' := Aside0.mk H
       clear H
       have p295 : 0 ≤ (x8_1 : Int) := of_decide_eq_true za
       have q295 : x8_1 < (t292.length : Int) := of_decide_eq_true za
       obtain ⟨ad295, e295, hx295_0, hx295_1, hx295_2⟩ := at_T36 (Kd.R_reads' HO_6.out).2.2 x8_1 p295 q295
       cases e295
       replace p295 := eq_true p295
       replace q295 := eq_true q295
       have hnb16 := NB291_290.out
       have hnc16 := NB290_291.out
       obtain ⟨hcz17_0, hcz17_1, hcz17_2, hfz17_0, hfz17_1, hfz17_2⟩ := c3 BK291
       go_wp2
       repeat (go_quiet (fail); try go_wp2)
       go_roundg k1
       case measure => have := HK1.out; omega
       case rel => exact ⟨(x7_1), (wrap64 (x8_1 - 1)), zs, zs, H', ⟨by have := HK1.out; omega⟩, ⟨by exact zr HO_6⟩, ⟨by exact zk BK290⟩, ⟨by exact zk BK291⟩, ⟨zb HB⟩⟩
     ·rw [if_neg c12] at H
      exact absurd H (by simp)
    ·rw [if_neg c11] at H
     exact absurd H (by simp)
   ·skip
    have c10b0 := decide_eq_false c10
    clear c10
    have H' := Aside0.mk H
    clear H
    go_wp2
    repeat (go_quiet (fail); try go_wp2)
    go_loopg [9] k1 (fun kq v9 w' => ∃ (x9_2 : Int), v9 = .int .i64 x9_2 ∧ Aside0 (spec_l3Find.l1 kq t292 x7_1 x9_2 a1_0 a1_1 a1_2 = some (r1, r2)) ∧ Aside0 (kq ≤ k1) ∧ Aside0 (Kd.R k36 36 w' w.heap.size (fun k_ => k_ ≠ gb291) (.slice Ao9 t292.length co9) t292) ∧ Aside0 (w'.heap[gb290]? = some (.cells #[(.slice A0_0 l0_0.length c0_0), .int .i64 a0_1] 25 (0, 0))) ∧ Aside0 (w'.heap[gb291]? = some (.cells #[.string a1_0, .string a1_1, .bool a1_2] 36 (0, 0))) ∧ Aside0 (Below w.heap.size w w'))
    case atStart => exact ⟨(0), zs, H', ⟨Nat.le_refl _⟩, ⟨by exact zr HO_6⟩, ⟨by exact zk BK290⟩, ⟨by exact zk BK291⟩, ⟨zb HB⟩⟩
    case round =>
     clear H'
     try clear c1
     try clear p2
     try clear q2
     try clear hx2
     try clear c6
     try clear p6
     try clear c8
     try clear c10
     try clear c10b0
     try clear c11
     try clear c11b0
     try clear c12
     try clear c12b0
     try clear c13
     try clear c13b0
     try clear c13b1
     try clear c14
     try clear c16
     try clear hcz15_0
     try clear hcz15_1
     try clear hcz15_2
     try clear hcz17_0
     try clear hcz17_1
     try clear hcz17_2
     try clear hcz7_0
     try clear hcz7_1
     try clear hfz15_0
     try clear hfz15_1
     try clear hfz15_2
     try clear hfz17_0
     try clear hfz17_1
     try clear hfz17_2
     try clear hfz7_0
     try clear hfz7_1
     try clear hx295_0
     try clear hx295_1
     try clear hx295_2
     try clear p2
     try clear p295
     try clear p6
     try clear q295
     obtain ⟨x9_2, rfl, HA, HK2, HO_6, BK290, BK291, HB⟩ := hrel
     cases gk with
     | zero => exact absurd HA.out (by simp [spec_l3Find.l1])
     | succ k2 =>
      have H := HA.out
      clear HA
      simp only [spec_l3Find.l1] at H
      replace H := sp H
      rcases H with ⟨c18, H⟩ | ⟨c18, H⟩
      ·skip
       have c18b0 := decide_eq_true c18
       clear c18
       by_cases c19 : 0 ≤ x9_2
       ·rw [if_pos c19] at H
        have c19b0 := decide_eq_true c19
        clear c19
        by_cases c20 : ((rd_T36 t292 x9_2).f0).toList = a1_0.toList
        ·rw [if_pos c20] at H
         have c20b0 : (((rd_T36 t292 x9_2).f0).toList == a1_0.toList) = true := beq_iff_eq.mpr c20
         have c20b1 : (((rd_T36 t292 x9_2).f0).toList != a1_0.toList) = false := bne_eq_false_iff_eq.mpr c20
         clear c20
         have HC21 := Aside0.mk H
         clear H
         have p296 : 0 ≤ (x9_2 : Int) := of_decide_eq_true za
         have q296 : x9_2 < (t292.length : Int) := of_decide_eq_true za
         obtain ⟨ad296, e296, hx296_0, hx296_1, hx296_2⟩ := at_T36 (Kd.R_reads' HO_6.out).2.2 x9_2 p296 q296
         cases e296
         replace p296 := eq_true p296
         replace q296 := eq_true q296
         have hnb22 := NB291_290.out
         have hnc22 := NB290_291.out
         obtain ⟨hcz23_0, hcz23_1, hcz23_2, hfz23_0, hfz23_1, hfz23_2⟩ := c3 BK291
         have p297 : 0 ≤ (x9_2 : Int) := of_decide_eq_true za
         have q297 : x9_2 < (t292.length : Int) := of_decide_eq_true za
         obtain ⟨ad297, e297, hx297_0, hx297_1, hx297_2⟩ := at_T36 (Kd.R_reads' HO_6.out).2.2 x9_2 p297 q297
         obtain rfl : ad296 = ad297 := (by injection e297)
         replace p297 := eq_true p297
         replace q297 := eq_true q297
         go_upto_if 52 with (fail)
         repeat (go_quiet (fail); go_upto_if 52 with (fail))
         have H := HC21.out
         clear HC21
         by_cases c24 : ((rd_T36 t292 x9_2).f1).toList = a1_1.toList
         ·rw [if_pos c24] at H
          have c24b0 : (((rd_T36 t292 x9_2).f1).toList == a1_1.toList) = true := beq_iff_eq.mpr c24
          have c24b1 : (((rd_T36 t292 x9_2).f1).toList != a1_1.toList) = false := bne_eq_false_iff_eq.mpr c24
          clear c24
          (first | rw [c24b0] | rw [c24b1] | rw [c24b2] | (simp only [i64_w, i32_w]; rw [c24b0]) | skip)
          simp only [Option.some.injEq, Prod.mk.injEq] at H
          obtain ⟨rfl, rfl⟩ := H
          go_wp2
          repeat (go_quiet (fail); try go_wp2)
          go_ret2
          exact ⟨ze, zb HB⟩
         ·rw [if_neg c24] at H
          have c24b0 : (((rd_T36 t292 x9_2).f1).toList == a1_1.toList) = false := beq_eq_false_iff_ne.mpr c24
          have c24b1 : (((rd_T36 t292 x9_2).f1).toList != a1_1.toList) = true := bne_iff_ne.mpr c24
          (first | rw [c24b0] | rw [c24b1] | rw [c24b2] | (simp only [i64_w, i32_w]; rw [c24b0]) | skip)
          have H' := Aside0.mk H
          clear H
          go_wp2
          repeat (go_quiet (fail); try go_wp2)
          go_roundg k2
          case measure => have := HK1.out; have := HK2.out; omega
          case rel => exact ⟨(wrap64 (x9_2 + 1)), zs, H', ⟨by have := HK1.out; have := HK2.out; omega⟩, ⟨by exact zr HO_6⟩, ⟨by exact zk BK290⟩, ⟨by exact zk BK291⟩, ⟨zb HB⟩⟩
        ·rw [if_neg c20] at H
         have c20b0 : (((rd_T36 t292 x9_2).f0).toList == a1_0.toList) = false := beq_eq_false_iff_ne.mpr c20
         have c20b1 : (((rd_T36 t292 x9_2).f0).toList != a1_0.toList) = true := bne_iff_ne.mpr c20
         have H' := Aside0.mk H
         clear H
         have p296 : 0 ≤ (x9_2 : Int) := of_decide_eq_true za
         have q296 : x9_2 < (t292.length : Int) := of_decide_eq_true za
         obtain ⟨ad296, e296, hx296_0, hx296_1, hx296_2⟩ := at_T36 (Kd.R_reads' HO_6.out).2.2 x9_2 p296 q296
         cases e296
         replace p296 := eq_true p296
         replace q296 := eq_true q296
         have hnb25 := NB291_290.out
         have hnc25 := NB290_291.out
         obtain ⟨hcz26_0, hcz26_1, hcz26_2, hfz26_0, hfz26_1, hfz26_2⟩ := c3 BK291
         go_wp2
         repeat (go_quiet (fail); try go_wp2)
         go_roundg k2
         case measure => have := HK1.out; have := HK2.out; omega
         case rel => exact ⟨(wrap64 (x9_2 + 1)), zs, H', ⟨by have := HK1.out; have := HK2.out; omega⟩, ⟨by exact zr HO_6⟩, ⟨by exact zk BK290⟩, ⟨by exact zk BK291⟩, ⟨zb HB⟩⟩
       ·rw [if_neg c19] at H
        exact absurd H (by simp)
      ·skip
       have c18b0 := decide_eq_false c18
       clear c18
       simp only [Option.some.injEq, Prod.mk.injEq] at H
       obtain ⟨rfl, rfl⟩ := H
       go_wp2
       repeat (go_quiet (fail); try go_wp2)
       go_ret2
       exact ⟨ze, zb HB⟩

/-! ### spec_l1Top: function 97 -/
-- thin
def spec_l1Top.l0 : Nat → Int → Int → Int → Option (Int)
 | 0, _, _, _ => none
 | k + 1, x0, x3, x4 => if x4 < x0 then (spec_l1Top.l0 k x0 (wrap64 (2 * x3)) (wrap64 (x4 + 1))) else (some x3)
def spec_l1Top.f (k : Nat) (a0 : Int) : Option (Int) := spec_l1Top.l0 k a0 1 0
theorem spec_l1Top.mono_l : ∀ k, (∀ y0 y1 y2, LeO (spec_l1Top.l0 k y0 y1 y2) (spec_l1Top.l0 (k + 1) y0 y1 y2))
 | 0 => fun _ _ _ r h => by simp [spec_l1Top.l0] at h
 | k + 1 => by
  have ih0 := spec_l1Top.mono_l k
  ·intro y0 y1 y2
   unfold spec_l1Top.l0
   exact zm
theorem spec_l1Top.mono : ∀ a0 k, LeO (spec_l1Top.f k a0) (spec_l1Top.f (k + 1) a0) := by
 intro a0 k
 have ih0 := spec_l1Top.mono_l k
 unfold spec_l1Top.f
 exact zm
set_option maxHeartbeats 8000000 in
set_option maxRecDepth 100000 in
theorem spec_l1Top.calls (k : Nat) (a0 : Int) (r : Int) (w : World) (h : spec_l1Top.f k a0 = some r) :
  Calls Try.prog 97 #[.int .i64 a0] w fun e w' => e = .returned (.int .i64 r) ∧ Drawn0 w w' := by
 have H : (spec_l1Top.l0 k a0 1 0) = some r := h
 clear h
 have H' := Aside0.mk H
 clear H
 go_enter Try.func97, Try.ntmps97
 go_wp2
 go_loopg [3, 4] k (fun kq v3 v4 w' => ∃ (x3_1 : Int) (x4_1 : Int), v3 = .int .i64 x3_1 ∧ v4 = .int .i64 x4_1 ∧ Aside0 (spec_l1Top.l0 kq a0 x3_1 x4_1 = some r) ∧ Aside0 (kq ≤ k) ∧ Drawn0 w w')
 case atStart => exact ⟨(1), (0), zs, zs, H', ⟨Nat.le_refl _⟩, by repeat (first | exact Drawn0.refl _ | apply Drawn0.step)⟩
 case round =>
  clear H'
  obtain ⟨x3_1, x4_1, rfl, rfl, HA, HK1, ⟨m1, rfl⟩⟩ := hrel
  cases gk with
  | zero => exact absurd HA.out (by simp [spec_l1Top.l0])
  | succ k1 =>
   have H := HA.out
   clear HA
   simp only [spec_l1Top.l0] at H
   replace H := sp H
   rcases H with ⟨c2, H⟩ | ⟨c2, H⟩
   ·skip
    have c2b0 := decide_eq_true c2
    clear c2
    have H' := Aside0.mk H
    clear H
    go_wp2
    go_roundg k1
    case measure => have := HK1.out; omega
    case rel => exact ⟨(wrap64 (2 * x3_1)), (wrap64 (x4_1 + 1)), zs, zs, H', ⟨by have := HK1.out; omega⟩, by repeat (first | exact Drawn0.refl _ | apply Drawn0.step)⟩
   ·skip
    have c2b0 := decide_eq_false c2
    clear c2
    obtain rfl := Option.some.inj H
    go_wp2
    go_ret
    exact ⟨zs, by repeat (first | exact Drawn0.refl _ | apply Drawn0.step)⟩

/-! ### spec_l1Write: function 92 -/
-- thin
def spec_l1Write.l0 : Nat → Int → ByteArray → Option (ByteArray)
 | 0, _, _ => none
 | k + 1, x0, x8 => if x0 ≥ 128 then ((spec_l1Byte.f (wrap64 ((Int.tmod x0 128) + 128))).bind fun t301 => (if x8.size + t301.size ≤ 9223372036854775807 then (spec_l1Write.l0 k (wrap64 (Int.tdiv x0 128)) (x8 ++ t301)) else (none))) else ((spec_l1Byte.f x0).bind fun t302 => (if x8.size + t302.size ≤ 9223372036854775807 then (some (x8 ++ t302)) else (none)))
def spec_l1Write.f (k : Nat) (a0 : Int) (a1 : Int) (a2 : Int) : Option (ByteArray) := (spec_l1Top.f k a1).bind fun t298 => (if a0 < (wrap64 (t298 - 1)) then ((spec_l1Byte.f (wrap64 ((wrap64 (a2 * (wrap64 ((wrap64 (t298 - 1)) + 1)))) + a0))).bind fun t299 => (some t299)) else ((spec_l1Byte.f (wrap64 ((wrap64 (a2 * (wrap64 ((wrap64 (t298 - 1)) + 1)))) + (wrap64 (t298 - 1))))).bind fun t300 => (spec_l1Write.l0 k (wrap64 (a0 - (wrap64 (t298 - 1)))) t300)))
theorem spec_l1Write.mono_l : ∀ k, (∀ y0 y1, LeO (spec_l1Write.l0 k y0 y1) (spec_l1Write.l0 (k + 1) y0 y1))
 | 0 => fun _ _ r h => by simp [spec_l1Write.l0] at h
 | k + 1 => by
  have ih0 := spec_l1Write.mono_l k
  ·intro y0 y1
   unfold spec_l1Write.l0
   have m0 := @spec_l1Top.mono
   exact zm
theorem spec_l1Write.mono : ∀ a0 a1 a2 k, LeO (spec_l1Write.f k a0 a1 a2) (spec_l1Write.f (k + 1) a0 a1 a2) := by
 intro a0 a1 a2 k
 have ih0 := spec_l1Write.mono_l k
 unfold spec_l1Write.f
 have m0 := @spec_l1Top.mono
 exact zm
set_option maxHeartbeats 8000000 in
set_option maxRecDepth 100000 in
theorem spec_l1Write.calls (k : Nat) (a0 : Int) (a1 : Int) (a2 : Int) (r : ByteArray) (w : World) (h : spec_l1Write.f k a0 a1 a2 = some r) :
  Calls Try.prog 92 #[.int .i64 a0, .int .i64 a1, .int .i64 a2] w fun e w' => e = .returned (.string r) ∧ Below w.heap.size w w' := by
 have HB := Aside0.mk (Below.refl w.heap.size w)
 have H : ((spec_l1Top.f k a1).bind fun t298 => (if a0 < (wrap64 (t298 - 1)) then ((spec_l1Byte.f (wrap64 ((wrap64 (a2 * (wrap64 ((wrap64 (t298 - 1)) + 1)))) + a0))).bind fun t299 => (some t299)) else ((spec_l1Byte.f (wrap64 ((wrap64 (a2 * (wrap64 ((wrap64 (t298 - 1)) + 1)))) + (wrap64 (t298 - 1))))).bind fun t300 => (spec_l1Write.l0 k (wrap64 (a0 - (wrap64 (t298 - 1)))) t300)))) = some r := h
 clear h
 obtain ⟨t298, A4, H⟩ := ob H
 (try dsimp only at H)
 replace H := sp H
 rcases H with ⟨c5, H⟩ | ⟨c5, H⟩
 ·skip
  have c5b0 := decide_eq_true c5
  clear c5
  obtain ⟨t299, A6, H⟩ := ob H
  (try dsimp only at H)
  obtain rfl := Option.some.inj H
  go_enter Try.func92, Try.ntmps92
  go_wp2_with (first | ((with_reducible refine gq 97 rfl ?_); refine gl (some 10) Try.func97 #[.int .i64 a1] ?_; (with_reducible refine (spec_l1Top.calls k a1 t298 _ A4.out).mono ?_); rintro e w' ⟨rfl, ⟨nd, rfl⟩⟩; refine ⟨_, rfl, ?_⟩) | ((with_reducible refine gq 86 rfl ?_); refine gl (some 21) Try.func86 #[.int .i64 (wrap64 ((wrap64 (a2 * (wrap64 ((wrap64 (t298 - 1)) + 1)))) + a0))] ?_; (with_reducible refine (spec_l1Byte.calls (wrap64 ((wrap64 (a2 * (wrap64 ((wrap64 (t298 - 1)) + 1)))) + a0)) t299 _ A6.out).mono ?_); rintro e w7 ⟨rfl, hb⟩; refine ⟨_, rfl, ?_⟩; replace HB := Aside0.mk (below_step (zb HB) hb); (try clear hb)))
  go_ret
  exact ⟨ze, zb HB⟩
 ·skip
  have c5b0 := decide_eq_false c5
  clear c5
  obtain ⟨t300, A8, H⟩ := ob H
  (try dsimp only at H)
  have H' := Aside0.mk H
  clear H
  go_enter Try.func92, Try.ntmps92
  go_wp2_with (first | ((with_reducible refine gq 97 rfl ?_); refine gl (some 10) Try.func97 #[.int .i64 a1] ?_; (with_reducible refine (spec_l1Top.calls k a1 t298 _ A4.out).mono ?_); rintro e w' ⟨rfl, ⟨nd, rfl⟩⟩; refine ⟨_, rfl, ?_⟩) | ((with_reducible refine gq 86 rfl ?_); refine gl (some 28) Try.func86 #[.int .i64 (wrap64 ((wrap64 (a2 * (wrap64 ((wrap64 (t298 - 1)) + 1)))) + (wrap64 (t298 - 1))))] ?_; (with_reducible refine (spec_l1Byte.calls (wrap64 ((wrap64 (a2 * (wrap64 ((wrap64 (t298 - 1)) + 1)))) + (wrap64 (t298 - 1)))) t300 _ A8.out).mono ?_); rintro e w9 ⟨rfl, hb⟩; refine ⟨_, rfl, ?_⟩; replace HB := Aside0.mk (below_step (zb HB) hb); (try clear hb)))
  go_loopg [0, 8] k (fun kq v0 v8 w' => ∃ (x0_1 : Int) (x8_1 : ByteArray), v0 = .int .i64 x0_1 ∧ v8 = .string x8_1 ∧ Aside0 (spec_l1Write.l0 kq x0_1 x8_1 = some r) ∧ Aside0 (kq ≤ k) ∧ Aside0 (Below w.heap.size w w'))
  case atStart => exact ⟨(wrap64 (a0 - (wrap64 (t298 - 1)))), (t300), zs, zs, H', ⟨Nat.le_refl _⟩, ⟨zb HB⟩⟩
  case round =>
   clear H'
   try clear p2
   try clear c5
   try clear c5b0
   try clear p6
   try clear c8
   try clear c9
   obtain ⟨x0_1, x8_1, rfl, rfl, HA, HK1, HB⟩ := hrel
   cases gk with
   | zero => exact absurd HA.out (by simp [spec_l1Write.l0])
   | succ k1 =>
    have H := HA.out
    clear HA
    simp only [spec_l1Write.l0] at H
    replace H := sp H
    rcases H with ⟨c10, H⟩ | ⟨c10, H⟩
    ·skip
     have c10b0 := decide_eq_true c10
     clear c10
     obtain ⟨t301, A11, H⟩ := ob H
     (try dsimp only at H)
     by_cases c12 : x8_1.size + t301.size ≤ 9223372036854775807
     ·rw [if_pos c12] at H
      have c12b0 := eq_true c12
      have c12b1 := decide_eq_true c12
      try have c12b2 : (9223372036854775807 < x8_1.size + t301.size) = False := eq_false (Nat.not_lt.2 c12)
      have H' := Aside0.mk H
      clear H
      go_wp2_with (first | ((with_reducible refine gq 86 rfl ?_); refine gl (some 38) Try.func86 #[.int .i64 (wrap64 ((Int.tmod x0_1 128) + 128))] ?_; (with_reducible refine (spec_l1Byte.calls (wrap64 ((Int.tmod x0_1 128) + 128)) t301 _ A11.out).mono ?_); rintro e w13 ⟨rfl, hb⟩; refine ⟨_, rfl, ?_⟩; replace HB := Aside0.mk (below_step (zb HB) hb); (try clear hb)))
      go_roundg k1
      case measure => have := HK1.out; omega
      case rel => exact ⟨(wrap64 (Int.tdiv x0_1 128)), (x8_1 ++ t301), zs, zs, H', ⟨by have := HK1.out; omega⟩, ⟨zb HB⟩⟩
     ·rw [if_neg c12] at H
      exact absurd H (by simp)
    ·skip
     have c10b0 := decide_eq_false c10
     clear c10
     obtain ⟨t302, A14, H⟩ := ob H
     (try dsimp only at H)
     replace H := sp H
     rcases H with ⟨c15, H⟩ | ⟨c15, H⟩
     ·skip
      have c15b0 := eq_true c15
      have c15b1 := decide_eq_true c15
      try have c15b2 : (9223372036854775807 < x8_1.size + t302.size) = False := eq_false (Nat.not_lt.2 c15)
      obtain rfl := Option.some.inj H
      go_wp2_with (first | ((with_reducible refine gq 86 rfl ?_); refine gl (some 44) Try.func86 #[.int .i64 x0_1] ?_; (with_reducible refine (spec_l1Byte.calls x0_1 t302 _ A14.out).mono ?_); rintro e w16 ⟨rfl, hb⟩; refine ⟨_, rfl, ?_⟩; replace HB := Aside0.mk (below_step (zb HB) hb); (try clear hb)))
      go_ret
      exact ⟨ze, zb HB⟩
     ·skip
      exact absurd H (by simp)

/-! ### spec_l2Bits: function 101 -/
-- thin
def spec_l2Bits.l0 : Nat → Int → List Int → Int → Option (List Int)
 | 0, _, _, _ => none
 | k + 1, x0, x5, x6 => if x6 ≥ 0 then (if 0 ≤ x6 then (if x6 < (x5.length : Int) then (spec_l2Bits.l0 k (wrap64 (Int.tdiv x0 2)) (x5.set (x6 : Int).toNat (Int.tmod x0 2)) (wrap64 (x6 - 1))) else (none)) else (none)) else (some x5)
def spec_l2Bits.f (k : Nat) (a0 : Int) (a1 : Int) : Option (List Int) := if 0 ≤ a1 then (if (a1 : Int).toNat ≤ 35184372088832 then (spec_l2Bits.l0 k a0 (List.replicate (a1 : Int).toNat 0) (wrap64 (a1 - 1))) else (none)) else (none)
theorem spec_l2Bits.mono_l : ∀ k, (∀ y0 y1 y2, LeO (spec_l2Bits.l0 k y0 y1 y2) (spec_l2Bits.l0 (k + 1) y0 y1 y2))
 | 0 => fun _ _ _ r h => by simp [spec_l2Bits.l0] at h
 | k + 1 => by
  have ih0 := spec_l2Bits.mono_l k
  ·intro y0 y1 y2
   unfold spec_l2Bits.l0
   exact zm
theorem spec_l2Bits.mono : ∀ a0 a1 k, LeO (spec_l2Bits.f k a0 a1) (spec_l2Bits.f (k + 1) a0 a1) := by
 intro a0 a1 k
 have ih0 := spec_l2Bits.mono_l k
 unfold spec_l2Bits.f
 exact zm
set_option maxHeartbeats 8000000 in
set_option maxRecDepth 100000 in
theorem spec_l2Bits.calls (k : Nat) (a0 : Int) (a1 : Int) (r : List Int) (w : World) (h : spec_l2Bits.f k a0 a1 = some r) :
  Calls Try.prog 101 #[.int .i64 a0, .int .i64 a1] w fun e w' => ∃ v0_ : Value, e = .returned (v0_) ∧ Kd.R (Kd.int .i64) 3 w' w.heap.size (fun _ => True) v0_ r ∧ Below w.heap.size w w' := by
 have HB := Aside0.mk (Below.refl w.heap.size w)
 have H : (if 0 ≤ a1 then (if (a1 : Int).toNat ≤ 35184372088832 then (spec_l2Bits.l0 k a0 (List.replicate (a1 : Int).toNat 0) (wrap64 (a1 - 1))) else (none)) else (none)) = some r := h
 clear h
 replace H := sp H
 rcases H with ⟨c3, H⟩ | ⟨c3, H⟩
 ·skip
  have c3b0 := eq_true c3
  have c3b1 := decide_eq_true c3
  clear c3
  by_cases c4 : (a1 : Int).toNat ≤ 35184372088832
  ·rw [if_pos c4] at H
   have c4b0 := eq_true c4
   have c4b1 := decide_eq_true c4
   clear c4
   obtain ⟨y303, hy303⟩ : ∃ y_ : List Int, y_ = (List.replicate (a1 : Int).toNat 0) := ⟨_, rfl⟩
   replace H : (spec_l2Bits.l0 k a0 y303 (wrap64 (a1 - 1))) = some r := by first | (rw [hy303]; with_reducible exact H) | (have H2_ := (Option.bind_some _ _).symm.trans H; rw [hy303]; with_reducible exact H2_) | (have H2_ := (Option.bind_some _ _).symm.trans H; with_reducible exact H2_) | with_reducible exact H | (rw [hy303]; exact H) | exact H
   have Ny303 := Aside0.mk hy303
   clear hy303
   have H' := Aside0.mk H
   clear H
   go_enter Try.func101, Try.ntmps101
   go_wp2_with (first | ((with_reducible refine gd 8 rfl ?_); refine Kd.R_make (Kd.int .i64) _ 3 rfl (N := 8) rfl 86 _ _ rfl a1 rfl rfl Try.underlying86 (.int .i64 0) 8 info3 rfl (by decide) (by omega) 0 (ok := fun _ => True) (okp := fun _ => True) rfl (fun _ hk => hk) trivial (of_decide_eq_true za) (Nat.le_trans (Nat.mul_le_mul_right _ (of_decide_eq_true za : a1.toNat ≤ 35184372088832)) (by omega)) (Below.refl _ _) (Nat.le_refl _) ?_; intro v304 w5 ho6 hb hg_ hnew_; clear hg_ hnew_; (first | rw [← Ny303.out] at ho6 | (simp only [Int.reduceToNat] at ho6; rw [← Ny303.out] at ho6)); have HO305 := Aside0.mk (Kd.R_lower ho6 (below_size (zb HB))); replace HB := Aside0.mk (below_step (zb HB) hb); clear hb ho6))
   go_loopg [0, 6] k (fun kq v0 v6 w' => ∃ (x0_1 : Int) (x5_1 : List Int) (x6_1 : Int), v0 = .int .i64 x0_1 ∧ v6 = .int .i64 x6_1 ∧ Aside0 (spec_l2Bits.l0 kq x0_1 x5_1 x6_1 = some r) ∧ Aside0 (kq ≤ k) ∧ Aside0 (Kd.R (Kd.int .i64) 3 w' w.heap.size (fun _ => True) v304 x5_1) ∧ Aside0 (Below w.heap.size w w'))
   case atStart => exact ⟨(a0), (y303), (wrap64 (a1 - 1)), zs, zs, H', ⟨Nat.le_refl _⟩, ⟨by exact zr HO305⟩, ⟨zb HB⟩⟩
   case round =>
    clear H'
    try clear c1
    try clear p2
    try clear c3
    try clear c3b0
    try clear c3b1
    try clear c4
    try clear c4b0
    try clear c4b1
    try clear p6
    obtain ⟨x0_1, x5_1, x6_1, rfl, rfl, HA, HK1, HO_5, HB⟩ := hrel
    cases gk with
    | zero => exact absurd HA.out (by simp [spec_l2Bits.l0])
    | succ k1 =>
     have H := HA.out
     clear HA
     simp only [spec_l2Bits.l0] at H
     by_cases c7 : x6_1 ≥ 0
     ·rw [if_pos c7] at H
      have c7b0 := decide_eq_true c7
      clear c7
      by_cases c8 : 0 ≤ x6_1
      ·rw [if_pos c8] at H
       have c8b0 := decide_eq_true c8
       clear c8
       by_cases c9 : x6_1 < (x5_1.length : Int)
       ·rw [if_pos c9] at H
        have c9b0 := decide_eq_true c9
        clear c9
        obtain ⟨y306, hy306⟩ : ∃ y_ : List Int, y_ = (x5_1.set (x6_1 : Int).toNat (Int.tmod x0_1 2)) := ⟨_, rfl⟩
        replace H : (spec_l2Bits.l0 k1 (wrap64 (Int.tdiv x0_1 2)) y306 (wrap64 (x6_1 - 1))) = some r := by first | (rw [hy306]; with_reducible exact H) | (have H2_ := (Option.bind_some _ _).symm.trans H; rw [hy306]; with_reducible exact H2_) | (have H2_ := (Option.bind_some _ _).symm.trans H; with_reducible exact H2_) | with_reducible exact H | (rw [hy306]; exact H) | exact H
        have Ny306 := Aside0.mk hy306
        clear hy306
        have H' := Aside0.mk H
        clear H
        have p10 : 0 ≤ (x6_1 : Int) := of_decide_eq_true za
        have q10 : (x6_1 : Int) < ((x5_1.length : Int) : Int) := of_decide_eq_true za
        obtain ⟨go10, co10, eo10, gb10, gl10, cl10, HG10⟩ := Kd.R_form HO_5.out (by omega)
        (first | cases eo10 | (injection eo10 with ea_ en_ ec_; (first | subst ea_ | (injection ea_ with ea_; subst ea_)); subst ec_; clear en_))
        have GB10 := Aside0.mk gb10
        have GG10 := Aside0.mk HG10
        clear gb10 gl10 HG10
        obtain ⟨hx10_0, hf10_0⟩ := Kd.R_celln 0 HO_5.out (x6_1 : Int) p10 q10
        replace p10 := eq_true p10
        replace q10 := eq_true q10
        have HP11 := Kd.R_putg HO_5.out (x6_1 : Int) (Int.tmod x0_1 2)
        go_wp2_with (first | ((with_reducible refine gate_store (t := 3) (p := 19) rfl ?_); refine store_event (t := 3) (p := 19) (v := ?vo_w12) (w1 := (wr.setCell ⟨go10, (x6_1 : Int).toNat, none⟩ (.int .i64 (Int.tmod x0_1 2)))) ?hg ?ho ?hn ?hr ?_; (case ho => rfl); (case hg => rfl); (case hn => rfl); (case hr => first | (go_simp; done) | (go_simp; rfl)); intro w12 hw; have hg : wr.grownBy w12 (some go10) := (by rw [hw]; exact HP11.2); have hp_ : Kd.R (Kd.int .i64) 3 w12 w.heap.size (fun _ => True) (.slice (some ⟨go10, 0, none⟩) x5_1.length co10) y306 := (by rw [hw, Ny306.out]; exact HP11.1); clear HP11; replace HO_5 := Aside0.mk (hp_); replace HB := Aside0.mk ((by rw [hw]; exact below_set (HB.out) GB10.out : Below w.heap.size w w12)); clear hg hw hp_))
        go_roundg k1
        case measure => have := HK1.out; omega
        case rel => exact ⟨(wrap64 (Int.tdiv x0_1 2)), (y306), (wrap64 (x6_1 - 1)), zs, zs, H', ⟨by have := HK1.out; omega⟩, ⟨by exact zr HO_5⟩, ⟨zb HB⟩⟩
       ·rw [if_neg c9] at H
        exact absurd H (by simp)
      ·rw [if_neg c8] at H
       exact absurd H (by simp)
     ·rw [if_neg c7] at H
      have c7b0 := decide_eq_false c7
      clear c7
      obtain rfl := Option.some.inj H
      go_wp2
      go_ret
      exact ⟨_, ze, zq (HO_5.out), zb HB⟩
  ·rw [if_neg c4] at H
   exact absurd H (by simp)
 ·skip
  exact absurd H (by simp)

/-! ### spec_l2Num: function 102 -/
-- thin
def spec_l2Num.l0 : Nat → List Int → Int → Int → Option (Int)
 | 0, _, _, _ => none
 | k + 1, x0, x3, x4 => if x4 < (x0.length : Int) then (if 0 ≤ x4 then (spec_l2Num.l0 k x0 (wrap64 ((wrap64 (2 * x3)) + (rd x0 x4))) (wrap64 (x4 + 1))) else (none)) else (some x3)
def spec_l2Num.f (k : Nat) (l0 : List Int) : Option (Int) := spec_l2Num.l0 k l0 0 0
theorem spec_l2Num.mono_l : ∀ k, (∀ y0 y1 y2, LeO (spec_l2Num.l0 k y0 y1 y2) (spec_l2Num.l0 (k + 1) y0 y1 y2))
 | 0 => fun _ _ _ r h => by simp [spec_l2Num.l0] at h
 | k + 1 => by
  have ih0 := spec_l2Num.mono_l k
  ·intro y0 y1 y2
   unfold spec_l2Num.l0
   exact zm
theorem spec_l2Num.mono : ∀ a0 k, LeO (spec_l2Num.f k a0) (spec_l2Num.f (k + 1) a0) := by
 intro a0 k
 have ih0 := spec_l2Num.mono_l k
 unfold spec_l2Num.f
 exact zm
set_option maxHeartbeats 8000000 in
set_option maxRecDepth 100000 in
theorem spec_l2Num.calls (k : Nat) (A0 : Option Addr) (c0 : Nat) (l0 : List Int) (r : Int) (w : World) (hr0 : Kd.C (Kd.int .i64) w A0 l0.length l0) (hc0 : l0.length ≤ c0) (h : spec_l2Num.f k l0 = some r) :
  Calls Try.prog 102 #[.slice A0 l0.length c0] w fun e w' => e = .returned (.int .i64 r) ∧ Drawn0 w w' := by
 have HR0 := Aside0.mk hr0
 have HC0 := Aside0.mk hc0
 clear hr0 hc0
 have H : (spec_l2Num.l0 k l0 0 0) = some r := h
 clear h
 have H' := Aside0.mk H
 clear H
 go_enter Try.func102, Try.ntmps102
 go_wp2
 go_loopg [3, 4] k (fun kq v3 v4 w' => ∃ (x3_1 : Int) (x4_1 : Int), v3 = .int .i64 x3_1 ∧ v4 = .int .i64 x4_1 ∧ Aside0 (spec_l2Num.l0 kq l0 x3_1 x4_1 = some r) ∧ Aside0 (kq ≤ k) ∧ Drawn0 w w')
 case atStart => exact ⟨(0), (0), zs, zs, H', ⟨Nat.le_refl _⟩, by repeat (first | exact Drawn0.refl _ | apply Drawn0.step)⟩
 case round =>
  clear H'
  try clear c1
  obtain ⟨x3_1, x4_1, rfl, rfl, HA, HK1, ⟨m1, rfl⟩⟩ := hrel
  cases gk with
  | zero => exact absurd HA.out (by simp [spec_l2Num.l0])
  | succ k1 =>
   have H := HA.out
   clear HA
   simp only [spec_l2Num.l0] at H
   replace H := sp H
   rcases H with ⟨c2, H⟩ | ⟨c2, H⟩
   ·skip
    have c2b0 := decide_eq_true c2
    clear c2
    by_cases c3 : 0 ≤ x4_1
    ·rw [if_pos c3] at H
     have c3b0 := decide_eq_true c3
     clear c3
     have H' := Aside0.mk H
     clear H
     have p307 : 0 ≤ (x4_1 : Int) := of_decide_eq_true za
     have q307 : x4_1 < (l0.length : Int) := of_decide_eq_true za
     obtain ⟨ad307, e307, hx307_0⟩ := Kd.at_int HR0.out x4_1 p307 q307
     cases e307
     replace p307 := eq_true p307
     replace q307 := eq_true q307
     go_wp2
     go_roundg k1
     case measure => have := HK1.out; omega
     case rel => exact ⟨(wrap64 ((wrap64 (2 * x3_1)) + (rd l0 x4_1))), (wrap64 (x4_1 + 1)), zs, zs, H', ⟨by have := HK1.out; omega⟩, by repeat (first | exact Drawn0.refl _ | apply Drawn0.step)⟩
    ·rw [if_neg c3] at H
     exact absurd H (by simp)
   ·skip
    have c2b0 := decide_eq_false c2
    clear c2
    obtain rfl := Option.some.inj H
    go_wp2
    go_ret
    exact ⟨zs, by repeat (first | exact Drawn0.refl _ | apply Drawn0.step)⟩

end Go.Proofs.Ytdhahifdcoinhaa.PFnHeadFixed
