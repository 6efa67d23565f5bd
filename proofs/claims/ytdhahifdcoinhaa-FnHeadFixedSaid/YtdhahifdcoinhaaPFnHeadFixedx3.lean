-- WRITTEN BY a turned print (wip/tools of the prover's repo)
import Derived.Test.YtdhahifdcoinhaaPFnHeadFixedx0
import Derived.Test.YtdhahifdcoinhaaPFnHeadFixedx2
namespace Go.Proofs.Ytdhahifdcoinhaa.PFnHeadFixed
open Go.RowKit Go.Proofs.YtdhahifdcoinhaaW.PrintWords Go.Proofs.YtdhahifdcoinhaaW.PrintLast Go.Proofs.YtdhahifdcoinhaaW.PrintMore Go.Proofs.Ytdhahifdcoinhaa.Lm
attribute [local go_sem] max2_int min2_int max_two min_two max_three min_three max_four min_four   -- for this text's walks alone
set_option linter.unusedVariables false
set_option linter.unusedSimpArgs false

/-! ### spec_l6Rd_pick: function 47 -/
-- thin
def spec_l6Rd_pick.j0 : Nat → Int → Bool → List Int → Int → Option (Int × Int)
 | 0, _, _, _, _ => none
 | k + 1, x1, x24, x1000, x1001 => if x24 = true then (some (0, x1001)) else (if (wrap64 (x1001 - 1)) < (x1000.length : Int) then (if 0 ≤ (wrap64 (x1001 - 1)) then (if x1 = 0 then (none) else (some (Int.tmod (wrap64 (rd x1000 (wrap64 (x1001 - 1)))) x1, x1001))) else (none)) else (if (x1000.length : Int) = 0 then (none) else (if 0 ≤ (Int.tmod (wrap64 (x1001 - 1)) (x1000.length : Int)) then (if (Int.tmod (wrap64 (x1001 - 1)) (x1000.length : Int)) < (x1000.length : Int) then (if 0 ≤ (Int.tmod (wrap64 ((wrap64 ((wrap64 (x1001 - 1)) * 7)) + 3)) (x1000.length : Int)) then (if (Int.tmod (wrap64 ((wrap64 ((wrap64 (x1001 - 1)) * 7)) + 3)) (x1000.length : Int)) < (x1000.length : Int) then (if x1 = 0 then (none) else (some (Int.tmod (Go.bits .xor .i64 (wrap64 ((wrap64 ((wrap64 ((wrap64 ((wrap64 (rd x1000 (Int.tmod (wrap64 (x1001 - 1)) (x1000.length : Int)))) * 131)) + (wrap64 ((wrap64 (rd x1000 (Int.tmod (wrap64 ((wrap64 ((wrap64 (x1001 - 1)) * 7)) + 3)) (x1000.length : Int)))) * 1117)))) + (wrap64 ((wrap64 (x1001 - 1)) * 29)))) + (wrap64 ((wrap64 (Int.tdiv (wrap64 (x1001 - 1)) (x1000.length : Int))) * 53)))) (wrap64 (Int.tdiv (wrap64 ((wrap64 ((wrap64 ((wrap64 ((wrap64 (rd x1000 (Int.tmod (wrap64 (x1001 - 1)) (x1000.length : Int)))) * 131)) + (wrap64 ((wrap64 (rd x1000 (Int.tmod (wrap64 ((wrap64 ((wrap64 (x1001 - 1)) * 7)) + 3)) (x1000.length : Int)))) * 1117)))) + (wrap64 ((wrap64 (x1001 - 1)) * 29)))) + (wrap64 ((wrap64 (Int.tdiv (wrap64 (x1001 - 1)) (x1000.length : Int))) * 53)))) 64))) x1, x1001))) else (none)) else (none)) else (none)) else (none))))
def spec_l6Rd_pick.f (k : Nat) (s0_0 : List Int) (s0_1 : Int) (a1 : Int) : Option (Int × Int) := if a1 < 1 then (spec_l6Rd_pick.j0 k a1 true s0_0 (wrap64 (s0_1 + 1))) else (spec_l6Rd_pick.j0 k a1 ((s0_0.length : Int) == 0) s0_0 (wrap64 (s0_1 + 1)))
theorem spec_l6Rd_pick.mono_l : ∀ k, (∀ y0 y1 y2 y3, LeO (spec_l6Rd_pick.j0 k y0 y1 y2 y3) (spec_l6Rd_pick.j0 (k + 1) y0 y1 y2 y3))
 | 0 => fun _ _ _ _ r h => by simp [spec_l6Rd_pick.j0] at h
 | k + 1 => by
  have ih0 := spec_l6Rd_pick.mono_l k
  ·intro y0 y1 y2 y3
   unfold spec_l6Rd_pick.j0
   exact zm
theorem spec_l6Rd_pick.mono : ∀ a0 a1 a2 k, LeO (spec_l6Rd_pick.f k a0 a1 a2) (spec_l6Rd_pick.f (k + 1) a0 a1 a2) := by
 intro a0 a1 a2 k
 have ih0 := spec_l6Rd_pick.mono_l k
 unfold spec_l6Rd_pick.f
 exact zm
set_option maxHeartbeats 8000000 in
set_option maxRecDepth 100000 in
theorem spec_l6Rd_pick.calls (k : Nat) (g : Nat) (s0_0 : List Int) (s0_1 : Int) (a1 : Int) (r1 : Int) (r2 : Int) (w0 w : World) (hI : IsS85 w0 w g s0_0 s0_1) (hB : Below w0.heap.size w0 w) (h : spec_l6Rd_pick.f k s0_0 s0_1 a1 = some (r1, r2)) :
  Calls Try.prog 47 #[.pointer (some ⟨g, 0, none⟩), .int .i64 a1] w fun e w' => e = .returned (.int .i64 r1) ∧ IsS85 w0 w' g s0_0 r2 ∧ Below w0.heap.size w0 w' ∧ KeepBut w w' g none := by
 have HI0 := Aside0.mk hI
 have HK := Aside0.mk (KeepBut.refl w g none)
 have HL := Aside0.mk hB.size
 clear hI
 have HW0 := Aside0.mk hB.size
 have HB := Aside0.mk hB
 clear hB
 have H : (if a1 < 1 then (spec_l6Rd_pick.j0 k a1 true s0_0 (wrap64 (s0_1 + 1))) else (spec_l6Rd_pick.j0 k a1 ((s0_0.length : Int) == 0) s0_0 (wrap64 (s0_1 + 1)))) = some (r1, r2) := h
 clear h
 have HC3 := Aside0.mk H
 clear H
 obtain ⟨ASz4_0, cSz4_0, HGz4, hgz4, HSz4_0⟩ := HI0.out
 have hcz4_0 := cellS85_0 HGz4
 have hcz4_1 := cellS85_1 HGz4
 have hfz4_1 := blk_frozen HGz4 1
 clear HGz4 hgz4
 go_enter Try.func47, Try.ntmps47
 go_upto_region 2 with (fail)
 repeat (go_quiet (fail); go_upto_region 2 with (fail))
 go_cut [24] (fun v24 wc => ∃ (kq : Nat) (x24_2 : Bool), v24 = .bool x24_2 ∧ Aside0 (spec_l6Rd_pick.j0 kq a1 x24_2 s0_0 (wrap64 (s0_1 + 1)) = some (r1, r2)) ∧ Aside0 (kq ≤ k) ∧ Aside0 (IsS85 w0 wc g s0_0 (wrap64 (s0_1 + 1))) ∧ Aside0 (KeepBut w wc g none) ∧ Aside0 (Below w0.heap.size w0 wc))
 case first =>
  have H := HC3.out
  clear HC3
  replace H := sp H
  rcases H with ⟨c5, H⟩ | ⟨c5, H⟩
  ·skip
   have c5b0 := decide_eq_true c5
   clear c5
   (first | rw [c5b0] | rw [c5b1] | rw [c5b2] | (simp only [i64_w, i32_w]; rw [c5b0]) | skip)
   have H' := Aside0.mk H
   clear H
   go_wp2
   repeat (go_quiet (fail); try go_wp2)
   go_meet
   case rel => exact ⟨_, (true), zs, H', ⟨by first | omega | exact Nat.le_refl _⟩, ⟨zi85 HI0⟩, ⟨zh HK⟩, ⟨zg85 HB⟩⟩
  ·skip
   have c5b0 := decide_eq_false c5
   clear c5
   (first | rw [c5b0] | rw [c5b1] | rw [c5b2] | (simp only [i64_w, i32_w]; rw [c5b0]) | skip)
   have H' := Aside0.mk H
   clear H
   obtain ⟨ASz6_0, cSz6_0, HGz6, hgz6, HSz6_0⟩ := HI0.out
   have hcz6_0 := cellS85_0 HGz6
   have hcz6_1 := cellS85_1 HGz6
   have hfz6_1 := blk_frozen HGz6 1
   clear HGz6 hgz6
   go_wp2
   repeat (go_quiet (fail); try go_wp2)
   go_meet
   case rel => exact ⟨_, (((s0_0.length : Int) == 0)), zs, H', ⟨by first | omega | exact Nat.le_refl _⟩, ⟨zi85 HI0⟩, ⟨zh HK⟩, ⟨zg85 HB⟩⟩
 case rest =>
  clear HC3
  try clear p2
  try clear c4
  try clear c5
  try clear c5b0
  try clear c5b1
  try clear c5b2
  try clear p6
  try clear hcz4_0
  try clear hcz4_1
  try clear hcz6_0
  try clear hcz6_1
  try clear hfz4_1
  try clear hfz6_1
  obtain ⟨kq, x24_2, rfl, HA, HJ2, HI0, HK, HB⟩ := hcut
  cases kq with
  | zero => exact absurd HA.out (by simp [spec_l6Rd_pick.j0])
  | succ kj2 =>
   have H := HA.out
   clear HA
   simp only [spec_l6Rd_pick.j0] at H
   by_cases c7 : x24_2 = true
   ·subst c7
    rw [if_pos rfl] at H
    simp only [Option.some.injEq, Prod.mk.injEq] at H
    obtain ⟨rfl, rfl⟩ := H
    go_wp2
    repeat (go_quiet (fail); try go_wp2)
    go_ret
    exact ⟨ze, zi85 HI0, zg85 HB, zh HK⟩
   ·replace c7 := Bool.eq_false_iff.mpr c7
    subst c7
    rw [if_neg (show ¬ (false = true) by decide)] at H
    replace H := sp H
    rcases H with ⟨c8, H⟩ | ⟨c8, H⟩
    ·skip
     have c8b0 := decide_eq_true c8
     clear c8
     obtain ⟨ji9, hji9⟩ : ∃ j_ : Int, (wrap64 ((wrap64 (s0_1 + 1)) - 1)) = j_ := ⟨_, rfl⟩
     replace H : (if 0 ≤ (ji9) then (if a1 = 0 then (none) else (some (Int.tmod (wrap64 (rd s0_0 (ji9))) a1, (wrap64 (s0_1 + 1))))) else (none)) = some (r1, r2) := by first | (rw [hji9] at H; exact H) | (simp only [hji9] at H ⊢; exact H)
     (try rw [hji9] at c8b0)
     have hji9w : (IntKind.i64.wrap ((wrap64 (s0_1 + 1)) - 1)) = ji9 := (i64_w _).trans hji9
     by_cases c10 : 0 ≤ (ji9)
     ·rw [if_pos c10] at H
      have c10b0 := decide_eq_true c10
      clear c10
      by_cases c11 : a1 = 0
      ·rw [if_pos c11] at H
       exact absurd H (by simp)
      ·rw [if_neg c11] at H
       have c11b0 : (a1 == 0) = false := beq_eq_false_iff_ne.mpr c11
       have c11b1 : (a1 != 0) = true := bne_iff_ne.mpr c11
       simp only [Option.some.injEq, Prod.mk.injEq] at H
       obtain ⟨rfl, rfl⟩ := H
       obtain ⟨ASz12_0, cSz12_0, HGz12, hgz12, HSz12_0⟩ := HI0.out
       have hcz12_0 := cellS85_0 HGz12
       have hcz12_1 := cellS85_1 HGz12
       have hfz12_1 := blk_frozen HGz12 1
       clear HGz12 hgz12
       have p125 : 0 ≤ ((ji9) : Int) := of_decide_eq_true za
       have q125 : (ji9) < (s0_0.length : Int) := of_decide_eq_true za
       obtain ⟨ad125, e125, hx125_0⟩ := Kd.at_int HSz12_0 (ji9) p125 q125
       cases e125
       replace hx125_0 := pw_cell_below HB.out hx125_0
       replace p125 := eq_true p125
       replace q125 := eq_true q125
       go_wp2
       repeat (go_quiet (fail); try go_wp2)
       go_ret
       exact ⟨by first | rfl | (simp [errW_none, errW_some] <;> rfl) | (simp only [← hji9]; first | rfl | (simp [errW_none, errW_some] <;> rfl)) | (simp [*, errW_none, errW_some] <;> rfl) | (simp [errW_none, errW_some]; exact (by intro l_; cases l_ <;> rfl : ∀ l_ : List UInt8, l_.isEmpty = !(l_ != [])) _), zi85 HI0, zg85 HB, zh HK⟩
     ·rw [if_neg c10] at H
      exact absurd H (by simp)
    ·skip
     have c8b0 := decide_eq_false c8
     clear c8
     replace H := sp H
     rcases H with ⟨c13, H⟩ | ⟨c13, H⟩
     ·skip
      exact absurd H (by simp)
     ·skip
      have c13b0 : ((s0_0.length : Int) == 0) = false := beq_eq_false_iff_ne.mpr c13
      have c13b1 : ((s0_0.length : Int) != 0) = true := bne_iff_ne.mpr c13
      have c13b2 : ¬ (s0_0 = []) := fun h_ => c13 (by rw [h_]; rfl)
      obtain ⟨ji14, hji14⟩ : ∃ j_ : Int, (Int.tmod (wrap64 ((wrap64 (s0_1 + 1)) - 1)) (s0_0.length : Int)) = j_ := ⟨_, rfl⟩
      replace H : (if 0 ≤ (ji14) then (if (ji14) < (s0_0.length : Int) then (if 0 ≤ (Int.tmod (wrap64 ((wrap64 ((wrap64 ((wrap64 (s0_1 + 1)) - 1)) * 7)) + 3)) (s0_0.length : Int)) then (if (Int.tmod (wrap64 ((wrap64 ((wrap64 ((wrap64 (s0_1 + 1)) - 1)) * 7)) + 3)) (s0_0.length : Int)) < (s0_0.length : Int) then (if a1 = 0 then (none) else (some (Int.tmod (Go.bits .xor .i64 (wrap64 ((wrap64 ((wrap64 ((wrap64 ((wrap64 (rd s0_0 (ji14))) * 131)) + (wrap64 ((wrap64 (rd s0_0 (Int.tmod (wrap64 ((wrap64 ((wrap64 ((wrap64 (s0_1 + 1)) - 1)) * 7)) + 3)) (s0_0.length : Int)))) * 1117)))) + (wrap64 ((wrap64 ((wrap64 (s0_1 + 1)) - 1)) * 29)))) + (wrap64 ((wrap64 (Int.tdiv (wrap64 ((wrap64 (s0_1 + 1)) - 1)) (s0_0.length : Int))) * 53)))) (wrap64 (Int.tdiv (wrap64 ((wrap64 ((wrap64 ((wrap64 ((wrap64 (rd s0_0 (ji14))) * 131)) + (wrap64 ((wrap64 (rd s0_0 (Int.tmod (wrap64 ((wrap64 ((wrap64 ((wrap64 (s0_1 + 1)) - 1)) * 7)) + 3)) (s0_0.length : Int)))) * 1117)))) + (wrap64 ((wrap64 ((wrap64 (s0_1 + 1)) - 1)) * 29)))) + (wrap64 ((wrap64 (Int.tdiv (wrap64 ((wrap64 (s0_1 + 1)) - 1)) (s0_0.length : Int))) * 53)))) 64))) a1, (wrap64 (s0_1 + 1))))) else (none)) else (none)) else (none)) else (none)) = some (r1, r2) := by first | (rw [hji14] at H; exact H) | (simp only [hji14] at H ⊢; exact H)
      replace H := sp H
      rcases H with ⟨c15, H⟩ | ⟨c15, H⟩
      ·skip
       have c15b0 := decide_eq_true c15
       clear c15
       by_cases c16 : (ji14) < (s0_0.length : Int)
       ·rw [if_pos c16] at H
        have c16b0 := decide_eq_true c16
        clear c16
        obtain ⟨ji17, hji17⟩ : ∃ j_ : Int, (Int.tmod (wrap64 ((wrap64 ((wrap64 ((wrap64 (s0_1 + 1)) - 1)) * 7)) + 3)) (s0_0.length : Int)) = j_ := ⟨_, rfl⟩
        replace H : (if 0 ≤ (ji17) then (if (ji17) < (s0_0.length : Int) then (if a1 = 0 then (none) else (some (Int.tmod (Go.bits .xor .i64 (wrap64 ((wrap64 ((wrap64 ((wrap64 ((wrap64 (rd s0_0 (ji14))) * 131)) + (wrap64 ((wrap64 (rd s0_0 (ji17))) * 1117)))) + (wrap64 ((wrap64 ((wrap64 (s0_1 + 1)) - 1)) * 29)))) + (wrap64 ((wrap64 (Int.tdiv (wrap64 ((wrap64 (s0_1 + 1)) - 1)) (s0_0.length : Int))) * 53)))) (wrap64 (Int.tdiv (wrap64 ((wrap64 ((wrap64 ((wrap64 ((wrap64 (rd s0_0 (ji14))) * 131)) + (wrap64 ((wrap64 (rd s0_0 (ji17))) * 1117)))) + (wrap64 ((wrap64 ((wrap64 (s0_1 + 1)) - 1)) * 29)))) + (wrap64 ((wrap64 (Int.tdiv (wrap64 ((wrap64 (s0_1 + 1)) - 1)) (s0_0.length : Int))) * 53)))) 64))) a1, (wrap64 (s0_1 + 1))))) else (none)) else (none)) = some (r1, r2) := by first | (rw [hji17] at H; exact H) | (simp only [hji17] at H ⊢; exact H)
        by_cases c18 : 0 ≤ (ji17)
        ·rw [if_pos c18] at H
         have c18b0 := decide_eq_true c18
         clear c18
         by_cases c19 : (ji17) < (s0_0.length : Int)
         ·rw [if_pos c19] at H
          have c19b0 := decide_eq_true c19
          clear c19
          by_cases c20 : a1 = 0
          ·rw [if_pos c20] at H
           exact absurd H (by simp)
          ·rw [if_neg c20] at H
           have c20b0 : (a1 == 0) = false := beq_eq_false_iff_ne.mpr c20
           have c20b1 : (a1 != 0) = true := bne_iff_ne.mpr c20
           simp only [Option.some.injEq, Prod.mk.injEq] at H
           obtain ⟨rfl, rfl⟩ := H
           obtain ⟨ASz21_0, cSz21_0, HGz21, hgz21, HSz21_0⟩ := HI0.out
           have hcz21_0 := cellS85_0 HGz21
           have hcz21_1 := cellS85_1 HGz21
           have hfz21_1 := blk_frozen HGz21 1
           clear HGz21 hgz21
           have p126 : 0 ≤ ((ji14) : Int) := of_decide_eq_true za
           have q126 : (ji14) < (s0_0.length : Int) := of_decide_eq_true za
           obtain ⟨ad126, e126, hx126_0⟩ := Kd.at_int HSz21_0 (ji14) p126 q126
           cases e126
           replace hx126_0 := pw_cell_below HB.out hx126_0
           replace p126 := eq_true p126
           replace q126 := eq_true q126
           have p127 : 0 ≤ ((ji17) : Int) := of_decide_eq_true za
           have q127 : (ji17) < (s0_0.length : Int) := of_decide_eq_true za
           obtain ⟨ad127, e127, hx127_0⟩ := Kd.at_int HSz21_0 (ji17) p127 q127
           obtain rfl : ad126 = ad127 := (by injection e127)
           replace hx127_0 := pw_cell_below HB.out hx127_0
           replace p127 := eq_true p127
           replace q127 := eq_true q127
           go_wp2
           repeat (go_quiet (fail); try go_wp2)
           go_ret
           exact ⟨by first | rfl | (simp [errW_none, errW_some] <;> rfl) | (simp only [← hji14, ← hji17]; first | rfl | (simp [errW_none, errW_some] <;> rfl)) | (simp [*, errW_none, errW_some] <;> rfl) | (simp [errW_none, errW_some]; exact (by intro l_; cases l_ <;> rfl : ∀ l_ : List UInt8, l_.isEmpty = !(l_ != [])) _), zi85 HI0, zg85 HB, zh HK⟩
         ·rw [if_neg c19] at H
          exact absurd H (by simp)
        ·rw [if_neg c18] at H
         exact absurd H (by simp)
       ·rw [if_neg c16] at H
        exact absurd H (by simp)
      ·skip
       exact absurd H (by simp)

/-! ### spec_l6Rd_of: function 73 -/
-- thin
def spec_l6Rd_of.f (k : Nat) (s0_0 : List Int) (s0_1 : Int) (l1 : List ByteArray) : Option (ByteArray × Int) := (spec_l6Rd_pick.f k s0_0 s0_1 (l1.length : Int)).bind fun bt128 => (if 0 ≤ bt128.1 then (if bt128.1 < (l1.length : Int) then (some (rdOf ByteArray.empty l1 bt128.1, bt128.2)) else (none)) else (none))
theorem spec_l6Rd_of.mono : ∀ a0 a1 a2 k, LeO (spec_l6Rd_of.f k a0 a1 a2) (spec_l6Rd_of.f (k + 1) a0 a1 a2) := by
 intro a0 a1 a2 k
 unfold spec_l6Rd_of.f
 have m0 := @spec_l6Rd_pick.mono
 exact zm
set_option maxHeartbeats 8000000 in
set_option maxRecDepth 100000 in
theorem spec_l6Rd_of.calls (k : Nat) (g : Nat) (s0_0 : List Int) (s0_1 : Int) (A1 : Option Addr) (c1 : Nat) (l1 : List ByteArray) (r1 : ByteArray) (r2 : Int) (w0 w : World) (hI : IsS85 w0 w g s0_0 s0_1) (hB : Below w0.heap.size w0 w) (hr1 : Kd.C Kd.string w A1 l1.length l1) (hc1 : l1.length ≤ c1) (hf1 : ∀ ad, A1 = some ad → 0 < l1.length → ad.block ≠ g) (h : spec_l6Rd_of.f k s0_0 s0_1 l1 = some (r1, r2)) :
  Calls Try.prog 73 #[.pointer (some ⟨g, 0, none⟩), .slice A1 l1.length c1] w fun e w' => e = .returned (.string r1) ∧ IsS85 w0 w' g s0_0 r2 ∧ Below w0.heap.size w0 w' ∧ KeepBut w w' g none := by
 have HR1 := Aside0.mk hr1
 have HC1 := Aside0.mk hc1
 clear hr1 hc1
 have HI0 := Aside0.mk hI
 have HK := Aside0.mk (KeepBut.refl w g none)
 have HL := Aside0.mk hB.size
 clear hI
 have HW0 := Aside0.mk hB.size
 have HB := Aside0.mk hB
 clear hB
 have H : ((spec_l6Rd_pick.f k s0_0 s0_1 (l1.length : Int)).bind fun bt128 => (if 0 ≤ bt128.1 then (if bt128.1 < (l1.length : Int) then (some (rdOf ByteArray.empty l1 bt128.1, bt128.2)) else (none)) else (none))) = some (r1, r2) := h
 clear h
 obtain ⟨⟨t128, t129⟩, A3, H⟩ := ob H
 (try dsimp only at H)
 replace H := sp H
 rcases H with ⟨c4, H⟩ | ⟨c4, H⟩
 ·skip
  have c4b0 := decide_eq_true c4
  clear c4
  by_cases c5 : t128 < (l1.length : Int)
  ·rw [if_pos c5] at H
   have c5b0 := decide_eq_true c5
   clear c5
   simp only [Option.some.injEq, Prod.mk.injEq] at H
   obtain ⟨rfl, rfl⟩ := H
   go_enter Try.func73, Try.ntmps73
   go_wp2_with (first | ((with_reducible refine gq 47 rfl ?_); refine gl (some 9) Try.func47 #[.pointer (some ⟨g, 0, none⟩), .int .i64 (l1.length : Int)] ?_; (with_reducible refine (spec_l6Rd_pick.calls k g s0_0 s0_1 (l1.length : Int) t128 t129 w0 _ ?side1 ?side2 A3.out).mono ?_); (case side1 => exact zi85 HI0); (case side2 => exact zg85 HB); rintro e w6 ⟨rfl, hi, hb, hk⟩; refine ⟨_, rfl, ?_⟩; replace HK := Aside0.mk (KeepBut.trans (zh HK) hk (.inl rfl)); replace HB := Aside0.mk (hb); replace HI0 := Aside0.mk (hi); (try clear hb); (try clear hk); (try clear hi); have p130 : 0 ≤ (t128 : Int) := of_decide_eq_true za; have q130 : t128 < (l1.length : Int) := of_decide_eq_true za; obtain ⟨ad130, e130, hx130_0⟩ := Kd.at_string HR1.out t128 p130 q130; cases e130; replace hx130_0 := keep_cell HK.out hx130_0 (by first | (rw [add_block]; exact hf1 _ rfl (by omega)) | exact hf1 _ rfl (by omega) | exact hf1 ad130 rfl (by omega)); replace p130 := eq_true p130; replace q130 := eq_true q130))
   go_ret
   exact ⟨ze, zi85 HI0, zg85 HB, zh HK⟩
  ·rw [if_neg c5] at H
   exact absurd H (by simp)
 ·skip
  exact absurd H (by simp)

/-! ### spec_l1Byte: function 86 -/
-- thin
def spec_l1Byte.f (a0 : Int) : Option (ByteArray) := some (strOfNums (([(a0) % 256] : List Int)))
set_option maxHeartbeats 8000000 in
set_option maxRecDepth 100000 in
theorem spec_l1Byte.calls (a0 : Int) (r : ByteArray) (w : World) (h : spec_l1Byte.f a0 = some r) :
  Calls Try.prog 86 #[.int .i64 a0] w fun e w' => e = .returned (.string r) ∧ Below w.heap.size w w' := by
 have HB := Aside0.mk (Below.refl w.heap.size w)
 have H : (some (strOfNums (([(a0) % 256] : List Int)))) = some r := h
 clear h
 obtain ⟨y131, hy131⟩ : ∃ y_ : List Int, y_ = (([(a0) % 256] : List Int)) := ⟨_, rfl⟩
 replace H : (some (strOfNums y131)) = some r := by first | (rw [hy131]; with_reducible exact H) | (have H2_ := (Option.bind_some _ _).symm.trans H; rw [hy131]; with_reducible exact H2_) | (have H2_ := (Option.bind_some _ _).symm.trans H; with_reducible exact H2_) | with_reducible exact H | (rw [hy131]; exact H) | exact H
 have Ny131 := Aside0.mk hy131
 clear hy131
 obtain rfl := Option.some.inj H
 go_enter Try.func86, Try.ntmps86
 go_wp2_with (first | ((with_reducible refine gd 5 rfl ?_); refine Kd.R_lit (Kd.int .u8) _ 5 ?hg (N := 5) ?hd (xs := ([(a0) % 256] : List Int)) (inner := [.int .u8 ((a0) % 256)]) (ok := fun _ => True) (okp := fun _ => True) ?hr ?hp (fun _ hk => hk) trivial (Below.refl _ _) (Nat.le_refl _) (by simp) ?_; (case hd => rfl); (case hg => rfl); (case hr => first | (go_simp; done) | (go_simp; rfl)); (case hp => exact (Reps.one (show Kd.M (Kd.int .u8) _ _ _ ((a0) % 256) [.int .u8 ((a0) % 256)] from rfl) (Reps.none _ _))); intro v132 w2 ho3 hb hg_ hnew_; clear hg_ hnew_; (first | rw [← Ny131.out] at ho3 | (simp only [Int.reduceToNat] at ho3; rw [← Ny131.out] at ho3)); have HO133 := Aside0.mk (Kd.R_lower ho3 (below_size (zb HB))); replace HB := Aside0.mk (below_step (zb HB) hb); clear hb ho3; have hcv4 := own_string (P := Try.prog) Try.underlying22 Try.underlying5 Try.underlying9 (Kd.own_of_R HO133.out)))
 go_ret
 exact ⟨ze, zb HB⟩

/-! ### spec_l6Many: function 87 -/
-- thin
def spec_l6Many.l0 : Nat → ByteArray → Int → ByteArray → Option (ByteArray)
 | 0, _, _, _ => none
 | k + 1, x0, x1, x5 => if x1 > 0 then (if (Int.tmod x1 2) = 1 then (if x5.size + x0.size ≤ 9223372036854775807 then (if x0.size + x0.size ≤ 9223372036854775807 then (spec_l6Many.l0 k (x0 ++ x0) (wrap64 (Int.tdiv x1 2)) (x5 ++ x0)) else (none)) else (none)) else (if x0.size + x0.size ≤ 9223372036854775807 then (spec_l6Many.l0 k (x0 ++ x0) (wrap64 (Int.tdiv x1 2)) x5) else (none))) else (some x5)
def spec_l6Many.f (k : Nat) (a0 : ByteArray) (a1 : Int) : Option (ByteArray) := spec_l6Many.l0 k a0 a1 (⟨#[]⟩ : ByteArray)
theorem spec_l6Many.mono_l : ∀ k, (∀ y0 y1 y2, LeO (spec_l6Many.l0 k y0 y1 y2) (spec_l6Many.l0 (k + 1) y0 y1 y2))
 | 0 => fun _ _ _ r h => by simp [spec_l6Many.l0] at h
 | k + 1 => by
  have ih0 := spec_l6Many.mono_l k
  ·intro y0 y1 y2
   unfold spec_l6Many.l0
   exact zm
theorem spec_l6Many.mono : ∀ a0 a1 k, LeO (spec_l6Many.f k a0 a1) (spec_l6Many.f (k + 1) a0 a1) := by
 intro a0 a1 k
 have ih0 := spec_l6Many.mono_l k
 unfold spec_l6Many.f
 exact zm
set_option maxHeartbeats 8000000 in
set_option maxRecDepth 100000 in
theorem spec_l6Many.calls (k : Nat) (a0 : ByteArray) (a1 : Int) (r : ByteArray) (w : World) (h : spec_l6Many.f k a0 a1 = some r) :
  Calls Try.prog 87 #[.string a0, .int .i64 a1] w fun e w' => e = .returned (.string r) ∧ Drawn0 w w' := by
 have H : (spec_l6Many.l0 k a0 a1 (⟨#[]⟩ : ByteArray)) = some r := h
 clear h
 have H' := Aside0.mk H
 clear H
 go_enter Try.func87, Try.ntmps87
 go_wp2
 go_loopg [0, 1, 5] k (fun kq v0 v1 v5 w' => ∃ (x0_1 : ByteArray) (x1_1 : Int) (x5_1 : ByteArray), v0 = .string x0_1 ∧ v1 = .int .i64 x1_1 ∧ v5 = .string x5_1 ∧ Aside0 (spec_l6Many.l0 kq x0_1 x1_1 x5_1 = some r) ∧ Aside0 (kq ≤ k) ∧ Drawn0 w w')
 case atStart => exact ⟨(a0), (a1), ((⟨#[]⟩ : ByteArray)), zs, zs, zs, H', ⟨Nat.le_refl _⟩, by repeat (first | exact Drawn0.refl _ | apply Drawn0.step)⟩
 case round =>
  clear H'
  try clear p2
  obtain ⟨x0_1, x1_1, x5_1, rfl, rfl, rfl, HA, HK1, ⟨m1, rfl⟩⟩ := hrel
  cases gk with
  | zero => exact absurd HA.out (by simp [spec_l6Many.l0])
  | succ k1 =>
   have H := HA.out
   clear HA
   simp only [spec_l6Many.l0] at H
   replace H := sp H
   rcases H with ⟨c3, H⟩ | ⟨c3, H⟩
   ·skip
    have c3b0 := decide_eq_true c3
    clear c3
    by_cases c4 : (Int.tmod x1_1 2) = 1
    ·rw [if_pos c4] at H
     have c4b0 : ((Int.tmod x1_1 2) == 1) = true := beq_iff_eq.mpr c4
     have c4b1 : ((Int.tmod x1_1 2) != 1) = false := bne_eq_false_iff_eq.mpr c4
     clear c4
     by_cases c5 : x5_1.size + x0_1.size ≤ 9223372036854775807
     ·rw [if_pos c5] at H
      have c5b0 := eq_true c5
      have c5b1 := decide_eq_true c5
      try have c5b2 : (9223372036854775807 < x5_1.size + x0_1.size) = False := eq_false (Nat.not_lt.2 c5)
      by_cases c6 : x0_1.size + x0_1.size ≤ 9223372036854775807
      ·rw [if_pos c6] at H
       have c6b0 := eq_true c6
       have c6b1 := decide_eq_true c6
       try have c6b2 : (9223372036854775807 < x0_1.size + x0_1.size) = False := eq_false (Nat.not_lt.2 c6)
       have H' := Aside0.mk H
       clear H
       go_wp2
       go_roundg k1
       case measure => have := HK1.out; omega
       case rel => exact ⟨(x0_1 ++ x0_1), (wrap64 (Int.tdiv x1_1 2)), (x5_1 ++ x0_1), zs, zs, zs, H', ⟨by have := HK1.out; omega⟩, by repeat (first | exact Drawn0.refl _ | apply Drawn0.step)⟩
      ·rw [if_neg c6] at H
       exact absurd H (by simp)
     ·rw [if_neg c5] at H
      exact absurd H (by simp)
    ·rw [if_neg c4] at H
     have c4b0 : ((Int.tmod x1_1 2) == 1) = false := beq_eq_false_iff_ne.mpr c4
     have c4b1 : ((Int.tmod x1_1 2) != 1) = true := bne_iff_ne.mpr c4
     by_cases c7 : x0_1.size + x0_1.size ≤ 9223372036854775807
     ·rw [if_pos c7] at H
      have c7b0 := eq_true c7
      have c7b1 := decide_eq_true c7
      try have c7b2 : (9223372036854775807 < x0_1.size + x0_1.size) = False := eq_false (Nat.not_lt.2 c7)
      have H' := Aside0.mk H
      clear H
      go_wp2
      go_roundg k1
      case measure => have := HK1.out; omega
      case rel => exact ⟨(x0_1 ++ x0_1), (wrap64 (Int.tdiv x1_1 2)), (x5_1), zs, zs, zs, H', ⟨by have := HK1.out; omega⟩, by repeat (first | exact Drawn0.refl _ | apply Drawn0.step)⟩
     ·rw [if_neg c7] at H
      exact absurd H (by simp)
   ·skip
    have c3b0 := decide_eq_false c3
    clear c3
    obtain rfl := Option.some.inj H
    go_wp2
    go_ret
    exact ⟨zs, by repeat (first | exact Drawn0.refl _ | apply Drawn0.step)⟩

/-! ### spec_l71Word: function 74 -/
-- thin
def spec_l71Word.l0 : Nat → ByteArray → Int → List Int → Int → Option (ByteArray × Int)
 | 0, _, _, _, _ => none
 | k + 1, x3, x4, x1000, x1001 => if x4 > 0 then ((spec_l6Rd_pick.f k x1000 x1001 24).bind fun bt138 => ((spec_l6Rd_pick.f k x1000 bt138.2 4).bind fun bt140 => (if bt140.1 = 0 then ((spec_l6Rd_pick.f k x1000 bt140.2 39).bind fun bt142 => (if 0 ≤ bt142.1 then (if bt142.1 < 39 then ((spec_l1Byte.f (wrap64 (bt (⟨#[101, 116, 97, 111, 105, 110, 115, 114, 104, 108, 48, 49, 50, 51, 52, 53, 54, 55, 56, 57, 100, 99, 117, 109, 102, 112, 103, 119, 121, 98, 118, 107, 120, 106, 113, 122, 58, 47, 45]⟩ : ByteArray) bt142.1))).bind fun t144 => (if x3.size + t144.size ≤ 9223372036854775807 then (spec_l71Word.l0 k (x3 ++ t144) (wrap64 (x4 - 1)) x1000 bt142.2) else (none))) else (none)) else (none))) else (if 0 ≤ bt138.1 then (if bt138.1 < 39 then ((spec_l1Byte.f (wrap64 (bt (⟨#[101, 116, 97, 111, 105, 110, 115, 114, 104, 108, 48, 49, 50, 51, 52, 53, 54, 55, 56, 57, 100, 99, 117, 109, 102, 112, 103, 119, 121, 98, 118, 107, 120, 106, 113, 122, 58, 47, 45]⟩ : ByteArray) bt138.1))).bind fun t145 => (if x3.size + t145.size ≤ 9223372036854775807 then (spec_l71Word.l0 k (x3 ++ t145) (wrap64 (x4 - 1)) x1000 bt140.2) else (none))) else (none)) else (none))))) else ((spec_l6Rd_pick.f k x1000 x1001 24).bind fun bt146 => (if bt146.1 = 0 then (if x3.size + 1 ≤ 9223372036854775807 then (some (x3 ++ (⟨#[65]⟩ : ByteArray), bt146.2)) else (none)) else (if bt146.1 = 1 then ((spec_l6Rd_pick.f k x1000 bt146.2 4).bind fun bt148 => ((spec_l6Many.f k (⟨#[101]⟩ : ByteArray) (wrap64 (15 + bt148.1))).bind fun t150 => (some (t150, bt148.2)))) else (some (x3, bt146.2)))))
def spec_l71Word.f (k : Nat) (s0_0 : List Int) (s0_1 : Int) : Option (ByteArray × Int) := (spec_l6Rd_pick.f k s0_0 s0_1 9).bind fun bt134 => ((spec_l6Rd_pick.f k s0_0 bt134.2 6).bind fun bt136 => (spec_l71Word.l0 k (⟨#[]⟩ : ByteArray) (wrap64 (bt134.1 + (wrap64 ((wrap64 (Int.tdiv bt136.1 5)) * 8)))) s0_0 bt136.2))
theorem spec_l71Word.mono_l : ∀ k, (∀ y0 y1 y2 y3, LeO (spec_l71Word.l0 k y0 y1 y2 y3) (spec_l71Word.l0 (k + 1) y0 y1 y2 y3))
 | 0 => fun _ _ _ _ r h => by simp [spec_l71Word.l0] at h
 | k + 1 => by
  have ih0 := spec_l71Word.mono_l k
  ·intro y0 y1 y2 y3
   unfold spec_l71Word.l0
   have m0 := @spec_l6Many.mono
   have m1 := @spec_l6Rd_pick.mono
   exact zm
theorem spec_l71Word.mono : ∀ a0 a1 k, LeO (spec_l71Word.f k a0 a1) (spec_l71Word.f (k + 1) a0 a1) := by
 intro a0 a1 k
 have ih0 := spec_l71Word.mono_l k
 unfold spec_l71Word.f
 have m0 := @spec_l6Many.mono
 have m1 := @spec_l6Rd_pick.mono
 exact zm
set_option maxHeartbeats 8000000 in
set_option maxRecDepth 100000 in
theorem spec_l71Word.calls (k : Nat) (g : Nat) (s0_0 : List Int) (s0_1 : Int) (r1 : ByteArray) (r2 : Int) (w0 w : World) (hI : IsS85 w0 w g s0_0 s0_1) (hB : Below w0.heap.size w0 w) (h : spec_l71Word.f k s0_0 s0_1 = some (r1, r2)) :
  Calls Try.prog 74 #[.pointer (some ⟨g, 0, none⟩)] w fun e w' => e = .returned (.string r1) ∧ IsS85 w0 w' g s0_0 r2 ∧ Below w0.heap.size w0 w' ∧ KeepBut w w' g none := by
 have HI0 := Aside0.mk hI
 have HK := Aside0.mk (KeepBut.refl w g none)
 have HL := Aside0.mk hB.size
 clear hI
 have HW0 := Aside0.mk hB.size
 have HB := Aside0.mk hB
 clear hB
 have H : ((spec_l6Rd_pick.f k s0_0 s0_1 9).bind fun bt134 => ((spec_l6Rd_pick.f k s0_0 bt134.2 6).bind fun bt136 => (spec_l71Word.l0 k (⟨#[]⟩ : ByteArray) (wrap64 (bt134.1 + (wrap64 ((wrap64 (Int.tdiv bt136.1 5)) * 8)))) s0_0 bt136.2))) = some (r1, r2) := h
 clear h
 obtain ⟨⟨t134, t135⟩, A2, H⟩ := ob H
 (try dsimp only at H)
 obtain ⟨⟨t136, t137⟩, A3, H⟩ := ob H
 (try dsimp only at H)
 have H' := Aside0.mk H
 clear H
 go_enter Try.func74, Try.ntmps74
 go_wp2_with (first | ((with_reducible refine gq 47 rfl ?_); refine gl (some 7) Try.func47 #[.pointer (some ⟨g, 0, none⟩), .int .i64 9] ?_; (with_reducible refine (spec_l6Rd_pick.calls k g s0_0 s0_1 9 t134 t135 w0 _ ?side1 ?side2 A2.out).mono ?_); (case side1 => exact zi85 HI0); (case side2 => exact zg85 HB); rintro e w4 ⟨rfl, hi, hb, hk⟩; refine ⟨_, rfl, ?_⟩; replace HK := Aside0.mk (KeepBut.trans (zh HK) hk (.inl rfl)); replace HB := Aside0.mk (hb); replace HI0 := Aside0.mk (hi); (try clear hb); (try clear hk); (try clear hi)) | ((with_reducible refine gq 47 rfl ?_); refine gl (some 9) Try.func47 #[.pointer (some ⟨g, 0, none⟩), .int .i64 6] ?_; (with_reducible refine (spec_l6Rd_pick.calls k g s0_0 t135 6 t136 t137 w0 _ ?side1 ?side2 A3.out).mono ?_); (case side1 => exact zi85 HI0); (case side2 => exact zg85 HB); rintro e w5 ⟨rfl, hi, hb, hk⟩; refine ⟨_, rfl, ?_⟩; replace HK := Aside0.mk (KeepBut.trans (zh HK) hk (.inl rfl)); replace HB := Aside0.mk (hb); replace HI0 := Aside0.mk (hi); (try clear hb); (try clear hk); (try clear hi)))
 go_loopg [3, 4] k (fun kq v3 v4 w' => ∃ (x3_1 : ByteArray) (x4_1 : Int) (x1001_1 : Int), v3 = .string x3_1 ∧ v4 = .int .i64 x4_1 ∧ Aside0 (spec_l71Word.l0 kq x3_1 x4_1 s0_0 x1001_1 = some (r1, r2)) ∧ Aside0 (kq ≤ k) ∧ Aside0 (IsS85 w0 w' g s0_0 x1001_1) ∧ Aside0 (KeepBut w w' g none) ∧ Aside0 (Below w0.heap.size w0 w'))
 case atStart => exact ⟨((⟨#[]⟩ : ByteArray)), (wrap64 (t134 + (wrap64 ((wrap64 (Int.tdiv t136 5)) * 8)))), (t137), zs, zs, H', ⟨Nat.le_refl _⟩, ⟨zi85 HI0⟩, ⟨zh HK⟩, ⟨zg85 HB⟩⟩
 case round =>
  clear H'
  try clear p2
  try clear c4
  obtain ⟨x3_1, x4_1, x1001_1, rfl, rfl, HA, HK1, HI0, HK, HB⟩ := hrel
  cases gk with
  | zero => exact absurd HA.out (by simp [spec_l71Word.l0])
  | succ k1 =>
   have H := HA.out
   clear HA
   simp only [spec_l71Word.l0] at H
   replace H := sp H
   rcases H with ⟨c6, H⟩ | ⟨c6, H⟩
   ·skip
    have c6b0 := decide_eq_true c6
    clear c6
    obtain ⟨⟨t138, t139⟩, A7, H⟩ := ob H
    (try dsimp only at H)
    obtain ⟨⟨t140, t141⟩, A8, H⟩ := ob H
    (try dsimp only at H)
    have HC9 := Aside0.mk H
    clear H
    go_upto_if 21 with (first | ((with_reducible refine gq 47 rfl ?_); refine gl (some 18) Try.func47 #[.pointer (some ⟨g, 0, none⟩), .int .i64 24] ?_; (with_reducible refine (spec_l6Rd_pick.calls k1 g s0_0 x1001_1 24 t138 t139 w0 _ ?side1 ?side2 A7.out).mono ?_); (case side1 => exact zi85 HI0); (case side2 => exact zg85 HB); rintro e w10 ⟨rfl, hi, hb, hk⟩; refine ⟨_, rfl, ?_⟩; replace HK := Aside0.mk (KeepBut.trans (zh HK) hk (.inl rfl)); replace HB := Aside0.mk (hb); replace HI0 := Aside0.mk (hi); (try clear hb); (try clear hk); (try clear hi)) | ((with_reducible refine gq 47 rfl ?_); refine gl (some 20) Try.func47 #[.pointer (some ⟨g, 0, none⟩), .int .i64 4] ?_; (with_reducible refine (spec_l6Rd_pick.calls k1 g s0_0 t139 4 t140 t141 w0 _ ?side1 ?side2 A8.out).mono ?_); (case side1 => exact zi85 HI0); (case side2 => exact zg85 HB); rintro e w11 ⟨rfl, hi, hb, hk⟩; refine ⟨_, rfl, ?_⟩; replace HK := Aside0.mk (KeepBut.trans (zh HK) hk (.inl rfl)); replace HB := Aside0.mk (hb); replace HI0 := Aside0.mk (hi); (try clear hb); (try clear hk); (try clear hi)))
    (try simp only [Act.put, s1, s2, s3])
    have H := HC9.out
    clear HC9
    by_cases c12 : t140 = 0
    ·rw [if_pos c12] at H
     have c12b0 : (t140 == 0) = true := beq_iff_eq.mpr c12
     have c12b1 : (t140 != 0) = false := bne_eq_false_iff_eq.mpr c12
     clear c12
     (first | rw [c12b0] | rw [c12b1] | rw [c12b2] | (simp only [i64_w, i32_w]; rw [c12b0]) | skip)
     obtain ⟨⟨t142, t143⟩, A13, H⟩ := ob H
     (try dsimp only at H)
     by_cases c14 : 0 ≤ t142
     ·rw [if_pos c14] at H
      have c14b0 := decide_eq_true c14
      clear c14
      by_cases c15 : t142 < 39
      ·rw [if_pos c15] at H
       have c15b0 := decide_eq_true c15
       clear c15
       obtain ⟨t144, A17, H⟩ := ob H
       (try dsimp only at H)
       by_cases c18 : x3_1.size + t144.size ≤ 9223372036854775807
       ·rw [if_pos c18] at H
        have c18b0 := eq_true c18
        have c18b1 := decide_eq_true c18
        try have c18b2 : (9223372036854775807 < x3_1.size + t144.size) = False := eq_false (Nat.not_lt.2 c18)
        have H' := Aside0.mk H
        clear H
        go_wp2_with (first | ((with_reducible refine gq 47 rfl ?_); refine gl (some 23) Try.func47 #[.pointer (some ⟨g, 0, none⟩), .int .i64 39] ?_; (with_reducible refine (spec_l6Rd_pick.calls k1 g s0_0 t141 39 t142 t143 w0 _ ?side1 ?side2 A13.out).mono ?_); (case side1 => exact zi85 HI0); (case side2 => exact zg85 HB); rintro e w19 ⟨rfl, hi, hb, hk⟩; refine ⟨_, rfl, ?_⟩; replace HK := Aside0.mk (KeepBut.trans (zh HK) hk (.inl rfl)); replace HB := Aside0.mk (hb); replace HI0 := Aside0.mk (hi); (try clear hb); (try clear hk); (try clear hi); have p16 : 0 ≤ (t142 : Int) := of_decide_eq_true za; have q16 : t142 < (39 : Int) := of_decide_eq_true za; have hx16 := bt_at (⟨#[101, 116, 97, 111, 105, 110, 115, 114, 104, 108, 48, 49, 50, 51, 52, 53, 54, 55, 56, 57, 100, 99, 117, 109, 102, 112, 103, 119, 121, 98, 118, 107, 120, 106, 113, 122, 58, 47, 45]⟩ : ByteArray) t142; replace p16 := eq_true p16; replace q16 := eq_true q16) | ((with_reducible refine gq 86 rfl ?_); refine gl (some 28) Try.func86 #[.int .i64 (wrap64 (bt (⟨#[101, 116, 97, 111, 105, 110, 115, 114, 104, 108, 48, 49, 50, 51, 52, 53, 54, 55, 56, 57, 100, 99, 117, 109, 102, 112, 103, 119, 121, 98, 118, 107, 120, 106, 113, 122, 58, 47, 45]⟩ : ByteArray) t142))] ?_; (with_reducible refine (spec_l1Byte.calls (wrap64 (bt (⟨#[101, 116, 97, 111, 105, 110, 115, 114, 104, 108, 48, 49, 50, 51, 52, 53, 54, 55, 56, 57, 100, 99, 117, 109, 102, 112, 103, 119, 121, 98, 118, 107, 120, 106, 113, 122, 58, 47, 45]⟩ : ByteArray) t142)) t144 _ A17.out).mono ?_); rintro e w20 ⟨rfl, hb⟩; refine ⟨_, rfl, ?_⟩; replace HI0 := Aside0.mk (IsS85.below (zi85 HI0) hb); replace HK := Aside0.mk (KeepBut.trans (zh HK) (KeepBut.of_below hb g none) (.inl rfl)); replace HB := Aside0.mk (below_step (zg85 HB) hb); (try clear hb)))
        go_roundg k1
        case measure => have := HK1.out; omega
        case rel => exact ⟨(x3_1 ++ t144), (wrap64 (x4_1 - 1)), (t143), zs, zs, H', ⟨by have := HK1.out; omega⟩, ⟨zi85 HI0⟩, ⟨zh HK⟩, ⟨zg85 HB⟩⟩
       ·rw [if_neg c18] at H
        exact absurd H (by simp)
      ·rw [if_neg c15] at H
       exact absurd H (by simp)
     ·rw [if_neg c14] at H
      exact absurd H (by simp)
    ·rw [if_neg c12] at H
     have c12b0 : (t140 == 0) = false := beq_eq_false_iff_ne.mpr c12
     have c12b1 : (t140 != 0) = true := bne_iff_ne.mpr c12
     (first | rw [c12b0] | rw [c12b1] | rw [c12b2] | (simp only [i64_w, i32_w]; rw [c12b0]) | skip)
     by_cases c21 : 0 ≤ t138
     ·rw [if_pos c21] at H
      have c21b0 := decide_eq_true c21
      clear c21
      by_cases c22 : t138 < 39
      ·rw [if_pos c22] at H
       have c22b0 := decide_eq_true c22
       clear c22
       obtain ⟨t145, A24, H⟩ := ob H
       (try dsimp only at H)
       by_cases c25 : x3_1.size + t145.size ≤ 9223372036854775807
       ·rw [if_pos c25] at H
        have c25b0 := eq_true c25
        have c25b1 := decide_eq_true c25
        try have c25b2 : (9223372036854775807 < x3_1.size + t145.size) = False := eq_false (Nat.not_lt.2 c25)
        have H' := Aside0.mk H
        clear H
        have p23 : 0 ≤ (t138 : Int) := of_decide_eq_true za
        have q23 : t138 < (39 : Int) := of_decide_eq_true za
        have hx23 := bt_at (⟨#[101, 116, 97, 111, 105, 110, 115, 114, 104, 108, 48, 49, 50, 51, 52, 53, 54, 55, 56, 57, 100, 99, 117, 109, 102, 112, 103, 119, 121, 98, 118, 107, 120, 106, 113, 122, 58, 47, 45]⟩ : ByteArray) t138
        replace p23 := eq_true p23
        replace q23 := eq_true q23
        go_wp2_with (first | ((with_reducible refine gq 86 rfl ?_); refine gl (some 28) Try.func86 #[.int .i64 (wrap64 (bt (⟨#[101, 116, 97, 111, 105, 110, 115, 114, 104, 108, 48, 49, 50, 51, 52, 53, 54, 55, 56, 57, 100, 99, 117, 109, 102, 112, 103, 119, 121, 98, 118, 107, 120, 106, 113, 122, 58, 47, 45]⟩ : ByteArray) t138))] ?_; (with_reducible refine (spec_l1Byte.calls (wrap64 (bt (⟨#[101, 116, 97, 111, 105, 110, 115, 114, 104, 108, 48, 49, 50, 51, 52, 53, 54, 55, 56, 57, 100, 99, 117, 109, 102, 112, 103, 119, 121, 98, 118, 107, 120, 106, 113, 122, 58, 47, 45]⟩ : ByteArray) t138)) t145 _ A24.out).mono ?_); rintro e w26 ⟨rfl, hb⟩; refine ⟨_, rfl, ?_⟩; replace HI0 := Aside0.mk (IsS85.below (zi85 HI0) hb); replace HK := Aside0.mk (KeepBut.trans (zh HK) (KeepBut.of_below hb g none) (.inl rfl)); replace HB := Aside0.mk (below_step (zg85 HB) hb); (try clear hb)))
        go_roundg k1
        case measure => have := HK1.out; omega
        case rel => exact ⟨(x3_1 ++ t145), (wrap64 (x4_1 - 1)), (t141), zs, zs, H', ⟨by have := HK1.out; omega⟩, ⟨zi85 HI0⟩, ⟨zh HK⟩, ⟨zg85 HB⟩⟩
       ·rw [if_neg c25] at H
        exact absurd H (by simp)
      ·rw [if_neg c22] at H
       exact absurd H (by simp)
     ·rw [if_neg c21] at H
      exact absurd H (by simp)
   ·skip
    have c6b0 := decide_eq_false c6
    clear c6
    obtain ⟨⟨t146, t147⟩, A27, H⟩ := ob H
    (try dsimp only at H)
    replace H := sp H
    rcases H with ⟨c28, H⟩ | ⟨c28, H⟩
    ·skip
     have c28b0 : (t146 == 0) = true := beq_iff_eq.mpr c28
     have c28b1 : (t146 != 0) = false := bne_eq_false_iff_eq.mpr c28
     clear c28
     by_cases c29 : x3_1.size + 1 ≤ 9223372036854775807
     ·rw [if_pos c29] at H
      have c29b0 := eq_true c29
      have c29b1 := decide_eq_true c29
      try have c29b2 : (9223372036854775807 < x3_1.size + 1) = False := eq_false (Nat.not_lt.2 c29)
      simp only [Option.some.injEq, Prod.mk.injEq] at H
      obtain ⟨rfl, rfl⟩ := H
      go_wp2_with (first | ((with_reducible refine gq 47 rfl ?_); refine gl (some 31) Try.func47 #[.pointer (some ⟨g, 0, none⟩), .int .i64 24] ?_; (with_reducible refine (spec_l6Rd_pick.calls k1 g s0_0 x1001_1 24 t146 t147 w0 _ ?side1 ?side2 A27.out).mono ?_); (case side1 => exact zi85 HI0); (case side2 => exact zg85 HB); rintro e w30 ⟨rfl, hi, hb, hk⟩; refine ⟨_, rfl, ?_⟩; replace HK := Aside0.mk (KeepBut.trans (zh HK) hk (.inl rfl)); replace HB := Aside0.mk (hb); replace HI0 := Aside0.mk (hi); (try clear hb); (try clear hk); (try clear hi)))
      go_ret
      exact ⟨ze, zi85 HI0, zg85 HB, zh HK⟩
     ·rw [if_neg c29] at H
      exact absurd H (by simp)
    ·skip
     have c28b0 : (t146 == 0) = false := beq_eq_false_iff_ne.mpr c28
     have c28b1 : (t146 != 0) = true := bne_iff_ne.mpr c28
     replace H := sp H
     rcases H with ⟨c31, H⟩ | ⟨c31, H⟩
     ·skip
      have c31b0 : (t146 == 1) = true := beq_iff_eq.mpr c31
      have c31b1 : (t146 != 1) = false := bne_eq_false_iff_eq.mpr c31
      clear c31
      obtain ⟨⟨t148, t149⟩, A32, H⟩ := ob H
      (try dsimp only at H)
      obtain ⟨t150, A33, H⟩ := ob H
      (try dsimp only at H)
      simp only [Option.some.injEq, Prod.mk.injEq] at H
      obtain ⟨rfl, rfl⟩ := H
      go_wp2_with (first | ((with_reducible refine gq 47 rfl ?_); refine gl (some 31) Try.func47 #[.pointer (some ⟨g, 0, none⟩), .int .i64 24] ?_; (with_reducible refine (spec_l6Rd_pick.calls k1 g s0_0 x1001_1 24 t146 t147 w0 _ ?side1 ?side2 A27.out).mono ?_); (case side1 => exact zi85 HI0); (case side2 => exact zg85 HB); rintro e w34 ⟨rfl, hi, hb, hk⟩; refine ⟨_, rfl, ?_⟩; replace HK := Aside0.mk (KeepBut.trans (zh HK) hk (.inl rfl)); replace HB := Aside0.mk (hb); replace HI0 := Aside0.mk (hi); (try clear hb); (try clear hk); (try clear hi)) | ((with_reducible refine gq 47 rfl ?_); refine gl (some 39) Try.func47 #[.pointer (some ⟨g, 0, none⟩), .int .i64 4] ?_; (with_reducible refine (spec_l6Rd_pick.calls k1 g s0_0 t147 4 t148 t149 w0 _ ?side1 ?side2 A32.out).mono ?_); (case side1 => exact zi85 HI0); (case side2 => exact zg85 HB); rintro e w35 ⟨rfl, hi, hb, hk⟩; refine ⟨_, rfl, ?_⟩; replace HK := Aside0.mk (KeepBut.trans (zh HK) hk (.inl rfl)); replace HB := Aside0.mk (hb); replace HI0 := Aside0.mk (hi); (try clear hb); (try clear hk); (try clear hi)) | ((with_reducible refine gq 87 rfl ?_); refine gl (some 41) Try.func87 #[.string (⟨#[101]⟩ : ByteArray), .int .i64 (wrap64 (15 + t148))] ?_; (with_reducible refine (spec_l6Many.calls k1 (⟨#[101]⟩ : ByteArray) (wrap64 (15 + t148)) t150 _ A33.out).mono ?_); rintro e w' ⟨rfl, ⟨nd, rfl⟩⟩; refine ⟨_, rfl, ?_⟩))
      go_ret
      exact ⟨ze, zi85 HI0, zg85 HB, zh HK⟩
     ·skip
      have c31b0 : (t146 == 1) = false := beq_eq_false_iff_ne.mpr c31
      have c31b1 : (t146 != 1) = true := bne_iff_ne.mpr c31
      simp only [Option.some.injEq, Prod.mk.injEq] at H
      obtain ⟨rfl, rfl⟩ := H
      go_wp2_with (first | ((with_reducible refine gq 47 rfl ?_); refine gl (some 31) Try.func47 #[.pointer (some ⟨g, 0, none⟩), .int .i64 24] ?_; (with_reducible refine (spec_l6Rd_pick.calls k1 g s0_0 x1001_1 24 t146 t147 w0 _ ?side1 ?side2 A27.out).mono ?_); (case side1 => exact zi85 HI0); (case side2 => exact zg85 HB); rintro e w36 ⟨rfl, hi, hb, hk⟩; refine ⟨_, rfl, ?_⟩; replace HK := Aside0.mk (KeepBut.trans (zh HK) hk (.inl rfl)); replace HB := Aside0.mk (hb); replace HI0 := Aside0.mk (hi); (try clear hb); (try clear hk); (try clear hi)))
      go_ret
      exact ⟨ze, zi85 HI0, zg85 HB, zh HK⟩

/-! ### spec_l71Field: function 58 -/
-- thin
def spec_l71Field.f (k : Nat) (s0_0 : List Int) (s0_1 : Int) : Option (ByteArray × ByteArray × Bool × Int) := (spec_l6Rd_of.f k s0_0 s0_1 (([(⟨#[58, 112, 97, 116, 104]⟩ : ByteArray), (⟨#[58, 115, 116, 97, 116, 117, 115]⟩ : ByteArray), (⟨#[107, 105, 110, 100]⟩ : ByteArray), (⟨#[115, 105, 122, 101]⟩ : ByteArray), (⟨#[116, 101]⟩ : ByteArray), (⟨#[97]⟩ : ByteArray), (⟨#[98]⟩ : ByteArray), (⟨#[107, 101, 121]⟩ : ByteArray)] : List ByteArray))).bind fun bt155 => ((spec_l6Rd_of.f k s0_0 bt155.2 (([(⟨#[]⟩ : ByteArray), (⟨#[48]⟩ : ByteArray), (⟨#[49, 50]⟩ : ByteArray), (⟨#[116, 101, 120, 116]⟩ : ByteArray), (⟨#[116, 114, 97, 105, 108, 101, 114, 115]⟩ : ByteArray), (⟨#[47, 101, 99, 104, 111]⟩ : ByteArray), (⟨#[120]⟩ : ByteArray), (⟨#[121, 49]⟩ : ByteArray), (⟨#[97, 98, 99]⟩ : ByteArray)] : List ByteArray))).bind fun bt160 => ((spec_l6Rd_pick.f k s0_0 bt160.2 8).bind fun bt163 => ((spec_l6Rd_pick.f k s0_0 bt163.2 24).bind fun bt165 => (if bt165.1 = 0 then ((spec_l6Rd_of.f k s0_0 bt165.2 (([(⟨#[]⟩ : ByteArray), (⟨#[65]⟩ : ByteArray), (⟨#[97, 97, 97, 97, 97, 97, 97, 97, 97, 97, 97, 97, 97, 97, 97, 97, 97]⟩ : ByteArray)] : List ByteArray))).bind fun bt170 => (some (bt170.1, bt160.1, (bt163.1 == 0), bt170.2))) else (if bt165.1 = 1 then ((spec_l71Word.f k s0_0 bt165.2).bind fun bt172 => (some (bt155.1, bt172.1, (bt163.1 == 0), bt172.2))) else (some (bt155.1, bt160.1, (bt163.1 == 0), bt165.2)))))))
theorem spec_l71Field.mono : ∀ a0 a1 k, LeO (spec_l71Field.f k a0 a1) (spec_l71Field.f (k + 1) a0 a1) := by
 intro a0 a1 k
 unfold spec_l71Field.f
 have m0 := @spec_l6Rd_of.mono
 have m1 := @spec_l6Rd_pick.mono
 have m2 := @spec_l71Word.mono
 exact zm
set_option maxHeartbeats 8000000 in
set_option maxRecDepth 100000 in
theorem spec_l71Field.calls (k : Nat) (g : Nat) (s0_0 : List Int) (s0_1 : Int) (r1 : ByteArray) (r2 : ByteArray) (r3 : Bool) (r4 : Int) (w0 w : World) (hI : IsS85 w0 w g s0_0 s0_1) (hB : Below w0.heap.size w0 w) (h : spec_l71Field.f k s0_0 s0_1 = some (r1, r2, r3, r4)) :
  Calls Try.prog 58 #[.pointer (some ⟨g, 0, none⟩)] w fun e w' => e = .returned (.agg #[.string r1, .string r2, .bool r3]) ∧ IsS85 w0 w' g s0_0 r4 ∧ Below w0.heap.size w0 w' ∧ KeepBut w w' g none := by
 have hu36 := Try.underlying36
 have HI0 := Aside0.mk hI
 have HK := Aside0.mk (KeepBut.refl w g none)
 have HL := Aside0.mk hB.size
 clear hI
 have HW0 := Aside0.mk hB.size
 have HB := Aside0.mk hB
 clear hB
 have H : ((spec_l6Rd_of.f k s0_0 s0_1 (([(⟨#[58, 112, 97, 116, 104]⟩ : ByteArray), (⟨#[58, 115, 116, 97, 116, 117, 115]⟩ : ByteArray), (⟨#[107, 105, 110, 100]⟩ : ByteArray), (⟨#[115, 105, 122, 101]⟩ : ByteArray), (⟨#[116, 101]⟩ : ByteArray), (⟨#[97]⟩ : ByteArray), (⟨#[98]⟩ : ByteArray), (⟨#[107, 101, 121]⟩ : ByteArray)] : List ByteArray))).bind fun bt155 => ((spec_l6Rd_of.f k s0_0 bt155.2 (([(⟨#[]⟩ : ByteArray), (⟨#[48]⟩ : ByteArray), (⟨#[49, 50]⟩ : ByteArray), (⟨#[116, 101, 120, 116]⟩ : ByteArray), (⟨#[116, 114, 97, 105, 108, 101, 114, 115]⟩ : ByteArray), (⟨#[47, 101, 99, 104, 111]⟩ : ByteArray), (⟨#[120]⟩ : ByteArray), (⟨#[121, 49]⟩ : ByteArray), (⟨#[97, 98, 99]⟩ : ByteArray)] : List ByteArray))).bind fun bt160 => ((spec_l6Rd_pick.f k s0_0 bt160.2 8).bind fun bt163 => ((spec_l6Rd_pick.f k s0_0 bt163.2 24).bind fun bt165 => (if bt165.1 = 0 then ((spec_l6Rd_of.f k s0_0 bt165.2 (([(⟨#[]⟩ : ByteArray), (⟨#[65]⟩ : ByteArray), (⟨#[97, 97, 97, 97, 97, 97, 97, 97, 97, 97, 97, 97, 97, 97, 97, 97, 97]⟩ : ByteArray)] : List ByteArray))).bind fun bt170 => (some (bt170.1, bt160.1, (bt163.1 == 0), bt170.2))) else (if bt165.1 = 1 then ((spec_l71Word.f k s0_0 bt165.2).bind fun bt172 => (some (bt155.1, bt172.1, (bt163.1 == 0), bt172.2))) else (some (bt155.1, bt160.1, (bt163.1 == 0), bt165.2)))))))) = some (r1, r2, r3, r4) := h
 clear h
 obtain ⟨y152, hy152⟩ : ∃ y_ : List ByteArray, y_ = (([(⟨#[58, 112, 97, 116, 104]⟩ : ByteArray), (⟨#[58, 115, 116, 97, 116, 117, 115]⟩ : ByteArray), (⟨#[107, 105, 110, 100]⟩ : ByteArray), (⟨#[115, 105, 122, 101]⟩ : ByteArray), (⟨#[116, 101]⟩ : ByteArray), (⟨#[97]⟩ : ByteArray), (⟨#[98]⟩ : ByteArray), (⟨#[107, 101, 121]⟩ : ByteArray)] : List ByteArray)) := ⟨_, rfl⟩
 replace H : ((spec_l6Rd_of.f k s0_0 s0_1 y152).bind fun bt155 => ((spec_l6Rd_of.f k s0_0 bt155.2 (([(⟨#[]⟩ : ByteArray), (⟨#[48]⟩ : ByteArray), (⟨#[49, 50]⟩ : ByteArray), (⟨#[116, 101, 120, 116]⟩ : ByteArray), (⟨#[116, 114, 97, 105, 108, 101, 114, 115]⟩ : ByteArray), (⟨#[47, 101, 99, 104, 111]⟩ : ByteArray), (⟨#[120]⟩ : ByteArray), (⟨#[121, 49]⟩ : ByteArray), (⟨#[97, 98, 99]⟩ : ByteArray)] : List ByteArray))).bind fun bt160 => ((spec_l6Rd_pick.f k s0_0 bt160.2 8).bind fun bt163 => ((spec_l6Rd_pick.f k s0_0 bt163.2 24).bind fun bt165 => (if bt165.1 = 0 then ((spec_l6Rd_of.f k s0_0 bt165.2 (([(⟨#[]⟩ : ByteArray), (⟨#[65]⟩ : ByteArray), (⟨#[97, 97, 97, 97, 97, 97, 97, 97, 97, 97, 97, 97, 97, 97, 97, 97, 97]⟩ : ByteArray)] : List ByteArray))).bind fun bt170 => (some (bt170.1, bt160.1, (bt163.1 == 0), bt170.2))) else (if bt165.1 = 1 then ((spec_l71Word.f k s0_0 bt165.2).bind fun bt172 => (some (bt155.1, bt172.1, (bt163.1 == 0), bt172.2))) else (some (bt155.1, bt160.1, (bt163.1 == 0), bt165.2)))))))) = some (r1, r2, r3, r4) := by first | (rw [hy152]; with_reducible exact H) | (have H2_ := (Option.bind_some _ _).symm.trans H; rw [hy152]; with_reducible exact H2_) | (have H2_ := (Option.bind_some _ _).symm.trans H; with_reducible exact H2_) | with_reducible exact H | (rw [hy152]; exact H) | exact H
 have Ny152 := Aside0.mk hy152
 clear hy152
 obtain ⟨⟨t155, t156⟩, A2, H⟩ := ob H
 (try dsimp only at H)
 obtain ⟨y157, hy157⟩ : ∃ y_ : List ByteArray, y_ = (([(⟨#[]⟩ : ByteArray), (⟨#[48]⟩ : ByteArray), (⟨#[49, 50]⟩ : ByteArray), (⟨#[116, 101, 120, 116]⟩ : ByteArray), (⟨#[116, 114, 97, 105, 108, 101, 114, 115]⟩ : ByteArray), (⟨#[47, 101, 99, 104, 111]⟩ : ByteArray), (⟨#[120]⟩ : ByteArray), (⟨#[121, 49]⟩ : ByteArray), (⟨#[97, 98, 99]⟩ : ByteArray)] : List ByteArray)) := ⟨_, rfl⟩
 replace H : ((spec_l6Rd_of.f k s0_0 t156 y157).bind fun bt160 => ((spec_l6Rd_pick.f k s0_0 bt160.2 8).bind fun bt163 => ((spec_l6Rd_pick.f k s0_0 bt163.2 24).bind fun bt165 => (if bt165.1 = 0 then ((spec_l6Rd_of.f k s0_0 bt165.2 (([(⟨#[]⟩ : ByteArray), (⟨#[65]⟩ : ByteArray), (⟨#[97, 97, 97, 97, 97, 97, 97, 97, 97, 97, 97, 97, 97, 97, 97, 97, 97]⟩ : ByteArray)] : List ByteArray))).bind fun bt170 => (some (bt170.1, bt160.1, (bt163.1 == 0), bt170.2))) else (if bt165.1 = 1 then ((spec_l71Word.f k s0_0 bt165.2).bind fun bt172 => (some (t155, bt172.1, (bt163.1 == 0), bt172.2))) else (some (t155, bt160.1, (bt163.1 == 0), bt165.2))))))) = some (r1, r2, r3, r4) := by first | (rw [hy157]; with_reducible exact H) | (have H2_ := (Option.bind_some _ _).symm.trans H; rw [hy157]; with_reducible exact H2_) | (have H2_ := (Option.bind_some _ _).symm.trans H; with_reducible exact H2_) | with_reducible exact H | (rw [hy157]; exact H) | exact H
 have Ny157 := Aside0.mk hy157
 clear hy157
 obtain ⟨⟨t160, t161⟩, A3, H⟩ := ob H
 (try dsimp only at H)
 obtain ⟨⟨t163, t164⟩, A4, H⟩ := ob H
 (try dsimp only at H)
 obtain ⟨⟨t165, t166⟩, A5, H⟩ := ob H
 (try dsimp only at H)
 have HC6 := Aside0.mk H
 clear H
 go_enter Try.func58, Try.ntmps58
 go_upto_if 17 with (first | ((with_reducible refine gd 2 rfl ?_); refine bx (N := 2) (cs := #[.string (⟨#[]⟩ : ByteArray), .string (⟨#[]⟩ : ByteArray), .bool false]) (t := 36) ?_; intro gb151 hg w7 hbox hb; replace HB := Aside0.mk (below_step (zg85 HB) hb); have BK151 := Aside0.mk (hbox); have GW151 := Aside0.mk ((by rw [hg]; exact (keep_size (w := w) (g := g) (row := none) (zh HK)) : w.heap.size ≤ gb151)); have GE151 := Aside0.mk ((Nat.le_trans HW0.out (by rw [hg]; exact (keep_size (w := w) (g := g) (row := none) (zh HK)) : w.heap.size ≤ gb151) : w0.heap.size ≤ gb151)); replace HK := Aside0.mk (KeepBut.trans (zh HK) (KeepBut.of_below hb g none) (.inl rfl)); have NB0_151 := Aside0.mk ((by rw [hg]; exact Nat.ne_of_lt (IsS85.lt (show IsS85 w0 _ g s0_0 s0_1 from zi85 HI0)) : g ≠ gb151)); have NB151_0 := Aside0.mk ((by rw [hg]; exact Nat.ne_of_gt (IsS85.lt (show IsS85 w0 _ g s0_0 s0_1 from zi85 HI0)) : gb151 ≠ g)); replace HI0 := Aside0.mk (IsS85.below (zi85 HI0) hb); clear hb hbox hg) | ((with_reducible refine gd 5 rfl ?_); refine Kd.R_lit Kd.string _ 9 ?hg (N := 5) ?hd (xs := ([(⟨#[58, 112, 97, 116, 104]⟩ : ByteArray), (⟨#[58, 115, 116, 97, 116, 117, 115]⟩ : ByteArray), (⟨#[107, 105, 110, 100]⟩ : ByteArray), (⟨#[115, 105, 122, 101]⟩ : ByteArray), (⟨#[116, 101]⟩ : ByteArray), (⟨#[97]⟩ : ByteArray), (⟨#[98]⟩ : ByteArray), (⟨#[107, 101, 121]⟩ : ByteArray)] : List ByteArray)) (inner := [.string (⟨#[58, 112, 97, 116, 104]⟩ : ByteArray), .string (⟨#[58, 115, 116, 97, 116, 117, 115]⟩ : ByteArray), .string (⟨#[107, 105, 110, 100]⟩ : ByteArray), .string (⟨#[115, 105, 122, 101]⟩ : ByteArray), .string (⟨#[116, 101]⟩ : ByteArray), .string (⟨#[97]⟩ : ByteArray), .string (⟨#[98]⟩ : ByteArray), .string (⟨#[107, 101, 121]⟩ : ByteArray)]) (ok := fun _ => True) (okp := fun _ => True) ?hr ?hp (fun _ hk => hk) trivial (Below.refl _ _) (Nat.le_refl _) (by simp) ?_; (case hd => rfl); (case hg => rfl); (case hr => first | (go_simp; done) | (go_simp; rfl)); (case hp => exact (Reps.one (show Kd.M Kd.string _ _ _ (⟨#[58, 112, 97, 116, 104]⟩ : ByteArray) [.string (⟨#[58, 112, 97, 116, 104]⟩ : ByteArray)] from rfl) (Reps.one (show Kd.M Kd.string _ _ _ (⟨#[58, 115, 116, 97, 116, 117, 115]⟩ : ByteArray) [.string (⟨#[58, 115, 116, 97, 116, 117, 115]⟩ : ByteArray)] from rfl) (Reps.one (show Kd.M Kd.string _ _ _ (⟨#[107, 105, 110, 100]⟩ : ByteArray) [.string (⟨#[107, 105, 110, 100]⟩ : ByteArray)] from rfl) (Reps.one (show Kd.M Kd.string _ _ _ (⟨#[115, 105, 122, 101]⟩ : ByteArray) [.string (⟨#[115, 105, 122, 101]⟩ : ByteArray)] from rfl) (Reps.one (show Kd.M Kd.string _ _ _ (⟨#[116, 101]⟩ : ByteArray) [.string (⟨#[116, 101]⟩ : ByteArray)] from rfl) (Reps.one (show Kd.M Kd.string _ _ _ (⟨#[97]⟩ : ByteArray) [.string (⟨#[97]⟩ : ByteArray)] from rfl) (Reps.one (show Kd.M Kd.string _ _ _ (⟨#[98]⟩ : ByteArray) [.string (⟨#[98]⟩ : ByteArray)] from rfl) (Reps.one (show Kd.M Kd.string _ _ _ (⟨#[107, 101, 121]⟩ : ByteArray) [.string (⟨#[107, 101, 121]⟩ : ByteArray)] from rfl) (Reps.none _ _)))))))))); intro v153 w8 ho9 hb hg_ hnew_; clear hg_ hnew_; (first | rw [← Ny152.out] at ho9 | (simp only [Int.reduceToNat] at ho9; rw [← Ny152.out] at ho9)); have HO154 := Aside0.mk (Kd.R_lower ho9 (keep_size (w := w) (g := g) (row := none) (zh HK))); replace HI0 := Aside0.mk (IsS85.below (zi85 HI0) hb); replace BK151 := kb BK151 hb; replace HK := Aside0.mk (KeepBut.trans (zh HK) (KeepBut.of_below hb g none) (.inl rfl)); replace HB := Aside0.mk (below_step (zg85 HB) hb); clear hb ho9; obtain ⟨Ao10, co10, eo10⟩ := Kd.R_slice HO154.out; subst eo10) | ((with_reducible refine gq 73 rfl ?_); refine gl (some 6) Try.func73 #[.pointer (some ⟨g, 0, none⟩), .slice Ao10 y152.length co10] ?_; (with_reducible refine (spec_l6Rd_of.calls k g s0_0 s0_1 _ _ y152 t155 t156 w0 _ ?side1 ?side2 ?side3 ?side4 ?side5 A2.out).mono ?_); (case side1 => exact zi85 HI0); (case side2 => exact zg85 HB); (case side3 => exact zc (Kd.R_reads' HO154.out).2.2); (case side4 => exact (Kd.R_reads' HO154.out).2.1); (case side5 => exact far_slice (IsS85.own_ne HI0.out HO154.out (by decide))); rintro e w11 ⟨rfl, hi, hb, hk⟩; refine ⟨_, rfl, ?_⟩; replace BK151 := Aside0.mk (KeepBut.blk hk (g' := gb151) (o := .cells #[.string (⟨#[]⟩ : ByteArray), .string (⟨#[]⟩ : ByteArray), .bool false] 36 (0, 0)) (zk BK151) NB151_0.out (by simp)); replace HO154 := Aside0.mk (Kd.R_mono (Kd.R_keep (IsS85.apart (show IsS85 w0 _ g s0_0 s0_1 from zi85 HI0) (zr HO154) (by decide)) hk (fun _ h => h.2)) (fun _ h => h.1)); replace HK := Aside0.mk (KeepBut.trans (zh HK) hk (.inl rfl)); replace HB := Aside0.mk (hb); replace HI0 := Aside0.mk (hi); (try clear hb); (try clear hk); (try clear hi)) | ((with_reducible refine gd 8 rfl ?_); refine Kd.R_lit Kd.string _ 9 ?hg (N := 8) ?hd (xs := ([(⟨#[]⟩ : ByteArray), (⟨#[48]⟩ : ByteArray), (⟨#[49, 50]⟩ : ByteArray), (⟨#[116, 101, 120, 116]⟩ : ByteArray), (⟨#[116, 114, 97, 105, 108, 101, 114, 115]⟩ : ByteArray), (⟨#[47, 101, 99, 104, 111]⟩ : ByteArray), (⟨#[120]⟩ : ByteArray), (⟨#[121, 49]⟩ : ByteArray), (⟨#[97, 98, 99]⟩ : ByteArray)] : List ByteArray)) (inner := [.string (⟨#[]⟩ : ByteArray), .string (⟨#[48]⟩ : ByteArray), .string (⟨#[49, 50]⟩ : ByteArray), .string (⟨#[116, 101, 120, 116]⟩ : ByteArray), .string (⟨#[116, 114, 97, 105, 108, 101, 114, 115]⟩ : ByteArray), .string (⟨#[47, 101, 99, 104, 111]⟩ : ByteArray), .string (⟨#[120]⟩ : ByteArray), .string (⟨#[121, 49]⟩ : ByteArray), .string (⟨#[97, 98, 99]⟩ : ByteArray)]) (ok := fun _ => True) (okp := fun _ => True) ?hr ?hp (fun _ hk => hk) trivial (Below.refl _ _) (Nat.le_refl _) (by simp) ?_; (case hd => rfl); (case hg => rfl); (case hr => first | (go_simp; done) | (go_simp; rfl)); (case hp => exact (Reps.one (show Kd.M Kd.string _ _ _ (⟨#[]⟩ : ByteArray) [.string (⟨#[]⟩ : ByteArray)] from rfl) (Reps.one (show Kd.M Kd.string _ _ _ (⟨#[48]⟩ : ByteArray) [.string (⟨#[48]⟩ : ByteArray)] from rfl) (Reps.one (show Kd.M Kd.string _ _ _ (⟨#[49, 50]⟩ : ByteArray) [.string (⟨#[49, 50]⟩ : ByteArray)] from rfl) (Reps.one (show Kd.M Kd.string _ _ _ (⟨#[116, 101, 120, 116]⟩ : ByteArray) [.string (⟨#[116, 101, 120, 116]⟩ : ByteArray)] from rfl) (Reps.one (show Kd.M Kd.string _ _ _ (⟨#[116, 114, 97, 105, 108, 101, 114, 115]⟩ : ByteArray) [.string (⟨#[116, 114, 97, 105, 108, 101, 114, 115]⟩ : ByteArray)] from rfl) (Reps.one (show Kd.M Kd.string _ _ _ (⟨#[47, 101, 99, 104, 111]⟩ : ByteArray) [.string (⟨#[47, 101, 99, 104, 111]⟩ : ByteArray)] from rfl) (Reps.one (show Kd.M Kd.string _ _ _ (⟨#[120]⟩ : ByteArray) [.string (⟨#[120]⟩ : ByteArray)] from rfl) (Reps.one (show Kd.M Kd.string _ _ _ (⟨#[121, 49]⟩ : ByteArray) [.string (⟨#[121, 49]⟩ : ByteArray)] from rfl) (Reps.one (show Kd.M Kd.string _ _ _ (⟨#[97, 98, 99]⟩ : ByteArray) [.string (⟨#[97, 98, 99]⟩ : ByteArray)] from rfl) (Reps.none _ _))))))))))); intro v158 w12 ho13 hb hg_ hnew_; clear hg_ hnew_; (first | rw [← Ny157.out] at ho13 | (simp only [Int.reduceToNat] at ho13; rw [← Ny157.out] at ho13)); have HO159 := Aside0.mk (Kd.R_lower (Kd.R_new' ho13 (Kd.R_lt (zr HO154))) (keep_size (w := w) (g := g) (row := none) (zh HK))); replace HO154 := Aside0.mk (Kd.R_elder' (zr HO154) (Kd.R_base ho13) hb); replace HI0 := Aside0.mk (IsS85.below (zi85 HI0) hb); replace BK151 := kb BK151 hb; replace HK := Aside0.mk (KeepBut.trans (zh HK) (KeepBut.of_below hb g none) (.inl rfl)); replace HB := Aside0.mk (below_step (zg85 HB) hb); clear hb ho13; obtain ⟨Ao14, co14, eo14⟩ := Kd.R_slice HO159.out; subst eo14) | ((with_reducible refine gq 73 rfl ?_); refine gl (some 9) Try.func73 #[.pointer (some ⟨g, 0, none⟩), .slice Ao14 y157.length co14] ?_; (with_reducible refine (spec_l6Rd_of.calls k g s0_0 t156 _ _ y157 t160 t161 w0 _ ?side1 ?side2 ?side3 ?side4 ?side5 A3.out).mono ?_); (case side1 => exact zi85 HI0); (case side2 => exact zg85 HB); (case side3 => exact zc (Kd.R_reads' HO159.out).2.2); (case side4 => exact (Kd.R_reads' HO159.out).2.1); (case side5 => exact far_slice (IsS85.own_ne HI0.out HO159.out (by decide))); rintro e w15 ⟨rfl, hi, hb, hk⟩; refine ⟨_, rfl, ?_⟩; replace BK151 := Aside0.mk (KeepBut.blk hk (g' := gb151) (o := .cells #[.string (⟨#[]⟩ : ByteArray), .string (⟨#[]⟩ : ByteArray), .bool false] 36 (0, 0)) (zk BK151) NB151_0.out (by simp)); replace HO154 := Aside0.mk (Kd.R_mono (Kd.R_keep (IsS85.apart (show IsS85 w0 _ g s0_0 t156 from zi85 HI0) (zr HO154) (by decide)) hk (fun _ h => h.2)) (fun _ h => h.1)); replace HO159 := Aside0.mk (Kd.R_mono (Kd.R_keep (IsS85.apart (show IsS85 w0 _ g s0_0 t156 from zi85 HI0) (zr HO159) (by decide)) hk (fun _ h => h.2)) (fun _ h => h.1)); replace HK := Aside0.mk (KeepBut.trans (zh HK) hk (.inl rfl)); replace HB := Aside0.mk (hb); replace HI0 := Aside0.mk (hi); (try clear hb); (try clear hk); (try clear hi)) | ((with_reducible refine gd 3 rfl ?_); refine bx (N := 3) (cs := #[.string (⟨#[]⟩ : ByteArray), .string (⟨#[]⟩ : ByteArray), .bool false]) (t := 36) ?_; intro gb162 hg w16 hbox hb; replace HO154 := Aside0.mk (Kd.R_below (zr HO154) hb); replace HO159 := Aside0.mk (Kd.R_below (zr HO159) hb); replace HB := Aside0.mk (below_step (zg85 HB) hb); have BK162 := Aside0.mk (hbox); have GW162 := Aside0.mk ((by rw [hg]; exact (keep_size (w := w) (g := g) (row := none) (zh HK)) : w.heap.size ≤ gb162)); have GE162 := Aside0.mk ((Nat.le_trans HW0.out (by rw [hg]; exact (keep_size (w := w) (g := g) (row := none) (zh HK)) : w.heap.size ≤ gb162) : w0.heap.size ≤ gb162)); replace HK := Aside0.mk (KeepBut.trans (zh HK) (KeepBut.of_below hb g none) (.inl rfl)); obtain ⟨NB151_162, NB162_151⟩ := nb BK151 hg; replace BK151 := kb BK151 hb; have NB0_162 := Aside0.mk ((by rw [hg]; exact Nat.ne_of_lt (IsS85.lt (show IsS85 w0 _ g s0_0 t161 from zi85 HI0)) : g ≠ gb162)); have NB162_0 := Aside0.mk ((by rw [hg]; exact Nat.ne_of_gt (IsS85.lt (show IsS85 w0 _ g s0_0 t161 from zi85 HI0)) : gb162 ≠ g)); replace HI0 := Aside0.mk (IsS85.below (zi85 HI0) hb); clear hb hbox hg; have hnb17 := NB162_151.out; have hnc17 := NB151_162.out; have hnb18 := NB162_0.out; have hnc18 := NB0_162.out; obtain ⟨hcz19_0, hcz19_1, hcz19_2, hfz19_0, hfz19_1, hfz19_2⟩ := c3 BK162) | ((with_reducible refine gq 47 rfl ?_); refine gl (some 12) Try.func47 #[.pointer (some ⟨g, 0, none⟩), .int .i64 8] ?_; (with_reducible refine (spec_l6Rd_pick.calls k g s0_0 t161 8 t163 t164 w0 _ ?side1 ?side2 A4.out).mono ?_); (case side1 => exact zi85 HI0); (case side2 => exact zg85 HB); rintro e w20 ⟨rfl, hi, hb, hk⟩; refine ⟨_, rfl, ?_⟩; replace BK151 := Aside0.mk (KeepBut.blk hk (g' := gb151) (o := .cells #[.string (⟨#[]⟩ : ByteArray), .string (⟨#[]⟩ : ByteArray), .bool false] 36 (0, 0)) (zp BK151) NB151_0.out (by simp)); replace HO154 := Aside0.mk (Kd.R_mono (Kd.R_keep (IsS85.apart (show IsS85 w0 _ g s0_0 t161 from zi85 HI0) (((Kd.R_mono (ztR (Kd.R_types HO154.out BK162.out (by decide))) (fun _ h_ => h_.1)))) (by decide)) hk (fun _ h => h.2)) (fun _ h => h.1)); replace HO159 := Aside0.mk (Kd.R_mono (Kd.R_keep (IsS85.apart (show IsS85 w0 _ g s0_0 t161 from zi85 HI0) (((Kd.R_mono (ztR (Kd.R_types HO159.out BK162.out (by decide))) (fun _ h_ => h_.1)))) (by decide)) hk (fun _ h => h.2)) (fun _ h => h.1)); replace BK162 := Aside0.mk (KeepBut.blk hk (g' := gb162) (o := .cells #[.string t155, .string t160, .bool false] 36 (0, 0)) (zp BK162) NB162_0.out (by simp)); replace HK := Aside0.mk (KeepBut.trans (zh HK) hk (.inl rfl)); replace HB := Aside0.mk (hb); replace HI0 := Aside0.mk (hi); (try clear hb); (try clear hk); (try clear hi); obtain ⟨hcz21_0, hcz21_1, hcz21_2, hfz21_0, hfz21_1, hfz21_2⟩ := c3 BK162) | ((with_reducible refine gq 47 rfl ?_); refine gl (some 16) Try.func47 #[.pointer (some ⟨g, 0, none⟩), .int .i64 24] ?_; (with_reducible refine (spec_l6Rd_pick.calls k g s0_0 t164 24 t165 t166 w0 _ ?side1 ?side2 A5.out).mono ?_); (case side1 => exact zi85 HI0); (case side2 => exact zg85 HB); rintro e w22 ⟨rfl, hi, hb, hk⟩; refine ⟨_, rfl, ?_⟩; replace BK151 := Aside0.mk (KeepBut.blk hk (g' := gb151) (o := .cells #[.string (⟨#[]⟩ : ByteArray), .string (⟨#[]⟩ : ByteArray), .bool false] 36 (0, 0)) (zp BK151) NB151_0.out (by simp)); replace HO154 := Aside0.mk (Kd.R_mono (Kd.R_keep (IsS85.apart (show IsS85 w0 _ g s0_0 t164 from zi85 HI0) (((Kd.R_mono (ztR (Kd.R_types HO154.out BK162.out (by decide))) (fun _ h_ => h_.1)))) (by decide)) hk (fun _ h => h.2)) (fun _ h => h.1)); replace HO159 := Aside0.mk (Kd.R_mono (Kd.R_keep (IsS85.apart (show IsS85 w0 _ g s0_0 t164 from zi85 HI0) (((Kd.R_mono (ztR (Kd.R_types HO159.out BK162.out (by decide))) (fun _ h_ => h_.1)))) (by decide)) hk (fun _ h => h.2)) (fun _ h => h.1)); replace BK162 := Aside0.mk (KeepBut.blk hk (g' := gb162) (o := .cells #[.string t155, .string t160, .bool (t163 == 0)] 36 (0, 0)) (zp BK162) NB162_0.out (by simp)); replace HK := Aside0.mk (KeepBut.trans (zh HK) hk (.inl rfl)); replace HB := Aside0.mk (hb); replace HI0 := Aside0.mk (hi); (try clear hb); (try clear hk); (try clear hi)))
 (try simp only [Act.put, s1, s2, s3])
 have H := HC6.out
 clear HC6
 replace H := sp H
 rcases H with ⟨c23, H⟩ | ⟨c23, H⟩
 ·skip
  have c23b0 : (t165 == 0) = true := beq_iff_eq.mpr c23
  have c23b1 : (t165 != 0) = false := bne_eq_false_iff_eq.mpr c23
  clear c23
  (first | rw [c23b0] | rw [c23b1] | rw [c23b2] | (simp only [i64_w, i32_w]; rw [c23b0]) | skip)
  obtain ⟨y167, hy167⟩ : ∃ y_ : List ByteArray, y_ = (([(⟨#[]⟩ : ByteArray), (⟨#[65]⟩ : ByteArray), (⟨#[97, 97, 97, 97, 97, 97, 97, 97, 97, 97, 97, 97, 97, 97, 97, 97, 97]⟩ : ByteArray)] : List ByteArray)) := ⟨_, rfl⟩
  replace H : ((spec_l6Rd_of.f k s0_0 t166 y167).bind fun bt170 => (some (bt170.1, t160, (t163 == 0), bt170.2))) = some (r1, r2, r3, r4) := by first | (rw [hy167]; with_reducible exact H) | (have H2_ := (Option.bind_some _ _).symm.trans H; rw [hy167]; with_reducible exact H2_) | (have H2_ := (Option.bind_some _ _).symm.trans H; with_reducible exact H2_) | with_reducible exact H | (rw [hy167]; exact H) | exact H
  have Ny167 := Aside0.mk hy167
  clear hy167
  obtain ⟨⟨t170, t171⟩, A24, H⟩ := ob H
  (try dsimp only at H)
  simp only [Option.some.injEq, Prod.mk.injEq] at H
  obtain ⟨rfl, rfl, rfl, rfl⟩ := H
  go_wp2_with (first | ((with_reducible refine gd 20 rfl ?_); refine Kd.R_lit Kd.string _ 9 ?hg (N := 20) ?hd (xs := ([(⟨#[]⟩ : ByteArray), (⟨#[65]⟩ : ByteArray), (⟨#[97, 97, 97, 97, 97, 97, 97, 97, 97, 97, 97, 97, 97, 97, 97, 97, 97]⟩ : ByteArray)] : List ByteArray)) (inner := [.string (⟨#[]⟩ : ByteArray), .string (⟨#[65]⟩ : ByteArray), .string (⟨#[97, 97, 97, 97, 97, 97, 97, 97, 97, 97, 97, 97, 97, 97, 97, 97, 97]⟩ : ByteArray)]) (ok := fun _ => True) (okp := fun _ => True) ?hr ?hp (fun _ hk => hk) trivial (Below.refl _ _) (Nat.le_refl _) (by simp) ?_; (case hd => rfl); (case hg => rfl); (case hr => first | (go_simp; done) | (go_simp; rfl)); (case hp => exact (Reps.one (show Kd.M Kd.string _ _ _ (⟨#[]⟩ : ByteArray) [.string (⟨#[]⟩ : ByteArray)] from rfl) (Reps.one (show Kd.M Kd.string _ _ _ (⟨#[65]⟩ : ByteArray) [.string (⟨#[65]⟩ : ByteArray)] from rfl) (Reps.one (show Kd.M Kd.string _ _ _ (⟨#[97, 97, 97, 97, 97, 97, 97, 97, 97, 97, 97, 97, 97, 97, 97, 97, 97]⟩ : ByteArray) [.string (⟨#[97, 97, 97, 97, 97, 97, 97, 97, 97, 97, 97, 97, 97, 97, 97, 97, 97]⟩ : ByteArray)] from rfl) (Reps.none _ _))))); intro v168 w25 ho26 hb hg_ hnew_; clear hg_ hnew_; (first | rw [← Ny167.out] at ho26 | (simp only [Int.reduceToNat] at ho26; rw [← Ny167.out] at ho26)); have HO169 := Aside0.mk (Kd.R_lower (Kd.R_new' (Kd.R_new' ho26 (Kd.R_lt (zr HO154))) (Kd.R_lt (zr HO159))) (keep_size (w := w) (g := g) (row := none) (zh HK))); replace HO154 := Aside0.mk (Kd.R_elder' (zr HO154) (Kd.R_base ho26) hb); replace HO159 := Aside0.mk (Kd.R_elder' (zr HO159) (Kd.R_base ho26) hb); replace HI0 := Aside0.mk (IsS85.below (zi85 HI0) hb); replace BK151 := kb BK151 hb; replace BK162 := kb BK162 hb; replace HK := Aside0.mk (KeepBut.trans (zh HK) (KeepBut.of_below hb g none) (.inl rfl)); replace HB := Aside0.mk (below_step (zg85 HB) hb); clear hb ho26; obtain ⟨Ao27, co27, eo27⟩ := Kd.R_slice HO169.out; subst eo27) | ((with_reducible refine gq 73 rfl ?_); refine gl (some 21) Try.func73 #[.pointer (some ⟨g, 0, none⟩), .slice Ao27 y167.length co27] ?_; (with_reducible refine (spec_l6Rd_of.calls k g s0_0 t166 _ _ y167 t170 t171 w0 _ ?side1 ?side2 ?side3 ?side4 ?side5 A24.out).mono ?_); (case side1 => exact zi85 HI0); (case side2 => exact zg85 HB); (case side3 => exact zc (Kd.R_reads' HO169.out).2.2); (case side4 => exact (Kd.R_reads' HO169.out).2.1); (case side5 => exact far_slice (IsS85.own_ne HI0.out HO169.out (by decide))); rintro e w28 ⟨rfl, hi, hb, hk⟩; refine ⟨_, rfl, ?_⟩; replace BK151 := Aside0.mk (KeepBut.blk hk (g' := gb151) (o := .cells #[.string (⟨#[]⟩ : ByteArray), .string (⟨#[]⟩ : ByteArray), .bool false] 36 (0, 0)) (zk BK151) NB151_0.out (by simp)); replace HO154 := Aside0.mk (Kd.R_mono (Kd.R_keep (IsS85.apart (show IsS85 w0 _ g s0_0 t166 from zi85 HI0) (zr HO154) (by decide)) hk (fun _ h => h.2)) (fun _ h => h.1)); replace HO159 := Aside0.mk (Kd.R_mono (Kd.R_keep (IsS85.apart (show IsS85 w0 _ g s0_0 t166 from zi85 HI0) (zr HO159) (by decide)) hk (fun _ h => h.2)) (fun _ h => h.1)); replace BK162 := Aside0.mk (KeepBut.blk hk (g' := gb162) (o := .cells #[.string t155, .string t160, .bool (t163 == 0)] 36 (0, 0)) (zk BK162) NB162_0.out (by simp)); replace HO169 := Aside0.mk (Kd.R_mono (Kd.R_keep (IsS85.apart (show IsS85 w0 _ g s0_0 t166 from zi85 HI0) (zr HO169) (by decide)) hk (fun _ h => h.2)) (fun _ h => h.1)); replace HK := Aside0.mk (KeepBut.trans (zh HK) hk (.inl rfl)); replace HB := Aside0.mk (hb); replace HI0 := Aside0.mk (hi); (try clear hb); (try clear hk); (try clear hi); have hnb29 := NB162_151.out; have hnc29 := NB151_162.out; have hnb30 := NB162_0.out; have hnc30 := NB0_162.out; obtain ⟨hcz31_0, hcz31_1, hcz31_2, hfz31_0, hfz31_1, hfz31_2⟩ := c3 BK162; have hnb32 := NB151_0.out; have hnc32 := NB0_151.out; obtain ⟨hcz33_0, hcz33_1, hcz33_2, hfz33_0, hfz33_1, hfz33_2⟩ := c3 BK151))
  refine bodyPost_ret (results_cell_row rfl _ _ gb151 36 #[.string t170, .string t160, .bool (t163 == 0)] (0, 0) _ rfl (zp BK151) Try.underlying36 rfl (by kernel_rfl)) rfl ?_
  exact ⟨ze, zi85 HI0, zg85 HB, zh HK⟩
 ·skip
  have c23b0 : (t165 == 0) = false := beq_eq_false_iff_ne.mpr c23
  have c23b1 : (t165 != 0) = true := bne_iff_ne.mpr c23
  (first | rw [c23b0] | rw [c23b1] | rw [c23b2] | (simp only [i64_w, i32_w]; rw [c23b0]) | skip)
  replace H := sp H
  rcases H with ⟨c34, H⟩ | ⟨c34, H⟩
  ·skip
   have c34b0 : (t165 == 1) = true := beq_iff_eq.mpr c34
   have c34b1 : (t165 != 1) = false := bne_eq_false_iff_eq.mpr c34
   clear c34
   obtain ⟨⟨t172, t173⟩, A35, H⟩ := ob H
   (try dsimp only at H)
   simp only [Option.some.injEq, Prod.mk.injEq] at H
   obtain ⟨rfl, rfl, rfl, rfl⟩ := H
   go_wp2_with (first | ((with_reducible refine gq 74 rfl ?_); refine gl (some 26) Try.func74 #[.pointer (some ⟨g, 0, none⟩)] ?_; (with_reducible refine (spec_l71Word.calls k g s0_0 t166 t172 t173 w0 _ ?side1 ?side2 A35.out).mono ?_); (case side1 => exact zi85 HI0); (case side2 => exact zg85 HB); rintro e w36 ⟨rfl, hi, hb, hk⟩; refine ⟨_, rfl, ?_⟩; replace BK151 := Aside0.mk (KeepBut.blk hk (g' := gb151) (o := .cells #[.string (⟨#[]⟩ : ByteArray), .string (⟨#[]⟩ : ByteArray), .bool false] 36 (0, 0)) (zk BK151) NB151_0.out (by simp)); replace HO154 := Aside0.mk (Kd.R_mono (Kd.R_keep (IsS85.apart (show IsS85 w0 _ g s0_0 t166 from zi85 HI0) (zr HO154) (by decide)) hk (fun _ h => h.2)) (fun _ h => h.1)); replace HO159 := Aside0.mk (Kd.R_mono (Kd.R_keep (IsS85.apart (show IsS85 w0 _ g s0_0 t166 from zi85 HI0) (zr HO159) (by decide)) hk (fun _ h => h.2)) (fun _ h => h.1)); replace BK162 := Aside0.mk (KeepBut.blk hk (g' := gb162) (o := .cells #[.string t155, .string t160, .bool (t163 == 0)] 36 (0, 0)) (zk BK162) NB162_0.out (by simp)); replace HK := Aside0.mk (KeepBut.trans (zh HK) hk (.inl rfl)); replace HB := Aside0.mk (hb); replace HI0 := Aside0.mk (hi); (try clear hb); (try clear hk); (try clear hi); have hnb37 := NB162_151.out; have hnc37 := NB151_162.out; have hnb38 := NB162_0.out; have hnc38 := NB0_162.out; obtain ⟨hcz39_0, hcz39_1, hcz39_2, hfz39_0, hfz39_1, hfz39_2⟩ := c3 BK162; have hnb40 := NB151_0.out; have hnc40 := NB0_151.out; obtain ⟨hcz41_0, hcz41_1, hcz41_2, hfz41_0, hfz41_1, hfz41_2⟩ := c3 BK151))
   refine bodyPost_ret (results_cell_row rfl _ _ gb151 36 #[.string t155, .string t172, .bool (t163 == 0)] (0, 0) _ rfl (zp BK151) Try.underlying36 rfl (by kernel_rfl)) rfl ?_
   exact ⟨ze, zi85 HI0, zg85 HB, zh HK⟩
  ·skip
   have c34b0 : (t165 == 1) = false := beq_eq_false_iff_ne.mpr c34
   have c34b1 : (t165 != 1) = true := bne_iff_ne.mpr c34
   simp only [Option.some.injEq, Prod.mk.injEq] at H
   obtain ⟨rfl, rfl, rfl, rfl⟩ := H
   have hnb42 := NB162_151.out
   have hnc42 := NB151_162.out
   have hnb43 := NB162_0.out
   have hnc43 := NB0_162.out
   obtain ⟨hcz44_0, hcz44_1, hcz44_2, hfz44_0, hfz44_1, hfz44_2⟩ := c3 BK162
   have hnb45 := NB151_0.out
   have hnc45 := NB0_151.out
   obtain ⟨hcz46_0, hcz46_1, hcz46_2, hfz46_0, hfz46_1, hfz46_2⟩ := c3 BK151
   go_wp2
   refine bodyPost_ret (results_cell_row rfl _ _ gb151 36 #[.string t155, .string t160, .bool (t163 == 0)] (0, 0) _ rfl (zp BK151) Try.underlying36 rfl (by kernel_rfl)) rfl ?_
   exact ⟨ze, zi85 HI0, zg85 HB, zh HK⟩

/-! ### spec_l3Fit: function 51 -/
-- thin
def spec_l3Fit.l0 : Nat → List (S36) → List (S36) → Int → Option ((List (S36)) × Int)
 | 0, _, _, _ => none
 | k + 1, x3, x175000, x175001 => (spec_l3Size.f k x3).bind fun t182 => (if t182 > x175001 then (if 0 ≤ (wrap64 ((x3.length : Int) - 1)) then (if (wrap64 ((x3.length : Int) - 1)) ≤ (x3.length : Int) then (spec_l3Fit.l0 k (x3.take ((wrap64 ((x3.length : Int) - 1)) : Int).toNat) x175000 x175001) else (none)) else (none)) else (some (x3, x175001)))
def spec_l3Fit.f (k : Nat) (l0_0 : List (S36)) (a0_1 : Int) : Option ((List (S36)) × Int) := (some (([] : List (S36)) : List (S36))).bind fun y176 => (if y176.length + l0_0.length < 3518437208883 then (spec_l3Fit.l0 k (y176 ++ l0_0) l0_0 a0_1) else (none))
theorem spec_l3Fit.mono_l : ∀ k, (∀ y0 y1 y2, LeO (spec_l3Fit.l0 k y0 y1 y2) (spec_l3Fit.l0 (k + 1) y0 y1 y2))
 | 0 => fun _ _ _ r h => by simp [spec_l3Fit.l0] at h
 | k + 1 => by
  have ih0 := spec_l3Fit.mono_l k
  ·intro y0 y1 y2
   unfold spec_l3Fit.l0
   have m0 := @spec_l3Size.mono
   exact zm
theorem spec_l3Fit.mono : ∀ a0 a1 k, LeO (spec_l3Fit.f k a0 a1) (spec_l3Fit.f (k + 1) a0 a1) := by
 intro a0 a1 k
 have ih0 := spec_l3Fit.mono_l k
 unfold spec_l3Fit.f
 have m0 := @spec_l3Size.mono
 exact zm
set_option maxHeartbeats 8000000 in
set_option maxRecDepth 100000 in
theorem spec_l3Fit.calls (k : Nat) (A0_0 : Option Addr) (c0_0 : Nat) (l0_0 : List (S36)) (a0_1 : Int) (r1 : List (S36)) (r2 : Int) (w : World) (hr0_0 : Kd.C k36 w A0_0 l0_0.length l0_0) (hc0_0 : l0_0.length ≤ c0_0) (h : spec_l3Fit.f k l0_0 a0_1 = some (r1, r2)) :
  Calls Try.prog 51 #[.agg #[.slice A0_0 l0_0.length c0_0, .int .i64 a0_1]] w fun e w' => ∃ v0_ : Value, e = .returned (.agg #[v0_, .int .i64 r2]) ∧ Kd.R k36 36 w' w.heap.size (fun _ => True) v0_ r1 ∧ Below w.heap.size w w' := by
 have hu25 := Try.underlying25
 have HR0_0 := Aside0.mk hr0_0
 have HC0_0 := Aside0.mk hc0_0
 clear hr0_0 hc0_0
 have HB := Aside0.mk (Below.refl w.heap.size w)
 have H : ((some (([] : List (S36)) : List (S36))).bind fun y176 => (if y176.length + l0_0.length < 3518437208883 then (spec_l3Fit.l0 k (y176 ++ l0_0) l0_0 a0_1) else (none))) = some (r1, r2) := h
 clear h
 obtain ⟨y176, hy176⟩ : ∃ y_ : List (S36), y_ = (([] : List (S36))) := ⟨_, rfl⟩
 replace H : (if y176.length + l0_0.length < 3518437208883 then (spec_l3Fit.l0 k (y176 ++ l0_0) l0_0 a0_1) else (none)) = some (r1, r2) := by first | (rw [hy176]; with_reducible exact H) | (have H2_ := (Option.bind_some _ _).symm.trans H; rw [hy176]; with_reducible exact H2_) | (have H2_ := (Option.bind_some _ _).symm.trans H; with_reducible exact H2_) | with_reducible exact H | (rw [hy176]; exact H) | exact H
 have Ny176 := Aside0.mk hy176
 clear hy176
 replace H := sp H
 rcases H with ⟨c2, H⟩ | ⟨c2, H⟩
 ·skip
  have LMc2 := Aside0.mk c2
  clear c2
  obtain ⟨y179, hy179⟩ : ∃ y_ : List (S36), y_ = (y176 ++ l0_0) := ⟨_, rfl⟩
  replace H : (spec_l3Fit.l0 k y179 l0_0 a0_1) = some (r1, r2) := by first | (rw [hy179]; with_reducible exact H) | (have H2_ := (Option.bind_some _ _).symm.trans H; rw [hy179]; with_reducible exact H2_) | (have H2_ := (Option.bind_some _ _).symm.trans H; with_reducible exact H2_) | with_reducible exact H | (rw [hy179]; exact H) | exact H
  have Ny179 := Aside0.mk hy179
  clear hy179
  have H' := Aside0.mk H
  clear H
  go_enter Try.func51, Try.ntmps51
  go_wp2_with (first | ((with_reducible refine gd 1 rfl ?_); refine bx (N := 1) (cs := #[.slice A0_0 l0_0.length c0_0, .int .i64 a0_1]) (t := 25) ?_; intro gb174 hg w3 hbox hb; have BK174 := Aside0.mk (hbox); have GW174 := gw HB hg; have GE174 := GW174; replace HB := Aside0.mk (below_step (zb HB) hb); clear hb hbox hg) | ((with_reducible refine gd 2 rfl ?_); refine bx (N := 2) (cs := #[.slice none 0 0, .int .i64 0]) (t := 25) ?_; intro gb175 hg w4 hbox hb; have BK175 := Aside0.mk (hbox); have GW175 := gw HB hg; have GE175 := GW175; replace HB := Aside0.mk (below_step (zb HB) hb); obtain ⟨NB174_175, NB175_174⟩ := nb BK174 hg; replace BK174 := kb BK174 hb; clear hb hbox hg) | ((with_reducible refine gd 4 rfl ?_); refine Kd.R_lit k36 _ 36 ?hg (N := 4) ?hd (xs := ([] : List (S36))) (inner := []) (ok := fun _ => True) (okp := fun _ => True) ?hr ?hp (fun _ hk => hk) trivial (Below.refl _ _) (Nat.le_refl _) (by simp) ?_; (case hd => rfl); (case hg => rfl); (case hr => first | (go_simp; done) | (go_simp; rfl)); (case hp => exact (Reps.none _ _)); intro v177 w5 ho6 hb hg_ hnew_; clear hg_ hnew_; (first | rw [← Ny176.out] at ho6 | (simp only [Int.reduceToNat] at ho6; rw [← Ny176.out] at ho6)); have HO178 := Aside0.mk (Kd.R_lower ho6 (below_size (zb HB))); replace BK174 := kb BK174 hb; replace BK175 := kb BK175 hb; replace HB := Aside0.mk (below_step (zb HB) hb); clear hb ho6; have hnb7 := NB174_175.out; have hnc7 := NB175_174.out; obtain ⟨hcz8_0, hcz8_1, hfz8_0, hfz8_1⟩ := c2 BK174) | ((with_reducible refine gate_builtin (b := .append) (xs := #[.tmp 4, .tmp 6]) rfl ?_); at_builtin; refine Kd.R_append_rows k36 (w0 := w) w.heap.size rfl (.tmp 4) (.tmp 6) 23 36 (.agg #[(.string ⟨#[]⟩), (.string ⟨#[]⟩), (.bool false)]) 40 rfl Try.underlying23 info36 rfl (by decide) (by omega) v177 y176 l0_0 _ _ _ (fun _ => True) (fun _ => False) rfl rfl ?aO ?aR (fun _ _ h => h) (fun _ h => h.elim) ?aF ?aB ?aS ?aL ?_; (case aR => exact zc (Kd.C_below HR0_0.out HB.out)); (case aB => exact (zb HB)); (case aF => exact (fun _ _ => trivial)); (case aO => exact (zr HO178)); (case aS => exact (below_size (zb HB))); (case aL => have := LMc2.out; omega); intro v180 w9 ho hb hg hat; rw [← Ny179.out] at ho; replace BK174 := Aside0.mk (blk_grown (zk BK174) hg (Kd.R_ne HO178.out BK174.out (by decide))); replace BK175 := Aside0.mk (blk_grown (zk BK175) hg (Kd.R_ne HO178.out BK175.out (by decide))); replace HB := Aside0.mk (hb); have HO181 := Aside0.mk (ho); clear HO178; clear ho hb hg hat))
  go_loopg [3] k (fun kq v3 w' => ∃ (x3_1 : List (S36)), Aside0 (spec_l3Fit.l0 kq x3_1 l0_0 a0_1 = some (r1, r2)) ∧ Aside0 (kq ≤ k) ∧ Aside0 (Kd.R k36 36 w' w.heap.size (fun _ => True) v3 x3_1) ∧ Aside0 (w'.heap[gb174]? = some (.cells #[(.slice A0_0 l0_0.length c0_0), .int .i64 a0_1] 25 (0, 0))) ∧ Aside0 (w'.heap[gb175]? = some (.cells #[(.slice none 0 0), .int .i64 0] 25 (0, 0))) ∧ Aside0 (Below w.heap.size w w'))
  case atStart => exact ⟨(y179), H', ⟨Nat.le_refl _⟩, ⟨by exact zr HO181⟩, ⟨by exact zk BK174⟩, ⟨by exact zk BK175⟩, ⟨zb HB⟩⟩
  case round =>
   clear H'
   try clear c2
   try clear p2
   try clear c5
   try clear c7
   try clear hcz8_0
   try clear hcz8_1
   try clear hfz8_0
   try clear hfz8_1
   obtain ⟨x3_1, HA, HK1, HO_3, BK174, BK175, HB⟩ := hrel
   cases gk with
   | zero => exact absurd HA.out (by simp [spec_l3Fit.l0])
   | succ k1 =>
    have H := HA.out
    clear HA
    simp only [spec_l3Fit.l0] at H
    obtain ⟨t182, A10, H⟩ := ob H
    (try dsimp only at H)
    by_cases c11 : t182 > a0_1
    ·rw [if_pos c11] at H
     have c11b0 := decide_eq_true c11
     clear c11
     obtain ⟨ji12, hji12⟩ : ∃ j_ : Int, (wrap64 ((x3_1.length : Int) - 1)) = j_ := ⟨_, rfl⟩
     replace H : (if 0 ≤ (ji12) then (if (ji12) ≤ (x3_1.length : Int) then (spec_l3Fit.l0 k1 (x3_1.take ((ji12) : Int).toNat) l0_0 a0_1) else (none)) else (none)) = some (r1, r2) := by first | (rw [hji12] at H; exact H) | (simp only [hji12] at H ⊢; exact H)
     (try rw [hji12] at A10)
     have hji12w : (IntKind.i64.wrap ((x3_1.length : Int) - 1)) = ji12 := (i64_w _).trans hji12
     by_cases c13 : 0 ≤ (ji12)
     ·rw [if_pos c13] at H
      have c13b0 := eq_true c13
      have c13b1 := decide_eq_true c13
      clear c13
      by_cases c14 : (ji12) ≤ (x3_1.length : Int)
      ·rw [if_pos c14] at H
       have c14b0 := eq_true c14
       have c14b1 := decide_eq_true c14
       clear c14
       obtain ⟨y183, hy183⟩ : ∃ y_ : List (S36), y_ = (x3_1.take ((ji12) : Int).toNat) := ⟨_, rfl⟩
       replace H : (spec_l3Fit.l0 k1 y183 l0_0 a0_1) = some (r1, r2) := by first | (rw [hy183]; with_reducible exact H) | (have H2_ := (Option.bind_some _ _).symm.trans H; rw [hy183]; with_reducible exact H2_) | (have H2_ := (Option.bind_some _ _).symm.trans H; with_reducible exact H2_) | with_reducible exact H | (rw [hy183]; exact H) | exact H
       have Ny183 := Aside0.mk hy183
       clear hy183
       have H' := Aside0.mk H
       clear H
       try go_wp2
       replace HO_3 := Aside0.mk (Kd.R_drew HO_3.out)
       replace BK174 := Aside0.mk (blk_drew BK174.out)
       replace BK175 := Aside0.mk (blk_drew BK175.out)
       replace HB := Aside0.mk (below_drew1 HB.out)
       obtain ⟨Ao16, co16, eo16⟩ := Kd.R_slice HO_3.out
       (first | subst eo16 | (injection eo16 with f1_ f2_ f3_; have f4_ := f1_.symm; have f5_ := f3_.symm; clear f1_ f2_ f3_; subst f4_; subst f5_))
       refine st 5 (b2 BK174) (fun hHeld => ?_)
       generalize wr.drew = w15 at HO_3 BK174 BK175 HB hHeld ⊢
       refine pu 0 (some 8) (bm 5 1) rfl rfl ?_
       refine pu 2 (some 10) (bm 5 5) rfl rfl ?_
       refine tk 3 (some 11) (bm 5 13) rfl rfl hHeld ?_
       refine one_ (i := 1) (N := some 9) (bm 5 15) rfl rfl (by kernel_rfl) (by decide) (fun K hK => ?_)
       refine gs Try.func52 #[.slice Ao16 x3_1.length co16] ?_
       with_reducible refine (spec_l3Size.calls k1 _ _ x3_1 t182 _ ?side1 ?side2 A10.out).mono ?_
       (case side1 => exact zc (Kd.R_reads' HO_3.out).2.2)
       (case side2 => exact (Kd.R_reads' HO_3.out).2.1)
       rintro e w17 ⟨rfl, hb⟩
       refine ⟨_, rfl, ?_⟩
       replace HO_3 := Aside0.mk (Kd.R_below (zr HO_3) hb)
       replace BK174 := kb BK174 hb
       replace BK175 := kb BK175 hb
       replace HB := Aside0.mk (below_step (zb HB) hb)
       (try clear hb)
       refine hK.out _ _ (b2 BK174) (fun hHeld => ?_)
       clear hK K
       refine nm ?_
       refine pu 4 (some 12) (bm 5 31) rfl rfl ?_
       refine done_ (by kernel_rfl) ?_
       have q18 : ((ji12) : Int) ≤ ((x3_1.length : Int) : Int) := of_decide_eq_true za
       obtain ⟨i018, hi018, _, hsz18, _⟩ := info_parts info36
       have hcut18 := cut_to (P := Try.prog) 23 36 .i64 Try.underlying23 hi018 Ao16 x3_1.length co16 (ji12) (of_decide_eq_true za) q18 (Kd.R_reads' HO_3.out).2.1
       have hr18 := Kd.R_take (m := ((ji12) : Int).toNat) HO_3.out (by omega)
       have hy18 : y183.length = ((ji12) : Int).toNat := (by rw [Ny183.out, List.length_take]; omega)
       rw [← Ny183.out] at hr18
       rw [← hy18] at hr18 hcut18
       clear hy18 hi018 hsz18 HO_3
       have HO185 := Aside0.mk hr18
       clear hr18
       replace q18 := eq_true q18
       try go_wp2
       go_roundg k1
       case measure => have := HK1.out; omega
       case rel => exact ⟨(y183), H', ⟨by have := HK1.out; omega⟩, ⟨by exact zr HO185⟩, ⟨by exact zk BK174⟩, ⟨by exact zk BK175⟩, ⟨zb HB⟩⟩
      ·rw [if_neg c14] at H
       exact absurd H (by simp)
     ·rw [if_neg c13] at H
      exact absurd H (by simp)
    ·rw [if_neg c11] at H
     have c11b0 := decide_eq_false c11
     clear c11
     simp only [Option.some.injEq, Prod.mk.injEq] at H
     obtain ⟨rfl, rfl⟩ := H
     try go_wp2
     replace HO_3 := Aside0.mk (Kd.R_drew HO_3.out)
     replace BK174 := Aside0.mk (blk_drew BK174.out)
     replace BK175 := Aside0.mk (blk_drew BK175.out)
     replace HB := Aside0.mk (below_drew1 HB.out)
     obtain ⟨Ao20, co20, eo20⟩ := Kd.R_slice HO_3.out
     (first | subst eo20 | (injection eo20 with f1_ f2_ f3_; have f4_ := f1_.symm; have f5_ := f3_.symm; clear f1_ f2_ f3_; subst f4_; subst f5_))
     refine st 5 (b2 BK174) (fun hHeld => ?_)
     generalize wr.drew = w19 at HO_3 BK174 BK175 HB hHeld ⊢
     refine pu 0 (some 8) (bm 5 1) rfl rfl ?_
     refine pu 2 (some 10) (bm 5 5) rfl rfl ?_
     refine tk 3 (some 11) (bm 5 13) rfl rfl hHeld ?_
     refine one_ (i := 1) (N := some 9) (bm 5 15) rfl rfl (by kernel_rfl) (by decide) (fun K hK => ?_)
     refine gs Try.func52 #[.slice Ao20 x3_1.length co20] ?_
     with_reducible refine (spec_l3Size.calls k1 _ _ x3_1 t182 _ ?side1 ?side2 A10.out).mono ?_
     (case side1 => exact zc (Kd.R_reads' HO_3.out).2.2)
     (case side2 => exact (Kd.R_reads' HO_3.out).2.1)
     rintro e w21 ⟨rfl, hb⟩
     refine ⟨_, rfl, ?_⟩
     replace HO_3 := Aside0.mk (Kd.R_below (zr HO_3) hb)
     replace BK174 := kb BK174 hb
     replace BK175 := kb BK175 hb
     replace HB := Aside0.mk (below_step (zb HB) hb)
     (try clear hb)
     refine hK.out _ _ (b2 BK174) (fun hHeld => ?_)
     clear hK K
     refine nm ?_
     refine pu 4 (some 12) (bm 5 31) rfl rfl ?_
     refine done_ (by kernel_rfl) ?_
     have hnb22 := NB174_175.out
     have hnc22 := NB175_174.out
     obtain ⟨hcz23_0, hcz23_1, hfz23_0, hfz23_1⟩ := c2 BK174
     obtain ⟨hcz24_0, hcz24_1, hfz24_0, hfz24_1⟩ := c2 BK175
     try go_wp2
     refine bodyPost_ret (results_cell_row rfl _ _ gb175 25 #[.slice Ao20 x3_1.length co20, .int .i64 a0_1] (0, 0) _ rfl (zp BK175) Try.underlying25 rfl (by kernel_rfl)) rfl ?_
     exact ⟨_, ze, (Kd.R_mono (ztR (Kd.R_types HO_3.out BK175.out (by decide))) (fun _ hk => trivial)), zb HB⟩
 ·skip
  exact absurd H (by simp)

end Go.Proofs.Ytdhahifdcoinhaa.PFnHeadFixed
