-- WRITTEN BY a turned print (wip/tools of the prover's repo)
import Derived.Test.YtlpibelofcabhaaPFnHeadBackx0
import Derived.Test.YtlpibelofcabhaaPFnHeadBackx7
import Derived.Test.YtlpibelofcabhaaPFnHeadBackx9
namespace Go.Proofs.Ytlpibelofcabhaa.PFnHeadBack
open Go.RowKit Go.Proofs.YtlpibelofcabhaaW.PrintWords Go.Proofs.YtlpibelofcabhaaW.PrintLast Go.Proofs.YtlpibelofcabhaaW.PrintMore Go.Proofs.Ytlpibelofcabhaa.Lm
attribute [local go_sem] max2_int min2_int max_two min_two max_three min_three max_four min_four   -- for this text's walks alone
set_option linter.unusedVariables false
set_option linter.unusedSimpArgs false

/-! ### impl_NumRead: function 115 -/
-- thin
mutual
def impl_NumRead.j0 : Nat → ByteArray → Int → Bool → Option (Int × Int × Bool)
 | 0, _, _, _ => none
 | k + 1, x0, x1, x17 => if x17 = true then (some (0, 0, false)) else (if 0 ≤ x1 then (if 0 < (x0.size : Int) then (if (Go.bits .and .i64 (wrap64 (bt x0 0)) (wrap64 ((shl .i64 1 x1) - 1))) = (wrap64 ((shl .i64 1 x1) - 1)) then (impl_NumRead.l0 k x0 x1 (Go.bits .and .i64 (wrap64 (bt x0 0)) (wrap64 ((shl .i64 1 x1) - 1))) 1 0) else ((impl_NumWrite.f k (Go.bits .and .i64 (wrap64 (bt x0 0)) (wrap64 ((shl .i64 1 x1) - 1))) x1 (shr .i64 (wrap64 (bt x0 0)) x1)).bind fun t492 => (if 0 ≤ 1 then (if 1 ≤ (x0.size : Int) then (if t492.toList = (x0.extract 0 1).toList then (some (Go.bits .and .i64 (wrap64 (bt x0 0)) (wrap64 ((shl .i64 1 x1) - 1)), 1, true)) else (some (0, 0, false))) else (none)) else (none)))) else (none)) else (none))
def impl_NumRead.l0 : Nat → ByteArray → Int → Int → Int → Int → Option (Int × Int × Bool)
 | 0, _, _, _, _, _ => none
 | k + 1, x0, x1, x8, x9, x10 => if x9 = (x0.size : Int) then (impl_NumRead.j2 k x0 x1 x8 x9 x10 true) else (impl_NumRead.j2 k x0 x1 x8 x9 x10 (decide (x10 > 14)))
def impl_NumRead.j2 : Nat → ByteArray → Int → Int → Int → Int → Bool → Option (Int × Int × Bool)
 | 0, _, _, _, _, _, _ => none
 | k + 1, x0, x1, x8, x9, x10, x38 => if x38 = true then (some (0, 0, false)) else (if 0 ≤ x9 then (if x9 < (x0.size : Int) then (if 0 ≤ x10 then (if 0 ≤ (wrap64 ((wrap64 (x9 + 1)) - 1)) then (if (wrap64 ((wrap64 (x9 + 1)) - 1)) < (x0.size : Int) then (if (bt x0 (wrap64 ((wrap64 (x9 + 1)) - 1))) < 128 then (if 0 < (x0.size : Int) then (if 0 ≤ x1 then ((impl_NumWrite.f k (wrap64 (x8 + (shl .i64 (Go.bits .and .i64 (wrap64 (bt x0 x9)) 127) x10))) x1 (shr .i64 (wrap64 (bt x0 0)) x1)).bind fun t491 => (if 0 ≤ (wrap64 (x9 + 1)) then (if (wrap64 (x9 + 1)) ≤ (x0.size : Int) then (if t491.toList = (x0.extract 0 ((wrap64 (x9 + 1)) : Int).toNat).toList then (some (wrap64 (x8 + (shl .i64 (Go.bits .and .i64 (wrap64 (bt x0 x9)) 127) x10)), wrap64 (x9 + 1), true)) else (some (0, 0, false))) else (none)) else (none))) else (none)) else (none)) else (impl_NumRead.l0 k x0 x1 (wrap64 (x8 + (shl .i64 (Go.bits .and .i64 (wrap64 (bt x0 x9)) 127) x10))) (wrap64 (x9 + 1)) (wrap64 (x10 + 7)))) else (none)) else (none)) else (none)) else (none)) else (none))
end
def impl_NumRead.f (k : Nat) (a0 : ByteArray) (a1 : Int) : Option (Int × Int × Bool) := if a0.toList = ([] : List UInt8) then (impl_NumRead.j0 k a0 a1 true) else ((impl_in.f a1 3 7).bind fun t490 => (impl_NumRead.j0 k a0 a1 (!t490)))
theorem impl_NumRead.mono_l : ∀ k, (∀ y0 y1 y2, LeO (impl_NumRead.j0 k y0 y1 y2) (impl_NumRead.j0 (k + 1) y0 y1 y2)) ∧ (∀ y0 y1 y2 y3 y4, LeO (impl_NumRead.l0 k y0 y1 y2 y3 y4) (impl_NumRead.l0 (k + 1) y0 y1 y2 y3 y4)) ∧ (∀ y0 y1 y2 y3 y4 y5, LeO (impl_NumRead.j2 k y0 y1 y2 y3 y4 y5) (impl_NumRead.j2 (k + 1) y0 y1 y2 y3 y4 y5))
 | 0 => ⟨fun _ _ _ r h => by simp [impl_NumRead.j0] at h, fun _ _ _ _ _ r h => by simp [impl_NumRead.l0] at h, fun _ _ _ _ _ _ r h => by simp [impl_NumRead.j2] at h⟩
 | k + 1 => by
  obtain ⟨ih0, ih1, ih2⟩ := impl_NumRead.mono_l k
  refine ⟨?_, ?_, ?_⟩
  ·intro y0 y1 y2
   unfold impl_NumRead.j0
   have m0 := @impl_NumWrite.mono
   exact zm
  ·intro y0 y1 y2 y3 y4
   unfold impl_NumRead.l0
   have m0 := @impl_NumWrite.mono
   exact zm
  ·intro y0 y1 y2 y3 y4 y5
   unfold impl_NumRead.j2
   have m0 := @impl_NumWrite.mono
   exact zm
theorem impl_NumRead.mono : ∀ a0 a1 k, LeO (impl_NumRead.f k a0 a1) (impl_NumRead.f (k + 1) a0 a1) := by
 intro a0 a1 k
 obtain ⟨ih0, ih1, ih2⟩ := impl_NumRead.mono_l k
 unfold impl_NumRead.f
 have m0 := @impl_NumWrite.mono
 exact zm
def impl_NumRead.T13 : Bool × List (List Nat × List Nat) := (true, [([], []), ([], []), ([], []), ([2], [2]), ([3], [3]), ([], []), ([4, 5], [4, 5]), ([0, 1, 6], [0, 1, 6]), ([], []), ([], []), ([8, 9], [8, 9]), ([7, 10], [7, 10])])
def impl_NumRead.B13 : List Nat := [0, 0, 0, 4, 12, 0, 60, 127, 0, 0, 768, 2047]
theorem impl_NumRead.tab13 : rtab .any (opsOf Try.f115 13) = impl_NumRead.T13 := by kernel_rfl
theorem impl_NumRead.bits13 : waitsOk impl_NumRead.T13.2 impl_NumRead.B13 = true := by kernel_rfl
set_option maxHeartbeats 8000000 in
set_option maxRecDepth 100000 in
theorem impl_NumRead.calls (k : Nat) (a0 : ByteArray) (a1 : Int) (r1 : Int) (r2 : Int) (r3 : Bool) (w : World) (h : impl_NumRead.f k a0 a1 = some (r1, r2, r3)) :
  Calls Try.prog 115 #[.string a0, .int .i64 a1] w fun e w' => e = .returned (.tuple #[.int .i64 r1, .int .i64 r2, .bool r3]) ∧ Below w.heap.size w w' := by
 have HB := Aside0.mk (Below.refl w.heap.size w)
 have H : (if a0.toList = ([] : List UInt8) then (impl_NumRead.j0 k a0 a1 true) else ((impl_in.f a1 3 7).bind fun t490 => (impl_NumRead.j0 k a0 a1 (!t490)))) = some (r1, r2, r3) := h
 clear h
 have HC3 := Aside0.mk H
 clear H
 go_enter Try.func115, Try.ntmps115
 go_upto_region 1 with (fail)
 go_cut [17] (fun v17 wc => ∃ (kq : Nat) (x17_2 : Bool), v17 = .bool x17_2 ∧ Aside0 (impl_NumRead.j0 kq a0 a1 x17_2 = some (r1, r2, r3)) ∧ Aside0 (kq ≤ k) ∧ Aside0 (Below w.heap.size w wc))
 case first =>
  have H := HC3.out
  clear HC3
  replace H := sp H
  rcases H with ⟨c4, H⟩ | ⟨c4, H⟩
  ·skip
   have c4b0 : (a0.toList == ([] : List UInt8)) = true := beq_iff_eq.mpr c4
   have c4b1 : (a0.toList != ([] : List UInt8)) = false := bne_eq_false_iff_eq.mpr c4
   clear c4
   (first | rw [c4b0] | rw [c4b1] | (simp only [i64_w, i32_w]; rw [c4b0]) | skip)
   have H' := Aside0.mk H
   clear H
   go_wp2
   go_meet
   case rel => exact ⟨_, (true), zs, H', ⟨by first | omega | exact Nat.le_refl _⟩, ⟨zb HB⟩⟩
  ·skip
   have c4b0 : (a0.toList == ([] : List UInt8)) = false := beq_eq_false_iff_ne.mpr c4
   have c4b1 : (a0.toList != ([] : List UInt8)) = true := bne_iff_ne.mpr c4
   (first | rw [c4b0] | rw [c4b1] | (simp only [i64_w, i32_w]; rw [c4b0]) | skip)
   obtain ⟨t490, A5, H⟩ := ob H
   (try dsimp only at H)
   have H' := Aside0.mk H
   clear H
   go_wp2_with (first | (go_at_call 61; (with_reducible refine (impl_in.calls a1 3 7 t490 _ A5.out).mono ?_); rintro e w' ⟨rfl, ⟨nd, rfl⟩⟩))
   go_meet
   case rel => exact ⟨_, (!t490), zs, H', ⟨by first | omega | exact Nat.le_refl _⟩, ⟨zb HB⟩⟩
 case rest =>
  clear HC3
  try clear c1
  try clear p2
  try clear c4
  try clear c4b0
  try clear c4b1
  obtain ⟨kq, x17_2, rfl, HA, HJ2, HB⟩ := hcut
  cases kq with
  | zero => exact absurd HA.out (by simp [impl_NumRead.j0])
  | succ kj2 =>
   have H := HA.out
   clear HA
   simp only [impl_NumRead.j0] at H
   by_cases c6 : x17_2 = true
   ·subst c6
    rw [if_pos rfl] at H
    simp only [Option.some.injEq, Prod.mk.injEq] at H
    obtain ⟨rfl, rfl, rfl⟩ := H
    go_wp2
    go_ret3
    exact ⟨ze, zb HB⟩
   ·replace c6 := Bool.eq_false_iff.mpr c6
    subst c6
    rw [if_neg (show ¬ (false = true) by decide)] at H
    replace H := sp H
    rcases H with ⟨c7, H⟩ | ⟨c7, H⟩
    ·skip
     have c7b0 := eq_true c7
     have c7b1 := decide_eq_true c7
     clear c7
     obtain ⟨ji8, hji8⟩ : ∃ j_ : Int, (shl .i64 1 a1) = j_ := ⟨_, rfl⟩
     replace H : (if 0 < (a0.size : Int) then (if (Go.bits .and .i64 (wrap64 (bt a0 0)) (wrap64 ((ji8) - 1))) = (wrap64 ((ji8) - 1)) then (impl_NumRead.l0 kj2 a0 a1 (Go.bits .and .i64 (wrap64 (bt a0 0)) (wrap64 ((ji8) - 1))) 1 0) else ((impl_NumWrite.f kj2 (Go.bits .and .i64 (wrap64 (bt a0 0)) (wrap64 ((ji8) - 1))) a1 (shr .i64 (wrap64 (bt a0 0)) a1)).bind fun t492 => (if 0 ≤ 1 then (if 1 ≤ (a0.size : Int) then (if t492.toList = (a0.extract 0 1).toList then (some (Go.bits .and .i64 (wrap64 (bt a0 0)) (wrap64 ((ji8) - 1)), 1, true)) else (some (0, 0, false))) else (none)) else (none)))) else (none)) = some (r1, r2, r3) := by first | (rw [hji8] at H; exact H) | (simp only [hji8] at H ⊢; exact H)
     have hji8_ : (IntKind.i64.wrap (1 * 2 ^ min a1.toNat 64)) = ji8 := hji8
     have hji8z : a1 ≤ 64 → (IntKind.i64.wrap (1 * 2 ^ a1.toNat)) = ji8 := shl_small hji8
     have hji8u : (IntKind.i64.wrap (2 ^ min a1.toNat 64)) = ji8 := by have h_ := hji8_; rw [Int.one_mul] at h_; exact h_
     have hji8v : a1 ≤ 64 → (IntKind.i64.wrap (2 ^ a1.toNat)) = ji8 := fun hle_ => by have h_ := hji8z hle_; rw [Int.one_mul] at h_; exact h_
     have hji8y : (wrap64 (1 * 2 ^ min a1.toNat 64)) = ji8 := (i64_w _).symm.trans hji8_
     have hji8x : a1 ≤ 64 → (wrap64 (1 * 2 ^ a1.toNat)) = ji8 := fun h_ => (i64_w _).symm.trans (hji8z h_)
     by_cases c9 : 0 < (a0.size : Int)
     ·rw [if_pos c9] at H
      have c9b0 := decide_eq_true c9
      have c9b1 := decide_eq_true (by omega)
      clear c9
      by_cases c11 : (Go.bits .and .i64 (wrap64 (bt a0 0)) (wrap64 ((ji8) - 1))) = (wrap64 ((ji8) - 1))
      ·rw [if_pos c11] at H
       have c11b0 : ((Go.bits .and .i64 (wrap64 (bt a0 0)) (wrap64 ((ji8) - 1))) == (wrap64 ((ji8) - 1))) = true := beq_iff_eq.mpr c11
       have c11b1 : ((Go.bits .and .i64 (wrap64 (bt a0 0)) (wrap64 ((ji8) - 1))) != (wrap64 ((ji8) - 1))) = false := bne_eq_false_iff_eq.mpr c11
       clear c11
       have H' := Aside0.mk H
       clear H
       have p10 : 0 ≤ (0 : Int) := (by omega)
       have q10 : 0 < a0.size := (by have : (0 : Int) < (a0.size : Int) := of_decide_eq_true za; omega)
       have hx10 : ∀ h : 0 < a0.size, ((a0[0]'h).toNat : Int) = bt a0 0 := bt_at a0 0
       clear p10
       have qi10 : (0 < (a0.size : Int)) = True := eq_true (of_decide_eq_true za)
       replace q10 := eq_true q10
       go_wp2
       go_loopg [8, 9, 10] kj2 (fun kq v8 v9 v10 w' => ∃ (x8_2 : Int) (x9_2 : Int) (x10_2 : Int), v8 = .int .i64 x8_2 ∧ v9 = .int .i64 x9_2 ∧ v10 = .int .i64 x10_2 ∧ Aside0 (impl_NumRead.l0 kq a0 a1 x8_2 x9_2 x10_2 = some (r1, r2, r3)) ∧ Aside0 (kq ≤ kj2) ∧ Aside0 (Below w.heap.size w w'))
       case atStart => exact ⟨(Go.bits .and .i64 (wrap64 (bt a0 0)) (wrap64 ((ji8) - 1))), (1), (0), (by first | rfl | (simp; done) | (simp only [← hji8] <;> (first | rfl | simp)) | (simp [*]; done)), zs, zs, H', ⟨Nat.le_refl _⟩, ⟨zb HB⟩⟩
       case round =>
        clear H'
        try clear c1
        try clear p1
        try clear q1
        try clear hx1
        try clear qi1
        try clear p2
        try clear c4
        try clear c4b0
        try clear c4b1
        try clear c6
        try clear p6
        try clear c7
        try clear c7b0
        try clear c7b1
        try clear c9
        try clear c9b0
        try clear c9b1
        try clear p10
        try clear q10
        try clear hx10
        try clear qi10
        try clear c11
        try clear c11b0
        try clear c11b1
        try clear p10
        try clear p2
        try clear q10
        obtain ⟨x8_2, x9_2, x10_2, rfl, rfl, rfl, HA, HK2, HB⟩ := hrel
        cases gk with
        | zero => exact absurd HA.out (by simp [impl_NumRead.l0])
        | succ k2 =>
         have H := HA.out
         clear HA
         simp only [impl_NumRead.l0] at H
         have HC12 := Aside0.mk H
         clear H
         go_upto_region 8 with (fail)
         go_cut [38] (fun v38 wc => ∃ (kq : Nat) (x38_11 : Bool), v38 = .bool x38_11 ∧ Aside0 (impl_NumRead.j2 kq a0 a1 x8_2 x9_2 x10_2 x38_11 = some (r1, r2, r3)) ∧ Aside0 (kq ≤ k2) ∧ Aside0 (Below w.heap.size w wc))
         case first =>
          have H := HC12.out
          clear HC12
          by_cases c13 : x9_2 = (a0.size : Int)
          ·rw [if_pos c13] at H
           have c13b0 : (x9_2 == (a0.size : Int)) = true := beq_iff_eq.mpr c13
           have c13b1 : (x9_2 != (a0.size : Int)) = false := bne_eq_false_iff_eq.mpr c13
           clear c13
           (first | rw [c13b0] | rw [c13b1] | (simp only [i64_w, i32_w]; rw [c13b0]) | skip)
           have H' := Aside0.mk H
           clear H
           go_wp2
           go_meet
           case rel => exact ⟨_, (true), zs, H', ⟨by have := HJ2.out; have := HK2.out; first | omega | exact Nat.le_refl _⟩, ⟨zb HB⟩⟩
          ·rw [if_neg c13] at H
           have c13b0 : (x9_2 == (a0.size : Int)) = false := beq_eq_false_iff_ne.mpr c13
           have c13b1 : (x9_2 != (a0.size : Int)) = true := bne_iff_ne.mpr c13
           (first | rw [c13b0] | rw [c13b1] | (simp only [i64_w, i32_w]; rw [c13b0]) | skip)
           have H' := Aside0.mk H
           clear H
           go_wp2
           go_meet
           case rel => exact ⟨_, (decide (x10_2 > 14)), zs, H', ⟨by have := HJ2.out; have := HK2.out; first | omega | exact Nat.le_refl _⟩, ⟨zb HB⟩⟩
         case rest =>
          clear HC12
          try clear c1
          try clear p1
          try clear q1
          try clear hx1
          try clear qi1
          try clear p2
          try clear c4
          try clear c4b0
          try clear c4b1
          try clear c6
          try clear p6
          try clear c7
          try clear c7b0
          try clear c7b1
          try clear c9
          try clear c9b0
          try clear c9b1
          try clear p10
          try clear q10
          try clear hx10
          try clear qi10
          try clear c11
          try clear c11b0
          try clear c11b1
          try clear c13
          try clear c13b0
          try clear c13b1
          try clear p1
          try clear p10
          try clear p2
          try clear p6
          try clear q1
          try clear q10
          obtain ⟨kq, x38_11, rfl, HA, HJ11, HB⟩ := hcut
          cases kq with
          | zero => exact absurd HA.out (by simp [impl_NumRead.j2])
          | succ kj11 =>
           have H := HA.out
           clear HA
           simp only [impl_NumRead.j2] at H
           by_cases c14 : x38_11 = true
           ·subst c14
            rw [if_pos rfl] at H
            simp only [Option.some.injEq, Prod.mk.injEq] at H
            obtain ⟨rfl, rfl, rfl⟩ := H
            go_wp2
            go_ret3
            exact ⟨by first | rfl | (simp [errW_none, errW_some] <;> rfl) | (simp only [← hji8]; first | rfl | (simp [errW_none, errW_some] <;> rfl)) | (simp [*, errW_none, errW_some] <;> rfl) | (simp [errW_none, errW_some]; exact (by intro l_; cases l_ <;> rfl : ∀ l_ : List UInt8, l_.isEmpty = !(l_ != [])) _), zb HB⟩
           ·replace c14 := Bool.eq_false_iff.mpr c14
            subst c14
            rw [if_neg (show ¬ (false = true) by decide)] at H
            by_cases c15 : 0 ≤ x9_2
            ·rw [if_pos c15] at H
             have c15b0 := decide_eq_true c15
             clear c15
             by_cases c16 : x9_2 < (a0.size : Int)
             ·rw [if_pos c16] at H
              have c16b0 := decide_eq_true c16
              clear c16
              by_cases c18 : 0 ≤ x10_2
              ·rw [if_pos c18] at H
               have c18b0 := eq_true c18
               have c18b1 := decide_eq_true c18
               clear c18
               obtain ⟨ji19, hji19⟩ : ∃ j_ : Int, (shl .i64 (Go.bits .and .i64 (wrap64 (bt a0 x9_2)) 127) x10_2) = j_ := ⟨_, rfl⟩
               replace H : (if 0 ≤ (wrap64 ((wrap64 (x9_2 + 1)) - 1)) then (if (wrap64 ((wrap64 (x9_2 + 1)) - 1)) < (a0.size : Int) then (if (bt a0 (wrap64 ((wrap64 (x9_2 + 1)) - 1))) < 128 then (if 0 < (a0.size : Int) then (if 0 ≤ a1 then ((impl_NumWrite.f kj11 (wrap64 (x8_2 + (ji19))) a1 (shr .i64 (wrap64 (bt a0 0)) a1)).bind fun t491 => (if 0 ≤ (wrap64 (x9_2 + 1)) then (if (wrap64 (x9_2 + 1)) ≤ (a0.size : Int) then (if t491.toList = (a0.extract 0 ((wrap64 (x9_2 + 1)) : Int).toNat).toList then (some (wrap64 (x8_2 + (ji19)), wrap64 (x9_2 + 1), true)) else (some (0, 0, false))) else (none)) else (none))) else (none)) else (none)) else (impl_NumRead.l0 kj11 a0 a1 (wrap64 (x8_2 + (ji19))) (wrap64 (x9_2 + 1)) (wrap64 (x10_2 + 7)))) else (none)) else (none)) = some (r1, r2, r3) := by first | (rw [hji19] at H; exact H) | (simp only [hji19] at H ⊢; exact H)
               have hji19_ : (IntKind.i64.wrap ((Go.bits .and .i64 (wrap64 (bt a0 x9_2)) 127) * 2 ^ min x10_2.toNat 64)) = ji19 := hji19
               have hji19z : x10_2 ≤ 64 → (IntKind.i64.wrap ((Go.bits .and .i64 (wrap64 (bt a0 x9_2)) 127) * 2 ^ x10_2.toNat)) = ji19 := shl_small hji19
               have hji19y : (wrap64 ((Go.bits .and .i64 (wrap64 (bt a0 x9_2)) 127) * 2 ^ min x10_2.toNat 64)) = ji19 := (i64_w _).symm.trans hji19_
               have hji19x : x10_2 ≤ 64 → (wrap64 ((Go.bits .and .i64 (wrap64 (bt a0 x9_2)) 127) * 2 ^ x10_2.toNat)) = ji19 := fun h_ => (i64_w _).symm.trans (hji19z h_)
               obtain ⟨ji20, hji20⟩ : ∃ j_ : Int, (wrap64 ((wrap64 (x9_2 + 1)) - 1)) = j_ := ⟨_, rfl⟩
               replace H : (if 0 ≤ (ji20) then (if (ji20) < (a0.size : Int) then (if (bt a0 (ji20)) < 128 then (if 0 < (a0.size : Int) then (if 0 ≤ a1 then ((impl_NumWrite.f kj11 (wrap64 (x8_2 + (ji19))) a1 (shr .i64 (wrap64 (bt a0 0)) a1)).bind fun t491 => (if 0 ≤ (wrap64 (x9_2 + 1)) then (if (wrap64 (x9_2 + 1)) ≤ (a0.size : Int) then (if t491.toList = (a0.extract 0 ((wrap64 (x9_2 + 1)) : Int).toNat).toList then (some (wrap64 (x8_2 + (ji19)), wrap64 (x9_2 + 1), true)) else (some (0, 0, false))) else (none)) else (none))) else (none)) else (none)) else (impl_NumRead.l0 kj11 a0 a1 (wrap64 (x8_2 + (ji19))) (wrap64 (x9_2 + 1)) (wrap64 (x10_2 + 7)))) else (none)) else (none)) = some (r1, r2, r3) := by first | (rw [hji20] at H; exact H) | (simp only [hji20] at H ⊢; exact H)
               have hji20w : (IntKind.i64.wrap ((wrap64 (x9_2 + 1)) - 1)) = ji20 := (i64_w _).trans hji20
               by_cases c21 : 0 ≤ (ji20)
               ·rw [if_pos c21] at H
                have c21b0 := decide_eq_true c21
                clear c21
                by_cases c22 : (ji20) < (a0.size : Int)
                ·rw [if_pos c22] at H
                 have c22b0 := decide_eq_true c22
                 clear c22
                 by_cases c24 : (bt a0 (ji20)) < 128
                 ·rw [if_pos c24] at H
                  have c24b0 := decide_eq_true c24
                  clear c24
                  by_cases c25 : 0 < (a0.size : Int)
                  ·rw [if_pos c25] at H
                   have c25b0 := decide_eq_true c25
                   have c25b1 := decide_eq_true (by omega)
                   clear c25
                   by_cases c27 : 0 ≤ a1
                   ·rw [if_pos c27] at H
                    have c27b0 := eq_true c27
                    have c27b1 := decide_eq_true c27
                    clear c27
                    obtain ⟨ji28, hji28⟩ : ∃ j_ : Int, (shr .i64 (wrap64 (bt a0 0)) a1) = j_ := ⟨_, rfl⟩
                    replace H : ((impl_NumWrite.f kj11 (wrap64 (x8_2 + (ji19))) a1 (ji28)).bind fun t491 => (if 0 ≤ (wrap64 (x9_2 + 1)) then (if (wrap64 (x9_2 + 1)) ≤ (a0.size : Int) then (if t491.toList = (a0.extract 0 ((wrap64 (x9_2 + 1)) : Int).toNat).toList then (some (wrap64 (x8_2 + (ji19)), wrap64 (x9_2 + 1), true)) else (some (0, 0, false))) else (none)) else (none))) = some (r1, r2, r3) := by first | (rw [hji28] at H; exact H) | (simp only [hji28] at H ⊢; exact H)
                    have hji28_ : ((wrap64 (bt a0 0)) / 2 ^ min a1.toNat 64) = ji28 := hji28
                    have hji28z : a1 ≤ 64 → ((wrap64 (bt a0 0)) / 2 ^ a1.toNat) = ji28 := shr_small hji28
                    obtain ⟨t491, A29, H⟩ := ob H
                    (try dsimp only at H)
                    obtain ⟨ji30, hji30⟩ : ∃ j_ : Int, (wrap64 (x9_2 + 1)) = j_ := ⟨_, rfl⟩
                    replace H : (if 0 ≤ (ji30) then (if (ji30) ≤ (a0.size : Int) then (if t491.toList = (a0.extract 0 ((ji30) : Int).toNat).toList then (some (wrap64 (x8_2 + (ji19)), ji30, true)) else (some (0, 0, false))) else (none)) else (none)) = some (r1, r2, r3) := by first | (rw [hji30] at H; exact H) | (simp only [hji30] at H ⊢; exact H)
                    have hji20c30 := hji20
                    (try rw [hji30] at hji20c30)
                    have hji20v30 := hji20w
                    (try rw [hji30] at hji20v30)
                    (try rw [hji30] at A29)
                    have hji30w : (IntKind.i64.wrap (x9_2 + 1)) = ji30 := (i64_w _).trans hji30
                    by_cases c31 : 0 ≤ (ji30)
                    ·rw [if_pos c31] at H
                     have c31b0 := eq_true c31
                     have c31b1 := decide_eq_true c31
                     clear c31
                     by_cases c32 : (ji30) ≤ (a0.size : Int)
                     ·rw [if_pos c32] at H
                      have c32b0 := eq_true c32
                      have c32b1 := decide_eq_true c32
                      clear c32
                      by_cases c33 : t491.toList = (a0.extract 0 ((ji30) : Int).toNat).toList
                      ·rw [if_pos c33] at H
                       have c33b0 : (t491.toList == (a0.extract 0 ((ji30) : Int).toNat).toList) = true := beq_iff_eq.mpr c33
                       have c33b1 : (t491.toList != (a0.extract 0 ((ji30) : Int).toNat).toList) = false := bne_eq_false_iff_eq.mpr c33
                       clear c33
                       simp only [Option.some.injEq, Prod.mk.injEq] at H
                       obtain ⟨rfl, rfl, rfl⟩ := H
                       have p17 : 0 ≤ (x9_2 : Int) := of_decide_eq_true za
                       have q17 : x9_2 < (a0.size : Int) := of_decide_eq_true za
                       have hx17 := bt_at a0 x9_2
                       replace p17 := eq_true p17
                       replace q17 := eq_true q17
                       have p23 : 0 ≤ ((ji20) : Int) := of_decide_eq_true za
                       have q23 : (ji20) < (a0.size : Int) := of_decide_eq_true za
                       have hx23 := bt_at a0 (ji20)
                       replace p23 := eq_true p23
                       replace q23 := eq_true q23
                       try go_wp2
                       replace HB := Aside0.mk (below_drew1 HB.out)
                       have p26 : 0 ≤ (0 : Int) := (by omega)
                       have q26 : 0 < a0.size := (by have : (0 : Int) < (a0.size : Int) := of_decide_eq_true za; omega)
                       have hx26 : ∀ h : 0 < a0.size, ((a0[0]'h).toNat : Int) = bt a0 0 := bt_at a0 0
                       clear p26
                       have qi26 : (0 < (a0.size : Int)) = True := eq_true (of_decide_eq_true za)
                       replace q26 := eq_true q26
                       refine start_ (n := 12) (S := fun w' => True) (ds := []) #[false, false, false, false, false, false, false, false, false, false, false, false] (by kernel_rfl) rfl rfl trivial (fun hHeld => ?_); refine with_tabW impl_NumRead.tab13 impl_NumRead.bits13 (fun HT_ HW_ => ?_)
                       generalize wc.drew = w34 at HB hHeld ⊢
                       refine pu 0 (some 55) (bm 12 1) rfl rfl ?_
                       refine pu 1 (some 56) (bm 12 3) rfl rfl ?_
                       refine pu 2 (some 57) (bm 12 7) rfl rfl ?_
                       refine pu 5 (some 60) (bm 12 39) rfl rfl ?_
                       refine pu 8 (some 63) (bm 12 295) rfl rfl ?_
                       refine pu 9 (some 64) (bm 12 807) rfl rfl ?_
                       refine pu 10 (some 65) (bm 12 1831) rfl rfl ?_
                       refine take_ (i := 3) (N := some 58) (v := ?_) (a' := ?_) #[true, true, true, true, false, true, false, false, true, true, true, false] rfl rfl (take_ofW HT_.out HW_.out (by kernel_rfl)) (fun _ _ _ h => h) (Or.inl ⟨by rfl, ?_⟩) hHeld ?_ ?_
                       rotate_left
                       ·intro w' _
                        go_simp
                        with_reducible rfl
                       rotate_left
                       ·simp only [Act.put, s1, s2, s3, i64_w, i32_w]
                        rfl
                       refine pu 4 (some 59) (bm 12 1855) rfl rfl ?_
                       refine pu 6 (some 61) (bm 12 1919) rfl rfl ?_
                       refine one_ (i := 7) (N := some 62) (bm 12 2047) rfl rfl (one_of HT_.out (by kernel_rfl)) (by decide) (fun K hK => ?_)
                       refine goes_ Try.func112 (by kernel_rfl) rfl #[.int .i64 (wrap64 (x8_2 + (ji19))), .int .i64 a1, .int .i64 ji28] (by rfl) rfl rfl (by (try simp only [List.map_toArray, List.map_cons, List.map_nil]); first | done | (simp only [hji19, hji28]; rfl) | rfl | (simp only [List.length_drop, List.length_take]; rfl)) ?_
                       with_reducible refine (impl_NumWrite.calls kj11 (wrap64 (x8_2 + (ji19))) a1 ji28 t491 _ A29.out).mono ?_
                       rintro e w35 ⟨rfl, hb⟩
                       refine ⟨_, rfl, ?_⟩
                       replace HB := Aside0.mk (below_step (zb HB) hb)
                       (try clear hb)
                       refine hK.out _ _ trivial (fun hHeld => ?_)
                       clear hK K
                       refine nm ?_
                       refine pu 11 (some 66) (bm 12 4095) rfl rfl ?_
                       refine done_ (done_of HT_.out (by kernel_rfl)) ?_
                       try go_wp2
                       go_ret3
                       exact ⟨by first | rfl | (simp [errW_none, errW_some] <;> rfl) | (simp only [← hji8, ← hji19, ← hji20, ← hji28, ← hji30]; first | rfl | (simp [errW_none, errW_some] <;> rfl)) | (simp [*, errW_none, errW_some] <;> rfl) | (simp [errW_none, errW_some]; exact (by intro l_; cases l_ <;> rfl : ∀ l_ : List UInt8, l_.isEmpty = !(l_ != [])) _), zb HB⟩
                      ·rw [if_neg c33] at H
                       have c33b0 : (t491.toList == (a0.extract 0 ((ji30) : Int).toNat).toList) = false := beq_eq_false_iff_ne.mpr c33
                       have c33b1 : (t491.toList != (a0.extract 0 ((ji30) : Int).toNat).toList) = true := bne_iff_ne.mpr c33
                       simp only [Option.some.injEq, Prod.mk.injEq] at H
                       obtain ⟨rfl, rfl, rfl⟩ := H
                       have p17 : 0 ≤ (x9_2 : Int) := of_decide_eq_true za
                       have q17 : x9_2 < (a0.size : Int) := of_decide_eq_true za
                       have hx17 := bt_at a0 x9_2
                       replace p17 := eq_true p17
                       replace q17 := eq_true q17
                       have p23 : 0 ≤ ((ji20) : Int) := of_decide_eq_true za
                       have q23 : (ji20) < (a0.size : Int) := of_decide_eq_true za
                       have hx23 := bt_at a0 (ji20)
                       replace p23 := eq_true p23
                       replace q23 := eq_true q23
                       try go_wp2
                       replace HB := Aside0.mk (below_drew1 HB.out)
                       have p26 : 0 ≤ (0 : Int) := (by omega)
                       have q26 : 0 < a0.size := (by have : (0 : Int) < (a0.size : Int) := of_decide_eq_true za; omega)
                       have hx26 : ∀ h : 0 < a0.size, ((a0[0]'h).toNat : Int) = bt a0 0 := bt_at a0 0
                       clear p26
                       have qi26 : (0 < (a0.size : Int)) = True := eq_true (of_decide_eq_true za)
                       replace q26 := eq_true q26
                       refine start_ (n := 12) (S := fun w' => True) (ds := []) #[false, false, false, false, false, false, false, false, false, false, false, false] (by kernel_rfl) rfl rfl trivial (fun hHeld => ?_); refine with_tabW impl_NumRead.tab13 impl_NumRead.bits13 (fun HT_ HW_ => ?_)
                       generalize wc.drew = w36 at HB hHeld ⊢
                       refine pu 0 (some 55) (bm 12 1) rfl rfl ?_
                       refine pu 1 (some 56) (bm 12 3) rfl rfl ?_
                       refine pu 2 (some 57) (bm 12 7) rfl rfl ?_
                       refine pu 5 (some 60) (bm 12 39) rfl rfl ?_
                       refine pu 8 (some 63) (bm 12 295) rfl rfl ?_
                       refine pu 9 (some 64) (bm 12 807) rfl rfl ?_
                       refine pu 10 (some 65) (bm 12 1831) rfl rfl ?_
                       refine take_ (i := 3) (N := some 58) (v := ?_) (a' := ?_) #[true, true, true, true, false, true, false, false, true, true, true, false] rfl rfl (take_ofW HT_.out HW_.out (by kernel_rfl)) (fun _ _ _ h => h) (Or.inl ⟨by rfl, ?_⟩) hHeld ?_ ?_
                       rotate_left
                       ·intro w' _
                        go_simp
                        with_reducible rfl
                       rotate_left
                       ·simp only [Act.put, s1, s2, s3, i64_w, i32_w]
                        rfl
                       refine pu 4 (some 59) (bm 12 1855) rfl rfl ?_
                       refine pu 6 (some 61) (bm 12 1919) rfl rfl ?_
                       refine one_ (i := 7) (N := some 62) (bm 12 2047) rfl rfl (one_of HT_.out (by kernel_rfl)) (by decide) (fun K hK => ?_)
                       refine goes_ Try.func112 (by kernel_rfl) rfl #[.int .i64 (wrap64 (x8_2 + (ji19))), .int .i64 a1, .int .i64 ji28] (by rfl) rfl rfl (by (try simp only [List.map_toArray, List.map_cons, List.map_nil]); first | done | (simp only [hji19, hji28]; rfl) | rfl | (simp only [List.length_drop, List.length_take]; rfl)) ?_
                       with_reducible refine (impl_NumWrite.calls kj11 (wrap64 (x8_2 + (ji19))) a1 ji28 t491 _ A29.out).mono ?_
                       rintro e w37 ⟨rfl, hb⟩
                       refine ⟨_, rfl, ?_⟩
                       replace HB := Aside0.mk (below_step (zb HB) hb)
                       (try clear hb)
                       refine hK.out _ _ trivial (fun hHeld => ?_)
                       clear hK K
                       refine nm ?_
                       refine pu 11 (some 66) (bm 12 4095) rfl rfl ?_
                       refine done_ (done_of HT_.out (by kernel_rfl)) ?_
                       try go_wp2
                       go_ret3
                       exact ⟨by first | rfl | (simp [errW_none, errW_some] <;> rfl) | (simp only [← hji8, ← hji19, ← hji20, ← hji28, ← hji30]; first | rfl | (simp [errW_none, errW_some] <;> rfl)) | (simp [*, errW_none, errW_some] <;> rfl) | (simp [errW_none, errW_some]; exact (by intro l_; cases l_ <;> rfl : ∀ l_ : List UInt8, l_.isEmpty = !(l_ != [])) _), zb HB⟩
                     ·rw [if_neg c32] at H
                      exact absurd H (by simp)
                    ·rw [if_neg c31] at H
                     exact absurd H (by simp)
                   ·rw [if_neg c27] at H
                    exact absurd H (by simp)
                  ·rw [if_neg c25] at H
                   exact absurd H (by simp)
                 ·rw [if_neg c24] at H
                  have c24b0 := decide_eq_false c24
                  clear c24
                  have H' := Aside0.mk H
                  clear H
                  have p17 : 0 ≤ (x9_2 : Int) := of_decide_eq_true za
                  have q17 : x9_2 < (a0.size : Int) := of_decide_eq_true za
                  have hx17 := bt_at a0 x9_2
                  replace p17 := eq_true p17
                  replace q17 := eq_true q17
                  have p23 : 0 ≤ ((ji20) : Int) := of_decide_eq_true za
                  have q23 : (ji20) < (a0.size : Int) := of_decide_eq_true za
                  have hx23 := bt_at a0 (ji20)
                  replace p23 := eq_true p23
                  replace q23 := eq_true q23
                  go_wp2
                  go_roundg kj11
                  case measure => have := HJ2.out; have := HK2.out; have := HJ11.out; omega
                  case rel => exact ⟨(wrap64 (x8_2 + (ji19))), (wrap64 (x9_2 + 1)), (wrap64 (x10_2 + 7)), (by first | rfl | (simp; done) | (simp only [← hji19] <;> (first | rfl | simp)) | (simp [*]; done)), zs, zs, H', ⟨by have := HJ2.out; have := HK2.out; have := HJ11.out; omega⟩, ⟨zb HB⟩⟩
                ·rw [if_neg c22] at H
                 exact absurd H (by simp)
               ·rw [if_neg c21] at H
                exact absurd H (by simp)
              ·rw [if_neg c18] at H
               exact absurd H (by simp)
             ·rw [if_neg c16] at H
              exact absurd H (by simp)
            ·rw [if_neg c15] at H
             exact absurd H (by simp)
      ·rw [if_neg c11] at H
       have c11b0 : ((Go.bits .and .i64 (wrap64 (bt a0 0)) (wrap64 ((ji8) - 1))) == (wrap64 ((ji8) - 1))) = false := beq_eq_false_iff_ne.mpr c11
       have c11b1 : ((Go.bits .and .i64 (wrap64 (bt a0 0)) (wrap64 ((ji8) - 1))) != (wrap64 ((ji8) - 1))) = true := bne_iff_ne.mpr c11
       have c39b0 := eq_true (of_decide_eq_true za : 0 ≤ a1)
       obtain ⟨ji40, hji40⟩ : ∃ j_ : Int, (shr .i64 (wrap64 (bt a0 0)) a1) = j_ := ⟨_, rfl⟩
       replace H : ((impl_NumWrite.f kj2 (Go.bits .and .i64 (wrap64 (bt a0 0)) (wrap64 ((ji8) - 1))) a1 (ji40)).bind fun t492 => (if 0 ≤ 1 then (if 1 ≤ (a0.size : Int) then (if t492.toList = (a0.extract 0 1).toList then (some (Go.bits .and .i64 (wrap64 (bt a0 0)) (wrap64 ((ji8) - 1)), 1, true)) else (some (0, 0, false))) else (none)) else (none))) = some (r1, r2, r3) := by first | (rw [hji40] at H; exact H) | (simp only [hji40] at H ⊢; exact H)
       have hji40_ : ((wrap64 (bt a0 0)) / 2 ^ min a1.toNat 64) = ji40 := hji40
       have hji40z : a1 ≤ 64 → ((wrap64 (bt a0 0)) / 2 ^ a1.toNat) = ji40 := shr_small hji40
       obtain ⟨t492, A41, H⟩ := ob H
       (try dsimp only at H)
       by_cases c42 : 0 ≤ 1
       ·rw [if_pos c42] at H
        have c42b0 := eq_true c42
        have c42b1 := decide_eq_true c42
        clear c42
        by_cases c43 : 1 ≤ (a0.size : Int)
        ·rw [if_pos c43] at H
         have c43b0 := eq_true c43
         have c43b1 := decide_eq_true c43
         clear c43
         by_cases c44 : t492.toList = (a0.extract 0 1).toList
         ·rw [if_pos c44] at H
          have c44b0 : (t492.toList == (a0.extract 0 1).toList) = true := beq_iff_eq.mpr c44
          have c44b1 : (t492.toList != (a0.extract 0 1).toList) = false := bne_eq_false_iff_eq.mpr c44
          clear c44
          simp only [Option.some.injEq, Prod.mk.injEq] at H
          obtain ⟨rfl, rfl, rfl⟩ := H
          have p10 : 0 ≤ (0 : Int) := (by omega)
          have q10 : 0 < a0.size := (by have : (0 : Int) < (a0.size : Int) := of_decide_eq_true za; omega)
          have hx10 : ∀ h : 0 < a0.size, ((a0[0]'h).toNat : Int) = bt a0 0 := bt_at a0 0
          clear p10
          have qi10 : (0 < (a0.size : Int)) = True := eq_true (of_decide_eq_true za)
          replace q10 := eq_true q10
          try go_wp2
          replace HB := Aside0.mk (below_drew1 HB.out)
          have p38 : 0 ≤ (0 : Int) := (by omega)
          have q38 : 0 < a0.size := (by have : (0 : Int) < (a0.size : Int) := of_decide_eq_true za; omega)
          have hx38 : ∀ h : 0 < a0.size, ((a0[0]'h).toNat : Int) = bt a0 0 := bt_at a0 0
          clear p38
          have qi38 : (0 < (a0.size : Int)) = True := eq_true (of_decide_eq_true za)
          replace q38 := eq_true q38
          refine start_ (n := 12) (S := fun w' => True) (ds := []) #[false, false, false, false, false, false, false, false, false, false, false, false] (by kernel_rfl) rfl rfl trivial (fun hHeld => ?_); refine with_tabW impl_NumRead.tab13 impl_NumRead.bits13 (fun HT_ HW_ => ?_)
          generalize wc.drew = w45 at HB hHeld ⊢
          refine pu 0 (some 55) (bm 12 1) rfl rfl ?_
          refine pu 1 (some 56) (bm 12 3) rfl rfl ?_
          refine pu 2 (some 57) (bm 12 7) rfl rfl ?_
          refine pu 5 (some 60) (bm 12 39) rfl rfl ?_
          refine pu 8 (some 63) (bm 12 295) rfl rfl ?_
          refine pu 9 (some 64) (bm 12 807) rfl rfl ?_
          refine pu 10 (some 65) (bm 12 1831) rfl rfl ?_
          refine take_ (i := 3) (N := some 58) (v := ?_) (a' := ?_) #[true, true, true, true, false, true, false, false, true, true, true, false] rfl rfl (take_ofW HT_.out HW_.out (by kernel_rfl)) (fun _ _ _ h => h) (Or.inl ⟨by rfl, ?_⟩) hHeld ?_ ?_
          rotate_left
          ·intro w' _
           go_simp
           with_reducible rfl
          rotate_left
          ·simp only [Act.put, s1, s2, s3, i64_w, i32_w]
           rfl
          refine pu 4 (some 59) (bm 12 1855) rfl rfl ?_
          refine pu 6 (some 61) (bm 12 1919) rfl rfl ?_
          refine one_ (i := 7) (N := some 62) (bm 12 2047) rfl rfl (one_of HT_.out (by kernel_rfl)) (by decide) (fun K hK => ?_)
          refine goes_ Try.func112 (by kernel_rfl) rfl #[.int .i64 (Go.bits .and .i64 (wrap64 (bt a0 0)) (wrap64 ((ji8) - 1))), .int .i64 a1, .int .i64 ji40] (by rfl) rfl rfl (by (try simp only [List.map_toArray, List.map_cons, List.map_nil]); first | done | (simp only [hji40, hji8]; rfl) | rfl | (simp only [List.length_drop, List.length_take]; rfl)) ?_
          with_reducible refine (impl_NumWrite.calls kj2 (Go.bits .and .i64 (wrap64 (bt a0 0)) (wrap64 ((ji8) - 1))) a1 ji40 t492 _ A41.out).mono ?_
          rintro e w46 ⟨rfl, hb⟩
          refine ⟨_, rfl, ?_⟩
          replace HB := Aside0.mk (below_step (zb HB) hb)
          (try clear hb)
          refine hK.out _ _ trivial (fun hHeld => ?_)
          clear hK K
          refine nm ?_
          refine pu 11 (some 66) (bm 12 4095) rfl rfl ?_
          refine done_ (done_of HT_.out (by kernel_rfl)) ?_
          try go_wp2
          go_ret3
          exact ⟨by first | rfl | (simp [errW_none, errW_some] <;> rfl) | (simp only [← hji8, ← hji40]; first | rfl | (simp [errW_none, errW_some] <;> rfl)) | (simp [*, errW_none, errW_some] <;> rfl) | (simp [errW_none, errW_some]; exact (by intro l_; cases l_ <;> rfl : ∀ l_ : List UInt8, l_.isEmpty = !(l_ != [])) _), zb HB⟩
         ·rw [if_neg c44] at H
          have c44b0 : (t492.toList == (a0.extract 0 1).toList) = false := beq_eq_false_iff_ne.mpr c44
          have c44b1 : (t492.toList != (a0.extract 0 1).toList) = true := bne_iff_ne.mpr c44
          simp only [Option.some.injEq, Prod.mk.injEq] at H
          obtain ⟨rfl, rfl, rfl⟩ := H
          have p10 : 0 ≤ (0 : Int) := (by omega)
          have q10 : 0 < a0.size := (by have : (0 : Int) < (a0.size : Int) := of_decide_eq_true za; omega)
          have hx10 : ∀ h : 0 < a0.size, ((a0[0]'h).toNat : Int) = bt a0 0 := bt_at a0 0
          clear p10
          have qi10 : (0 < (a0.size : Int)) = True := eq_true (of_decide_eq_true za)
          replace q10 := eq_true q10
          try go_wp2
          replace HB := Aside0.mk (below_drew1 HB.out)
          have p38 : 0 ≤ (0 : Int) := (by omega)
          have q38 : 0 < a0.size := (by have : (0 : Int) < (a0.size : Int) := of_decide_eq_true za; omega)
          have hx38 : ∀ h : 0 < a0.size, ((a0[0]'h).toNat : Int) = bt a0 0 := bt_at a0 0
          clear p38
          have qi38 : (0 < (a0.size : Int)) = True := eq_true (of_decide_eq_true za)
          replace q38 := eq_true q38
          refine start_ (n := 12) (S := fun w' => True) (ds := []) #[false, false, false, false, false, false, false, false, false, false, false, false] (by kernel_rfl) rfl rfl trivial (fun hHeld => ?_); refine with_tabW impl_NumRead.tab13 impl_NumRead.bits13 (fun HT_ HW_ => ?_)
          generalize wc.drew = w47 at HB hHeld ⊢
          refine pu 0 (some 55) (bm 12 1) rfl rfl ?_
          refine pu 1 (some 56) (bm 12 3) rfl rfl ?_
          refine pu 2 (some 57) (bm 12 7) rfl rfl ?_
          refine pu 5 (some 60) (bm 12 39) rfl rfl ?_
          refine pu 8 (some 63) (bm 12 295) rfl rfl ?_
          refine pu 9 (some 64) (bm 12 807) rfl rfl ?_
          refine pu 10 (some 65) (bm 12 1831) rfl rfl ?_
          refine take_ (i := 3) (N := some 58) (v := ?_) (a' := ?_) #[true, true, true, true, false, true, false, false, true, true, true, false] rfl rfl (take_ofW HT_.out HW_.out (by kernel_rfl)) (fun _ _ _ h => h) (Or.inl ⟨by rfl, ?_⟩) hHeld ?_ ?_
          rotate_left
          ·intro w' _
           go_simp
           with_reducible rfl
          rotate_left
          ·simp only [Act.put, s1, s2, s3, i64_w, i32_w]
           rfl
          refine pu 4 (some 59) (bm 12 1855) rfl rfl ?_
          refine pu 6 (some 61) (bm 12 1919) rfl rfl ?_
          refine one_ (i := 7) (N := some 62) (bm 12 2047) rfl rfl (one_of HT_.out (by kernel_rfl)) (by decide) (fun K hK => ?_)
          refine goes_ Try.func112 (by kernel_rfl) rfl #[.int .i64 (Go.bits .and .i64 (wrap64 (bt a0 0)) (wrap64 ((ji8) - 1))), .int .i64 a1, .int .i64 ji40] (by rfl) rfl rfl (by (try simp only [List.map_toArray, List.map_cons, List.map_nil]); first | done | (simp only [hji40, hji8]; rfl) | rfl | (simp only [List.length_drop, List.length_take]; rfl)) ?_
          with_reducible refine (impl_NumWrite.calls kj2 (Go.bits .and .i64 (wrap64 (bt a0 0)) (wrap64 ((ji8) - 1))) a1 ji40 t492 _ A41.out).mono ?_
          rintro e w48 ⟨rfl, hb⟩
          refine ⟨_, rfl, ?_⟩
          replace HB := Aside0.mk (below_step (zb HB) hb)
          (try clear hb)
          refine hK.out _ _ trivial (fun hHeld => ?_)
          clear hK K
          refine nm ?_
          refine pu 11 (some 66) (bm 12 4095) rfl rfl ?_
          refine done_ (done_of HT_.out (by kernel_rfl)) ?_
          try go_wp2
          go_ret3
          exact ⟨by first | rfl | (simp [errW_none, errW_some] <;> rfl) | (simp only [← hji8, ← hji40]; first | rfl | (simp [errW_none, errW_some] <;> rfl)) | (simp [*, errW_none, errW_some] <;> rfl) | (simp [errW_none, errW_some]; exact (by intro l_; cases l_ <;> rfl : ∀ l_ : List UInt8, l_.isEmpty = !(l_ != [])) _), zb HB⟩
        ·rw [if_neg c43] at H
         exact absurd H (by simp)
       ·rw [if_neg c42] at H
        exact absurd H (by simp)
     ·rw [if_neg c9] at H
      exact absurd H (by simp)
    ·skip
     exact absurd H (by simp)

/-! ### impl_Table_at: function 116 -/
-- thin
def impl_Table_at.f (l0_0 : List (S88)) (a0_1 : Int) (a1 : Int) : Option (ByteArray × ByteArray × Bool × Bool) := (impl_Table_all.f l0_0 a0_1).bind fun t495 => ((impl_in.f a1 1 (t495.length : Int)).bind fun t498 => (if t498 = true then (if 0 ≤ (wrap64 (a1 - 1)) then (if (wrap64 (a1 - 1)) < (t495.length : Int) then (some ((rd_T88 t495 (wrap64 (a1 - 1))).f0, (rd_T88 t495 (wrap64 (a1 - 1))).f1, (rd_T88 t495 (wrap64 (a1 - 1))).f2, true)) else (none)) else (none)) else (some ((⟨#[]⟩ : ByteArray), (⟨#[]⟩ : ByteArray), false, false))))
set_option maxHeartbeats 8000000 in
set_option maxRecDepth 100000 in
theorem impl_Table_at.calls (A0_0 : Option Addr) (c0_0 : Nat) (l0_0 : List (S88)) (a0_1 : Int) (a1 : Int) (r1 : ByteArray) (r2 : ByteArray) (r3 : Bool) (r4 : Bool) (w : World) (hr0_0 : Kd.C k88 w A0_0 l0_0.length l0_0) (hc0_0 : l0_0.length ≤ c0_0) (h : impl_Table_at.f l0_0 a0_1 a1 = some (r1, r2, r3, r4)) :
  Calls Try.prog 116 #[.agg #[.slice A0_0 l0_0.length c0_0, .int .i64 a0_1], .int .i64 a1] w fun e w' => e = .returned (.tuple #[.agg #[.string r1, .string r2, .bool r3], .bool r4]) ∧ Below w.heap.size w w' := by
 have hu25 := Try.underlying25
 have hu88 := Try.underlying88
 have HR0_0 := Aside0.mk hr0_0
 have HC0_0 := Aside0.mk hc0_0
 clear hr0_0 hc0_0
 have HB := Aside0.mk (Below.refl w.heap.size w)
 have H : ((impl_Table_all.f l0_0 a0_1).bind fun t495 => ((impl_in.f a1 1 (t495.length : Int)).bind fun t498 => (if t498 = true then (if 0 ≤ (wrap64 (a1 - 1)) then (if (wrap64 (a1 - 1)) < (t495.length : Int) then (some ((rd_T88 t495 (wrap64 (a1 - 1))).f0, (rd_T88 t495 (wrap64 (a1 - 1))).f1, (rd_T88 t495 (wrap64 (a1 - 1))).f2, true)) else (none)) else (none)) else (some ((⟨#[]⟩ : ByteArray), (⟨#[]⟩ : ByteArray), false, false))))) = some (r1, r2, r3, r4) := h
 clear h
 obtain ⟨t495, A3, H⟩ := ob H
 (try dsimp only at H)
 obtain ⟨t498, A4, H⟩ := ob H
 (try dsimp only at H)
 have HC5 := Aside0.mk H
 clear H
 go_enter Try.func116, Try.ntmps116
 go_upto_if 13 with (first | ((with_reducible refine gd 2 rfl ?_); refine bx (N := 2) (cs := #[.slice A0_0 l0_0.length c0_0, .int .i64 a0_1]) (t := 25) ?_; intro gb493 hg w6 hbox hb; have BK493 := Aside0.mk (hbox); have GW493 := gw HB hg; have GE493 := GW493; replace HB := Aside0.mk (below_step (zb HB) hb); clear hb hbox hg) | ((with_reducible refine gd 4 rfl ?_); refine bx (N := 4) (cs := #[.string (⟨#[]⟩ : ByteArray), .string (⟨#[]⟩ : ByteArray), .bool false]) (t := 88) ?_; intro gb494 hg w7 hbox hb; have BK494 := Aside0.mk (hbox); have GW494 := gw HB hg; have GE494 := GW494; replace HB := Aside0.mk (below_step (zb HB) hb); obtain ⟨NB493_494, NB494_493⟩ := nb BK493 hg; replace BK493 := kb BK493 hb; clear hb hbox hg; have hnb8 := NB493_494.out; have hnc8 := NB494_493.out; obtain ⟨hcz9_0, hcz9_1, hfz9_0, hfz9_1⟩ := c2 BK493) | ((with_reducible refine gq 146 rfl ?_); refine gl (some 8) Try.func146 #[.agg #[.slice A0_0 l0_0.length c0_0, .int .i64 a0_1]] ?_; (with_reducible refine (impl_Table_all.calls (fun k_ => k_ < w.heap.size) _ _ l0_0 a0_1 t495 _ ?side1 A3.out).mono ?_); (case side1 => exact Kd.V_mk HC0_0.out (Kd.F_below (Kd.C_F k88_heap HR0_0.out) (zb HB))); rintro e w10 ⟨v496, rfl, ho0, hb⟩; refine ⟨_, rfl, ?_⟩; have HO497 := Aside0.mk (Kd.R_lower (Kd.R_newB (Kd.R_mono (ok' := fun k_ => True) ho0 (fun _ hk_ => trivial)) (zk BK494)) (below_size (zb HB))); replace BK493 := kb BK493 hb; replace BK494 := kb BK494 hb; replace HB := Aside0.mk (below_step (zb HB) hb); (try clear hb); (try clear ho0); obtain ⟨Ao11, co11, eo11⟩ := Kd.R_slice HO497.out; subst eo11) | ((with_reducible refine gq 61 rfl ?_); refine gl (some 12) Try.func61 #[.int .i64 a1, .int .i64 1, .int .i64 (t495.length : Int)] ?_; (with_reducible refine (impl_in.calls a1 1 (t495.length : Int) t498 _ A4.out).mono ?_); rintro e w' ⟨rfl, ⟨nd, rfl⟩⟩; refine ⟨_, rfl, ?_⟩))
 (try simp only [Act.put, s1, s2, s3])
 have H := HC5.out
 clear HC5
 by_cases c12 : t498 = true
 ·subst c12
  rw [if_pos rfl] at H
  obtain ⟨ji13, hji13⟩ : ∃ j_ : Int, (wrap64 (a1 - 1)) = j_ := ⟨_, rfl⟩
  replace H : (if 0 ≤ (ji13) then (if (ji13) < (t495.length : Int) then (some ((rd_T88 t495 (ji13)).f0, (rd_T88 t495 (ji13)).f1, (rd_T88 t495 (ji13)).f2, true)) else (none)) else (none)) = some (r1, r2, r3, r4) := by first | (rw [hji13] at H; exact H) | (simp only [hji13] at H ⊢; exact H)
  have hji13w : (IntKind.i64.wrap (a1 - 1)) = ji13 := (i64_w _).trans hji13
  replace H := sp H
  rcases H with ⟨c14, H⟩ | ⟨c14, H⟩
  ·skip
   have c14b0 := decide_eq_true c14
   clear c14
   (first | rw [c14b0] | rw [c14b1] | (simp only [i64_w, i32_w]; rw [c14b0]) | skip)
   by_cases c15 : (ji13) < (t495.length : Int)
   ·rw [if_pos c15] at H
    have c15b0 := decide_eq_true c15
    clear c15
    simp only [Option.some.injEq, Prod.mk.injEq] at H
    obtain ⟨rfl, rfl, rfl, rfl⟩ := H
    have p499 : 0 ≤ ((ji13) : Int) := of_decide_eq_true za
    have q499 : (ji13) < (t495.length : Int) := of_decide_eq_true za
    obtain ⟨ad499, e499, hx499_0, hx499_1, hx499_2⟩ := at_T88 (Kd.R_reads' HO497.out).2.2 (ji13) p499 q499
    cases e499
    replace p499 := eq_true p499
    replace q499 := eq_true q499
    have hnb16 := NB494_493.out
    have hnc16 := NB493_494.out
    obtain ⟨hcz17_0, hcz17_1, hcz17_2, hfz17_0, hfz17_1, hfz17_2⟩ := c3 BK494
    go_wp2
    refine bodyPost_ret (results_ct rfl _ _ gb494 88 #[.string ((rd_T88 t495 (ji13)).f0), .string ((rd_T88 t495 (ji13)).f1), .bool ((rd_T88 t495 (ji13)).f2)] (0, 0) _ rfl (by (with_reducible repeat (first | refine blk_drewN ?_ _ | refine blk_drew ?_ | refine blk_alloc ?_ _)); refine blk_put (cs := #[.string ((rd_T88 t495 (ji13)).f0), .string ((rd_T88 t495 (ji13)).f1), .bool false]) ?_ 2 _ rfl; (with_reducible repeat (first | refine blk_drewN ?_ _ | refine blk_drew ?_ | refine blk_alloc ?_ _)); refine blk_put (cs := #[.string ((rd_T88 t495 (ji13)).f0), .string (⟨#[]⟩ : ByteArray), .bool false]) ?_ 1 _ rfl; (with_reducible repeat (first | refine blk_drewN ?_ _ | refine blk_drew ?_ | refine blk_alloc ?_ _)); refine blk_put (cs := #[.string (⟨#[]⟩ : ByteArray), .string (⟨#[]⟩ : ByteArray), .bool false]) ?_ 0 _ rfl; exact zk BK494) Try.underlying88 rfl (by kernel_rfl)) rfl ?_
    exact ⟨by first | rfl | (simp [errW_none, errW_some] <;> rfl) | (simp only [← hji13]; first | rfl | (simp [errW_none, errW_some] <;> rfl)) | (simp [*, errW_none, errW_some] <;> rfl) | (simp [errW_none, errW_some]; exact (by intro l_; cases l_ <;> rfl : ∀ l_ : List UInt8, l_.isEmpty = !(l_ != [])) _), zb HB⟩
   ·rw [if_neg c15] at H
    exact absurd H (by simp)
  ·skip
   exact absurd H (by simp)
 ·replace c12 := Bool.eq_false_iff.mpr c12
  subst c12
  rw [if_neg (show ¬ (false = true) by decide)] at H
  simp only [Option.some.injEq, Prod.mk.injEq] at H
  obtain ⟨rfl, rfl, rfl, rfl⟩ := H
  have hnb18 := NB494_493.out
  have hnc18 := NB493_494.out
  obtain ⟨hcz19_0, hcz19_1, hcz19_2, hfz19_0, hfz19_1, hfz19_2⟩ := c3 BK494
  go_wp2
  refine bodyPost_ret (results_ct rfl _ _ gb494 88 #[.string (⟨#[]⟩ : ByteArray), .string (⟨#[]⟩ : ByteArray), .bool false] (0, 0) _ rfl (by (with_reducible repeat (first | refine blk_drewN ?_ _ | refine blk_drew ?_ | refine blk_alloc ?_ _)); refine blk_put (cs := #[.string (⟨#[]⟩ : ByteArray), .string (⟨#[]⟩ : ByteArray), .bool false]) ?_ 2 _ rfl; (with_reducible repeat (first | refine blk_drewN ?_ _ | refine blk_drew ?_ | refine blk_alloc ?_ _)); refine blk_put (cs := #[.string (⟨#[]⟩ : ByteArray), .string (⟨#[]⟩ : ByteArray), .bool false]) ?_ 1 _ rfl; (with_reducible repeat (first | refine blk_drewN ?_ _ | refine blk_drew ?_ | refine blk_alloc ?_ _)); refine blk_put (cs := #[.string (⟨#[]⟩ : ByteArray), .string (⟨#[]⟩ : ByteArray), .bool false]) ?_ 0 _ rfl; exact zk BK494) Try.underlying88 rfl (by kernel_rfl)) rfl ?_
  exact ⟨ze, zb HB⟩

end Go.Proofs.Ytlpibelofcabhaa.PFnHeadBack
