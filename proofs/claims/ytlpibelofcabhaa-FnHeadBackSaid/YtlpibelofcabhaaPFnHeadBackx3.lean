-- WRITTEN BY a turned print (wip/tools of the prover's repo)
import Derived.Test.YtlpibelofcabhaaPFnHeadBackx0
import Derived.Test.YtlpibelofcabhaaPFnHeadBackx2
namespace Go.Proofs.Ytlpibelofcabhaa.PFnHeadBack
open Go.RowKit Go.Proofs.YtlpibelofcabhaaW.PrintWords Go.Proofs.YtlpibelofcabhaaW.PrintLast Go.Proofs.YtlpibelofcabhaaW.PrintMore Go.Proofs.Ytlpibelofcabhaa.Lm
attribute [local go_sem] max2_int min2_int max_two min_two max_three min_three max_four min_four   -- for this text's walks alone
set_option linter.unusedVariables false
set_option linter.unusedSimpArgs false

/-! ### spec_l71Word: function 140 -/
-- thin
def spec_l71Word.l0 : Nat → ByteArray → Int → List Int → Int → Option (ByteArray × Int)
 | 0, _, _, _, _ => none
 | k + 1, x3, x4, x1000, x1001 => if x4 > 0 then ((spec_l6Rd_pick.f k x1000 x1001 24).bind fun bt121 => ((spec_l6Rd_pick.f k x1000 bt121.2 4).bind fun bt123 => (if bt123.1 = 0 then ((spec_l6Rd_pick.f k x1000 bt123.2 39).bind fun bt125 => (if 0 ≤ bt125.1 then (if bt125.1 < 39 then ((spec_l1Byte.f (wrap64 (bt (⟨#[101, 116, 97, 111, 105, 110, 115, 114, 104, 108, 48, 49, 50, 51, 52, 53, 54, 55, 56, 57, 100, 99, 117, 109, 102, 112, 103, 119, 121, 98, 118, 107, 120, 106, 113, 122, 58, 47, 45]⟩ : ByteArray) bt125.1))).bind fun t127 => (if x3.size + t127.size ≤ 9223372036854775807 then (spec_l71Word.l0 k (x3 ++ t127) (wrap64 (x4 - 1)) x1000 bt125.2) else (none))) else (none)) else (none))) else (if 0 ≤ bt121.1 then (if bt121.1 < 39 then ((spec_l1Byte.f (wrap64 (bt (⟨#[101, 116, 97, 111, 105, 110, 115, 114, 104, 108, 48, 49, 50, 51, 52, 53, 54, 55, 56, 57, 100, 99, 117, 109, 102, 112, 103, 119, 121, 98, 118, 107, 120, 106, 113, 122, 58, 47, 45]⟩ : ByteArray) bt121.1))).bind fun t128 => (if x3.size + t128.size ≤ 9223372036854775807 then (spec_l71Word.l0 k (x3 ++ t128) (wrap64 (x4 - 1)) x1000 bt123.2) else (none))) else (none)) else (none))))) else ((spec_l6Rd_pick.f k x1000 x1001 24).bind fun bt129 => (if bt129.1 = 0 then (if x3.size + 1 ≤ 9223372036854775807 then (some (x3 ++ (⟨#[65]⟩ : ByteArray), bt129.2)) else (none)) else (if bt129.1 = 1 then ((spec_l6Rd_pick.f k x1000 bt129.2 4).bind fun bt131 => ((spec_l6Many.f k (⟨#[101]⟩ : ByteArray) (wrap64 (15 + bt131.1))).bind fun t133 => (some (t133, bt131.2)))) else (some (x3, bt129.2)))))
def spec_l71Word.f (k : Nat) (s0_0 : List Int) (s0_1 : Int) : Option (ByteArray × Int) := (spec_l6Rd_pick.f k s0_0 s0_1 9).bind fun bt117 => ((spec_l6Rd_pick.f k s0_0 bt117.2 6).bind fun bt119 => (spec_l71Word.l0 k (⟨#[]⟩ : ByteArray) (wrap64 (bt117.1 + (wrap64 ((wrap64 (Int.tdiv bt119.1 5)) * 8)))) s0_0 bt119.2))
theorem spec_l71Word.mono_l : ∀ k, (∀ y0 y1 y2 y3, LeO (spec_l71Word.l0 k y0 y1 y2 y3) (spec_l71Word.l0 (k + 1) y0 y1 y2 y3))
 | 0 => fun _ _ _ _ r h => by simp [spec_l71Word.l0] at h
 | k + 1 => by
  have ih0 := spec_l71Word.mono_l k
  ·intro y0 y1 y2 y3
   unfold spec_l71Word.l0
   have m0 := @spec_l6Many.mono
   have m1 := @spec_l6Rd_pick.mono
   exact zm
theorem spec_l71Word.mono : ∀ a0 a1 k, LeO (spec_l71Word.f k a0 a1) (spec_l71Word.f (k + 1) a0 a1) := by
 intro a0 a1 k
 have ih0 := spec_l71Word.mono_l k
 unfold spec_l71Word.f
 have m0 := @spec_l6Many.mono
 have m1 := @spec_l6Rd_pick.mono
 exact zm
set_option maxHeartbeats 8000000 in
set_option maxRecDepth 100000 in
theorem spec_l71Word.calls (k : Nat) (g : Nat) (s0_0 : List Int) (s0_1 : Int) (r1 : ByteArray) (r2 : Int) (w0 w : World) (hI : IsS139 w0 w g s0_0 s0_1) (hB : Below w0.heap.size w0 w) (h : spec_l71Word.f k s0_0 s0_1 = some (r1, r2)) :
  Calls Try.prog 140 #[.pointer (some ⟨g, 0, none⟩)] w fun e w' => e = .returned (.string r1) ∧ IsS139 w0 w' g s0_0 r2 ∧ Below w0.heap.size w0 w' ∧ KeepBut w w' g none := by
 have HI0 := Aside0.mk hI
 have HK := Aside0.mk (KeepBut.refl w g none)
 have HL := Aside0.mk hB.size
 clear hI
 have HW0 := Aside0.mk hB.size
 have HB := Aside0.mk hB
 clear hB
 have H : ((spec_l6Rd_pick.f k s0_0 s0_1 9).bind fun bt117 => ((spec_l6Rd_pick.f k s0_0 bt117.2 6).bind fun bt119 => (spec_l71Word.l0 k (⟨#[]⟩ : ByteArray) (wrap64 (bt117.1 + (wrap64 ((wrap64 (Int.tdiv bt119.1 5)) * 8)))) s0_0 bt119.2))) = some (r1, r2) := h
 clear h
 obtain ⟨⟨t117, t118⟩, A2, H⟩ := ob H
 (try dsimp only at H)
 obtain ⟨⟨t119, t120⟩, A3, H⟩ := ob H
 (try dsimp only at H)
 have H' := Aside0.mk H
 clear H
 go_enter Try.func140, Try.ntmps140
 go_wp2_with (first | ((with_reducible refine gq 74 rfl ?_); refine gl (some 7) Try.func74 #[.pointer (some ⟨g, 0, none⟩), .int .i64 9] ?_; (with_reducible refine (spec_l6Rd_pick.calls k g s0_0 s0_1 9 t117 t118 w0 _ ?side1 ?side2 A2.out).mono ?_); (case side1 => exact zi139 HI0); (case side2 => exact zg139 HB); rintro e w4 ⟨rfl, hi, hb, hk⟩; refine ⟨_, rfl, ?_⟩; replace HK := Aside0.mk (KeepBut.trans (zh HK) hk (.inl rfl)); replace HB := Aside0.mk (hb); replace HI0 := Aside0.mk (hi); (try clear hb); (try clear hk); (try clear hi)) | ((with_reducible refine gq 74 rfl ?_); refine gl (some 9) Try.func74 #[.pointer (some ⟨g, 0, none⟩), .int .i64 6] ?_; (with_reducible refine (spec_l6Rd_pick.calls k g s0_0 t118 6 t119 t120 w0 _ ?side1 ?side2 A3.out).mono ?_); (case side1 => exact zi139 HI0); (case side2 => exact zg139 HB); rintro e w5 ⟨rfl, hi, hb, hk⟩; refine ⟨_, rfl, ?_⟩; replace HK := Aside0.mk (KeepBut.trans (zh HK) hk (.inl rfl)); replace HB := Aside0.mk (hb); replace HI0 := Aside0.mk (hi); (try clear hb); (try clear hk); (try clear hi)))
 go_loopg [3, 4] k (fun kq v3 v4 w' => ∃ (x3_1 : ByteArray) (x4_1 : Int) (x1001_1 : Int), v3 = .string x3_1 ∧ v4 = .int .i64 x4_1 ∧ Aside0 (spec_l71Word.l0 kq x3_1 x4_1 s0_0 x1001_1 = some (r1, r2)) ∧ Aside0 (kq ≤ k) ∧ Aside0 (IsS139 w0 w' g s0_0 x1001_1) ∧ Aside0 (KeepBut w w' g none) ∧ Aside0 (Below w0.heap.size w0 w'))
 case atStart => exact ⟨((⟨#[]⟩ : ByteArray)), (wrap64 (t117 + (wrap64 ((wrap64 (Int.tdiv t119 5)) * 8)))), (t120), zs, zs, H', ⟨Nat.le_refl _⟩, ⟨zi139 HI0⟩, ⟨zh HK⟩, ⟨zg139 HB⟩⟩
 case round =>
  clear H'
  try clear c1
  try clear p2
  obtain ⟨x3_1, x4_1, x1001_1, rfl, rfl, HA, HK1, HI0, HK, HB⟩ := hrel
  cases gk with
  | zero => exact absurd HA.out (by simp [spec_l71Word.l0])
  | succ k1 =>
   have H := HA.out
   clear HA
   simp only [spec_l71Word.l0] at H
   replace H := sp H
   rcases H with ⟨c6, H⟩ | ⟨c6, H⟩
   ·skip
    have c6b0 := decide_eq_true c6
    clear c6
    obtain ⟨⟨t121, t122⟩, A7, H⟩ := ob H
    (try dsimp only at H)
    obtain ⟨⟨t123, t124⟩, A8, H⟩ := ob H
    (try dsimp only at H)
    have HC9 := Aside0.mk H
    clear H
    go_upto_if 21 with (first | ((with_reducible refine gq 74 rfl ?_); refine gl (some 18) Try.func74 #[.pointer (some ⟨g, 0, none⟩), .int .i64 24] ?_; (with_reducible refine (spec_l6Rd_pick.calls k1 g s0_0 x1001_1 24 t121 t122 w0 _ ?side1 ?side2 A7.out).mono ?_); (case side1 => exact zi139 HI0); (case side2 => exact zg139 HB); rintro e w10 ⟨rfl, hi, hb, hk⟩; refine ⟨_, rfl, ?_⟩; replace HK := Aside0.mk (KeepBut.trans (zh HK) hk (.inl rfl)); replace HB := Aside0.mk (hb); replace HI0 := Aside0.mk (hi); (try clear hb); (try clear hk); (try clear hi)) | ((with_reducible refine gq 74 rfl ?_); refine gl (some 20) Try.func74 #[.pointer (some ⟨g, 0, none⟩), .int .i64 4] ?_; (with_reducible refine (spec_l6Rd_pick.calls k1 g s0_0 t122 4 t123 t124 w0 _ ?side1 ?side2 A8.out).mono ?_); (case side1 => exact zi139 HI0); (case side2 => exact zg139 HB); rintro e w11 ⟨rfl, hi, hb, hk⟩; refine ⟨_, rfl, ?_⟩; replace HK := Aside0.mk (KeepBut.trans (zh HK) hk (.inl rfl)); replace HB := Aside0.mk (hb); replace HI0 := Aside0.mk (hi); (try clear hb); (try clear hk); (try clear hi)))
    (try simp only [Act.put, s1, s2, s3])
    have H := HC9.out
    clear HC9
    by_cases c12 : t123 = 0
    ·rw [if_pos c12] at H
     have c12b0 : (t123 == 0) = true := beq_iff_eq.mpr c12
     have c12b1 : (t123 != 0) = false := bne_eq_false_iff_eq.mpr c12
     clear c12
     (first | rw [c12b0] | rw [c12b1] | (simp only [i64_w, i32_w]; rw [c12b0]) | skip)
     obtain ⟨⟨t125, t126⟩, A13, H⟩ := ob H
     (try dsimp only at H)
     by_cases c14 : 0 ≤ t125
     ·rw [if_pos c14] at H
      have c14b0 := decide_eq_true c14
      clear c14
      by_cases c15 : t125 < 39
      ·rw [if_pos c15] at H
       have c15b0 := decide_eq_true c15
       clear c15
       obtain ⟨t127, A17, H⟩ := ob H
       (try dsimp only at H)
       by_cases c18 : x3_1.size + t127.size ≤ 9223372036854775807
       ·rw [if_pos c18] at H
        have c18b0 := eq_true c18
        have c18b1 := decide_eq_true c18
        try have c18b2 : (9223372036854775807 < x3_1.size + t127.size) = False := eq_false (Nat.not_lt.2 c18)
        have H' := Aside0.mk H
        clear H
        go_wp2_with (first | ((with_reducible refine gq 74 rfl ?_); refine gl (some 23) Try.func74 #[.pointer (some ⟨g, 0, none⟩), .int .i64 39] ?_; (with_reducible refine (spec_l6Rd_pick.calls k1 g s0_0 t124 39 t125 t126 w0 _ ?side1 ?side2 A13.out).mono ?_); (case side1 => exact zi139 HI0); (case side2 => exact zg139 HB); rintro e w19 ⟨rfl, hi, hb, hk⟩; refine ⟨_, rfl, ?_⟩; replace HK := Aside0.mk (KeepBut.trans (zh HK) hk (.inl rfl)); replace HB := Aside0.mk (hb); replace HI0 := Aside0.mk (hi); (try clear hb); (try clear hk); (try clear hi); have p16 : 0 ≤ (t125 : Int) := of_decide_eq_true za; have q16 : t125 < (39 : Int) := of_decide_eq_true za; have hx16 := bt_at (⟨#[101, 116, 97, 111, 105, 110, 115, 114, 104, 108, 48, 49, 50, 51, 52, 53, 54, 55, 56, 57, 100, 99, 117, 109, 102, 112, 103, 119, 121, 98, 118, 107, 120, 106, 113, 122, 58, 47, 45]⟩ : ByteArray) t125; replace p16 := eq_true p16; replace q16 := eq_true q16) | ((with_reducible refine gq 158 rfl ?_); refine gl (some 28) Try.func158 #[.int .i64 (wrap64 (bt (⟨#[101, 116, 97, 111, 105, 110, 115, 114, 104, 108, 48, 49, 50, 51, 52, 53, 54, 55, 56, 57, 100, 99, 117, 109, 102, 112, 103, 119, 121, 98, 118, 107, 120, 106, 113, 122, 58, 47, 45]⟩ : ByteArray) t125))] ?_; (with_reducible refine (spec_l1Byte.calls (wrap64 (bt (⟨#[101, 116, 97, 111, 105, 110, 115, 114, 104, 108, 48, 49, 50, 51, 52, 53, 54, 55, 56, 57, 100, 99, 117, 109, 102, 112, 103, 119, 121, 98, 118, 107, 120, 106, 113, 122, 58, 47, 45]⟩ : ByteArray) t125)) t127 _ A17.out).mono ?_); rintro e w20 ⟨rfl, hb⟩; refine ⟨_, rfl, ?_⟩; replace HI0 := Aside0.mk (IsS139.below (zi139 HI0) hb); replace HK := Aside0.mk (KeepBut.trans (zh HK) (KeepBut.of_below hb g none) (.inl rfl)); replace HB := Aside0.mk (below_step (zg139 HB) hb); (try clear hb)))
        go_roundg k1
        case measure => have := HK1.out; omega
        case rel => exact ⟨(x3_1 ++ t127), (wrap64 (x4_1 - 1)), (t126), zs, zs, H', ⟨by have := HK1.out; omega⟩, ⟨zi139 HI0⟩, ⟨zh HK⟩, ⟨zg139 HB⟩⟩
       ·rw [if_neg c18] at H
        exact absurd H (by simp)
      ·rw [if_neg c15] at H
       exact absurd H (by simp)
     ·rw [if_neg c14] at H
      exact absurd H (by simp)
    ·rw [if_neg c12] at H
     have c12b0 : (t123 == 0) = false := beq_eq_false_iff_ne.mpr c12
     have c12b1 : (t123 != 0) = true := bne_iff_ne.mpr c12
     (first | rw [c12b0] | rw [c12b1] | (simp only [i64_w, i32_w]; rw [c12b0]) | skip)
     by_cases c21 : 0 ≤ t121
     ·rw [if_pos c21] at H
      have c21b0 := decide_eq_true c21
      clear c21
      by_cases c22 : t121 < 39
      ·rw [if_pos c22] at H
       have c22b0 := decide_eq_true c22
       clear c22
       obtain ⟨t128, A24, H⟩ := ob H
       (try dsimp only at H)
       by_cases c25 : x3_1.size + t128.size ≤ 9223372036854775807
       ·rw [if_pos c25] at H
        have c25b0 := eq_true c25
        have c25b1 := decide_eq_true c25
        try have c25b2 : (9223372036854775807 < x3_1.size + t128.size) = False := eq_false (Nat.not_lt.2 c25)
        have H' := Aside0.mk H
        clear H
        have p23 : 0 ≤ (t121 : Int) := of_decide_eq_true za
        have q23 : t121 < (39 : Int) := of_decide_eq_true za
        have hx23 := bt_at (⟨#[101, 116, 97, 111, 105, 110, 115, 114, 104, 108, 48, 49, 50, 51, 52, 53, 54, 55, 56, 57, 100, 99, 117, 109, 102, 112, 103, 119, 121, 98, 118, 107, 120, 106, 113, 122, 58, 47, 45]⟩ : ByteArray) t121
        replace p23 := eq_true p23
        replace q23 := eq_true q23
        go_wp2_with (first | ((with_reducible refine gq 158 rfl ?_); refine gl (some 28) Try.func158 #[.int .i64 (wrap64 (bt (⟨#[101, 116, 97, 111, 105, 110, 115, 114, 104, 108, 48, 49, 50, 51, 52, 53, 54, 55, 56, 57, 100, 99, 117, 109, 102, 112, 103, 119, 121, 98, 118, 107, 120, 106, 113, 122, 58, 47, 45]⟩ : ByteArray) t121))] ?_; (with_reducible refine (spec_l1Byte.calls (wrap64 (bt (⟨#[101, 116, 97, 111, 105, 110, 115, 114, 104, 108, 48, 49, 50, 51, 52, 53, 54, 55, 56, 57, 100, 99, 117, 109, 102, 112, 103, 119, 121, 98, 118, 107, 120, 106, 113, 122, 58, 47, 45]⟩ : ByteArray) t121)) t128 _ A24.out).mono ?_); rintro e w26 ⟨rfl, hb⟩; refine ⟨_, rfl, ?_⟩; replace HI0 := Aside0.mk (IsS139.below (zi139 HI0) hb); replace HK := Aside0.mk (KeepBut.trans (zh HK) (KeepBut.of_below hb g none) (.inl rfl)); replace HB := Aside0.mk (below_step (zg139 HB) hb); (try clear hb)))
        go_roundg k1
        case measure => have := HK1.out; omega
        case rel => exact ⟨(x3_1 ++ t128), (wrap64 (x4_1 - 1)), (t124), zs, zs, H', ⟨by have := HK1.out; omega⟩, ⟨zi139 HI0⟩, ⟨zh HK⟩, ⟨zg139 HB⟩⟩
       ·rw [if_neg c25] at H
        exact absurd H (by simp)
      ·rw [if_neg c22] at H
       exact absurd H (by simp)
     ·rw [if_neg c21] at H
      exact absurd H (by simp)
   ·skip
    have c6b0 := decide_eq_false c6
    clear c6
    obtain ⟨⟨t129, t130⟩, A27, H⟩ := ob H
    (try dsimp only at H)
    replace H := sp H
    rcases H with ⟨c28, H⟩ | ⟨c28, H⟩
    ·skip
     have c28b0 : (t129 == 0) = true := beq_iff_eq.mpr c28
     have c28b1 : (t129 != 0) = false := bne_eq_false_iff_eq.mpr c28
     clear c28
     by_cases c29 : x3_1.size + 1 ≤ 9223372036854775807
     ·rw [if_pos c29] at H
      have c29b0 := eq_true c29
      have c29b1 := decide_eq_true c29
      try have c29b2 : (9223372036854775807 < x3_1.size + 1) = False := eq_false (Nat.not_lt.2 c29)
      simp only [Option.some.injEq, Prod.mk.injEq] at H
      obtain ⟨rfl, rfl⟩ := H
      go_wp2_with (first | ((with_reducible refine gq 74 rfl ?_); refine gl (some 31) Try.func74 #[.pointer (some ⟨g, 0, none⟩), .int .i64 24] ?_; (with_reducible refine (spec_l6Rd_pick.calls k1 g s0_0 x1001_1 24 t129 t130 w0 _ ?side1 ?side2 A27.out).mono ?_); (case side1 => exact zi139 HI0); (case side2 => exact zg139 HB); rintro e w30 ⟨rfl, hi, hb, hk⟩; refine ⟨_, rfl, ?_⟩; replace HK := Aside0.mk (KeepBut.trans (zh HK) hk (.inl rfl)); replace HB := Aside0.mk (hb); replace HI0 := Aside0.mk (hi); (try clear hb); (try clear hk); (try clear hi)))
      go_ret
      exact ⟨ze, zi139 HI0, zg139 HB, zh HK⟩
     ·rw [if_neg c29] at H
      exact absurd H (by simp)
    ·skip
     have c28b0 : (t129 == 0) = false := beq_eq_false_iff_ne.mpr c28
     have c28b1 : (t129 != 0) = true := bne_iff_ne.mpr c28
     replace H := sp H
     rcases H with ⟨c31, H⟩ | ⟨c31, H⟩
     ·skip
      have c31b0 : (t129 == 1) = true := beq_iff_eq.mpr c31
      have c31b1 : (t129 != 1) = false := bne_eq_false_iff_eq.mpr c31
      clear c31
      obtain ⟨⟨t131, t132⟩, A32, H⟩ := ob H
      (try dsimp only at H)
      obtain ⟨t133, A33, H⟩ := ob H
      (try dsimp only at H)
      simp only [Option.some.injEq, Prod.mk.injEq] at H
      obtain ⟨rfl, rfl⟩ := H
      go_wp2_with (first | ((with_reducible refine gq 74 rfl ?_); refine gl (some 31) Try.func74 #[.pointer (some ⟨g, 0, none⟩), .int .i64 24] ?_; (with_reducible refine (spec_l6Rd_pick.calls k1 g s0_0 x1001_1 24 t129 t130 w0 _ ?side1 ?side2 A27.out).mono ?_); (case side1 => exact zi139 HI0); (case side2 => exact zg139 HB); rintro e w34 ⟨rfl, hi, hb, hk⟩; refine ⟨_, rfl, ?_⟩; replace HK := Aside0.mk (KeepBut.trans (zh HK) hk (.inl rfl)); replace HB := Aside0.mk (hb); replace HI0 := Aside0.mk (hi); (try clear hb); (try clear hk); (try clear hi)) | ((with_reducible refine gq 74 rfl ?_); refine gl (some 39) Try.func74 #[.pointer (some ⟨g, 0, none⟩), .int .i64 4] ?_; (with_reducible refine (spec_l6Rd_pick.calls k1 g s0_0 t130 4 t131 t132 w0 _ ?side1 ?side2 A32.out).mono ?_); (case side1 => exact zi139 HI0); (case side2 => exact zg139 HB); rintro e w35 ⟨rfl, hi, hb, hk⟩; refine ⟨_, rfl, ?_⟩; replace HK := Aside0.mk (KeepBut.trans (zh HK) hk (.inl rfl)); replace HB := Aside0.mk (hb); replace HI0 := Aside0.mk (hi); (try clear hb); (try clear hk); (try clear hi)) | ((with_reducible refine gq 159 rfl ?_); refine gl (some 41) Try.func159 #[.string (⟨#[101]⟩ : ByteArray), .int .i64 (wrap64 (15 + t131))] ?_; (with_reducible refine (spec_l6Many.calls k1 (⟨#[101]⟩ : ByteArray) (wrap64 (15 + t131)) t133 _ A33.out).mono ?_); rintro e w' ⟨rfl, ⟨nd, rfl⟩⟩; refine ⟨_, rfl, ?_⟩))
      go_ret
      exact ⟨ze, zi139 HI0, zg139 HB, zh HK⟩
     ·skip
      have c31b0 : (t129 == 1) = false := beq_eq_false_iff_ne.mpr c31
      have c31b1 : (t129 != 1) = true := bne_iff_ne.mpr c31
      simp only [Option.some.injEq, Prod.mk.injEq] at H
      obtain ⟨rfl, rfl⟩ := H
      go_wp2_with (first | ((with_reducible refine gq 74 rfl ?_); refine gl (some 31) Try.func74 #[.pointer (some ⟨g, 0, none⟩), .int .i64 24] ?_; (with_reducible refine (spec_l6Rd_pick.calls k1 g s0_0 x1001_1 24 t129 t130 w0 _ ?side1 ?side2 A27.out).mono ?_); (case side1 => exact zi139 HI0); (case side2 => exact zg139 HB); rintro e w36 ⟨rfl, hi, hb, hk⟩; refine ⟨_, rfl, ?_⟩; replace HK := Aside0.mk (KeepBut.trans (zh HK) hk (.inl rfl)); replace HB := Aside0.mk (hb); replace HI0 := Aside0.mk (hi); (try clear hb); (try clear hk); (try clear hi)))
      go_ret
      exact ⟨ze, zi139 HI0, zg139 HB, zh HK⟩

/-! ### spec_l71Field: function 106 -/
-- thin
def spec_l71Field.f (k : Nat) (s0_0 : List Int) (s0_1 : Int) : Option (ByteArray × ByteArray × Bool × Int) := (spec_l6Rd_of.f k s0_0 s0_1 (([(⟨#[58, 112, 97, 116, 104]⟩ : ByteArray), (⟨#[58, 115, 116, 97, 116, 117, 115]⟩ : ByteArray), (⟨#[107, 105, 110, 100]⟩ : ByteArray), (⟨#[115, 105, 122, 101]⟩ : ByteArray), (⟨#[116, 101]⟩ : ByteArray), (⟨#[97]⟩ : ByteArray), (⟨#[98]⟩ : ByteArray), (⟨#[107, 101, 121]⟩ : ByteArray)] : List ByteArray))).bind fun bt138 => ((spec_l6Rd_of.f k s0_0 bt138.2 (([(⟨#[]⟩ : ByteArray), (⟨#[48]⟩ : ByteArray), (⟨#[49, 50]⟩ : ByteArray), (⟨#[116, 101, 120, 116]⟩ : ByteArray), (⟨#[116, 114, 97, 105, 108, 101, 114, 115]⟩ : ByteArray), (⟨#[47, 101, 99, 104, 111]⟩ : ByteArray), (⟨#[120]⟩ : ByteArray), (⟨#[121, 49]⟩ : ByteArray), (⟨#[97, 98, 99]⟩ : ByteArray)] : List ByteArray))).bind fun bt143 => ((spec_l6Rd_pick.f k s0_0 bt143.2 8).bind fun bt146 => ((spec_l6Rd_pick.f k s0_0 bt146.2 24).bind fun bt148 => (if bt148.1 = 0 then ((spec_l6Rd_of.f k s0_0 bt148.2 (([(⟨#[]⟩ : ByteArray), (⟨#[65]⟩ : ByteArray), (⟨#[97, 97, 97, 97, 97, 97, 97, 97, 97, 97, 97, 97, 97, 97, 97, 97, 97]⟩ : ByteArray)] : List ByteArray))).bind fun bt153 => (some (bt153.1, bt143.1, (bt146.1 == 0), bt153.2))) else (if bt148.1 = 1 then ((spec_l71Word.f k s0_0 bt148.2).bind fun bt155 => (some (bt138.1, bt155.1, (bt146.1 == 0), bt155.2))) else (some (bt138.1, bt143.1, (bt146.1 == 0), bt148.2)))))))
theorem spec_l71Field.mono : ∀ a0 a1 k, LeO (spec_l71Field.f k a0 a1) (spec_l71Field.f (k + 1) a0 a1) := by
 intro a0 a1 k
 unfold spec_l71Field.f
 have m0 := @spec_l6Rd_of.mono
 have m1 := @spec_l6Rd_pick.mono
 have m2 := @spec_l71Word.mono
 exact zm
set_option maxHeartbeats 8000000 in
set_option maxRecDepth 100000 in
theorem spec_l71Field.calls (k : Nat) (g : Nat) (s0_0 : List Int) (s0_1 : Int) (r1 : ByteArray) (r2 : ByteArray) (r3 : Bool) (r4 : Int) (w0 w : World) (hI : IsS139 w0 w g s0_0 s0_1) (hB : Below w0.heap.size w0 w) (h : spec_l71Field.f k s0_0 s0_1 = some (r1, r2, r3, r4)) :
  Calls Try.prog 106 #[.pointer (some ⟨g, 0, none⟩)] w fun e w' => e = .returned (.agg #[.string r1, .string r2, .bool r3]) ∧ IsS139 w0 w' g s0_0 r4 ∧ Below w0.heap.size w0 w' ∧ KeepBut w w' g none := by
 have hu88 := Try.underlying88
 have HI0 := Aside0.mk hI
 have HK := Aside0.mk (KeepBut.refl w g none)
 have HL := Aside0.mk hB.size
 clear hI
 have HW0 := Aside0.mk hB.size
 have HB := Aside0.mk hB
 clear hB
 have H : ((spec_l6Rd_of.f k s0_0 s0_1 (([(⟨#[58, 112, 97, 116, 104]⟩ : ByteArray), (⟨#[58, 115, 116, 97, 116, 117, 115]⟩ : ByteArray), (⟨#[107, 105, 110, 100]⟩ : ByteArray), (⟨#[115, 105, 122, 101]⟩ : ByteArray), (⟨#[116, 101]⟩ : ByteArray), (⟨#[97]⟩ : ByteArray), (⟨#[98]⟩ : ByteArray), (⟨#[107, 101, 121]⟩ : ByteArray)] : List ByteArray))).bind fun bt138 => ((spec_l6Rd_of.f k s0_0 bt138.2 (([(⟨#[]⟩ : ByteArray), (⟨#[48]⟩ : ByteArray), (⟨#[49, 50]⟩ : ByteArray), (⟨#[116, 101, 120, 116]⟩ : ByteArray), (⟨#[116, 114, 97, 105, 108, 101, 114, 115]⟩ : ByteArray), (⟨#[47, 101, 99, 104, 111]⟩ : ByteArray), (⟨#[120]⟩ : ByteArray), (⟨#[121, 49]⟩ : ByteArray), (⟨#[97, 98, 99]⟩ : ByteArray)] : List ByteArray))).bind fun bt143 => ((spec_l6Rd_pick.f k s0_0 bt143.2 8).bind fun bt146 => ((spec_l6Rd_pick.f k s0_0 bt146.2 24).bind fun bt148 => (if bt148.1 = 0 then ((spec_l6Rd_of.f k s0_0 bt148.2 (([(⟨#[]⟩ : ByteArray), (⟨#[65]⟩ : ByteArray), (⟨#[97, 97, 97, 97, 97, 97, 97, 97, 97, 97, 97, 97, 97, 97, 97, 97, 97]⟩ : ByteArray)] : List ByteArray))).bind fun bt153 => (some (bt153.1, bt143.1, (bt146.1 == 0), bt153.2))) else (if bt148.1 = 1 then ((spec_l71Word.f k s0_0 bt148.2).bind fun bt155 => (some (bt138.1, bt155.1, (bt146.1 == 0), bt155.2))) else (some (bt138.1, bt143.1, (bt146.1 == 0), bt148.2)))))))) = some (r1, r2, r3, r4) := h
 clear h
 obtain ⟨y135, hy135⟩ : ∃ y_ : List ByteArray, y_ = (([(⟨#[58, 112, 97, 116, 104]⟩ : ByteArray), (⟨#[58, 115, 116, 97, 116, 117, 115]⟩ : ByteArray), (⟨#[107, 105, 110, 100]⟩ : ByteArray), (⟨#[115, 105, 122, 101]⟩ : ByteArray), (⟨#[116, 101]⟩ : ByteArray), (⟨#[97]⟩ : ByteArray), (⟨#[98]⟩ : ByteArray), (⟨#[107, 101, 121]⟩ : ByteArray)] : List ByteArray)) := ⟨_, rfl⟩
 replace H : ((spec_l6Rd_of.f k s0_0 s0_1 y135).bind fun bt138 => ((spec_l6Rd_of.f k s0_0 bt138.2 (([(⟨#[]⟩ : ByteArray), (⟨#[48]⟩ : ByteArray), (⟨#[49, 50]⟩ : ByteArray), (⟨#[116, 101, 120, 116]⟩ : ByteArray), (⟨#[116, 114, 97, 105, 108, 101, 114, 115]⟩ : ByteArray), (⟨#[47, 101, 99, 104, 111]⟩ : ByteArray), (⟨#[120]⟩ : ByteArray), (⟨#[121, 49]⟩ : ByteArray), (⟨#[97, 98, 99]⟩ : ByteArray)] : List ByteArray))).bind fun bt143 => ((spec_l6Rd_pick.f k s0_0 bt143.2 8).bind fun bt146 => ((spec_l6Rd_pick.f k s0_0 bt146.2 24).bind fun bt148 => (if bt148.1 = 0 then ((spec_l6Rd_of.f k s0_0 bt148.2 (([(⟨#[]⟩ : ByteArray), (⟨#[65]⟩ : ByteArray), (⟨#[97, 97, 97, 97, 97, 97, 97, 97, 97, 97, 97, 97, 97, 97, 97, 97, 97]⟩ : ByteArray)] : List ByteArray))).bind fun bt153 => (some (bt153.1, bt143.1, (bt146.1 == 0), bt153.2))) else (if bt148.1 = 1 then ((spec_l71Word.f k s0_0 bt148.2).bind fun bt155 => (some (bt138.1, bt155.1, (bt146.1 == 0), bt155.2))) else (some (bt138.1, bt143.1, (bt146.1 == 0), bt148.2)))))))) = some (r1, r2, r3, r4) := by first | (rw [hy135]; with_reducible exact H) | (have H2_ := (Option.bind_some _ _).symm.trans H; rw [hy135]; with_reducible exact H2_) | (have H2_ := (Option.bind_some _ _).symm.trans H; with_reducible exact H2_) | with_reducible exact H | (rw [hy135]; exact H) | exact H
 have Ny135 := Aside0.mk hy135
 clear hy135
 obtain ⟨⟨t138, t139⟩, A2, H⟩ := ob H
 (try dsimp only at H)
 obtain ⟨y140, hy140⟩ : ∃ y_ : List ByteArray, y_ = (([(⟨#[]⟩ : ByteArray), (⟨#[48]⟩ : ByteArray), (⟨#[49, 50]⟩ : ByteArray), (⟨#[116, 101, 120, 116]⟩ : ByteArray), (⟨#[116, 114, 97, 105, 108, 101, 114, 115]⟩ : ByteArray), (⟨#[47, 101, 99, 104, 111]⟩ : ByteArray), (⟨#[120]⟩ : ByteArray), (⟨#[121, 49]⟩ : ByteArray), (⟨#[97, 98, 99]⟩ : ByteArray)] : List ByteArray)) := ⟨_, rfl⟩
 replace H : ((spec_l6Rd_of.f k s0_0 t139 y140).bind fun bt143 => ((spec_l6Rd_pick.f k s0_0 bt143.2 8).bind fun bt146 => ((spec_l6Rd_pick.f k s0_0 bt146.2 24).bind fun bt148 => (if bt148.1 = 0 then ((spec_l6Rd_of.f k s0_0 bt148.2 (([(⟨#[]⟩ : ByteArray), (⟨#[65]⟩ : ByteArray), (⟨#[97, 97, 97, 97, 97, 97, 97, 97, 97, 97, 97, 97, 97, 97, 97, 97, 97]⟩ : ByteArray)] : List ByteArray))).bind fun bt153 => (some (bt153.1, bt143.1, (bt146.1 == 0), bt153.2))) else (if bt148.1 = 1 then ((spec_l71Word.f k s0_0 bt148.2).bind fun bt155 => (some (t138, bt155.1, (bt146.1 == 0), bt155.2))) else (some (t138, bt143.1, (bt146.1 == 0), bt148.2))))))) = some (r1, r2, r3, r4) := by first | (rw [hy140]; with_reducible exact H) | (have H2_ := (Option.bind_some _ _).symm.trans H; rw [hy140]; with_reducible exact H2_) | (have H2_ := (Option.bind_some _ _).symm.trans H; with_reducible exact H2_) | with_reducible exact H | (rw [hy140]; exact H) | exact H
 have Ny140 := Aside0.mk hy140
 clear hy140
 obtain ⟨⟨t143, t144⟩, A3, H⟩ := ob H
 (try dsimp only at H)
 obtain ⟨⟨t146, t147⟩, A4, H⟩ := ob H
 (try dsimp only at H)
 obtain ⟨⟨t148, t149⟩, A5, H⟩ := ob H
 (try dsimp only at H)
 have HC6 := Aside0.mk H
 clear H
 go_enter Try.func106, Try.ntmps106
 go_upto_if 17 with (first | ((with_reducible refine gd 2 rfl ?_); refine bx (N := 2) (cs := #[.string (⟨#[]⟩ : ByteArray), .string (⟨#[]⟩ : ByteArray), .bool false]) (t := 88) ?_; intro gb134 hg w7 hbox hb; replace HB := Aside0.mk (below_step (zg139 HB) hb); have BK134 := Aside0.mk (hbox); have GW134 := Aside0.mk ((by rw [hg]; exact (keep_size (w := w) (g := g) (row := none) (zh HK)) : w.heap.size ≤ gb134)); have GE134 := Aside0.mk ((Nat.le_trans HW0.out (by rw [hg]; exact (keep_size (w := w) (g := g) (row := none) (zh HK)) : w.heap.size ≤ gb134) : w0.heap.size ≤ gb134)); replace HK := Aside0.mk (KeepBut.trans (zh HK) (KeepBut.of_below hb g none) (.inl rfl)); have NB0_134 := Aside0.mk ((by rw [hg]; exact Nat.ne_of_lt (IsS139.lt (show IsS139 w0 _ g s0_0 s0_1 from zi139 HI0)) : g ≠ gb134)); have NB134_0 := Aside0.mk ((by rw [hg]; exact Nat.ne_of_gt (IsS139.lt (show IsS139 w0 _ g s0_0 s0_1 from zi139 HI0)) : gb134 ≠ g)); replace HI0 := Aside0.mk (IsS139.below (zi139 HI0) hb); clear hb hbox hg) | ((with_reducible refine gd 5 rfl ?_); refine Kd.R_lit Kd.string _ 9 ?hg (N := 5) ?hd (xs := ([(⟨#[58, 112, 97, 116, 104]⟩ : ByteArray), (⟨#[58, 115, 116, 97, 116, 117, 115]⟩ : ByteArray), (⟨#[107, 105, 110, 100]⟩ : ByteArray), (⟨#[115, 105, 122, 101]⟩ : ByteArray), (⟨#[116, 101]⟩ : ByteArray), (⟨#[97]⟩ : ByteArray), (⟨#[98]⟩ : ByteArray), (⟨#[107, 101, 121]⟩ : ByteArray)] : List ByteArray)) (inner := [.string (⟨#[58, 112, 97, 116, 104]⟩ : ByteArray), .string (⟨#[58, 115, 116, 97, 116, 117, 115]⟩ : ByteArray), .string (⟨#[107, 105, 110, 100]⟩ : ByteArray), .string (⟨#[115, 105, 122, 101]⟩ : ByteArray), .string (⟨#[116, 101]⟩ : ByteArray), .string (⟨#[97]⟩ : ByteArray), .string (⟨#[98]⟩ : ByteArray), .string (⟨#[107, 101, 121]⟩ : ByteArray)]) (ok := fun _ => True) (okp := fun _ => True) ?hr ?hp (fun _ hk => hk) trivial (Below.refl _ _) (Nat.le_refl _) (by simp) ?_; (case hd => rfl); (case hg => rfl); (case hr => first | (go_simp; done) | (go_simp; rfl)); (case hp => exact (Reps.one (show Kd.M Kd.string _ _ _ (⟨#[58, 112, 97, 116, 104]⟩ : ByteArray) [.string (⟨#[58, 112, 97, 116, 104]⟩ : ByteArray)] from rfl) (Reps.one (show Kd.M Kd.string _ _ _ (⟨#[58, 115, 116, 97, 116, 117, 115]⟩ : ByteArray) [.string (⟨#[58, 115, 116, 97, 116, 117, 115]⟩ : ByteArray)] from rfl) (Reps.one (show Kd.M Kd.string _ _ _ (⟨#[107, 105, 110, 100]⟩ : ByteArray) [.string (⟨#[107, 105, 110, 100]⟩ : ByteArray)] from rfl) (Reps.one (show Kd.M Kd.string _ _ _ (⟨#[115, 105, 122, 101]⟩ : ByteArray) [.string (⟨#[115, 105, 122, 101]⟩ : ByteArray)] from rfl) (Reps.one (show Kd.M Kd.string _ _ _ (⟨#[116, 101]⟩ : ByteArray) [.string (⟨#[116, 101]⟩ : ByteArray)] from rfl) (Reps.one (show Kd.M Kd.string _ _ _ (⟨#[97]⟩ : ByteArray) [.string (⟨#[97]⟩ : ByteArray)] from rfl) (Reps.one (show Kd.M Kd.string _ _ _ (⟨#[98]⟩ : ByteArray) [.string (⟨#[98]⟩ : ByteArray)] from rfl) (Reps.one (show Kd.M Kd.string _ _ _ (⟨#[107, 101, 121]⟩ : ByteArray) [.string (⟨#[107, 101, 121]⟩ : ByteArray)] from rfl) (Reps.none _ _)))))))))); intro v136 w8 ho9 hb hg_ hnew_; clear hg_ hnew_; (first | rw [← Ny135.out] at ho9 | (simp only [Int.reduceToNat] at ho9; rw [← Ny135.out] at ho9)); have HO137 := Aside0.mk (Kd.R_lower ho9 (keep_size (w := w) (g := g) (row := none) (zh HK))); replace HI0 := Aside0.mk (IsS139.below (zi139 HI0) hb); replace BK134 := kb BK134 hb; replace HK := Aside0.mk (KeepBut.trans (zh HK) (KeepBut.of_below hb g none) (.inl rfl)); replace HB := Aside0.mk (below_step (zg139 HB) hb); clear hb ho9; obtain ⟨Ao10, co10, eo10⟩ := Kd.R_slice HO137.out; subst eo10) | ((with_reducible refine gq 139 rfl ?_); refine gl (some 6) Try.func139 #[.pointer (some ⟨g, 0, none⟩), .slice Ao10 y135.length co10] ?_; (with_reducible refine (spec_l6Rd_of.calls k g s0_0 s0_1 _ _ y135 t138 t139 w0 _ ?side1 ?side2 ?side3 ?side4 ?side5 A2.out).mono ?_); (case side1 => exact zi139 HI0); (case side2 => exact zg139 HB); (case side3 => exact zc (Kd.R_reads' HO137.out).2.2); (case side4 => exact (Kd.R_reads' HO137.out).2.1); (case side5 => exact far_slice (IsS139.own_ne HI0.out HO137.out (by decide))); rintro e w11 ⟨rfl, hi, hb, hk⟩; refine ⟨_, rfl, ?_⟩; replace BK134 := Aside0.mk (KeepBut.blk hk (g' := gb134) (o := .cells #[.string (⟨#[]⟩ : ByteArray), .string (⟨#[]⟩ : ByteArray), .bool false] 88 (0, 0)) (zk BK134) NB134_0.out (by simp)); replace HO137 := Aside0.mk (Kd.R_mono (Kd.R_keep (IsS139.apart (show IsS139 w0 _ g s0_0 s0_1 from zi139 HI0) (zr HO137) (by decide)) hk (fun _ h => h.2)) (fun _ h => h.1)); replace HK := Aside0.mk (KeepBut.trans (zh HK) hk (.inl rfl)); replace HB := Aside0.mk (hb); replace HI0 := Aside0.mk (hi); (try clear hb); (try clear hk); (try clear hi)) | ((with_reducible refine gd 8 rfl ?_); refine Kd.R_lit Kd.string _ 9 ?hg (N := 8) ?hd (xs := ([(⟨#[]⟩ : ByteArray), (⟨#[48]⟩ : ByteArray), (⟨#[49, 50]⟩ : ByteArray), (⟨#[116, 101, 120, 116]⟩ : ByteArray), (⟨#[116, 114, 97, 105, 108, 101, 114, 115]⟩ : ByteArray), (⟨#[47, 101, 99, 104, 111]⟩ : ByteArray), (⟨#[120]⟩ : ByteArray), (⟨#[121, 49]⟩ : ByteArray), (⟨#[97, 98, 99]⟩ : ByteArray)] : List ByteArray)) (inner := [.string (⟨#[]⟩ : ByteArray), .string (⟨#[48]⟩ : ByteArray), .string (⟨#[49, 50]⟩ : ByteArray), .string (⟨#[116, 101, 120, 116]⟩ : ByteArray), .string (⟨#[116, 114, 97, 105, 108, 101, 114, 115]⟩ : ByteArray), .string (⟨#[47, 101, 99, 104, 111]⟩ : ByteArray), .string (⟨#[120]⟩ : ByteArray), .string (⟨#[121, 49]⟩ : ByteArray), .string (⟨#[97, 98, 99]⟩ : ByteArray)]) (ok := fun _ => True) (okp := fun _ => True) ?hr ?hp (fun _ hk => hk) trivial (Below.refl _ _) (Nat.le_refl _) (by simp) ?_; (case hd => rfl); (case hg => rfl); (case hr => first | (go_simp; done) | (go_simp; rfl)); (case hp => exact (Reps.one (show Kd.M Kd.string _ _ _ (⟨#[]⟩ : ByteArray) [.string (⟨#[]⟩ : ByteArray)] from rfl) (Reps.one (show Kd.M Kd.string _ _ _ (⟨#[48]⟩ : ByteArray) [.string (⟨#[48]⟩ : ByteArray)] from rfl) (Reps.one (show Kd.M Kd.string _ _ _ (⟨#[49, 50]⟩ : ByteArray) [.string (⟨#[49, 50]⟩ : ByteArray)] from rfl) (Reps.one (show Kd.M Kd.string _ _ _ (⟨#[116, 101, 120, 116]⟩ : ByteArray) [.string (⟨#[116, 101, 120, 116]⟩ : ByteArray)] from rfl) (Reps.one (show Kd.M Kd.string _ _ _ (⟨#[116, 114, 97, 105, 108, 101, 114, 115]⟩ : ByteArray) [.string (⟨#[116, 114, 97, 105, 108, 101, 114, 115]⟩ : ByteArray)] from rfl) (Reps.one (show Kd.M Kd.string _ _ _ (⟨#[47, 101, 99, 104, 111]⟩ : ByteArray) [.string (⟨#[47, 101, 99, 104, 111]⟩ : ByteArray)] from rfl) (Reps.one (show Kd.M Kd.string _ _ _ (⟨#[120]⟩ : ByteArray) [.string (⟨#[120]⟩ : ByteArray)] from rfl) (Reps.one (show Kd.M Kd.string _ _ _ (⟨#[121, 49]⟩ : ByteArray) [.string (⟨#[121, 49]⟩ : ByteArray)] from rfl) (Reps.one (show Kd.M Kd.string _ _ _ (⟨#[97, 98, 99]⟩ : ByteArray) [.string (⟨#[97, 98, 99]⟩ : ByteArray)] from rfl) (Reps.none _ _))))))))))); intro v141 w12 ho13 hb hg_ hnew_; clear hg_ hnew_; (first | rw [← Ny140.out] at ho13 | (simp only [Int.reduceToNat] at ho13; rw [← Ny140.out] at ho13)); have HO142 := Aside0.mk (Kd.R_lower (Kd.R_new' ho13 (Kd.R_lt (zr HO137))) (keep_size (w := w) (g := g) (row := none) (zh HK))); replace HO137 := Aside0.mk (Kd.R_elder' (zr HO137) (Kd.R_base ho13) hb); replace HI0 := Aside0.mk (IsS139.below (zi139 HI0) hb); replace BK134 := kb BK134 hb; replace HK := Aside0.mk (KeepBut.trans (zh HK) (KeepBut.of_below hb g none) (.inl rfl)); replace HB := Aside0.mk (below_step (zg139 HB) hb); clear hb ho13; obtain ⟨Ao14, co14, eo14⟩ := Kd.R_slice HO142.out; subst eo14) | ((with_reducible refine gq 139 rfl ?_); refine gl (some 9) Try.func139 #[.pointer (some ⟨g, 0, none⟩), .slice Ao14 y140.length co14] ?_; (with_reducible refine (spec_l6Rd_of.calls k g s0_0 t139 _ _ y140 t143 t144 w0 _ ?side1 ?side2 ?side3 ?side4 ?side5 A3.out).mono ?_); (case side1 => exact zi139 HI0); (case side2 => exact zg139 HB); (case side3 => exact zc (Kd.R_reads' HO142.out).2.2); (case side4 => exact (Kd.R_reads' HO142.out).2.1); (case side5 => exact far_slice (IsS139.own_ne HI0.out HO142.out (by decide))); rintro e w15 ⟨rfl, hi, hb, hk⟩; refine ⟨_, rfl, ?_⟩; replace BK134 := Aside0.mk (KeepBut.blk hk (g' := gb134) (o := .cells #[.string (⟨#[]⟩ : ByteArray), .string (⟨#[]⟩ : ByteArray), .bool false] 88 (0, 0)) (zk BK134) NB134_0.out (by simp)); replace HO137 := Aside0.mk (Kd.R_mono (Kd.R_keep (IsS139.apart (show IsS139 w0 _ g s0_0 t139 from zi139 HI0) (zr HO137) (by decide)) hk (fun _ h => h.2)) (fun _ h => h.1)); replace HO142 := Aside0.mk (Kd.R_mono (Kd.R_keep (IsS139.apart (show IsS139 w0 _ g s0_0 t139 from zi139 HI0) (zr HO142) (by decide)) hk (fun _ h => h.2)) (fun _ h => h.1)); replace HK := Aside0.mk (KeepBut.trans (zh HK) hk (.inl rfl)); replace HB := Aside0.mk (hb); replace HI0 := Aside0.mk (hi); (try clear hb); (try clear hk); (try clear hi)) | ((with_reducible refine gd 3 rfl ?_); refine bx (N := 3) (cs := #[.string (⟨#[]⟩ : ByteArray), .string (⟨#[]⟩ : ByteArray), .bool false]) (t := 88) ?_; intro gb145 hg w16 hbox hb; replace HO137 := Aside0.mk (Kd.R_below (zr HO137) hb); replace HO142 := Aside0.mk (Kd.R_below (zr HO142) hb); replace HB := Aside0.mk (below_step (zg139 HB) hb); have BK145 := Aside0.mk (hbox); have GW145 := Aside0.mk ((by rw [hg]; exact (keep_size (w := w) (g := g) (row := none) (zh HK)) : w.heap.size ≤ gb145)); have GE145 := Aside0.mk ((Nat.le_trans HW0.out (by rw [hg]; exact (keep_size (w := w) (g := g) (row := none) (zh HK)) : w.heap.size ≤ gb145) : w0.heap.size ≤ gb145)); replace HK := Aside0.mk (KeepBut.trans (zh HK) (KeepBut.of_below hb g none) (.inl rfl)); obtain ⟨NB134_145, NB145_134⟩ := nb BK134 hg; replace BK134 := kb BK134 hb; have NB0_145 := Aside0.mk ((by rw [hg]; exact Nat.ne_of_lt (IsS139.lt (show IsS139 w0 _ g s0_0 t144 from zi139 HI0)) : g ≠ gb145)); have NB145_0 := Aside0.mk ((by rw [hg]; exact Nat.ne_of_gt (IsS139.lt (show IsS139 w0 _ g s0_0 t144 from zi139 HI0)) : gb145 ≠ g)); replace HI0 := Aside0.mk (IsS139.below (zi139 HI0) hb); clear hb hbox hg; have hnb17 := NB145_134.out; have hnc17 := NB134_145.out; have hnb18 := NB145_0.out; have hnc18 := NB0_145.out; obtain ⟨hcz19_0, hcz19_1, hcz19_2, hfz19_0, hfz19_1, hfz19_2⟩ := c3 BK145) | ((with_reducible refine gq 74 rfl ?_); refine gl (some 12) Try.func74 #[.pointer (some ⟨g, 0, none⟩), .int .i64 8] ?_; (with_reducible refine (spec_l6Rd_pick.calls k g s0_0 t144 8 t146 t147 w0 _ ?side1 ?side2 A4.out).mono ?_); (case side1 => exact zi139 HI0); (case side2 => exact zg139 HB); rintro e w20 ⟨rfl, hi, hb, hk⟩; refine ⟨_, rfl, ?_⟩; replace BK134 := Aside0.mk (KeepBut.blk hk (g' := gb134) (o := .cells #[.string (⟨#[]⟩ : ByteArray), .string (⟨#[]⟩ : ByteArray), .bool false] 88 (0, 0)) (by (with_reducible repeat (first | refine blk_drewN ?_ _ | refine blk_drew ?_ | refine blk_alloc ?_ _)); refine blk_far ?_ NB134_145.out _; (with_reducible repeat (first | refine blk_drewN ?_ _ | refine blk_drew ?_ | refine blk_alloc ?_ _)); refine blk_far ?_ NB134_145.out _; (with_reducible repeat (first | refine blk_drewN ?_ _ | refine blk_drew ?_ | refine blk_alloc ?_ _)); refine blk_far ?_ NB134_145.out _; exact zk BK134) NB134_0.out (by simp)); replace HO137 := Aside0.mk (Kd.R_mono (Kd.R_keep (IsS139.apart (show IsS139 w0 _ g s0_0 t144 from zi139 HI0) (by (with_reducible repeat (first | apply Kd.R_alloc | apply Kd.R_drewN | apply Kd.R_drew)); exact (Kd.R_mono (Kd.R_far (p := ⟨gb145, 2, none⟩) (Kd.R_far (p := ⟨gb145, 1, none⟩) (Kd.R_far (p := ⟨gb145, 0, none⟩) (Kd.R_types HO137.out BK145.out (by decide)) (fun _ hk => hk.2) (.string t138)) (fun _ hk => hk.2) (.string t143)) (fun _ hk => hk.2) (.bool false)) (fun _ h_ => h_.1))) (by decide)) hk (fun _ h => h.2)) (fun _ h => h.1)); replace HO142 := Aside0.mk (Kd.R_mono (Kd.R_keep (IsS139.apart (show IsS139 w0 _ g s0_0 t144 from zi139 HI0) (by (with_reducible repeat (first | apply Kd.R_alloc | apply Kd.R_drewN | apply Kd.R_drew)); exact (Kd.R_mono (Kd.R_far (p := ⟨gb145, 2, none⟩) (Kd.R_far (p := ⟨gb145, 1, none⟩) (Kd.R_far (p := ⟨gb145, 0, none⟩) (Kd.R_types HO142.out BK145.out (by decide)) (fun _ hk => hk.2) (.string t138)) (fun _ hk => hk.2) (.string t143)) (fun _ hk => hk.2) (.bool false)) (fun _ h_ => h_.1))) (by decide)) hk (fun _ h => h.2)) (fun _ h => h.1)); replace BK145 := Aside0.mk (KeepBut.blk hk (g' := gb145) (o := .cells #[.string t138, .string t143, .bool false] 88 (0, 0)) (by (with_reducible repeat (first | refine blk_drewN ?_ _ | refine blk_drew ?_ | refine blk_alloc ?_ _)); refine blk_put (cs := #[.string t138, .string t143, .bool false]) ?_ 2 _ rfl; (with_reducible repeat (first | refine blk_drewN ?_ _ | refine blk_drew ?_ | refine blk_alloc ?_ _)); refine blk_put (cs := #[.string t138, .string (⟨#[]⟩ : ByteArray), .bool false]) ?_ 1 _ rfl; (with_reducible repeat (first | refine blk_drewN ?_ _ | refine blk_drew ?_ | refine blk_alloc ?_ _)); refine blk_put (cs := #[.string (⟨#[]⟩ : ByteArray), .string (⟨#[]⟩ : ByteArray), .bool false]) ?_ 0 _ rfl; exact zk BK145) NB145_0.out (by simp)); replace HK := Aside0.mk (KeepBut.trans (zh HK) hk (.inl rfl)); replace HB := Aside0.mk (hb); replace HI0 := Aside0.mk (hi); (try clear hb); (try clear hk); (try clear hi); obtain ⟨hcz21_0, hcz21_1, hcz21_2, hfz21_0, hfz21_1, hfz21_2⟩ := c3 BK145) | ((with_reducible refine gq 74 rfl ?_); refine gl (some 16) Try.func74 #[.pointer (some ⟨g, 0, none⟩), .int .i64 24] ?_; (with_reducible refine (spec_l6Rd_pick.calls k g s0_0 t147 24 t148 t149 w0 _ ?side1 ?side2 A5.out).mono ?_); (case side1 => exact zi139 HI0); (case side2 => exact zg139 HB); rintro e w22 ⟨rfl, hi, hb, hk⟩; refine ⟨_, rfl, ?_⟩; replace BK134 := Aside0.mk (KeepBut.blk hk (g' := gb134) (o := .cells #[.string (⟨#[]⟩ : ByteArray), .string (⟨#[]⟩ : ByteArray), .bool false] 88 (0, 0)) (by (with_reducible repeat (first | refine blk_drewN ?_ _ | refine blk_drew ?_ | refine blk_alloc ?_ _)); refine blk_far ?_ NB134_145.out _; exact zk BK134) NB134_0.out (by simp)); replace HO137 := Aside0.mk (Kd.R_mono (Kd.R_keep (IsS139.apart (show IsS139 w0 _ g s0_0 t147 from zi139 HI0) (by (with_reducible repeat (first | apply Kd.R_alloc | apply Kd.R_drewN | apply Kd.R_drew)); exact (Kd.R_mono (Kd.R_far (p := ⟨gb145, 2, none⟩) (Kd.R_types HO137.out BK145.out (by decide)) (fun _ hk => hk.2) (.bool (t146 == 0))) (fun _ h_ => h_.1))) (by decide)) hk (fun _ h => h.2)) (fun _ h => h.1)); replace HO142 := Aside0.mk (Kd.R_mono (Kd.R_keep (IsS139.apart (show IsS139 w0 _ g s0_0 t147 from zi139 HI0) (by (with_reducible repeat (first | apply Kd.R_alloc | apply Kd.R_drewN | apply Kd.R_drew)); exact (Kd.R_mono (Kd.R_far (p := ⟨gb145, 2, none⟩) (Kd.R_types HO142.out BK145.out (by decide)) (fun _ hk => hk.2) (.bool (t146 == 0))) (fun _ h_ => h_.1))) (by decide)) hk (fun _ h => h.2)) (fun _ h => h.1)); replace BK145 := Aside0.mk (KeepBut.blk hk (g' := gb145) (o := .cells #[.string t138, .string t143, .bool (t146 == 0)] 88 (0, 0)) (by (with_reducible repeat (first | refine blk_drewN ?_ _ | refine blk_drew ?_ | refine blk_alloc ?_ _)); refine blk_put (cs := #[.string t138, .string t143, .bool false]) ?_ 2 _ rfl; exact zk BK145) NB145_0.out (by simp)); replace HK := Aside0.mk (KeepBut.trans (zh HK) hk (.inl rfl)); replace HB := Aside0.mk (hb); replace HI0 := Aside0.mk (hi); (try clear hb); (try clear hk); (try clear hi)))
 (try simp only [Act.put, s1, s2, s3])
 have H := HC6.out
 clear HC6
 replace H := sp H
 rcases H with ⟨c23, H⟩ | ⟨c23, H⟩
 ·skip
  have c23b0 : (t148 == 0) = true := beq_iff_eq.mpr c23
  have c23b1 : (t148 != 0) = false := bne_eq_false_iff_eq.mpr c23
  clear c23
  (first | rw [c23b0] | rw [c23b1] | (simp only [i64_w, i32_w]; rw [c23b0]) | skip)
  obtain ⟨y150, hy150⟩ : ∃ y_ : List ByteArray, y_ = (([(⟨#[]⟩ : ByteArray), (⟨#[65]⟩ : ByteArray), (⟨#[97, 97, 97, 97, 97, 97, 97, 97, 97, 97, 97, 97, 97, 97, 97, 97, 97]⟩ : ByteArray)] : List ByteArray)) := ⟨_, rfl⟩
  replace H : ((spec_l6Rd_of.f k s0_0 t149 y150).bind fun bt153 => (some (bt153.1, t143, (t146 == 0), bt153.2))) = some (r1, r2, r3, r4) := by first | (rw [hy150]; with_reducible exact H) | (have H2_ := (Option.bind_some _ _).symm.trans H; rw [hy150]; with_reducible exact H2_) | (have H2_ := (Option.bind_some _ _).symm.trans H; with_reducible exact H2_) | with_reducible exact H | (rw [hy150]; exact H) | exact H
  have Ny150 := Aside0.mk hy150
  clear hy150
  obtain ⟨⟨t153, t154⟩, A24, H⟩ := ob H
  (try dsimp only at H)
  simp only [Option.some.injEq, Prod.mk.injEq] at H
  obtain ⟨rfl, rfl, rfl, rfl⟩ := H
  go_wp2_with (first | ((with_reducible refine gd 20 rfl ?_); refine Kd.R_lit Kd.string _ 9 ?hg (N := 20) ?hd (xs := ([(⟨#[]⟩ : ByteArray), (⟨#[65]⟩ : ByteArray), (⟨#[97, 97, 97, 97, 97, 97, 97, 97, 97, 97, 97, 97, 97, 97, 97, 97, 97]⟩ : ByteArray)] : List ByteArray)) (inner := [.string (⟨#[]⟩ : ByteArray), .string (⟨#[65]⟩ : ByteArray), .string (⟨#[97, 97, 97, 97, 97, 97, 97, 97, 97, 97, 97, 97, 97, 97, 97, 97, 97]⟩ : ByteArray)]) (ok := fun _ => True) (okp := fun _ => True) ?hr ?hp (fun _ hk => hk) trivial (Below.refl _ _) (Nat.le_refl _) (by simp) ?_; (case hd => rfl); (case hg => rfl); (case hr => first | (go_simp; done) | (go_simp; rfl)); (case hp => exact (Reps.one (show Kd.M Kd.string _ _ _ (⟨#[]⟩ : ByteArray) [.string (⟨#[]⟩ : ByteArray)] from rfl) (Reps.one (show Kd.M Kd.string _ _ _ (⟨#[65]⟩ : ByteArray) [.string (⟨#[65]⟩ : ByteArray)] from rfl) (Reps.one (show Kd.M Kd.string _ _ _ (⟨#[97, 97, 97, 97, 97, 97, 97, 97, 97, 97, 97, 97, 97, 97, 97, 97, 97]⟩ : ByteArray) [.string (⟨#[97, 97, 97, 97, 97, 97, 97, 97, 97, 97, 97, 97, 97, 97, 97, 97, 97]⟩ : ByteArray)] from rfl) (Reps.none _ _))))); intro v151 w25 ho26 hb hg_ hnew_; clear hg_ hnew_; (first | rw [← Ny150.out] at ho26 | (simp only [Int.reduceToNat] at ho26; rw [← Ny150.out] at ho26)); have HO152 := Aside0.mk (Kd.R_lower (Kd.R_new' (Kd.R_new' ho26 (Kd.R_lt (zr HO137))) (Kd.R_lt (zr HO142))) (keep_size (w := w) (g := g) (row := none) (zh HK))); replace HO137 := Aside0.mk (Kd.R_elder' (zr HO137) (Kd.R_base ho26) hb); replace HO142 := Aside0.mk (Kd.R_elder' (zr HO142) (Kd.R_base ho26) hb); replace HI0 := Aside0.mk (IsS139.below (zi139 HI0) hb); replace BK134 := kb BK134 hb; replace BK145 := kb BK145 hb; replace HK := Aside0.mk (KeepBut.trans (zh HK) (KeepBut.of_below hb g none) (.inl rfl)); replace HB := Aside0.mk (below_step (zg139 HB) hb); clear hb ho26; obtain ⟨Ao27, co27, eo27⟩ := Kd.R_slice HO152.out; subst eo27) | ((with_reducible refine gq 139 rfl ?_); refine gl (some 21) Try.func139 #[.pointer (some ⟨g, 0, none⟩), .slice Ao27 y150.length co27] ?_; (with_reducible refine (spec_l6Rd_of.calls k g s0_0 t149 _ _ y150 t153 t154 w0 _ ?side1 ?side2 ?side3 ?side4 ?side5 A24.out).mono ?_); (case side1 => exact zi139 HI0); (case side2 => exact zg139 HB); (case side3 => exact zc (Kd.R_reads' HO152.out).2.2); (case side4 => exact (Kd.R_reads' HO152.out).2.1); (case side5 => exact far_slice (IsS139.own_ne HI0.out HO152.out (by decide))); rintro e w28 ⟨rfl, hi, hb, hk⟩; refine ⟨_, rfl, ?_⟩; replace BK134 := Aside0.mk (KeepBut.blk hk (g' := gb134) (o := .cells #[.string (⟨#[]⟩ : ByteArray), .string (⟨#[]⟩ : ByteArray), .bool false] 88 (0, 0)) (zk BK134) NB134_0.out (by simp)); replace HO137 := Aside0.mk (Kd.R_mono (Kd.R_keep (IsS139.apart (show IsS139 w0 _ g s0_0 t149 from zi139 HI0) (zr HO137) (by decide)) hk (fun _ h => h.2)) (fun _ h => h.1)); replace HO142 := Aside0.mk (Kd.R_mono (Kd.R_keep (IsS139.apart (show IsS139 w0 _ g s0_0 t149 from zi139 HI0) (zr HO142) (by decide)) hk (fun _ h => h.2)) (fun _ h => h.1)); replace BK145 := Aside0.mk (KeepBut.blk hk (g' := gb145) (o := .cells #[.string t138, .string t143, .bool (t146 == 0)] 88 (0, 0)) (zk BK145) NB145_0.out (by simp)); replace HO152 := Aside0.mk (Kd.R_mono (Kd.R_keep (IsS139.apart (show IsS139 w0 _ g s0_0 t149 from zi139 HI0) (zr HO152) (by decide)) hk (fun _ h => h.2)) (fun _ h => h.1)); replace HK := Aside0.mk (KeepBut.trans (zh HK) hk (.inl rfl)); replace HB := Aside0.mk (hb); replace HI0 := Aside0.mk (hi); (try clear hb); (try clear hk); (try clear hi); have hnb29 := NB145_134.out; have hnc29 := NB134_145.out; have hnb30 := NB145_0.out; have hnc30 := NB0_145.out; obtain ⟨hcz31_0, hcz31_1, hcz31_2, hfz31_0, hfz31_1, hfz31_2⟩ := c3 BK145; have hnb32 := NB134_0.out; have hnc32 := NB0_134.out; obtain ⟨hcz33_0, hcz33_1, hcz33_2, hfz33_0, hfz33_1, hfz33_2⟩ := c3 BK134))
  refine bodyPost_ret (results_cell_row rfl _ _ gb134 88 #[.string t153, .string t143, .bool (t146 == 0)] (0, 0) _ rfl (by (with_reducible repeat (first | refine blk_drewN ?_ _ | refine blk_drew ?_ | refine blk_alloc ?_ _)); refine blk_put (cs := #[.string t153, .string t143, .bool false]) ?_ 2 _ rfl; (with_reducible repeat (first | refine blk_drewN ?_ _ | refine blk_drew ?_ | refine blk_alloc ?_ _)); refine blk_put (cs := #[.string t153, .string (⟨#[]⟩ : ByteArray), .bool false]) ?_ 1 _ rfl; (with_reducible repeat (first | refine blk_drewN ?_ _ | refine blk_drew ?_ | refine blk_alloc ?_ _)); refine blk_put (cs := #[.string (⟨#[]⟩ : ByteArray), .string (⟨#[]⟩ : ByteArray), .bool false]) ?_ 0 _ rfl; (with_reducible repeat (first | refine blk_drewN ?_ _ | refine blk_drew ?_ | refine blk_alloc ?_ _)); refine blk_far ?_ NB134_145.out _; exact zk BK134) Try.underlying88 rfl (by kernel_rfl)) rfl ?_
  exact ⟨ze, zi139 HI0, zg139 HB, zh HK⟩
 ·skip
  have c23b0 : (t148 == 0) = false := beq_eq_false_iff_ne.mpr c23
  have c23b1 : (t148 != 0) = true := bne_iff_ne.mpr c23
  (first | rw [c23b0] | rw [c23b1] | (simp only [i64_w, i32_w]; rw [c23b0]) | skip)
  replace H := sp H
  rcases H with ⟨c34, H⟩ | ⟨c34, H⟩
  ·skip
   have c34b0 : (t148 == 1) = true := beq_iff_eq.mpr c34
   have c34b1 : (t148 != 1) = false := bne_eq_false_iff_eq.mpr c34
   clear c34
   obtain ⟨⟨t155, t156⟩, A35, H⟩ := ob H
   (try dsimp only at H)
   simp only [Option.some.injEq, Prod.mk.injEq] at H
   obtain ⟨rfl, rfl, rfl, rfl⟩ := H
   go_wp2_with (first | ((with_reducible refine gq 140 rfl ?_); refine gl (some 26) Try.func140 #[.pointer (some ⟨g, 0, none⟩)] ?_; (with_reducible refine (spec_l71Word.calls k g s0_0 t149 t155 t156 w0 _ ?side1 ?side2 A35.out).mono ?_); (case side1 => exact zi139 HI0); (case side2 => exact zg139 HB); rintro e w36 ⟨rfl, hi, hb, hk⟩; refine ⟨_, rfl, ?_⟩; replace BK134 := Aside0.mk (KeepBut.blk hk (g' := gb134) (o := .cells #[.string (⟨#[]⟩ : ByteArray), .string (⟨#[]⟩ : ByteArray), .bool false] 88 (0, 0)) (zk BK134) NB134_0.out (by simp)); replace HO137 := Aside0.mk (Kd.R_mono (Kd.R_keep (IsS139.apart (show IsS139 w0 _ g s0_0 t149 from zi139 HI0) (zr HO137) (by decide)) hk (fun _ h => h.2)) (fun _ h => h.1)); replace HO142 := Aside0.mk (Kd.R_mono (Kd.R_keep (IsS139.apart (show IsS139 w0 _ g s0_0 t149 from zi139 HI0) (zr HO142) (by decide)) hk (fun _ h => h.2)) (fun _ h => h.1)); replace BK145 := Aside0.mk (KeepBut.blk hk (g' := gb145) (o := .cells #[.string t138, .string t143, .bool (t146 == 0)] 88 (0, 0)) (zk BK145) NB145_0.out (by simp)); replace HK := Aside0.mk (KeepBut.trans (zh HK) hk (.inl rfl)); replace HB := Aside0.mk (hb); replace HI0 := Aside0.mk (hi); (try clear hb); (try clear hk); (try clear hi); have hnb37 := NB145_134.out; have hnc37 := NB134_145.out; have hnb38 := NB145_0.out; have hnc38 := NB0_145.out; obtain ⟨hcz39_0, hcz39_1, hcz39_2, hfz39_0, hfz39_1, hfz39_2⟩ := c3 BK145; have hnb40 := NB134_0.out; have hnc40 := NB0_134.out; obtain ⟨hcz41_0, hcz41_1, hcz41_2, hfz41_0, hfz41_1, hfz41_2⟩ := c3 BK134))
   refine bodyPost_ret (results_cell_row rfl _ _ gb134 88 #[.string t138, .string t155, .bool (t146 == 0)] (0, 0) _ rfl (by (with_reducible repeat (first | refine blk_drewN ?_ _ | refine blk_drew ?_ | refine blk_alloc ?_ _)); refine blk_put (cs := #[.string t138, .string t155, .bool false]) ?_ 2 _ rfl; (with_reducible repeat (first | refine blk_drewN ?_ _ | refine blk_drew ?_ | refine blk_alloc ?_ _)); refine blk_put (cs := #[.string t138, .string (⟨#[]⟩ : ByteArray), .bool false]) ?_ 1 _ rfl; (with_reducible repeat (first | refine blk_drewN ?_ _ | refine blk_drew ?_ | refine blk_alloc ?_ _)); refine blk_put (cs := #[.string (⟨#[]⟩ : ByteArray), .string (⟨#[]⟩ : ByteArray), .bool false]) ?_ 0 _ rfl; (with_reducible repeat (first | refine blk_drewN ?_ _ | refine blk_drew ?_ | refine blk_alloc ?_ _)); refine blk_far ?_ NB134_145.out _; exact zk BK134) Try.underlying88 rfl (by kernel_rfl)) rfl ?_
   exact ⟨ze, zi139 HI0, zg139 HB, zh HK⟩
  ·skip
   have c34b0 : (t148 == 1) = false := beq_eq_false_iff_ne.mpr c34
   have c34b1 : (t148 != 1) = true := bne_iff_ne.mpr c34
   simp only [Option.some.injEq, Prod.mk.injEq] at H
   obtain ⟨rfl, rfl, rfl, rfl⟩ := H
   have hnb42 := NB145_134.out
   have hnc42 := NB134_145.out
   have hnb43 := NB145_0.out
   have hnc43 := NB0_145.out
   obtain ⟨hcz44_0, hcz44_1, hcz44_2, hfz44_0, hfz44_1, hfz44_2⟩ := c3 BK145
   have hnb45 := NB134_0.out
   have hnc45 := NB0_134.out
   obtain ⟨hcz46_0, hcz46_1, hcz46_2, hfz46_0, hfz46_1, hfz46_2⟩ := c3 BK134
   go_wp2
   refine bodyPost_ret (results_cell_row rfl _ _ gb134 88 #[.string t138, .string t143, .bool (t146 == 0)] (0, 0) _ rfl (by (with_reducible repeat (first | refine blk_drewN ?_ _ | refine blk_drew ?_ | refine blk_alloc ?_ _)); refine blk_put (cs := #[.string t138, .string t143, .bool false]) ?_ 2 _ rfl; (with_reducible repeat (first | refine blk_drewN ?_ _ | refine blk_drew ?_ | refine blk_alloc ?_ _)); refine blk_put (cs := #[.string t138, .string (⟨#[]⟩ : ByteArray), .bool false]) ?_ 1 _ rfl; (with_reducible repeat (first | refine blk_drewN ?_ _ | refine blk_drew ?_ | refine blk_alloc ?_ _)); refine blk_put (cs := #[.string (⟨#[]⟩ : ByteArray), .string (⟨#[]⟩ : ByteArray), .bool false]) ?_ 0 _ rfl; exact zk BK134) Try.underlying88 rfl (by kernel_rfl)) rfl ?_
   exact ⟨ze, zi139 HI0, zg139 HB, zh HK⟩

/-! ### spec_l3One: function 114 -/
-- thin
def spec_l3One.f (a0_0 : ByteArray) (a0_1 : ByteArray) (a0_2 : Bool) : Option (Int) := some (wrap64 ((wrap64 ((a0_0.size : Int) + (a0_1.size : Int))) + 4))
set_option maxHeartbeats 8000000 in
set_option maxRecDepth 100000 in
theorem spec_l3One.calls (a0_0 : ByteArray) (a0_1 : ByteArray) (a0_2 : Bool) (r : Int) (w : World) (h : spec_l3One.f a0_0 a0_1 a0_2 = some r) :
  Calls Try.prog 114 #[.agg #[.string a0_0, .string a0_1, .bool a0_2]] w fun e w' => e = .returned (.int .i64 r) ∧ Below w.heap.size w w' := by
 have hu88 := Try.underlying88
 have HB := Aside0.mk (Below.refl w.heap.size w)
 have H : (some (wrap64 ((wrap64 ((a0_0.size : Int) + (a0_1.size : Int))) + 4))) = some r := h
 clear h
 obtain rfl := Option.some.inj H
 go_enter Try.func114, Try.ntmps114
 go_wp2_with (first | ((with_reducible refine gd 1 rfl ?_); refine bx (N := 1) (cs := #[.string a0_0, .string a0_1, .bool a0_2]) (t := 88) ?_; intro gb157 hg w2 hbox hb; have BK157 := Aside0.mk (hbox); have GW157 := gw HB hg; have GE157 := GW157; replace HB := Aside0.mk (below_step (zb HB) hb); clear hb hbox hg; obtain ⟨hcz3_0, hcz3_1, hcz3_2, hfz3_0, hfz3_1, hfz3_2⟩ := c3 BK157))
 go_ret
 exact ⟨ze, zb HB⟩

/-! ### spec_l3Size: function 57 -/
-- thin
def spec_l3Size.l0 : Nat → List (S88) → Int → Int → Option (Int)
 | 0, _, _, _ => none
 | k + 1, x0, x3, x4 => if x4 < (x0.length : Int) then (if 0 ≤ x4 then ((spec_l3One.f ((rd_T88 x0 x4).f0) ((rd_T88 x0 x4).f1) ((rd_T88 x0 x4).f2)).bind fun t159 => (spec_l3Size.l0 k x0 (wrap64 (x3 + t159)) (wrap64 (x4 + 1)))) else (none)) else (some x3)
def spec_l3Size.f (k : Nat) (l0 : List (S88)) : Option (Int) := spec_l3Size.l0 k l0 0 0
theorem spec_l3Size.mono_l : ∀ k, (∀ y0 y1 y2, LeO (spec_l3Size.l0 k y0 y1 y2) (spec_l3Size.l0 (k + 1) y0 y1 y2))
 | 0 => fun _ _ _ r h => by simp [spec_l3Size.l0] at h
 | k + 1 => by
  have ih0 := spec_l3Size.mono_l k
  ·intro y0 y1 y2
   unfold spec_l3Size.l0
   exact zm
theorem spec_l3Size.mono : ∀ a0 k, LeO (spec_l3Size.f k a0) (spec_l3Size.f (k + 1) a0) := by
 intro a0 k
 have ih0 := spec_l3Size.mono_l k
 unfold spec_l3Size.f
 exact zm
set_option maxHeartbeats 8000000 in
set_option maxRecDepth 100000 in
theorem spec_l3Size.calls (k : Nat) (A0 : Option Addr) (c0 : Nat) (l0 : List (S88)) (r : Int) (w : World) (hr0 : Kd.C k88 w A0 l0.length l0) (hc0 : l0.length ≤ c0) (h : spec_l3Size.f k l0 = some r) :
  Calls Try.prog 57 #[.slice A0 l0.length c0] w fun e w' => e = .returned (.int .i64 r) ∧ Below w.heap.size w w' := by
 have hu88 := Try.underlying88
 have HR0 := Aside0.mk hr0
 have HC0 := Aside0.mk hc0
 clear hr0 hc0
 have HB := Aside0.mk (Below.refl w.heap.size w)
 have H : (spec_l3Size.l0 k l0 0 0) = some r := h
 clear h
 have H' := Aside0.mk H
 clear H
 go_enter Try.func57, Try.ntmps57
 go_wp2
 go_loopg [3, 4] k (fun kq v3 v4 w' => ∃ (x3_1 : Int) (x4_1 : Int), v3 = .int .i64 x3_1 ∧ v4 = .int .i64 x4_1 ∧ Aside0 (spec_l3Size.l0 kq l0 x3_1 x4_1 = some r) ∧ Aside0 (kq ≤ k) ∧ Aside0 (Below w.heap.size w w'))
 case atStart => exact ⟨(0), (0), zs, zs, H', ⟨Nat.le_refl _⟩, ⟨zb HB⟩⟩
 case round =>
  clear H'
  obtain ⟨x3_1, x4_1, rfl, rfl, HA, HK1, HB⟩ := hrel
  cases gk with
  | zero => exact absurd HA.out (by simp [spec_l3Size.l0])
  | succ k1 =>
   have H := HA.out
   clear HA
   simp only [spec_l3Size.l0] at H
   replace H := sp H
   rcases H with ⟨c2, H⟩ | ⟨c2, H⟩
   ·skip
    have c2b0 := decide_eq_true c2
    clear c2
    by_cases c3 : 0 ≤ x4_1
    ·rw [if_pos c3] at H
     have c3b0 := decide_eq_true c3
     clear c3
     obtain ⟨t159, A4, H⟩ := ob H
     (try dsimp only at H)
     have H' := Aside0.mk H
     clear H
     have p158 : 0 ≤ (x4_1 : Int) := of_decide_eq_true za
     have q158 : x4_1 < (l0.length : Int) := of_decide_eq_true za
     obtain ⟨ad158, e158, hx158_0, hx158_1, hx158_2⟩ := at_T88 HR0.out x4_1 p158 q158
     cases e158
     replace hx158_0 := (HB.out.cell (World.block_lt_of_cell? w _ hx158_0)).trans hx158_0
     replace hx158_1 := (HB.out.cell (World.block_lt_of_cell? w _ hx158_1)).trans hx158_1
     replace hx158_2 := (HB.out.cell (World.block_lt_of_cell? w _ hx158_2)).trans hx158_2
     replace p158 := eq_true p158
     replace q158 := eq_true q158
     go_wp2_with (first | ((with_reducible refine gq 114 rfl ?_); refine gl (some 16) Try.func114 #[.agg #[.string ((rd_T88 l0 x4_1).f0), .string ((rd_T88 l0 x4_1).f1), .bool ((rd_T88 l0 x4_1).f2)]] ?_; (with_reducible refine (spec_l3One.calls ((rd_T88 l0 x4_1).f0) ((rd_T88 l0 x4_1).f1) ((rd_T88 l0 x4_1).f2) t159 _ A4.out).mono ?_); rintro e w5 ⟨rfl, hb⟩; refine ⟨_, rfl, ?_⟩; replace HB := Aside0.mk (below_step (zb HB) hb); (try clear hb)))
     go_roundg k1
     case measure => have := HK1.out; omega
     case rel => exact ⟨(wrap64 (x3_1 + t159)), (wrap64 (x4_1 + 1)), zs, zs, H', ⟨by have := HK1.out; omega⟩, ⟨zb HB⟩⟩
    ·rw [if_neg c3] at H
     exact absurd H (by simp)
   ·skip
    have c2b0 := decide_eq_false c2
    clear c2
    obtain rfl := Option.some.inj H
    go_wp2
    go_ret
    exact ⟨ze, zb HB⟩

/-! ### spec_l3Fit: function 141 -/
-- thin
def spec_l3Fit.l0 : Nat → List (S88) → List (S88) → Int → Option ((List (S88)) × Int)
 | 0, _, _, _ => none
 | k + 1, x3, x161000, x161001 => (spec_l3Size.f k x3).bind fun t168 => (if t168 > x161001 then (if 0 ≤ (wrap64 ((x3.length : Int) - 1)) then (if (wrap64 ((x3.length : Int) - 1)) ≤ (x3.length : Int) then (spec_l3Fit.l0 k (x3.take ((wrap64 ((x3.length : Int) - 1)) : Int).toNat) x161000 x161001) else (none)) else (none)) else (some (x3, x161001)))
def spec_l3Fit.f (k : Nat) (l0_0 : List (S88)) (a0_1 : Int) : Option ((List (S88)) × Int) := (some (([] : List (S88)) : List (S88))).bind fun y162 => (if y162.length + l0_0.length < 3518437208883 then (spec_l3Fit.l0 k (y162 ++ l0_0) l0_0 a0_1) else (none))
theorem spec_l3Fit.mono_l : ∀ k, (∀ y0 y1 y2, LeO (spec_l3Fit.l0 k y0 y1 y2) (spec_l3Fit.l0 (k + 1) y0 y1 y2))
 | 0 => fun _ _ _ r h => by simp [spec_l3Fit.l0] at h
 | k + 1 => by
  have ih0 := spec_l3Fit.mono_l k
  ·intro y0 y1 y2
   unfold spec_l3Fit.l0
   have m0 := @spec_l3Size.mono
   exact zm
theorem spec_l3Fit.mono : ∀ a0 a1 k, LeO (spec_l3Fit.f k a0 a1) (spec_l3Fit.f (k + 1) a0 a1) := by
 intro a0 a1 k
 have ih0 := spec_l3Fit.mono_l k
 unfold spec_l3Fit.f
 have m0 := @spec_l3Size.mono
 exact zm
set_option maxHeartbeats 8000000 in
set_option maxRecDepth 100000 in
theorem spec_l3Fit.calls (k : Nat) (A0_0 : Option Addr) (c0_0 : Nat) (l0_0 : List (S88)) (a0_1 : Int) (r1 : List (S88)) (r2 : Int) (w : World) (hr0_0 : Kd.C k88 w A0_0 l0_0.length l0_0) (hc0_0 : l0_0.length ≤ c0_0) (h : spec_l3Fit.f k l0_0 a0_1 = some (r1, r2)) :
  Calls Try.prog 141 #[.agg #[.slice A0_0 l0_0.length c0_0, .int .i64 a0_1]] w fun e w' => ∃ v0_ : Value, e = .returned (.agg #[v0_, .int .i64 r2]) ∧ Kd.R k88 88 w' w.heap.size (fun _ => True) v0_ r1 ∧ Below w.heap.size w w' := by
 have hu25 := Try.underlying25
 have HR0_0 := Aside0.mk hr0_0
 have HC0_0 := Aside0.mk hc0_0
 clear hr0_0 hc0_0
 have HB := Aside0.mk (Below.refl w.heap.size w)
 have H : ((some (([] : List (S88)) : List (S88))).bind fun y162 => (if y162.length + l0_0.length < 3518437208883 then (spec_l3Fit.l0 k (y162 ++ l0_0) l0_0 a0_1) else (none))) = some (r1, r2) := h
 clear h
 obtain ⟨y162, hy162⟩ : ∃ y_ : List (S88), y_ = (([] : List (S88))) := ⟨_, rfl⟩
 replace H : (if y162.length + l0_0.length < 3518437208883 then (spec_l3Fit.l0 k (y162 ++ l0_0) l0_0 a0_1) else (none)) = some (r1, r2) := by first | (rw [hy162]; with_reducible exact H) | (have H2_ := (Option.bind_some _ _).symm.trans H; rw [hy162]; with_reducible exact H2_) | (have H2_ := (Option.bind_some _ _).symm.trans H; with_reducible exact H2_) | with_reducible exact H | (rw [hy162]; exact H) | exact H
 have Ny162 := Aside0.mk hy162
 clear hy162
 replace H := sp H
 rcases H with ⟨c2, H⟩ | ⟨c2, H⟩
 ·skip
  have LMc2 := Aside0.mk c2
  clear c2
  obtain ⟨y165, hy165⟩ : ∃ y_ : List (S88), y_ = (y162 ++ l0_0) := ⟨_, rfl⟩
  replace H : (spec_l3Fit.l0 k y165 l0_0 a0_1) = some (r1, r2) := by first | (rw [hy165]; with_reducible exact H) | (have H2_ := (Option.bind_some _ _).symm.trans H; rw [hy165]; with_reducible exact H2_) | (have H2_ := (Option.bind_some _ _).symm.trans H; with_reducible exact H2_) | with_reducible exact H | (rw [hy165]; exact H) | exact H
  have Ny165 := Aside0.mk hy165
  clear hy165
  have H' := Aside0.mk H
  clear H
  go_enter Try.func141, Try.ntmps141
  go_wp2_with (first | ((with_reducible refine gd 1 rfl ?_); refine bx (N := 1) (cs := #[.slice A0_0 l0_0.length c0_0, .int .i64 a0_1]) (t := 25) ?_; intro gb160 hg w3 hbox hb; have BK160 := Aside0.mk (hbox); have GW160 := gw HB hg; have GE160 := GW160; replace HB := Aside0.mk (below_step (zb HB) hb); clear hb hbox hg) | ((with_reducible refine gd 2 rfl ?_); refine bx (N := 2) (cs := #[.slice none 0 0, .int .i64 0]) (t := 25) ?_; intro gb161 hg w4 hbox hb; have BK161 := Aside0.mk (hbox); have GW161 := gw HB hg; have GE161 := GW161; replace HB := Aside0.mk (below_step (zb HB) hb); obtain ⟨NB160_161, NB161_160⟩ := nb BK160 hg; replace BK160 := kb BK160 hb; clear hb hbox hg) | ((with_reducible refine gd 4 rfl ?_); refine Kd.R_lit k88 _ 88 ?hg (N := 4) ?hd (xs := ([] : List (S88))) (inner := []) (ok := fun _ => True) (okp := fun _ => True) ?hr ?hp (fun _ hk => hk) trivial (Below.refl _ _) (Nat.le_refl _) (by simp) ?_; (case hd => rfl); (case hg => rfl); (case hr => first | (go_simp; done) | (go_simp; rfl)); (case hp => exact (Reps.none _ _)); intro v163 w5 ho6 hb hg_ hnew_; clear hg_ hnew_; (first | rw [← Ny162.out] at ho6 | (simp only [Int.reduceToNat] at ho6; rw [← Ny162.out] at ho6)); have HO164 := Aside0.mk (Kd.R_lower ho6 (below_size (zb HB))); replace BK160 := kb BK160 hb; replace BK161 := kb BK161 hb; replace HB := Aside0.mk (below_step (zb HB) hb); clear hb ho6; have hnb7 := NB160_161.out; have hnc7 := NB161_160.out; obtain ⟨hcz8_0, hcz8_1, hfz8_0, hfz8_1⟩ := c2 BK160) | ((with_reducible refine gate_builtin (b := .append) (xs := #[.tmp 4, .tmp 6]) rfl ?_); at_builtin; refine Kd.R_append_rows k88 (w0 := w) w.heap.size rfl (.tmp 4) (.tmp 6) 23 88 (.agg #[(.string ⟨#[]⟩), (.string ⟨#[]⟩), (.bool false)]) 40 rfl Try.underlying23 info88 rfl (by decide) (by omega) v163 y162 l0_0 _ _ _ (fun _ => True) (fun _ => False) rfl rfl ?aO ?aR (fun _ _ h => h) (fun _ h => h.elim) ?aF ?aB ?aS ?aL ?_; (case aR => exact zc (Kd.C_below HR0_0.out HB.out)); (case aB => exact (zb HB)); (case aF => exact (fun _ _ => trivial)); (case aO => exact (zr HO164)); (case aS => exact (below_size (zb HB))); (case aL => have := LMc2.out; omega); intro v166 w9 ho hb hg hat; rw [← Ny165.out] at ho; replace BK160 := Aside0.mk (blk_grown (zk BK160) hg (Kd.R_ne HO164.out BK160.out (by decide))); replace BK161 := Aside0.mk (blk_grown (zk BK161) hg (Kd.R_ne HO164.out BK161.out (by decide))); replace HB := Aside0.mk (hb); have HO167 := Aside0.mk (ho); clear HO164; clear ho hb hg hat))
  go_loopg [3] k (fun kq v3 w' => ∃ (x3_1 : List (S88)), Aside0 (spec_l3Fit.l0 kq x3_1 l0_0 a0_1 = some (r1, r2)) ∧ Aside0 (kq ≤ k) ∧ Aside0 (Kd.R k88 88 w' w.heap.size (fun _ => True) v3 x3_1) ∧ Aside0 (w'.heap[gb160]? = some (.cells #[(.slice A0_0 l0_0.length c0_0), .int .i64 a0_1] 25 (0, 0))) ∧ Aside0 (w'.heap[gb161]? = some (.cells #[(.slice none 0 0), .int .i64 0] 25 (0, 0))) ∧ Aside0 (Below w.heap.size w w'))
  case atStart => exact ⟨(y165), H', ⟨Nat.le_refl _⟩, ⟨by exact zr HO167⟩, ⟨by exact zk BK160⟩, ⟨by exact zk BK161⟩, ⟨zb HB⟩⟩
  case round =>
   clear H'
   try clear c1
   try clear c2
   try clear p2
   try clear c7
   try clear hcz8_0
   try clear hcz8_1
   try clear hfz8_0
   try clear hfz8_1
   obtain ⟨x3_1, HA, HK1, HO_3, BK160, BK161, HB⟩ := hrel
   cases gk with
   | zero => exact absurd HA.out (by simp [spec_l3Fit.l0])
   | succ k1 =>
    have H := HA.out
    clear HA
    simp only [spec_l3Fit.l0] at H
    obtain ⟨t168, A10, H⟩ := ob H
    (try dsimp only at H)
    by_cases c11 : t168 > a0_1
    ·rw [if_pos c11] at H
     have c11b0 := decide_eq_true c11
     clear c11
     obtain ⟨ji12, hji12⟩ : ∃ j_ : Int, (wrap64 ((x3_1.length : Int) - 1)) = j_ := ⟨_, rfl⟩
     replace H : (if 0 ≤ (ji12) then (if (ji12) ≤ (x3_1.length : Int) then (spec_l3Fit.l0 k1 (x3_1.take ((ji12) : Int).toNat) l0_0 a0_1) else (none)) else (none)) = some (r1, r2) := by first | (rw [hji12] at H; exact H) | (simp only [hji12] at H ⊢; exact H)
     (try rw [hji12] at A10)
     have hji12w : (IntKind.i64.wrap ((x3_1.length : Int) - 1)) = ji12 := (i64_w _).trans hji12
     by_cases c13 : 0 ≤ (ji12)
     ·rw [if_pos c13] at H
      have c13b0 := eq_true c13
      have c13b1 := decide_eq_true c13
      clear c13
      by_cases c14 : (ji12) ≤ (x3_1.length : Int)
      ·rw [if_pos c14] at H
       have c14b0 := eq_true c14
       have c14b1 := decide_eq_true c14
       clear c14
       obtain ⟨y169, hy169⟩ : ∃ y_ : List (S88), y_ = (x3_1.take ((ji12) : Int).toNat) := ⟨_, rfl⟩
       replace H : (spec_l3Fit.l0 k1 y169 l0_0 a0_1) = some (r1, r2) := by first | (rw [hy169]; with_reducible exact H) | (have H2_ := (Option.bind_some _ _).symm.trans H; rw [hy169]; with_reducible exact H2_) | (have H2_ := (Option.bind_some _ _).symm.trans H; with_reducible exact H2_) | with_reducible exact H | (rw [hy169]; exact H) | exact H
       have Ny169 := Aside0.mk hy169
       clear hy169
       have H' := Aside0.mk H
       clear H
       try go_wp2
       replace HO_3 := Aside0.mk (Kd.R_drew HO_3.out)
       replace BK160 := Aside0.mk (blk_drew BK160.out)
       replace BK161 := Aside0.mk (blk_drew BK161.out)
       replace HB := Aside0.mk (below_drew1 HB.out)
       obtain ⟨Ao16, co16, eo16⟩ := Kd.R_slice HO_3.out
       (first | subst eo16 | (injection eo16 with f1_ f2_ f3_; have f4_ := f1_.symm; have f5_ := f3_.symm; clear f1_ f2_ f3_; subst f4_; subst f5_))
       refine start_ (n := 5) (S := fun w' => w'.cell? ⟨gb160, 0, none⟩ = some (.slice A0_0 l0_0.length c0_0) ∧ w'.cell? ⟨gb160, 1, none⟩ = some (.int .i64 a0_1)) (ds := []) #[false, false, false, false, false] (by kernel_rfl) rfl rfl ⟨(blk_cell BK160.out 0).trans rfl, (blk_cell BK160.out 1).trans rfl⟩ (fun hHeld => ?_)
       generalize wr.drew = w15 at HO_3 BK160 BK161 HB hHeld ⊢
       refine pu 0 (some 8) (bm 5 1) rfl rfl ?_
       refine pu 2 (some 10) (bm 5 5) rfl rfl ?_
       refine tk 3 (some 11) (bm 5 13) rfl rfl hHeld ?_
       refine one_ (i := 1) (N := some 9) (bm 5 15) rfl rfl (by kernel_rfl) (by decide) (fun K hK => ?_)
       refine gs Try.func57 #[.slice Ao16 x3_1.length co16] ?_
       with_reducible refine (spec_l3Size.calls k1 _ _ x3_1 t168 _ ?side1 ?side2 A10.out).mono ?_
       (case side1 => exact zc (Kd.R_reads' HO_3.out).2.2)
       (case side2 => exact (Kd.R_reads' HO_3.out).2.1)
       rintro e w17 ⟨rfl, hb⟩
       refine ⟨_, rfl, ?_⟩
       replace HO_3 := Aside0.mk (Kd.R_below (zr HO_3) hb)
       replace BK160 := kb BK160 hb
       replace BK161 := kb BK161 hb
       replace HB := Aside0.mk (below_step (zb HB) hb)
       (try clear hb)
       refine hK.out _ _ ⟨(blk_cell BK160.out 0).trans rfl, (blk_cell BK160.out 1).trans rfl⟩ (fun hHeld => ?_)
       clear hK K
       refine nm ?_
       refine pu 4 (some 12) (bm 5 31) rfl rfl ?_
       refine done_ (by kernel_rfl) ?_
       have q18 : ((ji12) : Int) ≤ ((x3_1.length : Int) : Int) := of_decide_eq_true za
       obtain ⟨i018, hi018, _, hsz18, _⟩ := info_parts info88
       have hcut18 := cut_to (P := Try.prog) 23 88 .i64 Try.underlying23 hi018 Ao16 x3_1.length co16 (ji12) (of_decide_eq_true za) q18 (Kd.R_reads' HO_3.out).2.1
       have hr18 := Kd.R_take (m := ((ji12) : Int).toNat) HO_3.out (by omega)
       have hy18 : y169.length = ((ji12) : Int).toNat := (by rw [Ny169.out, List.length_take]; omega)
       rw [← Ny169.out] at hr18
       rw [← hy18] at hr18 hcut18
       clear hy18 hi018 hsz18 HO_3
       have HO171 := Aside0.mk hr18
       clear hr18
       replace q18 := eq_true q18
       try go_wp2
       go_roundg k1
       case measure => have := HK1.out; omega
       case rel => exact ⟨(y169), H', ⟨by have := HK1.out; omega⟩, ⟨by exact zr HO171⟩, ⟨by exact zk BK160⟩, ⟨by exact zk BK161⟩, ⟨zb HB⟩⟩
      ·rw [if_neg c14] at H
       exact absurd H (by simp)
     ·rw [if_neg c13] at H
      exact absurd H (by simp)
    ·rw [if_neg c11] at H
     have c11b0 := decide_eq_false c11
     clear c11
     simp only [Option.some.injEq, Prod.mk.injEq] at H
     obtain ⟨rfl, rfl⟩ := H
     try go_wp2
     replace HO_3 := Aside0.mk (Kd.R_drew HO_3.out)
     replace BK160 := Aside0.mk (blk_drew BK160.out)
     replace BK161 := Aside0.mk (blk_drew BK161.out)
     replace HB := Aside0.mk (below_drew1 HB.out)
     obtain ⟨Ao20, co20, eo20⟩ := Kd.R_slice HO_3.out
     (first | subst eo20 | (injection eo20 with f1_ f2_ f3_; have f4_ := f1_.symm; have f5_ := f3_.symm; clear f1_ f2_ f3_; subst f4_; subst f5_))
     refine start_ (n := 5) (S := fun w' => w'.cell? ⟨gb160, 0, none⟩ = some (.slice A0_0 l0_0.length c0_0) ∧ w'.cell? ⟨gb160, 1, none⟩ = some (.int .i64 a0_1)) (ds := []) #[false, false, false, false, false] (by kernel_rfl) rfl rfl ⟨(blk_cell BK160.out 0).trans rfl, (blk_cell BK160.out 1).trans rfl⟩ (fun hHeld => ?_)
     generalize wr.drew = w19 at HO_3 BK160 BK161 HB hHeld ⊢
     refine pu 0 (some 8) (bm 5 1) rfl rfl ?_
     refine pu 2 (some 10) (bm 5 5) rfl rfl ?_
     refine tk 3 (some 11) (bm 5 13) rfl rfl hHeld ?_
     refine one_ (i := 1) (N := some 9) (bm 5 15) rfl rfl (by kernel_rfl) (by decide) (fun K hK => ?_)
     refine gs Try.func57 #[.slice Ao20 x3_1.length co20] ?_
     with_reducible refine (spec_l3Size.calls k1 _ _ x3_1 t168 _ ?side1 ?side2 A10.out).mono ?_
     (case side1 => exact zc (Kd.R_reads' HO_3.out).2.2)
     (case side2 => exact (Kd.R_reads' HO_3.out).2.1)
     rintro e w21 ⟨rfl, hb⟩
     refine ⟨_, rfl, ?_⟩
     replace HO_3 := Aside0.mk (Kd.R_below (zr HO_3) hb)
     replace BK160 := kb BK160 hb
     replace BK161 := kb BK161 hb
     replace HB := Aside0.mk (below_step (zb HB) hb)
     (try clear hb)
     refine hK.out _ _ ⟨(blk_cell BK160.out 0).trans rfl, (blk_cell BK160.out 1).trans rfl⟩ (fun hHeld => ?_)
     clear hK K
     refine nm ?_
     refine pu 4 (some 12) (bm 5 31) rfl rfl ?_
     refine done_ (by kernel_rfl) ?_
     have hnb22 := NB160_161.out
     have hnc22 := NB161_160.out
     obtain ⟨hcz23_0, hcz23_1, hfz23_0, hfz23_1⟩ := c2 BK160
     obtain ⟨hcz24_0, hcz24_1, hfz24_0, hfz24_1⟩ := c2 BK161
     try go_wp2
     refine bodyPost_ret (results_cell_row rfl _ _ gb161 25 #[.slice Ao20 x3_1.length co20, .int .i64 a0_1] (0, 0) _ rfl (by (with_reducible repeat (first | refine blk_drewN ?_ _ | refine blk_drew ?_ | refine blk_alloc ?_ _)); refine blk_put (cs := #[.slice Ao20 x3_1.length co20, .int .i64 0]) ?_ 1 _ rfl; (with_reducible repeat (first | refine blk_drewN ?_ _ | refine blk_drew ?_ | refine blk_alloc ?_ _)); refine blk_put (cs := #[.slice none 0 0, .int .i64 0]) ?_ 0 _ rfl; exact zk BK161) Try.underlying25 rfl (by kernel_rfl)) rfl ?_
     exact ⟨_, ze, by (with_reducible repeat (first | apply Kd.R_alloc | apply Kd.R_drewN | apply Kd.R_drew)); exact Kd.R_mono (Kd.R_far (p := ⟨gb161, 1, none⟩) (Kd.R_far (p := ⟨gb161, 0, none⟩) (Kd.R_types HO_3.out BK161.out (by decide)) (fun _ hk => hk.2) (.slice Ao20 x3_1.length co20)) (fun _ hk => hk.2) (.int .i64 a0_1)) (fun _ hk => trivial), zb HB⟩
 ·skip
  exact absurd H (by simp)

/-! ### spec_l3Add: function 107 -/
-- thin
def spec_l3Add.f (k : Nat) (l0_0 : List (S88)) (a0_1 : Int) (a1_0 : ByteArray) (a1_1 : ByteArray) (a1_2 : Bool) : Option ((List (S88)) × Int) := (some (([(⟨a1_0, a1_1, false⟩ : S88)] : List (S88)) : List (S88))).bind fun y175 => (if y175.length + l0_0.length < 3518437208883 then ((spec_l3Fit.f k (y175 ++ l0_0) a0_1).bind fun bt181 => (some (bt181.1, bt181.2))) else (none))
theorem spec_l3Add.mono : ∀ a0 a1 a2 a3 a4 k, LeO (spec_l3Add.f k a0 a1 a2 a3 a4) (spec_l3Add.f (k + 1) a0 a1 a2 a3 a4) := by
 intro a0 a1 a2 a3 a4 k
 unfold spec_l3Add.f
 have m0 := @spec_l3Fit.mono
 exact zm
def spec_l3Add.T2 : Bool × List (List Nat × List Nat) := (true, [([], []), ([0], [0]), ([], []), ([2], [2]), ([1, 3], [1, 3]), ([], []), ([5], [5]), ([4, 6], [4, 6]), ([7, 4], [7]), ([8, 8, 0, 1, 2, 3, 4, 5, 6, 7, 8], [8])])
def spec_l3Add.B2 : List Nat := [0, 1, 0, 4, 15, 0, 32, 127, 255, 511]
theorem spec_l3Add.tab2 : rtab .any (opsOf Try.f107 2) = spec_l3Add.T2 := by kernel_rfl
theorem spec_l3Add.bits2 : waitsOk spec_l3Add.T2.2 spec_l3Add.B2 = true := by kernel_rfl
set_option maxHeartbeats 8000000 in
set_option maxRecDepth 100000 in
theorem spec_l3Add.calls (k : Nat) (A0_0 : Option Addr) (c0_0 : Nat) (l0_0 : List (S88)) (a0_1 : Int) (a1_0 : ByteArray) (a1_1 : ByteArray) (a1_2 : Bool) (r1 : List (S88)) (r2 : Int) (w : World) (hr0_0 : Kd.C k88 w A0_0 l0_0.length l0_0) (hc0_0 : l0_0.length ≤ c0_0) (h : spec_l3Add.f k l0_0 a0_1 a1_0 a1_1 a1_2 = some (r1, r2)) :
  Calls Try.prog 107 #[.agg #[.slice A0_0 l0_0.length c0_0, .int .i64 a0_1], .agg #[.string a1_0, .string a1_1, .bool a1_2]] w fun e w' => ∃ v0_ : Value, e = .returned (.agg #[v0_, .int .i64 r2]) ∧ Kd.R k88 88 w' w.heap.size (fun _ => True) v0_ r1 ∧ Below w.heap.size w w' := by
 have hu25 := Try.underlying25
 have hu88 := Try.underlying88
 have HR0_0 := Aside0.mk hr0_0
 have HC0_0 := Aside0.mk hc0_0
 clear hr0_0 hc0_0
 have HB := Aside0.mk (Below.refl w.heap.size w)
 have H : ((some (([(⟨a1_0, a1_1, false⟩ : S88)] : List (S88)) : List (S88))).bind fun y175 => (if y175.length + l0_0.length < 3518437208883 then ((spec_l3Fit.f k (y175 ++ l0_0) a0_1).bind fun bt181 => (some (bt181.1, bt181.2))) else (none))) = some (r1, r2) := h
 clear h
 obtain ⟨y175, hy175⟩ : ∃ y_ : List (S88), y_ = (([(⟨a1_0, a1_1, false⟩ : S88)] : List (S88))) := ⟨_, rfl⟩
 replace H : (if y175.length + l0_0.length < 3518437208883 then ((spec_l3Fit.f k (y175 ++ l0_0) a0_1).bind fun bt181 => (some (bt181.1, bt181.2))) else (none)) = some (r1, r2) := by first | (rw [hy175]; with_reducible exact H) | (have H2_ := (Option.bind_some _ _).symm.trans H; rw [hy175]; with_reducible exact H2_) | (have H2_ := (Option.bind_some _ _).symm.trans H; with_reducible exact H2_) | with_reducible exact H | (rw [hy175]; exact H) | exact H
 have Ny175 := Aside0.mk hy175
 clear hy175
 replace H := sp H
 rcases H with ⟨c3, H⟩ | ⟨c3, H⟩
 ·skip
  have LMc3 := Aside0.mk c3
  clear c3
  obtain ⟨y178, hy178⟩ : ∃ y_ : List (S88), y_ = (y175 ++ l0_0) := ⟨_, rfl⟩
  replace H : ((spec_l3Fit.f k y178 a0_1).bind fun bt181 => (some (bt181.1, bt181.2))) = some (r1, r2) := by first | (rw [hy178]; with_reducible exact H) | (have H2_ := (Option.bind_some _ _).symm.trans H; rw [hy178]; with_reducible exact H2_) | (have H2_ := (Option.bind_some _ _).symm.trans H; with_reducible exact H2_) | with_reducible exact H | (rw [hy178]; exact H) | exact H
  have Ny178 := Aside0.mk hy178
  clear hy178
  obtain ⟨⟨t181, t184⟩, A4, H⟩ := ob H
  (try dsimp only at H)
  simp only [Option.some.injEq, Prod.mk.injEq] at H
  obtain ⟨rfl, rfl⟩ := H
  go_enter Try.func107, Try.ntmps107
  try go_wp2_with (first | ((with_reducible refine gd 2 rfl ?_); refine bx (N := 2) (cs := #[.slice A0_0 l0_0.length c0_0, .int .i64 a0_1]) (t := 25) ?_; intro gb172 hg w5 hbox hb; have BK172 := Aside0.mk (hbox); have GW172 := gw HB hg; have GE172 := GW172; replace HB := Aside0.mk (below_step (zb HB) hb); clear hb hbox hg) | ((with_reducible refine gd 3 rfl ?_); refine bx (N := 3) (cs := #[.string a1_0, .string a1_1, .bool a1_2]) (t := 88) ?_; intro gb173 hg w6 hbox hb; have BK173 := Aside0.mk (hbox); have GW173 := gw HB hg; have GE173 := GW173; replace HB := Aside0.mk (below_step (zb HB) hb); obtain ⟨NB172_173, NB173_172⟩ := nb BK172 hg; replace BK172 := kb BK172 hb; clear hb hbox hg) | ((with_reducible refine gd 4 rfl ?_); refine bx (N := 4) (cs := #[.slice none 0 0, .int .i64 0]) (t := 25) ?_; intro gb174 hg w7 hbox hb; have BK174 := Aside0.mk (hbox); have GW174 := gw HB hg; have GE174 := GW174; replace HB := Aside0.mk (below_step (zb HB) hb); obtain ⟨NB172_174, NB174_172⟩ := nb BK172 hg; replace BK172 := kb BK172 hb; obtain ⟨NB173_174, NB174_173⟩ := nb BK173 hg; replace BK173 := kb BK173 hb; clear hb hbox hg; have hnb8 := NB173_172.out; have hnc8 := NB172_173.out; have hnb9 := NB173_174.out; have hnc9 := NB174_173.out; obtain ⟨hcz10_0, hcz10_1, hcz10_2, hfz10_0, hfz10_1, hfz10_2⟩ := c3 BK173))
  have n0_ : Aside0 ((w7.setCell ⟨gb173, 2, none⟩ (.bool false)).heap[gb172]? = some (.cells #[.slice A0_0 l0_0.length c0_0, .int .i64 a0_1] 25 (0, 0))) := ⟨by (with_reducible repeat (first | refine blk_drewN ?_ _ | refine blk_drew ?_ | refine blk_alloc ?_ _)); refine blk_far ?_ NB172_173.out _; exact zk BK172⟩
  have n1_ : Aside0 ((w7.setCell ⟨gb173, 2, none⟩ (.bool false)).heap[gb173]? = some (.cells #[.string a1_0, .string a1_1, .bool false] 88 (0, 0))) := ⟨by (with_reducible repeat (first | refine blk_drewN ?_ _ | refine blk_drew ?_ | refine blk_alloc ?_ _)); refine blk_put (cs := #[.string a1_0, .string a1_1, .bool a1_2]) ?_ 2 _ rfl; exact zk BK173⟩
  have n2_ : Aside0 ((w7.setCell ⟨gb173, 2, none⟩ (.bool false)).heap[gb174]? = some (.cells #[.slice none 0 0, .int .i64 0] 25 (0, 0))) := ⟨by (with_reducible repeat (first | refine blk_drewN ?_ _ | refine blk_drew ?_ | refine blk_alloc ?_ _)); refine blk_far ?_ NB174_173.out _; exact zk BK174⟩
  have n3_ : Aside0 (Below w.heap.size w (w7.setCell ⟨gb173, 2, none⟩ (.bool false))) := ⟨zb HB⟩
  (try clear BK172)
  (try clear BK173)
  (try clear BK174)
  (try clear HB)
  generalize (w7.setCell ⟨gb173, 2, none⟩ (.bool false)) = w11 at n0_ n1_ n2_ n3_ ⊢
  have BK172 := n0_
  have BK173 := n1_
  have BK174 := n2_
  have HB := n3_
  clear n0_ n1_ n2_ n3_
  replace BK172 := Aside0.mk (blk_drew BK172.out)
  replace BK173 := Aside0.mk (blk_drew BK173.out)
  replace BK174 := Aside0.mk (blk_drew BK174.out)
  replace HB := Aside0.mk (below_drew1 HB.out)
  refine start_ (n := 10) (S := fun w' => w'.cell? ⟨gb173, 0, none⟩ = some (.string a1_0) ∧ w'.cell? ⟨gb173, 1, none⟩ = some (.string a1_1) ∧ w'.cell? ⟨gb173, 2, none⟩ = some (.bool false) ∧ w'.cell? ⟨gb172, 0, none⟩ = some (.slice A0_0 l0_0.length c0_0) ∧ w'.cell? ⟨gb172, 1, none⟩ = some (.int .i64 a0_1)) (ds := []) #[false, false, false, false, false, false, false, false, false, false] (by kernel_rfl) rfl rfl ⟨(blk_cell BK173.out 0).trans rfl, (blk_cell BK173.out 1).trans rfl, (blk_cell BK173.out 2).trans rfl, (blk_cell BK172.out 0).trans rfl, (blk_cell BK172.out 1).trans rfl⟩ (fun hHeld => ?_); refine with_tabW spec_l3Add.tab2 spec_l3Add.bits2 (fun HT_ HW_ => ?_)
  generalize w11.drew = w12 at BK172 BK173 BK174 HB hHeld ⊢
  refine pu 2 (some 8) (bm 10 4) rfl rfl ?_
  refine pu 5 (some 11) (bm 10 36) rfl rfl ?_
  refine tk 0 (some 6) (bm 10 37) rfl rfl hHeld ?_
  refine tk 3 (some 9) (bm 10 45) rfl rfl hHeld ?_
  refine tk 6 (some 12) (bm 10 109) rfl rfl hHeld ?_
  refine one_ (i := 1) (N := some 7) (bm 10 111) rfl rfl (one_of HT_.out (by kernel_rfl)) (by decide) (fun K hK => ?_)
  refine Kd.R_lit_step k88 _ 88 ?hg (N := 7) ?hd (xs := ([(⟨a1_0, a1_1, false⟩ : S88)] : List (S88))) (inner := [.string a1_0, .string a1_1, .bool false]) (ok := fun _ => True) (okp := fun _ => True) ?hr ?hp (fun _ hk => hk) trivial (Below.refl _ _) (Nat.le_refl _) (by simp) ?_; (case hd => rfl); (case hg => rfl); (case hr => first | (go_simp; done) | (go_simp; rfl)); (case hp => exact (Reps.c3 (show Kd.M k88 _ _ _ (⟨a1_0, a1_1, false⟩ : S88) [.string a1_0, .string a1_1, .bool false] from (k88_mkM _ _ _ (⟨a1_0, a1_1, false⟩ : S88) )) (Reps.none _ _)))
  intro v176 w13 ho14 hb hg_ hnew_
  clear hg_ hnew_
  (first | rw [← Ny175.out] at ho14 | (simp only [Int.reduceToNat] at ho14; rw [← Ny175.out] at ho14))
  have HO177 := Aside0.mk (Kd.R_lower (Kd.R_newB ho14 (zk BK173)) (below_size (zb HB)))
  replace BK172 := kb BK172 hb
  replace BK173 := kb BK173 hb
  replace BK174 := kb BK174 hb
  replace HB := Aside0.mk (below_step (zb HB) hb)
  clear hb ho14
  refine hK.out _ _ ⟨(blk_cell BK173.out 0).trans rfl, (blk_cell BK173.out 1).trans rfl, (blk_cell BK173.out 2).trans rfl, (blk_cell BK172.out 0).trans rfl, (blk_cell BK172.out 1).trans rfl⟩ (fun hHeld => ?_)
  clear hK K
  refine nm ?_
  refine one_ (i := 4) (N := some 10) (bm 10 127) rfl rfl (one_of HT_.out (by kernel_rfl)) (by decide) (fun K hK => ?_)
  refine Kd.R_append_rows_step k88 (w0 := w) w.heap.size (by rfl) (.tmp 7) (.tmp 9) 23 88 (.agg #[(.string ⟨#[]⟩), (.string ⟨#[]⟩), (.bool false)]) 40 rfl Try.underlying23 info88 rfl (by decide) (by omega) v176 y175 l0_0 _ _ _ (fun k_ => k_ ≠ gb173) (fun _ => False) rfl rfl ?aO ?aR (fun _ _ h => h) (fun _ h => h.elim) ?aF ?aB ?aS ?aL ?_
  (case aR => exact zc (Kd.C_below HR0_0.out HB.out))
  (case aB => exact (zb HB))
  (case aF => exact (fun k_ hk => Kd.freshB (zk BK173) k_ hk))
  (case aO => exact (by (with_reducible repeat (first | apply Kd.R_alloc | apply Kd.R_drewN | apply Kd.R_drew)); exact Kd.R_mono HO177.out (fun _ hk => hk.2)))
  (case aS => exact (below_size (zb HB)))
  (case aL => have := LMc3.out; omega)
  intro v179 w15 ho hb hg hat
  rw [← Ny178.out] at ho
  replace BK172 := Aside0.mk (blk_grown (zk BK172) hg (Kd.R_ne HO177.out BK172.out (by decide)))
  replace BK173 := Aside0.mk (blk_grown (zk BK173) hg (Kd.R_away HO177.out (fun _ hk => hk.2)))
  replace BK174 := Aside0.mk (blk_grown (zk BK174) hg (Kd.R_ne HO177.out BK174.out (by decide)))
  replace HB := Aside0.mk (hb)
  have HO180 := Aside0.mk (ho)
  clear HO177
  clear ho hb hg hat
  obtain ⟨Ao16, co16, eo16⟩ := Kd.R_slice HO180.out
  (first | subst eo16 | (injection eo16 with f1_ f2_ f3_; have f4_ := f1_.symm; have f5_ := f3_.symm; clear f1_ f2_ f3_; subst f4_; subst f5_))
  refine hK.out _ _ ⟨(blk_cell BK173.out 0).trans rfl, (blk_cell BK173.out 1).trans rfl, (blk_cell BK173.out 2).trans rfl, (blk_cell BK172.out 0).trans rfl, (blk_cell BK172.out 1).trans rfl⟩ (fun hHeld => ?_)
  clear hK K
  refine nm ?_
  refine pu 7 (some 13) (bm 10 255) rfl rfl ?_
  refine one_ (i := 8) (N := some 14) (bm 10 511) rfl rfl (one_of HT_.out (by kernel_rfl)) (by decide) (fun K hK => ?_)
  refine gs Try.func141 #[.agg #[.slice Ao16 y178.length co16, .int .i64 a0_1]] ?_
  with_reducible refine (spec_l3Fit.calls k _ _ y178 a0_1 t181 t184 _ ?side1 ?side2 A4.out).mono ?_
  (case side1 => exact zc (Kd.R_reads' HO180.out).2.2)
  (case side2 => exact (Kd.R_reads' HO180.out).2.1)
  rintro e w17 ⟨v182, rfl, ho0, hb⟩
  refine ⟨_, rfl, ?_⟩
  have HO183 := Aside0.mk (Kd.R_lower (Kd.R_newB (Kd.R_new' ho0 (Kd.R_lt (zr HO180))) (zk BK173)) (below_size (zb HB)))
  replace HO180 := Aside0.mk (Kd.R_elder' (zr HO180) (Kd.R_base ho0) hb)
  replace BK172 := kb BK172 hb
  replace BK173 := kb BK173 hb
  replace BK174 := kb BK174 hb
  replace HB := Aside0.mk (below_step (zb HB) hb)
  (try clear hb)
  (try clear ho0)
  obtain ⟨Ao18, co18, eo18⟩ := Kd.R_slice HO183.out
  (first | subst eo18 | (injection eo18 with f1_ f2_ f3_; have f4_ := f1_.symm; have f5_ := f3_.symm; clear f1_ f2_ f3_; subst f4_; subst f5_))
  refine hK.out _ _ ⟨(blk_cell BK173.out 0).trans rfl, (blk_cell BK173.out 1).trans rfl, (blk_cell BK173.out 2).trans rfl, (blk_cell BK172.out 0).trans rfl, (blk_cell BK172.out 1).trans rfl⟩ (fun hHeld => ?_)
  clear hK K
  refine nm ?_
  refine one_ (i := 9) (N := none) (bm 10 1023) rfl rfl (one_of HT_.out (by kernel_rfl)) (by decide) (fun K hK => ?_)
  have hs19 : w17.cell? ⟨gb174, 0, none⟩ = some (.slice none 0 0) := (blk_cell BK174.out 0).trans rfl
  have hfs19 := blk_frozen BK174.out 0
  have hns19_0 := NB172_174.out
  have hns19_1 := NB173_174.out
  have hms19_0 := NB174_172.out
  have hms19_1 := NB174_173.out
  have hs20 : w17.cell? ⟨gb174, 1, none⟩ = some (.int .i64 0) := (blk_cell BK174.out 1).trans rfl
  have hfs20 := blk_frozen BK174.out 1
  have hns20_0 := NB172_174.out
  have hns20_1 := NB173_174.out
  have hms20_0 := NB174_172.out
  have hms20_1 := NB174_173.out
  refine skip_ (w1 := ?_) (by rfl) rfl ?_ ?_
  rotate_left
  ·go_simp
   rfl
  refine hK.out _ _ ⟨((cell_far (p := ⟨gb174, _, none⟩) NB173_174.out _).trans (((cell_far (p := ⟨gb174, _, none⟩) NB173_174.out _).trans (hHeld.1)))), ((cell_far (p := ⟨gb174, _, none⟩) NB173_174.out _).trans (((cell_far (p := ⟨gb174, _, none⟩) NB173_174.out _).trans (hHeld.2.1)))), ((cell_far (p := ⟨gb174, _, none⟩) NB173_174.out _).trans (((cell_far (p := ⟨gb174, _, none⟩) NB173_174.out _).trans (hHeld.2.2.1)))), ((cell_far (p := ⟨gb174, _, none⟩) NB172_174.out _).trans (((cell_far (p := ⟨gb174, _, none⟩) NB172_174.out _).trans (hHeld.2.2.2.1)))), ((cell_far (p := ⟨gb174, _, none⟩) NB172_174.out _).trans (((cell_far (p := ⟨gb174, _, none⟩) NB172_174.out _).trans (hHeld.2.2.2.2))))⟩ (fun hHeld => ?_)
  clear hK K
  refine done_ (done_of HT_.out (by kernel_rfl)) ?_
  try go_wp2
  refine bodyPost_ret (results_cell_row rfl _ _ gb174 25 #[.slice Ao18 t181.length co18, .int .i64 t184] (0, 0) _ rfl (by (with_reducible repeat (first | refine blk_drewN ?_ _ | refine blk_drew ?_ | refine blk_alloc ?_ _)); refine blk_put (cs := #[.slice Ao18 t181.length co18, .int .i64 0]) ?_ 1 _ rfl; (with_reducible repeat (first | refine blk_drewN ?_ _ | refine blk_drew ?_ | refine blk_alloc ?_ _)); refine blk_put (cs := #[.slice none 0 0, .int .i64 0]) ?_ 0 _ rfl; exact zk BK174) Try.underlying25 rfl (by kernel_rfl)) rfl ?_
  exact ⟨_, ze, by (with_reducible repeat (first | apply Kd.R_alloc | apply Kd.R_drewN | apply Kd.R_drew)); exact Kd.R_mono (Kd.R_far (p := ⟨gb174, 1, none⟩) (Kd.R_far (p := ⟨gb174, 0, none⟩) (Kd.R_types HO183.out BK174.out (by decide)) (fun _ hk => hk.2) (.slice Ao18 t181.length co18)) (fun _ hk => hk.2) (.int .i64 t184)) (fun _ hk => trivial), zb HB⟩
 ·skip
  exact absurd H (by simp)

end Go.Proofs.Ytlpibelofcabhaa.PFnHeadBack
