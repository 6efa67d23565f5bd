-- WRITTEN BY a turned print (wip/tools of the prover's repo)
import Derived.Test.YtdhahifdcoinhaaPFnHeadAgainx0
import Derived.Test.YtdhahifdcoinhaaPFnHeadAgainx2
import Derived.Test.YtdhahifdcoinhaaPFnHeadAgainx4
namespace Go.Proofs.Ytdhahifdcoinhaa.PFnHeadAgain
open Go.RowKit Go.Proofs.YtdhahifdcoinhaaW.PrintWords Go.Proofs.YtdhahifdcoinhaaW.PrintLast Go.Proofs.YtdhahifdcoinhaaW.PrintMore Go.Proofs.Ytdhahifdcoinhaa.Lm
attribute [local go_sem] max2_int min2_int max_two min_two max_three min_three max_four min_four   -- for this text's walks alone
set_option linter.unusedVariables false
set_option linter.unusedSimpArgs false

/-! ### spec_l6Many: function 87 -/
-- thin
def spec_l6Many.l0 : Nat → ByteArray → Int → ByteArray → Option (ByteArray)
 | 0, _, _, _ => none
 | k + 1, x0, x1, x5 => if x1 > 0 then (if (Int.tmod x1 2) = 1 then (if x5.size + x0.size ≤ 9223372036854775807 then (if x0.size + x0.size ≤ 9223372036854775807 then (spec_l6Many.l0 k (x0 ++ x0) (wrap64 (Int.tdiv x1 2)) (x5 ++ x0)) else (none)) else (none)) else (if x0.size + x0.size ≤ 9223372036854775807 then (spec_l6Many.l0 k (x0 ++ x0) (wrap64 (Int.tdiv x1 2)) x5) else (none))) else (some x5)
def spec_l6Many.f (k : Nat) (a0 : ByteArray) (a1 : Int) : Option (ByteArray) := spec_l6Many.l0 k a0 a1 (⟨#[]⟩ : ByteArray)
theorem spec_l6Many.mono_l : ∀ k, (∀ y0 y1 y2, LeO (spec_l6Many.l0 k y0 y1 y2) (spec_l6Many.l0 (k + 1) y0 y1 y2))
 | 0 => fun _ _ _ r h => by simp [spec_l6Many.l0] at h
 | k + 1 => by
  have ih0 := spec_l6Many.mono_l k
  ·intro y0 y1 y2
   unfold spec_l6Many.l0
   repeat' first
   | (with_reducible exact ih0 _ _ _)
   | (with_reducible exact LeO.refl _)
   | (with_reducible exact LeO.none _)
   | (with_reducible refine LeO.ite ?_ ?_)
   | (with_reducible refine LeO.bind ?_ (fun _ => ?_))
   | exact ih0 _ _ _
   | exact LeO.none _
   | refine LeO.ite ?_ ?_
   | refine LeO.bind ?_ (fun _ => ?_)
theorem spec_l6Many.mono : ∀ a0 a1 k, LeO (spec_l6Many.f k a0 a1) (spec_l6Many.f (k + 1) a0 a1) := by
 intro a0 a1 k
 have ih0 := spec_l6Many.mono_l k
 unfold spec_l6Many.f
 repeat' first
   | (with_reducible exact ih0 _ _ _)
   | (with_reducible exact LeO.refl _)
   | (with_reducible exact LeO.none _)
   | (with_reducible refine LeO.ite ?_ ?_)
   | (with_reducible refine LeO.bind ?_ (fun _ => ?_))
   | exact ih0 _ _ _
   | exact LeO.none _
   | refine LeO.ite ?_ ?_
   | refine LeO.bind ?_ (fun _ => ?_)
set_option maxHeartbeats 8000000 in
set_option maxRecDepth 100000 in
theorem spec_l6Many.calls (k : Nat) (a0 : ByteArray) (a1 : Int) (r : ByteArray) (w : World) (h : spec_l6Many.f k a0 a1 = some r) :
  Calls Try.prog 87 #[.string a0, .int .i64 a1] w fun e w' => e = .returned (.string r) ∧ Drawn0 w w' := by
 have H : (spec_l6Many.l0 k a0 a1 (⟨#[]⟩ : ByteArray)) = some r := h
 clear h
 have H' := Aside0.mk H
 clear H
 go_enter Try.func87, Try.ntmps87
 go_wp2
 go_loopg [0, 1, 5] k (fun kq v0 v1 v5 w' => ∃ (x0_1 : ByteArray) (x1_1 : Int) (x5_1 : ByteArray), v0 = .string x0_1 ∧ v1 = .int .i64 x1_1 ∧ v5 = .string x5_1 ∧ Aside0 (spec_l6Many.l0 kq x0_1 x1_1 x5_1 = some r) ∧ Aside0 (kq ≤ k) ∧ Drawn0 w w')
 case atStart => exact ⟨(a0), (a1), ((⟨#[]⟩ : ByteArray)), zs, zs, zs, H', ⟨Nat.le_refl _⟩, by repeat (first | exact Drawn0.refl _ | apply Drawn0.step)⟩
 case round =>
  clear H'
  try clear p2
  obtain ⟨x0_1, x1_1, x5_1, rfl, rfl, rfl, HA, HK1, ⟨m1, rfl⟩⟩ := hrel
  cases gk with
  | zero => exact absurd HA.out (by simp [spec_l6Many.l0])
  | succ k1 =>
   have H := HA.out
   clear HA
   simp only [spec_l6Many.l0] at H
   by_cases c3 : x1_1 > 0
   ·rw [if_pos c3] at H
    have c3b0 : decide (0 < x1_1) = true := decide_eq_true c3
    clear c3
    by_cases c4 : (Int.tmod x1_1 2) = 1
    ·rw [if_pos c4] at H
     have c4b0 : ((Int.tmod x1_1 2) == 1) = true := beq_iff_eq.mpr c4
     have c4b1 : ((Int.tmod x1_1 2) != 1) = false := bne_eq_false_iff_eq.mpr c4
     clear c4
     by_cases c5 : x5_1.size + x0_1.size ≤ 9223372036854775807
     ·rw [if_pos c5] at H
      have c5b0 := eq_true c5
      have c5b1 : decide (x5_1.size + x0_1.size ≤ 9223372036854775807) = true := decide_eq_true c5
      try have c5b2 : (9223372036854775807 < x5_1.size + x0_1.size) = False := eq_false (Nat.not_lt.2 c5)
      by_cases c6 : x0_1.size + x0_1.size ≤ 9223372036854775807
      ·rw [if_pos c6] at H
       have c6b0 := eq_true c6
       have c6b1 : decide (x0_1.size + x0_1.size ≤ 9223372036854775807) = true := decide_eq_true c6
       try have c6b2 : (9223372036854775807 < x0_1.size + x0_1.size) = False := eq_false (Nat.not_lt.2 c6)
       have H' := Aside0.mk H
       clear H
       go_wp2
       go_roundg k1
       case measure => have := HK1.out; omega
       case rel => exact ⟨(x0_1 ++ x0_1), (wrap64 (Int.tdiv x1_1 2)), (x5_1 ++ x0_1), zs, zs, zs, H', ⟨by have := HK1.out; omega⟩, by repeat (first | exact Drawn0.refl _ | apply Drawn0.step)⟩
      ·rw [if_neg c6] at H
       exact absurd H (by simp)
     ·rw [if_neg c5] at H
      exact absurd H (by simp)
    ·rw [if_neg c4] at H
     have c4b0 : ((Int.tmod x1_1 2) == 1) = false := beq_eq_false_iff_ne.mpr c4
     have c4b1 : ((Int.tmod x1_1 2) != 1) = true := bne_iff_ne.mpr c4
     by_cases c7 : x0_1.size + x0_1.size ≤ 9223372036854775807
     ·rw [if_pos c7] at H
      have c7b0 := eq_true c7
      have c7b1 : decide (x0_1.size + x0_1.size ≤ 9223372036854775807) = true := decide_eq_true c7
      try have c7b2 : (9223372036854775807 < x0_1.size + x0_1.size) = False := eq_false (Nat.not_lt.2 c7)
      have H' := Aside0.mk H
      clear H
      go_wp2
      go_roundg k1
      case measure => have := HK1.out; omega
      case rel => exact ⟨(x0_1 ++ x0_1), (wrap64 (Int.tdiv x1_1 2)), (x5_1), zs, zs, zs, H', ⟨by have := HK1.out; omega⟩, by repeat (first | exact Drawn0.refl _ | apply Drawn0.step)⟩
     ·rw [if_neg c7] at H
      exact absurd H (by simp)
   ·rw [if_neg c3] at H
    have c3b0 : decide (0 < x1_1) = false := decide_eq_false c3
    clear c3
    obtain rfl := Option.some.inj H
    go_wp2
    go_ret
    exact ⟨zs, by repeat (first | exact Drawn0.refl _ | apply Drawn0.step)⟩

/-! ### spec_l71Word: function 74 -/
-- thin
def spec_l71Word.l0 : Nat → ByteArray → Int → List Int → Int → Option (ByteArray × Int)
 | 0, _, _, _, _ => none
 | k + 1, x3, x4, x1000, x1001 => if x4 > 0 then ((spec_l6Rd_pick.f k x1000 x1001 24).bind fun bt169 => ((spec_l6Rd_pick.f k x1000 bt169.2 4).bind fun bt171 => (if bt171.1 = 0 then ((spec_l6Rd_pick.f k x1000 bt171.2 39).bind fun bt173 => (if 0 ≤ bt173.1 then (if bt173.1 < 39 then ((spec_l1Byte.f (wrap64 (bt (⟨#[101, 116, 97, 111, 105, 110, 115, 114, 104, 108, 48, 49, 50, 51, 52, 53, 54, 55, 56, 57, 100, 99, 117, 109, 102, 112, 103, 119, 121, 98, 118, 107, 120, 106, 113, 122, 58, 47, 45]⟩ : ByteArray) bt173.1))).bind fun t175 => (if x3.size + t175.size ≤ 9223372036854775807 then (spec_l71Word.l0 k (x3 ++ t175) (wrap64 (x4 - 1)) x1000 bt173.2) else (none))) else (none)) else (none))) else (if 0 ≤ bt169.1 then (if bt169.1 < 39 then ((spec_l1Byte.f (wrap64 (bt (⟨#[101, 116, 97, 111, 105, 110, 115, 114, 104, 108, 48, 49, 50, 51, 52, 53, 54, 55, 56, 57, 100, 99, 117, 109, 102, 112, 103, 119, 121, 98, 118, 107, 120, 106, 113, 122, 58, 47, 45]⟩ : ByteArray) bt169.1))).bind fun t176 => (if x3.size + t176.size ≤ 9223372036854775807 then (spec_l71Word.l0 k (x3 ++ t176) (wrap64 (x4 - 1)) x1000 bt171.2) else (none))) else (none)) else (none))))) else ((spec_l6Rd_pick.f k x1000 x1001 24).bind fun bt177 => (if bt177.1 = 0 then (if x3.size + 1 ≤ 9223372036854775807 then (some (x3 ++ (⟨#[65]⟩ : ByteArray), bt177.2)) else (none)) else (if bt177.1 = 1 then ((spec_l6Rd_pick.f k x1000 bt177.2 4).bind fun bt179 => ((spec_l6Many.f k (⟨#[101]⟩ : ByteArray) (wrap64 (15 + bt179.1))).bind fun t181 => (some (t181, bt179.2)))) else (some (x3, bt177.2)))))
def spec_l71Word.f (k : Nat) (s0_0 : List Int) (s0_1 : Int) : Option (ByteArray × Int) := (spec_l6Rd_pick.f k s0_0 s0_1 9).bind fun bt165 => ((spec_l6Rd_pick.f k s0_0 bt165.2 6).bind fun bt167 => (spec_l71Word.l0 k (⟨#[]⟩ : ByteArray) (wrap64 (bt165.1 + (wrap64 ((wrap64 (Int.tdiv bt167.1 5)) * 8)))) s0_0 bt167.2))
theorem spec_l71Word.mono_l : ∀ k, (∀ y0 y1 y2 y3, LeO (spec_l71Word.l0 k y0 y1 y2 y3) (spec_l71Word.l0 (k + 1) y0 y1 y2 y3))
 | 0 => fun _ _ _ _ r h => by simp [spec_l71Word.l0] at h
 | k + 1 => by
  have ih0 := spec_l71Word.mono_l k
  ·intro y0 y1 y2 y3
   unfold spec_l71Word.l0
   repeat' first
   | (with_reducible exact ih0 _ _ _ _)
   | (with_reducible exact spec_l6Many.mono _ _ _)
   | (with_reducible exact spec_l6Rd_pick.mono _ _ _ _)
   | (with_reducible exact LeO.refl _)
   | (with_reducible exact LeO.none _)
   | (with_reducible refine LeO.ite ?_ ?_)
   | (with_reducible refine LeO.bind ?_ (fun _ => ?_))
   | exact ih0 _ _ _ _
   | exact spec_l6Many.mono _ _ _
   | exact spec_l6Rd_pick.mono _ _ _ _
   | exact LeO.none _
   | refine LeO.ite ?_ ?_
   | refine LeO.bind ?_ (fun _ => ?_)
theorem spec_l71Word.mono : ∀ a0 a1 k, LeO (spec_l71Word.f k a0 a1) (spec_l71Word.f (k + 1) a0 a1) := by
 intro a0 a1 k
 have ih0 := spec_l71Word.mono_l k
 unfold spec_l71Word.f
 repeat' first
   | (with_reducible exact ih0 _ _ _ _)
   | (with_reducible exact spec_l6Many.mono _ _ _)
   | (with_reducible exact spec_l6Rd_pick.mono _ _ _ _)
   | (with_reducible exact LeO.refl _)
   | (with_reducible exact LeO.none _)
   | (with_reducible refine LeO.ite ?_ ?_)
   | (with_reducible refine LeO.bind ?_ (fun _ => ?_))
   | exact ih0 _ _ _ _
   | exact spec_l6Many.mono _ _ _
   | exact spec_l6Rd_pick.mono _ _ _ _
   | exact LeO.none _
   | refine LeO.ite ?_ ?_
   | refine LeO.bind ?_ (fun _ => ?_)
set_option maxHeartbeats 8000000 in
set_option maxRecDepth 100000 in
theorem spec_l71Word.calls (k : Nat) (g : Nat) (s0_0 : List Int) (s0_1 : Int) (r1 : ByteArray) (r2 : Int) (w0 w : World) (hI : IsS85 w0 w g s0_0 s0_1) (hB : Below w0.heap.size w0 w) (h : spec_l71Word.f k s0_0 s0_1 = some (r1, r2)) :
  Calls Try.prog 74 #[.pointer (some ⟨g, 0, none⟩)] w fun e w' => e = .returned (.string r1) ∧ IsS85 w0 w' g s0_0 r2 ∧ Below w0.heap.size w0 w' ∧ KeepBut w w' g none := by
 have HI0 := Aside0.mk hI
 have HK := Aside0.mk (KeepBut.refl w g none)
 have HL := Aside0.mk hB.size
 clear hI
 have HW0 := Aside0.mk hB.size
 have HB := Aside0.mk hB
 clear hB
 have H : ((spec_l6Rd_pick.f k s0_0 s0_1 9).bind fun bt165 => ((spec_l6Rd_pick.f k s0_0 bt165.2 6).bind fun bt167 => (spec_l71Word.l0 k (⟨#[]⟩ : ByteArray) (wrap64 (bt165.1 + (wrap64 ((wrap64 (Int.tdiv bt167.1 5)) * 8)))) s0_0 bt167.2))) = some (r1, r2) := h
 clear h
 replace H := Option.bind_eq_some_iff.mp H
 obtain ⟨⟨t165, t166⟩, A20, H⟩ := H
 replace H : ((spec_l6Rd_pick.f k s0_0 t166 6).bind fun bt167 => (spec_l71Word.l0 k (⟨#[]⟩ : ByteArray) (wrap64 (t165 + (wrap64 ((wrap64 (Int.tdiv bt167.1 5)) * 8)))) s0_0 bt167.2)) = some (r1, r2) := H
 have A2 := Aside0.mk A20
 clear A20
 replace H := Option.bind_eq_some_iff.mp H
 obtain ⟨⟨t167, t168⟩, A30, H⟩ := H
 replace H : (spec_l71Word.l0 k (⟨#[]⟩ : ByteArray) (wrap64 (t165 + (wrap64 ((wrap64 (Int.tdiv t167 5)) * 8)))) s0_0 t168) = some (r1, r2) := H
 have A3 := Aside0.mk A30
 clear A30
 have H' := Aside0.mk H
 clear H
 go_enter Try.func74, Try.ntmps74
 go_wp2_with (first | ((with_reducible refine gq 47 rfl ?_); refine gl (some 7) Try.func47 #[.pointer (some ⟨g, 0, none⟩), .int .i64 9] ?_; (with_reducible refine (spec_l6Rd_pick.calls k g s0_0 s0_1 9 t165 t166 w0 _ ?side1 ?side2 A2.out).mono ?_); (case side1 => exact zi85 HI0); (case side2 => exact zg85 HB); rintro e w4 ⟨rfl, hi, hb, hk⟩; refine ⟨_, rfl, ?_⟩; replace HK := Aside0.mk (KeepBut.trans (zh HK) hk (.inl rfl)); replace HB := Aside0.mk (hb); replace HI0 := Aside0.mk (hi); (try clear hb); (try clear hk); (try clear hi)) | ((with_reducible refine gq 47 rfl ?_); refine gl (some 9) Try.func47 #[.pointer (some ⟨g, 0, none⟩), .int .i64 6] ?_; (with_reducible refine (spec_l6Rd_pick.calls k g s0_0 t166 6 t167 t168 w0 _ ?side1 ?side2 A3.out).mono ?_); (case side1 => exact zi85 HI0); (case side2 => exact zg85 HB); rintro e w5 ⟨rfl, hi, hb, hk⟩; refine ⟨_, rfl, ?_⟩; replace HK := Aside0.mk (KeepBut.trans (zh HK) hk (.inl rfl)); replace HB := Aside0.mk (hb); replace HI0 := Aside0.mk (hi); (try clear hb); (try clear hk); (try clear hi)))
 go_loopg [3, 4] k (fun kq v3 v4 w' => ∃ (x3_1 : ByteArray) (x4_1 : Int) (x1001_1 : Int), v3 = .string x3_1 ∧ v4 = .int .i64 x4_1 ∧ Aside0 (spec_l71Word.l0 kq x3_1 x4_1 s0_0 x1001_1 = some (r1, r2)) ∧ Aside0 (kq ≤ k) ∧ Aside0 (IsS85 w0 w' g s0_0 x1001_1) ∧ Aside0 (KeepBut w w' g none) ∧ Aside0 (Below w0.heap.size w0 w'))
 case atStart => exact ⟨((⟨#[]⟩ : ByteArray)), (wrap64 (t165 + (wrap64 ((wrap64 (Int.tdiv t167 5)) * 8)))), (t168), zs, zs, H', ⟨Nat.le_refl _⟩, ⟨zi85 HI0⟩, ⟨zh HK⟩, ⟨zg85 HB⟩⟩
 case round =>
  clear H'
  try clear p2
  try clear c4
  obtain ⟨x3_1, x4_1, x1001_1, rfl, rfl, HA, HK1, HI0, HK, HB⟩ := hrel
  cases gk with
  | zero => exact absurd HA.out (by simp [spec_l71Word.l0])
  | succ k1 =>
   have H := HA.out
   clear HA
   simp only [spec_l71Word.l0] at H
   by_cases c6 : x4_1 > 0
   ·rw [if_pos c6] at H
    have c6b0 : decide (0 < x4_1) = true := decide_eq_true c6
    clear c6
    replace H := Option.bind_eq_some_iff.mp H
    obtain ⟨⟨t169, t170⟩, A70, H⟩ := H
    replace H : ((spec_l6Rd_pick.f k1 s0_0 t170 4).bind fun bt171 => (if bt171.1 = 0 then ((spec_l6Rd_pick.f k1 s0_0 bt171.2 39).bind fun bt173 => (if 0 ≤ bt173.1 then (if bt173.1 < 39 then ((spec_l1Byte.f (wrap64 (bt (⟨#[101, 116, 97, 111, 105, 110, 115, 114, 104, 108, 48, 49, 50, 51, 52, 53, 54, 55, 56, 57, 100, 99, 117, 109, 102, 112, 103, 119, 121, 98, 118, 107, 120, 106, 113, 122, 58, 47, 45]⟩ : ByteArray) bt173.1))).bind fun t175 => (if x3_1.size + t175.size ≤ 9223372036854775807 then (spec_l71Word.l0 k1 (x3_1 ++ t175) (wrap64 (x4_1 - 1)) s0_0 bt173.2) else (none))) else (none)) else (none))) else (if 0 ≤ t169 then (if t169 < 39 then ((spec_l1Byte.f (wrap64 (bt (⟨#[101, 116, 97, 111, 105, 110, 115, 114, 104, 108, 48, 49, 50, 51, 52, 53, 54, 55, 56, 57, 100, 99, 117, 109, 102, 112, 103, 119, 121, 98, 118, 107, 120, 106, 113, 122, 58, 47, 45]⟩ : ByteArray) t169))).bind fun t176 => (if x3_1.size + t176.size ≤ 9223372036854775807 then (spec_l71Word.l0 k1 (x3_1 ++ t176) (wrap64 (x4_1 - 1)) s0_0 bt171.2) else (none))) else (none)) else (none)))) = some (r1, r2) := H
    have A7 := Aside0.mk A70
    clear A70
    replace H := Option.bind_eq_some_iff.mp H
    obtain ⟨⟨t171, t172⟩, A80, H⟩ := H
    replace H : (if t171 = 0 then ((spec_l6Rd_pick.f k1 s0_0 t172 39).bind fun bt173 => (if 0 ≤ bt173.1 then (if bt173.1 < 39 then ((spec_l1Byte.f (wrap64 (bt (⟨#[101, 116, 97, 111, 105, 110, 115, 114, 104, 108, 48, 49, 50, 51, 52, 53, 54, 55, 56, 57, 100, 99, 117, 109, 102, 112, 103, 119, 121, 98, 118, 107, 120, 106, 113, 122, 58, 47, 45]⟩ : ByteArray) bt173.1))).bind fun t175 => (if x3_1.size + t175.size ≤ 9223372036854775807 then (spec_l71Word.l0 k1 (x3_1 ++ t175) (wrap64 (x4_1 - 1)) s0_0 bt173.2) else (none))) else (none)) else (none))) else (if 0 ≤ t169 then (if t169 < 39 then ((spec_l1Byte.f (wrap64 (bt (⟨#[101, 116, 97, 111, 105, 110, 115, 114, 104, 108, 48, 49, 50, 51, 52, 53, 54, 55, 56, 57, 100, 99, 117, 109, 102, 112, 103, 119, 121, 98, 118, 107, 120, 106, 113, 122, 58, 47, 45]⟩ : ByteArray) t169))).bind fun t176 => (if x3_1.size + t176.size ≤ 9223372036854775807 then (spec_l71Word.l0 k1 (x3_1 ++ t176) (wrap64 (x4_1 - 1)) s0_0 t172) else (none))) else (none)) else (none))) = some (r1, r2) := H
    have A8 := Aside0.mk A80
    clear A80
    have HC9 := Aside0.mk H
    clear H
    go_upto_if 21 with (first | ((with_reducible refine gq 47 rfl ?_); refine gl (some 18) Try.func47 #[.pointer (some ⟨g, 0, none⟩), .int .i64 24] ?_; (with_reducible refine (spec_l6Rd_pick.calls k1 g s0_0 x1001_1 24 t169 t170 w0 _ ?side1 ?side2 A7.out).mono ?_); (case side1 => exact zi85 HI0); (case side2 => exact zg85 HB); rintro e w10 ⟨rfl, hi, hb, hk⟩; refine ⟨_, rfl, ?_⟩; replace HK := Aside0.mk (KeepBut.trans (zh HK) hk (.inl rfl)); replace HB := Aside0.mk (hb); replace HI0 := Aside0.mk (hi); (try clear hb); (try clear hk); (try clear hi)) | ((with_reducible refine gq 47 rfl ?_); refine gl (some 20) Try.func47 #[.pointer (some ⟨g, 0, none⟩), .int .i64 4] ?_; (with_reducible refine (spec_l6Rd_pick.calls k1 g s0_0 t170 4 t171 t172 w0 _ ?side1 ?side2 A8.out).mono ?_); (case side1 => exact zi85 HI0); (case side2 => exact zg85 HB); rintro e w11 ⟨rfl, hi, hb, hk⟩; refine ⟨_, rfl, ?_⟩; replace HK := Aside0.mk (KeepBut.trans (zh HK) hk (.inl rfl)); replace HB := Aside0.mk (hb); replace HI0 := Aside0.mk (hi); (try clear hb); (try clear hk); (try clear hi)))
    (try simp only [Act.put, s1, s2, s3])
    have H := HC9.out
    clear HC9
    by_cases c12 : t171 = 0
    ·rw [if_pos c12] at H
     have c12b0 : (t171 == 0) = true := beq_iff_eq.mpr c12
     have c12b1 : (t171 != 0) = false := bne_eq_false_iff_eq.mpr c12
     clear c12
     (first | rw [c12b0] | rw [c12b1] | (simp only [i64_w, i32_w]; rw [c12b0]) | skip)
     replace H := Option.bind_eq_some_iff.mp H
     obtain ⟨⟨t173, t174⟩, A130, H⟩ := H
     replace H : (if 0 ≤ t173 then (if t173 < 39 then ((spec_l1Byte.f (wrap64 (bt (⟨#[101, 116, 97, 111, 105, 110, 115, 114, 104, 108, 48, 49, 50, 51, 52, 53, 54, 55, 56, 57, 100, 99, 117, 109, 102, 112, 103, 119, 121, 98, 118, 107, 120, 106, 113, 122, 58, 47, 45]⟩ : ByteArray) t173))).bind fun t175 => (if x3_1.size + t175.size ≤ 9223372036854775807 then (spec_l71Word.l0 k1 (x3_1 ++ t175) (wrap64 (x4_1 - 1)) s0_0 t174) else (none))) else (none)) else (none)) = some (r1, r2) := H
     have A13 := Aside0.mk A130
     clear A130
     by_cases c14 : 0 ≤ t173
     ·rw [if_pos c14] at H
      have c14b0 : decide (0 ≤ t173) = true := decide_eq_true c14
      clear c14
      by_cases c15 : t173 < 39
      ·rw [if_pos c15] at H
       have c15b0 : decide (t173 < 39) = true := decide_eq_true c15
       clear c15
       replace H := Option.bind_eq_some_iff.mp H
       obtain ⟨t175, A170, H⟩ := H
       replace H : (if x3_1.size + t175.size ≤ 9223372036854775807 then (spec_l71Word.l0 k1 (x3_1 ++ t175) (wrap64 (x4_1 - 1)) s0_0 t174) else (none)) = some (r1, r2) := H
       have A17 := Aside0.mk A170
       clear A170
       by_cases c18 : x3_1.size + t175.size ≤ 9223372036854775807
       ·rw [if_pos c18] at H
        have c18b0 := eq_true c18
        have c18b1 : decide (x3_1.size + t175.size ≤ 9223372036854775807) = true := decide_eq_true c18
        try have c18b2 : (9223372036854775807 < x3_1.size + t175.size) = False := eq_false (Nat.not_lt.2 c18)
        have H' := Aside0.mk H
        clear H
        go_wp2_with (first | ((with_reducible refine gq 47 rfl ?_); refine gl (some 23) Try.func47 #[.pointer (some ⟨g, 0, none⟩), .int .i64 39] ?_; (with_reducible refine (spec_l6Rd_pick.calls k1 g s0_0 t172 39 t173 t174 w0 _ ?side1 ?side2 A13.out).mono ?_); (case side1 => exact zi85 HI0); (case side2 => exact zg85 HB); rintro e w19 ⟨rfl, hi, hb, hk⟩; refine ⟨_, rfl, ?_⟩; replace HK := Aside0.mk (KeepBut.trans (zh HK) hk (.inl rfl)); replace HB := Aside0.mk (hb); replace HI0 := Aside0.mk (hi); (try clear hb); (try clear hk); (try clear hi); have p16 : 0 ≤ (t173 : Int) := of_decide_eq_true za; have q16 : t173 < (39 : Int) := of_decide_eq_true za; have hx16 := bt_at (⟨#[101, 116, 97, 111, 105, 110, 115, 114, 104, 108, 48, 49, 50, 51, 52, 53, 54, 55, 56, 57, 100, 99, 117, 109, 102, 112, 103, 119, 121, 98, 118, 107, 120, 106, 113, 122, 58, 47, 45]⟩ : ByteArray) t173; replace p16 := eq_true p16; replace q16 := eq_true q16) | ((with_reducible refine gq 86 rfl ?_); refine gl (some 28) Try.func86 #[.int .i64 (wrap64 (bt (⟨#[101, 116, 97, 111, 105, 110, 115, 114, 104, 108, 48, 49, 50, 51, 52, 53, 54, 55, 56, 57, 100, 99, 117, 109, 102, 112, 103, 119, 121, 98, 118, 107, 120, 106, 113, 122, 58, 47, 45]⟩ : ByteArray) t173))] ?_; (with_reducible refine (spec_l1Byte.calls (wrap64 (bt (⟨#[101, 116, 97, 111, 105, 110, 115, 114, 104, 108, 48, 49, 50, 51, 52, 53, 54, 55, 56, 57, 100, 99, 117, 109, 102, 112, 103, 119, 121, 98, 118, 107, 120, 106, 113, 122, 58, 47, 45]⟩ : ByteArray) t173)) t175 _ A17.out).mono ?_); rintro e w20 ⟨rfl, hb⟩; refine ⟨_, rfl, ?_⟩; replace HI0 := Aside0.mk (IsS85.below (zi85 HI0) hb); replace HK := Aside0.mk (KeepBut.trans (zh HK) (KeepBut.of_below hb g none) (.inl rfl)); replace HB := Aside0.mk (below_step (zg85 HB) hb); (try clear hb)))
        go_roundg k1
        case measure => have := HK1.out; omega
        case rel => exact ⟨(x3_1 ++ t175), (wrap64 (x4_1 - 1)), (t174), zs, zs, H', ⟨by have := HK1.out; omega⟩, ⟨zi85 HI0⟩, ⟨zh HK⟩, ⟨zg85 HB⟩⟩
       ·rw [if_neg c18] at H
        exact absurd H (by simp)
      ·rw [if_neg c15] at H
       exact absurd H (by simp)
     ·rw [if_neg c14] at H
      exact absurd H (by simp)
    ·rw [if_neg c12] at H
     have c12b0 : (t171 == 0) = false := beq_eq_false_iff_ne.mpr c12
     have c12b1 : (t171 != 0) = true := bne_iff_ne.mpr c12
     (first | rw [c12b0] | rw [c12b1] | (simp only [i64_w, i32_w]; rw [c12b0]) | skip)
     by_cases c21 : 0 ≤ t169
     ·rw [if_pos c21] at H
      have c21b0 : decide (0 ≤ t169) = true := decide_eq_true c21
      clear c21
      by_cases c22 : t169 < 39
      ·rw [if_pos c22] at H
       have c22b0 : decide (t169 < 39) = true := decide_eq_true c22
       clear c22
       replace H := Option.bind_eq_some_iff.mp H
       obtain ⟨t176, A240, H⟩ := H
       replace H : (if x3_1.size + t176.size ≤ 9223372036854775807 then (spec_l71Word.l0 k1 (x3_1 ++ t176) (wrap64 (x4_1 - 1)) s0_0 t172) else (none)) = some (r1, r2) := H
       have A24 := Aside0.mk A240
       clear A240
       by_cases c25 : x3_1.size + t176.size ≤ 9223372036854775807
       ·rw [if_pos c25] at H
        have c25b0 := eq_true c25
        have c25b1 : decide (x3_1.size + t176.size ≤ 9223372036854775807) = true := decide_eq_true c25
        try have c25b2 : (9223372036854775807 < x3_1.size + t176.size) = False := eq_false (Nat.not_lt.2 c25)
        have H' := Aside0.mk H
        clear H
        have p23 : 0 ≤ (t169 : Int) := of_decide_eq_true za
        have q23 : t169 < (39 : Int) := of_decide_eq_true za
        have hx23 := bt_at (⟨#[101, 116, 97, 111, 105, 110, 115, 114, 104, 108, 48, 49, 50, 51, 52, 53, 54, 55, 56, 57, 100, 99, 117, 109, 102, 112, 103, 119, 121, 98, 118, 107, 120, 106, 113, 122, 58, 47, 45]⟩ : ByteArray) t169
        replace p23 := eq_true p23
        replace q23 := eq_true q23
        go_wp2_with (first | ((with_reducible refine gq 86 rfl ?_); refine gl (some 28) Try.func86 #[.int .i64 (wrap64 (bt (⟨#[101, 116, 97, 111, 105, 110, 115, 114, 104, 108, 48, 49, 50, 51, 52, 53, 54, 55, 56, 57, 100, 99, 117, 109, 102, 112, 103, 119, 121, 98, 118, 107, 120, 106, 113, 122, 58, 47, 45]⟩ : ByteArray) t169))] ?_; (with_reducible refine (spec_l1Byte.calls (wrap64 (bt (⟨#[101, 116, 97, 111, 105, 110, 115, 114, 104, 108, 48, 49, 50, 51, 52, 53, 54, 55, 56, 57, 100, 99, 117, 109, 102, 112, 103, 119, 121, 98, 118, 107, 120, 106, 113, 122, 58, 47, 45]⟩ : ByteArray) t169)) t176 _ A24.out).mono ?_); rintro e w26 ⟨rfl, hb⟩; refine ⟨_, rfl, ?_⟩; replace HI0 := Aside0.mk (IsS85.below (zi85 HI0) hb); replace HK := Aside0.mk (KeepBut.trans (zh HK) (KeepBut.of_below hb g none) (.inl rfl)); replace HB := Aside0.mk (below_step (zg85 HB) hb); (try clear hb)))
        go_roundg k1
        case measure => have := HK1.out; omega
        case rel => exact ⟨(x3_1 ++ t176), (wrap64 (x4_1 - 1)), (t172), zs, zs, H', ⟨by have := HK1.out; omega⟩, ⟨zi85 HI0⟩, ⟨zh HK⟩, ⟨zg85 HB⟩⟩
       ·rw [if_neg c25] at H
        exact absurd H (by simp)
      ·rw [if_neg c22] at H
       exact absurd H (by simp)
     ·rw [if_neg c21] at H
      exact absurd H (by simp)
   ·rw [if_neg c6] at H
    have c6b0 : decide (0 < x4_1) = false := decide_eq_false c6
    clear c6
    replace H := Option.bind_eq_some_iff.mp H
    obtain ⟨⟨t177, t178⟩, A270, H⟩ := H
    replace H : (if t177 = 0 then (if x3_1.size + 1 ≤ 9223372036854775807 then (some (x3_1 ++ (⟨#[65]⟩ : ByteArray), t178)) else (none)) else (if t177 = 1 then ((spec_l6Rd_pick.f k1 s0_0 t178 4).bind fun bt179 => ((spec_l6Many.f k1 (⟨#[101]⟩ : ByteArray) (wrap64 (15 + bt179.1))).bind fun t181 => (some (t181, bt179.2)))) else (some (x3_1, t178)))) = some (r1, r2) := H
    have A27 := Aside0.mk A270
    clear A270
    by_cases c28 : t177 = 0
    ·rw [if_pos c28] at H
     have c28b0 : (t177 == 0) = true := beq_iff_eq.mpr c28
     have c28b1 : (t177 != 0) = false := bne_eq_false_iff_eq.mpr c28
     clear c28
     by_cases c29 : x3_1.size + 1 ≤ 9223372036854775807
     ·rw [if_pos c29] at H
      have c29b0 := eq_true c29
      have c29b1 : decide (x3_1.size + 1 ≤ 9223372036854775807) = true := decide_eq_true c29
      try have c29b2 : (9223372036854775807 < x3_1.size + 1) = False := eq_false (Nat.not_lt.2 c29)
      simp only [Option.some.injEq, Prod.mk.injEq] at H
      obtain ⟨rfl, rfl⟩ := H
      go_wp2_with (first | ((with_reducible refine gq 47 rfl ?_); refine gl (some 31) Try.func47 #[.pointer (some ⟨g, 0, none⟩), .int .i64 24] ?_; (with_reducible refine (spec_l6Rd_pick.calls k1 g s0_0 x1001_1 24 t177 t178 w0 _ ?side1 ?side2 A27.out).mono ?_); (case side1 => exact zi85 HI0); (case side2 => exact zg85 HB); rintro e w30 ⟨rfl, hi, hb, hk⟩; refine ⟨_, rfl, ?_⟩; replace HK := Aside0.mk (KeepBut.trans (zh HK) hk (.inl rfl)); replace HB := Aside0.mk (hb); replace HI0 := Aside0.mk (hi); (try clear hb); (try clear hk); (try clear hi)))
      go_ret
      exact ⟨ze, zi85 HI0, zg85 HB, zh HK⟩
     ·rw [if_neg c29] at H
      exact absurd H (by simp)
    ·rw [if_neg c28] at H
     have c28b0 : (t177 == 0) = false := beq_eq_false_iff_ne.mpr c28
     have c28b1 : (t177 != 0) = true := bne_iff_ne.mpr c28
     by_cases c31 : t177 = 1
     ·rw [if_pos c31] at H
      have c31b0 : (t177 == 1) = true := beq_iff_eq.mpr c31
      have c31b1 : (t177 != 1) = false := bne_eq_false_iff_eq.mpr c31
      clear c31
      replace H := Option.bind_eq_some_iff.mp H
      obtain ⟨⟨t179, t180⟩, A320, H⟩ := H
      replace H : ((spec_l6Many.f k1 (⟨#[101]⟩ : ByteArray) (wrap64 (15 + t179))).bind fun t181 => (some (t181, t180))) = some (r1, r2) := H
      have A32 := Aside0.mk A320
      clear A320
      replace H := Option.bind_eq_some_iff.mp H
      obtain ⟨t181, A330, H⟩ := H
      replace H : (some (t181, t180)) = some (r1, r2) := H
      have A33 := Aside0.mk A330
      clear A330
      simp only [Option.some.injEq, Prod.mk.injEq] at H
      obtain ⟨rfl, rfl⟩ := H
      go_wp2_with (first | ((with_reducible refine gq 47 rfl ?_); refine gl (some 31) Try.func47 #[.pointer (some ⟨g, 0, none⟩), .int .i64 24] ?_; (with_reducible refine (spec_l6Rd_pick.calls k1 g s0_0 x1001_1 24 t177 t178 w0 _ ?side1 ?side2 A27.out).mono ?_); (case side1 => exact zi85 HI0); (case side2 => exact zg85 HB); rintro e w34 ⟨rfl, hi, hb, hk⟩; refine ⟨_, rfl, ?_⟩; replace HK := Aside0.mk (KeepBut.trans (zh HK) hk (.inl rfl)); replace HB := Aside0.mk (hb); replace HI0 := Aside0.mk (hi); (try clear hb); (try clear hk); (try clear hi)) | ((with_reducible refine gq 47 rfl ?_); refine gl (some 39) Try.func47 #[.pointer (some ⟨g, 0, none⟩), .int .i64 4] ?_; (with_reducible refine (spec_l6Rd_pick.calls k1 g s0_0 t178 4 t179 t180 w0 _ ?side1 ?side2 A32.out).mono ?_); (case side1 => exact zi85 HI0); (case side2 => exact zg85 HB); rintro e w35 ⟨rfl, hi, hb, hk⟩; refine ⟨_, rfl, ?_⟩; replace HK := Aside0.mk (KeepBut.trans (zh HK) hk (.inl rfl)); replace HB := Aside0.mk (hb); replace HI0 := Aside0.mk (hi); (try clear hb); (try clear hk); (try clear hi)) | ((with_reducible refine gq 87 rfl ?_); refine gl (some 41) Try.func87 #[.string (⟨#[101]⟩ : ByteArray), .int .i64 (wrap64 (15 + t179))] ?_; (with_reducible refine (spec_l6Many.calls k1 (⟨#[101]⟩ : ByteArray) (wrap64 (15 + t179)) t181 _ A33.out).mono ?_); rintro e w' ⟨rfl, ⟨nd, rfl⟩⟩; refine ⟨_, rfl, ?_⟩))
      go_ret
      exact ⟨ze, zi85 HI0, zg85 HB, zh HK⟩
     ·rw [if_neg c31] at H
      have c31b0 : (t177 == 1) = false := beq_eq_false_iff_ne.mpr c31
      have c31b1 : (t177 != 1) = true := bne_iff_ne.mpr c31
      simp only [Option.some.injEq, Prod.mk.injEq] at H
      obtain ⟨rfl, rfl⟩ := H
      go_wp2_with (first | ((with_reducible refine gq 47 rfl ?_); refine gl (some 31) Try.func47 #[.pointer (some ⟨g, 0, none⟩), .int .i64 24] ?_; (with_reducible refine (spec_l6Rd_pick.calls k1 g s0_0 x1001_1 24 t177 t178 w0 _ ?side1 ?side2 A27.out).mono ?_); (case side1 => exact zi85 HI0); (case side2 => exact zg85 HB); rintro e w36 ⟨rfl, hi, hb, hk⟩; refine ⟨_, rfl, ?_⟩; replace HK := Aside0.mk (KeepBut.trans (zh HK) hk (.inl rfl)); replace HB := Aside0.mk (hb); replace HI0 := Aside0.mk (hi); (try clear hb); (try clear hk); (try clear hi)))
      go_ret
      exact ⟨ze, zi85 HI0, zg85 HB, zh HK⟩

/-! ### spec_l71Field: function 58 -/
-- thin
def spec_l71Field.f (k : Nat) (s0_0 : List Int) (s0_1 : Int) : Option (ByteArray × ByteArray × Bool × Int) := (spec_l6Rd_of.f k s0_0 s0_1 (([(⟨#[58, 112, 97, 116, 104]⟩ : ByteArray), (⟨#[58, 115, 116, 97, 116, 117, 115]⟩ : ByteArray), (⟨#[107, 105, 110, 100]⟩ : ByteArray), (⟨#[115, 105, 122, 101]⟩ : ByteArray), (⟨#[116, 101]⟩ : ByteArray), (⟨#[97]⟩ : ByteArray), (⟨#[98]⟩ : ByteArray), (⟨#[107, 101, 121]⟩ : ByteArray)] : List ByteArray))).bind fun bt186 => ((spec_l6Rd_of.f k s0_0 bt186.2 (([(⟨#[]⟩ : ByteArray), (⟨#[48]⟩ : ByteArray), (⟨#[49, 50]⟩ : ByteArray), (⟨#[116, 101, 120, 116]⟩ : ByteArray), (⟨#[116, 114, 97, 105, 108, 101, 114, 115]⟩ : ByteArray), (⟨#[47, 101, 99, 104, 111]⟩ : ByteArray), (⟨#[120]⟩ : ByteArray), (⟨#[121, 49]⟩ : ByteArray), (⟨#[97, 98, 99]⟩ : ByteArray)] : List ByteArray))).bind fun bt191 => ((spec_l6Rd_pick.f k s0_0 bt191.2 8).bind fun bt194 => ((spec_l6Rd_pick.f k s0_0 bt194.2 24).bind fun bt196 => (if bt196.1 = 0 then ((spec_l6Rd_of.f k s0_0 bt196.2 (([(⟨#[]⟩ : ByteArray), (⟨#[65]⟩ : ByteArray), (⟨#[97, 97, 97, 97, 97, 97, 97, 97, 97, 97, 97, 97, 97, 97, 97, 97, 97]⟩ : ByteArray)] : List ByteArray))).bind fun bt201 => (some (bt201.1, bt191.1, (bt194.1 == 0), bt201.2))) else (if bt196.1 = 1 then ((spec_l71Word.f k s0_0 bt196.2).bind fun bt203 => (some (bt186.1, bt203.1, (bt194.1 == 0), bt203.2))) else (some (bt186.1, bt191.1, (bt194.1 == 0), bt196.2)))))))
theorem spec_l71Field.mono : ∀ a0 a1 k, LeO (spec_l71Field.f k a0 a1) (spec_l71Field.f (k + 1) a0 a1) := by
 intro a0 a1 k
 unfold spec_l71Field.f
 repeat' first
   | (with_reducible exact spec_l6Rd_of.mono _ _ _ _)
   | (with_reducible exact spec_l6Rd_pick.mono _ _ _ _)
   | (with_reducible exact spec_l71Word.mono _ _ _)
   | (with_reducible exact LeO.refl _)
   | (with_reducible exact LeO.none _)
   | (with_reducible refine LeO.ite ?_ ?_)
   | (with_reducible refine LeO.bind ?_ (fun _ => ?_))
   | exact spec_l6Rd_of.mono _ _ _ _
   | exact spec_l6Rd_pick.mono _ _ _ _
   | exact spec_l71Word.mono _ _ _
   | exact LeO.none _
   | refine LeO.ite ?_ ?_
   | refine LeO.bind ?_ (fun _ => ?_)
set_option maxHeartbeats 8000000 in
set_option maxRecDepth 100000 in
theorem spec_l71Field.calls (k : Nat) (g : Nat) (s0_0 : List Int) (s0_1 : Int) (r1 : ByteArray) (r2 : ByteArray) (r3 : Bool) (r4 : Int) (w0 w : World) (hI : IsS85 w0 w g s0_0 s0_1) (hB : Below w0.heap.size w0 w) (h : spec_l71Field.f k s0_0 s0_1 = some (r1, r2, r3, r4)) :
  Calls Try.prog 58 #[.pointer (some ⟨g, 0, none⟩)] w fun e w' => e = .returned (.agg #[.string r1, .string r2, .bool r3]) ∧ IsS85 w0 w' g s0_0 r4 ∧ Below w0.heap.size w0 w' ∧ KeepBut w w' g none := by
 have hu36 := Try.underlying36
 have HI0 := Aside0.mk hI
 have HK := Aside0.mk (KeepBut.refl w g none)
 have HL := Aside0.mk hB.size
 clear hI
 have HW0 := Aside0.mk hB.size
 have HB := Aside0.mk hB
 clear hB
 have H : ((spec_l6Rd_of.f k s0_0 s0_1 (([(⟨#[58, 112, 97, 116, 104]⟩ : ByteArray), (⟨#[58, 115, 116, 97, 116, 117, 115]⟩ : ByteArray), (⟨#[107, 105, 110, 100]⟩ : ByteArray), (⟨#[115, 105, 122, 101]⟩ : ByteArray), (⟨#[116, 101]⟩ : ByteArray), (⟨#[97]⟩ : ByteArray), (⟨#[98]⟩ : ByteArray), (⟨#[107, 101, 121]⟩ : ByteArray)] : List ByteArray))).bind fun bt186 => ((spec_l6Rd_of.f k s0_0 bt186.2 (([(⟨#[]⟩ : ByteArray), (⟨#[48]⟩ : ByteArray), (⟨#[49, 50]⟩ : ByteArray), (⟨#[116, 101, 120, 116]⟩ : ByteArray), (⟨#[116, 114, 97, 105, 108, 101, 114, 115]⟩ : ByteArray), (⟨#[47, 101, 99, 104, 111]⟩ : ByteArray), (⟨#[120]⟩ : ByteArray), (⟨#[121, 49]⟩ : ByteArray), (⟨#[97, 98, 99]⟩ : ByteArray)] : List ByteArray))).bind fun bt191 => ((spec_l6Rd_pick.f k s0_0 bt191.2 8).bind fun bt194 => ((spec_l6Rd_pick.f k s0_0 bt194.2 24).bind fun bt196 => (if bt196.1 = 0 then ((spec_l6Rd_of.f k s0_0 bt196.2 (([(⟨#[]⟩ : ByteArray), (⟨#[65]⟩ : ByteArray), (⟨#[97, 97, 97, 97, 97, 97, 97, 97, 97, 97, 97, 97, 97, 97, 97, 97, 97]⟩ : ByteArray)] : List ByteArray))).bind fun bt201 => (some (bt201.1, bt191.1, (bt194.1 == 0), bt201.2))) else (if bt196.1 = 1 then ((spec_l71Word.f k s0_0 bt196.2).bind fun bt203 => (some (bt186.1, bt203.1, (bt194.1 == 0), bt203.2))) else (some (bt186.1, bt191.1, (bt194.1 == 0), bt196.2)))))))) = some (r1, r2, r3, r4) := h
 clear h
 obtain ⟨y183, hy183⟩ : ∃ y_ : List ByteArray, y_ = (([(⟨#[58, 112, 97, 116, 104]⟩ : ByteArray), (⟨#[58, 115, 116, 97, 116, 117, 115]⟩ : ByteArray), (⟨#[107, 105, 110, 100]⟩ : ByteArray), (⟨#[115, 105, 122, 101]⟩ : ByteArray), (⟨#[116, 101]⟩ : ByteArray), (⟨#[97]⟩ : ByteArray), (⟨#[98]⟩ : ByteArray), (⟨#[107, 101, 121]⟩ : ByteArray)] : List ByteArray)) := ⟨_, rfl⟩
 replace H : ((spec_l6Rd_of.f k s0_0 s0_1 y183).bind fun bt186 => ((spec_l6Rd_of.f k s0_0 bt186.2 (([(⟨#[]⟩ : ByteArray), (⟨#[48]⟩ : ByteArray), (⟨#[49, 50]⟩ : ByteArray), (⟨#[116, 101, 120, 116]⟩ : ByteArray), (⟨#[116, 114, 97, 105, 108, 101, 114, 115]⟩ : ByteArray), (⟨#[47, 101, 99, 104, 111]⟩ : ByteArray), (⟨#[120]⟩ : ByteArray), (⟨#[121, 49]⟩ : ByteArray), (⟨#[97, 98, 99]⟩ : ByteArray)] : List ByteArray))).bind fun bt191 => ((spec_l6Rd_pick.f k s0_0 bt191.2 8).bind fun bt194 => ((spec_l6Rd_pick.f k s0_0 bt194.2 24).bind fun bt196 => (if bt196.1 = 0 then ((spec_l6Rd_of.f k s0_0 bt196.2 (([(⟨#[]⟩ : ByteArray), (⟨#[65]⟩ : ByteArray), (⟨#[97, 97, 97, 97, 97, 97, 97, 97, 97, 97, 97, 97, 97, 97, 97, 97, 97]⟩ : ByteArray)] : List ByteArray))).bind fun bt201 => (some (bt201.1, bt191.1, (bt194.1 == 0), bt201.2))) else (if bt196.1 = 1 then ((spec_l71Word.f k s0_0 bt196.2).bind fun bt203 => (some (bt186.1, bt203.1, (bt194.1 == 0), bt203.2))) else (some (bt186.1, bt191.1, (bt194.1 == 0), bt196.2)))))))) = some (r1, r2, r3, r4) := by first | (rw [hy183]; with_reducible exact H) | (have H2_ := (Option.bind_some _ _).symm.trans H; rw [hy183]; with_reducible exact H2_) | (have H2_ := (Option.bind_some _ _).symm.trans H; with_reducible exact H2_) | with_reducible exact H | (rw [hy183]; exact H) | exact H
 have Ny183 := Aside0.mk hy183
 clear hy183
 replace H := Option.bind_eq_some_iff.mp H
 obtain ⟨⟨t186, t187⟩, A20, H⟩ := H
 replace H : ((spec_l6Rd_of.f k s0_0 t187 (([(⟨#[]⟩ : ByteArray), (⟨#[48]⟩ : ByteArray), (⟨#[49, 50]⟩ : ByteArray), (⟨#[116, 101, 120, 116]⟩ : ByteArray), (⟨#[116, 114, 97, 105, 108, 101, 114, 115]⟩ : ByteArray), (⟨#[47, 101, 99, 104, 111]⟩ : ByteArray), (⟨#[120]⟩ : ByteArray), (⟨#[121, 49]⟩ : ByteArray), (⟨#[97, 98, 99]⟩ : ByteArray)] : List ByteArray))).bind fun bt191 => ((spec_l6Rd_pick.f k s0_0 bt191.2 8).bind fun bt194 => ((spec_l6Rd_pick.f k s0_0 bt194.2 24).bind fun bt196 => (if bt196.1 = 0 then ((spec_l6Rd_of.f k s0_0 bt196.2 (([(⟨#[]⟩ : ByteArray), (⟨#[65]⟩ : ByteArray), (⟨#[97, 97, 97, 97, 97, 97, 97, 97, 97, 97, 97, 97, 97, 97, 97, 97, 97]⟩ : ByteArray)] : List ByteArray))).bind fun bt201 => (some (bt201.1, bt191.1, (bt194.1 == 0), bt201.2))) else (if bt196.1 = 1 then ((spec_l71Word.f k s0_0 bt196.2).bind fun bt203 => (some (t186, bt203.1, (bt194.1 == 0), bt203.2))) else (some (t186, bt191.1, (bt194.1 == 0), bt196.2))))))) = some (r1, r2, r3, r4) := H
 have A2 := Aside0.mk A20
 clear A20
 obtain ⟨y188, hy188⟩ : ∃ y_ : List ByteArray, y_ = (([(⟨#[]⟩ : ByteArray), (⟨#[48]⟩ : ByteArray), (⟨#[49, 50]⟩ : ByteArray), (⟨#[116, 101, 120, 116]⟩ : ByteArray), (⟨#[116, 114, 97, 105, 108, 101, 114, 115]⟩ : ByteArray), (⟨#[47, 101, 99, 104, 111]⟩ : ByteArray), (⟨#[120]⟩ : ByteArray), (⟨#[121, 49]⟩ : ByteArray), (⟨#[97, 98, 99]⟩ : ByteArray)] : List ByteArray)) := ⟨_, rfl⟩
 replace H : ((spec_l6Rd_of.f k s0_0 t187 y188).bind fun bt191 => ((spec_l6Rd_pick.f k s0_0 bt191.2 8).bind fun bt194 => ((spec_l6Rd_pick.f k s0_0 bt194.2 24).bind fun bt196 => (if bt196.1 = 0 then ((spec_l6Rd_of.f k s0_0 bt196.2 (([(⟨#[]⟩ : ByteArray), (⟨#[65]⟩ : ByteArray), (⟨#[97, 97, 97, 97, 97, 97, 97, 97, 97, 97, 97, 97, 97, 97, 97, 97, 97]⟩ : ByteArray)] : List ByteArray))).bind fun bt201 => (some (bt201.1, bt191.1, (bt194.1 == 0), bt201.2))) else (if bt196.1 = 1 then ((spec_l71Word.f k s0_0 bt196.2).bind fun bt203 => (some (t186, bt203.1, (bt194.1 == 0), bt203.2))) else (some (t186, bt191.1, (bt194.1 == 0), bt196.2))))))) = some (r1, r2, r3, r4) := by first | (rw [hy188]; with_reducible exact H) | (have H2_ := (Option.bind_some _ _).symm.trans H; rw [hy188]; with_reducible exact H2_) | (have H2_ := (Option.bind_some _ _).symm.trans H; with_reducible exact H2_) | with_reducible exact H | (rw [hy188]; exact H) | exact H
 have Ny188 := Aside0.mk hy188
 clear hy188
 replace H := Option.bind_eq_some_iff.mp H
 obtain ⟨⟨t191, t192⟩, A30, H⟩ := H
 replace H : ((spec_l6Rd_pick.f k s0_0 t192 8).bind fun bt194 => ((spec_l6Rd_pick.f k s0_0 bt194.2 24).bind fun bt196 => (if bt196.1 = 0 then ((spec_l6Rd_of.f k s0_0 bt196.2 (([(⟨#[]⟩ : ByteArray), (⟨#[65]⟩ : ByteArray), (⟨#[97, 97, 97, 97, 97, 97, 97, 97, 97, 97, 97, 97, 97, 97, 97, 97, 97]⟩ : ByteArray)] : List ByteArray))).bind fun bt201 => (some (bt201.1, t191, (bt194.1 == 0), bt201.2))) else (if bt196.1 = 1 then ((spec_l71Word.f k s0_0 bt196.2).bind fun bt203 => (some (t186, bt203.1, (bt194.1 == 0), bt203.2))) else (some (t186, t191, (bt194.1 == 0), bt196.2)))))) = some (r1, r2, r3, r4) := H
 have A3 := Aside0.mk A30
 clear A30
 replace H := Option.bind_eq_some_iff.mp H
 obtain ⟨⟨t194, t195⟩, A40, H⟩ := H
 replace H : ((spec_l6Rd_pick.f k s0_0 t195 24).bind fun bt196 => (if bt196.1 = 0 then ((spec_l6Rd_of.f k s0_0 bt196.2 (([(⟨#[]⟩ : ByteArray), (⟨#[65]⟩ : ByteArray), (⟨#[97, 97, 97, 97, 97, 97, 97, 97, 97, 97, 97, 97, 97, 97, 97, 97, 97]⟩ : ByteArray)] : List ByteArray))).bind fun bt201 => (some (bt201.1, t191, (t194 == 0), bt201.2))) else (if bt196.1 = 1 then ((spec_l71Word.f k s0_0 bt196.2).bind fun bt203 => (some (t186, bt203.1, (t194 == 0), bt203.2))) else (some (t186, t191, (t194 == 0), bt196.2))))) = some (r1, r2, r3, r4) := H
 have A4 := Aside0.mk A40
 clear A40
 replace H := Option.bind_eq_some_iff.mp H
 obtain ⟨⟨t196, t197⟩, A50, H⟩ := H
 replace H : (if t196 = 0 then ((spec_l6Rd_of.f k s0_0 t197 (([(⟨#[]⟩ : ByteArray), (⟨#[65]⟩ : ByteArray), (⟨#[97, 97, 97, 97, 97, 97, 97, 97, 97, 97, 97, 97, 97, 97, 97, 97, 97]⟩ : ByteArray)] : List ByteArray))).bind fun bt201 => (some (bt201.1, t191, (t194 == 0), bt201.2))) else (if t196 = 1 then ((spec_l71Word.f k s0_0 t197).bind fun bt203 => (some (t186, bt203.1, (t194 == 0), bt203.2))) else (some (t186, t191, (t194 == 0), t197)))) = some (r1, r2, r3, r4) := H
 have A5 := Aside0.mk A50
 clear A50
 have HC6 := Aside0.mk H
 clear H
 go_enter Try.func58, Try.ntmps58
 go_upto_if 17 with (first | ((with_reducible refine gd 2 rfl ?_); refine bx (N := 2) (cs := #[.string (⟨#[]⟩ : ByteArray), .string (⟨#[]⟩ : ByteArray), .bool false]) (t := 36) ?_; intro gb182 hg w7 hbox hb; replace HB := Aside0.mk (below_step (zg85 HB) hb); have BK182 := Aside0.mk (hbox); have GW182 := Aside0.mk ((by rw [hg]; exact (keep_size (w := w) (g := g) (row := none) (zh HK)) : w.heap.size ≤ gb182)); have GE182 := Aside0.mk ((Nat.le_trans HW0.out (by rw [hg]; exact (keep_size (w := w) (g := g) (row := none) (zh HK)) : w.heap.size ≤ gb182) : w0.heap.size ≤ gb182)); replace HK := Aside0.mk (KeepBut.trans (zh HK) (KeepBut.of_below hb g none) (.inl rfl)); have NB0_182 := Aside0.mk ((by rw [hg]; exact Nat.ne_of_lt (IsS85.lt (show IsS85 w0 _ g s0_0 s0_1 from zi85 HI0)) : g ≠ gb182)); have NB182_0 := Aside0.mk ((by rw [hg]; exact Nat.ne_of_gt (IsS85.lt (show IsS85 w0 _ g s0_0 s0_1 from zi85 HI0)) : gb182 ≠ g)); replace HI0 := Aside0.mk (IsS85.below (zi85 HI0) hb); clear hb hbox hg) | ((with_reducible refine gd 5 rfl ?_); refine Kd.R_lit Kd.string _ 9 ?hg (N := 5) ?hd (xs := ([(⟨#[58, 112, 97, 116, 104]⟩ : ByteArray), (⟨#[58, 115, 116, 97, 116, 117, 115]⟩ : ByteArray), (⟨#[107, 105, 110, 100]⟩ : ByteArray), (⟨#[115, 105, 122, 101]⟩ : ByteArray), (⟨#[116, 101]⟩ : ByteArray), (⟨#[97]⟩ : ByteArray), (⟨#[98]⟩ : ByteArray), (⟨#[107, 101, 121]⟩ : ByteArray)] : List ByteArray)) (inner := [.string (⟨#[58, 112, 97, 116, 104]⟩ : ByteArray), .string (⟨#[58, 115, 116, 97, 116, 117, 115]⟩ : ByteArray), .string (⟨#[107, 105, 110, 100]⟩ : ByteArray), .string (⟨#[115, 105, 122, 101]⟩ : ByteArray), .string (⟨#[116, 101]⟩ : ByteArray), .string (⟨#[97]⟩ : ByteArray), .string (⟨#[98]⟩ : ByteArray), .string (⟨#[107, 101, 121]⟩ : ByteArray)]) (ok := fun _ => True) (okp := fun _ => True) ?hr ?hp (fun _ hk => hk) trivial (Below.refl _ _) (Nat.le_refl _) (by simp) ?_; (case hd => rfl); (case hg => rfl); (case hr => first | (go_simp; done) | (go_simp; rfl)); (case hp => exact (Reps.one (show Kd.M Kd.string _ _ _ (⟨#[58, 112, 97, 116, 104]⟩ : ByteArray) [.string (⟨#[58, 112, 97, 116, 104]⟩ : ByteArray)] from rfl) (Reps.one (show Kd.M Kd.string _ _ _ (⟨#[58, 115, 116, 97, 116, 117, 115]⟩ : ByteArray) [.string (⟨#[58, 115, 116, 97, 116, 117, 115]⟩ : ByteArray)] from rfl) (Reps.one (show Kd.M Kd.string _ _ _ (⟨#[107, 105, 110, 100]⟩ : ByteArray) [.string (⟨#[107, 105, 110, 100]⟩ : ByteArray)] from rfl) (Reps.one (show Kd.M Kd.string _ _ _ (⟨#[115, 105, 122, 101]⟩ : ByteArray) [.string (⟨#[115, 105, 122, 101]⟩ : ByteArray)] from rfl) (Reps.one (show Kd.M Kd.string _ _ _ (⟨#[116, 101]⟩ : ByteArray) [.string (⟨#[116, 101]⟩ : ByteArray)] from rfl) (Reps.one (show Kd.M Kd.string _ _ _ (⟨#[97]⟩ : ByteArray) [.string (⟨#[97]⟩ : ByteArray)] from rfl) (Reps.one (show Kd.M Kd.string _ _ _ (⟨#[98]⟩ : ByteArray) [.string (⟨#[98]⟩ : ByteArray)] from rfl) (Reps.one (show Kd.M Kd.string _ _ _ (⟨#[107, 101, 121]⟩ : ByteArray) [.string (⟨#[107, 101, 121]⟩ : ByteArray)] from rfl) (Reps.none _ _)))))))))); intro v184 w8 ho9 hb hg_ hnew_; clear hg_ hnew_; (first | rw [← Ny183.out] at ho9 | (simp only [Int.reduceToNat] at ho9; rw [← Ny183.out] at ho9)); have HO185 := Aside0.mk (Kd.R_lower ho9 (keep_size (w := w) (g := g) (row := none) (zh HK))); replace HI0 := Aside0.mk (IsS85.below (zi85 HI0) hb); replace BK182 := Aside0.mk (blk_below (g := gb182) (o := .cells #[.string (⟨#[]⟩ : ByteArray), .string (⟨#[]⟩ : ByteArray), .bool false] 36 (0, 0)) (zk BK182) hb); replace HK := Aside0.mk (KeepBut.trans (zh HK) (KeepBut.of_below hb g none) (.inl rfl)); replace HB := Aside0.mk (below_step (zg85 HB) hb); clear hb ho9; obtain ⟨Ao10, co10, eo10⟩ := Kd.R_slice HO185.out; subst eo10) | ((with_reducible refine gq 73 rfl ?_); refine gl (some 6) Try.func73 #[.pointer (some ⟨g, 0, none⟩), .slice Ao10 y183.length co10] ?_; (with_reducible refine (spec_l6Rd_of.calls k g s0_0 s0_1 _ _ y183 t186 t187 w0 _ ?side1 ?side2 ?side3 ?side4 ?side5 A2.out).mono ?_); (case side1 => exact zi85 HI0); (case side2 => exact zg85 HB); (case side3 => exact zc (Kd.R_reads' HO185.out).2.2); (case side4 => exact (Kd.R_reads' HO185.out).2.1); (case side5 => exact far_slice (IsS85.own_ne HI0.out HO185.out (by decide))); rintro e w11 ⟨rfl, hi, hb, hk⟩; refine ⟨_, rfl, ?_⟩; replace BK182 := Aside0.mk (KeepBut.blk hk (g' := gb182) (o := .cells #[.string (⟨#[]⟩ : ByteArray), .string (⟨#[]⟩ : ByteArray), .bool false] 36 (0, 0)) (zk BK182) NB182_0.out (by simp)); replace HO185 := Aside0.mk (Kd.R_mono (Kd.R_keep (IsS85.apart (show IsS85 w0 _ g s0_0 s0_1 from zi85 HI0) (zr HO185) (by decide)) hk (fun _ h => h.2)) (fun _ h => h.1)); replace HK := Aside0.mk (KeepBut.trans (zh HK) hk (.inl rfl)); replace HB := Aside0.mk (hb); replace HI0 := Aside0.mk (hi); (try clear hb); (try clear hk); (try clear hi)) | ((with_reducible refine gd 8 rfl ?_); refine Kd.R_lit Kd.string _ 9 ?hg (N := 8) ?hd (xs := ([(⟨#[]⟩ : ByteArray), (⟨#[48]⟩ : ByteArray), (⟨#[49, 50]⟩ : ByteArray), (⟨#[116, 101, 120, 116]⟩ : ByteArray), (⟨#[116, 114, 97, 105, 108, 101, 114, 115]⟩ : ByteArray), (⟨#[47, 101, 99, 104, 111]⟩ : ByteArray), (⟨#[120]⟩ : ByteArray), (⟨#[121, 49]⟩ : ByteArray), (⟨#[97, 98, 99]⟩ : ByteArray)] : List ByteArray)) (inner := [.string (⟨#[]⟩ : ByteArray), .string (⟨#[48]⟩ : ByteArray), .string (⟨#[49, 50]⟩ : ByteArray), .string (⟨#[116, 101, 120, 116]⟩ : ByteArray), .string (⟨#[116, 114, 97, 105, 108, 101, 114, 115]⟩ : ByteArray), .string (⟨#[47, 101, 99, 104, 111]⟩ : ByteArray), .string (⟨#[120]⟩ : ByteArray), .string (⟨#[121, 49]⟩ : ByteArray), .string (⟨#[97, 98, 99]⟩ : ByteArray)]) (ok := fun _ => True) (okp := fun _ => True) ?hr ?hp (fun _ hk => hk) trivial (Below.refl _ _) (Nat.le_refl _) (by simp) ?_; (case hd => rfl); (case hg => rfl); (case hr => first | (go_simp; done) | (go_simp; rfl)); (case hp => exact (Reps.one (show Kd.M Kd.string _ _ _ (⟨#[]⟩ : ByteArray) [.string (⟨#[]⟩ : ByteArray)] from rfl) (Reps.one (show Kd.M Kd.string _ _ _ (⟨#[48]⟩ : ByteArray) [.string (⟨#[48]⟩ : ByteArray)] from rfl) (Reps.one (show Kd.M Kd.string _ _ _ (⟨#[49, 50]⟩ : ByteArray) [.string (⟨#[49, 50]⟩ : ByteArray)] from rfl) (Reps.one (show Kd.M Kd.string _ _ _ (⟨#[116, 101, 120, 116]⟩ : ByteArray) [.string (⟨#[116, 101, 120, 116]⟩ : ByteArray)] from rfl) (Reps.one (show Kd.M Kd.string _ _ _ (⟨#[116, 114, 97, 105, 108, 101, 114, 115]⟩ : ByteArray) [.string (⟨#[116, 114, 97, 105, 108, 101, 114, 115]⟩ : ByteArray)] from rfl) (Reps.one (show Kd.M Kd.string _ _ _ (⟨#[47, 101, 99, 104, 111]⟩ : ByteArray) [.string (⟨#[47, 101, 99, 104, 111]⟩ : ByteArray)] from rfl) (Reps.one (show Kd.M Kd.string _ _ _ (⟨#[120]⟩ : ByteArray) [.string (⟨#[120]⟩ : ByteArray)] from rfl) (Reps.one (show Kd.M Kd.string _ _ _ (⟨#[121, 49]⟩ : ByteArray) [.string (⟨#[121, 49]⟩ : ByteArray)] from rfl) (Reps.one (show Kd.M Kd.string _ _ _ (⟨#[97, 98, 99]⟩ : ByteArray) [.string (⟨#[97, 98, 99]⟩ : ByteArray)] from rfl) (Reps.none _ _))))))))))); intro v189 w12 ho13 hb hg_ hnew_; clear hg_ hnew_; (first | rw [← Ny188.out] at ho13 | (simp only [Int.reduceToNat] at ho13; rw [← Ny188.out] at ho13)); have HO190 := Aside0.mk (Kd.R_lower (Kd.R_new' ho13 (Kd.R_lt (zr HO185))) (keep_size (w := w) (g := g) (row := none) (zh HK))); replace HO185 := Aside0.mk (Kd.R_elder' (zr HO185) (Kd.R_base ho13) hb); replace HI0 := Aside0.mk (IsS85.below (zi85 HI0) hb); replace BK182 := Aside0.mk (blk_below (g := gb182) (o := .cells #[.string (⟨#[]⟩ : ByteArray), .string (⟨#[]⟩ : ByteArray), .bool false] 36 (0, 0)) (zk BK182) hb); replace HK := Aside0.mk (KeepBut.trans (zh HK) (KeepBut.of_below hb g none) (.inl rfl)); replace HB := Aside0.mk (below_step (zg85 HB) hb); clear hb ho13; obtain ⟨Ao14, co14, eo14⟩ := Kd.R_slice HO190.out; subst eo14) | ((with_reducible refine gq 73 rfl ?_); refine gl (some 9) Try.func73 #[.pointer (some ⟨g, 0, none⟩), .slice Ao14 y188.length co14] ?_; (with_reducible refine (spec_l6Rd_of.calls k g s0_0 t187 _ _ y188 t191 t192 w0 _ ?side1 ?side2 ?side3 ?side4 ?side5 A3.out).mono ?_); (case side1 => exact zi85 HI0); (case side2 => exact zg85 HB); (case side3 => exact zc (Kd.R_reads' HO190.out).2.2); (case side4 => exact (Kd.R_reads' HO190.out).2.1); (case side5 => exact far_slice (IsS85.own_ne HI0.out HO190.out (by decide))); rintro e w15 ⟨rfl, hi, hb, hk⟩; refine ⟨_, rfl, ?_⟩; replace BK182 := Aside0.mk (KeepBut.blk hk (g' := gb182) (o := .cells #[.string (⟨#[]⟩ : ByteArray), .string (⟨#[]⟩ : ByteArray), .bool false] 36 (0, 0)) (zk BK182) NB182_0.out (by simp)); replace HO185 := Aside0.mk (Kd.R_mono (Kd.R_keep (IsS85.apart (show IsS85 w0 _ g s0_0 t187 from zi85 HI0) (zr HO185) (by decide)) hk (fun _ h => h.2)) (fun _ h => h.1)); replace HO190 := Aside0.mk (Kd.R_mono (Kd.R_keep (IsS85.apart (show IsS85 w0 _ g s0_0 t187 from zi85 HI0) (zr HO190) (by decide)) hk (fun _ h => h.2)) (fun _ h => h.1)); replace HK := Aside0.mk (KeepBut.trans (zh HK) hk (.inl rfl)); replace HB := Aside0.mk (hb); replace HI0 := Aside0.mk (hi); (try clear hb); (try clear hk); (try clear hi)) | ((with_reducible refine gd 3 rfl ?_); refine bx (N := 3) (cs := #[.string (⟨#[]⟩ : ByteArray), .string (⟨#[]⟩ : ByteArray), .bool false]) (t := 36) ?_; intro gb193 hg w16 hbox hb; replace HO185 := Aside0.mk (Kd.R_below (zr HO185) hb); replace HO190 := Aside0.mk (Kd.R_below (zr HO190) hb); replace HB := Aside0.mk (below_step (zg85 HB) hb); have BK193 := Aside0.mk (hbox); have GW193 := Aside0.mk ((by rw [hg]; exact (keep_size (w := w) (g := g) (row := none) (zh HK)) : w.heap.size ≤ gb193)); have GE193 := Aside0.mk ((Nat.le_trans HW0.out (by rw [hg]; exact (keep_size (w := w) (g := g) (row := none) (zh HK)) : w.heap.size ≤ gb193) : w0.heap.size ≤ gb193)); replace HK := Aside0.mk (KeepBut.trans (zh HK) (KeepBut.of_below hb g none) (.inl rfl)); have NB182_193 := Aside0.mk ((by rw [hg]; exact Nat.ne_of_lt (blk_lt (g := gb182) (o := .cells #[.string (⟨#[]⟩ : ByteArray), .string (⟨#[]⟩ : ByteArray), .bool false] 36 (0, 0)) (zk BK182)) : gb182 ≠ gb193)); have NB193_182 := Aside0.mk ((by rw [hg]; exact Nat.ne_of_gt (blk_lt (g := gb182) (o := .cells #[.string (⟨#[]⟩ : ByteArray), .string (⟨#[]⟩ : ByteArray), .bool false] 36 (0, 0)) (zk BK182)) : gb193 ≠ gb182)); replace BK182 := Aside0.mk (blk_below (g := gb182) (o := .cells #[.string (⟨#[]⟩ : ByteArray), .string (⟨#[]⟩ : ByteArray), .bool false] 36 (0, 0)) (zk BK182) hb); have NB0_193 := Aside0.mk ((by rw [hg]; exact Nat.ne_of_lt (IsS85.lt (show IsS85 w0 _ g s0_0 t192 from zi85 HI0)) : g ≠ gb193)); have NB193_0 := Aside0.mk ((by rw [hg]; exact Nat.ne_of_gt (IsS85.lt (show IsS85 w0 _ g s0_0 t192 from zi85 HI0)) : gb193 ≠ g)); replace HI0 := Aside0.mk (IsS85.below (zi85 HI0) hb); clear hb hbox hg; have hnb17 := NB193_182.out; have hnc17 := NB182_193.out; have hnb18 := NB193_0.out; have hnc18 := NB0_193.out; have hcz19_0 : w16.cell? ⟨gb193, 0, none⟩ = some (.string (⟨#[]⟩ : ByteArray)) := (blk_cell BK193.out 0).trans rfl; have hcz19_1 : w16.cell? ⟨gb193, 1, none⟩ = some (.string (⟨#[]⟩ : ByteArray)) := (blk_cell BK193.out 1).trans rfl; have hcz19_2 : w16.cell? ⟨gb193, 2, none⟩ = some (.bool false) := (blk_cell BK193.out 2).trans rfl; have hfz19_0 := blk_frozen BK193.out 0; have hfz19_1 := blk_frozen BK193.out 1; have hfz19_2 := blk_frozen BK193.out 2) | ((with_reducible refine gq 47 rfl ?_); refine gl (some 12) Try.func47 #[.pointer (some ⟨g, 0, none⟩), .int .i64 8] ?_; (with_reducible refine (spec_l6Rd_pick.calls k g s0_0 t192 8 t194 t195 w0 _ ?side1 ?side2 A4.out).mono ?_); (case side1 => exact zi85 HI0); (case side2 => exact zg85 HB); rintro e w20 ⟨rfl, hi, hb, hk⟩; refine ⟨_, rfl, ?_⟩; replace BK182 := Aside0.mk (KeepBut.blk hk (g' := gb182) (o := .cells #[.string (⟨#[]⟩ : ByteArray), .string (⟨#[]⟩ : ByteArray), .bool false] 36 (0, 0)) (by (with_reducible repeat (first | refine blk_drewN ?_ _ | refine blk_drew ?_ | refine blk_alloc ?_ _)); refine blk_far ?_ NB182_193.out _; (with_reducible repeat (first | refine blk_drewN ?_ _ | refine blk_drew ?_ | refine blk_alloc ?_ _)); refine blk_far ?_ NB182_193.out _; (with_reducible repeat (first | refine blk_drewN ?_ _ | refine blk_drew ?_ | refine blk_alloc ?_ _)); refine blk_far ?_ NB182_193.out _; exact zk BK182) NB182_0.out (by simp)); replace HO185 := Aside0.mk (Kd.R_mono (Kd.R_keep (IsS85.apart (show IsS85 w0 _ g s0_0 t192 from zi85 HI0) (by (with_reducible repeat (first | apply Kd.R_alloc | apply Kd.R_drewN | apply Kd.R_drew)); exact (Kd.R_mono (Kd.R_far (p := ⟨gb193, 2, none⟩) (Kd.R_far (p := ⟨gb193, 1, none⟩) (Kd.R_far (p := ⟨gb193, 0, none⟩) (Kd.R_types HO185.out BK193.out (by decide)) (fun _ hk => hk.2) (.string t186)) (fun _ hk => hk.2) (.string t191)) (fun _ hk => hk.2) (.bool false)) (fun _ h_ => h_.1))) (by decide)) hk (fun _ h => h.2)) (fun _ h => h.1)); replace HO190 := Aside0.mk (Kd.R_mono (Kd.R_keep (IsS85.apart (show IsS85 w0 _ g s0_0 t192 from zi85 HI0) (by (with_reducible repeat (first | apply Kd.R_alloc | apply Kd.R_drewN | apply Kd.R_drew)); exact (Kd.R_mono (Kd.R_far (p := ⟨gb193, 2, none⟩) (Kd.R_far (p := ⟨gb193, 1, none⟩) (Kd.R_far (p := ⟨gb193, 0, none⟩) (Kd.R_types HO190.out BK193.out (by decide)) (fun _ hk => hk.2) (.string t186)) (fun _ hk => hk.2) (.string t191)) (fun _ hk => hk.2) (.bool false)) (fun _ h_ => h_.1))) (by decide)) hk (fun _ h => h.2)) (fun _ h => h.1)); replace BK193 := Aside0.mk (KeepBut.blk hk (g' := gb193) (o := .cells #[.string t186, .string t191, .bool false] 36 (0, 0)) (by (with_reducible repeat (first | refine blk_drewN ?_ _ | refine blk_drew ?_ | refine blk_alloc ?_ _)); refine blk_put (cs := #[.string t186, .string t191, .bool false]) ?_ 2 _ rfl; (with_reducible repeat (first | refine blk_drewN ?_ _ | refine blk_drew ?_ | refine blk_alloc ?_ _)); refine blk_put (cs := #[.string t186, .string (⟨#[]⟩ : ByteArray), .bool false]) ?_ 1 _ rfl; (with_reducible repeat (first | refine blk_drewN ?_ _ | refine blk_drew ?_ | refine blk_alloc ?_ _)); refine blk_put (cs := #[.string (⟨#[]⟩ : ByteArray), .string (⟨#[]⟩ : ByteArray), .bool false]) ?_ 0 _ rfl; exact zk BK193) NB193_0.out (by simp)); replace HK := Aside0.mk (KeepBut.trans (zh HK) hk (.inl rfl)); replace HB := Aside0.mk (hb); replace HI0 := Aside0.mk (hi); (try clear hb); (try clear hk); (try clear hi); have hcz21_0 : w20.cell? ⟨gb193, 0, none⟩ = some (.string t186) := (blk_cell BK193.out 0).trans rfl; have hcz21_1 : w20.cell? ⟨gb193, 1, none⟩ = some (.string t191) := (blk_cell BK193.out 1).trans rfl; have hcz21_2 : w20.cell? ⟨gb193, 2, none⟩ = some (.bool false) := (blk_cell BK193.out 2).trans rfl; have hfz21_0 := blk_frozen BK193.out 0; have hfz21_1 := blk_frozen BK193.out 1; have hfz21_2 := blk_frozen BK193.out 2) | ((with_reducible refine gq 47 rfl ?_); refine gl (some 16) Try.func47 #[.pointer (some ⟨g, 0, none⟩), .int .i64 24] ?_; (with_reducible refine (spec_l6Rd_pick.calls k g s0_0 t195 24 t196 t197 w0 _ ?side1 ?side2 A5.out).mono ?_); (case side1 => exact zi85 HI0); (case side2 => exact zg85 HB); rintro e w22 ⟨rfl, hi, hb, hk⟩; refine ⟨_, rfl, ?_⟩; replace BK182 := Aside0.mk (KeepBut.blk hk (g' := gb182) (o := .cells #[.string (⟨#[]⟩ : ByteArray), .string (⟨#[]⟩ : ByteArray), .bool false] 36 (0, 0)) (by (with_reducible repeat (first | refine blk_drewN ?_ _ | refine blk_drew ?_ | refine blk_alloc ?_ _)); refine blk_far ?_ NB182_193.out _; exact zk BK182) NB182_0.out (by simp)); replace HO185 := Aside0.mk (Kd.R_mono (Kd.R_keep (IsS85.apart (show IsS85 w0 _ g s0_0 t195 from zi85 HI0) (by (with_reducible repeat (first | apply Kd.R_alloc | apply Kd.R_drewN | apply Kd.R_drew)); exact (Kd.R_mono (Kd.R_far (p := ⟨gb193, 2, none⟩) (Kd.R_types HO185.out BK193.out (by decide)) (fun _ hk => hk.2) (.bool (t194 == 0))) (fun _ h_ => h_.1))) (by decide)) hk (fun _ h => h.2)) (fun _ h => h.1)); replace HO190 := Aside0.mk (Kd.R_mono (Kd.R_keep (IsS85.apart (show IsS85 w0 _ g s0_0 t195 from zi85 HI0) (by (with_reducible repeat (first | apply Kd.R_alloc | apply Kd.R_drewN | apply Kd.R_drew)); exact (Kd.R_mono (Kd.R_far (p := ⟨gb193, 2, none⟩) (Kd.R_types HO190.out BK193.out (by decide)) (fun _ hk => hk.2) (.bool (t194 == 0))) (fun _ h_ => h_.1))) (by decide)) hk (fun _ h => h.2)) (fun _ h => h.1)); replace BK193 := Aside0.mk (KeepBut.blk hk (g' := gb193) (o := .cells #[.string t186, .string t191, .bool (t194 == 0)] 36 (0, 0)) (by (with_reducible repeat (first | refine blk_drewN ?_ _ | refine blk_drew ?_ | refine blk_alloc ?_ _)); refine blk_put (cs := #[.string t186, .string t191, .bool false]) ?_ 2 _ rfl; exact zk BK193) NB193_0.out (by simp)); replace HK := Aside0.mk (KeepBut.trans (zh HK) hk (.inl rfl)); replace HB := Aside0.mk (hb); replace HI0 := Aside0.mk (hi); (try clear hb); (try clear hk); (try clear hi)))
 (try simp only [Act.put, s1, s2, s3])
 have H := HC6.out
 clear HC6
 by_cases c23 : t196 = 0
 ·rw [if_pos c23] at H
  have c23b0 : (t196 == 0) = true := beq_iff_eq.mpr c23
  have c23b1 : (t196 != 0) = false := bne_eq_false_iff_eq.mpr c23
  clear c23
  (first | rw [c23b0] | rw [c23b1] | (simp only [i64_w, i32_w]; rw [c23b0]) | skip)
  obtain ⟨y198, hy198⟩ : ∃ y_ : List ByteArray, y_ = (([(⟨#[]⟩ : ByteArray), (⟨#[65]⟩ : ByteArray), (⟨#[97, 97, 97, 97, 97, 97, 97, 97, 97, 97, 97, 97, 97, 97, 97, 97, 97]⟩ : ByteArray)] : List ByteArray)) := ⟨_, rfl⟩
  replace H : ((spec_l6Rd_of.f k s0_0 t197 y198).bind fun bt201 => (some (bt201.1, t191, (t194 == 0), bt201.2))) = some (r1, r2, r3, r4) := by first | (rw [hy198]; with_reducible exact H) | (have H2_ := (Option.bind_some _ _).symm.trans H; rw [hy198]; with_reducible exact H2_) | (have H2_ := (Option.bind_some _ _).symm.trans H; with_reducible exact H2_) | with_reducible exact H | (rw [hy198]; exact H) | exact H
  have Ny198 := Aside0.mk hy198
  clear hy198
  replace H := Option.bind_eq_some_iff.mp H
  obtain ⟨⟨t201, t202⟩, A240, H⟩ := H
  replace H : (some (t201, t191, (t194 == 0), t202)) = some (r1, r2, r3, r4) := H
  have A24 := Aside0.mk A240
  clear A240
  simp only [Option.some.injEq, Prod.mk.injEq] at H
  obtain ⟨rfl, rfl, rfl, rfl⟩ := H
  go_wp2_with (first | ((with_reducible refine gd 20 rfl ?_); refine Kd.R_lit Kd.string _ 9 ?hg (N := 20) ?hd (xs := ([(⟨#[]⟩ : ByteArray), (⟨#[65]⟩ : ByteArray), (⟨#[97, 97, 97, 97, 97, 97, 97, 97, 97, 97, 97, 97, 97, 97, 97, 97, 97]⟩ : ByteArray)] : List ByteArray)) (inner := [.string (⟨#[]⟩ : ByteArray), .string (⟨#[65]⟩ : ByteArray), .string (⟨#[97, 97, 97, 97, 97, 97, 97, 97, 97, 97, 97, 97, 97, 97, 97, 97, 97]⟩ : ByteArray)]) (ok := fun _ => True) (okp := fun _ => True) ?hr ?hp (fun _ hk => hk) trivial (Below.refl _ _) (Nat.le_refl _) (by simp) ?_; (case hd => rfl); (case hg => rfl); (case hr => first | (go_simp; done) | (go_simp; rfl)); (case hp => exact (Reps.one (show Kd.M Kd.string _ _ _ (⟨#[]⟩ : ByteArray) [.string (⟨#[]⟩ : ByteArray)] from rfl) (Reps.one (show Kd.M Kd.string _ _ _ (⟨#[65]⟩ : ByteArray) [.string (⟨#[65]⟩ : ByteArray)] from rfl) (Reps.one (show Kd.M Kd.string _ _ _ (⟨#[97, 97, 97, 97, 97, 97, 97, 97, 97, 97, 97, 97, 97, 97, 97, 97, 97]⟩ : ByteArray) [.string (⟨#[97, 97, 97, 97, 97, 97, 97, 97, 97, 97, 97, 97, 97, 97, 97, 97, 97]⟩ : ByteArray)] from rfl) (Reps.none _ _))))); intro v199 w25 ho26 hb hg_ hnew_; clear hg_ hnew_; (first | rw [← Ny198.out] at ho26 | (simp only [Int.reduceToNat] at ho26; rw [← Ny198.out] at ho26)); have HO200 := Aside0.mk (Kd.R_lower (Kd.R_new' (Kd.R_new' ho26 (Kd.R_lt (zr HO185))) (Kd.R_lt (zr HO190))) (keep_size (w := w) (g := g) (row := none) (zh HK))); replace HO185 := Aside0.mk (Kd.R_elder' (zr HO185) (Kd.R_base ho26) hb); replace HO190 := Aside0.mk (Kd.R_elder' (zr HO190) (Kd.R_base ho26) hb); replace HI0 := Aside0.mk (IsS85.below (zi85 HI0) hb); replace BK182 := Aside0.mk (blk_below (g := gb182) (o := .cells #[.string (⟨#[]⟩ : ByteArray), .string (⟨#[]⟩ : ByteArray), .bool false] 36 (0, 0)) (zk BK182) hb); replace BK193 := Aside0.mk (blk_below (g := gb193) (o := .cells #[.string t186, .string t191, .bool (t194 == 0)] 36 (0, 0)) (zk BK193) hb); replace HK := Aside0.mk (KeepBut.trans (zh HK) (KeepBut.of_below hb g none) (.inl rfl)); replace HB := Aside0.mk (below_step (zg85 HB) hb); clear hb ho26; obtain ⟨Ao27, co27, eo27⟩ := Kd.R_slice HO200.out; subst eo27) | ((with_reducible refine gq 73 rfl ?_); refine gl (some 21) Try.func73 #[.pointer (some ⟨g, 0, none⟩), .slice Ao27 y198.length co27] ?_; (with_reducible refine (spec_l6Rd_of.calls k g s0_0 t197 _ _ y198 t201 t202 w0 _ ?side1 ?side2 ?side3 ?side4 ?side5 A24.out).mono ?_); (case side1 => exact zi85 HI0); (case side2 => exact zg85 HB); (case side3 => exact zc (Kd.R_reads' HO200.out).2.2); (case side4 => exact (Kd.R_reads' HO200.out).2.1); (case side5 => exact far_slice (IsS85.own_ne HI0.out HO200.out (by decide))); rintro e w28 ⟨rfl, hi, hb, hk⟩; refine ⟨_, rfl, ?_⟩; replace BK182 := Aside0.mk (KeepBut.blk hk (g' := gb182) (o := .cells #[.string (⟨#[]⟩ : ByteArray), .string (⟨#[]⟩ : ByteArray), .bool false] 36 (0, 0)) (zk BK182) NB182_0.out (by simp)); replace HO185 := Aside0.mk (Kd.R_mono (Kd.R_keep (IsS85.apart (show IsS85 w0 _ g s0_0 t197 from zi85 HI0) (zr HO185) (by decide)) hk (fun _ h => h.2)) (fun _ h => h.1)); replace HO190 := Aside0.mk (Kd.R_mono (Kd.R_keep (IsS85.apart (show IsS85 w0 _ g s0_0 t197 from zi85 HI0) (zr HO190) (by decide)) hk (fun _ h => h.2)) (fun _ h => h.1)); replace BK193 := Aside0.mk (KeepBut.blk hk (g' := gb193) (o := .cells #[.string t186, .string t191, .bool (t194 == 0)] 36 (0, 0)) (zk BK193) NB193_0.out (by simp)); replace HO200 := Aside0.mk (Kd.R_mono (Kd.R_keep (IsS85.apart (show IsS85 w0 _ g s0_0 t197 from zi85 HI0) (zr HO200) (by decide)) hk (fun _ h => h.2)) (fun _ h => h.1)); replace HK := Aside0.mk (KeepBut.trans (zh HK) hk (.inl rfl)); replace HB := Aside0.mk (hb); replace HI0 := Aside0.mk (hi); (try clear hb); (try clear hk); (try clear hi); have hnb29 := NB193_182.out; have hnc29 := NB182_193.out; have hnb30 := NB193_0.out; have hnc30 := NB0_193.out; have hcz31_0 : w28.cell? ⟨gb193, 0, none⟩ = some (.string t186) := (blk_cell BK193.out 0).trans rfl; have hcz31_1 : w28.cell? ⟨gb193, 1, none⟩ = some (.string t191) := (blk_cell BK193.out 1).trans rfl; have hcz31_2 : w28.cell? ⟨gb193, 2, none⟩ = some (.bool (t194 == 0)) := (blk_cell BK193.out 2).trans rfl; have hfz31_0 := blk_frozen BK193.out 0; have hfz31_1 := blk_frozen BK193.out 1; have hfz31_2 := blk_frozen BK193.out 2; have hnb32 := NB182_0.out; have hnc32 := NB0_182.out; have hcz33_0 : w28.cell? ⟨gb182, 0, none⟩ = some (.string (⟨#[]⟩ : ByteArray)) := (blk_cell BK182.out 0).trans rfl; have hcz33_1 : w28.cell? ⟨gb182, 1, none⟩ = some (.string (⟨#[]⟩ : ByteArray)) := (blk_cell BK182.out 1).trans rfl; have hcz33_2 : w28.cell? ⟨gb182, 2, none⟩ = some (.bool false) := (blk_cell BK182.out 2).trans rfl; have hfz33_0 := blk_frozen BK182.out 0; have hfz33_1 := blk_frozen BK182.out 1; have hfz33_2 := blk_frozen BK182.out 2))
  refine bodyPost_ret (results_cell_row rfl _ _ gb182 36 #[.string t201, .string t191, .bool (t194 == 0)] (0, 0) _ rfl (by (with_reducible repeat (first | refine blk_drewN ?_ _ | refine blk_drew ?_ | refine blk_alloc ?_ _)); refine blk_put (cs := #[.string t201, .string t191, .bool false]) ?_ 2 _ rfl; (with_reducible repeat (first | refine blk_drewN ?_ _ | refine blk_drew ?_ | refine blk_alloc ?_ _)); refine blk_put (cs := #[.string t201, .string (⟨#[]⟩ : ByteArray), .bool false]) ?_ 1 _ rfl; (with_reducible repeat (first | refine blk_drewN ?_ _ | refine blk_drew ?_ | refine blk_alloc ?_ _)); refine blk_put (cs := #[.string (⟨#[]⟩ : ByteArray), .string (⟨#[]⟩ : ByteArray), .bool false]) ?_ 0 _ rfl; (with_reducible repeat (first | refine blk_drewN ?_ _ | refine blk_drew ?_ | refine blk_alloc ?_ _)); refine blk_far ?_ NB182_193.out _; exact zk BK182) Try.underlying36 rfl (by kernel_rfl)) rfl ?_
  exact ⟨ze, zi85 HI0, zg85 HB, zh HK⟩
 ·rw [if_neg c23] at H
  have c23b0 : (t196 == 0) = false := beq_eq_false_iff_ne.mpr c23
  have c23b1 : (t196 != 0) = true := bne_iff_ne.mpr c23
  (first | rw [c23b0] | rw [c23b1] | (simp only [i64_w, i32_w]; rw [c23b0]) | skip)
  by_cases c34 : t196 = 1
  ·rw [if_pos c34] at H
   have c34b0 : (t196 == 1) = true := beq_iff_eq.mpr c34
   have c34b1 : (t196 != 1) = false := bne_eq_false_iff_eq.mpr c34
   clear c34
   replace H := Option.bind_eq_some_iff.mp H
   obtain ⟨⟨t203, t204⟩, A350, H⟩ := H
   replace H : (some (t186, t203, (t194 == 0), t204)) = some (r1, r2, r3, r4) := H
   have A35 := Aside0.mk A350
   clear A350
   simp only [Option.some.injEq, Prod.mk.injEq] at H
   obtain ⟨rfl, rfl, rfl, rfl⟩ := H
   go_wp2_with (first | ((with_reducible refine gq 74 rfl ?_); refine gl (some 26) Try.func74 #[.pointer (some ⟨g, 0, none⟩)] ?_; (with_reducible refine (spec_l71Word.calls k g s0_0 t197 t203 t204 w0 _ ?side1 ?side2 A35.out).mono ?_); (case side1 => exact zi85 HI0); (case side2 => exact zg85 HB); rintro e w36 ⟨rfl, hi, hb, hk⟩; refine ⟨_, rfl, ?_⟩; replace BK182 := Aside0.mk (KeepBut.blk hk (g' := gb182) (o := .cells #[.string (⟨#[]⟩ : ByteArray), .string (⟨#[]⟩ : ByteArray), .bool false] 36 (0, 0)) (zk BK182) NB182_0.out (by simp)); replace HO185 := Aside0.mk (Kd.R_mono (Kd.R_keep (IsS85.apart (show IsS85 w0 _ g s0_0 t197 from zi85 HI0) (zr HO185) (by decide)) hk (fun _ h => h.2)) (fun _ h => h.1)); replace HO190 := Aside0.mk (Kd.R_mono (Kd.R_keep (IsS85.apart (show IsS85 w0 _ g s0_0 t197 from zi85 HI0) (zr HO190) (by decide)) hk (fun _ h => h.2)) (fun _ h => h.1)); replace BK193 := Aside0.mk (KeepBut.blk hk (g' := gb193) (o := .cells #[.string t186, .string t191, .bool (t194 == 0)] 36 (0, 0)) (zk BK193) NB193_0.out (by simp)); replace HK := Aside0.mk (KeepBut.trans (zh HK) hk (.inl rfl)); replace HB := Aside0.mk (hb); replace HI0 := Aside0.mk (hi); (try clear hb); (try clear hk); (try clear hi); have hnb37 := NB193_182.out; have hnc37 := NB182_193.out; have hnb38 := NB193_0.out; have hnc38 := NB0_193.out; have hcz39_0 : w36.cell? ⟨gb193, 0, none⟩ = some (.string t186) := (blk_cell BK193.out 0).trans rfl; have hcz39_1 : w36.cell? ⟨gb193, 1, none⟩ = some (.string t191) := (blk_cell BK193.out 1).trans rfl; have hcz39_2 : w36.cell? ⟨gb193, 2, none⟩ = some (.bool (t194 == 0)) := (blk_cell BK193.out 2).trans rfl; have hfz39_0 := blk_frozen BK193.out 0; have hfz39_1 := blk_frozen BK193.out 1; have hfz39_2 := blk_frozen BK193.out 2; have hnb40 := NB182_0.out; have hnc40 := NB0_182.out; have hcz41_0 : w36.cell? ⟨gb182, 0, none⟩ = some (.string (⟨#[]⟩ : ByteArray)) := (blk_cell BK182.out 0).trans rfl; have hcz41_1 : w36.cell? ⟨gb182, 1, none⟩ = some (.string (⟨#[]⟩ : ByteArray)) := (blk_cell BK182.out 1).trans rfl; have hcz41_2 : w36.cell? ⟨gb182, 2, none⟩ = some (.bool false) := (blk_cell BK182.out 2).trans rfl; have hfz41_0 := blk_frozen BK182.out 0; have hfz41_1 := blk_frozen BK182.out 1; have hfz41_2 := blk_frozen BK182.out 2))
   refine bodyPost_ret (results_cell_row rfl _ _ gb182 36 #[.string t186, .string t203, .bool (t194 == 0)] (0, 0) _ rfl (by (with_reducible repeat (first | refine blk_drewN ?_ _ | refine blk_drew ?_ | refine blk_alloc ?_ _)); refine blk_put (cs := #[.string t186, .string t203, .bool false]) ?_ 2 _ rfl; (with_reducible repeat (first | refine blk_drewN ?_ _ | refine blk_drew ?_ | refine blk_alloc ?_ _)); refine blk_put (cs := #[.string t186, .string (⟨#[]⟩ : ByteArray), .bool false]) ?_ 1 _ rfl; (with_reducible repeat (first | refine blk_drewN ?_ _ | refine blk_drew ?_ | refine blk_alloc ?_ _)); refine blk_put (cs := #[.string (⟨#[]⟩ : ByteArray), .string (⟨#[]⟩ : ByteArray), .bool false]) ?_ 0 _ rfl; (with_reducible repeat (first | refine blk_drewN ?_ _ | refine blk_drew ?_ | refine blk_alloc ?_ _)); refine blk_far ?_ NB182_193.out _; exact zk BK182) Try.underlying36 rfl (by kernel_rfl)) rfl ?_
   exact ⟨ze, zi85 HI0, zg85 HB, zh HK⟩
  ·rw [if_neg c34] at H
   have c34b0 : (t196 == 1) = false := beq_eq_false_iff_ne.mpr c34
   have c34b1 : (t196 != 1) = true := bne_iff_ne.mpr c34
   simp only [Option.some.injEq, Prod.mk.injEq] at H
   obtain ⟨rfl, rfl, rfl, rfl⟩ := H
   have hnb42 := NB193_182.out
   have hnc42 := NB182_193.out
   have hnb43 := NB193_0.out
   have hnc43 := NB0_193.out
   have hcz44_0 : w22.cell? ⟨gb193, 0, none⟩ = some (.string t186) := (blk_cell BK193.out 0).trans rfl
   have hcz44_1 : w22.cell? ⟨gb193, 1, none⟩ = some (.string t191) := (blk_cell BK193.out 1).trans rfl
   have hcz44_2 : w22.cell? ⟨gb193, 2, none⟩ = some (.bool (t194 == 0)) := (blk_cell BK193.out 2).trans rfl
   have hfz44_0 := blk_frozen BK193.out 0
   have hfz44_1 := blk_frozen BK193.out 1
   have hfz44_2 := blk_frozen BK193.out 2
   have hnb45 := NB182_0.out
   have hnc45 := NB0_182.out
   have hcz46_0 : w22.cell? ⟨gb182, 0, none⟩ = some (.string (⟨#[]⟩ : ByteArray)) := (blk_cell BK182.out 0).trans rfl
   have hcz46_1 : w22.cell? ⟨gb182, 1, none⟩ = some (.string (⟨#[]⟩ : ByteArray)) := (blk_cell BK182.out 1).trans rfl
   have hcz46_2 : w22.cell? ⟨gb182, 2, none⟩ = some (.bool false) := (blk_cell BK182.out 2).trans rfl
   have hfz46_0 := blk_frozen BK182.out 0
   have hfz46_1 := blk_frozen BK182.out 1
   have hfz46_2 := blk_frozen BK182.out 2
   go_wp2
   refine bodyPost_ret (results_cell_row rfl _ _ gb182 36 #[.string t186, .string t191, .bool (t194 == 0)] (0, 0) _ rfl (by (with_reducible repeat (first | refine blk_drewN ?_ _ | refine blk_drew ?_ | refine blk_alloc ?_ _)); refine blk_put (cs := #[.string t186, .string t191, .bool false]) ?_ 2 _ rfl; (with_reducible repeat (first | refine blk_drewN ?_ _ | refine blk_drew ?_ | refine blk_alloc ?_ _)); refine blk_put (cs := #[.string t186, .string (⟨#[]⟩ : ByteArray), .bool false]) ?_ 1 _ rfl; (with_reducible repeat (first | refine blk_drewN ?_ _ | refine blk_drew ?_ | refine blk_alloc ?_ _)); refine blk_put (cs := #[.string (⟨#[]⟩ : ByteArray), .string (⟨#[]⟩ : ByteArray), .bool false]) ?_ 0 _ rfl; exact zk BK182) Try.underlying36 rfl (by kernel_rfl)) rfl ?_
   exact ⟨ze, zi85 HI0, zg85 HB, zh HK⟩

/-! ### spec_l3Fit: function 51 -/
-- thin
def spec_l3Fit.l0 : Nat → List (S36) → List (S36) → Int → Option ((List (S36)) × Int)
 | 0, _, _, _ => none
 | k + 1, x3, x206000, x206001 => (spec_l3Size.f k x3).bind fun t213 => (if t213 > x206001 then (if 0 ≤ (wrap64 ((x3.length : Int) - 1)) then (if (wrap64 ((x3.length : Int) - 1)) ≤ (x3.length : Int) then (spec_l3Fit.l0 k (x3.take ((wrap64 ((x3.length : Int) - 1)) : Int).toNat) x206000 x206001) else (none)) else (none)) else (some (x3, x206001)))
def spec_l3Fit.f (k : Nat) (l0_0 : List (S36)) (a0_1 : Int) : Option ((List (S36)) × Int) := (some (([] : List (S36)) : List (S36))).bind fun y207 => (if y207.length + l0_0.length < 3518437208883 then (spec_l3Fit.l0 k (y207 ++ l0_0) l0_0 a0_1) else (none))
theorem spec_l3Fit.mono_l : ∀ k, (∀ y0 y1 y2, LeO (spec_l3Fit.l0 k y0 y1 y2) (spec_l3Fit.l0 (k + 1) y0 y1 y2))
 | 0 => fun _ _ _ r h => by simp [spec_l3Fit.l0] at h
 | k + 1 => by
  have ih0 := spec_l3Fit.mono_l k
  ·intro y0 y1 y2
   unfold spec_l3Fit.l0
   repeat' first
   | (with_reducible exact ih0 _ _ _)
   | (with_reducible exact spec_l3Size.mono _ _)
   | (with_reducible exact LeO.refl _)
   | (with_reducible exact LeO.none _)
   | (with_reducible refine LeO.ite ?_ ?_)
   | (with_reducible refine LeO.bind ?_ (fun _ => ?_))
   | exact ih0 _ _ _
   | exact spec_l3Size.mono _ _
   | exact LeO.none _
   | refine LeO.ite ?_ ?_
   | refine LeO.bind ?_ (fun _ => ?_)
theorem spec_l3Fit.mono : ∀ a0 a1 k, LeO (spec_l3Fit.f k a0 a1) (spec_l3Fit.f (k + 1) a0 a1) := by
 intro a0 a1 k
 have ih0 := spec_l3Fit.mono_l k
 unfold spec_l3Fit.f
 repeat' first
   | (with_reducible exact ih0 _ _ _)
   | (with_reducible exact spec_l3Size.mono _ _)
   | (with_reducible exact LeO.refl _)
   | (with_reducible exact LeO.none _)
   | (with_reducible refine LeO.ite ?_ ?_)
   | (with_reducible refine LeO.bind ?_ (fun _ => ?_))
   | exact ih0 _ _ _
   | exact spec_l3Size.mono _ _
   | exact LeO.none _
   | refine LeO.ite ?_ ?_
   | refine LeO.bind ?_ (fun _ => ?_)
set_option maxHeartbeats 8000000 in
set_option maxRecDepth 100000 in
theorem spec_l3Fit.calls (k : Nat) (A0_0 : Option Addr) (c0_0 : Nat) (l0_0 : List (S36)) (a0_1 : Int) (r1 : List (S36)) (r2 : Int) (w : World) (hr0_0 : Kd.C k36 w A0_0 l0_0.length l0_0) (hc0_0 : l0_0.length ≤ c0_0) (h : spec_l3Fit.f k l0_0 a0_1 = some (r1, r2)) :
  Calls Try.prog 51 #[.agg #[.slice A0_0 l0_0.length c0_0, .int .i64 a0_1]] w fun e w' => ∃ v0_ : Value, e = .returned (.agg #[v0_, .int .i64 r2]) ∧ Kd.R k36 36 w' w.heap.size (fun _ => True) v0_ r1 ∧ Below w.heap.size w w' := by
 have hu25 := Try.underlying25
 have HR0_0 := Aside0.mk hr0_0
 have HC0_0 := Aside0.mk hc0_0
 clear hr0_0 hc0_0
 have HB := Aside0.mk (Below.refl w.heap.size w)
 have H : ((some (([] : List (S36)) : List (S36))).bind fun y207 => (if y207.length + l0_0.length < 3518437208883 then (spec_l3Fit.l0 k (y207 ++ l0_0) l0_0 a0_1) else (none))) = some (r1, r2) := h
 clear h
 obtain ⟨y207, hy207⟩ : ∃ y_ : List (S36), y_ = (([] : List (S36))) := ⟨_, rfl⟩
 replace H : (if y207.length + l0_0.length < 3518437208883 then (spec_l3Fit.l0 k (y207 ++ l0_0) l0_0 a0_1) else (none)) = some (r1, r2) := by first | (rw [hy207]; with_reducible exact H) | (have H2_ := (Option.bind_some _ _).symm.trans H; rw [hy207]; with_reducible exact H2_) | (have H2_ := (Option.bind_some _ _).symm.trans H; with_reducible exact H2_) | with_reducible exact H | (rw [hy207]; exact H) | exact H
 have Ny207 := Aside0.mk hy207
 clear hy207
 by_cases c2 : y207.length + l0_0.length < 3518437208883
 ·rw [if_pos c2] at H
  have LMc2 := Aside0.mk c2
  clear c2
  obtain ⟨y210, hy210⟩ : ∃ y_ : List (S36), y_ = (y207 ++ l0_0) := ⟨_, rfl⟩
  replace H : (spec_l3Fit.l0 k y210 l0_0 a0_1) = some (r1, r2) := by first | (rw [hy210]; with_reducible exact H) | (have H2_ := (Option.bind_some _ _).symm.trans H; rw [hy210]; with_reducible exact H2_) | (have H2_ := (Option.bind_some _ _).symm.trans H; with_reducible exact H2_) | with_reducible exact H | (rw [hy210]; exact H) | exact H
  have Ny210 := Aside0.mk hy210
  clear hy210
  have H' := Aside0.mk H
  clear H
  go_enter Try.func51, Try.ntmps51
  go_wp2_with (first | ((with_reducible refine gd 1 rfl ?_); refine bx (N := 1) (cs := #[.slice A0_0 l0_0.length c0_0, .int .i64 a0_1]) (t := 25) ?_; intro gb205 hg w3 hbox hb; have BK205 := Aside0.mk (hbox); have GW205 := Aside0.mk ((by rw [hg]; exact (below_size (zb HB)) : w.heap.size ≤ gb205)); have GE205 := Aside0.mk ((by rw [hg]; exact (below_size (zb HB)) : w.heap.size ≤ gb205)); replace HB := Aside0.mk (below_step (zb HB) hb); clear hb hbox hg) | ((with_reducible refine gd 2 rfl ?_); refine bx (N := 2) (cs := #[.slice none 0 0, .int .i64 0]) (t := 25) ?_; intro gb206 hg w4 hbox hb; have BK206 := Aside0.mk (hbox); have GW206 := Aside0.mk ((by rw [hg]; exact (below_size (zb HB)) : w.heap.size ≤ gb206)); have GE206 := Aside0.mk ((by rw [hg]; exact (below_size (zb HB)) : w.heap.size ≤ gb206)); replace HB := Aside0.mk (below_step (zb HB) hb); have NB205_206 := Aside0.mk ((by rw [hg]; exact Nat.ne_of_lt (blk_lt (g := gb205) (o := .cells #[.slice A0_0 l0_0.length c0_0, .int .i64 a0_1] 25 (0, 0)) (zk BK205)) : gb205 ≠ gb206)); have NB206_205 := Aside0.mk ((by rw [hg]; exact Nat.ne_of_gt (blk_lt (g := gb205) (o := .cells #[.slice A0_0 l0_0.length c0_0, .int .i64 a0_1] 25 (0, 0)) (zk BK205)) : gb206 ≠ gb205)); replace BK205 := Aside0.mk (blk_below (g := gb205) (o := .cells #[.slice A0_0 l0_0.length c0_0, .int .i64 a0_1] 25 (0, 0)) (zk BK205) hb); clear hb hbox hg) | ((with_reducible refine gd 4 rfl ?_); refine Kd.R_lit k36 _ 36 ?hg (N := 4) ?hd (xs := ([] : List (S36))) (inner := []) (ok := fun _ => True) (okp := fun _ => True) ?hr ?hp (fun _ hk => hk) trivial (Below.refl _ _) (Nat.le_refl _) (by simp) ?_; (case hd => rfl); (case hg => rfl); (case hr => first | (go_simp; done) | (go_simp; rfl)); (case hp => exact (Reps.none _ _)); intro v208 w5 ho6 hb hg_ hnew_; clear hg_ hnew_; (first | rw [← Ny207.out] at ho6 | (simp only [Int.reduceToNat] at ho6; rw [← Ny207.out] at ho6)); have HO209 := Aside0.mk (Kd.R_lower ho6 (below_size (zb HB))); replace BK205 := Aside0.mk (blk_below (g := gb205) (o := .cells #[.slice A0_0 l0_0.length c0_0, .int .i64 a0_1] 25 (0, 0)) (zk BK205) hb); replace BK206 := Aside0.mk (blk_below (g := gb206) (o := .cells #[.slice none 0 0, .int .i64 0] 25 (0, 0)) (zk BK206) hb); replace HB := Aside0.mk (below_step (zb HB) hb); clear hb ho6; have hnb7 := NB205_206.out; have hnc7 := NB206_205.out; have hcz8_0 : w5.cell? ⟨gb205, 0, none⟩ = some (.slice A0_0 l0_0.length c0_0) := (blk_cell BK205.out 0).trans rfl; have hcz8_1 : w5.cell? ⟨gb205, 1, none⟩ = some (.int .i64 a0_1) := (blk_cell BK205.out 1).trans rfl; have hfz8_0 := blk_frozen BK205.out 0; have hfz8_1 := blk_frozen BK205.out 1) | ((with_reducible refine gate_builtin (b := .append) (xs := #[.tmp 4, .tmp 6]) rfl ?_); at_builtin; refine Kd.R_append_rows k36 (w0 := w) w.heap.size rfl (.tmp 4) (.tmp 6) 23 36 (.agg #[(.string ⟨#[]⟩), (.string ⟨#[]⟩), (.bool false)]) 40 rfl Try.underlying23 info36 rfl (by decide) (by omega) v208 y207 l0_0 _ _ _ (fun _ => True) (fun _ => False) rfl rfl ?aO ?aR (fun _ _ h => h) (fun _ h => h.elim) ?aF ?aB ?aS ?aL ?_; (case aR => exact zc (Kd.C_below HR0_0.out HB.out)); (case aB => exact (zb HB)); (case aF => exact (fun _ _ => trivial)); (case aO => exact (zr HO209)); (case aS => exact (below_size (zb HB))); (case aL => have := LMc2.out; omega); intro v211 w9 ho hb hg hat; rw [← Ny210.out] at ho; replace BK205 := Aside0.mk (blk_grown (g := gb205) (o := .cells #[.slice A0_0 l0_0.length c0_0, .int .i64 a0_1] 25 (0, 0)) (zk BK205) hg (Kd.R_ne HO209.out BK205.out (by decide))); replace BK206 := Aside0.mk (blk_grown (g := gb206) (o := .cells #[.slice none 0 0, .int .i64 0] 25 (0, 0)) (zk BK206) hg (Kd.R_ne HO209.out BK206.out (by decide))); replace HB := Aside0.mk (hb); have HO212 := Aside0.mk (ho); clear HO209; clear ho hb hg hat))
  go_loopg [3] k (fun kq v3 w' => ∃ (x3_1 : List (S36)), Aside0 (spec_l3Fit.l0 kq x3_1 l0_0 a0_1 = some (r1, r2)) ∧ Aside0 (kq ≤ k) ∧ Aside0 (Kd.R k36 36 w' w.heap.size (fun _ => True) v3 x3_1) ∧ Aside0 (w'.heap[gb205]? = some (.cells #[(.slice A0_0 l0_0.length c0_0), .int .i64 a0_1] 25 (0, 0))) ∧ Aside0 (w'.heap[gb206]? = some (.cells #[(.slice none 0 0), .int .i64 0] 25 (0, 0))) ∧ Aside0 (Below w.heap.size w w'))
  case atStart => exact ⟨(y210), H', ⟨Nat.le_refl _⟩, ⟨by exact zr HO212⟩, ⟨by exact zk BK205⟩, ⟨by exact zk BK206⟩, ⟨zb HB⟩⟩
  case round =>
   clear H'
   try clear c2
   try clear p2
   try clear c5
   try clear c7
   try clear hcz8_0
   try clear hcz8_1
   try clear hfz8_0
   try clear hfz8_1
   obtain ⟨x3_1, HA, HK1, HO_3, BK205, BK206, HB⟩ := hrel
   cases gk with
   | zero => exact absurd HA.out (by simp [spec_l3Fit.l0])
   | succ k1 =>
    have H := HA.out
    clear HA
    simp only [spec_l3Fit.l0] at H
    replace H := Option.bind_eq_some_iff.mp H
    obtain ⟨t213, A100, H⟩ := H
    replace H : (if t213 > a0_1 then (if 0 ≤ (wrap64 ((x3_1.length : Int) - 1)) then (if (wrap64 ((x3_1.length : Int) - 1)) ≤ (x3_1.length : Int) then (spec_l3Fit.l0 k1 (x3_1.take ((wrap64 ((x3_1.length : Int) - 1)) : Int).toNat) l0_0 a0_1) else (none)) else (none)) else (some (x3_1, a0_1))) = some (r1, r2) := H
    have A10 := Aside0.mk A100
    clear A100
    by_cases c11 : t213 > a0_1
    ·rw [if_pos c11] at H
     have c11b0 : decide (a0_1 < t213) = true := decide_eq_true c11
     clear c11
     obtain ⟨ji12, hji12⟩ : ∃ j_ : Int, (wrap64 ((x3_1.length : Int) - 1)) = j_ := ⟨_, rfl⟩
     replace H : (if 0 ≤ (ji12) then (if (ji12) ≤ (x3_1.length : Int) then (spec_l3Fit.l0 k1 (x3_1.take ((ji12) : Int).toNat) l0_0 a0_1) else (none)) else (none)) = some (r1, r2) := by first | (rw [hji12] at H; exact H) | (simp only [hji12] at H ⊢; exact H)
     (try rw [hji12] at A10)
     have hji12w : (IntKind.i64.wrap ((x3_1.length : Int) - 1)) = ji12 := (i64_w _).trans hji12
     by_cases c13 : 0 ≤ (ji12)
     ·rw [if_pos c13] at H
      have c13b0 := eq_true c13
      have c13b1 : decide (0 ≤ (ji12)) = true := decide_eq_true c13
      clear c13
      by_cases c14 : (ji12) ≤ (x3_1.length : Int)
      ·rw [if_pos c14] at H
       have c14b0 := eq_true c14
       have c14b1 : decide ((ji12) ≤ (x3_1.length : Int)) = true := decide_eq_true c14
       clear c14
       obtain ⟨y214, hy214⟩ : ∃ y_ : List (S36), y_ = (x3_1.take ((ji12) : Int).toNat) := ⟨_, rfl⟩
       replace H : (spec_l3Fit.l0 k1 y214 l0_0 a0_1) = some (r1, r2) := by first | (rw [hy214]; with_reducible exact H) | (have H2_ := (Option.bind_some _ _).symm.trans H; rw [hy214]; with_reducible exact H2_) | (have H2_ := (Option.bind_some _ _).symm.trans H; with_reducible exact H2_) | with_reducible exact H | (rw [hy214]; exact H) | exact H
       have Ny214 := Aside0.mk hy214
       clear hy214
       have H' := Aside0.mk H
       clear H
       try go_wp2
       replace HO_3 := Aside0.mk (Kd.R_drew HO_3.out)
       replace BK205 := Aside0.mk (blk_drew BK205.out)
       replace BK206 := Aside0.mk (blk_drew BK206.out)
       replace HB := Aside0.mk (below_drew1 HB.out)
       obtain ⟨Ao16, co16, eo16⟩ := Kd.R_slice HO_3.out
       (first | subst eo16 | (injection eo16 with f1_ f2_ f3_; have f4_ := f1_.symm; have f5_ := f3_.symm; clear f1_ f2_ f3_; subst f4_; subst f5_))
       refine start_ (n := 5) (S := fun w' => w'.cell? ⟨gb205, 0, none⟩ = some (.slice A0_0 l0_0.length c0_0) ∧ w'.cell? ⟨gb205, 1, none⟩ = some (.int .i64 a0_1)) (ds := []) #[false, false, false, false, false] (by kernel_rfl) rfl rfl ⟨(blk_cell BK205.out 0).trans rfl, (blk_cell BK205.out 1).trans rfl⟩ (fun hHeld => ?_)
       generalize wr.drew = w15 at HO_3 BK205 BK206 HB hHeld ⊢
       refine pu 0 (some 8) (bm 5 1) rfl rfl ?_
       refine pu 2 (some 10) (bm 5 5) rfl rfl ?_
       refine tk2 3 (some 11) (bm 5 13) rfl rfl hHeld ?_
       refine one_ (i := 1) (N := some 9) (bm 5 15) rfl rfl (by kernel_rfl) (by decide) (fun K hK => ?_)
       refine gs Try.func52 #[.slice Ao16 x3_1.length co16] ?_
       with_reducible refine (spec_l3Size.calls k1 _ _ x3_1 t213 _ ?side1 ?side2 A10.out).mono ?_
       (case side1 => exact zc (Kd.R_reads' HO_3.out).2.2)
       (case side2 => exact (Kd.R_reads' HO_3.out).2.1)
       rintro e w17 ⟨rfl, hb⟩
       refine ⟨_, rfl, ?_⟩
       replace HO_3 := Aside0.mk (Kd.R_below (zr HO_3) hb)
       replace BK205 := Aside0.mk (blk_below (g := gb205) (o := .cells #[.slice A0_0 l0_0.length c0_0, .int .i64 a0_1] 25 (0, 0)) (zk BK205) hb)
       replace BK206 := Aside0.mk (blk_below (g := gb206) (o := .cells #[.slice none 0 0, .int .i64 0] 25 (0, 0)) (zk BK206) hb)
       replace HB := Aside0.mk (below_step (zb HB) hb)
       (try clear hb)
       refine hK.out _ _ ⟨(blk_cell BK205.out 0).trans rfl, (blk_cell BK205.out 1).trans rfl⟩ (fun hHeld => ?_)
       clear hK K
       refine nm ?_
       refine pu 4 (some 12) (bm 5 31) rfl rfl ?_
       refine done_ (by kernel_rfl) ?_
       have q18 : ((ji12) : Int) ≤ ((x3_1.length : Int) : Int) := of_decide_eq_true za
       obtain ⟨i018, hi018, _, hsz18, _⟩ := info_parts info36
       have hcut18 := cut_to (P := Try.prog) 23 36 .i64 Try.underlying23 hi018 Ao16 x3_1.length co16 (ji12) (of_decide_eq_true za) q18 (Kd.R_reads' HO_3.out).2.1
       have hr18 := Kd.R_take (m := ((ji12) : Int).toNat) HO_3.out (by omega)
       have hy18 : y214.length = ((ji12) : Int).toNat := (by rw [Ny214.out, List.length_take]; omega)
       rw [← Ny214.out] at hr18
       rw [← hy18] at hr18 hcut18
       clear hy18 hi018 hsz18 HO_3
       have HO216 := Aside0.mk hr18
       clear hr18
       replace q18 := eq_true q18
       try go_wp2
       go_roundg k1
       case measure => have := HK1.out; omega
       case rel => exact ⟨(y214), H', ⟨by have := HK1.out; omega⟩, ⟨by exact zr HO216⟩, ⟨by exact zk BK205⟩, ⟨by exact zk BK206⟩, ⟨zb HB⟩⟩
      ·rw [if_neg c14] at H
       exact absurd H (by simp)
     ·rw [if_neg c13] at H
      exact absurd H (by simp)
    ·rw [if_neg c11] at H
     have c11b0 : decide (a0_1 < t213) = false := decide_eq_false c11
     clear c11
     simp only [Option.some.injEq, Prod.mk.injEq] at H
     obtain ⟨rfl, rfl⟩ := H
     try go_wp2
     replace HO_3 := Aside0.mk (Kd.R_drew HO_3.out)
     replace BK205 := Aside0.mk (blk_drew BK205.out)
     replace BK206 := Aside0.mk (blk_drew BK206.out)
     replace HB := Aside0.mk (below_drew1 HB.out)
     obtain ⟨Ao20, co20, eo20⟩ := Kd.R_slice HO_3.out
     (first | subst eo20 | (injection eo20 with f1_ f2_ f3_; have f4_ := f1_.symm; have f5_ := f3_.symm; clear f1_ f2_ f3_; subst f4_; subst f5_))
     refine start_ (n := 5) (S := fun w' => w'.cell? ⟨gb205, 0, none⟩ = some (.slice A0_0 l0_0.length c0_0) ∧ w'.cell? ⟨gb205, 1, none⟩ = some (.int .i64 a0_1)) (ds := []) #[false, false, false, false, false] (by kernel_rfl) rfl rfl ⟨(blk_cell BK205.out 0).trans rfl, (blk_cell BK205.out 1).trans rfl⟩ (fun hHeld => ?_)
     generalize wr.drew = w19 at HO_3 BK205 BK206 HB hHeld ⊢
     refine pu 0 (some 8) (bm 5 1) rfl rfl ?_
     refine pu 2 (some 10) (bm 5 5) rfl rfl ?_
     refine tk2 3 (some 11) (bm 5 13) rfl rfl hHeld ?_
     refine one_ (i := 1) (N := some 9) (bm 5 15) rfl rfl (by kernel_rfl) (by decide) (fun K hK => ?_)
     refine gs Try.func52 #[.slice Ao20 x3_1.length co20] ?_
     with_reducible refine (spec_l3Size.calls k1 _ _ x3_1 t213 _ ?side1 ?side2 A10.out).mono ?_
     (case side1 => exact zc (Kd.R_reads' HO_3.out).2.2)
     (case side2 => exact (Kd.R_reads' HO_3.out).2.1)
     rintro e w21 ⟨rfl, hb⟩
     refine ⟨_, rfl, ?_⟩
     replace HO_3 := Aside0.mk (Kd.R_below (zr HO_3) hb)
     replace BK205 := Aside0.mk (blk_below (g := gb205) (o := .cells #[.slice A0_0 l0_0.length c0_0, .int .i64 a0_1] 25 (0, 0)) (zk BK205) hb)
     replace BK206 := Aside0.mk (blk_below (g := gb206) (o := .cells #[.slice none 0 0, .int .i64 0] 25 (0, 0)) (zk BK206) hb)
     replace HB := Aside0.mk (below_step (zb HB) hb)
     (try clear hb)
     refine hK.out _ _ ⟨(blk_cell BK205.out 0).trans rfl, (blk_cell BK205.out 1).trans rfl⟩ (fun hHeld => ?_)
     clear hK K
     refine nm ?_
     refine pu 4 (some 12) (bm 5 31) rfl rfl ?_
     refine done_ (by kernel_rfl) ?_
     have hnb22 := NB205_206.out
     have hnc22 := NB206_205.out
     have hcz23_0 : w21.cell? ⟨gb205, 0, none⟩ = some (.slice A0_0 l0_0.length c0_0) := (blk_cell BK205.out 0).trans rfl
     have hcz23_1 : w21.cell? ⟨gb205, 1, none⟩ = some (.int .i64 a0_1) := (blk_cell BK205.out 1).trans rfl
     have hfz23_0 := blk_frozen BK205.out 0
     have hfz23_1 := blk_frozen BK205.out 1
     have hcz24_0 : w21.cell? ⟨gb206, 0, none⟩ = some (.slice none 0 0) := (blk_cell BK206.out 0).trans rfl
     have hcz24_1 : w21.cell? ⟨gb206, 1, none⟩ = some (.int .i64 0) := (blk_cell BK206.out 1).trans rfl
     have hfz24_0 := blk_frozen BK206.out 0
     have hfz24_1 := blk_frozen BK206.out 1
     try go_wp2
     refine bodyPost_ret (results_cell_row rfl _ _ gb206 25 #[.slice Ao20 x3_1.length co20, .int .i64 a0_1] (0, 0) _ rfl (by (with_reducible repeat (first | refine blk_drewN ?_ _ | refine blk_drew ?_ | refine blk_alloc ?_ _)); refine blk_put (cs := #[.slice Ao20 x3_1.length co20, .int .i64 0]) ?_ 1 _ rfl; (with_reducible repeat (first | refine blk_drewN ?_ _ | refine blk_drew ?_ | refine blk_alloc ?_ _)); refine blk_put (cs := #[.slice none 0 0, .int .i64 0]) ?_ 0 _ rfl; exact zk BK206) Try.underlying25 rfl (by kernel_rfl)) rfl ?_
     exact ⟨_, ze, by (with_reducible repeat (first | apply Kd.R_alloc | apply Kd.R_drewN | apply Kd.R_drew)); exact Kd.R_mono (Kd.R_far (p := ⟨gb206, 1, none⟩) (Kd.R_far (p := ⟨gb206, 0, none⟩) (Kd.R_types HO_3.out BK206.out (by decide)) (fun _ hk => hk.2) (.slice Ao20 x3_1.length co20)) (fun _ hk => hk.2) (.int .i64 a0_1)) (fun _ hk => trivial), zb HB⟩
 ·rw [if_neg c2] at H
  exact absurd H (by simp)

/-! ### spec_l3Add: function 60 -/
-- thin
def spec_l3Add.f (k : Nat) (l0_0 : List (S36)) (a0_1 : Int) (a1_0 : ByteArray) (a1_1 : ByteArray) (a1_2 : Bool) : Option ((List (S36)) × Int) := (some (([(⟨a1_0, a1_1, false⟩ : S36)] : List (S36)) : List (S36))).bind fun y220 => (if y220.length + l0_0.length < 3518437208883 then ((spec_l3Fit.f k (y220 ++ l0_0) a0_1).bind fun bt226 => (some (bt226.1, bt226.2))) else (none))
theorem spec_l3Add.mono : ∀ a0 a1 a2 a3 a4 k, LeO (spec_l3Add.f k a0 a1 a2 a3 a4) (spec_l3Add.f (k + 1) a0 a1 a2 a3 a4) := by
 intro a0 a1 a2 a3 a4 k
 unfold spec_l3Add.f
 repeat' first
   | (with_reducible exact spec_l3Fit.mono _ _ _)
   | (with_reducible exact LeO.refl _)
   | (with_reducible exact LeO.none _)
   | (with_reducible refine LeO.ite ?_ ?_)
   | (with_reducible refine LeO.bind ?_ (fun _ => ?_))
   | exact spec_l3Fit.mono _ _ _
   | exact LeO.none _
   | refine LeO.ite ?_ ?_
   | refine LeO.bind ?_ (fun _ => ?_)
def spec_l3Add.T2 : Bool × List (List Nat × List Nat) := (true, [([], []), ([0], [0]), ([], []), ([2], [2]), ([1, 3], [1, 3]), ([], []), ([5], [5]), ([4, 6], [4, 6]), ([7, 4], [7]), ([8, 8, 0, 1, 2, 3, 4, 5, 6, 7, 8], [8])])
def spec_l3Add.B2 : List Nat := [0, 1, 0, 4, 15, 0, 32, 127, 255, 511]
theorem spec_l3Add.tab2 : rtab .any (opsOf Try.f60 2) = spec_l3Add.T2 := by kernel_rfl
theorem spec_l3Add.bits2 : waitsOk spec_l3Add.T2.2 spec_l3Add.B2 = true := by kernel_rfl
set_option maxHeartbeats 8000000 in
set_option maxRecDepth 100000 in
theorem spec_l3Add.calls (k : Nat) (A0_0 : Option Addr) (c0_0 : Nat) (l0_0 : List (S36)) (a0_1 : Int) (a1_0 : ByteArray) (a1_1 : ByteArray) (a1_2 : Bool) (r1 : List (S36)) (r2 : Int) (w : World) (hr0_0 : Kd.C k36 w A0_0 l0_0.length l0_0) (hc0_0 : l0_0.length ≤ c0_0) (h : spec_l3Add.f k l0_0 a0_1 a1_0 a1_1 a1_2 = some (r1, r2)) :
  Calls Try.prog 60 #[.agg #[.slice A0_0 l0_0.length c0_0, .int .i64 a0_1], .agg #[.string a1_0, .string a1_1, .bool a1_2]] w fun e w' => ∃ v0_ : Value, e = .returned (.agg #[v0_, .int .i64 r2]) ∧ Kd.R k36 36 w' w.heap.size (fun _ => True) v0_ r1 ∧ Below w.heap.size w w' := by
 have hu25 := Try.underlying25
 have hu36 := Try.underlying36
 have HR0_0 := Aside0.mk hr0_0
 have HC0_0 := Aside0.mk hc0_0
 clear hr0_0 hc0_0
 have HB := Aside0.mk (Below.refl w.heap.size w)
 have H : ((some (([(⟨a1_0, a1_1, false⟩ : S36)] : List (S36)) : List (S36))).bind fun y220 => (if y220.length + l0_0.length < 3518437208883 then ((spec_l3Fit.f k (y220 ++ l0_0) a0_1).bind fun bt226 => (some (bt226.1, bt226.2))) else (none))) = some (r1, r2) := h
 clear h
 obtain ⟨y220, hy220⟩ : ∃ y_ : List (S36), y_ = (([(⟨a1_0, a1_1, false⟩ : S36)] : List (S36))) := ⟨_, rfl⟩
 replace H : (if y220.length + l0_0.length < 3518437208883 then ((spec_l3Fit.f k (y220 ++ l0_0) a0_1).bind fun bt226 => (some (bt226.1, bt226.2))) else (none)) = some (r1, r2) := by first | (rw [hy220]; with_reducible exact H) | (have H2_ := (Option.bind_some _ _).symm.trans H; rw [hy220]; with_reducible exact H2_) | (have H2_ := (Option.bind_some _ _).symm.trans H; with_reducible exact H2_) | with_reducible exact H | (rw [hy220]; exact H) | exact H
 have Ny220 := Aside0.mk hy220
 clear hy220
 by_cases c3 : y220.length + l0_0.length < 3518437208883
 ·rw [if_pos c3] at H
  have LMc3 := Aside0.mk c3
  clear c3
  obtain ⟨y223, hy223⟩ : ∃ y_ : List (S36), y_ = (y220 ++ l0_0) := ⟨_, rfl⟩
  replace H : ((spec_l3Fit.f k y223 a0_1).bind fun bt226 => (some (bt226.1, bt226.2))) = some (r1, r2) := by first | (rw [hy223]; with_reducible exact H) | (have H2_ := (Option.bind_some _ _).symm.trans H; rw [hy223]; with_reducible exact H2_) | (have H2_ := (Option.bind_some _ _).symm.trans H; with_reducible exact H2_) | with_reducible exact H | (rw [hy223]; exact H) | exact H
  have Ny223 := Aside0.mk hy223
  clear hy223
  replace H := Option.bind_eq_some_iff.mp H
  obtain ⟨⟨t226, t229⟩, A40, H⟩ := H
  replace H : (some (t226, t229)) = some (r1, r2) := H
  have A4 := Aside0.mk A40
  clear A40
  simp only [Option.some.injEq, Prod.mk.injEq] at H
  obtain ⟨rfl, rfl⟩ := H
  go_enter Try.func60, Try.ntmps60
  try go_wp2_with (first | ((with_reducible refine gd 2 rfl ?_); refine bx (N := 2) (cs := #[.slice A0_0 l0_0.length c0_0, .int .i64 a0_1]) (t := 25) ?_; intro gb217 hg w5 hbox hb; have BK217 := Aside0.mk (hbox); have GW217 := Aside0.mk ((by rw [hg]; exact (below_size (zb HB)) : w.heap.size ≤ gb217)); have GE217 := Aside0.mk ((by rw [hg]; exact (below_size (zb HB)) : w.heap.size ≤ gb217)); replace HB := Aside0.mk (below_step (zb HB) hb); clear hb hbox hg) | ((with_reducible refine gd 3 rfl ?_); refine bx (N := 3) (cs := #[.string a1_0, .string a1_1, .bool a1_2]) (t := 36) ?_; intro gb218 hg w6 hbox hb; have BK218 := Aside0.mk (hbox); have GW218 := Aside0.mk ((by rw [hg]; exact (below_size (zb HB)) : w.heap.size ≤ gb218)); have GE218 := Aside0.mk ((by rw [hg]; exact (below_size (zb HB)) : w.heap.size ≤ gb218)); replace HB := Aside0.mk (below_step (zb HB) hb); have NB217_218 := Aside0.mk ((by rw [hg]; exact Nat.ne_of_lt (blk_lt (g := gb217) (o := .cells #[.slice A0_0 l0_0.length c0_0, .int .i64 a0_1] 25 (0, 0)) (zk BK217)) : gb217 ≠ gb218)); have NB218_217 := Aside0.mk ((by rw [hg]; exact Nat.ne_of_gt (blk_lt (g := gb217) (o := .cells #[.slice A0_0 l0_0.length c0_0, .int .i64 a0_1] 25 (0, 0)) (zk BK217)) : gb218 ≠ gb217)); replace BK217 := Aside0.mk (blk_below (g := gb217) (o := .cells #[.slice A0_0 l0_0.length c0_0, .int .i64 a0_1] 25 (0, 0)) (zk BK217) hb); clear hb hbox hg) | ((with_reducible refine gd 4 rfl ?_); refine bx (N := 4) (cs := #[.slice none 0 0, .int .i64 0]) (t := 25) ?_; intro gb219 hg w7 hbox hb; have BK219 := Aside0.mk (hbox); have GW219 := Aside0.mk ((by rw [hg]; exact (below_size (zb HB)) : w.heap.size ≤ gb219)); have GE219 := Aside0.mk ((by rw [hg]; exact (below_size (zb HB)) : w.heap.size ≤ gb219)); replace HB := Aside0.mk (below_step (zb HB) hb); have NB217_219 := Aside0.mk ((by rw [hg]; exact Nat.ne_of_lt (blk_lt (g := gb217) (o := .cells #[.slice A0_0 l0_0.length c0_0, .int .i64 a0_1] 25 (0, 0)) (zk BK217)) : gb217 ≠ gb219)); have NB219_217 := Aside0.mk ((by rw [hg]; exact Nat.ne_of_gt (blk_lt (g := gb217) (o := .cells #[.slice A0_0 l0_0.length c0_0, .int .i64 a0_1] 25 (0, 0)) (zk BK217)) : gb219 ≠ gb217)); replace BK217 := Aside0.mk (blk_below (g := gb217) (o := .cells #[.slice A0_0 l0_0.length c0_0, .int .i64 a0_1] 25 (0, 0)) (zk BK217) hb); have NB218_219 := Aside0.mk ((by rw [hg]; exact Nat.ne_of_lt (blk_lt (g := gb218) (o := .cells #[.string a1_0, .string a1_1, .bool a1_2] 36 (0, 0)) (zk BK218)) : gb218 ≠ gb219)); have NB219_218 := Aside0.mk ((by rw [hg]; exact Nat.ne_of_gt (blk_lt (g := gb218) (o := .cells #[.string a1_0, .string a1_1, .bool a1_2] 36 (0, 0)) (zk BK218)) : gb219 ≠ gb218)); replace BK218 := Aside0.mk (blk_below (g := gb218) (o := .cells #[.string a1_0, .string a1_1, .bool a1_2] 36 (0, 0)) (zk BK218) hb); clear hb hbox hg; have hnb8 := NB218_217.out; have hnc8 := NB217_218.out; have hnb9 := NB218_219.out; have hnc9 := NB219_218.out; have hcz10_0 : w7.cell? ⟨gb218, 0, none⟩ = some (.string a1_0) := (blk_cell BK218.out 0).trans rfl; have hcz10_1 : w7.cell? ⟨gb218, 1, none⟩ = some (.string a1_1) := (blk_cell BK218.out 1).trans rfl; have hcz10_2 : w7.cell? ⟨gb218, 2, none⟩ = some (.bool a1_2) := (blk_cell BK218.out 2).trans rfl; have hfz10_0 := blk_frozen BK218.out 0; have hfz10_1 := blk_frozen BK218.out 1; have hfz10_2 := blk_frozen BK218.out 2))
  have n0_ : Aside0 ((w7.setCell ⟨gb218, 2, none⟩ (.bool false)).heap[gb217]? = some (.cells #[.slice A0_0 l0_0.length c0_0, .int .i64 a0_1] 25 (0, 0))) := ⟨by (with_reducible repeat (first | refine blk_drewN ?_ _ | refine blk_drew ?_ | refine blk_alloc ?_ _)); refine blk_far ?_ NB217_218.out _; exact zk BK217⟩
  have n1_ : Aside0 ((w7.setCell ⟨gb218, 2, none⟩ (.bool false)).heap[gb218]? = some (.cells #[.string a1_0, .string a1_1, .bool false] 36 (0, 0))) := ⟨by (with_reducible repeat (first | refine blk_drewN ?_ _ | refine blk_drew ?_ | refine blk_alloc ?_ _)); refine blk_put (cs := #[.string a1_0, .string a1_1, .bool a1_2]) ?_ 2 _ rfl; exact zk BK218⟩
  have n2_ : Aside0 ((w7.setCell ⟨gb218, 2, none⟩ (.bool false)).heap[gb219]? = some (.cells #[.slice none 0 0, .int .i64 0] 25 (0, 0))) := ⟨by (with_reducible repeat (first | refine blk_drewN ?_ _ | refine blk_drew ?_ | refine blk_alloc ?_ _)); refine blk_far ?_ NB219_218.out _; exact zk BK219⟩
  have n3_ : Aside0 (Below w.heap.size w (w7.setCell ⟨gb218, 2, none⟩ (.bool false))) := ⟨zb HB⟩
  (try clear BK217)
  (try clear BK218)
  (try clear BK219)
  (try clear HB)
  generalize (w7.setCell ⟨gb218, 2, none⟩ (.bool false)) = w11 at n0_ n1_ n2_ n3_ ⊢
  have BK217 := n0_
  have BK218 := n1_
  have BK219 := n2_
  have HB := n3_
  clear n0_ n1_ n2_ n3_
  replace BK217 := Aside0.mk (blk_drew BK217.out)
  replace BK218 := Aside0.mk (blk_drew BK218.out)
  replace BK219 := Aside0.mk (blk_drew BK219.out)
  replace HB := Aside0.mk (below_drew1 HB.out)
  refine start_ (n := 10) (S := fun w' => w'.cell? ⟨gb218, 0, none⟩ = some (.string a1_0) ∧ w'.cell? ⟨gb218, 1, none⟩ = some (.string a1_1) ∧ w'.cell? ⟨gb218, 2, none⟩ = some (.bool false) ∧ w'.cell? ⟨gb217, 0, none⟩ = some (.slice A0_0 l0_0.length c0_0) ∧ w'.cell? ⟨gb217, 1, none⟩ = some (.int .i64 a0_1)) (ds := []) #[false, false, false, false, false, false, false, false, false, false] (by kernel_rfl) rfl rfl ⟨(blk_cell BK218.out 0).trans rfl, (blk_cell BK218.out 1).trans rfl, (blk_cell BK218.out 2).trans rfl, (blk_cell BK217.out 0).trans rfl, (blk_cell BK217.out 1).trans rfl⟩ (fun hHeld => ?_); refine with_tabW spec_l3Add.tab2 spec_l3Add.bits2 (fun HT_ HW_ => ?_)
  generalize w11.drew = w12 at BK217 BK218 BK219 HB hHeld ⊢
  refine pu 2 (some 8) (bm 10 4) rfl rfl ?_
  refine pu 5 (some 11) (bm 10 36) rfl rfl ?_
  refine tk5 0 (some 6) (bm 10 37) rfl rfl hHeld ?_
  refine tk5 3 (some 9) (bm 10 45) rfl rfl hHeld ?_
  refine tk5 6 (some 12) (bm 10 109) rfl rfl hHeld ?_
  refine one_ (i := 1) (N := some 7) (bm 10 111) rfl rfl (one_of HT_.out (by kernel_rfl)) (by decide) (fun K hK => ?_)
  refine Kd.R_lit_step k36 _ 36 ?hg (N := 7) ?hd (xs := ([(⟨a1_0, a1_1, false⟩ : S36)] : List (S36))) (inner := [.string a1_0, .string a1_1, .bool false]) (ok := fun _ => True) (okp := fun _ => True) ?hr ?hp (fun _ hk => hk) trivial (Below.refl _ _) (Nat.le_refl _) (by simp) ?_; (case hd => rfl); (case hg => rfl); (case hr => first | (go_simp; done) | (go_simp; rfl)); (case hp => exact (Reps.c3 (show Kd.M k36 _ _ _ (⟨a1_0, a1_1, false⟩ : S36) [.string a1_0, .string a1_1, .bool false] from (k36_mkM _ _ _ (⟨a1_0, a1_1, false⟩ : S36) )) (Reps.none _ _)))
  intro v221 w13 ho14 hb hg_ hnew_
  clear hg_ hnew_
  (first | rw [← Ny220.out] at ho14 | (simp only [Int.reduceToNat] at ho14; rw [← Ny220.out] at ho14))
  have HO222 := Aside0.mk (Kd.R_lower (Kd.R_newB ho14 (g := gb218) (o := .cells #[.string a1_0, .string a1_1, .bool false] 36 (0, 0)) (zk BK218)) (below_size (zb HB)))
  replace BK217 := Aside0.mk (blk_below (g := gb217) (o := .cells #[.slice A0_0 l0_0.length c0_0, .int .i64 a0_1] 25 (0, 0)) (zk BK217) hb)
  replace BK218 := Aside0.mk (blk_below (g := gb218) (o := .cells #[.string a1_0, .string a1_1, .bool false] 36 (0, 0)) (zk BK218) hb)
  replace BK219 := Aside0.mk (blk_below (g := gb219) (o := .cells #[.slice none 0 0, .int .i64 0] 25 (0, 0)) (zk BK219) hb)
  replace HB := Aside0.mk (below_step (zb HB) hb)
  clear hb ho14
  refine hK.out _ _ ⟨(blk_cell BK218.out 0).trans rfl, (blk_cell BK218.out 1).trans rfl, (blk_cell BK218.out 2).trans rfl, (blk_cell BK217.out 0).trans rfl, (blk_cell BK217.out 1).trans rfl⟩ (fun hHeld => ?_)
  clear hK K
  refine nm ?_
  refine one_ (i := 4) (N := some 10) (bm 10 127) rfl rfl (one_of HT_.out (by kernel_rfl)) (by decide) (fun K hK => ?_)
  refine Kd.R_append_rows_step k36 (w0 := w) w.heap.size (by rfl) (.tmp 7) (.tmp 9) 23 36 (.agg #[(.string ⟨#[]⟩), (.string ⟨#[]⟩), (.bool false)]) 40 rfl Try.underlying23 info36 rfl (by decide) (by omega) v221 y220 l0_0 _ _ _ (fun k_ => k_ ≠ gb218) (fun _ => False) rfl rfl ?aO ?aR (fun _ _ h => h) (fun _ h => h.elim) ?aF ?aB ?aS ?aL ?_
  (case aR => exact zc (Kd.C_below HR0_0.out HB.out))
  (case aB => exact (zb HB))
  (case aF => exact (fun k_ hk => Kd.freshB (g := gb218) (o := .cells #[.string a1_0, .string a1_1, .bool false] 36 (0, 0)) (zk BK218) k_ hk))
  (case aO => exact (by (with_reducible repeat (first | apply Kd.R_alloc | apply Kd.R_drewN | apply Kd.R_drew)); exact Kd.R_mono HO222.out (fun _ hk => hk.2)))
  (case aS => exact (below_size (zb HB)))
  (case aL => have := LMc3.out; omega)
  intro v224 w15 ho hb hg hat
  rw [← Ny223.out] at ho
  replace BK217 := Aside0.mk (blk_grown (g := gb217) (o := .cells #[.slice A0_0 l0_0.length c0_0, .int .i64 a0_1] 25 (0, 0)) (zk BK217) hg (Kd.R_ne HO222.out BK217.out (by decide)))
  replace BK218 := Aside0.mk (blk_grown (g := gb218) (o := .cells #[.string a1_0, .string a1_1, .bool false] 36 (0, 0)) (zk BK218) hg (Kd.R_away HO222.out (fun _ hk => hk.2)))
  replace BK219 := Aside0.mk (blk_grown (g := gb219) (o := .cells #[.slice none 0 0, .int .i64 0] 25 (0, 0)) (zk BK219) hg (Kd.R_ne HO222.out BK219.out (by decide)))
  replace HB := Aside0.mk (hb)
  have HO225 := Aside0.mk (ho)
  clear HO222
  clear ho hb hg hat
  obtain ⟨Ao16, co16, eo16⟩ := Kd.R_slice HO225.out
  (first | subst eo16 | (injection eo16 with f1_ f2_ f3_; have f4_ := f1_.symm; have f5_ := f3_.symm; clear f1_ f2_ f3_; subst f4_; subst f5_))
  refine hK.out _ _ ⟨(blk_cell BK218.out 0).trans rfl, (blk_cell BK218.out 1).trans rfl, (blk_cell BK218.out 2).trans rfl, (blk_cell BK217.out 0).trans rfl, (blk_cell BK217.out 1).trans rfl⟩ (fun hHeld => ?_)
  clear hK K
  refine nm ?_
  refine pu 7 (some 13) (bm 10 255) rfl rfl ?_
  refine one_ (i := 8) (N := some 14) (bm 10 511) rfl rfl (one_of HT_.out (by kernel_rfl)) (by decide) (fun K hK => ?_)
  refine gs Try.func51 #[.agg #[.slice Ao16 y223.length co16, .int .i64 a0_1]] ?_
  with_reducible refine (spec_l3Fit.calls k _ _ y223 a0_1 t226 t229 _ ?side1 ?side2 A4.out).mono ?_
  (case side1 => exact zc (Kd.R_reads' HO225.out).2.2)
  (case side2 => exact (Kd.R_reads' HO225.out).2.1)
  rintro e w17 ⟨v227, rfl, ho0, hb⟩
  refine ⟨_, rfl, ?_⟩
  have HO228 := Aside0.mk (Kd.R_lower (Kd.R_newB (Kd.R_new' ho0 (Kd.R_lt (zr HO225))) (g := gb218) (o := .cells #[.string a1_0, .string a1_1, .bool false] 36 (0, 0)) (zk BK218)) (below_size (zb HB)))
  replace HO225 := Aside0.mk (Kd.R_elder' (zr HO225) (Kd.R_base ho0) hb)
  replace BK217 := Aside0.mk (blk_below (g := gb217) (o := .cells #[.slice A0_0 l0_0.length c0_0, .int .i64 a0_1] 25 (0, 0)) (zk BK217) hb)
  replace BK218 := Aside0.mk (blk_below (g := gb218) (o := .cells #[.string a1_0, .string a1_1, .bool false] 36 (0, 0)) (zk BK218) hb)
  replace BK219 := Aside0.mk (blk_below (g := gb219) (o := .cells #[.slice none 0 0, .int .i64 0] 25 (0, 0)) (zk BK219) hb)
  replace HB := Aside0.mk (below_step (zb HB) hb)
  (try clear hb)
  (try clear ho0)
  obtain ⟨Ao18, co18, eo18⟩ := Kd.R_slice HO228.out
  (first | subst eo18 | (injection eo18 with f1_ f2_ f3_; have f4_ := f1_.symm; have f5_ := f3_.symm; clear f1_ f2_ f3_; subst f4_; subst f5_))
  refine hK.out _ _ ⟨(blk_cell BK218.out 0).trans rfl, (blk_cell BK218.out 1).trans rfl, (blk_cell BK218.out 2).trans rfl, (blk_cell BK217.out 0).trans rfl, (blk_cell BK217.out 1).trans rfl⟩ (fun hHeld => ?_)
  clear hK K
  refine nm ?_
  refine one_ (i := 9) (N := none) (bm 10 1023) rfl rfl (one_of HT_.out (by kernel_rfl)) (by decide) (fun K hK => ?_)
  have hs19 : w17.cell? ⟨gb219, 0, none⟩ = some (.slice none 0 0) := (blk_cell BK219.out 0).trans rfl
  have hfs19 := blk_frozen BK219.out 0
  have hns19_0 := NB217_219.out
  have hns19_1 := NB218_219.out
  have hms19_0 := NB219_217.out
  have hms19_1 := NB219_218.out
  have hs20 : w17.cell? ⟨gb219, 1, none⟩ = some (.int .i64 0) := (blk_cell BK219.out 1).trans rfl
  have hfs20 := blk_frozen BK219.out 1
  have hns20_0 := NB217_219.out
  have hns20_1 := NB218_219.out
  have hms20_0 := NB219_217.out
  have hms20_1 := NB219_218.out
  refine skip_ (w1 := ?_) (by rfl) rfl ?_ ?_
  rotate_left
  ·go_simp
   rfl
  refine hK.out _ _ ⟨((cell_far (p := ⟨gb219, _, none⟩) NB218_219.out _).trans (((cell_far (p := ⟨gb219, _, none⟩) NB218_219.out _).trans (hHeld.1)))), ((cell_far (p := ⟨gb219, _, none⟩) NB218_219.out _).trans (((cell_far (p := ⟨gb219, _, none⟩) NB218_219.out _).trans (hHeld.2.1)))), ((cell_far (p := ⟨gb219, _, none⟩) NB218_219.out _).trans (((cell_far (p := ⟨gb219, _, none⟩) NB218_219.out _).trans (hHeld.2.2.1)))), ((cell_far (p := ⟨gb219, _, none⟩) NB217_219.out _).trans (((cell_far (p := ⟨gb219, _, none⟩) NB217_219.out _).trans (hHeld.2.2.2.1)))), ((cell_far (p := ⟨gb219, _, none⟩) NB217_219.out _).trans (((cell_far (p := ⟨gb219, _, none⟩) NB217_219.out _).trans (hHeld.2.2.2.2))))⟩ (fun hHeld => ?_)
  clear hK K
  refine done_ (done_of HT_.out (by kernel_rfl)) ?_
  try go_wp2
  refine bodyPost_ret (results_cell_row rfl _ _ gb219 25 #[.slice Ao18 t226.length co18, .int .i64 t229] (0, 0) _ rfl (by (with_reducible repeat (first | refine blk_drewN ?_ _ | refine blk_drew ?_ | refine blk_alloc ?_ _)); refine blk_put (cs := #[.slice Ao18 t226.length co18, .int .i64 0]) ?_ 1 _ rfl; (with_reducible repeat (first | refine blk_drewN ?_ _ | refine blk_drew ?_ | refine blk_alloc ?_ _)); refine blk_put (cs := #[.slice none 0 0, .int .i64 0]) ?_ 0 _ rfl; exact zk BK219) Try.underlying25 rfl (by kernel_rfl)) rfl ?_
  exact ⟨_, ze, by (with_reducible repeat (first | apply Kd.R_alloc | apply Kd.R_drewN | apply Kd.R_drew)); exact Kd.R_mono (Kd.R_far (p := ⟨gb219, 1, none⟩) (Kd.R_far (p := ⟨gb219, 0, none⟩) (Kd.R_types HO228.out BK219.out (by decide)) (fun _ hk => hk.2) (.slice Ao18 t226.length co18)) (fun _ hk => hk.2) (.int .i64 t229)) (fun _ hk => trivial), zb HB⟩
 ·rw [if_neg c3] at H
  exact absurd H (by simp)

end Go.Proofs.Ytdhahifdcoinhaa.PFnHeadAgain
