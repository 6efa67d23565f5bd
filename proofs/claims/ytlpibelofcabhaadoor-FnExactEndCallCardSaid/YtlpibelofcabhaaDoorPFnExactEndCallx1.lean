-- WRITTEN BY a turned print (wip/tools of the prover's repo)
import Derived.Test.YtlpibelofcabhaaDoorPFnExactEndCallx0
namespace Go.Proofs.YtlpibelofcabhaaDoor.PFnExactEndCall
open Go.RowKit Go.Proofs.YtlpibelofcabhaaDoorW.PrintWords Go.Proofs.YtlpibelofcabhaaDoorW.PrintLast Go.Proofs.YtlpibelofcabhaaDoorW.PrintMore Go.Proofs.YtlpibelofcabhaaDoor.Lm
attribute [local go_sem] max2_int min2_int max_two min_two max_three min_three max_four min_four   -- for this text's walks alone
set_option linter.unusedVariables false
set_option linter.unusedSimpArgs false

/-! ### laws_szField: function 68 -/
-- thin
def laws_szField.f (a0_0 : ByteArray) (a0_1 : ByteArray) (a0_2 : Bool) (a1 : Int) : Option (Int) := if (wrap64 (a1 - (a0_0.size : Int))) < 0 then (some (-1)) else (if (wrap64 ((wrap64 (a1 - (a0_0.size : Int))) - (a0_1.size : Int))) < 0 then (some (-1)) else (some (wrap64 ((wrap64 (a1 - (a0_0.size : Int))) - (a0_1.size : Int)))))
set_option maxHeartbeats 8000000 in
set_option maxRecDepth 100000 in
theorem laws_szField.calls (a0_0 : ByteArray) (a0_1 : ByteArray) (a0_2 : Bool) (a1 : Int) (r : Int) (w : World) (h : laws_szField.f a0_0 a0_1 a0_2 a1 = some r) :
  Calls Tryd.prog 68 #[.agg #[.string a0_0, .string a0_1, .bool a0_2], .int .i64 a1] w fun e w' => e = .returned (.int .i64 r) ∧ Below w.heap.size w w' := by
 have hu96 := Tryd.underlying96
 have HB := Aside0.mk (Below.refl w.heap.size w)
 have H : (if (wrap64 (a1 - (a0_0.size : Int))) < 0 then (some (-1)) else (if (wrap64 ((wrap64 (a1 - (a0_0.size : Int))) - (a0_1.size : Int))) < 0 then (some (-1)) else (some (wrap64 ((wrap64 (a1 - (a0_0.size : Int))) - (a0_1.size : Int)))))) = some r := h
 clear h
 replace H := sp H
 rcases H with ⟨c3, H⟩ | ⟨c3, H⟩
 ·skip
  have c3b0 := decide_eq_true c3
  clear c3
  obtain rfl := Option.some.inj H
  go_enter Tryd.func68, Tryd.ntmps68
  go_wp2_with (first | ((with_reducible refine gd 2 rfl ?_); refine bx (N := 2) (cs := #[.string a0_0, .string a0_1, .bool a0_2]) (t := 96) ?_; intro gb101 hg w4 hbox hb; have BK101 := Aside0.mk (hbox); have GW101 := gw HB hg; have GE101 := GW101; replace HB := Aside0.mk (below_step (zb HB) hb); clear hb hbox hg; obtain ⟨hcz5_0, hcz5_1, hcz5_2, hfz5_0, hfz5_1, hfz5_2⟩ := c3 BK101))
  go_ret
  exact ⟨ze, zb HB⟩
 ·skip
  have c3b0 := decide_eq_false c3
  clear c3
  replace H := sp H
  rcases H with ⟨c6, H⟩ | ⟨c6, H⟩
  ·skip
   have c6b0 := decide_eq_true c6
   clear c6
   obtain rfl := Option.some.inj H
   go_enter Tryd.func68, Tryd.ntmps68
   go_wp2_with (first | ((with_reducible refine gd 2 rfl ?_); refine bx (N := 2) (cs := #[.string a0_0, .string a0_1, .bool a0_2]) (t := 96) ?_; intro gb101 hg w7 hbox hb; have BK101 := Aside0.mk (hbox); have GW101 := gw HB hg; have GE101 := GW101; replace HB := Aside0.mk (below_step (zb HB) hb); clear hb hbox hg; obtain ⟨hcz8_0, hcz8_1, hcz8_2, hfz8_0, hfz8_1, hfz8_2⟩ := c3 BK101))
   go_ret
   exact ⟨ze, zb HB⟩
  ·skip
   have c6b0 := decide_eq_false c6
   clear c6
   obtain rfl := Option.some.inj H
   go_enter Tryd.func68, Tryd.ntmps68
   go_wp2_with (first | ((with_reducible refine gd 2 rfl ?_); refine bx (N := 2) (cs := #[.string a0_0, .string a0_1, .bool a0_2]) (t := 96) ?_; intro gb101 hg w9 hbox hb; have BK101 := Aside0.mk (hbox); have GW101 := gw HB hg; have GE101 := GW101; replace HB := Aside0.mk (below_step (zb HB) hb); clear hb hbox hg; obtain ⟨hcz10_0, hcz10_1, hcz10_2, hfz10_0, hfz10_1, hfz10_2⟩ := c3 BK101))
   go_ret
   exact ⟨ze, zb HB⟩

/-! ### laws_szFieldS: function 36 -/
-- thin
def laws_szFieldS.l0 : Nat → List (S96) → Int → Int → Option (Int)
 | 0, _, _, _ => none
 | k + 1, x0, x1, x5 => if x5 < (x0.length : Int) then (if 0 ≤ x5 then ((laws_szField.f ((rd_T96 x0 x5).f0) ((rd_T96 x0 x5).f1) ((rd_T96 x0 x5).f2) x1).bind fun t103 => (if t103 < 0 then (some (-1)) else (laws_szFieldS.l0 k x0 t103 (wrap64 (x5 + 1))))) else (none)) else (some x1)
def laws_szFieldS.f (k : Nat) (l0 : List (S96)) (a1 : Int) : Option (Int) := if (wrap64 (a1 - (l0.length : Int))) < 0 then (some (-1)) else (laws_szFieldS.l0 k l0 (wrap64 (a1 - (l0.length : Int))) 0)
theorem laws_szFieldS.mono_l : ∀ k, (∀ y0 y1 y2, LeO (laws_szFieldS.l0 k y0 y1 y2) (laws_szFieldS.l0 (k + 1) y0 y1 y2))
 | 0 => fun _ _ _ r h => by simp [laws_szFieldS.l0] at h
 | k + 1 => by
  have ih0 := laws_szFieldS.mono_l k
  ·intro y0 y1 y2
   unfold laws_szFieldS.l0
   exact zm
theorem laws_szFieldS.mono : ∀ a0 a1 k, LeO (laws_szFieldS.f k a0 a1) (laws_szFieldS.f (k + 1) a0 a1) := by
 intro a0 a1 k
 have ih0 := laws_szFieldS.mono_l k
 unfold laws_szFieldS.f
 exact zm
set_option maxHeartbeats 8000000 in
set_option maxRecDepth 100000 in
theorem laws_szFieldS.calls (k : Nat) (A0 : Option Addr) (c0 : Nat) (l0 : List (S96)) (a1 : Int) (r : Int) (w : World) (hr0 : Kd.C k96 w A0 l0.length l0) (hc0 : l0.length ≤ c0) (h : laws_szFieldS.f k l0 a1 = some r) :
  Calls Tryd.prog 36 #[.slice A0 l0.length c0, .int .i64 a1] w fun e w' => e = .returned (.int .i64 r) ∧ Below w.heap.size w w' := by
 have hu96 := Tryd.underlying96
 have HR0 := Aside0.mk hr0
 have HC0 := Aside0.mk hc0
 clear hr0 hc0
 have HB := Aside0.mk (Below.refl w.heap.size w)
 have H : (if (wrap64 (a1 - (l0.length : Int))) < 0 then (some (-1)) else (laws_szFieldS.l0 k l0 (wrap64 (a1 - (l0.length : Int))) 0)) = some r := h
 clear h
 replace H := sp H
 rcases H with ⟨c3, H⟩ | ⟨c3, H⟩
 ·skip
  have c3b0 := decide_eq_true c3
  clear c3
  obtain rfl := Option.some.inj H
  go_enter Tryd.func36, Tryd.ntmps36
  go_wp2
  go_ret
  exact ⟨ze, zb HB⟩
 ·skip
  have c3b0 := decide_eq_false c3
  clear c3
  have H' := Aside0.mk H
  clear H
  go_enter Tryd.func36, Tryd.ntmps36
  go_wp2
  go_loopg [1, 5] k (fun kq v1 v5 w' => ∃ (x1_1 : Int) (x5_1 : Int), v1 = .int .i64 x1_1 ∧ v5 = .int .i64 x5_1 ∧ Aside0 (laws_szFieldS.l0 kq l0 x1_1 x5_1 = some r) ∧ Aside0 (kq ≤ k) ∧ Aside0 (Below w.heap.size w w'))
  case atStart => exact ⟨(wrap64 (a1 - (l0.length : Int))), (0), zs, zs, H', ⟨Nat.le_refl _⟩, ⟨zb HB⟩⟩
  case round =>
   clear H'
   try clear p2
   try clear c3
   try clear c3b0
   obtain ⟨x1_1, x5_1, rfl, rfl, HA, HK1, HB⟩ := hrel
   cases gk with
   | zero => exact absurd HA.out (by simp [laws_szFieldS.l0])
   | succ k1 =>
    have H := HA.out
    clear HA
    simp only [laws_szFieldS.l0] at H
    replace H := sp H
    rcases H with ⟨c4, H⟩ | ⟨c4, H⟩
    ·skip
     have c4b0 := decide_eq_true c4
     clear c4
     by_cases c5 : 0 ≤ x5_1
     ·rw [if_pos c5] at H
      have c5b0 := decide_eq_true c5
      clear c5
      obtain ⟨t103, A6, H⟩ := ob H
      (try dsimp only at H)
      have HC7 := Aside0.mk H
      clear H
      have p102 : 0 ≤ (x5_1 : Int) := of_decide_eq_true za
      have q102 : x5_1 < (l0.length : Int) := of_decide_eq_true za
      obtain ⟨ad102, e102, hx102_0, hx102_1, hx102_2⟩ := at_T96 HR0.out x5_1 p102 q102
      cases e102
      replace hx102_0 := cb0 hx102_0 HB
      replace hx102_1 := cb0 hx102_1 HB
      replace hx102_2 := cb0 hx102_2 HB
      replace p102 := eq_true p102
      replace q102 := eq_true q102
      go_upto_if 25 with (first | ((with_reducible refine gq 68 rfl ?_); refine gl (some 23) Tryd.func68 #[.agg #[.string ((rd_T96 l0 x5_1).f0), .string ((rd_T96 l0 x5_1).f1), .bool ((rd_T96 l0 x5_1).f2)], .int .i64 x1_1] ?_; (with_reducible refine (laws_szField.calls ((rd_T96 l0 x5_1).f0) ((rd_T96 l0 x5_1).f1) ((rd_T96 l0 x5_1).f2) x1_1 t103 _ A6.out).mono ?_); rintro e w8 ⟨rfl, hb⟩; refine ⟨_, rfl, ?_⟩; replace HB := Aside0.mk (below_step (zb HB) hb); (try clear hb)))
      (try simp only [Act.put, s1, s2, s3])
      have H := HC7.out
      clear HC7
      by_cases c9 : t103 < 0
      ·rw [if_pos c9] at H
       have c9b0 := decide_eq_true c9
       clear c9
       (first | rw [c9b0] | rw [c9b1] | rw [c9b2] | (simp only [i64_w, i32_w]; rw [c9b0]) | skip)
       obtain rfl := Option.some.inj H
       go_wp2
       go_ret
       exact ⟨ze, zb HB⟩
      ·rw [if_neg c9] at H
       have c9b0 := decide_eq_false c9
       clear c9
       (first | rw [c9b0] | rw [c9b1] | rw [c9b2] | (simp only [i64_w, i32_w]; rw [c9b0]) | skip)
       have H' := Aside0.mk H
       clear H
       go_wp2
       go_roundg k1
       case measure => have := HK1.out; omega
       case rel => exact ⟨(t103), (wrap64 (x5_1 + 1)), zs, zs, H', ⟨by have := HK1.out; omega⟩, ⟨zb HB⟩⟩
     ·rw [if_neg c5] at H
      exact absurd H (by simp)
    ·skip
     have c4b0 := decide_eq_false c4
     clear c4
     obtain rfl := Option.some.inj H
     go_wp2
     go_ret
     exact ⟨ze, zb HB⟩

/-! ### laws_szTable: function 11 -/
-- thin
def laws_szTable.f (k : Nat) (l0_0 : List (S96)) (a0_1 : Int) (a1 : Int) : Option (Int) := (laws_szFieldS.f k l0_0 a1).bind fun t105 => (if t105 < 0 then (some (-1)) else (some t105))
theorem laws_szTable.mono : ∀ a0 a1 a2 k, LeO (laws_szTable.f k a0 a1 a2) (laws_szTable.f (k + 1) a0 a1 a2) := by
 intro a0 a1 a2 k
 unfold laws_szTable.f
 have m0 := @laws_szFieldS.mono
 exact zm
set_option maxHeartbeats 8000000 in
set_option maxRecDepth 100000 in
theorem laws_szTable.calls (k : Nat) (A0_0 : Option Addr) (c0_0 : Nat) (l0_0 : List (S96)) (a0_1 : Int) (a1 : Int) (r : Int) (w : World) (hr0_0 : Kd.C k96 w A0_0 l0_0.length l0_0) (hc0_0 : l0_0.length ≤ c0_0) (h : laws_szTable.f k l0_0 a0_1 a1 = some r) :
  Calls Tryd.prog 11 #[.agg #[.slice A0_0 l0_0.length c0_0, .int .i64 a0_1], .int .i64 a1] w fun e w' => e = .returned (.int .i64 r) ∧ Below w.heap.size w w' := by
 have hu24 := Tryd.underlying24
 have HR0_0 := Aside0.mk hr0_0
 have HC0_0 := Aside0.mk hc0_0
 clear hr0_0 hc0_0
 have HB := Aside0.mk (Below.refl w.heap.size w)
 have H : ((laws_szFieldS.f k l0_0 a1).bind fun t105 => (if t105 < 0 then (some (-1)) else (some t105))) = some r := h
 clear h
 obtain ⟨t105, A3, H⟩ := ob H
 (try dsimp only at H)
 have HC4 := Aside0.mk H
 clear H
 go_enter Tryd.func11, Tryd.ntmps11
 go_upto_if 10 with (first | ((with_reducible refine gd 2 rfl ?_); refine bx (N := 2) (cs := #[.slice A0_0 l0_0.length c0_0, .int .i64 a0_1]) (t := 24) ?_; intro gb104 hg w5 hbox hb; have BK104 := Aside0.mk (hbox); have GW104 := gw HB hg; have GE104 := GW104; replace HB := Aside0.mk (below_step (zb HB) hb); clear hb hbox hg; obtain ⟨hcz6_0, hcz6_1, hfz6_0, hfz6_1⟩ := c2 BK104) | ((with_reducible refine gq 36 rfl ?_); refine gl (some 8) Tryd.func36 #[.slice A0_0 l0_0.length c0_0, .int .i64 a1] ?_; (with_reducible refine (laws_szFieldS.calls k _ _ l0_0 a1 t105 _ ?side1 ?side2 A3.out).mono ?_); (case side1 => exact zc (Kd.C_below HR0_0.out HB.out)); (case side2 => exact HC0_0.out); rintro e w7 ⟨rfl, hb⟩; refine ⟨_, rfl, ?_⟩; replace BK104 := kb BK104 hb; replace HB := Aside0.mk (below_step (zb HB) hb); (try clear hb)))
 (try simp only [Act.put, s1, s2, s3])
 have H := HC4.out
 clear HC4
 replace H := sp H
 rcases H with ⟨c8, H⟩ | ⟨c8, H⟩
 ·skip
  have c8b0 := decide_eq_true c8
  clear c8
  (first | rw [c8b0] | rw [c8b1] | rw [c8b2] | (simp only [i64_w, i32_w]; rw [c8b0]) | skip)
  obtain rfl := Option.some.inj H
  go_wp2
  go_ret
  exact ⟨ze, zb HB⟩
 ·skip
  have c8b0 := decide_eq_false c8
  clear c8
  (first | rw [c8b0] | rw [c8b1] | rw [c8b2] | (simp only [i64_w, i32_w]; rw [c8b0]) | skip)
  obtain rfl := Option.some.inj H
  go_wp2
  go_ret
  exact ⟨ze, zb HB⟩

/-! ### laws_szStream: function 37 -/
-- thin
def laws_szStream.f (k : Nat) (a0_0 : Int) (a0_1 : Int) (l0_2 : List (S96)) (a0_3 : ByteArray) (a0_4 : Bool) (a0_5 : Bool) (a0_6 : Int) (l0_7 : List (S96)) (a0_8 : ByteArray) (a0_9 : Bool) (a0_10 : Int) (a0_11 : Int) (a1 : Int) : Option (Int) := (laws_szFieldS.f k l0_2 a1).bind fun t107 => (if t107 < 0 then (some (-1)) else (if (wrap64 (t107 - (a0_3.size : Int))) < 0 then (some (-1)) else ((laws_szFieldS.f k l0_7 (wrap64 (t107 - (a0_3.size : Int)))).bind fun t108 => (if t108 < 0 then (some (-1)) else (if (wrap64 (t108 - (a0_8.size : Int))) < 0 then (some (-1)) else (some (wrap64 (t108 - (a0_8.size : Int)))))))))
theorem laws_szStream.mono : ∀ a0 a1 a2 a3 a4 a5 a6 a7 a8 a9 a10 a11 a12 k, LeO (laws_szStream.f k a0 a1 a2 a3 a4 a5 a6 a7 a8 a9 a10 a11 a12) (laws_szStream.f (k + 1) a0 a1 a2 a3 a4 a5 a6 a7 a8 a9 a10 a11 a12) := by
 intro a0 a1 a2 a3 a4 a5 a6 a7 a8 a9 a10 a11 a12 k
 unfold laws_szStream.f
 have m0 := @laws_szFieldS.mono
 exact zm
set_option maxHeartbeats 8000000 in
set_option maxRecDepth 100000 in
theorem laws_szStream.calls (k : Nat) (a0_0 : Int) (a0_1 : Int) (A0_2 : Option Addr) (c0_2 : Nat) (l0_2 : List (S96)) (a0_3 : ByteArray) (a0_4 : Bool) (a0_5 : Bool) (a0_6 : Int) (A0_7 : Option Addr) (c0_7 : Nat) (l0_7 : List (S96)) (a0_8 : ByteArray) (a0_9 : Bool) (a0_10 : Int) (a0_11 : Int) (a1 : Int) (r : Int) (w : World) (hr0_2 : Kd.C k96 w A0_2 l0_2.length l0_2) (hc0_2 : l0_2.length ≤ c0_2) (hr0_7 : Kd.C k96 w A0_7 l0_7.length l0_7) (hc0_7 : l0_7.length ≤ c0_7) (h : laws_szStream.f k a0_0 a0_1 l0_2 a0_3 a0_4 a0_5 a0_6 l0_7 a0_8 a0_9 a0_10 a0_11 a1 = some r) :
  Calls Tryd.prog 37 #[.agg #[.int .i64 a0_0, .int .i64 a0_1, .slice A0_2 l0_2.length c0_2, .string a0_3, .bool a0_4, .bool a0_5, .int .i64 a0_6, .slice A0_7 l0_7.length c0_7, .string a0_8, .bool a0_9, .int .i64 a0_10, .int .i64 a0_11], .int .i64 a1] w fun e w' => e = .returned (.int .i64 r) ∧ Below w.heap.size w w' := by
 have hu73 := Tryd.underlying73
 have HR0_2 := Aside0.mk hr0_2
 have HC0_2 := Aside0.mk hc0_2
 clear hr0_2 hc0_2
 have HR0_7 := Aside0.mk hr0_7
 have HC0_7 := Aside0.mk hc0_7
 clear hr0_7 hc0_7
 have HB := Aside0.mk (Below.refl w.heap.size w)
 have H : ((laws_szFieldS.f k l0_2 a1).bind fun t107 => (if t107 < 0 then (some (-1)) else (if (wrap64 (t107 - (a0_3.size : Int))) < 0 then (some (-1)) else ((laws_szFieldS.f k l0_7 (wrap64 (t107 - (a0_3.size : Int)))).bind fun t108 => (if t108 < 0 then (some (-1)) else (if (wrap64 (t108 - (a0_8.size : Int))) < 0 then (some (-1)) else (some (wrap64 (t108 - (a0_8.size : Int)))))))))) = some r := h
 clear h
 obtain ⟨t107, A3, H⟩ := ob H
 (try dsimp only at H)
 have HC4 := Aside0.mk H
 clear H
 go_enter Tryd.func37, Tryd.ntmps37
 go_upto_if 10 with (first | ((with_reducible refine gd 2 rfl ?_); refine bx (N := 2) (cs := #[.int .i64 a0_0, .int .i64 a0_1, .slice A0_2 l0_2.length c0_2, .string a0_3, .bool a0_4, .bool a0_5, .int .i64 a0_6, .slice A0_7 l0_7.length c0_7, .string a0_8, .bool a0_9, .int .i64 a0_10, .int .i64 a0_11]) (t := 73) ?_; intro gb106 hg w5 hbox hb; have BK106 := Aside0.mk (hbox); have GW106 := gw HB hg; have GE106 := GW106; replace HB := Aside0.mk (below_step (zb HB) hb); clear hb hbox hg; obtain ⟨hcz6_0, hcz6_1, hcz6_2, hcz6_3, hcz6_4, hcz6_5, hcz6_6, hcz6_7, hcz6_8, hcz6_9, hcz6_10, hcz6_11, hfz6_0, hfz6_1, hfz6_2, hfz6_3, hfz6_4, hfz6_5, hfz6_6, hfz6_7, hfz6_8, hfz6_9, hfz6_10, hfz6_11⟩ := c12 BK106) | ((with_reducible refine gq 36 rfl ?_); refine gl (some 8) Tryd.func36 #[.slice A0_2 l0_2.length c0_2, .int .i64 a1] ?_; (with_reducible refine (laws_szFieldS.calls k _ _ l0_2 a1 t107 _ ?side1 ?side2 A3.out).mono ?_); (case side1 => exact zc (Kd.C_below HR0_2.out HB.out)); (case side2 => exact HC0_2.out); rintro e w7 ⟨rfl, hb⟩; refine ⟨_, rfl, ?_⟩; replace BK106 := kb BK106 hb; replace HB := Aside0.mk (below_step (zb HB) hb); (try clear hb)))
 (try simp only [Act.put, s1, s2, s3])
 have H := HC4.out
 clear HC4
 replace H := sp H
 rcases H with ⟨c8, H⟩ | ⟨c8, H⟩
 ·skip
  have c8b0 := decide_eq_true c8
  clear c8
  (first | rw [c8b0] | rw [c8b1] | rw [c8b2] | (simp only [i64_w, i32_w]; rw [c8b0]) | skip)
  obtain rfl := Option.some.inj H
  go_wp2
  go_ret
  exact ⟨ze, zb HB⟩
 ·skip
  have c8b0 := decide_eq_false c8
  clear c8
  (first | rw [c8b0] | rw [c8b1] | rw [c8b2] | (simp only [i64_w, i32_w]; rw [c8b0]) | skip)
  replace H := sp H
  rcases H with ⟨c9, H⟩ | ⟨c9, H⟩
  ·skip
   have c9b0 := decide_eq_true c9
   clear c9
   obtain rfl := Option.some.inj H
   obtain ⟨hcz10_0, hcz10_1, hcz10_2, hcz10_3, hcz10_4, hcz10_5, hcz10_6, hcz10_7, hcz10_8, hcz10_9, hcz10_10, hcz10_11, hfz10_0, hfz10_1, hfz10_2, hfz10_3, hfz10_4, hfz10_5, hfz10_6, hfz10_7, hfz10_8, hfz10_9, hfz10_10, hfz10_11⟩ := c12 BK106
   go_wp2
   go_ret
   exact ⟨ze, zb HB⟩
  ·skip
   have c9b0 := decide_eq_false c9
   clear c9
   obtain ⟨t108, A11, H⟩ := ob H
   (try dsimp only at H)
   replace H := sp H
   rcases H with ⟨c12, H⟩ | ⟨c12, H⟩
   ·skip
    have c12b0 := decide_eq_true c12
    clear c12
    obtain rfl := Option.some.inj H
    obtain ⟨hcz13_0, hcz13_1, hcz13_2, hcz13_3, hcz13_4, hcz13_5, hcz13_6, hcz13_7, hcz13_8, hcz13_9, hcz13_10, hcz13_11, hfz13_0, hfz13_1, hfz13_2, hfz13_3, hfz13_4, hfz13_5, hfz13_6, hfz13_7, hfz13_8, hfz13_9, hfz13_10, hfz13_11⟩ := c12 BK106
    go_wp2_with (first | ((with_reducible refine gq 36 rfl ?_); refine gl (some 21) Tryd.func36 #[.slice A0_7 l0_7.length c0_7, .int .i64 (wrap64 (t107 - (a0_3.size : Int)))] ?_; (with_reducible refine (laws_szFieldS.calls k _ _ l0_7 (wrap64 (t107 - (a0_3.size : Int))) t108 _ ?side1 ?side2 A11.out).mono ?_); (case side1 => exact zc (Kd.C_below HR0_7.out HB.out)); (case side2 => exact HC0_7.out); rintro e w14 ⟨rfl, hb⟩; refine ⟨_, rfl, ?_⟩; replace BK106 := kb BK106 hb; replace HB := Aside0.mk (below_step (zb HB) hb); (try clear hb)))
    go_ret
    exact ⟨ze, zb HB⟩
   ·skip
    have c12b0 := decide_eq_false c12
    clear c12
    replace H := sp H
    rcases H with ⟨c15, H⟩ | ⟨c15, H⟩
    ·skip
     have c15b0 := decide_eq_true c15
     clear c15
     obtain rfl := Option.some.inj H
     obtain ⟨hcz16_0, hcz16_1, hcz16_2, hcz16_3, hcz16_4, hcz16_5, hcz16_6, hcz16_7, hcz16_8, hcz16_9, hcz16_10, hcz16_11, hfz16_0, hfz16_1, hfz16_2, hfz16_3, hfz16_4, hfz16_5, hfz16_6, hfz16_7, hfz16_8, hfz16_9, hfz16_10, hfz16_11⟩ := c12 BK106
     go_wp2_with (first | ((with_reducible refine gq 36 rfl ?_); refine gl (some 21) Tryd.func36 #[.slice A0_7 l0_7.length c0_7, .int .i64 (wrap64 (t107 - (a0_3.size : Int)))] ?_; (with_reducible refine (laws_szFieldS.calls k _ _ l0_7 (wrap64 (t107 - (a0_3.size : Int))) t108 _ ?side1 ?side2 A11.out).mono ?_); (case side1 => exact zc (Kd.C_below HR0_7.out HB.out)); (case side2 => exact HC0_7.out); rintro e w17 ⟨rfl, hb⟩; refine ⟨_, rfl, ?_⟩; replace BK106 := kb BK106 hb; replace HB := Aside0.mk (below_step (zb HB) hb); (try clear hb); obtain ⟨hcz18_0, hcz18_1, hcz18_2, hcz18_3, hcz18_4, hcz18_5, hcz18_6, hcz18_7, hcz18_8, hcz18_9, hcz18_10, hcz18_11, hfz18_0, hfz18_1, hfz18_2, hfz18_3, hfz18_4, hfz18_5, hfz18_6, hfz18_7, hfz18_8, hfz18_9, hfz18_10, hfz18_11⟩ := c12 BK106))
     go_ret
     exact ⟨ze, zb HB⟩
    ·skip
     have c15b0 := decide_eq_false c15
     clear c15
     obtain rfl := Option.some.inj H
     obtain ⟨hcz19_0, hcz19_1, hcz19_2, hcz19_3, hcz19_4, hcz19_5, hcz19_6, hcz19_7, hcz19_8, hcz19_9, hcz19_10, hcz19_11, hfz19_0, hfz19_1, hfz19_2, hfz19_3, hfz19_4, hfz19_5, hfz19_6, hfz19_7, hfz19_8, hfz19_9, hfz19_10, hfz19_11⟩ := c12 BK106
     go_wp2_with (first | ((with_reducible refine gq 36 rfl ?_); refine gl (some 21) Tryd.func36 #[.slice A0_7 l0_7.length c0_7, .int .i64 (wrap64 (t107 - (a0_3.size : Int)))] ?_; (with_reducible refine (laws_szFieldS.calls k _ _ l0_7 (wrap64 (t107 - (a0_3.size : Int))) t108 _ ?side1 ?side2 A11.out).mono ?_); (case side1 => exact zc (Kd.C_below HR0_7.out HB.out)); (case side2 => exact HC0_7.out); rintro e w20 ⟨rfl, hb⟩; refine ⟨_, rfl, ?_⟩; replace BK106 := kb BK106 hb; replace HB := Aside0.mk (below_step (zb HB) hb); (try clear hb); obtain ⟨hcz21_0, hcz21_1, hcz21_2, hcz21_3, hcz21_4, hcz21_5, hcz21_6, hcz21_7, hcz21_8, hcz21_9, hcz21_10, hcz21_11, hfz21_0, hfz21_1, hfz21_2, hfz21_3, hfz21_4, hfz21_5, hfz21_6, hfz21_7, hfz21_8, hfz21_9, hfz21_10, hfz21_11⟩ := c12 BK106))
     go_ret
     exact ⟨ze, zb HB⟩

/-! ### laws_szStreamS: function 12 -/
-- thin
def laws_szStreamS.l0 : Nat → List (S73) → Int → Int → Option (Int)
 | 0, _, _, _ => none
 | k + 1, x0, x1, x5 => if x5 < (x0.length : Int) then (if 0 ≤ x5 then ((laws_szStream.f k ((rd_T73 x0 x5).f0) ((rd_T73 x0 x5).f1) ((rd_T73 x0 x5).f2) ((rd_T73 x0 x5).f3) ((rd_T73 x0 x5).f4) ((rd_T73 x0 x5).f5) ((rd_T73 x0 x5).f6) ((rd_T73 x0 x5).f7) ((rd_T73 x0 x5).f8) ((rd_T73 x0 x5).f9) ((rd_T73 x0 x5).f10.f0) ((rd_T73 x0 x5).f10.f1) x1).bind fun t110 => (if t110 < 0 then (some (-1)) else (laws_szStreamS.l0 k x0 t110 (wrap64 (x5 + 1))))) else (none)) else (some x1)
def laws_szStreamS.f (k : Nat) (l0 : List (S73)) (a1 : Int) : Option (Int) := if (wrap64 (a1 - (l0.length : Int))) < 0 then (some (-1)) else (laws_szStreamS.l0 k l0 (wrap64 (a1 - (l0.length : Int))) 0)
theorem laws_szStreamS.mono_l : ∀ k, (∀ y0 y1 y2, LeO (laws_szStreamS.l0 k y0 y1 y2) (laws_szStreamS.l0 (k + 1) y0 y1 y2))
 | 0 => fun _ _ _ r h => by simp [laws_szStreamS.l0] at h
 | k + 1 => by
  have ih0 := laws_szStreamS.mono_l k
  ·intro y0 y1 y2
   unfold laws_szStreamS.l0
   have m0 := @laws_szStream.mono
   exact zm
theorem laws_szStreamS.mono : ∀ a0 a1 k, LeO (laws_szStreamS.f k a0 a1) (laws_szStreamS.f (k + 1) a0 a1) := by
 intro a0 a1 k
 have ih0 := laws_szStreamS.mono_l k
 unfold laws_szStreamS.f
 have m0 := @laws_szStream.mono
 exact zm
set_option maxHeartbeats 8000000 in
set_option maxRecDepth 100000 in
theorem laws_szStreamS.calls (k : Nat) (A0 : Option Addr) (c0 : Nat) (l0 : List (S73)) (a1 : Int) (r : Int) (w : World) (hr0 : Kd.C k73 w A0 l0.length l0) (hc0 : l0.length ≤ c0) (h : laws_szStreamS.f k l0 a1 = some r) :
  Calls Tryd.prog 12 #[.slice A0 l0.length c0, .int .i64 a1] w fun e w' => e = .returned (.int .i64 r) ∧ Below w.heap.size w w' := by
 have hu73 := Tryd.underlying73
 have HR0 := Aside0.mk hr0
 have HC0 := Aside0.mk hc0
 clear hr0 hc0
 have HB := Aside0.mk (Below.refl w.heap.size w)
 have H : (if (wrap64 (a1 - (l0.length : Int))) < 0 then (some (-1)) else (laws_szStreamS.l0 k l0 (wrap64 (a1 - (l0.length : Int))) 0)) = some r := h
 clear h
 replace H := sp H
 rcases H with ⟨c3, H⟩ | ⟨c3, H⟩
 ·skip
  have c3b0 := decide_eq_true c3
  clear c3
  obtain rfl := Option.some.inj H
  go_enter Tryd.func12, Tryd.ntmps12
  go_wp2
  go_ret
  exact ⟨ze, zb HB⟩
 ·skip
  have c3b0 := decide_eq_false c3
  clear c3
  have H' := Aside0.mk H
  clear H
  go_enter Tryd.func12, Tryd.ntmps12
  go_wp2
  go_loopg [1, 5] k (fun kq v1 v5 w' => ∃ (x1_1 : Int) (x5_1 : Int), v1 = .int .i64 x1_1 ∧ v5 = .int .i64 x5_1 ∧ Aside0 (laws_szStreamS.l0 kq l0 x1_1 x5_1 = some r) ∧ Aside0 (kq ≤ k) ∧ Aside0 (Below w.heap.size w w'))
  case atStart => exact ⟨(wrap64 (a1 - (l0.length : Int))), (0), zs, zs, H', ⟨Nat.le_refl _⟩, ⟨zb HB⟩⟩
  case round =>
   clear H'
   try clear c1
   try clear p2
   try clear c3
   try clear c3b0
   obtain ⟨x1_1, x5_1, rfl, rfl, HA, HK1, HB⟩ := hrel
   cases gk with
   | zero => exact absurd HA.out (by simp [laws_szStreamS.l0])
   | succ k1 =>
    have H := HA.out
    clear HA
    simp only [laws_szStreamS.l0] at H
    replace H := sp H
    rcases H with ⟨c4, H⟩ | ⟨c4, H⟩
    ·skip
     have c4b0 := decide_eq_true c4
     clear c4
     by_cases c5 : 0 ≤ x5_1
     ·rw [if_pos c5] at H
      have c5b0 := decide_eq_true c5
      clear c5
      obtain ⟨t110, A6, H⟩ := ob H
      (try dsimp only at H)
      have HC7 := Aside0.mk H
      clear H
      have p109 : 0 ≤ (x5_1 : Int) := of_decide_eq_true za
      have q109 : x5_1 < (l0.length : Int) := of_decide_eq_true za
      obtain ⟨ad109, A109_2, c109_2, A109_7, c109_7, e109, hx109_0, hx109_1, hx109_2, hx109_3, hx109_4, hx109_5, hx109_6, hx109_7, hx109_8, hx109_9, hx109_10, hx109_11, hl109_2, hi109_2, hl109_7, hi109_7⟩ := at_T73 HR0.out x5_1 p109 q109
      cases e109
      replace hx109_0 := cb0 hx109_0 HB
      replace hx109_1 := cb0 hx109_1 HB
      replace hx109_2 := cb0 hx109_2 HB
      replace hx109_3 := cb0 hx109_3 HB
      replace hx109_4 := cb0 hx109_4 HB
      replace hx109_5 := cb0 hx109_5 HB
      replace hx109_6 := cb0 hx109_6 HB
      replace hx109_7 := cb0 hx109_7 HB
      replace hx109_8 := cb0 hx109_8 HB
      replace hx109_9 := cb0 hx109_9 HB
      replace hx109_10 := cb0 hx109_10 HB
      replace hx109_11 := cb0 hx109_11 HB
      have HR109_2 := Aside0.mk hi109_2
      have HC109_2 := Aside0.mk hl109_2
      clear hi109_2 hl109_2
      have HR109_7 := Aside0.mk hi109_7
      have HC109_7 := Aside0.mk hl109_7
      clear hi109_7 hl109_7
      replace p109 := eq_true p109
      replace q109 := eq_true q109
      go_upto_if 25 with (first | ((with_reducible refine gq 37 rfl ?_); refine gl (some 23) Tryd.func37 #[.agg #[.int .i64 ((rd_T73 l0 x5_1).f0), .int .i64 ((rd_T73 l0 x5_1).f1), .slice A109_2 ((rd_T73 l0 x5_1).f2).length c109_2, .string ((rd_T73 l0 x5_1).f3), .bool ((rd_T73 l0 x5_1).f4), .bool ((rd_T73 l0 x5_1).f5), .int .i64 ((rd_T73 l0 x5_1).f6), .slice A109_7 ((rd_T73 l0 x5_1).f7).length c109_7, .string ((rd_T73 l0 x5_1).f8), .bool ((rd_T73 l0 x5_1).f9), .int .i64 ((rd_T73 l0 x5_1).f10.f0), .int .i64 ((rd_T73 l0 x5_1).f10.f1)], .int .i64 x1_1] ?_; (with_reducible refine (laws_szStream.calls k1 ((rd_T73 l0 x5_1).f0) ((rd_T73 l0 x5_1).f1) _ _ ((rd_T73 l0 x5_1).f2) ((rd_T73 l0 x5_1).f3) ((rd_T73 l0 x5_1).f4) ((rd_T73 l0 x5_1).f5) ((rd_T73 l0 x5_1).f6) _ _ ((rd_T73 l0 x5_1).f7) ((rd_T73 l0 x5_1).f8) ((rd_T73 l0 x5_1).f9) ((rd_T73 l0 x5_1).f10.f0) ((rd_T73 l0 x5_1).f10.f1) x1_1 t110 _ ?side1 ?side2 ?side3 ?side4 A6.out).mono ?_); (case side1 => exact zc (Kd.C_below HR109_2.out HB.out)); (case side2 => exact HC109_2.out); (case side3 => exact zc (Kd.C_below HR109_7.out HB.out)); (case side4 => exact HC109_7.out); rintro e w8 ⟨rfl, hb⟩; refine ⟨_, rfl, ?_⟩; replace HB := Aside0.mk (below_step (zb HB) hb); (try clear hb)))
      (try simp only [Act.put, s1, s2, s3])
      have H := HC7.out
      clear HC7
      by_cases c9 : t110 < 0
      ·rw [if_pos c9] at H
       have c9b0 := decide_eq_true c9
       clear c9
       (first | rw [c9b0] | rw [c9b1] | rw [c9b2] | (simp only [i64_w, i32_w]; rw [c9b0]) | skip)
       obtain rfl := Option.some.inj H
       go_wp2
       go_ret
       exact ⟨ze, zb HB⟩
      ·rw [if_neg c9] at H
       have c9b0 := decide_eq_false c9
       clear c9
       (first | rw [c9b0] | rw [c9b1] | rw [c9b2] | (simp only [i64_w, i32_w]; rw [c9b0]) | skip)
       have H' := Aside0.mk H
       clear H
       go_wp2
       go_roundg k1
       case measure => have := HK1.out; omega
       case rel => exact ⟨(t110), (wrap64 (x5_1 + 1)), zs, zs, H', ⟨by have := HK1.out; omega⟩, ⟨zb HB⟩⟩
     ·rw [if_neg c5] at H
      exact absurd H (by simp)
    ·skip
     have c4b0 := decide_eq_false c4
     clear c4
     obtain rfl := Option.some.inj H
     go_wp2
     go_ret
     exact ⟨ze, zb HB⟩

/-! ### laws_szFrame: function 38 -/
-- thin
def laws_szFrame.f (a0_0 : Int) (a0_1 : Bool) (a0_2 : Int) (a0_3 : ByteArray) (a1 : Int) : Option (Int) := if (wrap64 (a1 - (a0_3.size : Int))) < 0 then (some (-1)) else (some (wrap64 (a1 - (a0_3.size : Int))))
set_option maxHeartbeats 8000000 in
set_option maxRecDepth 100000 in
theorem laws_szFrame.calls (a0_0 : Int) (a0_1 : Bool) (a0_2 : Int) (a0_3 : ByteArray) (a1 : Int) (r : Int) (w : World) (h : laws_szFrame.f a0_0 a0_1 a0_2 a0_3 a1 = some r) :
  Calls Tryd.prog 38 #[.agg #[.int .i64 a0_0, .bool a0_1, .int .i64 a0_2, .string a0_3], .int .i64 a1] w fun e w' => e = .returned (.int .i64 r) ∧ Below w.heap.size w w' := by
 have hu76 := Tryd.underlying76
 have HB := Aside0.mk (Below.refl w.heap.size w)
 have H : (if (wrap64 (a1 - (a0_3.size : Int))) < 0 then (some (-1)) else (some (wrap64 (a1 - (a0_3.size : Int))))) = some r := h
 clear h
 replace H := sp H
 rcases H with ⟨c3, H⟩ | ⟨c3, H⟩
 ·skip
  have c3b0 := decide_eq_true c3
  clear c3
  obtain rfl := Option.some.inj H
  go_enter Tryd.func38, Tryd.ntmps38
  go_wp2_with (first | ((with_reducible refine gd 2 rfl ?_); refine bx (N := 2) (cs := #[.int .i64 a0_0, .bool a0_1, .int .i64 a0_2, .string a0_3]) (t := 76) ?_; intro gb111 hg w4 hbox hb; have BK111 := Aside0.mk (hbox); have GW111 := gw HB hg; have GE111 := GW111; replace HB := Aside0.mk (below_step (zb HB) hb); clear hb hbox hg; obtain ⟨hcz5_0, hcz5_1, hcz5_2, hcz5_3, hfz5_0, hfz5_1, hfz5_2, hfz5_3⟩ := c4 BK111))
  go_ret
  exact ⟨ze, zb HB⟩
 ·skip
  have c3b0 := decide_eq_false c3
  clear c3
  obtain rfl := Option.some.inj H
  go_enter Tryd.func38, Tryd.ntmps38
  go_wp2_with (first | ((with_reducible refine gd 2 rfl ?_); refine bx (N := 2) (cs := #[.int .i64 a0_0, .bool a0_1, .int .i64 a0_2, .string a0_3]) (t := 76) ?_; intro gb111 hg w6 hbox hb; have BK111 := Aside0.mk (hbox); have GW111 := gw HB hg; have GE111 := GW111; replace HB := Aside0.mk (below_step (zb HB) hb); clear hb hbox hg; obtain ⟨hcz7_0, hcz7_1, hcz7_2, hcz7_3, hfz7_0, hfz7_1, hfz7_2, hfz7_3⟩ := c4 BK111))
  go_ret
  exact ⟨ze, zb HB⟩

/-! ### laws_szFrameS: function 13 -/
-- thin
def laws_szFrameS.l0 : Nat → List (S76) → Int → Int → Option (Int)
 | 0, _, _, _ => none
 | k + 1, x0, x1, x5 => if x5 < (x0.length : Int) then (if 0 ≤ x5 then ((laws_szFrame.f ((rd_T76 x0 x5).f0) ((rd_T76 x0 x5).f1) ((rd_T76 x0 x5).f2) ((rd_T76 x0 x5).f3) x1).bind fun t113 => (if t113 < 0 then (some (-1)) else (laws_szFrameS.l0 k x0 t113 (wrap64 (x5 + 1))))) else (none)) else (some x1)
def laws_szFrameS.f (k : Nat) (l0 : List (S76)) (a1 : Int) : Option (Int) := if (wrap64 (a1 - (l0.length : Int))) < 0 then (some (-1)) else (laws_szFrameS.l0 k l0 (wrap64 (a1 - (l0.length : Int))) 0)
theorem laws_szFrameS.mono_l : ∀ k, (∀ y0 y1 y2, LeO (laws_szFrameS.l0 k y0 y1 y2) (laws_szFrameS.l0 (k + 1) y0 y1 y2))
 | 0 => fun _ _ _ r h => by simp [laws_szFrameS.l0] at h
 | k + 1 => by
  have ih0 := laws_szFrameS.mono_l k
  ·intro y0 y1 y2
   unfold laws_szFrameS.l0
   exact zm
theorem laws_szFrameS.mono : ∀ a0 a1 k, LeO (laws_szFrameS.f k a0 a1) (laws_szFrameS.f (k + 1) a0 a1) := by
 intro a0 a1 k
 have ih0 := laws_szFrameS.mono_l k
 unfold laws_szFrameS.f
 exact zm
set_option maxHeartbeats 8000000 in
set_option maxRecDepth 100000 in
theorem laws_szFrameS.calls (k : Nat) (A0 : Option Addr) (c0 : Nat) (l0 : List (S76)) (a1 : Int) (r : Int) (w : World) (hr0 : Kd.C k76 w A0 l0.length l0) (hc0 : l0.length ≤ c0) (h : laws_szFrameS.f k l0 a1 = some r) :
  Calls Tryd.prog 13 #[.slice A0 l0.length c0, .int .i64 a1] w fun e w' => e = .returned (.int .i64 r) ∧ Below w.heap.size w w' := by
 have hu76 := Tryd.underlying76
 have HR0 := Aside0.mk hr0
 have HC0 := Aside0.mk hc0
 clear hr0 hc0
 have HB := Aside0.mk (Below.refl w.heap.size w)
 have H : (if (wrap64 (a1 - (l0.length : Int))) < 0 then (some (-1)) else (laws_szFrameS.l0 k l0 (wrap64 (a1 - (l0.length : Int))) 0)) = some r := h
 clear h
 replace H := sp H
 rcases H with ⟨c3, H⟩ | ⟨c3, H⟩
 ·skip
  have c3b0 := decide_eq_true c3
  clear c3
  obtain rfl := Option.some.inj H
  go_enter Tryd.func13, Tryd.ntmps13
  go_wp2
  go_ret
  exact ⟨ze, zb HB⟩
 ·skip
  have c3b0 := decide_eq_false c3
  clear c3
  have H' := Aside0.mk H
  clear H
  go_enter Tryd.func13, Tryd.ntmps13
  go_wp2
  go_loopg [1, 5] k (fun kq v1 v5 w' => ∃ (x1_1 : Int) (x5_1 : Int), v1 = .int .i64 x1_1 ∧ v5 = .int .i64 x5_1 ∧ Aside0 (laws_szFrameS.l0 kq l0 x1_1 x5_1 = some r) ∧ Aside0 (kq ≤ k) ∧ Aside0 (Below w.heap.size w w'))
  case atStart => exact ⟨(wrap64 (a1 - (l0.length : Int))), (0), zs, zs, H', ⟨Nat.le_refl _⟩, ⟨zb HB⟩⟩
  case round =>
   clear H'
   try clear c1
   try clear p2
   try clear c3
   try clear c3b0
   obtain ⟨x1_1, x5_1, rfl, rfl, HA, HK1, HB⟩ := hrel
   cases gk with
   | zero => exact absurd HA.out (by simp [laws_szFrameS.l0])
   | succ k1 =>
    have H := HA.out
    clear HA
    simp only [laws_szFrameS.l0] at H
    replace H := sp H
    rcases H with ⟨c4, H⟩ | ⟨c4, H⟩
    ·skip
     have c4b0 := decide_eq_true c4
     clear c4
     by_cases c5 : 0 ≤ x5_1
     ·rw [if_pos c5] at H
      have c5b0 := decide_eq_true c5
      clear c5
      obtain ⟨t113, A6, H⟩ := ob H
      (try dsimp only at H)
      have HC7 := Aside0.mk H
      clear H
      have p112 : 0 ≤ (x5_1 : Int) := of_decide_eq_true za
      have q112 : x5_1 < (l0.length : Int) := of_decide_eq_true za
      obtain ⟨ad112, e112, hx112_0, hx112_1, hx112_2, hx112_3⟩ := at_T76 HR0.out x5_1 p112 q112
      cases e112
      replace hx112_0 := cb0 hx112_0 HB
      replace hx112_1 := cb0 hx112_1 HB
      replace hx112_2 := cb0 hx112_2 HB
      replace hx112_3 := cb0 hx112_3 HB
      replace p112 := eq_true p112
      replace q112 := eq_true q112
      go_upto_if 25 with (first | ((with_reducible refine gq 38 rfl ?_); refine gl (some 23) Tryd.func38 #[.agg #[.int .i64 ((rd_T76 l0 x5_1).f0), .bool ((rd_T76 l0 x5_1).f1), .int .i64 ((rd_T76 l0 x5_1).f2), .string ((rd_T76 l0 x5_1).f3)], .int .i64 x1_1] ?_; (with_reducible refine (laws_szFrame.calls ((rd_T76 l0 x5_1).f0) ((rd_T76 l0 x5_1).f1) ((rd_T76 l0 x5_1).f2) ((rd_T76 l0 x5_1).f3) x1_1 t113 _ A6.out).mono ?_); rintro e w8 ⟨rfl, hb⟩; refine ⟨_, rfl, ?_⟩; replace HB := Aside0.mk (below_step (zb HB) hb); (try clear hb)))
      (try simp only [Act.put, s1, s2, s3])
      have H := HC7.out
      clear HC7
      by_cases c9 : t113 < 0
      ·rw [if_pos c9] at H
       have c9b0 := decide_eq_true c9
       clear c9
       (first | rw [c9b0] | rw [c9b1] | rw [c9b2] | (simp only [i64_w, i32_w]; rw [c9b0]) | skip)
       obtain rfl := Option.some.inj H
       go_wp2
       go_ret
       exact ⟨ze, zb HB⟩
      ·rw [if_neg c9] at H
       have c9b0 := decide_eq_false c9
       clear c9
       (first | rw [c9b0] | rw [c9b1] | rw [c9b2] | (simp only [i64_w, i32_w]; rw [c9b0]) | skip)
       have H' := Aside0.mk H
       clear H
       go_wp2
       go_roundg k1
       case measure => have := HK1.out; omega
       case rel => exact ⟨(t113), (wrap64 (x5_1 + 1)), zs, zs, H', ⟨by have := HK1.out; omega⟩, ⟨zb HB⟩⟩
     ·rw [if_neg c5] at H
      exact absurd H (by simp)
    ·skip
     have c4b0 := decide_eq_false c4
     clear c4
     obtain rfl := Option.some.inj H
     go_wp2
     go_ret
     exact ⟨ze, zb HB⟩

/-! ### laws_szEnd: function 4 -/
-- thin
def laws_szEnd.f (k : Nat) (a0_0 : Bool) (l0_1 : List (S96)) (a0_2 : Int) (l0_3 : List (S96)) (a0_4 : Int) (a0_5 : ByteArray) (l0_6 : List (S73)) (a0_7 : Int) (a0_8 : Int) (l0_9 : List (S76)) (a0_10 : Bool) (a1 : Int) : Option (Int) := (laws_szTable.f k l0_1 a0_2 a1).bind fun t115 => (if t115 < 0 then (some (-1)) else ((laws_szTable.f k l0_3 a0_4 t115).bind fun t116 => (if t116 < 0 then (some (-1)) else (if (wrap64 (t116 - (a0_5.size : Int))) < 0 then (some (-1)) else ((laws_szStreamS.f k l0_6 (wrap64 (t116 - (a0_5.size : Int)))).bind fun t117 => (if t117 < 0 then (some (-1)) else ((laws_szFrameS.f k l0_9 t117).bind fun t118 => (if t118 < 0 then (some (-1)) else (some t118)))))))))
theorem laws_szEnd.mono : ∀ a0 a1 a2 a3 a4 a5 a6 a7 a8 a9 a10 a11 k, LeO (laws_szEnd.f k a0 a1 a2 a3 a4 a5 a6 a7 a8 a9 a10 a11) (laws_szEnd.f (k + 1) a0 a1 a2 a3 a4 a5 a6 a7 a8 a9 a10 a11) := by
 intro a0 a1 a2 a3 a4 a5 a6 a7 a8 a9 a10 a11 k
 unfold laws_szEnd.f
 have m0 := @laws_szFrameS.mono
 have m1 := @laws_szStreamS.mono
 have m2 := @laws_szTable.mono
 exact zm
set_option maxHeartbeats 8000000 in
set_option maxRecDepth 100000 in
theorem laws_szEnd.calls (k : Nat) (a0_0 : Bool) (A0_1 : Option Addr) (c0_1 : Nat) (l0_1 : List (S96)) (a0_2 : Int) (A0_3 : Option Addr) (c0_3 : Nat) (l0_3 : List (S96)) (a0_4 : Int) (a0_5 : ByteArray) (A0_6 : Option Addr) (c0_6 : Nat) (l0_6 : List (S73)) (a0_7 : Int) (a0_8 : Int) (A0_9 : Option Addr) (c0_9 : Nat) (l0_9 : List (S76)) (a0_10 : Bool) (a1 : Int) (r : Int) (w : World) (hr0_1 : Kd.C k96 w A0_1 l0_1.length l0_1) (hc0_1 : l0_1.length ≤ c0_1) (hr0_3 : Kd.C k96 w A0_3 l0_3.length l0_3) (hc0_3 : l0_3.length ≤ c0_3) (hr0_6 : Kd.C k73 w A0_6 l0_6.length l0_6) (hc0_6 : l0_6.length ≤ c0_6) (hr0_9 : Kd.C k76 w A0_9 l0_9.length l0_9) (hc0_9 : l0_9.length ≤ c0_9) (h : laws_szEnd.f k a0_0 l0_1 a0_2 l0_3 a0_4 a0_5 l0_6 a0_7 a0_8 l0_9 a0_10 a1 = some r) :
  Calls Tryd.prog 4 #[.agg #[.bool a0_0, .slice A0_1 l0_1.length c0_1, .int .i64 a0_2, .slice A0_3 l0_3.length c0_3, .int .i64 a0_4, .string a0_5, .slice A0_6 l0_6.length c0_6, .int .i64 a0_7, .int .i64 a0_8, .slice A0_9 l0_9.length c0_9, .bool a0_10], .int .i64 a1] w fun e w' => e = .returned (.int .i64 r) ∧ Below w.heap.size w w' := by
 have hu30 := Tryd.underlying30
 have hu24 := Tryd.underlying24
 have HR0_1 := Aside0.mk hr0_1
 have HC0_1 := Aside0.mk hc0_1
 clear hr0_1 hc0_1
 have HR0_3 := Aside0.mk hr0_3
 have HC0_3 := Aside0.mk hc0_3
 clear hr0_3 hc0_3
 have HR0_6 := Aside0.mk hr0_6
 have HC0_6 := Aside0.mk hc0_6
 clear hr0_6 hc0_6
 have HR0_9 := Aside0.mk hr0_9
 have HC0_9 := Aside0.mk hc0_9
 clear hr0_9 hc0_9
 have HB := Aside0.mk (Below.refl w.heap.size w)
 have H : ((laws_szTable.f k l0_1 a0_2 a1).bind fun t115 => (if t115 < 0 then (some (-1)) else ((laws_szTable.f k l0_3 a0_4 t115).bind fun t116 => (if t116 < 0 then (some (-1)) else (if (wrap64 (t116 - (a0_5.size : Int))) < 0 then (some (-1)) else ((laws_szStreamS.f k l0_6 (wrap64 (t116 - (a0_5.size : Int)))).bind fun t117 => (if t117 < 0 then (some (-1)) else ((laws_szFrameS.f k l0_9 t117).bind fun t118 => (if t118 < 0 then (some (-1)) else (some t118)))))))))) = some r := h
 clear h
 obtain ⟨t115, A3, H⟩ := ob H
 (try dsimp only at H)
 have HC4 := Aside0.mk H
 clear H
 go_enter Tryd.func4, Tryd.ntmps4
 go_upto_if 10 with (first | ((with_reducible refine gd 2 rfl ?_); refine bx (N := 2) (cs := #[.bool a0_0, .slice A0_1 l0_1.length c0_1, .int .i64 a0_2, .slice A0_3 l0_3.length c0_3, .int .i64 a0_4, .string a0_5, .slice A0_6 l0_6.length c0_6, .int .i64 a0_7, .int .i64 a0_8, .slice A0_9 l0_9.length c0_9, .bool a0_10]) (t := 30) ?_; intro gb114 hg w5 hbox hb; have BK114 := Aside0.mk (hbox); have GW114 := gw HB hg; have GE114 := GW114; replace HB := Aside0.mk (below_step (zb HB) hb); clear hb hbox hg; obtain ⟨hcz6_0, hcz6_1, hcz6_2, hcz6_3, hcz6_4, hcz6_5, hcz6_6, hcz6_7, hcz6_8, hcz6_9, hcz6_10, hfz6_0, hfz6_1, hfz6_2, hfz6_3, hfz6_4, hfz6_5, hfz6_6, hfz6_7, hfz6_8, hfz6_9, hfz6_10⟩ := c11 BK114) | ((with_reducible refine gq 11 rfl ?_); refine gl (some 8) Tryd.func11 #[.agg #[.slice A0_1 l0_1.length c0_1, .int .i64 a0_2], .int .i64 a1] ?_; (with_reducible refine (laws_szTable.calls k _ _ l0_1 a0_2 a1 t115 _ ?side1 ?side2 A3.out).mono ?_); (case side1 => exact zc (Kd.C_below HR0_1.out HB.out)); (case side2 => exact HC0_1.out); rintro e w7 ⟨rfl, hb⟩; refine ⟨_, rfl, ?_⟩; replace BK114 := kb BK114 hb; replace HB := Aside0.mk (below_step (zb HB) hb); (try clear hb)))
 (try simp only [Act.put, s1, s2, s3])
 have H := HC4.out
 clear HC4
 replace H := sp H
 rcases H with ⟨c8, H⟩ | ⟨c8, H⟩
 ·skip
  have c8b0 := decide_eq_true c8
  clear c8
  (first | rw [c8b0] | rw [c8b1] | rw [c8b2] | (simp only [i64_w, i32_w]; rw [c8b0]) | skip)
  obtain rfl := Option.some.inj H
  go_wp2
  go_ret
  exact ⟨ze, zb HB⟩
 ·skip
  have c8b0 := decide_eq_false c8
  clear c8
  (first | rw [c8b0] | rw [c8b1] | rw [c8b2] | (simp only [i64_w, i32_w]; rw [c8b0]) | skip)
  obtain ⟨t116, A9, H⟩ := ob H
  (try dsimp only at H)
  replace H := sp H
  rcases H with ⟨c10, H⟩ | ⟨c10, H⟩
  ·skip
   have c10b0 := decide_eq_true c10
   clear c10
   obtain rfl := Option.some.inj H
   obtain ⟨hcz11_0, hcz11_1, hcz11_2, hcz11_3, hcz11_4, hcz11_5, hcz11_6, hcz11_7, hcz11_8, hcz11_9, hcz11_10, hfz11_0, hfz11_1, hfz11_2, hfz11_3, hfz11_4, hfz11_5, hfz11_6, hfz11_7, hfz11_8, hfz11_9, hfz11_10⟩ := c11 BK114
   go_wp2_with (first | ((with_reducible refine gq 11 rfl ?_); refine gl (some 14) Tryd.func11 #[.agg #[.slice A0_3 l0_3.length c0_3, .int .i64 a0_4], .int .i64 t115] ?_; (with_reducible refine (laws_szTable.calls k _ _ l0_3 a0_4 t115 t116 _ ?side1 ?side2 A9.out).mono ?_); (case side1 => exact zc (Kd.C_below HR0_3.out HB.out)); (case side2 => exact HC0_3.out); rintro e w12 ⟨rfl, hb⟩; refine ⟨_, rfl, ?_⟩; replace BK114 := kb BK114 hb; replace HB := Aside0.mk (below_step (zb HB) hb); (try clear hb)))
   go_ret
   exact ⟨ze, zb HB⟩
  ·skip
   have c10b0 := decide_eq_false c10
   clear c10
   replace H := sp H
   rcases H with ⟨c13, H⟩ | ⟨c13, H⟩
   ·skip
    have c13b0 := decide_eq_true c13
    clear c13
    obtain rfl := Option.some.inj H
    obtain ⟨hcz14_0, hcz14_1, hcz14_2, hcz14_3, hcz14_4, hcz14_5, hcz14_6, hcz14_7, hcz14_8, hcz14_9, hcz14_10, hfz14_0, hfz14_1, hfz14_2, hfz14_3, hfz14_4, hfz14_5, hfz14_6, hfz14_7, hfz14_8, hfz14_9, hfz14_10⟩ := c11 BK114
    go_wp2_with (first | ((with_reducible refine gq 11 rfl ?_); refine gl (some 14) Tryd.func11 #[.agg #[.slice A0_3 l0_3.length c0_3, .int .i64 a0_4], .int .i64 t115] ?_; (with_reducible refine (laws_szTable.calls k _ _ l0_3 a0_4 t115 t116 _ ?side1 ?side2 A9.out).mono ?_); (case side1 => exact zc (Kd.C_below HR0_3.out HB.out)); (case side2 => exact HC0_3.out); rintro e w15 ⟨rfl, hb⟩; refine ⟨_, rfl, ?_⟩; replace BK114 := kb BK114 hb; replace HB := Aside0.mk (below_step (zb HB) hb); (try clear hb); obtain ⟨hcz16_0, hcz16_1, hcz16_2, hcz16_3, hcz16_4, hcz16_5, hcz16_6, hcz16_7, hcz16_8, hcz16_9, hcz16_10, hfz16_0, hfz16_1, hfz16_2, hfz16_3, hfz16_4, hfz16_5, hfz16_6, hfz16_7, hfz16_8, hfz16_9, hfz16_10⟩ := c11 BK114))
    go_ret
    exact ⟨ze, zb HB⟩
   ·skip
    have c13b0 := decide_eq_false c13
    clear c13
    obtain ⟨t117, A17, H⟩ := ob H
    (try dsimp only at H)
    have HC18 := Aside0.mk H
    clear H
    obtain ⟨hcz19_0, hcz19_1, hcz19_2, hcz19_3, hcz19_4, hcz19_5, hcz19_6, hcz19_7, hcz19_8, hcz19_9, hcz19_10, hfz19_0, hfz19_1, hfz19_2, hfz19_3, hfz19_4, hfz19_5, hfz19_6, hfz19_7, hfz19_8, hfz19_9, hfz19_10⟩ := c11 BK114
    go_upto_if 29 with (first | ((with_reducible refine gq 11 rfl ?_); refine gl (some 14) Tryd.func11 #[.agg #[.slice A0_3 l0_3.length c0_3, .int .i64 a0_4], .int .i64 t115] ?_; (with_reducible refine (laws_szTable.calls k _ _ l0_3 a0_4 t115 t116 _ ?side1 ?side2 A9.out).mono ?_); (case side1 => exact zc (Kd.C_below HR0_3.out HB.out)); (case side2 => exact HC0_3.out); rintro e w20 ⟨rfl, hb⟩; refine ⟨_, rfl, ?_⟩; replace BK114 := kb BK114 hb; replace HB := Aside0.mk (below_step (zb HB) hb); (try clear hb); obtain ⟨hcz21_0, hcz21_1, hcz21_2, hcz21_3, hcz21_4, hcz21_5, hcz21_6, hcz21_7, hcz21_8, hcz21_9, hcz21_10, hfz21_0, hfz21_1, hfz21_2, hfz21_3, hfz21_4, hfz21_5, hfz21_6, hfz21_7, hfz21_8, hfz21_9, hfz21_10⟩ := c11 BK114) | ((with_reducible refine gq 12 rfl ?_); refine gl (some 27) Tryd.func12 #[.slice A0_6 l0_6.length c0_6, .int .i64 (wrap64 (t116 - (a0_5.size : Int)))] ?_; (with_reducible refine (laws_szStreamS.calls k _ _ l0_6 (wrap64 (t116 - (a0_5.size : Int))) t117 _ ?side1 ?side2 A17.out).mono ?_); (case side1 => exact zc (Kd.C_below HR0_6.out HB.out)); (case side2 => exact HC0_6.out); rintro e w22 ⟨rfl, hb⟩; refine ⟨_, rfl, ?_⟩; replace BK114 := kb BK114 hb; replace HB := Aside0.mk (below_step (zb HB) hb); (try clear hb)))
    (try simp only [Act.put, s1, s2, s3])
    have H := HC18.out
    clear HC18
    replace H := sp H
    rcases H with ⟨c23, H⟩ | ⟨c23, H⟩
    ·skip
     have c23b0 := decide_eq_true c23
     clear c23
     (first | rw [c23b0] | rw [c23b1] | rw [c23b2] | (simp only [i64_w, i32_w]; rw [c23b0]) | skip)
     obtain rfl := Option.some.inj H
     go_wp2
     go_ret
     exact ⟨ze, zb HB⟩
    ·skip
     have c23b0 := decide_eq_false c23
     clear c23
     (first | rw [c23b0] | rw [c23b1] | rw [c23b2] | (simp only [i64_w, i32_w]; rw [c23b0]) | skip)
     obtain ⟨t118, A24, H⟩ := ob H
     (try dsimp only at H)
     replace H := sp H
     rcases H with ⟨c25, H⟩ | ⟨c25, H⟩
     ·skip
      have c25b0 := decide_eq_true c25
      clear c25
      obtain rfl := Option.some.inj H
      obtain ⟨hcz26_0, hcz26_1, hcz26_2, hcz26_3, hcz26_4, hcz26_5, hcz26_6, hcz26_7, hcz26_8, hcz26_9, hcz26_10, hfz26_0, hfz26_1, hfz26_2, hfz26_3, hfz26_4, hfz26_5, hfz26_6, hfz26_7, hfz26_8, hfz26_9, hfz26_10⟩ := c11 BK114
      go_wp2_with (first | ((with_reducible refine gq 13 rfl ?_); refine gl (some 33) Tryd.func13 #[.slice A0_9 l0_9.length c0_9, .int .i64 t117] ?_; (with_reducible refine (laws_szFrameS.calls k _ _ l0_9 t117 t118 _ ?side1 ?side2 A24.out).mono ?_); (case side1 => exact zc (Kd.C_below HR0_9.out HB.out)); (case side2 => exact HC0_9.out); rintro e w27 ⟨rfl, hb⟩; refine ⟨_, rfl, ?_⟩; replace BK114 := kb BK114 hb; replace HB := Aside0.mk (below_step (zb HB) hb); (try clear hb)))
      go_ret
      exact ⟨ze, zb HB⟩
     ·skip
      have c25b0 := decide_eq_false c25
      clear c25
      obtain rfl := Option.some.inj H
      obtain ⟨hcz28_0, hcz28_1, hcz28_2, hcz28_3, hcz28_4, hcz28_5, hcz28_6, hcz28_7, hcz28_8, hcz28_9, hcz28_10, hfz28_0, hfz28_1, hfz28_2, hfz28_3, hfz28_4, hfz28_5, hfz28_6, hfz28_7, hfz28_8, hfz28_9, hfz28_10⟩ := c11 BK114
      go_wp2_with (first | ((with_reducible refine gq 13 rfl ?_); refine gl (some 33) Tryd.func13 #[.slice A0_9 l0_9.length c0_9, .int .i64 t117] ?_; (with_reducible refine (laws_szFrameS.calls k _ _ l0_9 t117 t118 _ ?side1 ?side2 A24.out).mono ?_); (case side1 => exact zc (Kd.C_below HR0_9.out HB.out)); (case side2 => exact HC0_9.out); rintro e w29 ⟨rfl, hb⟩; refine ⟨_, rfl, ?_⟩; replace BK114 := kb BK114 hb; replace HB := Aside0.mk (below_step (zb HB) hb); (try clear hb)))
      go_ret
      exact ⟨ze, zb HB⟩

/-! ### spec_l6In: function 70 -/
-- thin
def spec_l6In.f (a0 : Int) (a1 : Int) (a2 : Int) : Option (Bool) := if a0 ≥ a1 then (some (decide (a0 ≤ a2))) else (some false)
set_option maxHeartbeats 8000000 in
set_option maxRecDepth 100000 in
theorem spec_l6In.calls (a0 : Int) (a1 : Int) (a2 : Int) (r : Bool) (w : World) (h : spec_l6In.f a0 a1 a2 = some r) :
  Calls Tryd.prog 70 #[.int .i64 a0, .int .i64 a1, .int .i64 a2] w fun e w' => e = .returned (.bool r) ∧ Drawn0 w w' := by
 have H : (if a0 ≥ a1 then (some (decide (a0 ≤ a2))) else (some false)) = some r := h
 clear h
 replace H := sp H
 rcases H with ⟨c4, H⟩ | ⟨c4, H⟩
 ·skip
  have c4b0 := decide_eq_true c4
  clear c4
  obtain rfl := Option.some.inj H
  go_enter Tryd.func70, Tryd.ntmps70
  go_wp2
  go_ret
  exact ⟨zs, by repeat (first | exact Drawn0.refl _ | apply Drawn0.step)⟩
 ·skip
  have c4b0 := decide_eq_false c4
  clear c4
  obtain rfl := Option.some.inj H
  go_enter Tryd.func70, Tryd.ntmps70
  go_wp2
  go_ret
  exact ⟨zs, by repeat (first | exact Drawn0.refl _ | apply Drawn0.step)⟩

/-! ### spec_FlowOk: function 42 -/
-- thin
def spec_FlowOk.f (a0_0 : Int) (a0_1 : Int) : Option (Bool) := (spec_l6In.f a0_0 0 31).bind fun t120 => (if t120 = true then ((spec_l6In.f a0_1 0 31).bind fun t121 => (some t121)) else (some false))
set_option maxHeartbeats 8000000 in
set_option maxRecDepth 100000 in
theorem spec_FlowOk.calls (a0_0 : Int) (a0_1 : Int) (r : Bool) (w : World) (h : spec_FlowOk.f a0_0 a0_1 = some r) :
  Calls Tryd.prog 42 #[.agg #[.int .i64 a0_0, .int .i64 a0_1]] w fun e w' => e = .returned (.bool r) ∧ Below w.heap.size w w' := by
 have hu36 := Tryd.underlying36
 have HB := Aside0.mk (Below.refl w.heap.size w)
 have H : ((spec_l6In.f a0_0 0 31).bind fun t120 => (if t120 = true then ((spec_l6In.f a0_1 0 31).bind fun t121 => (some t121)) else (some false))) = some r := h
 clear h
 obtain ⟨t120, A2, H⟩ := ob H
 (try dsimp only at H)
 by_cases c3 : t120 = true
 ·subst c3
  rw [if_pos rfl] at H
  obtain ⟨t121, A4, H⟩ := ob H
  (try dsimp only at H)
  obtain rfl := Option.some.inj H
  go_enter Tryd.func42, Tryd.ntmps42
  go_wp2_with (first | ((with_reducible refine gd 1 rfl ?_); refine bx (N := 1) (cs := #[.int .i64 a0_0, .int .i64 a0_1]) (t := 36) ?_; intro gb119 hg w5 hbox hb; have BK119 := Aside0.mk (hbox); have GW119 := gw HB hg; have GE119 := GW119; replace HB := Aside0.mk (below_step (zb HB) hb); clear hb hbox hg; obtain ⟨hcz6_0, hcz6_1, hfz6_0, hfz6_1⟩ := c2 BK119) | ((with_reducible refine gq 70 rfl ?_); refine gl (some 5) Tryd.func70 #[.int .i64 a0_0, .int .i64 0, .int .i64 31] ?_; (with_reducible refine (spec_l6In.calls a0_0 0 31 true _ A2.out).mono ?_); rintro e w' ⟨rfl, ⟨nd, rfl⟩⟩; refine ⟨_, rfl, ?_⟩) | (go_at_call 70; (with_reducible refine (spec_l6In.calls a0_1 0 31 t121 _ A4.out).mono ?_); rintro e w' ⟨rfl, ⟨nd, rfl⟩⟩))
  go_ret
  exact ⟨ze, zb HB⟩
 ·replace c3 := Bool.eq_false_iff.mpr c3
  subst c3
  rw [if_neg (show ¬ (false = true) by decide)] at H
  obtain rfl := Option.some.inj H
  go_enter Tryd.func42, Tryd.ntmps42
  go_wp2_with (first | ((with_reducible refine gd 1 rfl ?_); refine bx (N := 1) (cs := #[.int .i64 a0_0, .int .i64 a0_1]) (t := 36) ?_; intro gb119 hg w7 hbox hb; have BK119 := Aside0.mk (hbox); have GW119 := gw HB hg; have GE119 := GW119; replace HB := Aside0.mk (below_step (zb HB) hb); clear hb hbox hg; obtain ⟨hcz8_0, hcz8_1, hfz8_0, hfz8_1⟩ := c2 BK119) | ((with_reducible refine gq 70 rfl ?_); refine gl (some 5) Tryd.func70 #[.int .i64 a0_0, .int .i64 0, .int .i64 31] ?_; (with_reducible refine (spec_l6In.calls a0_0 0 31 false _ A2.out).mono ?_); rintro e w' ⟨rfl, ⟨nd, rfl⟩⟩; refine ⟨_, rfl, ?_⟩))
  go_ret
  exact ⟨ze, zb HB⟩

/-! ### spec_l2Sign: function 73 -/
-- thin
def spec_l2Sign.l0 : Nat → Int → Int → Option (Int)
 | 0, _, _ => none
 | k + 1, x0, x3 => if x3 < 39 then (if 0 ≤ x3 then (if (bt (⟨#[101, 116, 97, 111, 105, 110, 115, 114, 104, 108, 48, 49, 50, 51, 52, 53, 54, 55, 56, 57, 100, 99, 117, 109, 102, 112, 103, 119, 121, 98, 118, 107, 120, 106, 113, 122, 58, 47, 45]⟩ : ByteArray) x3) = x0 then (some x3) else (spec_l2Sign.l0 k x0 (wrap64 (x3 + 1)))) else (none)) else (some (-1))
def spec_l2Sign.f (k : Nat) (a0 : Int) : Option (Int) := spec_l2Sign.l0 k a0 0
theorem spec_l2Sign.mono_l : ∀ k, (∀ y0 y1, LeO (spec_l2Sign.l0 k y0 y1) (spec_l2Sign.l0 (k + 1) y0 y1))
 | 0 => fun _ _ r h => by simp [spec_l2Sign.l0] at h
 | k + 1 => by
  have ih0 := spec_l2Sign.mono_l k
  ·intro y0 y1
   unfold spec_l2Sign.l0
   exact zm
theorem spec_l2Sign.mono : ∀ a0 k, LeO (spec_l2Sign.f k a0) (spec_l2Sign.f (k + 1) a0) := by
 intro a0 k
 have ih0 := spec_l2Sign.mono_l k
 unfold spec_l2Sign.f
 exact zm
set_option maxHeartbeats 8000000 in
set_option maxRecDepth 100000 in
theorem spec_l2Sign.calls (k : Nat) (a0 : Int) (r : Int) (w : World) (h : spec_l2Sign.f k a0 = some r) :
  Calls Tryd.prog 73 #[.int .u8 a0] w fun e w' => e = .returned (.int .i64 r) ∧ Drawn0 w w' := by
 have H : (spec_l2Sign.l0 k a0 0) = some r := h
 clear h
 have H' := Aside0.mk H
 clear H
 go_enter Tryd.func73, Tryd.ntmps73
 go_wp2
 go_loopg [3] k (fun kq v3 w' => ∃ (x3_1 : Int), v3 = .int .i64 x3_1 ∧ Aside0 (spec_l2Sign.l0 kq a0 x3_1 = some r) ∧ Aside0 (kq ≤ k) ∧ Drawn0 w w')
 case atStart => exact ⟨(0), zs, H', ⟨Nat.le_refl _⟩, by repeat (first | exact Drawn0.refl _ | apply Drawn0.step)⟩
 case round =>
  clear H'
  obtain ⟨x3_1, rfl, HA, HK1, ⟨m1, rfl⟩⟩ := hrel
  cases gk with
  | zero => exact absurd HA.out (by simp [spec_l2Sign.l0])
  | succ k1 =>
   have H := HA.out
   clear HA
   simp only [spec_l2Sign.l0] at H
   replace H := sp H
   rcases H with ⟨c2, H⟩ | ⟨c2, H⟩
   ·skip
    have c2b0 := decide_eq_true c2
    clear c2
    by_cases c3 : 0 ≤ x3_1
    ·rw [if_pos c3] at H
     have c3b0 := decide_eq_true c3
     clear c3
     by_cases c5 : (bt (⟨#[101, 116, 97, 111, 105, 110, 115, 114, 104, 108, 48, 49, 50, 51, 52, 53, 54, 55, 56, 57, 100, 99, 117, 109, 102, 112, 103, 119, 121, 98, 118, 107, 120, 106, 113, 122, 58, 47, 45]⟩ : ByteArray) x3_1) = a0
     ·rw [if_pos c5] at H
      have c5b0 : ((bt (⟨#[101, 116, 97, 111, 105, 110, 115, 114, 104, 108, 48, 49, 50, 51, 52, 53, 54, 55, 56, 57, 100, 99, 117, 109, 102, 112, 103, 119, 121, 98, 118, 107, 120, 106, 113, 122, 58, 47, 45]⟩ : ByteArray) x3_1) == a0) = true := beq_iff_eq.mpr c5
      have c5b1 : ((bt (⟨#[101, 116, 97, 111, 105, 110, 115, 114, 104, 108, 48, 49, 50, 51, 52, 53, 54, 55, 56, 57, 100, 99, 117, 109, 102, 112, 103, 119, 121, 98, 118, 107, 120, 106, 113, 122, 58, 47, 45]⟩ : ByteArray) x3_1) != a0) = false := bne_eq_false_iff_eq.mpr c5
      clear c5
      obtain rfl := Option.some.inj H
      have p4 : 0 ≤ (x3_1 : Int) := of_decide_eq_true za
      have q4 : x3_1 < (39 : Int) := of_decide_eq_true za
      have hx4 := bt_at (⟨#[101, 116, 97, 111, 105, 110, 115, 114, 104, 108, 48, 49, 50, 51, 52, 53, 54, 55, 56, 57, 100, 99, 117, 109, 102, 112, 103, 119, 121, 98, 118, 107, 120, 106, 113, 122, 58, 47, 45]⟩ : ByteArray) x3_1
      replace p4 := eq_true p4
      replace q4 := eq_true q4
      go_wp2
      go_ret
      exact ⟨zs, by repeat (first | exact Drawn0.refl _ | apply Drawn0.step)⟩
     ·rw [if_neg c5] at H
      have c5b0 : ((bt (⟨#[101, 116, 97, 111, 105, 110, 115, 114, 104, 108, 48, 49, 50, 51, 52, 53, 54, 55, 56, 57, 100, 99, 117, 109, 102, 112, 103, 119, 121, 98, 118, 107, 120, 106, 113, 122, 58, 47, 45]⟩ : ByteArray) x3_1) == a0) = false := beq_eq_false_iff_ne.mpr c5
      have c5b1 : ((bt (⟨#[101, 116, 97, 111, 105, 110, 115, 114, 104, 108, 48, 49, 50, 51, 52, 53, 54, 55, 56, 57, 100, 99, 117, 109, 102, 112, 103, 119, 121, 98, 118, 107, 120, 106, 113, 122, 58, 47, 45]⟩ : ByteArray) x3_1) != a0) = true := bne_iff_ne.mpr c5
      have H' := Aside0.mk H
      clear H
      have p4 : 0 ≤ (x3_1 : Int) := of_decide_eq_true za
      have q4 : x3_1 < (39 : Int) := of_decide_eq_true za
      have hx4 := bt_at (⟨#[101, 116, 97, 111, 105, 110, 115, 114, 104, 108, 48, 49, 50, 51, 52, 53, 54, 55, 56, 57, 100, 99, 117, 109, 102, 112, 103, 119, 121, 98, 118, 107, 120, 106, 113, 122, 58, 47, 45]⟩ : ByteArray) x3_1
      replace p4 := eq_true p4
      replace q4 := eq_true q4
      go_wp2
      go_roundg k1
      case measure => have := HK1.out; omega
      case rel => exact ⟨(wrap64 (x3_1 + 1)), zs, H', ⟨by have := HK1.out; omega⟩, by repeat (first | exact Drawn0.refl _ | apply Drawn0.step)⟩
    ·rw [if_neg c3] at H
     exact absurd H (by simp)
   ·skip
    have c2b0 := decide_eq_false c2
    clear c2
    obtain rfl := Option.some.inj H
    go_wp2
    go_ret
    exact ⟨zs, by repeat (first | exact Drawn0.refl _ | apply Drawn0.step)⟩

end Go.Proofs.YtlpibelofcabhaaDoor.PFnExactEndCall
