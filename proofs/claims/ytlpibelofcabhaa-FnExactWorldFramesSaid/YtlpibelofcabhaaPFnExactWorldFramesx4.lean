-- WRITTEN BY a turned print (wip/tools of the prover's repo)
import Derived.Test.YtlpibelofcabhaaPFnExactWorldFramesx0
import Derived.Test.YtlpibelofcabhaaPFnExactWorldFramesx3
namespace Go.Proofs.Ytlpibelofcabhaa.PFnExactWorldFrames
open Go.RowKit Go.Proofs.YtlpibelofcabhaaW.PrintWords Go.Proofs.YtlpibelofcabhaaW.PrintLast Go.Proofs.YtlpibelofcabhaaW.PrintMore Go.Proofs.Ytlpibelofcabhaa.Lm
attribute [local go_sem] max2_int min2_int max_two min_two max_three min_three max_four min_four   -- for this text's walks alone
set_option linter.unusedVariables false
set_option linter.unusedSimpArgs false

/-! ### laws_szEnd: function 35 -/
-- thin
def laws_szEnd.f (k : Nat) (a0_0 : Bool) (l0_1 : List (S192)) (a0_2 : Int) (l0_3 : List (S192)) (a0_4 : Int) (a0_5 : ByteArray) (l0_6 : List (S167)) (a0_7 : Int) (a0_8 : Int) (l0_9 : List (S169)) (a0_10 : Bool) (a1 : Int) : Option (Int) := (laws_szTable.f k l0_1 a0_2 a1).bind fun t170 => (if t170 < 0 then (some (-1)) else ((laws_szTable.f k l0_3 a0_4 t170).bind fun t171 => (if t171 < 0 then (some (-1)) else (if (wrap64 (t171 - (a0_5.size : Int))) < 0 then (some (-1)) else ((laws_szStreamS.f k l0_6 (wrap64 (t171 - (a0_5.size : Int)))).bind fun t172 => (if t172 < 0 then (some (-1)) else ((laws_szFrameS.f k l0_9 t172).bind fun t173 => (if t173 < 0 then (some (-1)) else (some t173)))))))))
theorem laws_szEnd.mono : ∀ a0 a1 a2 a3 a4 a5 a6 a7 a8 a9 a10 a11 k, LeO (laws_szEnd.f k a0 a1 a2 a3 a4 a5 a6 a7 a8 a9 a10 a11) (laws_szEnd.f (k + 1) a0 a1 a2 a3 a4 a5 a6 a7 a8 a9 a10 a11) := by
 intro a0 a1 a2 a3 a4 a5 a6 a7 a8 a9 a10 a11 k
 unfold laws_szEnd.f
 have m0 := @laws_szFrameS.mono
 have m1 := @laws_szStreamS.mono
 have m2 := @laws_szTable.mono
 exact zm
set_option maxHeartbeats 8000000 in
set_option maxRecDepth 100000 in
theorem laws_szEnd.calls (k : Nat) (a0_0 : Bool) (A0_1 : Option Addr) (c0_1 : Nat) (l0_1 : List (S192)) (a0_2 : Int) (A0_3 : Option Addr) (c0_3 : Nat) (l0_3 : List (S192)) (a0_4 : Int) (a0_5 : ByteArray) (A0_6 : Option Addr) (c0_6 : Nat) (l0_6 : List (S167)) (a0_7 : Int) (a0_8 : Int) (A0_9 : Option Addr) (c0_9 : Nat) (l0_9 : List (S169)) (a0_10 : Bool) (a1 : Int) (r : Int) (w : World) (hr0_1 : Kd.C k192 w A0_1 l0_1.length l0_1) (hc0_1 : l0_1.length ≤ c0_1) (hr0_3 : Kd.C k192 w A0_3 l0_3.length l0_3) (hc0_3 : l0_3.length ≤ c0_3) (hr0_6 : Kd.C k167 w A0_6 l0_6.length l0_6) (hc0_6 : l0_6.length ≤ c0_6) (hr0_9 : Kd.C k169 w A0_9 l0_9.length l0_9) (hc0_9 : l0_9.length ≤ c0_9) (h : laws_szEnd.f k a0_0 l0_1 a0_2 l0_3 a0_4 a0_5 l0_6 a0_7 a0_8 l0_9 a0_10 a1 = some r) :
  Calls Try.prog 35 #[.agg #[.bool a0_0, .slice A0_1 l0_1.length c0_1, .int .i64 a0_2, .slice A0_3 l0_3.length c0_3, .int .i64 a0_4, .string a0_5, .slice A0_6 l0_6.length c0_6, .int .i64 a0_7, .int .i64 a0_8, .slice A0_9 l0_9.length c0_9, .bool a0_10], .int .i64 a1] w fun e w' => e = .returned (.int .i64 r) ∧ Below w.heap.size w w' := by
 have hu64 := Try.underlying64
 have hu59 := Try.underlying59
 have HR0_1 := Aside0.mk hr0_1
 have HC0_1 := Aside0.mk hc0_1
 clear hr0_1 hc0_1
 have HR0_3 := Aside0.mk hr0_3
 have HC0_3 := Aside0.mk hc0_3
 clear hr0_3 hc0_3
 have HR0_6 := Aside0.mk hr0_6
 have HC0_6 := Aside0.mk hc0_6
 clear hr0_6 hc0_6
 have HR0_9 := Aside0.mk hr0_9
 have HC0_9 := Aside0.mk hc0_9
 clear hr0_9 hc0_9
 have HB := Aside0.mk (Below.refl w.heap.size w)
 have H : ((laws_szTable.f k l0_1 a0_2 a1).bind fun t170 => (if t170 < 0 then (some (-1)) else ((laws_szTable.f k l0_3 a0_4 t170).bind fun t171 => (if t171 < 0 then (some (-1)) else (if (wrap64 (t171 - (a0_5.size : Int))) < 0 then (some (-1)) else ((laws_szStreamS.f k l0_6 (wrap64 (t171 - (a0_5.size : Int)))).bind fun t172 => (if t172 < 0 then (some (-1)) else ((laws_szFrameS.f k l0_9 t172).bind fun t173 => (if t173 < 0 then (some (-1)) else (some t173)))))))))) = some r := h
 clear h
 obtain ⟨t170, A3, H⟩ := ob H
 (try dsimp only at H)
 have HC4 := Aside0.mk H
 clear H
 go_enter Try.func35, Try.ntmps35
 go_upto_if 10 with (first | ((with_reducible refine gd 2 rfl ?_); refine bx (N := 2) (cs := #[.bool a0_0, .slice A0_1 l0_1.length c0_1, .int .i64 a0_2, .slice A0_3 l0_3.length c0_3, .int .i64 a0_4, .string a0_5, .slice A0_6 l0_6.length c0_6, .int .i64 a0_7, .int .i64 a0_8, .slice A0_9 l0_9.length c0_9, .bool a0_10]) (t := 64) ?_; intro gb169 hg w5 hbox hb; have BK169 := Aside0.mk (hbox); have GW169 := gw HB hg; have GE169 := GW169; replace HB := Aside0.mk (below_step (zb HB) hb); clear hb hbox hg; obtain ⟨hcz6_0, hcz6_1, hcz6_2, hcz6_3, hcz6_4, hcz6_5, hcz6_6, hcz6_7, hcz6_8, hcz6_9, hcz6_10, hfz6_0, hfz6_1, hfz6_2, hfz6_3, hfz6_4, hfz6_5, hfz6_6, hfz6_7, hfz6_8, hfz6_9, hfz6_10⟩ := c11 BK169) | ((with_reducible refine gq 89 rfl ?_); refine gl (some 8) Try.func89 #[.agg #[.slice A0_1 l0_1.length c0_1, .int .i64 a0_2], .int .i64 a1] ?_; (with_reducible refine (laws_szTable.calls k _ _ l0_1 a0_2 a1 t170 _ ?side1 ?side2 A3.out).mono ?_); (case side1 => exact zc (Kd.C_below HR0_1.out HB.out)); (case side2 => exact HC0_1.out); rintro e w7 ⟨rfl, hb⟩; refine ⟨_, rfl, ?_⟩; replace BK169 := kb BK169 hb; replace HB := Aside0.mk (below_step (zb HB) hb); (try clear hb)))
 (try simp only [Act.put, s1, s2, s3])
 have H := HC4.out
 clear HC4
 replace H := sp H
 rcases H with ⟨c8, H⟩ | ⟨c8, H⟩
 ·skip
  have c8b0 := decide_eq_true c8
  clear c8
  (first | rw [c8b0] | rw [c8b1] | rw [c8b2] | (simp only [i64_w, i32_w]; rw [c8b0]) | skip)
  obtain rfl := Option.some.inj H
  go_wp2
  go_ret
  exact ⟨ze, zb HB⟩
 ·skip
  have c8b0 := decide_eq_false c8
  clear c8
  (first | rw [c8b0] | rw [c8b1] | rw [c8b2] | (simp only [i64_w, i32_w]; rw [c8b0]) | skip)
  obtain ⟨t171, A9, H⟩ := ob H
  (try dsimp only at H)
  replace H := sp H
  rcases H with ⟨c10, H⟩ | ⟨c10, H⟩
  ·skip
   have c10b0 := decide_eq_true c10
   clear c10
   obtain rfl := Option.some.inj H
   obtain ⟨hcz11_0, hcz11_1, hcz11_2, hcz11_3, hcz11_4, hcz11_5, hcz11_6, hcz11_7, hcz11_8, hcz11_9, hcz11_10, hfz11_0, hfz11_1, hfz11_2, hfz11_3, hfz11_4, hfz11_5, hfz11_6, hfz11_7, hfz11_8, hfz11_9, hfz11_10⟩ := c11 BK169
   go_wp2_with (first | ((with_reducible refine gq 89 rfl ?_); refine gl (some 14) Try.func89 #[.agg #[.slice A0_3 l0_3.length c0_3, .int .i64 a0_4], .int .i64 t170] ?_; (with_reducible refine (laws_szTable.calls k _ _ l0_3 a0_4 t170 t171 _ ?side1 ?side2 A9.out).mono ?_); (case side1 => exact zc (Kd.C_below HR0_3.out HB.out)); (case side2 => exact HC0_3.out); rintro e w12 ⟨rfl, hb⟩; refine ⟨_, rfl, ?_⟩; replace BK169 := kb BK169 hb; replace HB := Aside0.mk (below_step (zb HB) hb); (try clear hb)))
   go_ret
   exact ⟨ze, zb HB⟩
  ·skip
   have c10b0 := decide_eq_false c10
   clear c10
   replace H := sp H
   rcases H with ⟨c13, H⟩ | ⟨c13, H⟩
   ·skip
    have c13b0 := decide_eq_true c13
    clear c13
    obtain rfl := Option.some.inj H
    obtain ⟨hcz14_0, hcz14_1, hcz14_2, hcz14_3, hcz14_4, hcz14_5, hcz14_6, hcz14_7, hcz14_8, hcz14_9, hcz14_10, hfz14_0, hfz14_1, hfz14_2, hfz14_3, hfz14_4, hfz14_5, hfz14_6, hfz14_7, hfz14_8, hfz14_9, hfz14_10⟩ := c11 BK169
    go_wp2_with (first | ((with_reducible refine gq 89 rfl ?_); refine gl (some 14) Try.func89 #[.agg #[.slice A0_3 l0_3.length c0_3, .int .i64 a0_4], .int .i64 t170] ?_; (with_reducible refine (laws_szTable.calls k _ _ l0_3 a0_4 t170 t171 _ ?side1 ?side2 A9.out).mono ?_); (case side1 => exact zc (Kd.C_below HR0_3.out HB.out)); (case side2 => exact HC0_3.out); rintro e w15 ⟨rfl, hb⟩; refine ⟨_, rfl, ?_⟩; replace BK169 := kb BK169 hb; replace HB := Aside0.mk (below_step (zb HB) hb); (try clear hb); obtain ⟨hcz16_0, hcz16_1, hcz16_2, hcz16_3, hcz16_4, hcz16_5, hcz16_6, hcz16_7, hcz16_8, hcz16_9, hcz16_10, hfz16_0, hfz16_1, hfz16_2, hfz16_3, hfz16_4, hfz16_5, hfz16_6, hfz16_7, hfz16_8, hfz16_9, hfz16_10⟩ := c11 BK169))
    go_ret
    exact ⟨ze, zb HB⟩
   ·skip
    have c13b0 := decide_eq_false c13
    clear c13
    obtain ⟨t172, A17, H⟩ := ob H
    (try dsimp only at H)
    have HC18 := Aside0.mk H
    clear H
    obtain ⟨hcz19_0, hcz19_1, hcz19_2, hcz19_3, hcz19_4, hcz19_5, hcz19_6, hcz19_7, hcz19_8, hcz19_9, hcz19_10, hfz19_0, hfz19_1, hfz19_2, hfz19_3, hfz19_4, hfz19_5, hfz19_6, hfz19_7, hfz19_8, hfz19_9, hfz19_10⟩ := c11 BK169
    go_upto_if 29 with (first | ((with_reducible refine gq 89 rfl ?_); refine gl (some 14) Try.func89 #[.agg #[.slice A0_3 l0_3.length c0_3, .int .i64 a0_4], .int .i64 t170] ?_; (with_reducible refine (laws_szTable.calls k _ _ l0_3 a0_4 t170 t171 _ ?side1 ?side2 A9.out).mono ?_); (case side1 => exact zc (Kd.C_below HR0_3.out HB.out)); (case side2 => exact HC0_3.out); rintro e w20 ⟨rfl, hb⟩; refine ⟨_, rfl, ?_⟩; replace BK169 := kb BK169 hb; replace HB := Aside0.mk (below_step (zb HB) hb); (try clear hb); obtain ⟨hcz21_0, hcz21_1, hcz21_2, hcz21_3, hcz21_4, hcz21_5, hcz21_6, hcz21_7, hcz21_8, hcz21_9, hcz21_10, hfz21_0, hfz21_1, hfz21_2, hfz21_3, hfz21_4, hfz21_5, hfz21_6, hfz21_7, hfz21_8, hfz21_9, hfz21_10⟩ := c11 BK169) | ((with_reducible refine gq 90 rfl ?_); refine gl (some 27) Try.func90 #[.slice A0_6 l0_6.length c0_6, .int .i64 (wrap64 (t171 - (a0_5.size : Int)))] ?_; (with_reducible refine (laws_szStreamS.calls k _ _ l0_6 (wrap64 (t171 - (a0_5.size : Int))) t172 _ ?side1 ?side2 A17.out).mono ?_); (case side1 => exact zc (Kd.C_below HR0_6.out HB.out)); (case side2 => exact HC0_6.out); rintro e w22 ⟨rfl, hb⟩; refine ⟨_, rfl, ?_⟩; replace BK169 := kb BK169 hb; replace HB := Aside0.mk (below_step (zb HB) hb); (try clear hb)))
    (try simp only [Act.put, s1, s2, s3])
    have H := HC18.out
    clear HC18
    replace H := sp H
    rcases H with ⟨c23, H⟩ | ⟨c23, H⟩
    ·skip
     have c23b0 := decide_eq_true c23
     clear c23
     (first | rw [c23b0] | rw [c23b1] | rw [c23b2] | (simp only [i64_w, i32_w]; rw [c23b0]) | skip)
     obtain rfl := Option.some.inj H
     go_wp2
     go_ret
     exact ⟨ze, zb HB⟩
    ·skip
     have c23b0 := decide_eq_false c23
     clear c23
     (first | rw [c23b0] | rw [c23b1] | rw [c23b2] | (simp only [i64_w, i32_w]; rw [c23b0]) | skip)
     obtain ⟨t173, A24, H⟩ := ob H
     (try dsimp only at H)
     replace H := sp H
     rcases H with ⟨c25, H⟩ | ⟨c25, H⟩
     ·skip
      have c25b0 := decide_eq_true c25
      clear c25
      obtain rfl := Option.some.inj H
      obtain ⟨hcz26_0, hcz26_1, hcz26_2, hcz26_3, hcz26_4, hcz26_5, hcz26_6, hcz26_7, hcz26_8, hcz26_9, hcz26_10, hfz26_0, hfz26_1, hfz26_2, hfz26_3, hfz26_4, hfz26_5, hfz26_6, hfz26_7, hfz26_8, hfz26_9, hfz26_10⟩ := c11 BK169
      go_wp2_with (first | ((with_reducible refine gq 91 rfl ?_); refine gl (some 33) Try.func91 #[.slice A0_9 l0_9.length c0_9, .int .i64 t172] ?_; (with_reducible refine (laws_szFrameS.calls k _ _ l0_9 t172 t173 _ ?side1 ?side2 A24.out).mono ?_); (case side1 => exact zc (Kd.C_below HR0_9.out HB.out)); (case side2 => exact HC0_9.out); rintro e w27 ⟨rfl, hb⟩; refine ⟨_, rfl, ?_⟩; replace BK169 := kb BK169 hb; replace HB := Aside0.mk (below_step (zb HB) hb); (try clear hb)))
      go_ret
      exact ⟨ze, zb HB⟩
     ·skip
      have c25b0 := decide_eq_false c25
      clear c25
      obtain rfl := Option.some.inj H
      obtain ⟨hcz28_0, hcz28_1, hcz28_2, hcz28_3, hcz28_4, hcz28_5, hcz28_6, hcz28_7, hcz28_8, hcz28_9, hcz28_10, hfz28_0, hfz28_1, hfz28_2, hfz28_3, hfz28_4, hfz28_5, hfz28_6, hfz28_7, hfz28_8, hfz28_9, hfz28_10⟩ := c11 BK169
      go_wp2_with (first | ((with_reducible refine gq 91 rfl ?_); refine gl (some 33) Try.func91 #[.slice A0_9 l0_9.length c0_9, .int .i64 t172] ?_; (with_reducible refine (laws_szFrameS.calls k _ _ l0_9 t172 t173 _ ?side1 ?side2 A24.out).mono ?_); (case side1 => exact zc (Kd.C_below HR0_9.out HB.out)); (case side2 => exact HC0_9.out); rintro e w29 ⟨rfl, hb⟩; refine ⟨_, rfl, ?_⟩; replace BK169 := kb BK169 hb; replace HB := Aside0.mk (below_step (zb HB) hb); (try clear hb)))
      go_ret
      exact ⟨ze, zb HB⟩

/-! ### laws_szWorld: function 38 -/
-- thin
def laws_szWorld.f (k : Nat) (a0_0 : Bool) (l0_1 : List (S192)) (a0_2 : Int) (l0_3 : List (S192)) (a0_4 : Int) (a0_5 : ByteArray) (l0_6 : List (S167)) (a0_7 : Int) (a0_8 : Int) (l0_9 : List (S169)) (a0_10 : Bool) (a0_11 : Bool) (l0_12 : List (S192)) (a0_13 : Int) (l0_14 : List (S192)) (a0_15 : Int) (a0_16 : ByteArray) (l0_17 : List (S167)) (a0_18 : Int) (a0_19 : Int) (l0_20 : List (S169)) (a0_21 : Bool) (a0_22 : ByteArray) (a0_23 : ByteArray) (a1 : Int) : Option (Int) := (laws_szEnd.f k a0_0 l0_1 a0_2 l0_3 a0_4 a0_5 l0_6 a0_7 a0_8 l0_9 a0_10 a1).bind fun t175 => (if t175 < 0 then (some (-1)) else ((laws_szEnd.f k a0_11 l0_12 a0_13 l0_14 a0_15 a0_16 l0_17 a0_18 a0_19 l0_20 a0_21 t175).bind fun t176 => (if t176 < 0 then (some (-1)) else (if (wrap64 (t176 - (a0_22.size : Int))) < 0 then (some (-1)) else (if (wrap64 ((wrap64 (t176 - (a0_22.size : Int))) - (a0_23.size : Int))) < 0 then (some (-1)) else (some (wrap64 ((wrap64 (t176 - (a0_22.size : Int))) - (a0_23.size : Int)))))))))
theorem laws_szWorld.mono : ∀ a0 a1 a2 a3 a4 a5 a6 a7 a8 a9 a10 a11 a12 a13 a14 a15 a16 a17 a18 a19 a20 a21 a22 a23 a24 k, LeO (laws_szWorld.f k a0 a1 a2 a3 a4 a5 a6 a7 a8 a9 a10 a11 a12 a13 a14 a15 a16 a17 a18 a19 a20 a21 a22 a23 a24) (laws_szWorld.f (k + 1) a0 a1 a2 a3 a4 a5 a6 a7 a8 a9 a10 a11 a12 a13 a14 a15 a16 a17 a18 a19 a20 a21 a22 a23 a24) := by
 intro a0 a1 a2 a3 a4 a5 a6 a7 a8 a9 a10 a11 a12 a13 a14 a15 a16 a17 a18 a19 a20 a21 a22 a23 a24 k
 unfold laws_szWorld.f
 have m0 := @laws_szEnd.mono
 exact zm
set_option maxHeartbeats 8000000 in
set_option maxRecDepth 100000 in
theorem laws_szWorld.calls (k : Nat) (a0_0 : Bool) (A0_1 : Option Addr) (c0_1 : Nat) (l0_1 : List (S192)) (a0_2 : Int) (A0_3 : Option Addr) (c0_3 : Nat) (l0_3 : List (S192)) (a0_4 : Int) (a0_5 : ByteArray) (A0_6 : Option Addr) (c0_6 : Nat) (l0_6 : List (S167)) (a0_7 : Int) (a0_8 : Int) (A0_9 : Option Addr) (c0_9 : Nat) (l0_9 : List (S169)) (a0_10 : Bool) (a0_11 : Bool) (A0_12 : Option Addr) (c0_12 : Nat) (l0_12 : List (S192)) (a0_13 : Int) (A0_14 : Option Addr) (c0_14 : Nat) (l0_14 : List (S192)) (a0_15 : Int) (a0_16 : ByteArray) (A0_17 : Option Addr) (c0_17 : Nat) (l0_17 : List (S167)) (a0_18 : Int) (a0_19 : Int) (A0_20 : Option Addr) (c0_20 : Nat) (l0_20 : List (S169)) (a0_21 : Bool) (a0_22 : ByteArray) (a0_23 : ByteArray) (a1 : Int) (r : Int) (w : World) (hr0_1 : Kd.C k192 w A0_1 l0_1.length l0_1) (hc0_1 : l0_1.length ≤ c0_1) (hr0_3 : Kd.C k192 w A0_3 l0_3.length l0_3) (hc0_3 : l0_3.length ≤ c0_3) (hr0_6 : Kd.C k167 w A0_6 l0_6.length l0_6) (hc0_6 : l0_6.length ≤ c0_6) (hr0_9 : Kd.C k169 w A0_9 l0_9.length l0_9) (hc0_9 : l0_9.length ≤ c0_9) (hr0_12 : Kd.C k192 w A0_12 l0_12.length l0_12) (hc0_12 : l0_12.length ≤ c0_12) (hr0_14 : Kd.C k192 w A0_14 l0_14.length l0_14) (hc0_14 : l0_14.length ≤ c0_14) (hr0_17 : Kd.C k167 w A0_17 l0_17.length l0_17) (hc0_17 : l0_17.length ≤ c0_17) (hr0_20 : Kd.C k169 w A0_20 l0_20.length l0_20) (hc0_20 : l0_20.length ≤ c0_20) (h : laws_szWorld.f k a0_0 l0_1 a0_2 l0_3 a0_4 a0_5 l0_6 a0_7 a0_8 l0_9 a0_10 a0_11 l0_12 a0_13 l0_14 a0_15 a0_16 l0_17 a0_18 a0_19 l0_20 a0_21 a0_22 a0_23 a1 = some r) :
  Calls Try.prog 38 #[.agg #[.bool a0_0, .slice A0_1 l0_1.length c0_1, .int .i64 a0_2, .slice A0_3 l0_3.length c0_3, .int .i64 a0_4, .string a0_5, .slice A0_6 l0_6.length c0_6, .int .i64 a0_7, .int .i64 a0_8, .slice A0_9 l0_9.length c0_9, .bool a0_10, .bool a0_11, .slice A0_12 l0_12.length c0_12, .int .i64 a0_13, .slice A0_14 l0_14.length c0_14, .int .i64 a0_15, .string a0_16, .slice A0_17 l0_17.length c0_17, .int .i64 a0_18, .int .i64 a0_19, .slice A0_20 l0_20.length c0_20, .bool a0_21, .string a0_22, .string a0_23], .int .i64 a1] w fun e w' => e = .returned (.int .i64 r) ∧ Below w.heap.size w w' := by
 have hu69 := Try.underlying69
 have hu64 := Try.underlying64
 have HR0_1 := Aside0.mk hr0_1
 have HC0_1 := Aside0.mk hc0_1
 clear hr0_1 hc0_1
 have HR0_3 := Aside0.mk hr0_3
 have HC0_3 := Aside0.mk hc0_3
 clear hr0_3 hc0_3
 have HR0_6 := Aside0.mk hr0_6
 have HC0_6 := Aside0.mk hc0_6
 clear hr0_6 hc0_6
 have HR0_9 := Aside0.mk hr0_9
 have HC0_9 := Aside0.mk hc0_9
 clear hr0_9 hc0_9
 have HR0_12 := Aside0.mk hr0_12
 have HC0_12 := Aside0.mk hc0_12
 clear hr0_12 hc0_12
 have HR0_14 := Aside0.mk hr0_14
 have HC0_14 := Aside0.mk hc0_14
 clear hr0_14 hc0_14
 have HR0_17 := Aside0.mk hr0_17
 have HC0_17 := Aside0.mk hc0_17
 clear hr0_17 hc0_17
 have HR0_20 := Aside0.mk hr0_20
 have HC0_20 := Aside0.mk hc0_20
 clear hr0_20 hc0_20
 have HB := Aside0.mk (Below.refl w.heap.size w)
 have H : ((laws_szEnd.f k a0_0 l0_1 a0_2 l0_3 a0_4 a0_5 l0_6 a0_7 a0_8 l0_9 a0_10 a1).bind fun t175 => (if t175 < 0 then (some (-1)) else ((laws_szEnd.f k a0_11 l0_12 a0_13 l0_14 a0_15 a0_16 l0_17 a0_18 a0_19 l0_20 a0_21 t175).bind fun t176 => (if t176 < 0 then (some (-1)) else (if (wrap64 (t176 - (a0_22.size : Int))) < 0 then (some (-1)) else (if (wrap64 ((wrap64 (t176 - (a0_22.size : Int))) - (a0_23.size : Int))) < 0 then (some (-1)) else (some (wrap64 ((wrap64 (t176 - (a0_22.size : Int))) - (a0_23.size : Int)))))))))) = some r := h
 clear h
 obtain ⟨t175, A3, H⟩ := ob H
 (try dsimp only at H)
 have HC4 := Aside0.mk H
 clear H
 go_enter Try.func38, Try.ntmps38
 go_upto_if 10 with (first | ((with_reducible refine gd 2 rfl ?_); refine bx (N := 2) (cs := #[.bool a0_0, .slice A0_1 l0_1.length c0_1, .int .i64 a0_2, .slice A0_3 l0_3.length c0_3, .int .i64 a0_4, .string a0_5, .slice A0_6 l0_6.length c0_6, .int .i64 a0_7, .int .i64 a0_8, .slice A0_9 l0_9.length c0_9, .bool a0_10, .bool a0_11, .slice A0_12 l0_12.length c0_12, .int .i64 a0_13, .slice A0_14 l0_14.length c0_14, .int .i64 a0_15, .string a0_16, .slice A0_17 l0_17.length c0_17, .int .i64 a0_18, .int .i64 a0_19, .slice A0_20 l0_20.length c0_20, .bool a0_21, .string a0_22, .string a0_23]) (t := 69) ?_; intro gb174 hg w5 hbox hb; have BK174 := Aside0.mk (hbox); have GW174 := gw HB hg; have GE174 := GW174; replace HB := Aside0.mk (below_step (zb HB) hb); clear hb hbox hg; obtain ⟨hcz6_0, hcz6_1, hcz6_2, hcz6_3, hcz6_4, hcz6_5, hcz6_6, hcz6_7, hcz6_8, hcz6_9, hcz6_10, hcz6_11, hcz6_12, hcz6_13, hcz6_14, hcz6_15, hcz6_16, hcz6_17, hcz6_18, hcz6_19, hcz6_20, hcz6_21, hcz6_22, hcz6_23, hfz6_0, hfz6_1, hfz6_2, hfz6_3, hfz6_4, hfz6_5, hfz6_6, hfz6_7, hfz6_8, hfz6_9, hfz6_10, hfz6_11, hfz6_12, hfz6_13, hfz6_14, hfz6_15, hfz6_16, hfz6_17, hfz6_18, hfz6_19, hfz6_20, hfz6_21, hfz6_22, hfz6_23⟩ := c24 BK174) | ((with_reducible refine gq 35 rfl ?_); refine gl (some 8) Try.func35 #[.agg #[.bool a0_0, .slice A0_1 l0_1.length c0_1, .int .i64 a0_2, .slice A0_3 l0_3.length c0_3, .int .i64 a0_4, .string a0_5, .slice A0_6 l0_6.length c0_6, .int .i64 a0_7, .int .i64 a0_8, .slice A0_9 l0_9.length c0_9, .bool a0_10], .int .i64 a1] ?_; (with_reducible refine (laws_szEnd.calls k a0_0 _ _ l0_1 a0_2 _ _ l0_3 a0_4 a0_5 _ _ l0_6 a0_7 a0_8 _ _ l0_9 a0_10 a1 t175 _ ?side1 ?side2 ?side3 ?side4 ?side5 ?side6 ?side7 ?side8 A3.out).mono ?_); (case side1 => exact zc (Kd.C_below HR0_1.out HB.out)); (case side2 => exact HC0_1.out); (case side3 => exact zc (Kd.C_below HR0_3.out HB.out)); (case side4 => exact HC0_3.out); (case side5 => exact zc (Kd.C_below HR0_6.out HB.out)); (case side6 => exact HC0_6.out); (case side7 => exact zc (Kd.C_below HR0_9.out HB.out)); (case side8 => exact HC0_9.out); rintro e w7 ⟨rfl, hb⟩; refine ⟨_, rfl, ?_⟩; replace BK174 := kb BK174 hb; replace HB := Aside0.mk (below_step (zb HB) hb); (try clear hb)))
 (try simp only [Act.put, s1, s2, s3])
 have H := HC4.out
 clear HC4
 replace H := sp H
 rcases H with ⟨c8, H⟩ | ⟨c8, H⟩
 ·skip
  have c8b0 := decide_eq_true c8
  clear c8
  (first | rw [c8b0] | rw [c8b1] | rw [c8b2] | (simp only [i64_w, i32_w]; rw [c8b0]) | skip)
  obtain rfl := Option.some.inj H
  go_wp2
  go_ret
  exact ⟨ze, zb HB⟩
 ·skip
  have c8b0 := decide_eq_false c8
  clear c8
  (first | rw [c8b0] | rw [c8b1] | rw [c8b2] | (simp only [i64_w, i32_w]; rw [c8b0]) | skip)
  obtain ⟨t176, A9, H⟩ := ob H
  (try dsimp only at H)
  replace H := sp H
  rcases H with ⟨c10, H⟩ | ⟨c10, H⟩
  ·skip
   have c10b0 := decide_eq_true c10
   clear c10
   obtain rfl := Option.some.inj H
   obtain ⟨hcz11_0, hcz11_1, hcz11_2, hcz11_3, hcz11_4, hcz11_5, hcz11_6, hcz11_7, hcz11_8, hcz11_9, hcz11_10, hcz11_11, hcz11_12, hcz11_13, hcz11_14, hcz11_15, hcz11_16, hcz11_17, hcz11_18, hcz11_19, hcz11_20, hcz11_21, hcz11_22, hcz11_23, hfz11_0, hfz11_1, hfz11_2, hfz11_3, hfz11_4, hfz11_5, hfz11_6, hfz11_7, hfz11_8, hfz11_9, hfz11_10, hfz11_11, hfz11_12, hfz11_13, hfz11_14, hfz11_15, hfz11_16, hfz11_17, hfz11_18, hfz11_19, hfz11_20, hfz11_21, hfz11_22, hfz11_23⟩ := c24 BK174
   go_wp2_with (first | ((with_reducible refine gq 35 rfl ?_); refine gl (some 14) Try.func35 #[.agg #[.bool a0_11, .slice A0_12 l0_12.length c0_12, .int .i64 a0_13, .slice A0_14 l0_14.length c0_14, .int .i64 a0_15, .string a0_16, .slice A0_17 l0_17.length c0_17, .int .i64 a0_18, .int .i64 a0_19, .slice A0_20 l0_20.length c0_20, .bool a0_21], .int .i64 t175] ?_; (with_reducible refine (laws_szEnd.calls k a0_11 _ _ l0_12 a0_13 _ _ l0_14 a0_15 a0_16 _ _ l0_17 a0_18 a0_19 _ _ l0_20 a0_21 t175 t176 _ ?side1 ?side2 ?side3 ?side4 ?side5 ?side6 ?side7 ?side8 A9.out).mono ?_); (case side1 => exact zc (Kd.C_below HR0_12.out HB.out)); (case side2 => exact HC0_12.out); (case side3 => exact zc (Kd.C_below HR0_14.out HB.out)); (case side4 => exact HC0_14.out); (case side5 => exact zc (Kd.C_below HR0_17.out HB.out)); (case side6 => exact HC0_17.out); (case side7 => exact zc (Kd.C_below HR0_20.out HB.out)); (case side8 => exact HC0_20.out); rintro e w12 ⟨rfl, hb⟩; refine ⟨_, rfl, ?_⟩; replace BK174 := kb BK174 hb; replace HB := Aside0.mk (below_step (zb HB) hb); (try clear hb)))
   go_ret
   exact ⟨ze, zb HB⟩
  ·skip
   have c10b0 := decide_eq_false c10
   clear c10
   replace H := sp H
   rcases H with ⟨c13, H⟩ | ⟨c13, H⟩
   ·skip
    have c13b0 := decide_eq_true c13
    clear c13
    obtain rfl := Option.some.inj H
    obtain ⟨hcz14_0, hcz14_1, hcz14_2, hcz14_3, hcz14_4, hcz14_5, hcz14_6, hcz14_7, hcz14_8, hcz14_9, hcz14_10, hcz14_11, hcz14_12, hcz14_13, hcz14_14, hcz14_15, hcz14_16, hcz14_17, hcz14_18, hcz14_19, hcz14_20, hcz14_21, hcz14_22, hcz14_23, hfz14_0, hfz14_1, hfz14_2, hfz14_3, hfz14_4, hfz14_5, hfz14_6, hfz14_7, hfz14_8, hfz14_9, hfz14_10, hfz14_11, hfz14_12, hfz14_13, hfz14_14, hfz14_15, hfz14_16, hfz14_17, hfz14_18, hfz14_19, hfz14_20, hfz14_21, hfz14_22, hfz14_23⟩ := c24 BK174
    go_wp2_with (first | ((with_reducible refine gq 35 rfl ?_); refine gl (some 14) Try.func35 #[.agg #[.bool a0_11, .slice A0_12 l0_12.length c0_12, .int .i64 a0_13, .slice A0_14 l0_14.length c0_14, .int .i64 a0_15, .string a0_16, .slice A0_17 l0_17.length c0_17, .int .i64 a0_18, .int .i64 a0_19, .slice A0_20 l0_20.length c0_20, .bool a0_21], .int .i64 t175] ?_; (with_reducible refine (laws_szEnd.calls k a0_11 _ _ l0_12 a0_13 _ _ l0_14 a0_15 a0_16 _ _ l0_17 a0_18 a0_19 _ _ l0_20 a0_21 t175 t176 _ ?side1 ?side2 ?side3 ?side4 ?side5 ?side6 ?side7 ?side8 A9.out).mono ?_); (case side1 => exact zc (Kd.C_below HR0_12.out HB.out)); (case side2 => exact HC0_12.out); (case side3 => exact zc (Kd.C_below HR0_14.out HB.out)); (case side4 => exact HC0_14.out); (case side5 => exact zc (Kd.C_below HR0_17.out HB.out)); (case side6 => exact HC0_17.out); (case side7 => exact zc (Kd.C_below HR0_20.out HB.out)); (case side8 => exact HC0_20.out); rintro e w15 ⟨rfl, hb⟩; refine ⟨_, rfl, ?_⟩; replace BK174 := kb BK174 hb; replace HB := Aside0.mk (below_step (zb HB) hb); (try clear hb); obtain ⟨hcz16_0, hcz16_1, hcz16_2, hcz16_3, hcz16_4, hcz16_5, hcz16_6, hcz16_7, hcz16_8, hcz16_9, hcz16_10, hcz16_11, hcz16_12, hcz16_13, hcz16_14, hcz16_15, hcz16_16, hcz16_17, hcz16_18, hcz16_19, hcz16_20, hcz16_21, hcz16_22, hcz16_23, hfz16_0, hfz16_1, hfz16_2, hfz16_3, hfz16_4, hfz16_5, hfz16_6, hfz16_7, hfz16_8, hfz16_9, hfz16_10, hfz16_11, hfz16_12, hfz16_13, hfz16_14, hfz16_15, hfz16_16, hfz16_17, hfz16_18, hfz16_19, hfz16_20, hfz16_21, hfz16_22, hfz16_23⟩ := c24 BK174))
    go_ret
    exact ⟨ze, zb HB⟩
   ·skip
    have c13b0 := decide_eq_false c13
    clear c13
    replace H := sp H
    rcases H with ⟨c17, H⟩ | ⟨c17, H⟩
    ·skip
     have c17b0 := decide_eq_true c17
     clear c17
     obtain rfl := Option.some.inj H
     obtain ⟨hcz18_0, hcz18_1, hcz18_2, hcz18_3, hcz18_4, hcz18_5, hcz18_6, hcz18_7, hcz18_8, hcz18_9, hcz18_10, hcz18_11, hcz18_12, hcz18_13, hcz18_14, hcz18_15, hcz18_16, hcz18_17, hcz18_18, hcz18_19, hcz18_20, hcz18_21, hcz18_22, hcz18_23, hfz18_0, hfz18_1, hfz18_2, hfz18_3, hfz18_4, hfz18_5, hfz18_6, hfz18_7, hfz18_8, hfz18_9, hfz18_10, hfz18_11, hfz18_12, hfz18_13, hfz18_14, hfz18_15, hfz18_16, hfz18_17, hfz18_18, hfz18_19, hfz18_20, hfz18_21, hfz18_22, hfz18_23⟩ := c24 BK174
     go_wp2_with (first | ((with_reducible refine gq 35 rfl ?_); refine gl (some 14) Try.func35 #[.agg #[.bool a0_11, .slice A0_12 l0_12.length c0_12, .int .i64 a0_13, .slice A0_14 l0_14.length c0_14, .int .i64 a0_15, .string a0_16, .slice A0_17 l0_17.length c0_17, .int .i64 a0_18, .int .i64 a0_19, .slice A0_20 l0_20.length c0_20, .bool a0_21], .int .i64 t175] ?_; (with_reducible refine (laws_szEnd.calls k a0_11 _ _ l0_12 a0_13 _ _ l0_14 a0_15 a0_16 _ _ l0_17 a0_18 a0_19 _ _ l0_20 a0_21 t175 t176 _ ?side1 ?side2 ?side3 ?side4 ?side5 ?side6 ?side7 ?side8 A9.out).mono ?_); (case side1 => exact zc (Kd.C_below HR0_12.out HB.out)); (case side2 => exact HC0_12.out); (case side3 => exact zc (Kd.C_below HR0_14.out HB.out)); (case side4 => exact HC0_14.out); (case side5 => exact zc (Kd.C_below HR0_17.out HB.out)); (case side6 => exact HC0_17.out); (case side7 => exact zc (Kd.C_below HR0_20.out HB.out)); (case side8 => exact HC0_20.out); rintro e w19 ⟨rfl, hb⟩; refine ⟨_, rfl, ?_⟩; replace BK174 := kb BK174 hb; replace HB := Aside0.mk (below_step (zb HB) hb); (try clear hb); obtain ⟨hcz20_0, hcz20_1, hcz20_2, hcz20_3, hcz20_4, hcz20_5, hcz20_6, hcz20_7, hcz20_8, hcz20_9, hcz20_10, hcz20_11, hcz20_12, hcz20_13, hcz20_14, hcz20_15, hcz20_16, hcz20_17, hcz20_18, hcz20_19, hcz20_20, hcz20_21, hcz20_22, hcz20_23, hfz20_0, hfz20_1, hfz20_2, hfz20_3, hfz20_4, hfz20_5, hfz20_6, hfz20_7, hfz20_8, hfz20_9, hfz20_10, hfz20_11, hfz20_12, hfz20_13, hfz20_14, hfz20_15, hfz20_16, hfz20_17, hfz20_18, hfz20_19, hfz20_20, hfz20_21, hfz20_22, hfz20_23⟩ := c24 BK174))
     go_ret
     exact ⟨ze, zb HB⟩
    ·skip
     have c17b0 := decide_eq_false c17
     clear c17
     obtain rfl := Option.some.inj H
     obtain ⟨hcz21_0, hcz21_1, hcz21_2, hcz21_3, hcz21_4, hcz21_5, hcz21_6, hcz21_7, hcz21_8, hcz21_9, hcz21_10, hcz21_11, hcz21_12, hcz21_13, hcz21_14, hcz21_15, hcz21_16, hcz21_17, hcz21_18, hcz21_19, hcz21_20, hcz21_21, hcz21_22, hcz21_23, hfz21_0, hfz21_1, hfz21_2, hfz21_3, hfz21_4, hfz21_5, hfz21_6, hfz21_7, hfz21_8, hfz21_9, hfz21_10, hfz21_11, hfz21_12, hfz21_13, hfz21_14, hfz21_15, hfz21_16, hfz21_17, hfz21_18, hfz21_19, hfz21_20, hfz21_21, hfz21_22, hfz21_23⟩ := c24 BK174
     go_wp2_with (first | ((with_reducible refine gq 35 rfl ?_); refine gl (some 14) Try.func35 #[.agg #[.bool a0_11, .slice A0_12 l0_12.length c0_12, .int .i64 a0_13, .slice A0_14 l0_14.length c0_14, .int .i64 a0_15, .string a0_16, .slice A0_17 l0_17.length c0_17, .int .i64 a0_18, .int .i64 a0_19, .slice A0_20 l0_20.length c0_20, .bool a0_21], .int .i64 t175] ?_; (with_reducible refine (laws_szEnd.calls k a0_11 _ _ l0_12 a0_13 _ _ l0_14 a0_15 a0_16 _ _ l0_17 a0_18 a0_19 _ _ l0_20 a0_21 t175 t176 _ ?side1 ?side2 ?side3 ?side4 ?side5 ?side6 ?side7 ?side8 A9.out).mono ?_); (case side1 => exact zc (Kd.C_below HR0_12.out HB.out)); (case side2 => exact HC0_12.out); (case side3 => exact zc (Kd.C_below HR0_14.out HB.out)); (case side4 => exact HC0_14.out); (case side5 => exact zc (Kd.C_below HR0_17.out HB.out)); (case side6 => exact HC0_17.out); (case side7 => exact zc (Kd.C_below HR0_20.out HB.out)); (case side8 => exact HC0_20.out); rintro e w22 ⟨rfl, hb⟩; refine ⟨_, rfl, ?_⟩; replace BK174 := kb BK174 hb; replace HB := Aside0.mk (below_step (zb HB) hb); (try clear hb); obtain ⟨hcz23_0, hcz23_1, hcz23_2, hcz23_3, hcz23_4, hcz23_5, hcz23_6, hcz23_7, hcz23_8, hcz23_9, hcz23_10, hcz23_11, hcz23_12, hcz23_13, hcz23_14, hcz23_15, hcz23_16, hcz23_17, hcz23_18, hcz23_19, hcz23_20, hcz23_21, hcz23_22, hcz23_23, hfz23_0, hfz23_1, hfz23_2, hfz23_3, hfz23_4, hfz23_5, hfz23_6, hfz23_7, hfz23_8, hfz23_9, hfz23_10, hfz23_11, hfz23_12, hfz23_13, hfz23_14, hfz23_15, hfz23_16, hfz23_17, hfz23_18, hfz23_19, hfz23_20, hfz23_21, hfz23_22, hfz23_23⟩ := c24 BK174))
     go_ret
     exact ⟨ze, zb HB⟩

/-! ### laws_toField: function 157 -/
-- thin
def laws_toField.f (a0_0 : ByteArray) (a0_1 : ByteArray) (a0_2 : Bool) : Option (ByteArray × ByteArray × Bool) := some (a0_0, a0_1, a0_2)
set_option maxHeartbeats 8000000 in
set_option maxRecDepth 100000 in
theorem laws_toField.calls (a0_0 : ByteArray) (a0_1 : ByteArray) (a0_2 : Bool) (r1 : ByteArray) (r2 : ByteArray) (r3 : Bool) (w : World) (h : laws_toField.f a0_0 a0_1 a0_2 = some (r1, r2, r3)) :
  Calls Try.prog 157 #[.agg #[.string a0_0, .string a0_1, .bool a0_2]] w fun e w' => e = .returned (.agg #[.string r1, .string r2, .bool r3]) ∧ Below w.heap.size w w' := by
 have hu192 := Try.underlying192
 have hu88 := Try.underlying88
 have HB := Aside0.mk (Below.refl w.heap.size w)
 have H : (some (a0_0, a0_1, a0_2)) = some (r1, r2, r3) := h
 clear h
 simp only [Option.some.injEq, Prod.mk.injEq] at H
 obtain ⟨rfl, rfl, rfl⟩ := H
 go_enter Try.func157, Try.ntmps157
 go_wp2_with (first | ((with_reducible refine gd 1 rfl ?_); refine bx (N := 1) (cs := #[.string a0_0, .string a0_1, .bool a0_2]) (t := 192) ?_; intro gb177 hg w2 hbox hb; have BK177 := Aside0.mk (hbox); have GW177 := gw HB hg; have GE177 := GW177; replace HB := Aside0.mk (below_step (zb HB) hb); clear hb hbox hg) | ((with_reducible refine gd 2 rfl ?_); refine bx (N := 2) (cs := #[.string (⟨#[]⟩ : ByteArray), .string (⟨#[]⟩ : ByteArray), .bool false]) (t := 88) ?_; intro gb178 hg w3 hbox hb; have BK178 := Aside0.mk (hbox); have GW178 := gw HB hg; have GE178 := GW178; replace HB := Aside0.mk (below_step (zb HB) hb); obtain ⟨NB177_178, NB178_177⟩ := nb BK177 hg; replace BK177 := kb BK177 hb; clear hb hbox hg) | ((with_reducible refine gd 3 rfl ?_); refine bx (N := 3) (cs := #[.string (⟨#[]⟩ : ByteArray), .string (⟨#[]⟩ : ByteArray), .bool false]) (t := 88) ?_; intro gb179 hg w4 hbox hb; have BK179 := Aside0.mk (hbox); have GW179 := gw HB hg; have GE179 := GW179; replace HB := Aside0.mk (below_step (zb HB) hb); obtain ⟨NB177_179, NB179_177⟩ := nb BK177 hg; replace BK177 := kb BK177 hb; obtain ⟨NB178_179, NB179_178⟩ := nb BK178 hg; replace BK178 := kb BK178 hb; clear hb hbox hg; have hnb5 := NB177_178.out; have hnc5 := NB178_177.out; have hnb6 := NB177_179.out; have hnc6 := NB179_177.out; obtain ⟨hcz7_0, hcz7_1, hcz7_2, hfz7_0, hfz7_1, hfz7_2⟩ := c3 BK177; have hnb8 := NB179_178.out; have hnc8 := NB178_179.out; obtain ⟨hcz9_0, hcz9_1, hcz9_2, hfz9_0, hfz9_1, hfz9_2⟩ := c3 BK179; obtain ⟨hcz10_0, hcz10_1, hcz10_2, hfz10_0, hfz10_1, hfz10_2⟩ := c3 BK178))
 refine bodyPost_ret (results_cell_row rfl _ _ gb178 88 #[.string a0_0, .string a0_1, .bool a0_2] (0, 0) _ rfl (zp BK178) Try.underlying88 rfl (by kernel_rfl)) rfl ?_
 exact ⟨ze, zb HB⟩

/-! ### laws_toFieldS: function 134 -/
-- thin
def laws_toFieldS.l0 : Nat → List (S192) → List (S88) → Int → Option ((List (S88)))
 | 0, _, _, _ => none
 | k + 1, x0, x3, x4 => if x4 < (x0.length : Int) then (if 0 ≤ x4 then ((laws_toField.f ((rd_T192 x0 x4).f0) ((rd_T192 x0 x4).f1) ((rd_T192 x0 x4).f2)).bind fun bt184 => (if x4 < (x3.length : Int) then (laws_toFieldS.l0 k x0 (x3.set (x4 : Int).toNat (⟨bt184.1, bt184.2.1, bt184.2.2⟩ : S88)) (wrap64 (x4 + 1))) else (none))) else (none)) else (some x3)
def laws_toFieldS.f (k : Nat) (l0 : List (S192)) : Option ((List (S88))) := if 0 ≤ (l0.length : Int) then (if ((l0.length : Int) : Int).toNat ≤ 7036874417766 then (laws_toFieldS.l0 k l0 (List.replicate ((l0.length : Int) : Int).toNat z88) 0) else (none)) else (none)
theorem laws_toFieldS.mono_l : ∀ k, (∀ y0 y1 y2, LeO (laws_toFieldS.l0 k y0 y1 y2) (laws_toFieldS.l0 (k + 1) y0 y1 y2))
 | 0 => fun _ _ _ r h => by simp [laws_toFieldS.l0] at h
 | k + 1 => by
  have ih0 := laws_toFieldS.mono_l k
  ·intro y0 y1 y2
   unfold laws_toFieldS.l0
   exact zm
theorem laws_toFieldS.mono : ∀ a0 k, LeO (laws_toFieldS.f k a0) (laws_toFieldS.f (k + 1) a0) := by
 intro a0 k
 have ih0 := laws_toFieldS.mono_l k
 unfold laws_toFieldS.f
 exact zm
set_option maxHeartbeats 8000000 in
set_option maxRecDepth 100000 in
theorem laws_toFieldS.calls (k : Nat) (A0 : Option Addr) (c0 : Nat) (l0 : List (S192)) (r : List (S88)) (w : World) (hr0 : Kd.C k192 w A0 l0.length l0) (hc0 : l0.length ≤ c0) (h : laws_toFieldS.f k l0 = some r) :
  Calls Try.prog 134 #[.slice A0 l0.length c0] w fun e w' => ∃ v0_ : Value, e = .returned (v0_) ∧ Kd.R k88 88 w' w.heap.size (fun _ => True) v0_ r ∧ Below w.heap.size w w' := by
 have hu192 := Try.underlying192
 have hu88 := Try.underlying88
 have HR0 := Aside0.mk hr0
 have HC0 := Aside0.mk hc0
 clear hr0 hc0
 have HB := Aside0.mk (Below.refl w.heap.size w)
 have H : (if 0 ≤ (l0.length : Int) then (if ((l0.length : Int) : Int).toNat ≤ 7036874417766 then (laws_toFieldS.l0 k l0 (List.replicate ((l0.length : Int) : Int).toNat z88) 0) else (none)) else (none)) = some r := h
 clear h
 replace H := sp H
 rcases H with ⟨c2, H⟩ | ⟨c2, H⟩
 ·skip
  have c2b0 := eq_true c2
  have c2b1 := decide_eq_true c2
  clear c2
  by_cases c3 : ((l0.length : Int) : Int).toNat ≤ 7036874417766
  ·rw [if_pos c3] at H
   have c3b0 := eq_true c3
   have c3b1 := decide_eq_true c3
   clear c3
   obtain ⟨y180, hy180⟩ : ∃ y_ : List (S88), y_ = (List.replicate ((l0.length : Int) : Int).toNat z88) := ⟨_, rfl⟩
   replace H : (laws_toFieldS.l0 k l0 y180 0) = some r := by first | (rw [hy180]; with_reducible exact H) | (have H2_ := (Option.bind_some _ _).symm.trans H; rw [hy180]; with_reducible exact H2_) | (have H2_ := (Option.bind_some _ _).symm.trans H; with_reducible exact H2_) | with_reducible exact H | (rw [hy180]; exact H) | exact H
   have Ny180 := Aside0.mk hy180
   clear hy180
   have H' := Aside0.mk H
   clear H
   go_enter Try.func134, Try.ntmps134
   go_wp2_with (first | ((with_reducible refine gd 7 rfl ?_); refine Kd.R_make k88 _ 88 rfl (N := 7) rfl 23 _ _ rfl (l0.length : Int) rfl rfl Try.underlying23 (.agg #[(.string ⟨#[]⟩), (.string ⟨#[]⟩), (.bool false)]) 40 info88 rfl (by decide) (by omega) z88 (ok := fun _ => True) (okp := fun _ => True) (k88_mkM _ _ _ z88 ) (fun _ hk => hk) trivial (of_decide_eq_true za) (Nat.le_trans (Nat.mul_le_mul_right _ (of_decide_eq_true za : (l0.length : Int).toNat ≤ 7036874417766)) (by omega)) (Below.refl _ _) (Nat.le_refl _) ?_; intro v181 w4 ho5 hb hg_ hnew_; clear hg_ hnew_; (first | rw [← Ny180.out] at ho5 | (simp only [Int.reduceToNat] at ho5; rw [← Ny180.out] at ho5)); have HO182 := Aside0.mk (Kd.R_lower ho5 (below_size (zb HB))); replace HB := Aside0.mk (below_step (zb HB) hb); clear hb ho5))
   go_loopg [4] k (fun kq v4 w' => ∃ (x3_1 : List (S88)) (x4_1 : Int), v4 = .int .i64 x4_1 ∧ Aside0 (laws_toFieldS.l0 kq l0 x3_1 x4_1 = some r) ∧ Aside0 (kq ≤ k) ∧ Aside0 (Kd.R k88 88 w' w.heap.size (fun _ => True) v181 x3_1) ∧ Aside0 (Below w.heap.size w w'))
   case atStart => exact ⟨(y180), (0), zs, H', ⟨Nat.le_refl _⟩, ⟨by exact zr HO182⟩, ⟨zb HB⟩⟩
   case round =>
    clear H'
    try clear c1
    try clear c2
    try clear c2b0
    try clear c2b1
    try clear p2
    try clear c3
    try clear c3b0
    try clear c3b1
    obtain ⟨x3_1, x4_1, rfl, HA, HK1, HO_3, HB⟩ := hrel
    cases gk with
    | zero => exact absurd HA.out (by simp [laws_toFieldS.l0])
    | succ k1 =>
     have H := HA.out
     clear HA
     simp only [laws_toFieldS.l0] at H
     by_cases c6 : x4_1 < (l0.length : Int)
     ·rw [if_pos c6] at H
      have c6b0 := decide_eq_true c6
      clear c6
      by_cases c7 : 0 ≤ x4_1
      ·rw [if_pos c7] at H
       have c7b0 := decide_eq_true c7
       clear c7
       obtain ⟨⟨t184, t185, t186⟩, A8, H⟩ := ob H
       (try dsimp only at H)
       by_cases c9 : x4_1 < (x3_1.length : Int)
       ·rw [if_pos c9] at H
        have c9b0 := decide_eq_true c9
        clear c9
        obtain ⟨y187, hy187⟩ : ∃ y_ : List (S88), y_ = (x3_1.set (x4_1 : Int).toNat (⟨t184, t185, t186⟩ : S88)) := ⟨_, rfl⟩
        replace H : (laws_toFieldS.l0 k1 l0 y187 (wrap64 (x4_1 + 1))) = some r := by first | (rw [hy187]; with_reducible exact H) | (have H2_ := (Option.bind_some _ _).symm.trans H; rw [hy187]; with_reducible exact H2_) | (have H2_ := (Option.bind_some _ _).symm.trans H; with_reducible exact H2_) | with_reducible exact H | (rw [hy187]; exact H) | exact H
        have Ny187 := Aside0.mk hy187
        clear hy187
        have H' := Aside0.mk H
        clear H
        have p183 : 0 ≤ (x4_1 : Int) := of_decide_eq_true za
        have q183 : x4_1 < (l0.length : Int) := of_decide_eq_true za
        obtain ⟨ad183, e183, hx183_0, hx183_1, hx183_2⟩ := at_T192 HR0.out x4_1 p183 q183
        cases e183
        replace hx183_0 := cb0 hx183_0 HB
        replace hx183_1 := cb0 hx183_1 HB
        replace hx183_2 := cb0 hx183_2 HB
        replace p183 := eq_true p183
        replace q183 := eq_true q183
        go_wp2_with (first | ((with_reducible refine gq 157 rfl ?_); refine gl (some 20) Try.func157 #[.agg #[.string ((rd_T192 l0 x4_1).f0), .string ((rd_T192 l0 x4_1).f1), .bool ((rd_T192 l0 x4_1).f2)]] ?_; (with_reducible refine (laws_toField.calls ((rd_T192 l0 x4_1).f0) ((rd_T192 l0 x4_1).f1) ((rd_T192 l0 x4_1).f2) t184 t185 t186 _ A8.out).mono ?_); rintro e w11 ⟨rfl, hb⟩; refine ⟨_, rfl, ?_⟩; replace HO_3 := Aside0.mk (Kd.R_below (zr HO_3) hb); replace HB := Aside0.mk (below_step (zb HB) hb); (try clear hb); have p10 : 0 ≤ (x4_1 : Int) := of_decide_eq_true za; have q10 : (x4_1 : Int) < ((x3_1.length : Int) : Int) := of_decide_eq_true za; obtain ⟨go10, co10, eo10, gb10, gl10, cl10, HG10⟩ := Kd.R_form HO_3.out (by omega); (first | cases eo10 | (injection eo10 with ea_ en_ ec_; (first | subst ea_ | (injection ea_ with ea_; subst ea_)); subst ec_; clear en_)); have GB10 := Aside0.mk gb10; have GG10 := Aside0.mk HG10; clear gb10 gl10 HG10; obtain ⟨ce10, hcl10, hM10, hcc10, hfr10⟩ := Kd.R_elem HO_3.out z88 (x4_1 : Int) p10 q10; obtain rfl := k88_openM hM10; have hx10_0 : w11.cell? ⟨go10, (x4_1 : Int).toNat * 3, none⟩ = some (.string ((rd_T88 x3_1 x4_1).f0)) := hcc10 0 _ rfl; have hx10_1 : w11.cell? ⟨go10, (x4_1 : Int).toNat * 3 + 1, none⟩ = some (.string ((rd_T88 x3_1 x4_1).f1)) := hcc10 1 _ rfl; have hx10_2 : w11.cell? ⟨go10, (x4_1 : Int).toNat * 3 + 2, none⟩ = some (.bool ((rd_T88 x3_1 x4_1).f2)) := hcc10 2 _ rfl; have hf10_0 : w11.frozen? ⟨go10, (x4_1 : Int).toNat * 3, none⟩ = false := hfr10 0; have hf10_1 : w11.frozen? ⟨go10, (x4_1 : Int).toNat * 3 + 1, none⟩ = false := hfr10 1; have hf10_2 : w11.frozen? ⟨go10, (x4_1 : Int).toNat * 3 + 2, none⟩ = false := hfr10 2; clear hcl10 hcc10 hfr10 hM10; replace p10 := eq_true p10; replace q10 := eq_true q10; have HX12 := Aside0.mk (show Kd.R k88 88 w11 w.heap.size (fun _ => True) (.slice (some ⟨go10, 0, none⟩) x3_1.length co10) x3_1 from (zr HO_3)); obtain ⟨ce12, hcl12, hM12, hcc12, hfr12⟩ := Kd.R_elem HX12.out z88 (x4_1 : Int) (of_decide_eq_true za) (by have h_ : (x4_1 : Int) < ((x3_1.length : Int) : Int) := of_decide_eq_true za; first | exact h_ | (have e_ := (Kd.R_reads' HO_3.out).1; omega) | simpa using h_); obtain rfl := k88_openM hM12; have HP12 := Kd.R_seg HX12.out (x4_1 : Int) (of_decide_eq_true za) (by have h_ : (x4_1 : Int) < ((x3_1.length : Int) : Int) := of_decide_eq_true za; first | exact h_ | (have e_ := (Kd.R_reads' HO_3.out).1; omega) | simpa using h_) (seg := [.string t184, .string t185, .bool t186]) (j := 0) hcl12 hcc12 (show 3 ≤ 3 from by decide) (x' := (⟨t184, t185, t186⟩ : S88)) (k88_mkM _ _ _ (⟨t184, t185, t186⟩ : S88) ) (fun _ hk => hk); have hx12_0 := hcc12 0 _ rfl; (try simp only [show (k88).sz = 3 from rfl, Nat.mul_one, Nat.add_zero] at hx12_0); have hf12_0 := hfr12 0; (try simp only [show (k88).sz = 3 from rfl, Nat.mul_one, Nat.add_zero] at hf12_0); have hx12_1 := hcc12 1 _ rfl; (try simp only [show (k88).sz = 3 from rfl, Nat.mul_one, Nat.add_zero] at hx12_1); have hf12_1 := hfr12 1; (try simp only [show (k88).sz = 3 from rfl, Nat.mul_one, Nat.add_zero] at hf12_1); have hx12_2 := hcc12 2 _ rfl; (try simp only [show (k88).sz = 3 from rfl, Nat.mul_one, Nat.add_zero] at hx12_2); have hf12_2 := hfr12 2; (try simp only [show (k88).sz = 3 from rfl, Nat.mul_one, Nat.add_zero] at hf12_2); clear hcl12 hcc12 hfr12 hM12) | ((with_reducible refine gate_store (t := 88) (p := 21) rfl ?_); refine store_event (t := 88) (p := 21) (v := ?vo_w13) (w1 := (((w11.setCell ⟨go10, (x4_1 : Int).toNat * 3, none⟩ (.string t184)).setCell ⟨go10, (x4_1 : Int).toNat * 3 + 1, none⟩ (.string t185)).setCell ⟨go10, (x4_1 : Int).toNat * 3 + 2, none⟩ (.bool t186))) ?hg ?ho ?hn ?hr ?_; (case ho => rfl); (case hg => rfl); (case hn => rfl); (case hr => first | (go_simp; done) | (go_simp; rfl)); intro w13 hw; have hg : w11.grownBy w13 (some go10) := (by rw [hw]; exact HP12.2); have hp_ : Kd.R k88 88 w13 w.heap.size (fun _ => True) (.slice (some ⟨go10, 0, none⟩) x3_1.length co10) y187 := (by rw [hw, Ny187.out]; exact HP12.1); clear HP12; replace HO_3 := Aside0.mk (hp_); replace HB := Aside0.mk ((by rw [hw]; exact below_set (below_set (below_set (HB.out) GB10.out) GB10.out) GB10.out : Below w.heap.size w w13)); clear hg hw hp_))
        go_roundg k1
        case measure => have := HK1.out; omega
        case rel => exact ⟨(y187), (wrap64 (x4_1 + 1)), zs, H', ⟨by have := HK1.out; omega⟩, ⟨by exact zr HO_3⟩, ⟨zb HB⟩⟩
       ·rw [if_neg c9] at H
        exact absurd H (by simp)
      ·rw [if_neg c7] at H
       exact absurd H (by simp)
     ·rw [if_neg c6] at H
      have c6b0 := decide_eq_false c6
      clear c6
      obtain rfl := Option.some.inj H
      go_wp2
      go_ret
      exact ⟨_, ze, zq (HO_3.out), zb HB⟩
  ·rw [if_neg c3] at H
   exact absurd H (by simp)
 ·skip
  exact absurd H (by simp)

/-! ### laws_toTable: function 95 -/
-- thin
def laws_toTable.f (k : Nat) (l0_0 : List (S192)) (a0_1 : Int) : Option ((List (S88)) × Int) := (laws_toFieldS.f k l0_0).bind fun t191 => (some (t191, a0_1))
theorem laws_toTable.mono : ∀ a0 a1 k, LeO (laws_toTable.f k a0 a1) (laws_toTable.f (k + 1) a0 a1) := by
 intro a0 a1 k
 unfold laws_toTable.f
 have m0 := @laws_toFieldS.mono
 exact zm
set_option maxHeartbeats 8000000 in
set_option maxRecDepth 100000 in
theorem laws_toTable.calls (k : Nat) (A0_0 : Option Addr) (c0_0 : Nat) (l0_0 : List (S192)) (a0_1 : Int) (r1 : List (S88)) (r2 : Int) (w : World) (hr0_0 : Kd.C k192 w A0_0 l0_0.length l0_0) (hc0_0 : l0_0.length ≤ c0_0) (h : laws_toTable.f k l0_0 a0_1 = some (r1, r2)) :
  Calls Try.prog 95 #[.agg #[.slice A0_0 l0_0.length c0_0, .int .i64 a0_1]] w fun e w' => ∃ v0_ : Value, e = .returned (.agg #[v0_, .int .i64 r2]) ∧ Kd.R k88 88 w' w.heap.size (fun _ => True) v0_ r1 ∧ Below w.heap.size w w' := by
 have hu59 := Try.underlying59
 have hu25 := Try.underlying25
 have HR0_0 := Aside0.mk hr0_0
 have HC0_0 := Aside0.mk hc0_0
 clear hr0_0 hc0_0
 have HB := Aside0.mk (Below.refl w.heap.size w)
 have H : ((laws_toFieldS.f k l0_0).bind fun t191 => (some (t191, a0_1))) = some (r1, r2) := h
 clear h
 obtain ⟨t191, A2, H⟩ := ob H
 (try dsimp only at H)
 simp only [Option.some.injEq, Prod.mk.injEq] at H
 obtain ⟨rfl, rfl⟩ := H
 go_enter Try.func95, Try.ntmps95
 go_wp2_with (first | ((with_reducible refine gd 1 rfl ?_); refine bx (N := 1) (cs := #[.slice A0_0 l0_0.length c0_0, .int .i64 a0_1]) (t := 59) ?_; intro gb188 hg w3 hbox hb; have BK188 := Aside0.mk (hbox); have GW188 := gw HB hg; have GE188 := GW188; replace HB := Aside0.mk (below_step (zb HB) hb); clear hb hbox hg) | ((with_reducible refine gd 2 rfl ?_); refine bx (N := 2) (cs := #[.slice none 0 0, .int .i64 0]) (t := 25) ?_; intro gb189 hg w4 hbox hb; have BK189 := Aside0.mk (hbox); have GW189 := gw HB hg; have GE189 := GW189; replace HB := Aside0.mk (below_step (zb HB) hb); obtain ⟨NB188_189, NB189_188⟩ := nb BK188 hg; replace BK188 := kb BK188 hb; clear hb hbox hg) | ((with_reducible refine gd 3 rfl ?_); refine bx (N := 3) (cs := #[.slice none 0 0, .int .i64 0]) (t := 25) ?_; intro gb190 hg w5 hbox hb; have BK190 := Aside0.mk (hbox); have GW190 := gw HB hg; have GE190 := GW190; replace HB := Aside0.mk (below_step (zb HB) hb); obtain ⟨NB188_190, NB190_188⟩ := nb BK188 hg; replace BK188 := kb BK188 hb; obtain ⟨NB189_190, NB190_189⟩ := nb BK189 hg; replace BK189 := kb BK189 hb; clear hb hbox hg; have hnb6 := NB188_189.out; have hnc6 := NB189_188.out; have hnb7 := NB188_190.out; have hnc7 := NB190_188.out; obtain ⟨hcz8_0, hcz8_1, hfz8_0, hfz8_1⟩ := c2 BK188) | ((with_reducible refine gq 134 rfl ?_); refine gl (some 6) Try.func134 #[.slice A0_0 l0_0.length c0_0] ?_; (with_reducible refine (laws_toFieldS.calls k _ _ l0_0 t191 _ ?side1 ?side2 A2.out).mono ?_); (case side1 => exact zc (Kd.C_below HR0_0.out HB.out)); (case side2 => exact HC0_0.out); rintro e w9 ⟨v192, rfl, ho0, hb⟩; refine ⟨_, rfl, ?_⟩; have HO193 := Aside0.mk (Kd.R_lower ho0 (below_size (zb HB))); replace BK188 := kb BK188 hb; replace BK189 := kb BK189 hb; replace BK190 := kb BK190 hb; replace HB := Aside0.mk (below_step (zb HB) hb); (try clear hb); (try clear ho0); obtain ⟨Ao10, co10, eo10⟩ := Kd.R_slice HO193.out; subst eo10; have hnb11 := NB190_189.out; have hnc11 := NB189_190.out; obtain ⟨hcz12_0, hcz12_1, hfz12_0, hfz12_1⟩ := c2 BK190; obtain ⟨hcz13_0, hcz13_1, hfz13_0, hfz13_1⟩ := c2 BK188; obtain ⟨hcz14_0, hcz14_1, hfz14_0, hfz14_1⟩ := c2 BK189))
 refine bodyPost_ret (results_cell_row rfl _ _ gb189 25 #[.slice Ao10 t191.length co10, .int .i64 a0_1] (0, 0) _ rfl (zp BK189) Try.underlying25 rfl (by kernel_rfl)) rfl ?_
 exact ⟨_, ze, (Kd.R_mono (ztR (Kd.R_types (Kd.R_types HO193.out BK190.out (by decide)) BK189.out (by decide))) (fun _ hk => trivial)), zb HB⟩

/-! ### laws_toFlow: function 97 -/
-- thin
def laws_toFlow.f (a0_0 : Int) (a0_1 : Int) : Option (Int × Int) := some (a0_0, a0_1)
set_option maxHeartbeats 8000000 in
set_option maxRecDepth 100000 in
theorem laws_toFlow.calls (a0_0 : Int) (a0_1 : Int) (r1 : Int) (r2 : Int) (w : World) (h : laws_toFlow.f a0_0 a0_1 = some (r1, r2)) :
  Calls Try.prog 97 #[.agg #[.int .i64 a0_0, .int .i64 a0_1]] w fun e w' => e = .returned (.agg #[.int .i64 r1, .int .i64 r2]) ∧ Below w.heap.size w w' := by
 have hu61 := Try.underlying61
 have hu39 := Try.underlying39
 have HB := Aside0.mk (Below.refl w.heap.size w)
 have H : (some (a0_0, a0_1)) = some (r1, r2) := h
 clear h
 simp only [Option.some.injEq, Prod.mk.injEq] at H
 obtain ⟨rfl, rfl⟩ := H
 go_enter Try.func97, Try.ntmps97
 go_wp2_with (first | ((with_reducible refine gd 1 rfl ?_); refine bx (N := 1) (cs := #[.int .i64 a0_0, .int .i64 a0_1]) (t := 61) ?_; intro gb194 hg w2 hbox hb; have BK194 := Aside0.mk (hbox); have GW194 := gw HB hg; have GE194 := GW194; replace HB := Aside0.mk (below_step (zb HB) hb); clear hb hbox hg) | ((with_reducible refine gd 2 rfl ?_); refine bx (N := 2) (cs := #[.int .i64 0, .int .i64 0]) (t := 39) ?_; intro gb195 hg w3 hbox hb; have BK195 := Aside0.mk (hbox); have GW195 := gw HB hg; have GE195 := GW195; replace HB := Aside0.mk (below_step (zb HB) hb); obtain ⟨NB194_195, NB195_194⟩ := nb BK194 hg; replace BK194 := kb BK194 hb; clear hb hbox hg) | ((with_reducible refine gd 3 rfl ?_); refine bx (N := 3) (cs := #[.int .i64 0, .int .i64 0]) (t := 39) ?_; intro gb196 hg w4 hbox hb; have BK196 := Aside0.mk (hbox); have GW196 := gw HB hg; have GE196 := GW196; replace HB := Aside0.mk (below_step (zb HB) hb); obtain ⟨NB194_196, NB196_194⟩ := nb BK194 hg; replace BK194 := kb BK194 hb; obtain ⟨NB195_196, NB196_195⟩ := nb BK195 hg; replace BK195 := kb BK195 hb; clear hb hbox hg; have hnb5 := NB194_195.out; have hnc5 := NB195_194.out; have hnb6 := NB194_196.out; have hnc6 := NB196_194.out; obtain ⟨hcz7_0, hcz7_1, hfz7_0, hfz7_1⟩ := c2 BK194; have hnb8 := NB196_195.out; have hnc8 := NB195_196.out; obtain ⟨hcz9_0, hcz9_1, hfz9_0, hfz9_1⟩ := c2 BK196; obtain ⟨hcz10_0, hcz10_1, hfz10_0, hfz10_1⟩ := c2 BK195))
 refine bodyPost_ret (results_cell_row rfl _ _ gb195 39 #[.int .i64 a0_0, .int .i64 a0_1] (0, 0) _ rfl (zp BK195) Try.underlying39 rfl (by kernel_rfl)) rfl ?_
 exact ⟨ze, zb HB⟩

/-! ### laws_toStream: function 135 -/
-- thin
def laws_toStream.f (k : Nat) (a0_0 : Int) (a0_1 : Int) (l0_2 : List (S192)) (a0_3 : ByteArray) (a0_4 : Bool) (a0_5 : Bool) (a0_6 : Int) (l0_7 : List (S192)) (a0_8 : ByteArray) (a0_9 : Bool) (a0_10 : Int) (a0_11 : Int) : Option (Int × Int × (List (S88)) × ByteArray × Bool × Bool × Int × (List (S88)) × ByteArray × Bool × Int × Int) := (laws_toFieldS.f k l0_2).bind fun t200 => ((laws_toFieldS.f k l0_7).bind fun t203 => ((laws_toFlow.f a0_10 a0_11).bind fun bt206 => (some (a0_0, a0_1, t200, a0_3, a0_4, a0_5, a0_6, t203, a0_8, a0_9, bt206.1, bt206.2))))
theorem laws_toStream.mono : ∀ a0 a1 a2 a3 a4 a5 a6 a7 a8 a9 a10 a11 k, LeO (laws_toStream.f k a0 a1 a2 a3 a4 a5 a6 a7 a8 a9 a10 a11) (laws_toStream.f (k + 1) a0 a1 a2 a3 a4 a5 a6 a7 a8 a9 a10 a11) := by
 intro a0 a1 a2 a3 a4 a5 a6 a7 a8 a9 a10 a11 k
 unfold laws_toStream.f
 have m0 := @laws_toFieldS.mono
 exact zm
set_option maxHeartbeats 8000000 in
set_option maxRecDepth 100000 in
theorem laws_toStream.calls (k : Nat) (a0_0 : Int) (a0_1 : Int) (A0_2 : Option Addr) (c0_2 : Nat) (l0_2 : List (S192)) (a0_3 : ByteArray) (a0_4 : Bool) (a0_5 : Bool) (a0_6 : Int) (A0_7 : Option Addr) (c0_7 : Nat) (l0_7 : List (S192)) (a0_8 : ByteArray) (a0_9 : Bool) (a0_10 : Int) (a0_11 : Int) (r1 : Int) (r2 : Int) (r3 : List (S88)) (r4 : ByteArray) (r5 : Bool) (r6 : Bool) (r7 : Int) (r8 : List (S88)) (r9 : ByteArray) (r10 : Bool) (r11 : Int) (r12 : Int) (w : World) (hr0_2 : Kd.C k192 w A0_2 l0_2.length l0_2) (hc0_2 : l0_2.length ≤ c0_2) (hr0_7 : Kd.C k192 w A0_7 l0_7.length l0_7) (hc0_7 : l0_7.length ≤ c0_7) (h : laws_toStream.f k a0_0 a0_1 l0_2 a0_3 a0_4 a0_5 a0_6 l0_7 a0_8 a0_9 a0_10 a0_11 = some (r1, r2, r3, r4, r5, r6, r7, r8, r9, r10, r11, r12)) :
  Calls Try.prog 135 #[.agg #[.int .i64 a0_0, .int .i64 a0_1, .slice A0_2 l0_2.length c0_2, .string a0_3, .bool a0_4, .bool a0_5, .int .i64 a0_6, .slice A0_7 l0_7.length c0_7, .string a0_8, .bool a0_9, .int .i64 a0_10, .int .i64 a0_11]] w fun e w' => ∃ v2_ v7_ : Value, e = .returned (.agg #[.int .i64 r1, .int .i64 r2, v2_, .string r4, .bool r5, .bool r6, .int .i64 r7, v7_, .string r9, .bool r10, .int .i64 r11, .int .i64 r12]) ∧ Kd.R k88 88 w' w.heap.size (fun k_ => some k_ ≠ (v7_ : Value).ownBlock) v2_ r3 ∧ Kd.R k88 88 w' w.heap.size (fun k_ => some k_ ≠ (v2_ : Value).ownBlock) v7_ r8 ∧ Below w.heap.size w w' := by
 have hu167 := Try.underlying167
 have hu104 := Try.underlying104
 have hu61 := Try.underlying61
 have hu39 := Try.underlying39
 have HR0_2 := Aside0.mk hr0_2
 have HC0_2 := Aside0.mk hc0_2
 clear hr0_2 hc0_2
 have HR0_7 := Aside0.mk hr0_7
 have HC0_7 := Aside0.mk hc0_7
 clear hr0_7 hc0_7
 have HB := Aside0.mk (Below.refl w.heap.size w)
 have H : ((laws_toFieldS.f k l0_2).bind fun t200 => ((laws_toFieldS.f k l0_7).bind fun t203 => ((laws_toFlow.f a0_10 a0_11).bind fun bt206 => (some (a0_0, a0_1, t200, a0_3, a0_4, a0_5, a0_6, t203, a0_8, a0_9, bt206.1, bt206.2))))) = some (r1, r2, r3, r4, r5, r6, r7, r8, r9, r10, r11, r12) := h
 clear h
 obtain ⟨t200, A2, H⟩ := ob H
 (try dsimp only at H)
 obtain ⟨t203, A3, H⟩ := ob H
 (try dsimp only at H)
 obtain ⟨⟨t206, t207⟩, A4, H⟩ := ob H
 (try dsimp only at H)
 simp only [Option.some.injEq, Prod.mk.injEq] at H
 obtain ⟨rfl, rfl, rfl, rfl, rfl, rfl, rfl, rfl, rfl, rfl, rfl, rfl⟩ := H
 go_enter Try.func135, Try.ntmps135
 go_wp2_with (first | ((with_reducible refine gd 1 rfl ?_); refine bx (N := 1) (cs := #[.int .i64 a0_0, .int .i64 a0_1, .slice A0_2 l0_2.length c0_2, .string a0_3, .bool a0_4, .bool a0_5, .int .i64 a0_6, .slice A0_7 l0_7.length c0_7, .string a0_8, .bool a0_9, .int .i64 a0_10, .int .i64 a0_11]) (t := 167) ?_; intro gb197 hg w5 hbox hb; have BK197 := Aside0.mk (hbox); have GW197 := gw HB hg; have GE197 := GW197; replace HB := Aside0.mk (below_step (zb HB) hb); clear hb hbox hg) | ((with_reducible refine gd 2 rfl ?_); refine bx (N := 2) (cs := #[.int .i64 0, .int .i64 0, .slice none 0 0, .string (⟨#[]⟩ : ByteArray), .bool false, .bool false, .int .i64 0, .slice none 0 0, .string (⟨#[]⟩ : ByteArray), .bool false, .int .i64 0, .int .i64 0]) (t := 104) ?_; intro gb198 hg w6 hbox hb; have BK198 := Aside0.mk (hbox); have GW198 := gw HB hg; have GE198 := GW198; replace HB := Aside0.mk (below_step (zb HB) hb); obtain ⟨NB197_198, NB198_197⟩ := nb BK197 hg; replace BK197 := kb BK197 hb; clear hb hbox hg) | ((with_reducible refine gd 3 rfl ?_); refine bx (N := 3) (cs := #[.int .i64 0, .int .i64 0, .slice none 0 0, .string (⟨#[]⟩ : ByteArray), .bool false, .bool false, .int .i64 0, .slice none 0 0, .string (⟨#[]⟩ : ByteArray), .bool false, .int .i64 0, .int .i64 0]) (t := 104) ?_; intro gb199 hg w7 hbox hb; have BK199 := Aside0.mk (hbox); have GW199 := gw HB hg; have GE199 := GW199; replace HB := Aside0.mk (below_step (zb HB) hb); obtain ⟨NB197_199, NB199_197⟩ := nb BK197 hg; replace BK197 := kb BK197 hb; obtain ⟨NB198_199, NB199_198⟩ := nb BK198 hg; replace BK198 := kb BK198 hb; clear hb hbox hg; have hnb8 := NB197_198.out; have hnc8 := NB198_197.out; have hnb9 := NB197_199.out; have hnc9 := NB199_197.out; obtain ⟨hcz10_0, hcz10_1, hcz10_2, hcz10_3, hcz10_4, hcz10_5, hcz10_6, hcz10_7, hcz10_8, hcz10_9, hcz10_10, hcz10_11, hfz10_0, hfz10_1, hfz10_2, hfz10_3, hfz10_4, hfz10_5, hfz10_6, hfz10_7, hfz10_8, hfz10_9, hfz10_10, hfz10_11⟩ := c12 BK197; have hnb11 := NB199_198.out; have hnc11 := NB198_199.out; obtain ⟨hcz12_0, hcz12_1, hcz12_2, hcz12_3, hcz12_4, hcz12_5, hcz12_6, hcz12_7, hcz12_8, hcz12_9, hcz12_10, hcz12_11, hfz12_0, hfz12_1, hfz12_2, hfz12_3, hfz12_4, hfz12_5, hfz12_6, hfz12_7, hfz12_8, hfz12_9, hfz12_10, hfz12_11⟩ := c12 BK199) | ((with_reducible refine gq 134 rfl ?_); refine gl (some 12) Try.func134 #[.slice A0_2 l0_2.length c0_2] ?_; (with_reducible refine (laws_toFieldS.calls k _ _ l0_2 t200 _ ?side1 ?side2 A2.out).mono ?_); (case side1 => exact Kd.C_below HR0_2.out (zb HB)); (case side2 => exact HC0_2.out); rintro e w13 ⟨v201, rfl, ho0, hb⟩; refine ⟨_, rfl, ?_⟩; have HO202 := Aside0.mk (Kd.R_lower ho0 (below_size (zb HB))); replace BK197 := Aside0.mk (blk_below (g := gb197) (o := .cells #[.int .i64 a0_0, .int .i64 a0_1, .slice A0_2 l0_2.length c0_2, .string a0_3, .bool a0_4, .bool a0_5, .int .i64 a0_6, .slice A0_7 l0_7.length c0_7, .string a0_8, .bool a0_9, .int .i64 a0_10, .int .i64 a0_11] 167 (0, 0)) (zp BK197) hb); replace BK198 := Aside0.mk (blk_below (g := gb198) (o := .cells #[.int .i64 0, .int .i64 0, .slice none 0 0, .string (⟨#[]⟩ : ByteArray), .bool false, .bool false, .int .i64 0, .slice none 0 0, .string (⟨#[]⟩ : ByteArray), .bool false, .int .i64 0, .int .i64 0] 104 (0, 0)) (zp BK198) hb); replace BK199 := Aside0.mk (blk_below (g := gb199) (o := .cells #[.int .i64 a0_0, .int .i64 a0_1, .slice none 0 0, .string (⟨#[]⟩ : ByteArray), .bool false, .bool false, .int .i64 0, .slice none 0 0, .string (⟨#[]⟩ : ByteArray), .bool false, .int .i64 0, .int .i64 0] 104 (0, 0)) (zp BK199) hb); replace HB := Aside0.mk (below_step (zb HB) hb); (try clear hb); (try clear ho0); obtain ⟨Ao14, co14, eo14⟩ := Kd.R_slice HO202.out; subst eo14; obtain ⟨hcz15_0, hcz15_1, hcz15_2, hcz15_3, hcz15_4, hcz15_5, hcz15_6, hcz15_7, hcz15_8, hcz15_9, hcz15_10, hcz15_11, hfz15_0, hfz15_1, hfz15_2, hfz15_3, hfz15_4, hfz15_5, hfz15_6, hfz15_7, hfz15_8, hfz15_9, hfz15_10, hfz15_11⟩ := c12 BK199; obtain ⟨hcz16_0, hcz16_1, hcz16_2, hcz16_3, hcz16_4, hcz16_5, hcz16_6, hcz16_7, hcz16_8, hcz16_9, hcz16_10, hcz16_11, hfz16_0, hfz16_1, hfz16_2, hfz16_3, hfz16_4, hfz16_5, hfz16_6, hfz16_7, hfz16_8, hfz16_9, hfz16_10, hfz16_11⟩ := c12 BK197) | ((with_reducible refine gq 134 rfl ?_); refine gl (some 28) Try.func134 #[.slice A0_7 l0_7.length c0_7] ?_; (with_reducible refine (laws_toFieldS.calls k _ _ l0_7 t203 _ ?side1 ?side2 A3.out).mono ?_); (case side1 => exact Kd.C_below HR0_7.out (zb HB)); (case side2 => exact HC0_7.out); rintro e w17 ⟨v204, rfl, ho0, hb⟩; refine ⟨_, rfl, ?_⟩; have HO205 := Aside0.mk (Kd.R_lower (Kd.R_new' ho0 (Kd.R_lt (((Kd.R_mono (ztR (Kd.R_types HO202.out BK199.out (by decide))) (fun _ h_ => h_.1)))))) (below_size (zb HB))); replace HO202 := Aside0.mk (Kd.R_elder' (((Kd.R_mono (ztR (Kd.R_types HO202.out BK199.out (by decide))) (fun _ h_ => h_.1)))) (Kd.R_base ho0) hb); replace BK197 := Aside0.mk (blk_below (g := gb197) (o := .cells #[.int .i64 a0_0, .int .i64 a0_1, .slice A0_2 l0_2.length c0_2, .string a0_3, .bool a0_4, .bool a0_5, .int .i64 a0_6, .slice A0_7 l0_7.length c0_7, .string a0_8, .bool a0_9, .int .i64 a0_10, .int .i64 a0_11] 167 (0, 0)) (zp BK197) hb); replace BK198 := Aside0.mk (blk_below (g := gb198) (o := .cells #[.int .i64 0, .int .i64 0, .slice none 0 0, .string (⟨#[]⟩ : ByteArray), .bool false, .bool false, .int .i64 0, .slice none 0 0, .string (⟨#[]⟩ : ByteArray), .bool false, .int .i64 0, .int .i64 0] 104 (0, 0)) (zp BK198) hb); replace BK199 := Aside0.mk (blk_below (g := gb199) (o := .cells #[.int .i64 a0_0, .int .i64 a0_1, .slice Ao14 t200.length co14, .string a0_3, .bool a0_4, .bool a0_5, .int .i64 a0_6, .slice none 0 0, .string (⟨#[]⟩ : ByteArray), .bool false, .int .i64 0, .int .i64 0] 104 (0, 0)) (zp BK199) hb); replace HB := Aside0.mk (below_step (zb HB) hb); (try clear hb); (try clear ho0); obtain ⟨Ao18, co18, eo18⟩ := Kd.R_slice HO205.out; subst eo18; obtain ⟨hcz19_0, hcz19_1, hcz19_2, hcz19_3, hcz19_4, hcz19_5, hcz19_6, hcz19_7, hcz19_8, hcz19_9, hcz19_10, hcz19_11, hfz19_0, hfz19_1, hfz19_2, hfz19_3, hfz19_4, hfz19_5, hfz19_6, hfz19_7, hfz19_8, hfz19_9, hfz19_10, hfz19_11⟩ := c12 BK199; obtain ⟨hcz20_0, hcz20_1, hcz20_2, hcz20_3, hcz20_4, hcz20_5, hcz20_6, hcz20_7, hcz20_8, hcz20_9, hcz20_10, hcz20_11, hfz20_0, hfz20_1, hfz20_2, hfz20_3, hfz20_4, hfz20_5, hfz20_6, hfz20_7, hfz20_8, hfz20_9, hfz20_10, hfz20_11⟩ := c12 BK197) | ((with_reducible refine gq 97 rfl ?_); refine gl (some 38) Try.func97 #[.agg #[.int .i64 a0_10, .int .i64 a0_11]] ?_; (with_reducible refine (laws_toFlow.calls a0_10 a0_11 t206 t207 _ A4.out).mono ?_); rintro e w21 ⟨rfl, hb⟩; refine ⟨_, rfl, ?_⟩; replace HO202 := Aside0.mk (Kd.R_below (((Kd.R_mono (ztR (Kd.R_types HO202.out BK199.out (by decide))) (fun _ h_ => h_.1)))) hb); replace HO205 := Aside0.mk (Kd.R_below (((Kd.R_mono (ztR (Kd.R_types HO205.out BK199.out (by decide))) (fun _ h_ => h_.1)))) hb); replace BK197 := Aside0.mk (blk_below (g := gb197) (o := .cells #[.int .i64 a0_0, .int .i64 a0_1, .slice A0_2 l0_2.length c0_2, .string a0_3, .bool a0_4, .bool a0_5, .int .i64 a0_6, .slice A0_7 l0_7.length c0_7, .string a0_8, .bool a0_9, .int .i64 a0_10, .int .i64 a0_11] 167 (0, 0)) (zp BK197) hb); replace BK198 := Aside0.mk (blk_below (g := gb198) (o := .cells #[.int .i64 0, .int .i64 0, .slice none 0 0, .string (⟨#[]⟩ : ByteArray), .bool false, .bool false, .int .i64 0, .slice none 0 0, .string (⟨#[]⟩ : ByteArray), .bool false, .int .i64 0, .int .i64 0] 104 (0, 0)) (zp BK198) hb); replace BK199 := Aside0.mk (blk_below (g := gb199) (o := .cells #[.int .i64 a0_0, .int .i64 a0_1, .slice Ao14 t200.length co14, .string a0_3, .bool a0_4, .bool a0_5, .int .i64 a0_6, .slice Ao18 t203.length co18, .string a0_8, .bool a0_9, .int .i64 0, .int .i64 0] 104 (0, 0)) (zp BK199) hb); replace HB := Aside0.mk (below_step (zb HB) hb); (try clear hb); obtain ⟨hcz22_0, hcz22_1, hcz22_2, hcz22_3, hcz22_4, hcz22_5, hcz22_6, hcz22_7, hcz22_8, hcz22_9, hcz22_10, hcz22_11, hfz22_0, hfz22_1, hfz22_2, hfz22_3, hfz22_4, hfz22_5, hfz22_6, hfz22_7, hfz22_8, hfz22_9, hfz22_10, hfz22_11⟩ := c12 BK199; obtain ⟨hcz23_0, hcz23_1, hcz23_2, hcz23_3, hcz23_4, hcz23_5, hcz23_6, hcz23_7, hcz23_8, hcz23_9, hcz23_10, hcz23_11, hfz23_0, hfz23_1, hfz23_2, hfz23_3, hfz23_4, hfz23_5, hfz23_6, hfz23_7, hfz23_8, hfz23_9, hfz23_10, hfz23_11⟩ := c12 BK198))
 refine bodyPost_ret (results_cell_row rfl _ _ gb198 104 #[.int .i64 a0_0, .int .i64 a0_1, .slice Ao14 t200.length co14, .string a0_3, .bool a0_4, .bool a0_5, .int .i64 a0_6, .slice Ao18 t203.length co18, .string a0_8, .bool a0_9, .int .i64 t206, .int .i64 t207] (0, 0) _ rfl (zp BK198) Try.underlying104 rfl (by kernel_rfl)) rfl ?_
 exact ⟨_, _, ze, (Kd.R_mono (ztR (Kd.R_types (Kd.R_types HO202.out BK199.out (by decide)) BK198.out (by decide))) (fun _ hk => hk.1.1.2)), (Kd.R_mono (ztR (Kd.R_types (Kd.R_types HO205.out BK199.out (by decide)) BK198.out (by decide))) (fun _ hk => hk.1.1.2)), zb HB⟩

/-! ### laws_toStreamS: function 96 -/
-- thin
def laws_toStreamS.l0 : Nat → List (S167) → List (S104) → Int → Option ((List (S104)))
 | 0, _, _, _ => none
 | k + 1, x0, x3, x4 => if x4 < (x0.length : Int) then (if 0 ≤ x4 then ((laws_toStream.f k ((rd_T167 x0 x4).f0) ((rd_T167 x0 x4).f1) ((rd_T167 x0 x4).f2) ((rd_T167 x0 x4).f3) ((rd_T167 x0 x4).f4) ((rd_T167 x0 x4).f5) ((rd_T167 x0 x4).f6) ((rd_T167 x0 x4).f7) ((rd_T167 x0 x4).f8) ((rd_T167 x0 x4).f9) ((rd_T167 x0 x4).f10.f0) ((rd_T167 x0 x4).f10.f1)).bind fun bt212 => (if x4 < (x3.length : Int) then (laws_toStreamS.l0 k x0 (x3.set (x4 : Int).toNat (⟨bt212.1, bt212.2.1, bt212.2.2.1, bt212.2.2.2.1, bt212.2.2.2.2.1, bt212.2.2.2.2.2.1, bt212.2.2.2.2.2.2.1, bt212.2.2.2.2.2.2.2.1, bt212.2.2.2.2.2.2.2.2.1, bt212.2.2.2.2.2.2.2.2.2.1, (⟨bt212.2.2.2.2.2.2.2.2.2.2.1, bt212.2.2.2.2.2.2.2.2.2.2.2⟩ : S39)⟩ : S104)) (wrap64 (x4 + 1))) else (none))) else (none)) else (some x3)
def laws_toStreamS.f (k : Nat) (l0 : List (S167)) : Option ((List (S104))) := if 0 ≤ (l0.length : Int) then (if ((l0.length : Int) : Int).toNat ≤ 2069668946401 then (laws_toStreamS.l0 k l0 (List.replicate ((l0.length : Int) : Int).toNat z104) 0) else (none)) else (none)
theorem laws_toStreamS.mono_l : ∀ k, (∀ y0 y1 y2, LeO (laws_toStreamS.l0 k y0 y1 y2) (laws_toStreamS.l0 (k + 1) y0 y1 y2))
 | 0 => fun _ _ _ r h => by simp [laws_toStreamS.l0] at h
 | k + 1 => by
  have ih0 := laws_toStreamS.mono_l k
  ·intro y0 y1 y2
   unfold laws_toStreamS.l0
   have m0 := @laws_toStream.mono
   exact zm
theorem laws_toStreamS.mono : ∀ a0 k, LeO (laws_toStreamS.f k a0) (laws_toStreamS.f (k + 1) a0) := by
 intro a0 k
 have ih0 := laws_toStreamS.mono_l k
 unfold laws_toStreamS.f
 have m0 := @laws_toStream.mono
 exact zm
set_option maxHeartbeats 8000000 in
set_option maxRecDepth 100000 in
theorem laws_toStreamS.calls (k : Nat) (A0 : Option Addr) (c0 : Nat) (l0 : List (S167)) (r : List (S104)) (w : World) (hr0 : Kd.C k167 w A0 l0.length l0) (hc0 : l0.length ≤ c0) (h : laws_toStreamS.f k l0 = some r) :
  Calls Try.prog 96 #[.slice A0 l0.length c0] w fun e w' => ∃ v0_ : Value, e = .returned (v0_) ∧ Kd.S k104 104 w' w.heap.size (fun _ => True) v0_ r ∧ Below w.heap.size w w' := by
 have hu167 := Try.underlying167
 have hu104 := Try.underlying104
 have HR0 := Aside0.mk hr0
 have HC0 := Aside0.mk hc0
 clear hr0 hc0
 have HB := Aside0.mk (Below.refl w.heap.size w)
 have H : (if 0 ≤ (l0.length : Int) then (if ((l0.length : Int) : Int).toNat ≤ 2069668946401 then (laws_toStreamS.l0 k l0 (List.replicate ((l0.length : Int) : Int).toNat z104) 0) else (none)) else (none)) = some r := h
 clear h
 replace H := sp H
 rcases H with ⟨c2, H⟩ | ⟨c2, H⟩
 ·skip
  have c2b0 := eq_true c2
  have c2b1 := decide_eq_true c2
  clear c2
  by_cases c3 : ((l0.length : Int) : Int).toNat ≤ 2069668946401
  ·rw [if_pos c3] at H
   have c3b0 := eq_true c3
   have c3b1 := decide_eq_true c3
   clear c3
   obtain ⟨y208, hy208⟩ : ∃ y_ : List (S104), y_ = (List.replicate ((l0.length : Int) : Int).toNat z104) := ⟨_, rfl⟩
   replace H : (laws_toStreamS.l0 k l0 y208 0) = some r := by first | (rw [hy208]; with_reducible exact H) | (have H2_ := (Option.bind_some _ _).symm.trans H; rw [hy208]; with_reducible exact H2_) | (have H2_ := (Option.bind_some _ _).symm.trans H; with_reducible exact H2_) | with_reducible exact H | (rw [hy208]; exact H) | exact H
   have Ny208 := Aside0.mk hy208
   clear hy208
   have H' := Aside0.mk H
   clear H
   go_enter Try.func96, Try.ntmps96
   go_wp2_with (first | ((with_reducible refine gd 7 rfl ?_); refine Kd.S_make k104 _ 104 rfl (N := 7) rfl 37 _ _ rfl (l0.length : Int) rfl rfl Try.underlying37 (.agg #[(.int .i64 0), (.int .i64 0), (.slice none 0 0), (.string ⟨#[]⟩), (.bool false), (.bool false), (.int .i64 0), (.slice none 0 0), (.string ⟨#[]⟩), (.bool false), (.int .i64 0), (.int .i64 0)]) 136 info104 rfl (by decide) (by omega) z104 (ok := fun _ => True) (okp := fun _ => True) (k104_mkM _ _ _ z104 (Kd.R_nil _ _ _ _ _) (Kd.R_nil _ _ _ _ _) (fun k_ h_ => by simp [Value.ownBlock] at h_)) (fun _ hk => hk) trivial (of_decide_eq_true za) (Nat.le_trans (Nat.mul_le_mul_right _ (of_decide_eq_true za : (l0.length : Int).toNat ≤ 2069668946401)) (by omega)) (Below.refl _ _) (Nat.le_refl _) ?_; intro v209 w4 ho5 hb hg_ hnew_; clear hg_ hnew_; (first | rw [← Ny208.out] at ho5 | (simp only [Int.reduceToNat] at ho5; rw [← Ny208.out] at ho5)); have HO210 := Aside0.mk (Kd.S_lower ho5 (below_size (zb HB))); replace HB := Aside0.mk (below_step (zb HB) hb); clear hb ho5))
   go_loopg [4] k (fun kq v4 w' => ∃ (x3_1 : List (S104)) (x4_1 : Int), v4 = .int .i64 x4_1 ∧ Aside0 (laws_toStreamS.l0 kq l0 x3_1 x4_1 = some r) ∧ Aside0 (kq ≤ k) ∧ Aside0 (Kd.S k104 104 w' w.heap.size (fun _ => True) v209 x3_1) ∧ Aside0 (Below w.heap.size w w'))
   case atStart => exact ⟨(y208), (0), zs, H', ⟨Nat.le_refl _⟩, ⟨by (with_reducible repeat (first | apply Kd.S_alloc | apply Kd.S_drewN | apply Kd.S_drew)); exact HO210.out⟩, ⟨zb HB⟩⟩
   case round =>
    clear H'
    try clear c2
    try clear c2b0
    try clear c2b1
    try clear p2
    try clear c3
    try clear c3b0
    try clear c3b1
    obtain ⟨x3_1, x4_1, rfl, HA, HK1, HO_3, HB⟩ := hrel
    cases gk with
    | zero => exact absurd HA.out (by simp [laws_toStreamS.l0])
    | succ k1 =>
     have H := HA.out
     clear HA
     simp only [laws_toStreamS.l0] at H
     by_cases c6 : x4_1 < (l0.length : Int)
     ·rw [if_pos c6] at H
      have c6b0 := decide_eq_true c6
      clear c6
      by_cases c7 : 0 ≤ x4_1
      ·rw [if_pos c7] at H
       have c7b0 := decide_eq_true c7
       clear c7
       obtain ⟨⟨t212, t213, t214, t217, t218, t219, t220, t221, t224, t225, t226, t227⟩, A8, H⟩ := ob H
       (try dsimp only at H)
       by_cases c9 : x4_1 < (x3_1.length : Int)
       ·rw [if_pos c9] at H
        have c9b0 := decide_eq_true c9
        clear c9
        obtain ⟨y228, hy228⟩ : ∃ y_ : List (S104), y_ = (x3_1.set (x4_1 : Int).toNat (⟨t212, t213, t214, t217, t218, t219, t220, t221, t224, t225, (⟨t226, t227⟩ : S39)⟩ : S104)) := ⟨_, rfl⟩
        replace H : (laws_toStreamS.l0 k1 l0 y228 (wrap64 (x4_1 + 1))) = some r := by first | (rw [hy228]; with_reducible exact H) | (have H2_ := (Option.bind_some _ _).symm.trans H; rw [hy228]; with_reducible exact H2_) | (have H2_ := (Option.bind_some _ _).symm.trans H; with_reducible exact H2_) | with_reducible exact H | (rw [hy228]; exact H) | exact H
        have Ny228 := Aside0.mk hy228
        clear hy228
        have H' := Aside0.mk H
        clear H
        have p211 : 0 ≤ (x4_1 : Int) := of_decide_eq_true za
        have q211 : x4_1 < (l0.length : Int) := of_decide_eq_true za
        obtain ⟨ad211, A211_2, c211_2, A211_7, c211_7, e211, hx211_0, hx211_1, hx211_2, hx211_3, hx211_4, hx211_5, hx211_6, hx211_7, hx211_8, hx211_9, hx211_10, hx211_11, hl211_2, hi211_2, hl211_7, hi211_7⟩ := at_T167 HR0.out x4_1 p211 q211
        cases e211
        replace hx211_0 := cb0 hx211_0 HB
        replace hx211_1 := cb0 hx211_1 HB
        replace hx211_2 := cb0 hx211_2 HB
        replace hx211_3 := cb0 hx211_3 HB
        replace hx211_4 := cb0 hx211_4 HB
        replace hx211_5 := cb0 hx211_5 HB
        replace hx211_6 := cb0 hx211_6 HB
        replace hx211_7 := cb0 hx211_7 HB
        replace hx211_8 := cb0 hx211_8 HB
        replace hx211_9 := cb0 hx211_9 HB
        replace hx211_10 := cb0 hx211_10 HB
        replace hx211_11 := cb0 hx211_11 HB
        have HR211_2 := Aside0.mk hi211_2
        have HC211_2 := Aside0.mk hl211_2
        clear hi211_2 hl211_2
        have HR211_7 := Aside0.mk hi211_7
        have HC211_7 := Aside0.mk hl211_7
        clear hi211_7 hl211_7
        replace p211 := eq_true p211
        replace q211 := eq_true q211
        go_wp2_with (first | ((with_reducible refine gq 135 rfl ?_); refine gl (some 20) Try.func135 #[.agg #[.int .i64 ((rd_T167 l0 x4_1).f0), .int .i64 ((rd_T167 l0 x4_1).f1), .slice A211_2 ((rd_T167 l0 x4_1).f2).length c211_2, .string ((rd_T167 l0 x4_1).f3), .bool ((rd_T167 l0 x4_1).f4), .bool ((rd_T167 l0 x4_1).f5), .int .i64 ((rd_T167 l0 x4_1).f6), .slice A211_7 ((rd_T167 l0 x4_1).f7).length c211_7, .string ((rd_T167 l0 x4_1).f8), .bool ((rd_T167 l0 x4_1).f9), .int .i64 ((rd_T167 l0 x4_1).f10.f0), .int .i64 ((rd_T167 l0 x4_1).f10.f1)]] ?_; (with_reducible refine (laws_toStream.calls k1 ((rd_T167 l0 x4_1).f0) ((rd_T167 l0 x4_1).f1) _ _ ((rd_T167 l0 x4_1).f2) ((rd_T167 l0 x4_1).f3) ((rd_T167 l0 x4_1).f4) ((rd_T167 l0 x4_1).f5) ((rd_T167 l0 x4_1).f6) _ _ ((rd_T167 l0 x4_1).f7) ((rd_T167 l0 x4_1).f8) ((rd_T167 l0 x4_1).f9) ((rd_T167 l0 x4_1).f10.f0) ((rd_T167 l0 x4_1).f10.f1) t212 t213 t214 t217 t218 t219 t220 t221 t224 t225 t226 t227 _ ?side1 ?side2 ?side3 ?side4 A8.out).mono ?_); (case side1 => exact zc (Kd.C_below HR211_2.out HB.out)); (case side2 => exact HC211_2.out); (case side3 => exact zc (Kd.C_below HR211_7.out HB.out)); (case side4 => exact HC211_7.out); rintro e w11 ⟨v215, v222, rfl, ho0, ho1, hb⟩; refine ⟨_, rfl, ?_⟩; have hs215 := rs ho0; have hs222 := rs ho1; replace HO_3 := Aside0.mk (Kd.S_mono (Kd.S_told (Kd.S_told (Kd.S_old (by (with_reducible repeat (first | apply Kd.S_alloc | apply Kd.S_drewN | apply Kd.S_drew)); exact HO_3.out) hb) (Kd.R_base ho0)) (Kd.R_base ho1)) (fun _ h_ => h_.1)); have HO216 := Aside0.mk (Kd.R_lower ho0 (below_size (zb HB))); have HO223 := Aside0.mk (Kd.R_lower ho1 (below_size (zb HB))); replace HB := Aside0.mk (below_step (zb HB) hb); (try clear hb); (try clear ho0); (try clear ho1); have p10 : 0 ≤ (x4_1 : Int) := of_decide_eq_true za; have q10 : (x4_1 : Int) < ((x3_1.length : Int) : Int) := of_decide_eq_true za; obtain ⟨go10, co10, eo10, gb10, gl10, cl10, HG10⟩ := Kd.S_form HO_3.out (by omega); (first | cases eo10 | (injection eo10 with ea_ en_ ec_; (first | subst ea_ | (injection ea_ with ea_; subst ea_)); subst ec_; clear en_)); have GB10 := Aside0.mk gb10; have GG10 := Aside0.mk HG10; clear gb10 gl10 HG10; obtain ⟨_, ce10, hcl10, hM10, hcc10, hfr10, _, _⟩ := Kd.S_elem HO_3.out z104 (x4_1 : Int) p10 q10; obtain ⟨ve10_2, ve10_7, rfl, ge10_2, ge10_7⟩ := k104_openM hM10; have hx10_0 : w11.cell? ⟨go10, (x4_1 : Int).toNat * 12, none⟩ = some (.int .i64 ((rd_T104 x3_1 x4_1).f0)) := hcc10 0 _ rfl; have hx10_1 : w11.cell? ⟨go10, (x4_1 : Int).toNat * 12 + 1, none⟩ = some (.int .i64 ((rd_T104 x3_1 x4_1).f1)) := hcc10 1 _ rfl; have hx10_2 : w11.cell? ⟨go10, (x4_1 : Int).toNat * 12 + 2, none⟩ = some (ve10_2) := hcc10 2 _ rfl; have hx10_3 : w11.cell? ⟨go10, (x4_1 : Int).toNat * 12 + 3, none⟩ = some (.string ((rd_T104 x3_1 x4_1).f3)) := hcc10 3 _ rfl; have hx10_4 : w11.cell? ⟨go10, (x4_1 : Int).toNat * 12 + 4, none⟩ = some (.bool ((rd_T104 x3_1 x4_1).f4)) := hcc10 4 _ rfl; have hx10_5 : w11.cell? ⟨go10, (x4_1 : Int).toNat * 12 + 5, none⟩ = some (.bool ((rd_T104 x3_1 x4_1).f5)) := hcc10 5 _ rfl; have hx10_6 : w11.cell? ⟨go10, (x4_1 : Int).toNat * 12 + 6, none⟩ = some (.int .i64 ((rd_T104 x3_1 x4_1).f6)) := hcc10 6 _ rfl; have hx10_7 : w11.cell? ⟨go10, (x4_1 : Int).toNat * 12 + 7, none⟩ = some (ve10_7) := hcc10 7 _ rfl; have hx10_8 : w11.cell? ⟨go10, (x4_1 : Int).toNat * 12 + 8, none⟩ = some (.string ((rd_T104 x3_1 x4_1).f8)) := hcc10 8 _ rfl; have hx10_9 : w11.cell? ⟨go10, (x4_1 : Int).toNat * 12 + 9, none⟩ = some (.bool ((rd_T104 x3_1 x4_1).f9)) := hcc10 9 _ rfl; have hx10_10 : w11.cell? ⟨go10, (x4_1 : Int).toNat * 12 + 10, none⟩ = some (.int .i64 ((rd_T104 x3_1 x4_1).f10.f0)) := hcc10 10 _ rfl; have hx10_11 : w11.cell? ⟨go10, (x4_1 : Int).toNat * 12 + 11, none⟩ = some (.int .i64 ((rd_T104 x3_1 x4_1).f10.f1)) := hcc10 11 _ rfl; have hf10_0 : w11.frozen? ⟨go10, (x4_1 : Int).toNat * 12, none⟩ = false := hfr10 0; have hf10_1 : w11.frozen? ⟨go10, (x4_1 : Int).toNat * 12 + 1, none⟩ = false := hfr10 1; have hf10_2 : w11.frozen? ⟨go10, (x4_1 : Int).toNat * 12 + 2, none⟩ = false := hfr10 2; have hf10_3 : w11.frozen? ⟨go10, (x4_1 : Int).toNat * 12 + 3, none⟩ = false := hfr10 3; have hf10_4 : w11.frozen? ⟨go10, (x4_1 : Int).toNat * 12 + 4, none⟩ = false := hfr10 4; have hf10_5 : w11.frozen? ⟨go10, (x4_1 : Int).toNat * 12 + 5, none⟩ = false := hfr10 5; have hf10_6 : w11.frozen? ⟨go10, (x4_1 : Int).toNat * 12 + 6, none⟩ = false := hfr10 6; have hf10_7 : w11.frozen? ⟨go10, (x4_1 : Int).toNat * 12 + 7, none⟩ = false := hfr10 7; have hf10_8 : w11.frozen? ⟨go10, (x4_1 : Int).toNat * 12 + 8, none⟩ = false := hfr10 8; have hf10_9 : w11.frozen? ⟨go10, (x4_1 : Int).toNat * 12 + 9, none⟩ = false := hfr10 9; have hf10_10 : w11.frozen? ⟨go10, (x4_1 : Int).toNat * 12 + 10, none⟩ = false := hfr10 10; have hf10_11 : w11.frozen? ⟨go10, (x4_1 : Int).toNat * 12 + 11, none⟩ = false := hfr10 11; clear hcl10 hcc10 hfr10 hM10; replace p10 := eq_true p10; replace q10 := eq_true q10; have n_ := Aside0.mk (Kd.S_mono (ok' := (fun k_ => some k_ ≠ (v215 : Value).ownBlock ∧ some k_ ≠ (v222 : Value).ownBlock)) HO_3.out (fun k_ hk => ⟨hk.1.2, hk.2⟩)); clear HO_3; have HO_3 := n_; clear n_; have HX12 := Aside0.mk (show Kd.S k104 104 w11 w.heap.size (fun k_ => ((fun _ => True)) k_ ∧ ¬ ((fun k_ => some k_ = (v215 : Value).ownBlock ∨ some k_ = (v222 : Value).ownBlock)) k_) (.slice (some ⟨go10, 0, none⟩) x3_1.length co10) x3_1 from (by (with_reducible repeat (first | apply Kd.S_alloc | apply Kd.S_drewN | apply Kd.S_drew)); exact Kd.S_mono HO_3.out (fun k_ hk => ⟨trivial, fun e_ => e_.elim (fun h_ => hk.1 h_) (fun h_ => hk.2 h_)⟩))); obtain ⟨oki12, ce12, hcl12, hM12, hcc12, hfr12, hoki12, hH12⟩ := Kd.S_elem HX12.out z104 (x4_1 : Int) (of_decide_eq_true za) (by have h_ : (x4_1 : Int) < ((x3_1.length : Int) : Int) := of_decide_eq_true za; first | exact h_ | (have e_ := (Kd.S_reads' HO_3.out).1; omega) | simpa using h_); obtain ⟨ve12_2, ve12_7, rfl, ge12_2, ge12_7⟩ := k104_openM hM12; have HP12 := Kd.S_seg hH12 (of_decide_eq_true za) (by have h_ : (x4_1 : Int) < ((x3_1.length : Int) : Int) := of_decide_eq_true za; first | exact h_ | (have e_ := (Kd.S_reads' HO_3.out).1; omega) | simpa using h_) (seg := [.int .i64 t212, .int .i64 t213, v215, .string t217, .bool t218, .bool t219, .int .i64 t220, v222, .string t224, .bool t225, .int .i64 t226, .int .i64 t227]) (j := 0) (show 12 ≤ 12 from by decide) (x' := (⟨t212, t213, t214, t217, t218, t219, t220, t221, t224, t225, (⟨t226, t227⟩ : S39)⟩ : S104)) (k104_mkM _ _ _ (⟨t212, t213, t214, t217, t218, t219, t220, t221, t224, t225, (⟨t226, t227⟩ : S39)⟩ : S104) (Kd.R_mono (Kd.R_tight rfl (Kd.R_mono (ok' := fun k_ => ((fun _ => True)) k_ ∧ k_ ≠ go10) (Kd.R_apart' (HO216.out) (Kd.S_typed HO_3.out) (by decide)) (fun k_ hk => ⟨trivial, fun e_ => (hk.2) (by rw [e_]; rfl)⟩))) (fun _ h_ => Or.inr (Or.inl h_))) (Kd.R_mono (Kd.R_tight rfl (Kd.R_mono (ok' := fun k_ => ((fun _ => True)) k_ ∧ k_ ≠ go10) (Kd.R_apart' (HO223.out) (Kd.S_typed HO_3.out) (by decide)) (fun k_ hk => ⟨trivial, fun e_ => (hk.2) (by rw [e_]; rfl)⟩))) (fun _ h_ => Or.inr (Or.inr (h_)))) (fun k_ h_ h2_ => HO216.out.1 k_ h_ h2_.symm)) (fun _ hk => hk) (fun k_ hk_ => hk_.elim (fun h_ => ((Kd.R_mono (ok' := fun k_ => ((fun _ => True)) k_ ∧ k_ ≠ go10) (Kd.R_apart' (HO216.out) (Kd.S_typed HO_3.out) (by decide)) (fun k_ hk => ⟨trivial, fun e_ => (hk.2) (by rw [e_]; rfl)⟩))).1 k_ h_.symm) (fun h_ => ((Kd.R_mono (ok' := fun k_ => ((fun _ => True)) k_ ∧ k_ ≠ go10) (Kd.R_apart' (HO223.out) (Kd.S_typed HO_3.out) (by decide)) (fun k_ hk => ⟨trivial, fun e_ => (hk.2) (by rw [e_]; rfl)⟩))).1 k_ h_.symm)); have hx12_0 := hcc12 0 _ rfl; (try simp only [show (k104).sz = 12 from rfl, Nat.mul_one, Nat.add_zero] at hx12_0); have hf12_0 := hfr12 0; (try simp only [show (k104).sz = 12 from rfl, Nat.mul_one, Nat.add_zero] at hf12_0); have hx12_1 := hcc12 1 _ rfl; (try simp only [show (k104).sz = 12 from rfl, Nat.mul_one, Nat.add_zero] at hx12_1); have hf12_1 := hfr12 1; (try simp only [show (k104).sz = 12 from rfl, Nat.mul_one, Nat.add_zero] at hf12_1); have hx12_2 := hcc12 2 _ rfl; (try simp only [show (k104).sz = 12 from rfl, Nat.mul_one, Nat.add_zero] at hx12_2); have hf12_2 := hfr12 2; (try simp only [show (k104).sz = 12 from rfl, Nat.mul_one, Nat.add_zero] at hf12_2); have hx12_3 := hcc12 3 _ rfl; (try simp only [show (k104).sz = 12 from rfl, Nat.mul_one, Nat.add_zero] at hx12_3); have hf12_3 := hfr12 3; (try simp only [show (k104).sz = 12 from rfl, Nat.mul_one, Nat.add_zero] at hf12_3); have hx12_4 := hcc12 4 _ rfl; (try simp only [show (k104).sz = 12 from rfl, Nat.mul_one, Nat.add_zero] at hx12_4); have hf12_4 := hfr12 4; (try simp only [show (k104).sz = 12 from rfl, Nat.mul_one, Nat.add_zero] at hf12_4); have hx12_5 := hcc12 5 _ rfl; (try simp only [show (k104).sz = 12 from rfl, Nat.mul_one, Nat.add_zero] at hx12_5); have hf12_5 := hfr12 5; (try simp only [show (k104).sz = 12 from rfl, Nat.mul_one, Nat.add_zero] at hf12_5); have hx12_6 := hcc12 6 _ rfl; (try simp only [show (k104).sz = 12 from rfl, Nat.mul_one, Nat.add_zero] at hx12_6); have hf12_6 := hfr12 6; (try simp only [show (k104).sz = 12 from rfl, Nat.mul_one, Nat.add_zero] at hf12_6); have hx12_7 := hcc12 7 _ rfl; (try simp only [show (k104).sz = 12 from rfl, Nat.mul_one, Nat.add_zero] at hx12_7); have hf12_7 := hfr12 7; (try simp only [show (k104).sz = 12 from rfl, Nat.mul_one, Nat.add_zero] at hf12_7); have hx12_8 := hcc12 8 _ rfl; (try simp only [show (k104).sz = 12 from rfl, Nat.mul_one, Nat.add_zero] at hx12_8); have hf12_8 := hfr12 8; (try simp only [show (k104).sz = 12 from rfl, Nat.mul_one, Nat.add_zero] at hf12_8); have hx12_9 := hcc12 9 _ rfl; (try simp only [show (k104).sz = 12 from rfl, Nat.mul_one, Nat.add_zero] at hx12_9); have hf12_9 := hfr12 9; (try simp only [show (k104).sz = 12 from rfl, Nat.mul_one, Nat.add_zero] at hf12_9); have hx12_10 := hcc12 10 _ rfl; (try simp only [show (k104).sz = 12 from rfl, Nat.mul_one, Nat.add_zero] at hx12_10); have hf12_10 := hfr12 10; (try simp only [show (k104).sz = 12 from rfl, Nat.mul_one, Nat.add_zero] at hf12_10); have hx12_11 := hcc12 11 _ rfl; (try simp only [show (k104).sz = 12 from rfl, Nat.mul_one, Nat.add_zero] at hx12_11); have hf12_11 := hfr12 11; (try simp only [show (k104).sz = 12 from rfl, Nat.mul_one, Nat.add_zero] at hf12_11); clear hcl12 hcc12 hfr12 hM12 hoki12 hH12) | ((with_reducible refine gate_store (t := 104) (p := 21) rfl ?_); refine store_event (t := 104) (p := 21) (v := ?vo_w13) (w1 := ((((((((((((w11.setCell ⟨go10, (x4_1 : Int).toNat * 12, none⟩ (.int .i64 t212)).setCell ⟨go10, (x4_1 : Int).toNat * 12 + 1, none⟩ (.int .i64 t213)).setCell ⟨go10, (x4_1 : Int).toNat * 12 + 2, none⟩ (v215)).setCell ⟨go10, (x4_1 : Int).toNat * 12 + 3, none⟩ (.string t217)).setCell ⟨go10, (x4_1 : Int).toNat * 12 + 4, none⟩ (.bool t218)).setCell ⟨go10, (x4_1 : Int).toNat * 12 + 5, none⟩ (.bool t219)).setCell ⟨go10, (x4_1 : Int).toNat * 12 + 6, none⟩ (.int .i64 t220)).setCell ⟨go10, (x4_1 : Int).toNat * 12 + 7, none⟩ (v222)).setCell ⟨go10, (x4_1 : Int).toNat * 12 + 8, none⟩ (.string t224)).setCell ⟨go10, (x4_1 : Int).toNat * 12 + 9, none⟩ (.bool t225)).setCell ⟨go10, (x4_1 : Int).toNat * 12 + 10, none⟩ (.int .i64 t226)).setCell ⟨go10, (x4_1 : Int).toNat * 12 + 11, none⟩ (.int .i64 t227))) ?hg ?ho ?hn ?hr ?_; (case ho => rfl); (case hg => rfl); (case hn => rfl); (case hr => first | (go_simp; done) | (go_simp; rfl)); intro w13 hw; have hg : w11.grownBy w13 (some go10) := (by rw [hw]; exact HP12.2); have hp_ : Kd.S k104 104 w13 w.heap.size (fun _ => True) (.slice (some ⟨go10, 0, none⟩) x3_1.length co10) y228 := (by rw [hw, Ny228.out]; exact HP12.1); clear HP12; replace HO_3 := Aside0.mk (hp_); replace HB := Aside0.mk ((by rw [hw]; exact below_set (below_set (below_set (below_set (below_set (below_set (below_set (below_set (below_set (below_set (below_set (below_set (HB.out) GB10.out) GB10.out) GB10.out) GB10.out) GB10.out) GB10.out) GB10.out) GB10.out) GB10.out) GB10.out) GB10.out) GB10.out : Below w.heap.size w w13)); clear HO216; clear HO223; clear hg hw hp_))
        go_roundg k1
        case measure => have := HK1.out; omega
        case rel => exact ⟨(y228), (wrap64 (x4_1 + 1)), zs, H', ⟨by have := HK1.out; omega⟩, ⟨by (with_reducible repeat (first | apply Kd.S_alloc | apply Kd.S_drewN | apply Kd.S_drew)); exact HO_3.out⟩, ⟨zb HB⟩⟩
       ·rw [if_neg c9] at H
        exact absurd H (by simp)
      ·rw [if_neg c7] at H
       exact absurd H (by simp)
     ·rw [if_neg c6] at H
      have c6b0 := decide_eq_false c6
      clear c6
      obtain rfl := Option.some.inj H
      go_wp2
      go_ret
      exact ⟨_, ze, by (with_reducible repeat (first | apply Kd.S_alloc | apply Kd.S_drewN | apply Kd.S_drew)); exact HO_3.out, zb HB⟩
  ·rw [if_neg c3] at H
   exact absurd H (by simp)
 ·skip
  exact absurd H (by simp)

/-! ### laws_toFrame: function 136 -/
-- thin
def laws_toFrame.f (a0_0 : Int) (a0_1 : Bool) (a0_2 : Int) (a0_3 : ByteArray) : Option (Int × Bool × Int × ByteArray) := some (a0_0, a0_1, a0_2, a0_3)
set_option maxHeartbeats 8000000 in
set_option maxRecDepth 100000 in
theorem laws_toFrame.calls (a0_0 : Int) (a0_1 : Bool) (a0_2 : Int) (a0_3 : ByteArray) (r1 : Int) (r2 : Bool) (r3 : Int) (r4 : ByteArray) (w : World) (h : laws_toFrame.f a0_0 a0_1 a0_2 a0_3 = some (r1, r2, r3, r4)) :
  Calls Try.prog 136 #[.agg #[.int .i64 a0_0, .bool a0_1, .int .i64 a0_2, .string a0_3]] w fun e w' => e = .returned (.agg #[.int .i64 r1, .bool r2, .int .i64 r3, .string r4]) ∧ Below w.heap.size w w' := by
 have hu169 := Try.underlying169
 have hu110 := Try.underlying110
 have HB := Aside0.mk (Below.refl w.heap.size w)
 have H : (some (a0_0, a0_1, a0_2, a0_3)) = some (r1, r2, r3, r4) := h
 clear h
 simp only [Option.some.injEq, Prod.mk.injEq] at H
 obtain ⟨rfl, rfl, rfl, rfl⟩ := H
 go_enter Try.func136, Try.ntmps136
 go_wp2_with (first | ((with_reducible refine gd 1 rfl ?_); refine bx (N := 1) (cs := #[.int .i64 a0_0, .bool a0_1, .int .i64 a0_2, .string a0_3]) (t := 169) ?_; intro gb229 hg w2 hbox hb; have BK229 := Aside0.mk (hbox); have GW229 := gw HB hg; have GE229 := GW229; replace HB := Aside0.mk (below_step (zb HB) hb); clear hb hbox hg) | ((with_reducible refine gd 2 rfl ?_); refine bx (N := 2) (cs := #[.int .i64 0, .bool false, .int .i64 0, .string (⟨#[]⟩ : ByteArray)]) (t := 110) ?_; intro gb230 hg w3 hbox hb; have BK230 := Aside0.mk (hbox); have GW230 := gw HB hg; have GE230 := GW230; replace HB := Aside0.mk (below_step (zb HB) hb); obtain ⟨NB229_230, NB230_229⟩ := nb BK229 hg; replace BK229 := kb BK229 hb; clear hb hbox hg) | ((with_reducible refine gd 3 rfl ?_); refine bx (N := 3) (cs := #[.int .i64 0, .bool false, .int .i64 0, .string (⟨#[]⟩ : ByteArray)]) (t := 110) ?_; intro gb231 hg w4 hbox hb; have BK231 := Aside0.mk (hbox); have GW231 := gw HB hg; have GE231 := GW231; replace HB := Aside0.mk (below_step (zb HB) hb); obtain ⟨NB229_231, NB231_229⟩ := nb BK229 hg; replace BK229 := kb BK229 hb; obtain ⟨NB230_231, NB231_230⟩ := nb BK230 hg; replace BK230 := kb BK230 hb; clear hb hbox hg; have hnb5 := NB229_230.out; have hnc5 := NB230_229.out; have hnb6 := NB229_231.out; have hnc6 := NB231_229.out; obtain ⟨hcz7_0, hcz7_1, hcz7_2, hcz7_3, hfz7_0, hfz7_1, hfz7_2, hfz7_3⟩ := c4 BK229; have hnb8 := NB231_230.out; have hnc8 := NB230_231.out; obtain ⟨hcz9_0, hcz9_1, hcz9_2, hcz9_3, hfz9_0, hfz9_1, hfz9_2, hfz9_3⟩ := c4 BK231; obtain ⟨hcz10_0, hcz10_1, hcz10_2, hcz10_3, hfz10_0, hfz10_1, hfz10_2, hfz10_3⟩ := c4 BK230))
 refine bodyPost_ret (results_cell_row rfl _ _ gb230 110 #[.int .i64 a0_0, .bool a0_1, .int .i64 a0_2, .string a0_3] (0, 0) _ rfl (zp BK230) Try.underlying110 rfl (by kernel_rfl)) rfl ?_
 exact ⟨ze, zb HB⟩

/-! ### laws_toFrameS: function 98 -/
-- thin
def laws_toFrameS.l0 : Nat → List (S169) → List (S110) → Int → Option ((List (S110)))
 | 0, _, _, _ => none
 | k + 1, x0, x3, x4 => if x4 < (x0.length : Int) then (if 0 ≤ x4 then ((laws_toFrame.f ((rd_T169 x0 x4).f0) ((rd_T169 x0 x4).f1) ((rd_T169 x0 x4).f2) ((rd_T169 x0 x4).f3)).bind fun bt236 => (if x4 < (x3.length : Int) then (laws_toFrameS.l0 k x0 (x3.set (x4 : Int).toNat (⟨bt236.1, bt236.2.1, bt236.2.2.1, bt236.2.2.2⟩ : S110)) (wrap64 (x4 + 1))) else (none))) else (none)) else (some x3)
def laws_toFrameS.f (k : Nat) (l0 : List (S169)) : Option ((List (S110))) := if 0 ≤ (l0.length : Int) then (if ((l0.length : Int) : Int).toNat ≤ 7036874417766 then (laws_toFrameS.l0 k l0 (List.replicate ((l0.length : Int) : Int).toNat z110) 0) else (none)) else (none)
theorem laws_toFrameS.mono_l : ∀ k, (∀ y0 y1 y2, LeO (laws_toFrameS.l0 k y0 y1 y2) (laws_toFrameS.l0 (k + 1) y0 y1 y2))
 | 0 => fun _ _ _ r h => by simp [laws_toFrameS.l0] at h
 | k + 1 => by
  have ih0 := laws_toFrameS.mono_l k
  ·intro y0 y1 y2
   unfold laws_toFrameS.l0
   exact zm
theorem laws_toFrameS.mono : ∀ a0 k, LeO (laws_toFrameS.f k a0) (laws_toFrameS.f (k + 1) a0) := by
 intro a0 k
 have ih0 := laws_toFrameS.mono_l k
 unfold laws_toFrameS.f
 exact zm
set_option maxHeartbeats 8000000 in
set_option maxRecDepth 100000 in
theorem laws_toFrameS.calls (k : Nat) (A0 : Option Addr) (c0 : Nat) (l0 : List (S169)) (r : List (S110)) (w : World) (hr0 : Kd.C k169 w A0 l0.length l0) (hc0 : l0.length ≤ c0) (h : laws_toFrameS.f k l0 = some r) :
  Calls Try.prog 98 #[.slice A0 l0.length c0] w fun e w' => ∃ v0_ : Value, e = .returned (v0_) ∧ Kd.R k110 110 w' w.heap.size (fun _ => True) v0_ r ∧ Below w.heap.size w w' := by
 have hu169 := Try.underlying169
 have hu110 := Try.underlying110
 have HR0 := Aside0.mk hr0
 have HC0 := Aside0.mk hc0
 clear hr0 hc0
 have HB := Aside0.mk (Below.refl w.heap.size w)
 have H : (if 0 ≤ (l0.length : Int) then (if ((l0.length : Int) : Int).toNat ≤ 7036874417766 then (laws_toFrameS.l0 k l0 (List.replicate ((l0.length : Int) : Int).toNat z110) 0) else (none)) else (none)) = some r := h
 clear h
 replace H := sp H
 rcases H with ⟨c2, H⟩ | ⟨c2, H⟩
 ·skip
  have c2b0 := eq_true c2
  have c2b1 := decide_eq_true c2
  clear c2
  by_cases c3 : ((l0.length : Int) : Int).toNat ≤ 7036874417766
  ·rw [if_pos c3] at H
   have c3b0 := eq_true c3
   have c3b1 := decide_eq_true c3
   clear c3
   obtain ⟨y232, hy232⟩ : ∃ y_ : List (S110), y_ = (List.replicate ((l0.length : Int) : Int).toNat z110) := ⟨_, rfl⟩
   replace H : (laws_toFrameS.l0 k l0 y232 0) = some r := by first | (rw [hy232]; with_reducible exact H) | (have H2_ := (Option.bind_some _ _).symm.trans H; rw [hy232]; with_reducible exact H2_) | (have H2_ := (Option.bind_some _ _).symm.trans H; with_reducible exact H2_) | with_reducible exact H | (rw [hy232]; exact H) | exact H
   have Ny232 := Aside0.mk hy232
   clear hy232
   have H' := Aside0.mk H
   clear H
   go_enter Try.func98, Try.ntmps98
   go_wp2_with (first | ((with_reducible refine gd 7 rfl ?_); refine Kd.R_make k110 _ 110 rfl (N := 7) rfl 40 _ _ rfl (l0.length : Int) rfl rfl Try.underlying40 (.agg #[(.int .i64 0), (.bool false), (.int .i64 0), (.string ⟨#[]⟩)]) 40 info110 rfl (by decide) (by omega) z110 (ok := fun _ => True) (okp := fun _ => True) (k110_mkM _ _ _ z110 ) (fun _ hk => hk) trivial (of_decide_eq_true za) (Nat.le_trans (Nat.mul_le_mul_right _ (of_decide_eq_true za : (l0.length : Int).toNat ≤ 7036874417766)) (by omega)) (Below.refl _ _) (Nat.le_refl _) ?_; intro v233 w4 ho5 hb hg_ hnew_; clear hg_ hnew_; (first | rw [← Ny232.out] at ho5 | (simp only [Int.reduceToNat] at ho5; rw [← Ny232.out] at ho5)); have HO234 := Aside0.mk (Kd.R_lower ho5 (below_size (zb HB))); replace HB := Aside0.mk (below_step (zb HB) hb); clear hb ho5))
   go_loopg [4] k (fun kq v4 w' => ∃ (x3_1 : List (S110)) (x4_1 : Int), v4 = .int .i64 x4_1 ∧ Aside0 (laws_toFrameS.l0 kq l0 x3_1 x4_1 = some r) ∧ Aside0 (kq ≤ k) ∧ Aside0 (Kd.R k110 110 w' w.heap.size (fun _ => True) v233 x3_1) ∧ Aside0 (Below w.heap.size w w'))
   case atStart => exact ⟨(y232), (0), zs, H', ⟨Nat.le_refl _⟩, ⟨by exact zr HO234⟩, ⟨zb HB⟩⟩
   case round =>
    clear H'
    try clear c2
    try clear c2b0
    try clear c2b1
    try clear p2
    try clear c3
    try clear c3b0
    try clear c3b1
    obtain ⟨x3_1, x4_1, rfl, HA, HK1, HO_3, HB⟩ := hrel
    cases gk with
    | zero => exact absurd HA.out (by simp [laws_toFrameS.l0])
    | succ k1 =>
     have H := HA.out
     clear HA
     simp only [laws_toFrameS.l0] at H
     by_cases c6 : x4_1 < (l0.length : Int)
     ·rw [if_pos c6] at H
      have c6b0 := decide_eq_true c6
      clear c6
      by_cases c7 : 0 ≤ x4_1
      ·rw [if_pos c7] at H
       have c7b0 := decide_eq_true c7
       clear c7
       obtain ⟨⟨t236, t237, t238, t239⟩, A8, H⟩ := ob H
       (try dsimp only at H)
       by_cases c9 : x4_1 < (x3_1.length : Int)
       ·rw [if_pos c9] at H
        have c9b0 := decide_eq_true c9
        clear c9
        obtain ⟨y240, hy240⟩ : ∃ y_ : List (S110), y_ = (x3_1.set (x4_1 : Int).toNat (⟨t236, t237, t238, t239⟩ : S110)) := ⟨_, rfl⟩
        replace H : (laws_toFrameS.l0 k1 l0 y240 (wrap64 (x4_1 + 1))) = some r := by first | (rw [hy240]; with_reducible exact H) | (have H2_ := (Option.bind_some _ _).symm.trans H; rw [hy240]; with_reducible exact H2_) | (have H2_ := (Option.bind_some _ _).symm.trans H; with_reducible exact H2_) | with_reducible exact H | (rw [hy240]; exact H) | exact H
        have Ny240 := Aside0.mk hy240
        clear hy240
        have H' := Aside0.mk H
        clear H
        have p235 : 0 ≤ (x4_1 : Int) := of_decide_eq_true za
        have q235 : x4_1 < (l0.length : Int) := of_decide_eq_true za
        obtain ⟨ad235, e235, hx235_0, hx235_1, hx235_2, hx235_3⟩ := at_T169 HR0.out x4_1 p235 q235
        cases e235
        replace hx235_0 := cb0 hx235_0 HB
        replace hx235_1 := cb0 hx235_1 HB
        replace hx235_2 := cb0 hx235_2 HB
        replace hx235_3 := cb0 hx235_3 HB
        replace p235 := eq_true p235
        replace q235 := eq_true q235
        go_wp2_with (first | ((with_reducible refine gq 136 rfl ?_); refine gl (some 20) Try.func136 #[.agg #[.int .i64 ((rd_T169 l0 x4_1).f0), .bool ((rd_T169 l0 x4_1).f1), .int .i64 ((rd_T169 l0 x4_1).f2), .string ((rd_T169 l0 x4_1).f3)]] ?_; (with_reducible refine (laws_toFrame.calls ((rd_T169 l0 x4_1).f0) ((rd_T169 l0 x4_1).f1) ((rd_T169 l0 x4_1).f2) ((rd_T169 l0 x4_1).f3) t236 t237 t238 t239 _ A8.out).mono ?_); rintro e w11 ⟨rfl, hb⟩; refine ⟨_, rfl, ?_⟩; replace HO_3 := Aside0.mk (Kd.R_below (zr HO_3) hb); replace HB := Aside0.mk (below_step (zb HB) hb); (try clear hb); have p10 : 0 ≤ (x4_1 : Int) := of_decide_eq_true za; have q10 : (x4_1 : Int) < ((x3_1.length : Int) : Int) := of_decide_eq_true za; obtain ⟨go10, co10, eo10, gb10, gl10, cl10, HG10⟩ := Kd.R_form HO_3.out (by omega); (first | cases eo10 | (injection eo10 with ea_ en_ ec_; (first | subst ea_ | (injection ea_ with ea_; subst ea_)); subst ec_; clear en_)); have GB10 := Aside0.mk gb10; have GG10 := Aside0.mk HG10; clear gb10 gl10 HG10; obtain ⟨ce10, hcl10, hM10, hcc10, hfr10⟩ := Kd.R_elem HO_3.out z110 (x4_1 : Int) p10 q10; obtain rfl := k110_openM hM10; have hx10_0 : w11.cell? ⟨go10, (x4_1 : Int).toNat * 4, none⟩ = some (.int .i64 ((rd_T110 x3_1 x4_1).f0)) := hcc10 0 _ rfl; have hx10_1 : w11.cell? ⟨go10, (x4_1 : Int).toNat * 4 + 1, none⟩ = some (.bool ((rd_T110 x3_1 x4_1).f1)) := hcc10 1 _ rfl; have hx10_2 : w11.cell? ⟨go10, (x4_1 : Int).toNat * 4 + 2, none⟩ = some (.int .i64 ((rd_T110 x3_1 x4_1).f2)) := hcc10 2 _ rfl; have hx10_3 : w11.cell? ⟨go10, (x4_1 : Int).toNat * 4 + 3, none⟩ = some (.string ((rd_T110 x3_1 x4_1).f3)) := hcc10 3 _ rfl; have hf10_0 : w11.frozen? ⟨go10, (x4_1 : Int).toNat * 4, none⟩ = false := hfr10 0; have hf10_1 : w11.frozen? ⟨go10, (x4_1 : Int).toNat * 4 + 1, none⟩ = false := hfr10 1; have hf10_2 : w11.frozen? ⟨go10, (x4_1 : Int).toNat * 4 + 2, none⟩ = false := hfr10 2; have hf10_3 : w11.frozen? ⟨go10, (x4_1 : Int).toNat * 4 + 3, none⟩ = false := hfr10 3; clear hcl10 hcc10 hfr10 hM10; replace p10 := eq_true p10; replace q10 := eq_true q10; have HX12 := Aside0.mk (show Kd.R k110 110 w11 w.heap.size (fun _ => True) (.slice (some ⟨go10, 0, none⟩) x3_1.length co10) x3_1 from (zr HO_3)); obtain ⟨ce12, hcl12, hM12, hcc12, hfr12⟩ := Kd.R_elem HX12.out z110 (x4_1 : Int) (of_decide_eq_true za) (by have h_ : (x4_1 : Int) < ((x3_1.length : Int) : Int) := of_decide_eq_true za; first | exact h_ | (have e_ := (Kd.R_reads' HO_3.out).1; omega) | simpa using h_); obtain rfl := k110_openM hM12; have HP12 := Kd.R_seg HX12.out (x4_1 : Int) (of_decide_eq_true za) (by have h_ : (x4_1 : Int) < ((x3_1.length : Int) : Int) := of_decide_eq_true za; first | exact h_ | (have e_ := (Kd.R_reads' HO_3.out).1; omega) | simpa using h_) (seg := [.int .i64 t236, .bool t237, .int .i64 t238, .string t239]) (j := 0) hcl12 hcc12 (show 4 ≤ 4 from by decide) (x' := (⟨t236, t237, t238, t239⟩ : S110)) (k110_mkM _ _ _ (⟨t236, t237, t238, t239⟩ : S110) ) (fun _ hk => hk); have hx12_0 := hcc12 0 _ rfl; (try simp only [show (k110).sz = 4 from rfl, Nat.mul_one, Nat.add_zero] at hx12_0); have hf12_0 := hfr12 0; (try simp only [show (k110).sz = 4 from rfl, Nat.mul_one, Nat.add_zero] at hf12_0); have hx12_1 := hcc12 1 _ rfl; (try simp only [show (k110).sz = 4 from rfl, Nat.mul_one, Nat.add_zero] at hx12_1); have hf12_1 := hfr12 1; (try simp only [show (k110).sz = 4 from rfl, Nat.mul_one, Nat.add_zero] at hf12_1); have hx12_2 := hcc12 2 _ rfl; (try simp only [show (k110).sz = 4 from rfl, Nat.mul_one, Nat.add_zero] at hx12_2); have hf12_2 := hfr12 2; (try simp only [show (k110).sz = 4 from rfl, Nat.mul_one, Nat.add_zero] at hf12_2); have hx12_3 := hcc12 3 _ rfl; (try simp only [show (k110).sz = 4 from rfl, Nat.mul_one, Nat.add_zero] at hx12_3); have hf12_3 := hfr12 3; (try simp only [show (k110).sz = 4 from rfl, Nat.mul_one, Nat.add_zero] at hf12_3); clear hcl12 hcc12 hfr12 hM12) | ((with_reducible refine gate_store (t := 110) (p := 21) rfl ?_); refine store_event (t := 110) (p := 21) (v := ?vo_w13) (w1 := ((((w11.setCell ⟨go10, (x4_1 : Int).toNat * 4, none⟩ (.int .i64 t236)).setCell ⟨go10, (x4_1 : Int).toNat * 4 + 1, none⟩ (.bool t237)).setCell ⟨go10, (x4_1 : Int).toNat * 4 + 2, none⟩ (.int .i64 t238)).setCell ⟨go10, (x4_1 : Int).toNat * 4 + 3, none⟩ (.string t239))) ?hg ?ho ?hn ?hr ?_; (case ho => rfl); (case hg => rfl); (case hn => rfl); (case hr => first | (go_simp; done) | (go_simp; rfl)); intro w13 hw; have hg : w11.grownBy w13 (some go10) := (by rw [hw]; exact HP12.2); have hp_ : Kd.R k110 110 w13 w.heap.size (fun _ => True) (.slice (some ⟨go10, 0, none⟩) x3_1.length co10) y240 := (by rw [hw, Ny240.out]; exact HP12.1); clear HP12; replace HO_3 := Aside0.mk (hp_); replace HB := Aside0.mk ((by rw [hw]; exact below_set (below_set (below_set (below_set (HB.out) GB10.out) GB10.out) GB10.out) GB10.out : Below w.heap.size w w13)); clear hg hw hp_))
        go_roundg k1
        case measure => have := HK1.out; omega
        case rel => exact ⟨(y240), (wrap64 (x4_1 + 1)), zs, H', ⟨by have := HK1.out; omega⟩, ⟨by exact zr HO_3⟩, ⟨zb HB⟩⟩
       ·rw [if_neg c9] at H
        exact absurd H (by simp)
      ·rw [if_neg c7] at H
       exact absurd H (by simp)
     ·rw [if_neg c6] at H
      have c6b0 := decide_eq_false c6
      clear c6
      obtain rfl := Option.some.inj H
      go_wp2
      go_ret
      exact ⟨_, ze, zq (HO_3.out), zb HB⟩
  ·rw [if_neg c3] at H
   exact absurd H (by simp)
 ·skip
  exact absurd H (by simp)

/-! ### laws_toEnd: function 37 -/
-- thin
def laws_toEnd.f (k : Nat) (a0_0 : Bool) (l0_1 : List (S192)) (a0_2 : Int) (l0_3 : List (S192)) (a0_4 : Int) (a0_5 : ByteArray) (l0_6 : List (S167)) (a0_7 : Int) (a0_8 : Int) (l0_9 : List (S169)) (a0_10 : Bool) : Option (Bool × (List (S88)) × Int × (List (S88)) × Int × ByteArray × (List (S104)) × Int × Int × (List (S110)) × Bool) := (laws_toTable.f k l0_1 a0_2).bind fun bt244 => ((laws_toTable.f k l0_3 a0_4).bind fun bt248 => ((laws_toStreamS.f k l0_6).bind fun t252 => ((laws_toFlow.f a0_7 a0_8).bind fun bt255 => ((laws_toFrameS.f k l0_9).bind fun t257 => (some (a0_0, bt244.1, bt244.2, bt248.1, bt248.2, a0_5, t252, bt255.1, bt255.2, t257, a0_10))))))
theorem laws_toEnd.mono : ∀ a0 a1 a2 a3 a4 a5 a6 a7 a8 a9 a10 k, LeO (laws_toEnd.f k a0 a1 a2 a3 a4 a5 a6 a7 a8 a9 a10) (laws_toEnd.f (k + 1) a0 a1 a2 a3 a4 a5 a6 a7 a8 a9 a10) := by
 intro a0 a1 a2 a3 a4 a5 a6 a7 a8 a9 a10 k
 unfold laws_toEnd.f
 have m0 := @laws_toFrameS.mono
 have m1 := @laws_toStreamS.mono
 have m2 := @laws_toTable.mono
 exact zm
set_option maxHeartbeats 8000000 in
set_option maxRecDepth 100000 in
theorem laws_toEnd.calls (k : Nat) (a0_0 : Bool) (A0_1 : Option Addr) (c0_1 : Nat) (l0_1 : List (S192)) (a0_2 : Int) (A0_3 : Option Addr) (c0_3 : Nat) (l0_3 : List (S192)) (a0_4 : Int) (a0_5 : ByteArray) (A0_6 : Option Addr) (c0_6 : Nat) (l0_6 : List (S167)) (a0_7 : Int) (a0_8 : Int) (A0_9 : Option Addr) (c0_9 : Nat) (l0_9 : List (S169)) (a0_10 : Bool) (r1 : Bool) (r2 : List (S88)) (r3 : Int) (r4 : List (S88)) (r5 : Int) (r6 : ByteArray) (r7 : List (S104)) (r8 : Int) (r9 : Int) (r10 : List (S110)) (r11 : Bool) (w : World) (hr0_1 : Kd.C k192 w A0_1 l0_1.length l0_1) (hc0_1 : l0_1.length ≤ c0_1) (hr0_3 : Kd.C k192 w A0_3 l0_3.length l0_3) (hc0_3 : l0_3.length ≤ c0_3) (hr0_6 : Kd.C k167 w A0_6 l0_6.length l0_6) (hc0_6 : l0_6.length ≤ c0_6) (hr0_9 : Kd.C k169 w A0_9 l0_9.length l0_9) (hc0_9 : l0_9.length ≤ c0_9) (h : laws_toEnd.f k a0_0 l0_1 a0_2 l0_3 a0_4 a0_5 l0_6 a0_7 a0_8 l0_9 a0_10 = some (r1, r2, r3, r4, r5, r6, r7, r8, r9, r10, r11)) :
  Calls Try.prog 37 #[.agg #[.bool a0_0, .slice A0_1 l0_1.length c0_1, .int .i64 a0_2, .slice A0_3 l0_3.length c0_3, .int .i64 a0_4, .string a0_5, .slice A0_6 l0_6.length c0_6, .int .i64 a0_7, .int .i64 a0_8, .slice A0_9 l0_9.length c0_9, .bool a0_10]] w fun e w' => ∃ v1_ v3_ v6_ v9_ : Value, e = .returned (.agg #[.bool r1, v1_, .int .i64 r3, v3_, .int .i64 r5, .string r6, v6_, .int .i64 r8, .int .i64 r9, v9_, .bool r11]) ∧ Kd.R k88 88 w' w.heap.size (fun k_ => some k_ ≠ (v3_ : Value).ownBlock) v1_ r2 ∧ Kd.R k88 88 w' w.heap.size (fun k_ => some k_ ≠ (v1_ : Value).ownBlock) v3_ r4 ∧ Kd.S k104 104 w' w.heap.size (fun k_ => some k_ ≠ (v1_ : Value).ownBlock ∧ some k_ ≠ (v3_ : Value).ownBlock) v6_ r7 ∧ Kd.R k110 110 w' w.heap.size (fun _ => True) v9_ r10 ∧ Below w.heap.size w w' := by
 have hu64 := Try.underlying64
 have hu42 := Try.underlying42
 have hu59 := Try.underlying59
 have hu25 := Try.underlying25
 have hu61 := Try.underlying61
 have hu39 := Try.underlying39
 have HR0_1 := Aside0.mk hr0_1
 have HC0_1 := Aside0.mk hc0_1
 clear hr0_1 hc0_1
 have HR0_3 := Aside0.mk hr0_3
 have HC0_3 := Aside0.mk hc0_3
 clear hr0_3 hc0_3
 have HR0_6 := Aside0.mk hr0_6
 have HC0_6 := Aside0.mk hc0_6
 clear hr0_6 hc0_6
 have HR0_9 := Aside0.mk hr0_9
 have HC0_9 := Aside0.mk hc0_9
 clear hr0_9 hc0_9
 have HB := Aside0.mk (Below.refl w.heap.size w)
 have H : ((laws_toTable.f k l0_1 a0_2).bind fun bt244 => ((laws_toTable.f k l0_3 a0_4).bind fun bt248 => ((laws_toStreamS.f k l0_6).bind fun t252 => ((laws_toFlow.f a0_7 a0_8).bind fun bt255 => ((laws_toFrameS.f k l0_9).bind fun t257 => (some (a0_0, bt244.1, bt244.2, bt248.1, bt248.2, a0_5, t252, bt255.1, bt255.2, t257, a0_10))))))) = some (r1, r2, r3, r4, r5, r6, r7, r8, r9, r10, r11) := h
 clear h
 obtain ⟨⟨t244, t247⟩, A2, H⟩ := ob H
 (try dsimp only at H)
 obtain ⟨⟨t248, t251⟩, A3, H⟩ := ob H
 (try dsimp only at H)
 obtain ⟨t252, A4, H⟩ := ob H
 (try dsimp only at H)
 obtain ⟨⟨t255, t256⟩, A5, H⟩ := ob H
 (try dsimp only at H)
 obtain ⟨t257, A6, H⟩ := ob H
 (try dsimp only at H)
 simp only [Option.some.injEq, Prod.mk.injEq] at H
 obtain ⟨rfl, rfl, rfl, rfl, rfl, rfl, rfl, rfl, rfl, rfl, rfl⟩ := H
 go_enter Try.func37, Try.ntmps37
 go_wp2_with (first | ((with_reducible refine gd 1 rfl ?_); refine bx (N := 1) (cs := #[.bool a0_0, .slice A0_1 l0_1.length c0_1, .int .i64 a0_2, .slice A0_3 l0_3.length c0_3, .int .i64 a0_4, .string a0_5, .slice A0_6 l0_6.length c0_6, .int .i64 a0_7, .int .i64 a0_8, .slice A0_9 l0_9.length c0_9, .bool a0_10]) (t := 64) ?_; intro gb241 hg w7 hbox hb; have BK241 := Aside0.mk (hbox); have GW241 := gw HB hg; have GE241 := GW241; replace HB := Aside0.mk (below_step (zb HB) hb); clear hb hbox hg) | ((with_reducible refine gd 2 rfl ?_); refine bx (N := 2) (cs := #[.bool false, .slice none 0 0, .int .i64 0, .slice none 0 0, .int .i64 0, .string (⟨#[]⟩ : ByteArray), .slice none 0 0, .int .i64 0, .int .i64 0, .slice none 0 0, .bool false]) (t := 42) ?_; intro gb242 hg w8 hbox hb; have BK242 := Aside0.mk (hbox); have GW242 := gw HB hg; have GE242 := GW242; replace HB := Aside0.mk (below_step (zb HB) hb); obtain ⟨NB241_242, NB242_241⟩ := nb BK241 hg; replace BK241 := kb BK241 hb; clear hb hbox hg) | ((with_reducible refine gd 3 rfl ?_); refine bx (N := 3) (cs := #[.bool false, .slice none 0 0, .int .i64 0, .slice none 0 0, .int .i64 0, .string (⟨#[]⟩ : ByteArray), .slice none 0 0, .int .i64 0, .int .i64 0, .slice none 0 0, .bool false]) (t := 42) ?_; intro gb243 hg w9 hbox hb; have BK243 := Aside0.mk (hbox); have GW243 := gw HB hg; have GE243 := GW243; replace HB := Aside0.mk (below_step (zb HB) hb); obtain ⟨NB241_243, NB243_241⟩ := nb BK241 hg; replace BK241 := kb BK241 hb; obtain ⟨NB242_243, NB243_242⟩ := nb BK242 hg; replace BK242 := kb BK242 hb; clear hb hbox hg; have hnb10 := NB241_242.out; have hnc10 := NB242_241.out; have hnb11 := NB241_243.out; have hnc11 := NB243_241.out; obtain ⟨hcz12_0, hcz12_1, hcz12_2, hcz12_3, hcz12_4, hcz12_5, hcz12_6, hcz12_7, hcz12_8, hcz12_9, hcz12_10, hfz12_0, hfz12_1, hfz12_2, hfz12_3, hfz12_4, hfz12_5, hfz12_6, hfz12_7, hfz12_8, hfz12_9, hfz12_10⟩ := c11 BK241; have hnb13 := NB243_242.out; have hnc13 := NB242_243.out; obtain ⟨hcz14_0, hcz14_1, hcz14_2, hcz14_3, hcz14_4, hcz14_5, hcz14_6, hcz14_7, hcz14_8, hcz14_9, hcz14_10, hfz14_0, hfz14_1, hfz14_2, hfz14_3, hfz14_4, hfz14_5, hfz14_6, hfz14_7, hfz14_8, hfz14_9, hfz14_10⟩ := c11 BK243) | ((with_reducible refine gq 95 rfl ?_); refine gl (some 9) Try.func95 #[.agg #[.slice A0_1 l0_1.length c0_1, .int .i64 a0_2]] ?_; (with_reducible refine (laws_toTable.calls k _ _ l0_1 a0_2 t244 t247 _ ?side1 ?side2 A2.out).mono ?_); (case side1 => exact Kd.C_below HR0_1.out (zb HB)); (case side2 => exact HC0_1.out); rintro e w15 ⟨v245, rfl, ho0, hb⟩; refine ⟨_, rfl, ?_⟩; have HO246 := Aside0.mk (Kd.R_lower ho0 (below_size (zb HB))); replace BK241 := Aside0.mk (blk_below (g := gb241) (o := .cells #[.bool a0_0, .slice A0_1 l0_1.length c0_1, .int .i64 a0_2, .slice A0_3 l0_3.length c0_3, .int .i64 a0_4, .string a0_5, .slice A0_6 l0_6.length c0_6, .int .i64 a0_7, .int .i64 a0_8, .slice A0_9 l0_9.length c0_9, .bool a0_10] 64 (0, 0)) (zp BK241) hb); replace BK242 := Aside0.mk (blk_below (g := gb242) (o := .cells #[.bool false, .slice none 0 0, .int .i64 0, .slice none 0 0, .int .i64 0, .string (⟨#[]⟩ : ByteArray), .slice none 0 0, .int .i64 0, .int .i64 0, .slice none 0 0, .bool false] 42 (0, 0)) (zp BK242) hb); replace BK243 := Aside0.mk (blk_below (g := gb243) (o := .cells #[.bool a0_0, .slice none 0 0, .int .i64 0, .slice none 0 0, .int .i64 0, .string (⟨#[]⟩ : ByteArray), .slice none 0 0, .int .i64 0, .int .i64 0, .slice none 0 0, .bool false] 42 (0, 0)) (zp BK243) hb); replace HB := Aside0.mk (below_step (zb HB) hb); (try clear hb); (try clear ho0); obtain ⟨Ao16, co16, eo16⟩ := Kd.R_slice HO246.out; subst eo16; obtain ⟨hcz17_0, hcz17_1, hcz17_2, hcz17_3, hcz17_4, hcz17_5, hcz17_6, hcz17_7, hcz17_8, hcz17_9, hcz17_10, hfz17_0, hfz17_1, hfz17_2, hfz17_3, hfz17_4, hfz17_5, hfz17_6, hfz17_7, hfz17_8, hfz17_9, hfz17_10⟩ := c11 BK243; obtain ⟨hcz18_0, hcz18_1, hcz18_2, hcz18_3, hcz18_4, hcz18_5, hcz18_6, hcz18_7, hcz18_8, hcz18_9, hcz18_10, hfz18_0, hfz18_1, hfz18_2, hfz18_3, hfz18_4, hfz18_5, hfz18_6, hfz18_7, hfz18_8, hfz18_9, hfz18_10⟩ := c11 BK241) | ((with_reducible refine gq 95 rfl ?_); refine gl (some 13) Try.func95 #[.agg #[.slice A0_3 l0_3.length c0_3, .int .i64 a0_4]] ?_; (with_reducible refine (laws_toTable.calls k _ _ l0_3 a0_4 t248 t251 _ ?side1 ?side2 A3.out).mono ?_); (case side1 => exact Kd.C_below HR0_3.out (zb HB)); (case side2 => exact HC0_3.out); rintro e w19 ⟨v249, rfl, ho0, hb⟩; refine ⟨_, rfl, ?_⟩; have HO250 := Aside0.mk (Kd.R_lower (Kd.R_new' ho0 (Kd.R_lt (((Kd.R_mono (ztR (Kd.R_types HO246.out BK243.out (by decide))) (fun _ h_ => h_.1)))))) (below_size (zb HB))); replace HO246 := Aside0.mk (Kd.R_elder' (((Kd.R_mono (ztR (Kd.R_types HO246.out BK243.out (by decide))) (fun _ h_ => h_.1)))) (Kd.R_base ho0) hb); replace BK241 := Aside0.mk (blk_below (g := gb241) (o := .cells #[.bool a0_0, .slice A0_1 l0_1.length c0_1, .int .i64 a0_2, .slice A0_3 l0_3.length c0_3, .int .i64 a0_4, .string a0_5, .slice A0_6 l0_6.length c0_6, .int .i64 a0_7, .int .i64 a0_8, .slice A0_9 l0_9.length c0_9, .bool a0_10] 64 (0, 0)) (zp BK241) hb); replace BK242 := Aside0.mk (blk_below (g := gb242) (o := .cells #[.bool false, .slice none 0 0, .int .i64 0, .slice none 0 0, .int .i64 0, .string (⟨#[]⟩ : ByteArray), .slice none 0 0, .int .i64 0, .int .i64 0, .slice none 0 0, .bool false] 42 (0, 0)) (zp BK242) hb); replace BK243 := Aside0.mk (blk_below (g := gb243) (o := .cells #[.bool a0_0, .slice Ao16 t244.length co16, .int .i64 t247, .slice none 0 0, .int .i64 0, .string (⟨#[]⟩ : ByteArray), .slice none 0 0, .int .i64 0, .int .i64 0, .slice none 0 0, .bool false] 42 (0, 0)) (zp BK243) hb); replace HB := Aside0.mk (below_step (zb HB) hb); (try clear hb); (try clear ho0); obtain ⟨Ao20, co20, eo20⟩ := Kd.R_slice HO250.out; subst eo20; obtain ⟨hcz21_0, hcz21_1, hcz21_2, hcz21_3, hcz21_4, hcz21_5, hcz21_6, hcz21_7, hcz21_8, hcz21_9, hcz21_10, hfz21_0, hfz21_1, hfz21_2, hfz21_3, hfz21_4, hfz21_5, hfz21_6, hfz21_7, hfz21_8, hfz21_9, hfz21_10⟩ := c11 BK243; obtain ⟨hcz22_0, hcz22_1, hcz22_2, hcz22_3, hcz22_4, hcz22_5, hcz22_6, hcz22_7, hcz22_8, hcz22_9, hcz22_10, hfz22_0, hfz22_1, hfz22_2, hfz22_3, hfz22_4, hfz22_5, hfz22_6, hfz22_7, hfz22_8, hfz22_9, hfz22_10⟩ := c11 BK241) | ((with_reducible refine gq 96 rfl ?_); refine gl (some 20) Try.func96 #[.slice A0_6 l0_6.length c0_6] ?_; (with_reducible refine (laws_toStreamS.calls k _ _ l0_6 t252 _ ?side1 ?side2 A4.out).mono ?_); (case side1 => exact Kd.C_below HR0_6.out (zb HB)); (case side2 => exact HC0_6.out); rintro e w23 ⟨v253, rfl, ho0, hb⟩; refine ⟨_, rfl, ?_⟩; have HO254 := Aside0.mk (Kd.S_lower (Kd.S_new' (Kd.S_new' ho0 (Kd.R_lt (((Kd.R_mono (ztR (Kd.R_types HO246.out BK243.out (by decide))) (fun _ h_ => h_.1)))))) (Kd.R_lt (((Kd.R_mono (ztR (Kd.R_types HO250.out BK243.out (by decide))) (fun _ h_ => h_.1)))))) (below_size (zb HB))); replace HO246 := Aside0.mk (Kd.R_below (((Kd.R_mono (ztR (Kd.R_types HO246.out BK243.out (by decide))) (fun _ h_ => h_.1)))) hb); replace HO250 := Aside0.mk (Kd.R_below (((Kd.R_mono (ztR (Kd.R_types HO250.out BK243.out (by decide))) (fun _ h_ => h_.1)))) hb); replace BK241 := Aside0.mk (blk_below (g := gb241) (o := .cells #[.bool a0_0, .slice A0_1 l0_1.length c0_1, .int .i64 a0_2, .slice A0_3 l0_3.length c0_3, .int .i64 a0_4, .string a0_5, .slice A0_6 l0_6.length c0_6, .int .i64 a0_7, .int .i64 a0_8, .slice A0_9 l0_9.length c0_9, .bool a0_10] 64 (0, 0)) (zp BK241) hb); replace BK242 := Aside0.mk (blk_below (g := gb242) (o := .cells #[.bool false, .slice none 0 0, .int .i64 0, .slice none 0 0, .int .i64 0, .string (⟨#[]⟩ : ByteArray), .slice none 0 0, .int .i64 0, .int .i64 0, .slice none 0 0, .bool false] 42 (0, 0)) (zp BK242) hb); replace BK243 := Aside0.mk (blk_below (g := gb243) (o := .cells #[.bool a0_0, .slice Ao16 t244.length co16, .int .i64 t247, .slice Ao20 t248.length co20, .int .i64 t251, .string a0_5, .slice none 0 0, .int .i64 0, .int .i64 0, .slice none 0 0, .bool false] 42 (0, 0)) (zp BK243) hb); replace HB := Aside0.mk (below_step (zb HB) hb); (try clear hb); (try clear ho0); obtain ⟨Ao24, co24, eo24⟩ := Kd.S_slice HO254.out; subst eo24; obtain ⟨hcz25_0, hcz25_1, hcz25_2, hcz25_3, hcz25_4, hcz25_5, hcz25_6, hcz25_7, hcz25_8, hcz25_9, hcz25_10, hfz25_0, hfz25_1, hfz25_2, hfz25_3, hfz25_4, hfz25_5, hfz25_6, hfz25_7, hfz25_8, hfz25_9, hfz25_10⟩ := c11 BK243; obtain ⟨hcz26_0, hcz26_1, hcz26_2, hcz26_3, hcz26_4, hcz26_5, hcz26_6, hcz26_7, hcz26_8, hcz26_9, hcz26_10, hfz26_0, hfz26_1, hfz26_2, hfz26_3, hfz26_4, hfz26_5, hfz26_6, hfz26_7, hfz26_8, hfz26_9, hfz26_10⟩ := c11 BK241) | ((with_reducible refine gq 97 rfl ?_); refine gl (some 24) Try.func97 #[.agg #[.int .i64 a0_7, .int .i64 a0_8]] ?_; (with_reducible refine (laws_toFlow.calls a0_7 a0_8 t255 t256 _ A5.out).mono ?_); rintro e w27 ⟨rfl, hb⟩; refine ⟨_, rfl, ?_⟩; replace HO246 := Aside0.mk (Kd.R_below (((Kd.R_mono (ztR (Kd.R_types HO246.out BK243.out (by decide))) (fun _ h_ => h_.1)))) hb); replace HO250 := Aside0.mk (Kd.R_below (((Kd.R_mono (ztR (Kd.R_types HO250.out BK243.out (by decide))) (fun _ h_ => h_.1)))) hb); replace HO254 := Aside0.mk (Kd.S_below (by (with_reducible repeat (first | apply Kd.S_alloc | apply Kd.S_drewN | apply Kd.S_drew)); exact (Kd.S_mono (ztS (Kd.S_types HO254.out BK243.out (by decide))) (fun _ h_ => h_.1))) hb); replace BK241 := Aside0.mk (blk_below (g := gb241) (o := .cells #[.bool a0_0, .slice A0_1 l0_1.length c0_1, .int .i64 a0_2, .slice A0_3 l0_3.length c0_3, .int .i64 a0_4, .string a0_5, .slice A0_6 l0_6.length c0_6, .int .i64 a0_7, .int .i64 a0_8, .slice A0_9 l0_9.length c0_9, .bool a0_10] 64 (0, 0)) (zp BK241) hb); replace BK242 := Aside0.mk (blk_below (g := gb242) (o := .cells #[.bool false, .slice none 0 0, .int .i64 0, .slice none 0 0, .int .i64 0, .string (⟨#[]⟩ : ByteArray), .slice none 0 0, .int .i64 0, .int .i64 0, .slice none 0 0, .bool false] 42 (0, 0)) (zp BK242) hb); replace BK243 := Aside0.mk (blk_below (g := gb243) (o := .cells #[.bool a0_0, .slice Ao16 t244.length co16, .int .i64 t247, .slice Ao20 t248.length co20, .int .i64 t251, .string a0_5, .slice Ao24 t252.length co24, .int .i64 0, .int .i64 0, .slice none 0 0, .bool false] 42 (0, 0)) (zp BK243) hb); replace HB := Aside0.mk (below_step (zb HB) hb); (try clear hb); obtain ⟨hcz28_0, hcz28_1, hcz28_2, hcz28_3, hcz28_4, hcz28_5, hcz28_6, hcz28_7, hcz28_8, hcz28_9, hcz28_10, hfz28_0, hfz28_1, hfz28_2, hfz28_3, hfz28_4, hfz28_5, hfz28_6, hfz28_7, hfz28_8, hfz28_9, hfz28_10⟩ := c11 BK243; obtain ⟨hcz29_0, hcz29_1, hcz29_2, hcz29_3, hcz29_4, hcz29_5, hcz29_6, hcz29_7, hcz29_8, hcz29_9, hcz29_10, hfz29_0, hfz29_1, hfz29_2, hfz29_3, hfz29_4, hfz29_5, hfz29_6, hfz29_7, hfz29_8, hfz29_9, hfz29_10⟩ := c11 BK241) | ((with_reducible refine gq 98 rfl ?_); refine gl (some 28) Try.func98 #[.slice A0_9 l0_9.length c0_9] ?_; (with_reducible refine (laws_toFrameS.calls k _ _ l0_9 t257 _ ?side1 ?side2 A6.out).mono ?_); (case side1 => exact Kd.C_below HR0_9.out (zb HB)); (case side2 => exact HC0_9.out); rintro e w30 ⟨v258, rfl, ho0, hb⟩; refine ⟨_, rfl, ?_⟩; replace HO246 := Aside0.mk (Kd.R_below (((Kd.R_mono (ztR (Kd.R_types HO246.out BK243.out (by decide))) (fun _ h_ => h_.1)))) hb); replace HO250 := Aside0.mk (Kd.R_below (((Kd.R_mono (ztR (Kd.R_types HO250.out BK243.out (by decide))) (fun _ h_ => h_.1)))) hb); replace HO254 := Aside0.mk (Kd.S_below (by (with_reducible repeat (first | apply Kd.S_alloc | apply Kd.S_drewN | apply Kd.S_drew)); exact (Kd.S_mono (ztS (Kd.S_types HO254.out BK243.out (by decide))) (fun _ h_ => h_.1))) hb); have HO259 := Aside0.mk (Kd.R_lower ho0 (below_size (zb HB))); replace BK241 := Aside0.mk (blk_below (g := gb241) (o := .cells #[.bool a0_0, .slice A0_1 l0_1.length c0_1, .int .i64 a0_2, .slice A0_3 l0_3.length c0_3, .int .i64 a0_4, .string a0_5, .slice A0_6 l0_6.length c0_6, .int .i64 a0_7, .int .i64 a0_8, .slice A0_9 l0_9.length c0_9, .bool a0_10] 64 (0, 0)) (zp BK241) hb); replace BK242 := Aside0.mk (blk_below (g := gb242) (o := .cells #[.bool false, .slice none 0 0, .int .i64 0, .slice none 0 0, .int .i64 0, .string (⟨#[]⟩ : ByteArray), .slice none 0 0, .int .i64 0, .int .i64 0, .slice none 0 0, .bool false] 42 (0, 0)) (zp BK242) hb); replace BK243 := Aside0.mk (blk_below (g := gb243) (o := .cells #[.bool a0_0, .slice Ao16 t244.length co16, .int .i64 t247, .slice Ao20 t248.length co20, .int .i64 t251, .string a0_5, .slice Ao24 t252.length co24, .int .i64 t255, .int .i64 t256, .slice none 0 0, .bool false] 42 (0, 0)) (zp BK243) hb); replace HB := Aside0.mk (below_step (zb HB) hb); (try clear hb); (try clear ho0); obtain ⟨Ao31, co31, eo31⟩ := Kd.R_slice HO259.out; subst eo31; obtain ⟨hcz32_0, hcz32_1, hcz32_2, hcz32_3, hcz32_4, hcz32_5, hcz32_6, hcz32_7, hcz32_8, hcz32_9, hcz32_10, hfz32_0, hfz32_1, hfz32_2, hfz32_3, hfz32_4, hfz32_5, hfz32_6, hfz32_7, hfz32_8, hfz32_9, hfz32_10⟩ := c11 BK243; obtain ⟨hcz33_0, hcz33_1, hcz33_2, hcz33_3, hcz33_4, hcz33_5, hcz33_6, hcz33_7, hcz33_8, hcz33_9, hcz33_10, hfz33_0, hfz33_1, hfz33_2, hfz33_3, hfz33_4, hfz33_5, hfz33_6, hfz33_7, hfz33_8, hfz33_9, hfz33_10⟩ := c11 BK241; obtain ⟨hcz34_0, hcz34_1, hcz34_2, hcz34_3, hcz34_4, hcz34_5, hcz34_6, hcz34_7, hcz34_8, hcz34_9, hcz34_10, hfz34_0, hfz34_1, hfz34_2, hfz34_3, hfz34_4, hfz34_5, hfz34_6, hfz34_7, hfz34_8, hfz34_9, hfz34_10⟩ := c11 BK242))
 refine bodyPost_ret (results_cell_row rfl _ _ gb242 42 #[.bool a0_0, .slice Ao16 t244.length co16, .int .i64 t247, .slice Ao20 t248.length co20, .int .i64 t251, .string a0_5, .slice Ao24 t252.length co24, .int .i64 t255, .int .i64 t256, .slice Ao31 t257.length co31, .bool a0_10] (0, 0) _ rfl (zp BK242) Try.underlying42 rfl (by kernel_rfl)) rfl ?_
 exact ⟨_, _, _, _, ze, (Kd.R_mono (ztR (Kd.R_types (Kd.R_types HO246.out BK243.out (by decide)) BK242.out (by decide))) (fun _ hk => hk.1.1.2)), (Kd.R_mono (ztR (Kd.R_types (Kd.R_types HO250.out BK243.out (by decide)) BK242.out (by decide))) (fun _ hk => hk.1.1.2)), by (with_reducible repeat (first | apply Kd.S_alloc | apply Kd.S_drewN | apply Kd.S_drew)); exact Kd.S_mono (ztS (Kd.S_types (Kd.S_types HO254.out BK243.out (by decide)) BK242.out (by decide))) (fun _ hk => ⟨hk.1.1.1.2, hk.1.1.2⟩), (Kd.R_mono (ztR (Kd.R_types (Kd.R_types HO259.out BK243.out (by decide)) BK242.out (by decide))) (fun _ hk => trivial)), zb HB⟩

/-! ### laws_toWorld: function 40 -/
-- by hand
section
variable {P : Program} {ops : Array Oper} {rest : List Oper} {o : Oper} {a : Act} {Q : Exit → Act → World → Prop} {W W0 : World} {g T : Nat} {c0 c1 : Array Value}
theorem chg_heap (h0 : Aside0 (W0.heap[g]? = some (.cells c0 T (0, 0)))) (m : Chg g W0 c0 W c1) : W.heap[g]? = some (.cells c1 T (0, 0)) := zp h0 m rfl
/-- A record out of a block, as one. -/
theorem ld {ty : TypeId} {x : Operand} {d : TypeDesc} (h0 : Aside0 (W0.heap[g]? = some (.cells c0 T (0, 0)))) (j : Nat) (cs : List Value) (hu : P.underlying ty = some d) (h : wpList P ops Q rest (a.put o.dst (.agg cs.toArray)) W)
    (m : Chg g W0 c0 W c1 := by repeat (first | (with_reducible first | exact Chg.refl | apply Chg.alloc | apply Chg.drewN | apply Chg.drew | apply Chg.put) | ((with_reducible apply Chg.far); (case hp => exact Aside0.out (by assumption)))))
    (he : (c1.extract j (j + cs.length)).toList = cs := by kernel_rfl) (hg : o.guard = none := by rfl) (ho : o.op = .load ty x := by rfl) (hx : a.eval x = .pointer (some ⟨g, j, none⟩) := by rfl) (hd : d.isRow = true := by rfl) (hi : (P.info? ty).map (·.size) = some cs.length := by kernel_rfl) : wpList P ops Q (o :: rest) a W :=
  wpList_load_mid hg ty x ho g j hx cs d (by have h1 := World.rangeAt_of_block (chg_heap h0 m) j cs.length; rwa [he] at h1) hu hd hi h
def putAll : Array Value → Nat → List Value → Array Value
  | c, _, [] => c
  | c, j, v :: r => putAll (c.setIfInBounds j v) (j + 1) r
theorem setCells_heap (vs : List Value) : ∀ (j : Nat) (W : World) (c : Array Value), W.heap[g]? = some (.cells c T (0, 0)) → (W.setCells g j vs).heap[g]? = some (.cells (putAll c j vs) T (0, 0)) := by
  induction vs with
  | nil => intro j W c h; exact h
  | cons v r ih => intro j W c h; exact ih (j + 1) _ _ (blk_put h j v rfl)
theorem setCells_keep (vs : List Value) : ∀ (j : Nat) (V W : World), KeepBut V W g none → KeepBut V (W.setCells g j vs) g none := by
  induction vs with
  | nil => intro j V W h; exact h
  | cons v r ih => intro j V W h; exact ih (j + 1) V _ (KeepBut.set_ h j v)
theorem setCells_low (vs : List Value) : ∀ (j n : Nat) (V W : World), Below n V W → n ≤ g → Below n V (W.setCells g j vs) := by
  induction vs with
  | nil => intro j n V W h _; exact h
  | cons v r ih => intro j n V W h hn; exact ih (j + 1) n V _ (Below.setCell h hn v) hn
/-- A record into a block, as one. -/
theorem sd {ty : TypeId} {x y : Operand} (h0 : Aside0 (W0.heap[g]? = some (.cells c0 T (0, 0)))) (j : Nat) (vs : List Value) (cs1 : Array Value)
    (h : ∀ w', Aside0 (w'.heap[g]? = some (.cells cs1 T (0, 0))) → KeepBut W w' g none → (∀ n V, Below n V W → n ≤ g → Below n V w') → wpList P ops Q rest a w') (h1 : ∀ v ∈ vs, v.oneCell' = true)
    (m : Chg g W0 c0 W c1 := by repeat (first | (with_reducible first | exact Chg.refl | apply Chg.alloc | apply Chg.drewN | apply Chg.drew | apply Chg.put) | ((with_reducible apply Chg.far); (case hp => exact Aside0.out (by assumption)))))
    (he : putAll c1 j vs = cs1 := by kernel_rfl) (hl : decide (j + vs.length ≤ c1.size) = true := by kernel_rfl) (hg : o.guard = none := by rfl) (hn : o.dst = none := by rfl) (ho : o.op = .store ty x y := by rfl) (hx : a.eval x = .pointer (some ⟨g, j, none⟩) := by rfl) (hy : a.eval y = .agg vs.toArray := by rfl) (hi : (P.info? ty).map (·.size) = some vs.toArray.size := by kernel_rfl) : wpList P ops Q (o :: rest) a W := by
  have hb := chg_heap h0 m
  have hl' := of_decide_eq_true hl
  refine wpList_store_mid hg ty x y ho g j vs.toArray hx hy (fun i hi => ?_) hi (all_oneCell_toArray h1) ?_
  · rw [List.size_toArray] at hi
    refine ⟨?_, blk_frozen hb _⟩
    rw [blk_cell hb, Array.getElem?_eq_getElem (by omega)]
    rfl
  · rw [hn]
    show wpList P ops Q rest a (W.setCells g j vs)
    exact h _ ⟨by rw [← he]; exact setCells_heap vs j W c1 hb⟩ (setCells_keep vs j W W (KeepBut.refl W g none)) (fun n V hV hn => setCells_low vs j n V W hV hn)
theorem cz {cs : Array Value} {v : Value} (h : Aside0 (W.heap[g]? = some (.cells cs T (0, 0)))) (j : Nat) (e : cs[j]? = some v) : W.cell? ⟨g, j, none⟩ = some v := (blk_cell h.out j).trans e
end
section
variable {α : Type} {d : Kd α} {e base n : Nat} {ok : Nat → Prop} {v : Value} {xs : List α} {W W1 w : World}
theorem ocR (h : d.R e W base ok v xs) : v.oneCell' = true := by obtain ⟨A, c, rfl⟩ := Kd.R_slice h; rfl
theorem ocS (h : Kd.S d e W base ok v xs) : v.oneCell' = true := ocR (Kd.S_R h)
theorem newR (h : d.R e W1 n ok v xs) (hle : base ≤ n) : d.R e W1 base (fun k => ok k ∧ n ≤ k) v xs := Kd.R_lower (Kd.R_mono (Kd.R_bound h) (fun _ hk => ⟨hk.1, hk.2.1⟩)) hle
theorem newS (h : Kd.S d e W1 n ok v xs) (hle : base ≤ n) : Kd.S d e W1 base (fun k => ok k ∧ n ≤ k) v xs := Kd.S_lower (Kd.S_mono (Kd.S_bound h) (fun _ hk => ⟨hk.1, hk.2.1⟩)) hle
theorem ownltR (h : d.R e W base (fun k => ok k ∧ k < n) v xs) (k : Nat) (hk : v.ownBlock = some k) : k < n := (h.1 k hk).2
theorem owngeR (h : d.R e W base (fun k => ok k ∧ n ≤ k) v xs) (k : Nat) (hk : v.ownBlock = some k) : n ≤ k := (h.1 k hk).2
theorem ownltS (h : Kd.S d e W base (fun k => ok k ∧ k < n) v xs) (k : Nat) (hk : v.ownBlock = some k) : k < n := ownltR (Kd.S_R h) k hk
theorem owngeS (h : Kd.S d e W base (fun k => ok k ∧ n ≤ k) v xs) (k : Nat) (hk : v.ownBlock = some k) : n ≤ k := owngeR (Kd.S_R h) k hk
theorem lt_ne {k : Nat} (h : k < n) (ho : ∀ k, v.ownBlock = some k → n ≤ k) (e : some k = v.ownBlock) : False := by have := ho k e.symm; omega
theorem ge_ne {k : Nat} (h : n ≤ k) (ho : ∀ k, v.ownBlock = some k → k < n) (e : some k = v.ownBlock) : False := by have := ho k e.symm; omega
end
def laws_toWorld.f (k : Nat) (a0_0 : Bool) (l0_1 : List (S192)) (a0_2 : Int) (l0_3 : List (S192)) (a0_4 : Int) (a0_5 : ByteArray) (l0_6 : List (S167)) (a0_7 : Int) (a0_8 : Int) (l0_9 : List (S169)) (a0_10 : Bool) (a0_11 : Bool) (l0_12 : List (S192)) (a0_13 : Int) (l0_14 : List (S192)) (a0_15 : Int) (a0_16 : ByteArray) (l0_17 : List (S167)) (a0_18 : Int) (a0_19 : Int) (l0_20 : List (S169)) (a0_21 : Bool) (a0_22 : ByteArray) (a0_23 : ByteArray) : Option (Bool × (List (S88)) × Int × (List (S88)) × Int × ByteArray × (List (S104)) × Int × Int × (List (S110)) × Bool × Bool × (List (S88)) × Int × (List (S88)) × Int × ByteArray × (List (S104)) × Int × Int × (List (S110)) × Bool × ByteArray × ByteArray) := (laws_toEnd.f k a0_0 l0_1 a0_2 l0_3 a0_4 a0_5 l0_6 a0_7 a0_8 l0_9 a0_10).bind fun bt291 => ((laws_toEnd.f k a0_11 l0_12 a0_13 l0_14 a0_15 a0_16 l0_17 a0_18 a0_19 l0_20 a0_21).bind fun bt310 => (some (bt291.1, bt291.2.1, bt291.2.2.1, bt291.2.2.2.1, bt291.2.2.2.2.1, bt291.2.2.2.2.2.1, bt291.2.2.2.2.2.2.1, bt291.2.2.2.2.2.2.2.1, bt291.2.2.2.2.2.2.2.2.1, bt291.2.2.2.2.2.2.2.2.2.1, bt291.2.2.2.2.2.2.2.2.2.2, bt310.1, bt310.2.1, bt310.2.2.1, bt310.2.2.2.1, bt310.2.2.2.2.1, bt310.2.2.2.2.2.1, bt310.2.2.2.2.2.2.1, bt310.2.2.2.2.2.2.2.1, bt310.2.2.2.2.2.2.2.2.1, bt310.2.2.2.2.2.2.2.2.2.1, bt310.2.2.2.2.2.2.2.2.2.2, a0_22, a0_23)))
theorem laws_toWorld.mono : ∀ a0 a1 a2 a3 a4 a5 a6 a7 a8 a9 a10 a11 a12 a13 a14 a15 a16 a17 a18 a19 a20 a21 a22 a23 k, LeO (laws_toWorld.f k a0 a1 a2 a3 a4 a5 a6 a7 a8 a9 a10 a11 a12 a13 a14 a15 a16 a17 a18 a19 a20 a21 a22 a23) (laws_toWorld.f (k + 1) a0 a1 a2 a3 a4 a5 a6 a7 a8 a9 a10 a11 a12 a13 a14 a15 a16 a17 a18 a19 a20 a21 a22 a23) := by
 intro a0 a1 a2 a3 a4 a5 a6 a7 a8 a9 a10 a11 a12 a13 a14 a15 a16 a17 a18 a19 a20 a21 a22 a23 k
 unfold laws_toWorld.f
 have m0 := @laws_toEnd.mono
 exact zm
section
variable {w w' : World} {b b' lo lo' hi : Nat} {v1 v3 v6 v9 u1 u3 u6 u9 : Value} {l1 l3 m1 m3 : List S88} {l6 m6 : List S104} {l9 m9 : List S110} {o1 o3 o6 o9 B : Nat → Prop}
/-- The rows of a world's two ends: no block of the one is the other's; all lie between two bounds. -/
structure WB (w : World) (b lo hi : Nat) (v1 v3 v6 v9 u1 u3 u6 u9 : Value) (l1 l3 : List S88) (l6 : List S104) (l9 : List S110) (m1 m3 : List S88) (m6 : List S104) (m9 : List S110) : Prop where
  ex : ∃ P Q : Nat → Prop, EB w b P v1 v3 v6 v9 l1 l3 l6 l9 ∧ EB w b Q u1 u3 u6 u9 m1 m3 m6 m9 ∧ (∀ k, EP P v1 v3 v9 k → lo ≤ k ∧ k < hi) ∧ (∀ k, EP Q u1 u3 u9 k → lo ≤ k ∧ k < hi) ∧ ∀ k, EP P v1 v3 v9 k → ¬ EP Q u1 u3 u9 k
theorem ty_ne {k s t : Nat} (h1 : ∃ c, w.heap[k]? = some (.cells c s (0, 0))) (h2 : ∃ c, w.heap[k]? = some (.cells c t (0, 0))) (h : s ≠ t) : False := by
  obtain ⟨c, h1⟩ := h1
  obtain ⟨d, h2⟩ := h2
  rw [h1] at h2
  injection h2 with h2
  injection h2 with _ h2
  exact h h2
theorem EB.of (h1 : Kd.R k88 88 w b o1 v1 l1) (a : ∀ k, o1 k → some k ≠ v3.ownBlock) (h3 : Kd.R k88 88 w b o3 v3 l3) (h6 : Kd.S k104 104 w b o6 v6 l6) (c : ∀ k, o6 k → some k ≠ v1.ownBlock ∧ some k ≠ v3.ownBlock) (h9 : Kd.R k110 110 w b o9 v9 l9) :
    EB w b (fun k => (o6 k ∧ some k ≠ v9.ownBlock) ∧ b ≤ k ∧ k < w.heap.size) v1 v3 v6 v9 l1 l3 l6 l9 :=
  ⟨Kd.R_tight rfl h1, Kd.R_tight rfl h3, Kd.S_mono (Kd.S_bound (Kd.S_apart' h6 (Kd.R_typed h9) (by decide))) (fun k h => ⟨h.1, h.2.1, h.2.2.1⟩), Kd.R_tight rfl h9, fun k h => a k (h1.1 k h.symm), fun k h => (c k h.1.1).1, fun k h => (c k h.1.1).2, fun k h e => ty_ne (Kd.R_typed h1 k h.symm) (Kd.R_typed h9 k e.symm) (by decide), fun k h e => ty_ne (Kd.R_typed h3 k h.symm) (Kd.R_typed h9 k e.symm) (by decide), fun k h => h.1.2⟩
theorem EB.in_ (h1 : Kd.R k88 88 w b o1 v1 l1) (h3 : Kd.R k88 88 w b o3 v3 l3) (h9 : Kd.R k110 110 w b o9 v9 l9) (d1 : ∀ k, o1 k → B k) (d3 : ∀ k, o3 k → B k) (d6 : ∀ k, o6 k → B k) (d9 : ∀ k, o9 k → B k) (k : Nat)
    (h : EP (fun k => (o6 k ∧ some k ≠ v9.ownBlock) ∧ b ≤ k ∧ k < w.heap.size) v1 v3 v9 k) : B k ∧ b ≤ k ∧ k < w.heap.size := by
  rcases h with h | h | h | h
  · exact ⟨d1 k (h1.1 k h.symm), Kd.R_base h1 k h.symm, Kd.R_lt h1 k h.symm⟩
  · exact ⟨d3 k (h3.1 k h.symm), Kd.R_base h3 k h.symm, Kd.R_lt h3 k h.symm⟩
  · exact ⟨d6 k h.1.1, h.2⟩
  · exact ⟨d9 k (h9.1 k h.symm), Kd.R_base h9 k h.symm, Kd.R_lt h9 k h.symm⟩
theorem WB.of {n : Nat} (a1 : Kd.R k88 88 w b (fun k => some k ≠ v3.ownBlock ∧ k < n) v1 l1) (a3 : Kd.R k88 88 w b (fun k => some k ≠ v1.ownBlock ∧ k < n) v3 l3) (a6 : Kd.S k104 104 w b (fun k => (some k ≠ v1.ownBlock ∧ some k ≠ v3.ownBlock) ∧ k < n) v6 l6) (a9 : Kd.R k110 110 w b (fun k => o9 k ∧ k < n) v9 l9)
    (c1 : Kd.R k88 88 w b (fun k => some k ≠ u3.ownBlock ∧ n ≤ k) u1 m1) (c3 : Kd.R k88 88 w b (fun k => some k ≠ u1.ownBlock ∧ n ≤ k) u3 m3) (c6 : Kd.S k104 104 w b (fun k => (some k ≠ u1.ownBlock ∧ some k ≠ u3.ownBlock) ∧ n ≤ k) u6 m6) (c9 : Kd.R k110 110 w b (fun k => o9 k ∧ n ≤ k) u9 m9) : WB w b b w.heap.size v1 v3 v6 v9 u1 u3 u6 u9 l1 l3 l6 l9 m1 m3 m6 m9 := by
  have p := EB.in_ (B := fun k => k < n) (o6 := fun k => (some k ≠ v1.ownBlock ∧ some k ≠ v3.ownBlock) ∧ k < n) a1 a3 a9 (fun k h => h.2) (fun k h => h.2) (fun k h => h.2) (fun k h => h.2)
  have q := EB.in_ (B := fun k => n ≤ k) (o6 := fun k => (some k ≠ u1.ownBlock ∧ some k ≠ u3.ownBlock) ∧ n ≤ k) c1 c3 c9 (fun k h => h.2) (fun k h => h.2) (fun k h => h.2) (fun k h => h.2)
  exact ⟨_, _, EB.of a1 (fun k h => h.1) a3 a6 (fun k h => h.1) a9, EB.of c1 (fun k h => h.1) c3 c6 (fun k h => h.1) c9, fun k h => (p k h).2, fun k h => (q k h).2, fun k h h2 => Nat.lt_irrefl _ (Nat.lt_of_lt_of_le (p k h).1 (q k h2).1)⟩
theorem WB.below (W : WB w b lo hi v1 v3 v6 v9 u1 u3 u6 u9 l1 l3 l6 l9 m1 m3 m6 m9) (hb : Below w.heap.size w w') : WB w' b lo hi v1 v3 v6 v9 u1 u3 u6 u9 l1 l3 l6 l9 m1 m3 m6 m9 := by
  obtain ⟨P, Q, E, F, r⟩ := W.ex
  exact ⟨P, Q, E.below hb, F.below hb, r⟩
theorem WB.keep (W : WB w b lo hi v1 v3 v6 v9 u1 u3 u6 u9 l1 l3 l6 l9 m1 m3 m6 m9) {g : Nat} (hk : KeepBut w w' g none) (hg : hi ≤ g) : WB w' b lo hi v1 v3 v6 v9 u1 u3 u6 u9 l1 l3 l6 l9 m1 m3 m6 m9 := by
  obtain ⟨P, Q, E, F, p, q, r⟩ := W.ex
  have hK : Kept w w' (fun k => k = g) := ⟨hk.1, fun i hi hn => hk.2 i hi hn (by simp)⟩
  exact ⟨P, Q, E.kept hK (fun k h h2 => by have := p k h2; omega), F.kept hK (fun k h h2 => by have := q k h2; omega), p, q, r⟩
theorem EB.low {P : Nat → Prop} (E : EB w b P v1 v3 v6 v9 l1 l3 l6 l9) (h : b' ≤ b) : EB w b' P v1 v3 v6 v9 l1 l3 l6 l9 := ⟨Kd.R_lower E.r1 h, Kd.R_lower E.r3 h, Kd.S_lower E.s6 h, Kd.R_lower E.r9 h, E.a13, E.a16, E.a36, E.a19, E.a39, E.a69⟩
theorem WB.low (W : WB w b lo hi v1 v3 v6 v9 u1 u3 u6 u9 l1 l3 l6 l9 m1 m3 m6 m9) (h : b' ≤ b) (h2 : lo' ≤ lo) : WB w b' lo' hi v1 v3 v6 v9 u1 u3 u6 u9 l1 l3 l6 l9 m1 m3 m6 m9 := by
  obtain ⟨P, Q, E, F, p, q, r⟩ := W.ex
  exact ⟨P, Q, E.low h, F.low h, fun k h => ⟨Nat.le_trans h2 (p k h).1, (p k h).2⟩, fun k h => ⟨Nat.le_trans h2 (q k h).1, (q k h).2⟩, r⟩
theorem zw (h0 : Aside0 (WB w b lo hi v1 v3 v6 v9 u1 u3 u6 u9 l1 l3 l6 l9 m1 m3 m6 m9)) (m : Mov w w' := by (with_reducible repeat (first | exact Mov.refl _ | apply Mov.alloc | apply Mov.drewN | apply Mov.drew))) : WB w' b lo hi v1 v3 v6 v9 u1 u3 u6 u9 l1 l3 l6 l9 m1 m3 m6 m9 := by
  induction m with
  | refl => exact h0.out
  | alloc _ o ih => exact ih.below (below_alloc (Below.refl _ _) o)
  | drew _ ih => exact ih.below (below_drew (Below.refl _ _))
  | drewN _ n ih => exact ih.below (pw_below_drewN (Below.refl _ _) n)
theorem ms (m : Mov w w' := by (with_reducible repeat (first | exact Mov.refl _ | apply Mov.alloc | apply Mov.drewN | apply Mov.drew))) : w.heap.size ≤ w'.heap.size := by
  induction m with
  | refl => exact Nat.le_refl _
  | alloc _ o ih => exact Nat.le_trans ih (below_alloc (Below.refl _ _) o).size
  | drew _ ih => exact ih
  | drewN _ n ih => exact ih
end
set_option maxHeartbeats 8000000 in
set_option maxRecDepth 100000 in
theorem laws_toWorld.calls (k : Nat) (a0_0 : Bool) (A0_1 : Option Addr) (c0_1 : Nat) (l0_1 : List (S192)) (a0_2 : Int) (A0_3 : Option Addr) (c0_3 : Nat) (l0_3 : List (S192)) (a0_4 : Int) (a0_5 : ByteArray) (A0_6 : Option Addr) (c0_6 : Nat) (l0_6 : List (S167)) (a0_7 : Int) (a0_8 : Int) (A0_9 : Option Addr) (c0_9 : Nat) (l0_9 : List (S169)) (a0_10 : Bool) (a0_11 : Bool) (A0_12 : Option Addr) (c0_12 : Nat) (l0_12 : List (S192)) (a0_13 : Int) (A0_14 : Option Addr) (c0_14 : Nat) (l0_14 : List (S192)) (a0_15 : Int) (a0_16 : ByteArray) (A0_17 : Option Addr) (c0_17 : Nat) (l0_17 : List (S167)) (a0_18 : Int) (a0_19 : Int) (A0_20 : Option Addr) (c0_20 : Nat) (l0_20 : List (S169)) (a0_21 : Bool) (a0_22 : ByteArray) (a0_23 : ByteArray) (r1 : Bool) (r2 : List (S88)) (r3 : Int) (r4 : List (S88)) (r5 : Int) (r6 : ByteArray) (r7 : List (S104)) (r8 : Int) (r9 : Int) (r10 : List (S110)) (r11 : Bool) (r12 : Bool) (r13 : List (S88)) (r14 : Int) (r15 : List (S88)) (r16 : Int) (r17 : ByteArray) (r18 : List (S104)) (r19 : Int) (r20 : Int) (r21 : List (S110)) (r22 : Bool) (r23 : ByteArray) (r24 : ByteArray) (w : World) (hr0_1 : Kd.C k192 w A0_1 l0_1.length l0_1) (hc0_1 : l0_1.length ≤ c0_1) (hr0_3 : Kd.C k192 w A0_3 l0_3.length l0_3) (hc0_3 : l0_3.length ≤ c0_3) (hr0_6 : Kd.C k167 w A0_6 l0_6.length l0_6) (hc0_6 : l0_6.length ≤ c0_6) (hr0_9 : Kd.C k169 w A0_9 l0_9.length l0_9) (hc0_9 : l0_9.length ≤ c0_9) (hr0_12 : Kd.C k192 w A0_12 l0_12.length l0_12) (hc0_12 : l0_12.length ≤ c0_12) (hr0_14 : Kd.C k192 w A0_14 l0_14.length l0_14) (hc0_14 : l0_14.length ≤ c0_14) (hr0_17 : Kd.C k167 w A0_17 l0_17.length l0_17) (hc0_17 : l0_17.length ≤ c0_17) (hr0_20 : Kd.C k169 w A0_20 l0_20.length l0_20) (hc0_20 : l0_20.length ≤ c0_20) (h : laws_toWorld.f k a0_0 l0_1 a0_2 l0_3 a0_4 a0_5 l0_6 a0_7 a0_8 l0_9 a0_10 a0_11 l0_12 a0_13 l0_14 a0_15 a0_16 l0_17 a0_18 a0_19 l0_20 a0_21 a0_22 a0_23 = some (r1, r2, r3, r4, r5, r6, r7, r8, r9, r10, r11, r12, r13, r14, r15, r16, r17, r18, r19, r20, r21, r22, r23, r24)) :
  Calls Try.prog 40 #[.agg #[.bool a0_0, .slice A0_1 l0_1.length c0_1, .int .i64 a0_2, .slice A0_3 l0_3.length c0_3, .int .i64 a0_4, .string a0_5, .slice A0_6 l0_6.length c0_6, .int .i64 a0_7, .int .i64 a0_8, .slice A0_9 l0_9.length c0_9, .bool a0_10, .bool a0_11, .slice A0_12 l0_12.length c0_12, .int .i64 a0_13, .slice A0_14 l0_14.length c0_14, .int .i64 a0_15, .string a0_16, .slice A0_17 l0_17.length c0_17, .int .i64 a0_18, .int .i64 a0_19, .slice A0_20 l0_20.length c0_20, .bool a0_21, .string a0_22, .string a0_23]] w fun e w' => ∃ v1_ v3_ v6_ v9_ v12_ v14_ v17_ v20_ : Value, e = .returned (.agg #[.bool r1, v1_, .int .i64 r3, v3_, .int .i64 r5, .string r6, v6_, .int .i64 r8, .int .i64 r9, v9_, .bool r11, .bool r12, v12_, .int .i64 r14, v14_, .int .i64 r16, .string r17, v17_, .int .i64 r19, .int .i64 r20, v20_, .bool r22, .string r23, .string r24]) ∧ WB w' w.heap.size w.heap.size w'.heap.size v1_ v3_ v6_ v9_ v12_ v14_ v17_ v20_ r2 r4 r7 r10 r13 r15 r18 r21 ∧ Below w.heap.size w w' := by
 have hu69 := Try.underlying69
 have hu48 := Try.underlying48
 have hu64 := Try.underlying64
 have hu42 := Try.underlying42
 have HR0_1 := Aside0.mk hr0_1
 have HC0_1 := Aside0.mk hc0_1
 clear hr0_1 hc0_1
 have HR0_3 := Aside0.mk hr0_3
 have HC0_3 := Aside0.mk hc0_3
 clear hr0_3 hc0_3
 have HR0_6 := Aside0.mk hr0_6
 have HC0_6 := Aside0.mk hc0_6
 clear hr0_6 hc0_6
 have HR0_9 := Aside0.mk hr0_9
 have HC0_9 := Aside0.mk hc0_9
 clear hr0_9 hc0_9
 have HR0_12 := Aside0.mk hr0_12
 have HC0_12 := Aside0.mk hc0_12
 clear hr0_12 hc0_12
 have HR0_14 := Aside0.mk hr0_14
 have HC0_14 := Aside0.mk hc0_14
 clear hr0_14 hc0_14
 have HR0_17 := Aside0.mk hr0_17
 have HC0_17 := Aside0.mk hc0_17
 clear hr0_17 hc0_17
 have HR0_20 := Aside0.mk hr0_20
 have HC0_20 := Aside0.mk hc0_20
 clear hr0_20 hc0_20
 have HB := Aside0.mk (Below.refl w.heap.size w)
 have H : ((laws_toEnd.f k a0_0 l0_1 a0_2 l0_3 a0_4 a0_5 l0_6 a0_7 a0_8 l0_9 a0_10).bind fun bt291 => ((laws_toEnd.f k a0_11 l0_12 a0_13 l0_14 a0_15 a0_16 l0_17 a0_18 a0_19 l0_20 a0_21).bind fun bt310 => (some (bt291.1, bt291.2.1, bt291.2.2.1, bt291.2.2.2.1, bt291.2.2.2.2.1, bt291.2.2.2.2.2.1, bt291.2.2.2.2.2.2.1, bt291.2.2.2.2.2.2.2.1, bt291.2.2.2.2.2.2.2.2.1, bt291.2.2.2.2.2.2.2.2.2.1, bt291.2.2.2.2.2.2.2.2.2.2, bt310.1, bt310.2.1, bt310.2.2.1, bt310.2.2.2.1, bt310.2.2.2.2.1, bt310.2.2.2.2.2.1, bt310.2.2.2.2.2.2.1, bt310.2.2.2.2.2.2.2.1, bt310.2.2.2.2.2.2.2.2.1, bt310.2.2.2.2.2.2.2.2.2.1, bt310.2.2.2.2.2.2.2.2.2.2, a0_22, a0_23)))) = some (r1, r2, r3, r4, r5, r6, r7, r8, r9, r10, r11, r12, r13, r14, r15, r16, r17, r18, r19, r20, r21, r22, r23, r24) := h
 clear h
 obtain ⟨⟨t291, t292, t295, t296, t299, t300, t301, t304, t305, t306, t309⟩, A2, H⟩ := ob H
 (try dsimp only at H)
 obtain ⟨⟨t310, t311, t314, t315, t318, t319, t320, t323, t324, t325, t328⟩, A3, H⟩ := ob H
 (try dsimp only at H)
 simp only [Option.some.injEq, Prod.mk.injEq] at H
 obtain ⟨rfl, rfl, rfl, rfl, rfl, rfl, rfl, rfl, rfl, rfl, rfl, rfl, rfl, rfl, rfl, rfl, rfl, rfl, rfl, rfl, rfl, rfl, rfl, rfl⟩ := H
 go_enter Try.func40, Try.ntmps40
 go_wp2_with (first | ((with_reducible refine gd 1 rfl ?_); refine bx (N := 1) (cs := #[.bool a0_0, .slice A0_1 l0_1.length c0_1, .int .i64 a0_2, .slice A0_3 l0_3.length c0_3, .int .i64 a0_4, .string a0_5, .slice A0_6 l0_6.length c0_6, .int .i64 a0_7, .int .i64 a0_8, .slice A0_9 l0_9.length c0_9, .bool a0_10, .bool a0_11, .slice A0_12 l0_12.length c0_12, .int .i64 a0_13, .slice A0_14 l0_14.length c0_14, .int .i64 a0_15, .string a0_16, .slice A0_17 l0_17.length c0_17, .int .i64 a0_18, .int .i64 a0_19, .slice A0_20 l0_20.length c0_20, .bool a0_21, .string a0_22, .string a0_23]) (t := 69) ?_; intro gA hg w4 hbox hb; have BKA := Aside0.mk hbox; replace HB := Aside0.mk (below_step (zb HB) hb); clear hb hbox hg) | ((with_reducible refine gd 2 rfl ?_); refine bx (N := 2) (cs := #[.bool false, .slice none 0 0, .int .i64 0, .slice none 0 0, .int .i64 0, .string (⟨#[]⟩ : ByteArray), .slice none 0 0, .int .i64 0, .int .i64 0, .slice none 0 0, .bool false, .bool false, .slice none 0 0, .int .i64 0, .slice none 0 0, .int .i64 0, .string (⟨#[]⟩ : ByteArray), .slice none 0 0, .int .i64 0, .int .i64 0, .slice none 0 0, .bool false, .string (⟨#[]⟩ : ByteArray), .string (⟨#[]⟩ : ByteArray)]) (t := 48) ?_; intro gB hg w5 hbox hb; have BKB := Aside0.mk hbox; have GWB := gw HB hg; replace HB := Aside0.mk (below_step (zb HB) hb); obtain ⟨NAB, NBA⟩ := nb BKA hg; replace BKA := kb BKA hb; clear hb hbox hg) | ((with_reducible refine gd 3 rfl ?_); refine bx (N := 3) (cs := #[.bool false, .slice none 0 0, .int .i64 0, .slice none 0 0, .int .i64 0, .string (⟨#[]⟩ : ByteArray), .slice none 0 0, .int .i64 0, .int .i64 0, .slice none 0 0, .bool false, .bool false, .slice none 0 0, .int .i64 0, .slice none 0 0, .int .i64 0, .string (⟨#[]⟩ : ByteArray), .slice none 0 0, .int .i64 0, .int .i64 0, .slice none 0 0, .bool false, .string (⟨#[]⟩ : ByteArray), .string (⟨#[]⟩ : ByteArray)]) (t := 48) ?_; intro gC hg w6 hbox hb; have BKC := Aside0.mk hbox; have GWC := gw HB hg; replace HB := Aside0.mk (below_step (zb HB) hb); obtain ⟨NAC, NCA⟩ := nb BKA hg; replace BKA := kb BKA hb; obtain ⟨NBC, NCB⟩ := nb BKB hg; replace BKB := kb BKB hb; clear hb hbox hg) | ((with_reducible refine gd 5 rfl ?_); refine ld BKA 0 ([.bool a0_0, .slice A0_1 l0_1.length c0_1, .int .i64 a0_2, .slice A0_3 l0_3.length c0_3, .int .i64 a0_4, .string a0_5, .slice A0_6 l0_6.length c0_6, .int .i64 a0_7, .int .i64 a0_8, .slice A0_9 l0_9.length c0_9, .bool a0_10] : List Value) Try.underlying64 ?_) | ((with_reducible refine gd 6 rfl ?_); refine gl (some 6) Try.func37 #[.agg #[.bool a0_0, .slice A0_1 l0_1.length c0_1, .int .i64 a0_2, .slice A0_3 l0_3.length c0_3, .int .i64 a0_4, .string a0_5, .slice A0_6 l0_6.length c0_6, .int .i64 a0_7, .int .i64 a0_8, .slice A0_9 l0_9.length c0_9, .bool a0_10]] ?_; (with_reducible refine (laws_toEnd.calls k a0_0 _ _ l0_1 a0_2 _ _ l0_3 a0_4 a0_5 _ _ l0_6 a0_7 a0_8 _ _ l0_9 a0_10 t291 t292 t295 t296 t299 t300 t301 t304 t305 t306 t309 _ ?s1 ?s2 ?s3 ?s4 ?s5 ?s6 ?s7 ?s8 A2.out).mono ?_); (case s1 => exact zc (Kd.C_below HR0_1.out HB.out)); (case s2 => exact HC0_1.out); (case s3 => exact zc (Kd.C_below HR0_3.out HB.out)); (case s4 => exact HC0_3.out); (case s5 => exact zc (Kd.C_below HR0_6.out HB.out)); (case s6 => exact HC0_6.out); (case s7 => exact zc (Kd.C_below HR0_9.out HB.out)); (case s8 => exact HC0_9.out); rintro e w7 ⟨v1a, v3a, v6a, v9a, rfl, o1, o3, o6, o9, hb⟩; refine ⟨_, rfl, ?_⟩; have O1a := Aside0.mk (Kd.R_lower o1 HB.out.size); have O3a := Aside0.mk (Kd.R_lower o3 HB.out.size); have O6a := Aside0.mk (Kd.S_lower o6 HB.out.size); have O9a := Aside0.mk (Kd.R_lower o9 HB.out.size); replace BKA := kb BKA hb; replace BKB := kb BKB hb; replace BKC := kb BKC hb; replace HB := Aside0.mk (below_step (zb HB) hb); have VA : Aside0 (v1a.oneCell' = true ∧ v3a.oneCell' = true ∧ v6a.oneCell' = true ∧ v9a.oneCell' = true) := ⟨ocR O1a.out, ocR O3a.out, ocS O6a.out, ocR O9a.out⟩; clear hb o1 o3 o6 o9) | ((with_reducible refine gate_store (t := 42) (p := 7) rfl ?_); refine sd BKC 0 ([.bool t291, v1a, .int .i64 t295, v3a, .int .i64 t299, .string t300, v6a, .int .i64 t304, .int .i64 t305, v9a, .bool t309] : List Value) #[.bool t291, v1a, .int .i64 t295, v3a, .int .i64 t299, .string t300, v6a, .int .i64 t304, .int .i64 t305, v9a, .bool t309, .bool false, .slice none 0 0, .int .i64 0, .slice none 0 0, .int .i64 0, .string (⟨#[]⟩ : ByteArray), .slice none 0 0, .int .i64 0, .int .i64 0, .slice none 0 0, .bool false, .string (⟨#[]⟩ : ByteArray), .string (⟨#[]⟩ : ByteArray)] ?_ ?h1; (case h1 => obtain ⟨q1, q3, q6, q9⟩ := VA.out; intro u hu; simp only [List.mem_cons, List.not_mem_nil, or_false] at hu; rcases hu with rfl | rfl | rfl | rfl | rfl | rfl | rfl | rfl | rfl | rfl | rfl <;> first | rfl | assumption); intro w8 bkc hk hlow; replace O1a := Aside0.mk (Kd.R_mono (Kd.R_keep (Kd.R_types O1a.out BKC.out (by decide)) hk (fun _ h => h.2)) (fun _ h => h.1)); replace O3a := Aside0.mk (Kd.R_mono (Kd.R_keep (Kd.R_types O3a.out BKC.out (by decide)) hk (fun _ h => h.2)) (fun _ h => h.1)); replace O6a := Aside0.mk (Kd.S_mono (Kd.S_keep (Kd.S_types O6a.out BKC.out (by decide)) hk (fun _ h => h.2)) (fun _ h => h.1)); replace O9a := Aside0.mk (Kd.R_mono (Kd.R_keep (Kd.R_types O9a.out BKC.out (by decide)) hk (fun _ h => h.2)) (fun _ h => h.1)); replace BKA := Aside0.mk (KeepBut.blk hk BKA.out NAC.out (by simp)); replace BKB := Aside0.mk (KeepBut.blk hk BKB.out NBC.out (by simp)); replace HB := Aside0.mk (hlow _ _ HB.out GWC.out); replace BKC := bkc; clear hk hlow bkc) | ((with_reducible refine gd 9 rfl ?_); refine ld BKA 11 ([.bool a0_11, .slice A0_12 l0_12.length c0_12, .int .i64 a0_13, .slice A0_14 l0_14.length c0_14, .int .i64 a0_15, .string a0_16, .slice A0_17 l0_17.length c0_17, .int .i64 a0_18, .int .i64 a0_19, .slice A0_20 l0_20.length c0_20, .bool a0_21] : List Value) Try.underlying64 ?_) | ((with_reducible refine gd 10 rfl ?_); refine gl (some 10) Try.func37 #[.agg #[.bool a0_11, .slice A0_12 l0_12.length c0_12, .int .i64 a0_13, .slice A0_14 l0_14.length c0_14, .int .i64 a0_15, .string a0_16, .slice A0_17 l0_17.length c0_17, .int .i64 a0_18, .int .i64 a0_19, .slice A0_20 l0_20.length c0_20, .bool a0_21]] ?_; (with_reducible refine (laws_toEnd.calls k a0_11 _ _ l0_12 a0_13 _ _ l0_14 a0_15 a0_16 _ _ l0_17 a0_18 a0_19 _ _ l0_20 a0_21 t310 t311 t314 t315 t318 t319 t320 t323 t324 t325 t328 _ ?s1 ?s2 ?s3 ?s4 ?s5 ?s6 ?s7 ?s8 A3.out).mono ?_); (case s1 => exact zc (Kd.C_below HR0_12.out HB.out)); (case s2 => exact HC0_12.out); (case s3 => exact zc (Kd.C_below HR0_14.out HB.out)); (case s4 => exact HC0_14.out); (case s5 => exact zc (Kd.C_below HR0_17.out HB.out)); (case s6 => exact HC0_17.out); (case s7 => exact zc (Kd.C_below HR0_20.out HB.out)); (case s8 => exact HC0_20.out); rintro e w9 ⟨v1b, v3b, v6b, v9b, rfl, o1, o3, o6, o9, hb⟩; refine ⟨_, rfl, ?_⟩; replace O1a := Aside0.mk (Kd.R_old O1a.out hb); replace O3a := Aside0.mk (Kd.R_old O3a.out hb); replace O6a := Aside0.mk (Kd.S_old O6a.out hb); replace O9a := Aside0.mk (Kd.R_old O9a.out hb); have O1b := Aside0.mk (newR o1 HB.out.size); have O3b := Aside0.mk (newR o3 HB.out.size); have O6b := Aside0.mk (newS o6 HB.out.size); have O9b := Aside0.mk (newR o9 HB.out.size); have VB : Aside0 (v1b.oneCell' = true ∧ v3b.oneCell' = true ∧ v6b.oneCell' = true ∧ v9b.oneCell' = true) := ⟨ocR O1b.out, ocR O3b.out, ocS O6b.out, ocR O9b.out⟩; replace BKA := kb BKA hb; replace BKB := kb BKB hb; replace BKC := kb BKC hb; replace HB := Aside0.mk (below_step (zb HB) hb); clear hb o1 o3 o6 o9) | ((with_reducible refine gate_store (t := 42) (p := 11) rfl ?_); refine sd BKC 11 ([.bool t310, v1b, .int .i64 t314, v3b, .int .i64 t318, .string t319, v6b, .int .i64 t323, .int .i64 t324, v9b, .bool t328] : List Value) #[.bool t291, v1a, .int .i64 t295, v3a, .int .i64 t299, .string t300, v6a, .int .i64 t304, .int .i64 t305, v9a, .bool t309, .bool t310, v1b, .int .i64 t314, v3b, .int .i64 t318, .string t319, v6b, .int .i64 t323, .int .i64 t324, v9b, .bool t328, .string (⟨#[]⟩ : ByteArray), .string (⟨#[]⟩ : ByteArray)] ?_ ?h1; (case h1 => obtain ⟨q1, q3, q6, q9⟩ := VB.out; intro u hu; simp only [List.mem_cons, List.not_mem_nil, or_false] at hu; rcases hu with rfl | rfl | rfl | rfl | rfl | rfl | rfl | rfl | rfl | rfl | rfl <;> first | rfl | assumption); intro w10 bkc hk hlow; replace O1a := Aside0.mk (Kd.R_mono (Kd.R_keep (Kd.R_types O1a.out BKC.out (by decide)) hk (fun _ h => h.2)) (fun _ h => h.1)); replace O3a := Aside0.mk (Kd.R_mono (Kd.R_keep (Kd.R_types O3a.out BKC.out (by decide)) hk (fun _ h => h.2)) (fun _ h => h.1)); replace O6a := Aside0.mk (Kd.S_mono (Kd.S_keep (Kd.S_types O6a.out BKC.out (by decide)) hk (fun _ h => h.2)) (fun _ h => h.1)); replace O9a := Aside0.mk (Kd.R_mono (Kd.R_keep (Kd.R_types O9a.out BKC.out (by decide)) hk (fun _ h => h.2)) (fun _ h => h.1)); replace O1b := Aside0.mk (Kd.R_mono (Kd.R_keep (Kd.R_types O1b.out BKC.out (by decide)) hk (fun _ h => h.2)) (fun _ h => h.1)); replace O3b := Aside0.mk (Kd.R_mono (Kd.R_keep (Kd.R_types O3b.out BKC.out (by decide)) hk (fun _ h => h.2)) (fun _ h => h.1)); replace O6b := Aside0.mk (Kd.S_mono (Kd.S_keep (Kd.S_types O6b.out BKC.out (by decide)) hk (fun _ h => h.2)) (fun _ h => h.1)); replace O9b := Aside0.mk (Kd.R_mono (Kd.R_keep (Kd.R_types O9b.out BKC.out (by decide)) hk (fun _ h => h.2)) (fun _ h => h.1)); replace BKA := Aside0.mk (KeepBut.blk hk BKA.out NAC.out (by simp)); replace BKB := Aside0.mk (KeepBut.blk hk BKB.out NBC.out (by simp)); replace HB := Aside0.mk (hlow _ _ HB.out GWC.out); replace BKC := bkc; clear hk hlow bkc; have cA22 := cz BKA 22 rfl; have cA23 := cz BKA 23 rfl; have cC22 := cz BKC 22 rfl; have cC23 := cz BKC 23 rfl; have fC22 := blk_frozen BKC.out 22; have fC23 := blk_frozen BKC.out 23; have nAC := NAC.out; have nCA := NCA.out) | ((with_reducible refine gd 18 rfl ?_); clear cA22 cA23 cC22 cC23 fC22 fC23 nAC nCA; refine ld BKC 0 ([.bool t291, v1a, .int .i64 t295, v3a, .int .i64 t299, .string t300, v6a, .int .i64 t304, .int .i64 t305, v9a, .bool t309, .bool t310, v1b, .int .i64 t314, v3b, .int .i64 t318, .string t319, v6b, .int .i64 t323, .int .i64 t324, v9b, .bool t328, .string a0_22, .string a0_23] : List Value) Try.underlying48 ?_) | ((with_reducible refine gate_store (t := 48) (p := 2) rfl ?_); refine sd BKB 0 ([.bool t291, v1a, .int .i64 t295, v3a, .int .i64 t299, .string t300, v6a, .int .i64 t304, .int .i64 t305, v9a, .bool t309, .bool t310, v1b, .int .i64 t314, v3b, .int .i64 t318, .string t319, v6b, .int .i64 t323, .int .i64 t324, v9b, .bool t328, .string a0_22, .string a0_23] : List Value) #[.bool t291, v1a, .int .i64 t295, v3a, .int .i64 t299, .string t300, v6a, .int .i64 t304, .int .i64 t305, v9a, .bool t309, .bool t310, v1b, .int .i64 t314, v3b, .int .i64 t318, .string t319, v6b, .int .i64 t323, .int .i64 t324, v9b, .bool t328, .string a0_22, .string a0_23] ?_ ?h1; (case h1 => obtain ⟨q1, q3, q6, q9⟩ := VA.out; obtain ⟨z1, z3, z6, z9⟩ := VB.out; intro u hu; simp only [List.mem_cons, List.not_mem_nil, or_false] at hu; rcases hu with rfl | rfl | rfl | rfl | rfl | rfl | rfl | rfl | rfl | rfl | rfl | rfl | rfl | rfl | rfl | rfl | rfl | rfl | rfl | rfl | rfl | rfl | rfl | rfl <;> first | rfl | assumption); intro w11 bkb hk hlow; replace O1a := Aside0.mk (Kd.R_mono (Kd.R_keep (ztR (Kd.R_types (Kd.R_types O1a.out BKC.out (by decide)) BKB.out (by decide))) hk (fun _ h => h.2)) (fun _ h => h.1.1)); replace O3a := Aside0.mk (Kd.R_mono (Kd.R_keep (ztR (Kd.R_types (Kd.R_types O3a.out BKC.out (by decide)) BKB.out (by decide))) hk (fun _ h => h.2)) (fun _ h => h.1.1)); replace O6a := Aside0.mk (Kd.S_mono (Kd.S_keep (ztS (Kd.S_types (Kd.S_types O6a.out BKC.out (by decide)) BKB.out (by decide))) hk (fun _ h => h.2)) (fun _ h => h.1.1)); replace O9a := Aside0.mk (Kd.R_mono (Kd.R_keep (ztR (Kd.R_types (Kd.R_types O9a.out BKC.out (by decide)) BKB.out (by decide))) hk (fun _ h => h.2)) (fun _ h => h.1.1)); replace O1b := Aside0.mk (Kd.R_mono (Kd.R_keep (ztR (Kd.R_types (Kd.R_types O1b.out BKC.out (by decide)) BKB.out (by decide))) hk (fun _ h => h.2)) (fun _ h => h.1.1)); replace O3b := Aside0.mk (Kd.R_mono (Kd.R_keep (ztR (Kd.R_types (Kd.R_types O3b.out BKC.out (by decide)) BKB.out (by decide))) hk (fun _ h => h.2)) (fun _ h => h.1.1)); replace O6b := Aside0.mk (Kd.S_mono (Kd.S_keep (ztS (Kd.S_types (Kd.S_types O6b.out BKC.out (by decide)) BKB.out (by decide))) hk (fun _ h => h.2)) (fun _ h => h.1.1)); replace O9b := Aside0.mk (Kd.R_mono (Kd.R_keep (ztR (Kd.R_types (Kd.R_types O9b.out BKC.out (by decide)) BKB.out (by decide))) hk (fun _ h => h.2)) (fun _ h => h.1.1)); replace HB := Aside0.mk (hlow _ _ (zb HB) GWB.out); clear hk hlow))
 refine bodyPost_ret (results_cell_row rfl _ _ gB 48 #[.bool t291, v1a, .int .i64 t295, v3a, .int .i64 t299, .string t300, v6a, .int .i64 t304, .int .i64 t305, v9a, .bool t309, .bool t310, v1b, .int .i64 t314, v3b, .int .i64 t318, .string t319, v6b, .int .i64 t323, .int .i64 t324, v9b, .bool t328, .string a0_22, .string a0_23] (0, 0) _ rfl bkb.out Try.underlying48 rfl (by kernel_rfl)) rfl ?_
 exact ⟨_, _, _, _, _, _, _, _, ze, WB.of O1a.out O3a.out O6a.out O9a.out O1b.out O3b.out O6b.out O9b.out, HB.out⟩

end Go.Proofs.Ytlpibelofcabhaa.PFnExactWorldFrames
