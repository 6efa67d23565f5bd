-- WRITTEN BY a turned print (wip/tools of the prover's repo)
import Derived.Test.YtlpibelofcabhaaPFnExactEndLeavex0
import Derived.Test.YtlpibelofcabhaaPFnExactEndLeavex3
import Derived.Test.YtlpibelofcabhaaPFnExactEndLeavex4
namespace Go.Proofs.Ytlpibelofcabhaa.PFnExactEndLeave
open Go.RowKit Go.Proofs.YtlpibelofcabhaaW.PrintWords Go.Proofs.YtlpibelofcabhaaW.PrintLast Go.Proofs.YtlpibelofcabhaaW.PrintMore Go.Proofs.Ytlpibelofcabhaa.Lm
attribute [local go_sem] max2_int min2_int max_two min_two max_three min_three max_four min_four   -- for this text's walks alone
set_option linter.unusedVariables false
set_option linter.unusedSimpArgs false

/-! ### laws_heldEnd: function 24 -/
-- thin
def laws_heldEnd.f (k : Nat) (a0_0 : Bool) (l0_1 : List (S88)) (a0_2 : Int) (l0_3 : List (S88)) (a0_4 : Int) (a0_5 : ByteArray) (l0_6 : List (S104)) (a0_7 : Int) (a0_8 : Int) (l0_9 : List (S110)) (a0_10 : Bool) (a1 : Int) : Option (Int) := (laws_heldTable.f k l0_1 a0_2 a1).bind fun t176 => (if t176 < 0 then (some (-1)) else ((laws_heldTable.f k l0_3 a0_4 t176).bind fun t177 => (if t177 < 0 then (some (-1)) else ((laws_heldStreamS.f k l0_6 t177).bind fun t178 => (if t178 < 0 then (some (-1)) else ((laws_heldFrameS.f k l0_9 t178).bind fun t179 => (if t179 < 0 then (some (-1)) else (some t179))))))))
theorem laws_heldEnd.mono : ∀ a0 a1 a2 a3 a4 a5 a6 a7 a8 a9 a10 a11 k, LeO (laws_heldEnd.f k a0 a1 a2 a3 a4 a5 a6 a7 a8 a9 a10 a11) (laws_heldEnd.f (k + 1) a0 a1 a2 a3 a4 a5 a6 a7 a8 a9 a10 a11) := by
 intro a0 a1 a2 a3 a4 a5 a6 a7 a8 a9 a10 a11 k
 unfold laws_heldEnd.f
 have m0 := @laws_heldFrameS.mono
 have m1 := @laws_heldStreamS.mono
 have m2 := @laws_heldTable.mono
 exact zm
set_option maxHeartbeats 8000000 in
set_option maxRecDepth 100000 in
theorem laws_heldEnd.calls (k : Nat) (a0_0 : Bool) (A0_1 : Option Addr) (c0_1 : Nat) (l0_1 : List (S88)) (a0_2 : Int) (A0_3 : Option Addr) (c0_3 : Nat) (l0_3 : List (S88)) (a0_4 : Int) (a0_5 : ByteArray) (A0_6 : Option Addr) (c0_6 : Nat) (l0_6 : List (S104)) (a0_7 : Int) (a0_8 : Int) (A0_9 : Option Addr) (c0_9 : Nat) (l0_9 : List (S110)) (a0_10 : Bool) (a1 : Int) (r : Int) (w : World) (hr0_1 : Kd.C k88 w A0_1 l0_1.length l0_1) (hc0_1 : l0_1.length ≤ c0_1) (hr0_3 : Kd.C k88 w A0_3 l0_3.length l0_3) (hc0_3 : l0_3.length ≤ c0_3) (hr0_6 : Kd.C k104 w A0_6 l0_6.length l0_6) (hc0_6 : l0_6.length ≤ c0_6) (hr0_9 : Kd.C k110 w A0_9 l0_9.length l0_9) (hc0_9 : l0_9.length ≤ c0_9) (h : laws_heldEnd.f k a0_0 l0_1 a0_2 l0_3 a0_4 a0_5 l0_6 a0_7 a0_8 l0_9 a0_10 a1 = some r) :
  Calls Try.prog 24 #[.agg #[.bool a0_0, .slice A0_1 l0_1.length c0_1, .int .i64 a0_2, .slice A0_3 l0_3.length c0_3, .int .i64 a0_4, .string a0_5, .slice A0_6 l0_6.length c0_6, .int .i64 a0_7, .int .i64 a0_8, .slice A0_9 l0_9.length c0_9, .bool a0_10], .int .i64 a1] w fun e w' => e = .returned (.int .i64 r) ∧ Below w.heap.size w w' := by
 have hu42 := Try.underlying42
 have hu25 := Try.underlying25
 have HR0_1 := Aside0.mk hr0_1
 have HC0_1 := Aside0.mk hc0_1
 clear hr0_1 hc0_1
 have HR0_3 := Aside0.mk hr0_3
 have HC0_3 := Aside0.mk hc0_3
 clear hr0_3 hc0_3
 have HR0_6 := Aside0.mk hr0_6
 have HC0_6 := Aside0.mk hc0_6
 clear hr0_6 hc0_6
 have HR0_9 := Aside0.mk hr0_9
 have HC0_9 := Aside0.mk hc0_9
 clear hr0_9 hc0_9
 have HB := Aside0.mk (Below.refl w.heap.size w)
 have H : ((laws_heldTable.f k l0_1 a0_2 a1).bind fun t176 => (if t176 < 0 then (some (-1)) else ((laws_heldTable.f k l0_3 a0_4 t176).bind fun t177 => (if t177 < 0 then (some (-1)) else ((laws_heldStreamS.f k l0_6 t177).bind fun t178 => (if t178 < 0 then (some (-1)) else ((laws_heldFrameS.f k l0_9 t178).bind fun t179 => (if t179 < 0 then (some (-1)) else (some t179))))))))) = some r := h
 clear h
 obtain ⟨t176, A3, H⟩ := ob H
 (try dsimp only at H)
 have HC4 := Aside0.mk H
 clear H
 go_enter Try.func24, Try.ntmps24
 go_upto_if 10 with (first | ((with_reducible refine gd 2 rfl ?_); refine bx (N := 2) (cs := #[.bool a0_0, .slice A0_1 l0_1.length c0_1, .int .i64 a0_2, .slice A0_3 l0_3.length c0_3, .int .i64 a0_4, .string a0_5, .slice A0_6 l0_6.length c0_6, .int .i64 a0_7, .int .i64 a0_8, .slice A0_9 l0_9.length c0_9, .bool a0_10]) (t := 42) ?_; intro gb175 hg w5 hbox hb; have BK175 := Aside0.mk (hbox); have GW175 := gw HB hg; have GE175 := GW175; replace HB := Aside0.mk (below_step (zb HB) hb); clear hb hbox hg; obtain ⟨hcz6_0, hcz6_1, hcz6_2, hcz6_3, hcz6_4, hcz6_5, hcz6_6, hcz6_7, hcz6_8, hcz6_9, hcz6_10, hfz6_0, hfz6_1, hfz6_2, hfz6_3, hfz6_4, hfz6_5, hfz6_6, hfz6_7, hfz6_8, hfz6_9, hfz6_10⟩ := c11 BK175) | ((with_reducible refine gq 72 rfl ?_); refine gl (some 8) Try.func72 #[.agg #[.slice A0_1 l0_1.length c0_1, .int .i64 a0_2], .int .i64 a1] ?_; (with_reducible refine (laws_heldTable.calls k _ _ l0_1 a0_2 a1 t176 _ ?side1 ?side2 A3.out).mono ?_); (case side1 => exact zc (Kd.C_below HR0_1.out HB.out)); (case side2 => exact HC0_1.out); rintro e w7 ⟨rfl, hb⟩; refine ⟨_, rfl, ?_⟩; replace BK175 := kb BK175 hb; replace HB := Aside0.mk (below_step (zb HB) hb); (try clear hb)))
 (try simp only [Act.put, s1, s2, s3])
 have H := HC4.out
 clear HC4
 replace H := sp H
 rcases H with ⟨c8, H⟩ | ⟨c8, H⟩
 ·skip
  have c8b0 := decide_eq_true c8
  clear c8
  (first | rw [c8b0] | rw [c8b1] | rw [c8b2] | (simp only [i64_w, i32_w]; rw [c8b0]) | skip)
  obtain rfl := Option.some.inj H
  go_wp2
  go_ret
  exact ⟨ze, zb HB⟩
 ·skip
  have c8b0 := decide_eq_false c8
  clear c8
  (first | rw [c8b0] | rw [c8b1] | rw [c8b2] | (simp only [i64_w, i32_w]; rw [c8b0]) | skip)
  obtain ⟨t177, A9, H⟩ := ob H
  (try dsimp only at H)
  replace H := sp H
  rcases H with ⟨c10, H⟩ | ⟨c10, H⟩
  ·skip
   have c10b0 := decide_eq_true c10
   clear c10
   obtain rfl := Option.some.inj H
   obtain ⟨hcz11_0, hcz11_1, hcz11_2, hcz11_3, hcz11_4, hcz11_5, hcz11_6, hcz11_7, hcz11_8, hcz11_9, hcz11_10, hfz11_0, hfz11_1, hfz11_2, hfz11_3, hfz11_4, hfz11_5, hfz11_6, hfz11_7, hfz11_8, hfz11_9, hfz11_10⟩ := c11 BK175
   go_wp2_with (first | ((with_reducible refine gq 72 rfl ?_); refine gl (some 14) Try.func72 #[.agg #[.slice A0_3 l0_3.length c0_3, .int .i64 a0_4], .int .i64 t176] ?_; (with_reducible refine (laws_heldTable.calls k _ _ l0_3 a0_4 t176 t177 _ ?side1 ?side2 A9.out).mono ?_); (case side1 => exact zc (Kd.C_below HR0_3.out HB.out)); (case side2 => exact HC0_3.out); rintro e w12 ⟨rfl, hb⟩; refine ⟨_, rfl, ?_⟩; replace BK175 := kb BK175 hb; replace HB := Aside0.mk (below_step (zb HB) hb); (try clear hb)))
   go_ret
   exact ⟨ze, zb HB⟩
  ·skip
   have c10b0 := decide_eq_false c10
   clear c10
   obtain ⟨t178, A13, H⟩ := ob H
   (try dsimp only at H)
   have HC14 := Aside0.mk H
   clear H
   obtain ⟨hcz15_0, hcz15_1, hcz15_2, hcz15_3, hcz15_4, hcz15_5, hcz15_6, hcz15_7, hcz15_8, hcz15_9, hcz15_10, hfz15_0, hfz15_1, hfz15_2, hfz15_3, hfz15_4, hfz15_5, hfz15_6, hfz15_7, hfz15_8, hfz15_9, hfz15_10⟩ := c11 BK175
   go_upto_if 22 with (first | ((with_reducible refine gq 72 rfl ?_); refine gl (some 14) Try.func72 #[.agg #[.slice A0_3 l0_3.length c0_3, .int .i64 a0_4], .int .i64 t176] ?_; (with_reducible refine (laws_heldTable.calls k _ _ l0_3 a0_4 t176 t177 _ ?side1 ?side2 A9.out).mono ?_); (case side1 => exact zc (Kd.C_below HR0_3.out HB.out)); (case side2 => exact HC0_3.out); rintro e w16 ⟨rfl, hb⟩; refine ⟨_, rfl, ?_⟩; replace BK175 := kb BK175 hb; replace HB := Aside0.mk (below_step (zb HB) hb); (try clear hb); obtain ⟨hcz17_0, hcz17_1, hcz17_2, hcz17_3, hcz17_4, hcz17_5, hcz17_6, hcz17_7, hcz17_8, hcz17_9, hcz17_10, hfz17_0, hfz17_1, hfz17_2, hfz17_3, hfz17_4, hfz17_5, hfz17_6, hfz17_7, hfz17_8, hfz17_9, hfz17_10⟩ := c11 BK175) | ((with_reducible refine gq 73 rfl ?_); refine gl (some 20) Try.func73 #[.slice A0_6 l0_6.length c0_6, .int .i64 t177] ?_; (with_reducible refine (laws_heldStreamS.calls k _ _ l0_6 t177 t178 _ ?side1 ?side2 A13.out).mono ?_); (case side1 => exact zc (Kd.C_below HR0_6.out HB.out)); (case side2 => exact HC0_6.out); rintro e w18 ⟨rfl, hb⟩; refine ⟨_, rfl, ?_⟩; replace BK175 := kb BK175 hb; replace HB := Aside0.mk (below_step (zb HB) hb); (try clear hb)))
   (try simp only [Act.put, s1, s2, s3])
   have H := HC14.out
   clear HC14
   replace H := sp H
   rcases H with ⟨c19, H⟩ | ⟨c19, H⟩
   ·skip
    have c19b0 := decide_eq_true c19
    clear c19
    (first | rw [c19b0] | rw [c19b1] | rw [c19b2] | (simp only [i64_w, i32_w]; rw [c19b0]) | skip)
    obtain rfl := Option.some.inj H
    go_wp2
    go_ret
    exact ⟨ze, zb HB⟩
   ·skip
    have c19b0 := decide_eq_false c19
    clear c19
    (first | rw [c19b0] | rw [c19b1] | rw [c19b2] | (simp only [i64_w, i32_w]; rw [c19b0]) | skip)
    obtain ⟨t179, A20, H⟩ := ob H
    (try dsimp only at H)
    replace H := sp H
    rcases H with ⟨c21, H⟩ | ⟨c21, H⟩
    ·skip
     have c21b0 := decide_eq_true c21
     clear c21
     obtain rfl := Option.some.inj H
     obtain ⟨hcz22_0, hcz22_1, hcz22_2, hcz22_3, hcz22_4, hcz22_5, hcz22_6, hcz22_7, hcz22_8, hcz22_9, hcz22_10, hfz22_0, hfz22_1, hfz22_2, hfz22_3, hfz22_4, hfz22_5, hfz22_6, hfz22_7, hfz22_8, hfz22_9, hfz22_10⟩ := c11 BK175
     go_wp2_with (first | ((with_reducible refine gq 46 rfl ?_); refine gl (some 26) Try.func46 #[.slice A0_9 l0_9.length c0_9, .int .i64 t178] ?_; (with_reducible refine (laws_heldFrameS.calls k _ _ l0_9 t178 t179 _ ?side1 ?side2 A20.out).mono ?_); (case side1 => exact zc (Kd.C_below HR0_9.out HB.out)); (case side2 => exact HC0_9.out); rintro e w23 ⟨rfl, hb⟩; refine ⟨_, rfl, ?_⟩; replace BK175 := kb BK175 hb; replace HB := Aside0.mk (below_step (zb HB) hb); (try clear hb)))
     go_ret
     exact ⟨ze, zb HB⟩
    ·skip
     have c21b0 := decide_eq_false c21
     clear c21
     obtain rfl := Option.some.inj H
     obtain ⟨hcz24_0, hcz24_1, hcz24_2, hcz24_3, hcz24_4, hcz24_5, hcz24_6, hcz24_7, hcz24_8, hcz24_9, hcz24_10, hfz24_0, hfz24_1, hfz24_2, hfz24_3, hfz24_4, hfz24_5, hfz24_6, hfz24_7, hfz24_8, hfz24_9, hfz24_10⟩ := c11 BK175
     go_wp2_with (first | ((with_reducible refine gq 46 rfl ?_); refine gl (some 26) Try.func46 #[.slice A0_9 l0_9.length c0_9, .int .i64 t178] ?_; (with_reducible refine (laws_heldFrameS.calls k _ _ l0_9 t178 t179 _ ?side1 ?side2 A20.out).mono ?_); (case side1 => exact zc (Kd.C_below HR0_9.out HB.out)); (case side2 => exact HC0_9.out); rintro e w25 ⟨rfl, hb⟩; refine ⟨_, rfl, ?_⟩; replace BK175 := kb BK175 hb; replace HB := Aside0.mk (below_step (zb HB) hb); (try clear hb)))
     go_ret
     exact ⟨ze, zb HB⟩

/-! ### laws_szField: function 156 -/
-- thin
def laws_szField.f (a0_0 : ByteArray) (a0_1 : ByteArray) (a0_2 : Bool) (a1 : Int) : Option (Int) := if (wrap64 (a1 - (a0_0.size : Int))) < 0 then (some (-1)) else (if (wrap64 ((wrap64 (a1 - (a0_0.size : Int))) - (a0_1.size : Int))) < 0 then (some (-1)) else (some (wrap64 ((wrap64 (a1 - (a0_0.size : Int))) - (a0_1.size : Int)))))
set_option maxHeartbeats 8000000 in
set_option maxRecDepth 100000 in
theorem laws_szField.calls (a0_0 : ByteArray) (a0_1 : ByteArray) (a0_2 : Bool) (a1 : Int) (r : Int) (w : World) (h : laws_szField.f a0_0 a0_1 a0_2 a1 = some r) :
  Calls Try.prog 156 #[.agg #[.string a0_0, .string a0_1, .bool a0_2], .int .i64 a1] w fun e w' => e = .returned (.int .i64 r) ∧ Below w.heap.size w w' := by
 have hu192 := Try.underlying192
 have HB := Aside0.mk (Below.refl w.heap.size w)
 have H : (if (wrap64 (a1 - (a0_0.size : Int))) < 0 then (some (-1)) else (if (wrap64 ((wrap64 (a1 - (a0_0.size : Int))) - (a0_1.size : Int))) < 0 then (some (-1)) else (some (wrap64 ((wrap64 (a1 - (a0_0.size : Int))) - (a0_1.size : Int)))))) = some r := h
 clear h
 replace H := sp H
 rcases H with ⟨c3, H⟩ | ⟨c3, H⟩
 ·skip
  have c3b0 := decide_eq_true c3
  clear c3
  obtain rfl := Option.some.inj H
  go_enter Try.func156, Try.ntmps156
  go_wp2_with (first | ((with_reducible refine gd 2 rfl ?_); refine bx (N := 2) (cs := #[.string a0_0, .string a0_1, .bool a0_2]) (t := 192) ?_; intro gb180 hg w4 hbox hb; have BK180 := Aside0.mk (hbox); have GW180 := gw HB hg; have GE180 := GW180; replace HB := Aside0.mk (below_step (zb HB) hb); clear hb hbox hg; obtain ⟨hcz5_0, hcz5_1, hcz5_2, hfz5_0, hfz5_1, hfz5_2⟩ := c3 BK180))
  go_ret
  exact ⟨ze, zb HB⟩
 ·skip
  have c3b0 := decide_eq_false c3
  clear c3
  replace H := sp H
  rcases H with ⟨c6, H⟩ | ⟨c6, H⟩
  ·skip
   have c6b0 := decide_eq_true c6
   clear c6
   obtain rfl := Option.some.inj H
   go_enter Try.func156, Try.ntmps156
   go_wp2_with (first | ((with_reducible refine gd 2 rfl ?_); refine bx (N := 2) (cs := #[.string a0_0, .string a0_1, .bool a0_2]) (t := 192) ?_; intro gb180 hg w7 hbox hb; have BK180 := Aside0.mk (hbox); have GW180 := gw HB hg; have GE180 := GW180; replace HB := Aside0.mk (below_step (zb HB) hb); clear hb hbox hg; obtain ⟨hcz8_0, hcz8_1, hcz8_2, hfz8_0, hfz8_1, hfz8_2⟩ := c3 BK180))
   go_ret
   exact ⟨ze, zb HB⟩
  ·skip
   have c6b0 := decide_eq_false c6
   clear c6
   obtain rfl := Option.some.inj H
   go_enter Try.func156, Try.ntmps156
   go_wp2_with (first | ((with_reducible refine gd 2 rfl ?_); refine bx (N := 2) (cs := #[.string a0_0, .string a0_1, .bool a0_2]) (t := 192) ?_; intro gb180 hg w9 hbox hb; have BK180 := Aside0.mk (hbox); have GW180 := gw HB hg; have GE180 := GW180; replace HB := Aside0.mk (below_step (zb HB) hb); clear hb hbox hg; obtain ⟨hcz10_0, hcz10_1, hcz10_2, hfz10_0, hfz10_1, hfz10_2⟩ := c3 BK180))
   go_ret
   exact ⟨ze, zb HB⟩

/-! ### laws_szFieldS: function 130 -/
-- thin
def laws_szFieldS.l0 : Nat → List (S192) → Int → Int → Option (Int)
 | 0, _, _, _ => none
 | k + 1, x0, x1, x5 => if x5 < (x0.length : Int) then (if 0 ≤ x5 then ((laws_szField.f ((rd_T192 x0 x5).f0) ((rd_T192 x0 x5).f1) ((rd_T192 x0 x5).f2) x1).bind fun t182 => (if t182 < 0 then (some (-1)) else (laws_szFieldS.l0 k x0 t182 (wrap64 (x5 + 1))))) else (none)) else (some x1)
def laws_szFieldS.f (k : Nat) (l0 : List (S192)) (a1 : Int) : Option (Int) := if (wrap64 (a1 - (l0.length : Int))) < 0 then (some (-1)) else (laws_szFieldS.l0 k l0 (wrap64 (a1 - (l0.length : Int))) 0)
theorem laws_szFieldS.mono_l : ∀ k, (∀ y0 y1 y2, LeO (laws_szFieldS.l0 k y0 y1 y2) (laws_szFieldS.l0 (k + 1) y0 y1 y2))
 | 0 => fun _ _ _ r h => by simp [laws_szFieldS.l0] at h
 | k + 1 => by
  have ih0 := laws_szFieldS.mono_l k
  ·intro y0 y1 y2
   unfold laws_szFieldS.l0
   exact zm
theorem laws_szFieldS.mono : ∀ a0 a1 k, LeO (laws_szFieldS.f k a0 a1) (laws_szFieldS.f (k + 1) a0 a1) := by
 intro a0 a1 k
 have ih0 := laws_szFieldS.mono_l k
 unfold laws_szFieldS.f
 exact zm
set_option maxHeartbeats 8000000 in
set_option maxRecDepth 100000 in
theorem laws_szFieldS.calls (k : Nat) (A0 : Option Addr) (c0 : Nat) (l0 : List (S192)) (a1 : Int) (r : Int) (w : World) (hr0 : Kd.C k192 w A0 l0.length l0) (hc0 : l0.length ≤ c0) (h : laws_szFieldS.f k l0 a1 = some r) :
  Calls Try.prog 130 #[.slice A0 l0.length c0, .int .i64 a1] w fun e w' => e = .returned (.int .i64 r) ∧ Below w.heap.size w w' := by
 have hu192 := Try.underlying192
 have HR0 := Aside0.mk hr0
 have HC0 := Aside0.mk hc0
 clear hr0 hc0
 have HB := Aside0.mk (Below.refl w.heap.size w)
 have H : (if (wrap64 (a1 - (l0.length : Int))) < 0 then (some (-1)) else (laws_szFieldS.l0 k l0 (wrap64 (a1 - (l0.length : Int))) 0)) = some r := h
 clear h
 replace H := sp H
 rcases H with ⟨c3, H⟩ | ⟨c3, H⟩
 ·skip
  have c3b0 := decide_eq_true c3
  clear c3
  obtain rfl := Option.some.inj H
  go_enter Try.func130, Try.ntmps130
  go_wp2
  go_ret
  exact ⟨ze, zb HB⟩
 ·skip
  have c3b0 := decide_eq_false c3
  clear c3
  have H' := Aside0.mk H
  clear H
  go_enter Try.func130, Try.ntmps130
  go_wp2
  go_loopg [1, 5] k (fun kq v1 v5 w' => ∃ (x1_1 : Int) (x5_1 : Int), v1 = .int .i64 x1_1 ∧ v5 = .int .i64 x5_1 ∧ Aside0 (laws_szFieldS.l0 kq l0 x1_1 x5_1 = some r) ∧ Aside0 (kq ≤ k) ∧ Aside0 (Below w.heap.size w w'))
  case atStart => exact ⟨(wrap64 (a1 - (l0.length : Int))), (0), zs, zs, H', ⟨Nat.le_refl _⟩, ⟨zb HB⟩⟩
  case round =>
   clear H'
   try clear c1
   try clear p2
   try clear c3
   try clear c3b0
   obtain ⟨x1_1, x5_1, rfl, rfl, HA, HK1, HB⟩ := hrel
   cases gk with
   | zero => exact absurd HA.out (by simp [laws_szFieldS.l0])
   | succ k1 =>
    have H := HA.out
    clear HA
    simp only [laws_szFieldS.l0] at H
    replace H := sp H
    rcases H with ⟨c4, H⟩ | ⟨c4, H⟩
    ·skip
     have c4b0 := decide_eq_true c4
     clear c4
     by_cases c5 : 0 ≤ x5_1
     ·rw [if_pos c5] at H
      have c5b0 := decide_eq_true c5
      clear c5
      obtain ⟨t182, A6, H⟩ := ob H
      (try dsimp only at H)
      have HC7 := Aside0.mk H
      clear H
      have p181 : 0 ≤ (x5_1 : Int) := of_decide_eq_true za
      have q181 : x5_1 < (l0.length : Int) := of_decide_eq_true za
      obtain ⟨ad181, e181, hx181_0, hx181_1, hx181_2⟩ := at_T192 HR0.out x5_1 p181 q181
      cases e181
      replace hx181_0 := cb0 hx181_0 HB
      replace hx181_1 := cb0 hx181_1 HB
      replace hx181_2 := cb0 hx181_2 HB
      replace p181 := eq_true p181
      replace q181 := eq_true q181
      go_upto_if 25 with (first | ((with_reducible refine gq 156 rfl ?_); refine gl (some 23) Try.func156 #[.agg #[.string ((rd_T192 l0 x5_1).f0), .string ((rd_T192 l0 x5_1).f1), .bool ((rd_T192 l0 x5_1).f2)], .int .i64 x1_1] ?_; (with_reducible refine (laws_szField.calls ((rd_T192 l0 x5_1).f0) ((rd_T192 l0 x5_1).f1) ((rd_T192 l0 x5_1).f2) x1_1 t182 _ A6.out).mono ?_); rintro e w8 ⟨rfl, hb⟩; refine ⟨_, rfl, ?_⟩; replace HB := Aside0.mk (below_step (zb HB) hb); (try clear hb)))
      (try simp only [Act.put, s1, s2, s3])
      have H := HC7.out
      clear HC7
      by_cases c9 : t182 < 0
      ·rw [if_pos c9] at H
       have c9b0 := decide_eq_true c9
       clear c9
       (first | rw [c9b0] | rw [c9b1] | rw [c9b2] | (simp only [i64_w, i32_w]; rw [c9b0]) | skip)
       obtain rfl := Option.some.inj H
       go_wp2
       go_ret
       exact ⟨ze, zb HB⟩
      ·rw [if_neg c9] at H
       have c9b0 := decide_eq_false c9
       clear c9
       (first | rw [c9b0] | rw [c9b1] | rw [c9b2] | (simp only [i64_w, i32_w]; rw [c9b0]) | skip)
       have H' := Aside0.mk H
       clear H
       go_wp2
       go_roundg k1
       case measure => have := HK1.out; omega
       case rel => exact ⟨(t182), (wrap64 (x5_1 + 1)), zs, zs, H', ⟨by have := HK1.out; omega⟩, ⟨zb HB⟩⟩
     ·rw [if_neg c5] at H
      exact absurd H (by simp)
    ·skip
     have c4b0 := decide_eq_false c4
     clear c4
     obtain rfl := Option.some.inj H
     go_wp2
     go_ret
     exact ⟨ze, zb HB⟩

/-! ### laws_szTable: function 89 -/
-- thin
def laws_szTable.f (k : Nat) (l0_0 : List (S192)) (a0_1 : Int) (a1 : Int) : Option (Int) := (laws_szFieldS.f k l0_0 a1).bind fun t184 => (if t184 < 0 then (some (-1)) else (some t184))
theorem laws_szTable.mono : ∀ a0 a1 a2 k, LeO (laws_szTable.f k a0 a1 a2) (laws_szTable.f (k + 1) a0 a1 a2) := by
 intro a0 a1 a2 k
 unfold laws_szTable.f
 have m0 := @laws_szFieldS.mono
 exact zm
set_option maxHeartbeats 8000000 in
set_option maxRecDepth 100000 in
theorem laws_szTable.calls (k : Nat) (A0_0 : Option Addr) (c0_0 : Nat) (l0_0 : List (S192)) (a0_1 : Int) (a1 : Int) (r : Int) (w : World) (hr0_0 : Kd.C k192 w A0_0 l0_0.length l0_0) (hc0_0 : l0_0.length ≤ c0_0) (h : laws_szTable.f k l0_0 a0_1 a1 = some r) :
  Calls Try.prog 89 #[.agg #[.slice A0_0 l0_0.length c0_0, .int .i64 a0_1], .int .i64 a1] w fun e w' => e = .returned (.int .i64 r) ∧ Below w.heap.size w w' := by
 have hu59 := Try.underlying59
 have HR0_0 := Aside0.mk hr0_0
 have HC0_0 := Aside0.mk hc0_0
 clear hr0_0 hc0_0
 have HB := Aside0.mk (Below.refl w.heap.size w)
 have H : ((laws_szFieldS.f k l0_0 a1).bind fun t184 => (if t184 < 0 then (some (-1)) else (some t184))) = some r := h
 clear h
 obtain ⟨t184, A3, H⟩ := ob H
 (try dsimp only at H)
 have HC4 := Aside0.mk H
 clear H
 go_enter Try.func89, Try.ntmps89
 go_upto_if 10 with (first | ((with_reducible refine gd 2 rfl ?_); refine bx (N := 2) (cs := #[.slice A0_0 l0_0.length c0_0, .int .i64 a0_1]) (t := 59) ?_; intro gb183 hg w5 hbox hb; have BK183 := Aside0.mk (hbox); have GW183 := gw HB hg; have GE183 := GW183; replace HB := Aside0.mk (below_step (zb HB) hb); clear hb hbox hg; obtain ⟨hcz6_0, hcz6_1, hfz6_0, hfz6_1⟩ := c2 BK183) | ((with_reducible refine gq 130 rfl ?_); refine gl (some 8) Try.func130 #[.slice A0_0 l0_0.length c0_0, .int .i64 a1] ?_; (with_reducible refine (laws_szFieldS.calls k _ _ l0_0 a1 t184 _ ?side1 ?side2 A3.out).mono ?_); (case side1 => exact zc (Kd.C_below HR0_0.out HB.out)); (case side2 => exact HC0_0.out); rintro e w7 ⟨rfl, hb⟩; refine ⟨_, rfl, ?_⟩; replace BK183 := kb BK183 hb; replace HB := Aside0.mk (below_step (zb HB) hb); (try clear hb)))
 (try simp only [Act.put, s1, s2, s3])
 have H := HC4.out
 clear HC4
 replace H := sp H
 rcases H with ⟨c8, H⟩ | ⟨c8, H⟩
 ·skip
  have c8b0 := decide_eq_true c8
  clear c8
  (first | rw [c8b0] | rw [c8b1] | rw [c8b2] | (simp only [i64_w, i32_w]; rw [c8b0]) | skip)
  obtain rfl := Option.some.inj H
  go_wp2
  go_ret
  exact ⟨ze, zb HB⟩
 ·skip
  have c8b0 := decide_eq_false c8
  clear c8
  (first | rw [c8b0] | rw [c8b1] | rw [c8b2] | (simp only [i64_w, i32_w]; rw [c8b0]) | skip)
  obtain rfl := Option.some.inj H
  go_wp2
  go_ret
  exact ⟨ze, zb HB⟩

/-! ### laws_szStream: function 131 -/
-- thin
def laws_szStream.f (k : Nat) (a0_0 : Int) (a0_1 : Int) (l0_2 : List (S192)) (a0_3 : ByteArray) (a0_4 : Bool) (a0_5 : Bool) (a0_6 : Int) (l0_7 : List (S192)) (a0_8 : ByteArray) (a0_9 : Bool) (a0_10 : Int) (a0_11 : Int) (a1 : Int) : Option (Int) := (laws_szFieldS.f k l0_2 a1).bind fun t186 => (if t186 < 0 then (some (-1)) else (if (wrap64 (t186 - (a0_3.size : Int))) < 0 then (some (-1)) else ((laws_szFieldS.f k l0_7 (wrap64 (t186 - (a0_3.size : Int)))).bind fun t187 => (if t187 < 0 then (some (-1)) else (if (wrap64 (t187 - (a0_8.size : Int))) < 0 then (some (-1)) else (some (wrap64 (t187 - (a0_8.size : Int)))))))))
theorem laws_szStream.mono : ∀ a0 a1 a2 a3 a4 a5 a6 a7 a8 a9 a10 a11 a12 k, LeO (laws_szStream.f k a0 a1 a2 a3 a4 a5 a6 a7 a8 a9 a10 a11 a12) (laws_szStream.f (k + 1) a0 a1 a2 a3 a4 a5 a6 a7 a8 a9 a10 a11 a12) := by
 intro a0 a1 a2 a3 a4 a5 a6 a7 a8 a9 a10 a11 a12 k
 unfold laws_szStream.f
 have m0 := @laws_szFieldS.mono
 exact zm
set_option maxHeartbeats 8000000 in
set_option maxRecDepth 100000 in
theorem laws_szStream.calls (k : Nat) (a0_0 : Int) (a0_1 : Int) (A0_2 : Option Addr) (c0_2 : Nat) (l0_2 : List (S192)) (a0_3 : ByteArray) (a0_4 : Bool) (a0_5 : Bool) (a0_6 : Int) (A0_7 : Option Addr) (c0_7 : Nat) (l0_7 : List (S192)) (a0_8 : ByteArray) (a0_9 : Bool) (a0_10 : Int) (a0_11 : Int) (a1 : Int) (r : Int) (w : World) (hr0_2 : Kd.C k192 w A0_2 l0_2.length l0_2) (hc0_2 : l0_2.length ≤ c0_2) (hr0_7 : Kd.C k192 w A0_7 l0_7.length l0_7) (hc0_7 : l0_7.length ≤ c0_7) (h : laws_szStream.f k a0_0 a0_1 l0_2 a0_3 a0_4 a0_5 a0_6 l0_7 a0_8 a0_9 a0_10 a0_11 a1 = some r) :
  Calls Try.prog 131 #[.agg #[.int .i64 a0_0, .int .i64 a0_1, .slice A0_2 l0_2.length c0_2, .string a0_3, .bool a0_4, .bool a0_5, .int .i64 a0_6, .slice A0_7 l0_7.length c0_7, .string a0_8, .bool a0_9, .int .i64 a0_10, .int .i64 a0_11], .int .i64 a1] w fun e w' => e = .returned (.int .i64 r) ∧ Below w.heap.size w w' := by
 have hu167 := Try.underlying167
 have HR0_2 := Aside0.mk hr0_2
 have HC0_2 := Aside0.mk hc0_2
 clear hr0_2 hc0_2
 have HR0_7 := Aside0.mk hr0_7
 have HC0_7 := Aside0.mk hc0_7
 clear hr0_7 hc0_7
 have HB := Aside0.mk (Below.refl w.heap.size w)
 have H : ((laws_szFieldS.f k l0_2 a1).bind fun t186 => (if t186 < 0 then (some (-1)) else (if (wrap64 (t186 - (a0_3.size : Int))) < 0 then (some (-1)) else ((laws_szFieldS.f k l0_7 (wrap64 (t186 - (a0_3.size : Int)))).bind fun t187 => (if t187 < 0 then (some (-1)) else (if (wrap64 (t187 - (a0_8.size : Int))) < 0 then (some (-1)) else (some (wrap64 (t187 - (a0_8.size : Int)))))))))) = some r := h
 clear h
 obtain ⟨t186, A3, H⟩ := ob H
 (try dsimp only at H)
 have HC4 := Aside0.mk H
 clear H
 go_enter Try.func131, Try.ntmps131
 go_upto_if 10 with (first | ((with_reducible refine gd 2 rfl ?_); refine bx (N := 2) (cs := #[.int .i64 a0_0, .int .i64 a0_1, .slice A0_2 l0_2.length c0_2, .string a0_3, .bool a0_4, .bool a0_5, .int .i64 a0_6, .slice A0_7 l0_7.length c0_7, .string a0_8, .bool a0_9, .int .i64 a0_10, .int .i64 a0_11]) (t := 167) ?_; intro gb185 hg w5 hbox hb; have BK185 := Aside0.mk (hbox); have GW185 := gw HB hg; have GE185 := GW185; replace HB := Aside0.mk (below_step (zb HB) hb); clear hb hbox hg; obtain ⟨hcz6_0, hcz6_1, hcz6_2, hcz6_3, hcz6_4, hcz6_5, hcz6_6, hcz6_7, hcz6_8, hcz6_9, hcz6_10, hcz6_11, hfz6_0, hfz6_1, hfz6_2, hfz6_3, hfz6_4, hfz6_5, hfz6_6, hfz6_7, hfz6_8, hfz6_9, hfz6_10, hfz6_11⟩ := c12 BK185) | ((with_reducible refine gq 130 rfl ?_); refine gl (some 8) Try.func130 #[.slice A0_2 l0_2.length c0_2, .int .i64 a1] ?_; (with_reducible refine (laws_szFieldS.calls k _ _ l0_2 a1 t186 _ ?side1 ?side2 A3.out).mono ?_); (case side1 => exact zc (Kd.C_below HR0_2.out HB.out)); (case side2 => exact HC0_2.out); rintro e w7 ⟨rfl, hb⟩; refine ⟨_, rfl, ?_⟩; replace BK185 := kb BK185 hb; replace HB := Aside0.mk (below_step (zb HB) hb); (try clear hb)))
 (try simp only [Act.put, s1, s2, s3])
 have H := HC4.out
 clear HC4
 replace H := sp H
 rcases H with ⟨c8, H⟩ | ⟨c8, H⟩
 ·skip
  have c8b0 := decide_eq_true c8
  clear c8
  (first | rw [c8b0] | rw [c8b1] | rw [c8b2] | (simp only [i64_w, i32_w]; rw [c8b0]) | skip)
  obtain rfl := Option.some.inj H
  go_wp2
  go_ret
  exact ⟨ze, zb HB⟩
 ·skip
  have c8b0 := decide_eq_false c8
  clear c8
  (first | rw [c8b0] | rw [c8b1] | rw [c8b2] | (simp only [i64_w, i32_w]; rw [c8b0]) | skip)
  replace H := sp H
  rcases H with ⟨c9, H⟩ | ⟨c9, H⟩
  ·skip
   have c9b0 := decide_eq_true c9
   clear c9
   obtain rfl := Option.some.inj H
   obtain ⟨hcz10_0, hcz10_1, hcz10_2, hcz10_3, hcz10_4, hcz10_5, hcz10_6, hcz10_7, hcz10_8, hcz10_9, hcz10_10, hcz10_11, hfz10_0, hfz10_1, hfz10_2, hfz10_3, hfz10_4, hfz10_5, hfz10_6, hfz10_7, hfz10_8, hfz10_9, hfz10_10, hfz10_11⟩ := c12 BK185
   go_wp2
   go_ret
   exact ⟨ze, zb HB⟩
  ·skip
   have c9b0 := decide_eq_false c9
   clear c9
   obtain ⟨t187, A11, H⟩ := ob H
   (try dsimp only at H)
   replace H := sp H
   rcases H with ⟨c12, H⟩ | ⟨c12, H⟩
   ·skip
    have c12b0 := decide_eq_true c12
    clear c12
    obtain rfl := Option.some.inj H
    obtain ⟨hcz13_0, hcz13_1, hcz13_2, hcz13_3, hcz13_4, hcz13_5, hcz13_6, hcz13_7, hcz13_8, hcz13_9, hcz13_10, hcz13_11, hfz13_0, hfz13_1, hfz13_2, hfz13_3, hfz13_4, hfz13_5, hfz13_6, hfz13_7, hfz13_8, hfz13_9, hfz13_10, hfz13_11⟩ := c12 BK185
    go_wp2_with (first | ((with_reducible refine gq 130 rfl ?_); refine gl (some 21) Try.func130 #[.slice A0_7 l0_7.length c0_7, .int .i64 (wrap64 (t186 - (a0_3.size : Int)))] ?_; (with_reducible refine (laws_szFieldS.calls k _ _ l0_7 (wrap64 (t186 - (a0_3.size : Int))) t187 _ ?side1 ?side2 A11.out).mono ?_); (case side1 => exact zc (Kd.C_below HR0_7.out HB.out)); (case side2 => exact HC0_7.out); rintro e w14 ⟨rfl, hb⟩; refine ⟨_, rfl, ?_⟩; replace BK185 := kb BK185 hb; replace HB := Aside0.mk (below_step (zb HB) hb); (try clear hb)))
    go_ret
    exact ⟨ze, zb HB⟩
   ·skip
    have c12b0 := decide_eq_false c12
    clear c12
    replace H := sp H
    rcases H with ⟨c15, H⟩ | ⟨c15, H⟩
    ·skip
     have c15b0 := decide_eq_true c15
     clear c15
     obtain rfl := Option.some.inj H
     obtain ⟨hcz16_0, hcz16_1, hcz16_2, hcz16_3, hcz16_4, hcz16_5, hcz16_6, hcz16_7, hcz16_8, hcz16_9, hcz16_10, hcz16_11, hfz16_0, hfz16_1, hfz16_2, hfz16_3, hfz16_4, hfz16_5, hfz16_6, hfz16_7, hfz16_8, hfz16_9, hfz16_10, hfz16_11⟩ := c12 BK185
     go_wp2_with (first | ((with_reducible refine gq 130 rfl ?_); refine gl (some 21) Try.func130 #[.slice A0_7 l0_7.length c0_7, .int .i64 (wrap64 (t186 - (a0_3.size : Int)))] ?_; (with_reducible refine (laws_szFieldS.calls k _ _ l0_7 (wrap64 (t186 - (a0_3.size : Int))) t187 _ ?side1 ?side2 A11.out).mono ?_); (case side1 => exact zc (Kd.C_below HR0_7.out HB.out)); (case side2 => exact HC0_7.out); rintro e w17 ⟨rfl, hb⟩; refine ⟨_, rfl, ?_⟩; replace BK185 := kb BK185 hb; replace HB := Aside0.mk (below_step (zb HB) hb); (try clear hb); obtain ⟨hcz18_0, hcz18_1, hcz18_2, hcz18_3, hcz18_4, hcz18_5, hcz18_6, hcz18_7, hcz18_8, hcz18_9, hcz18_10, hcz18_11, hfz18_0, hfz18_1, hfz18_2, hfz18_3, hfz18_4, hfz18_5, hfz18_6, hfz18_7, hfz18_8, hfz18_9, hfz18_10, hfz18_11⟩ := c12 BK185))
     go_ret
     exact ⟨ze, zb HB⟩
    ·skip
     have c15b0 := decide_eq_false c15
     clear c15
     obtain rfl := Option.some.inj H
     obtain ⟨hcz19_0, hcz19_1, hcz19_2, hcz19_3, hcz19_4, hcz19_5, hcz19_6, hcz19_7, hcz19_8, hcz19_9, hcz19_10, hcz19_11, hfz19_0, hfz19_1, hfz19_2, hfz19_3, hfz19_4, hfz19_5, hfz19_6, hfz19_7, hfz19_8, hfz19_9, hfz19_10, hfz19_11⟩ := c12 BK185
     go_wp2_with (first | ((with_reducible refine gq 130 rfl ?_); refine gl (some 21) Try.func130 #[.slice A0_7 l0_7.length c0_7, .int .i64 (wrap64 (t186 - (a0_3.size : Int)))] ?_; (with_reducible refine (laws_szFieldS.calls k _ _ l0_7 (wrap64 (t186 - (a0_3.size : Int))) t187 _ ?side1 ?side2 A11.out).mono ?_); (case side1 => exact zc (Kd.C_below HR0_7.out HB.out)); (case side2 => exact HC0_7.out); rintro e w20 ⟨rfl, hb⟩; refine ⟨_, rfl, ?_⟩; replace BK185 := kb BK185 hb; replace HB := Aside0.mk (below_step (zb HB) hb); (try clear hb); obtain ⟨hcz21_0, hcz21_1, hcz21_2, hcz21_3, hcz21_4, hcz21_5, hcz21_6, hcz21_7, hcz21_8, hcz21_9, hcz21_10, hcz21_11, hfz21_0, hfz21_1, hfz21_2, hfz21_3, hfz21_4, hfz21_5, hfz21_6, hfz21_7, hfz21_8, hfz21_9, hfz21_10, hfz21_11⟩ := c12 BK185))
     go_ret
     exact ⟨ze, zb HB⟩

/-! ### laws_szStreamS: function 90 -/
-- thin
def laws_szStreamS.l0 : Nat → List (S167) → Int → Int → Option (Int)
 | 0, _, _, _ => none
 | k + 1, x0, x1, x5 => if x5 < (x0.length : Int) then (if 0 ≤ x5 then ((laws_szStream.f k ((rd_T167 x0 x5).f0) ((rd_T167 x0 x5).f1) ((rd_T167 x0 x5).f2) ((rd_T167 x0 x5).f3) ((rd_T167 x0 x5).f4) ((rd_T167 x0 x5).f5) ((rd_T167 x0 x5).f6) ((rd_T167 x0 x5).f7) ((rd_T167 x0 x5).f8) ((rd_T167 x0 x5).f9) ((rd_T167 x0 x5).f10.f0) ((rd_T167 x0 x5).f10.f1) x1).bind fun t189 => (if t189 < 0 then (some (-1)) else (laws_szStreamS.l0 k x0 t189 (wrap64 (x5 + 1))))) else (none)) else (some x1)
def laws_szStreamS.f (k : Nat) (l0 : List (S167)) (a1 : Int) : Option (Int) := if (wrap64 (a1 - (l0.length : Int))) < 0 then (some (-1)) else (laws_szStreamS.l0 k l0 (wrap64 (a1 - (l0.length : Int))) 0)
theorem laws_szStreamS.mono_l : ∀ k, (∀ y0 y1 y2, LeO (laws_szStreamS.l0 k y0 y1 y2) (laws_szStreamS.l0 (k + 1) y0 y1 y2))
 | 0 => fun _ _ _ r h => by simp [laws_szStreamS.l0] at h
 | k + 1 => by
  have ih0 := laws_szStreamS.mono_l k
  ·intro y0 y1 y2
   unfold laws_szStreamS.l0
   have m0 := @laws_szStream.mono
   exact zm
theorem laws_szStreamS.mono : ∀ a0 a1 k, LeO (laws_szStreamS.f k a0 a1) (laws_szStreamS.f (k + 1) a0 a1) := by
 intro a0 a1 k
 have ih0 := laws_szStreamS.mono_l k
 unfold laws_szStreamS.f
 have m0 := @laws_szStream.mono
 exact zm
set_option maxHeartbeats 8000000 in
set_option maxRecDepth 100000 in
theorem laws_szStreamS.calls (k : Nat) (A0 : Option Addr) (c0 : Nat) (l0 : List (S167)) (a1 : Int) (r : Int) (w : World) (hr0 : Kd.C k167 w A0 l0.length l0) (hc0 : l0.length ≤ c0) (h : laws_szStreamS.f k l0 a1 = some r) :
  Calls Try.prog 90 #[.slice A0 l0.length c0, .int .i64 a1] w fun e w' => e = .returned (.int .i64 r) ∧ Below w.heap.size w w' := by
 have hu167 := Try.underlying167
 have HR0 := Aside0.mk hr0
 have HC0 := Aside0.mk hc0
 clear hr0 hc0
 have HB := Aside0.mk (Below.refl w.heap.size w)
 have H : (if (wrap64 (a1 - (l0.length : Int))) < 0 then (some (-1)) else (laws_szStreamS.l0 k l0 (wrap64 (a1 - (l0.length : Int))) 0)) = some r := h
 clear h
 replace H := sp H
 rcases H with ⟨c3, H⟩ | ⟨c3, H⟩
 ·skip
  have c3b0 := decide_eq_true c3
  clear c3
  obtain rfl := Option.some.inj H
  go_enter Try.func90, Try.ntmps90
  go_wp2
  go_ret
  exact ⟨ze, zb HB⟩
 ·skip
  have c3b0 := decide_eq_false c3
  clear c3
  have H' := Aside0.mk H
  clear H
  go_enter Try.func90, Try.ntmps90
  go_wp2
  go_loopg [1, 5] k (fun kq v1 v5 w' => ∃ (x1_1 : Int) (x5_1 : Int), v1 = .int .i64 x1_1 ∧ v5 = .int .i64 x5_1 ∧ Aside0 (laws_szStreamS.l0 kq l0 x1_1 x5_1 = some r) ∧ Aside0 (kq ≤ k) ∧ Aside0 (Below w.heap.size w w'))
  case atStart => exact ⟨(wrap64 (a1 - (l0.length : Int))), (0), zs, zs, H', ⟨Nat.le_refl _⟩, ⟨zb HB⟩⟩
  case round =>
   clear H'
   try clear p2
   try clear c3
   try clear c3b0
   obtain ⟨x1_1, x5_1, rfl, rfl, HA, HK1, HB⟩ := hrel
   cases gk with
   | zero => exact absurd HA.out (by simp [laws_szStreamS.l0])
   | succ k1 =>
    have H := HA.out
    clear HA
    simp only [laws_szStreamS.l0] at H
    replace H := sp H
    rcases H with ⟨c4, H⟩ | ⟨c4, H⟩
    ·skip
     have c4b0 := decide_eq_true c4
     clear c4
     by_cases c5 : 0 ≤ x5_1
     ·rw [if_pos c5] at H
      have c5b0 := decide_eq_true c5
      clear c5
      obtain ⟨t189, A6, H⟩ := ob H
      (try dsimp only at H)
      have HC7 := Aside0.mk H
      clear H
      have p188 : 0 ≤ (x5_1 : Int) := of_decide_eq_true za
      have q188 : x5_1 < (l0.length : Int) := of_decide_eq_true za
      obtain ⟨ad188, A188_2, c188_2, A188_7, c188_7, e188, hx188_0, hx188_1, hx188_2, hx188_3, hx188_4, hx188_5, hx188_6, hx188_7, hx188_8, hx188_9, hx188_10, hx188_11, hl188_2, hi188_2, hl188_7, hi188_7⟩ := at_T167 HR0.out x5_1 p188 q188
      cases e188
      replace hx188_0 := cb0 hx188_0 HB
      replace hx188_1 := cb0 hx188_1 HB
      replace hx188_2 := cb0 hx188_2 HB
      replace hx188_3 := cb0 hx188_3 HB
      replace hx188_4 := cb0 hx188_4 HB
      replace hx188_5 := cb0 hx188_5 HB
      replace hx188_6 := cb0 hx188_6 HB
      replace hx188_7 := cb0 hx188_7 HB
      replace hx188_8 := cb0 hx188_8 HB
      replace hx188_9 := cb0 hx188_9 HB
      replace hx188_10 := cb0 hx188_10 HB
      replace hx188_11 := cb0 hx188_11 HB
      have HR188_2 := Aside0.mk hi188_2
      have HC188_2 := Aside0.mk hl188_2
      clear hi188_2 hl188_2
      have HR188_7 := Aside0.mk hi188_7
      have HC188_7 := Aside0.mk hl188_7
      clear hi188_7 hl188_7
      replace p188 := eq_true p188
      replace q188 := eq_true q188
      go_upto_if 25 with (first | ((with_reducible refine gq 131 rfl ?_); refine gl (some 23) Try.func131 #[.agg #[.int .i64 ((rd_T167 l0 x5_1).f0), .int .i64 ((rd_T167 l0 x5_1).f1), .slice A188_2 ((rd_T167 l0 x5_1).f2).length c188_2, .string ((rd_T167 l0 x5_1).f3), .bool ((rd_T167 l0 x5_1).f4), .bool ((rd_T167 l0 x5_1).f5), .int .i64 ((rd_T167 l0 x5_1).f6), .slice A188_7 ((rd_T167 l0 x5_1).f7).length c188_7, .string ((rd_T167 l0 x5_1).f8), .bool ((rd_T167 l0 x5_1).f9), .int .i64 ((rd_T167 l0 x5_1).f10.f0), .int .i64 ((rd_T167 l0 x5_1).f10.f1)], .int .i64 x1_1] ?_; (with_reducible refine (laws_szStream.calls k1 ((rd_T167 l0 x5_1).f0) ((rd_T167 l0 x5_1).f1) _ _ ((rd_T167 l0 x5_1).f2) ((rd_T167 l0 x5_1).f3) ((rd_T167 l0 x5_1).f4) ((rd_T167 l0 x5_1).f5) ((rd_T167 l0 x5_1).f6) _ _ ((rd_T167 l0 x5_1).f7) ((rd_T167 l0 x5_1).f8) ((rd_T167 l0 x5_1).f9) ((rd_T167 l0 x5_1).f10.f0) ((rd_T167 l0 x5_1).f10.f1) x1_1 t189 _ ?side1 ?side2 ?side3 ?side4 A6.out).mono ?_); (case side1 => exact zc (Kd.C_below HR188_2.out HB.out)); (case side2 => exact HC188_2.out); (case side3 => exact zc (Kd.C_below HR188_7.out HB.out)); (case side4 => exact HC188_7.out); rintro e w8 ⟨rfl, hb⟩; refine ⟨_, rfl, ?_⟩; replace HB := Aside0.mk (below_step (zb HB) hb); (try clear hb)))
      (try simp only [Act.put, s1, s2, s3])
      have H := HC7.out
      clear HC7
      by_cases c9 : t189 < 0
      ·rw [if_pos c9] at H
       have c9b0 := decide_eq_true c9
       clear c9
       (first | rw [c9b0] | rw [c9b1] | rw [c9b2] | (simp only [i64_w, i32_w]; rw [c9b0]) | skip)
       obtain rfl := Option.some.inj H
       go_wp2
       go_ret
       exact ⟨ze, zb HB⟩
      ·rw [if_neg c9] at H
       have c9b0 := decide_eq_false c9
       clear c9
       (first | rw [c9b0] | rw [c9b1] | rw [c9b2] | (simp only [i64_w, i32_w]; rw [c9b0]) | skip)
       have H' := Aside0.mk H
       clear H
       go_wp2
       go_roundg k1
       case measure => have := HK1.out; omega
       case rel => exact ⟨(t189), (wrap64 (x5_1 + 1)), zs, zs, H', ⟨by have := HK1.out; omega⟩, ⟨zb HB⟩⟩
     ·rw [if_neg c5] at H
      exact absurd H (by simp)
    ·skip
     have c4b0 := decide_eq_false c4
     clear c4
     obtain rfl := Option.some.inj H
     go_wp2
     go_ret
     exact ⟨ze, zb HB⟩

/-! ### laws_szFrame: function 132 -/
-- thin
def laws_szFrame.f (a0_0 : Int) (a0_1 : Bool) (a0_2 : Int) (a0_3 : ByteArray) (a1 : Int) : Option (Int) := if (wrap64 (a1 - (a0_3.size : Int))) < 0 then (some (-1)) else (some (wrap64 (a1 - (a0_3.size : Int))))
set_option maxHeartbeats 8000000 in
set_option maxRecDepth 100000 in
theorem laws_szFrame.calls (a0_0 : Int) (a0_1 : Bool) (a0_2 : Int) (a0_3 : ByteArray) (a1 : Int) (r : Int) (w : World) (h : laws_szFrame.f a0_0 a0_1 a0_2 a0_3 a1 = some r) :
  Calls Try.prog 132 #[.agg #[.int .i64 a0_0, .bool a0_1, .int .i64 a0_2, .string a0_3], .int .i64 a1] w fun e w' => e = .returned (.int .i64 r) ∧ Below w.heap.size w w' := by
 have hu169 := Try.underlying169
 have HB := Aside0.mk (Below.refl w.heap.size w)
 have H : (if (wrap64 (a1 - (a0_3.size : Int))) < 0 then (some (-1)) else (some (wrap64 (a1 - (a0_3.size : Int))))) = some r := h
 clear h
 replace H := sp H
 rcases H with ⟨c3, H⟩ | ⟨c3, H⟩
 ·skip
  have c3b0 := decide_eq_true c3
  clear c3
  obtain rfl := Option.some.inj H
  go_enter Try.func132, Try.ntmps132
  go_wp2_with (first | ((with_reducible refine gd 2 rfl ?_); refine bx (N := 2) (cs := #[.int .i64 a0_0, .bool a0_1, .int .i64 a0_2, .string a0_3]) (t := 169) ?_; intro gb190 hg w4 hbox hb; have BK190 := Aside0.mk (hbox); have GW190 := gw HB hg; have GE190 := GW190; replace HB := Aside0.mk (below_step (zb HB) hb); clear hb hbox hg; obtain ⟨hcz5_0, hcz5_1, hcz5_2, hcz5_3, hfz5_0, hfz5_1, hfz5_2, hfz5_3⟩ := c4 BK190))
  go_ret
  exact ⟨ze, zb HB⟩
 ·skip
  have c3b0 := decide_eq_false c3
  clear c3
  obtain rfl := Option.some.inj H
  go_enter Try.func132, Try.ntmps132
  go_wp2_with (first | ((with_reducible refine gd 2 rfl ?_); refine bx (N := 2) (cs := #[.int .i64 a0_0, .bool a0_1, .int .i64 a0_2, .string a0_3]) (t := 169) ?_; intro gb190 hg w6 hbox hb; have BK190 := Aside0.mk (hbox); have GW190 := gw HB hg; have GE190 := GW190; replace HB := Aside0.mk (below_step (zb HB) hb); clear hb hbox hg; obtain ⟨hcz7_0, hcz7_1, hcz7_2, hcz7_3, hfz7_0, hfz7_1, hfz7_2, hfz7_3⟩ := c4 BK190))
  go_ret
  exact ⟨ze, zb HB⟩

/-! ### laws_szFrameS: function 91 -/
-- thin
def laws_szFrameS.l0 : Nat → List (S169) → Int → Int → Option (Int)
 | 0, _, _, _ => none
 | k + 1, x0, x1, x5 => if x5 < (x0.length : Int) then (if 0 ≤ x5 then ((laws_szFrame.f ((rd_T169 x0 x5).f0) ((rd_T169 x0 x5).f1) ((rd_T169 x0 x5).f2) ((rd_T169 x0 x5).f3) x1).bind fun t192 => (if t192 < 0 then (some (-1)) else (laws_szFrameS.l0 k x0 t192 (wrap64 (x5 + 1))))) else (none)) else (some x1)
def laws_szFrameS.f (k : Nat) (l0 : List (S169)) (a1 : Int) : Option (Int) := if (wrap64 (a1 - (l0.length : Int))) < 0 then (some (-1)) else (laws_szFrameS.l0 k l0 (wrap64 (a1 - (l0.length : Int))) 0)
theorem laws_szFrameS.mono_l : ∀ k, (∀ y0 y1 y2, LeO (laws_szFrameS.l0 k y0 y1 y2) (laws_szFrameS.l0 (k + 1) y0 y1 y2))
 | 0 => fun _ _ _ r h => by simp [laws_szFrameS.l0] at h
 | k + 1 => by
  have ih0 := laws_szFrameS.mono_l k
  ·intro y0 y1 y2
   unfold laws_szFrameS.l0
   exact zm
theorem laws_szFrameS.mono : ∀ a0 a1 k, LeO (laws_szFrameS.f k a0 a1) (laws_szFrameS.f (k + 1) a0 a1) := by
 intro a0 a1 k
 have ih0 := laws_szFrameS.mono_l k
 unfold laws_szFrameS.f
 exact zm
set_option maxHeartbeats 8000000 in
set_option maxRecDepth 100000 in
theorem laws_szFrameS.calls (k : Nat) (A0 : Option Addr) (c0 : Nat) (l0 : List (S169)) (a1 : Int) (r : Int) (w : World) (hr0 : Kd.C k169 w A0 l0.length l0) (hc0 : l0.length ≤ c0) (h : laws_szFrameS.f k l0 a1 = some r) :
  Calls Try.prog 91 #[.slice A0 l0.length c0, .int .i64 a1] w fun e w' => e = .returned (.int .i64 r) ∧ Below w.heap.size w w' := by
 have hu169 := Try.underlying169
 have HR0 := Aside0.mk hr0
 have HC0 := Aside0.mk hc0
 clear hr0 hc0
 have HB := Aside0.mk (Below.refl w.heap.size w)
 have H : (if (wrap64 (a1 - (l0.length : Int))) < 0 then (some (-1)) else (laws_szFrameS.l0 k l0 (wrap64 (a1 - (l0.length : Int))) 0)) = some r := h
 clear h
 replace H := sp H
 rcases H with ⟨c3, H⟩ | ⟨c3, H⟩
 ·skip
  have c3b0 := decide_eq_true c3
  clear c3
  obtain rfl := Option.some.inj H
  go_enter Try.func91, Try.ntmps91
  go_wp2
  go_ret
  exact ⟨ze, zb HB⟩
 ·skip
  have c3b0 := decide_eq_false c3
  clear c3
  have H' := Aside0.mk H
  clear H
  go_enter Try.func91, Try.ntmps91
  go_wp2
  go_loopg [1, 5] k (fun kq v1 v5 w' => ∃ (x1_1 : Int) (x5_1 : Int), v1 = .int .i64 x1_1 ∧ v5 = .int .i64 x5_1 ∧ Aside0 (laws_szFrameS.l0 kq l0 x1_1 x5_1 = some r) ∧ Aside0 (kq ≤ k) ∧ Aside0 (Below w.heap.size w w'))
  case atStart => exact ⟨(wrap64 (a1 - (l0.length : Int))), (0), zs, zs, H', ⟨Nat.le_refl _⟩, ⟨zb HB⟩⟩
  case round =>
   clear H'
   try clear p2
   try clear c3
   try clear c3b0
   obtain ⟨x1_1, x5_1, rfl, rfl, HA, HK1, HB⟩ := hrel
   cases gk with
   | zero => exact absurd HA.out (by simp [laws_szFrameS.l0])
   | succ k1 =>
    have H := HA.out
    clear HA
    simp only [laws_szFrameS.l0] at H
    replace H := sp H
    rcases H with ⟨c4, H⟩ | ⟨c4, H⟩
    ·skip
     have c4b0 := decide_eq_true c4
     clear c4
     by_cases c5 : 0 ≤ x5_1
     ·rw [if_pos c5] at H
      have c5b0 := decide_eq_true c5
      clear c5
      obtain ⟨t192, A6, H⟩ := ob H
      (try dsimp only at H)
      have HC7 := Aside0.mk H
      clear H
      have p191 : 0 ≤ (x5_1 : Int) := of_decide_eq_true za
      have q191 : x5_1 < (l0.length : Int) := of_decide_eq_true za
      obtain ⟨ad191, e191, hx191_0, hx191_1, hx191_2, hx191_3⟩ := at_T169 HR0.out x5_1 p191 q191
      cases e191
      replace hx191_0 := cb0 hx191_0 HB
      replace hx191_1 := cb0 hx191_1 HB
      replace hx191_2 := cb0 hx191_2 HB
      replace hx191_3 := cb0 hx191_3 HB
      replace p191 := eq_true p191
      replace q191 := eq_true q191
      go_upto_if 25 with (first | ((with_reducible refine gq 132 rfl ?_); refine gl (some 23) Try.func132 #[.agg #[.int .i64 ((rd_T169 l0 x5_1).f0), .bool ((rd_T169 l0 x5_1).f1), .int .i64 ((rd_T169 l0 x5_1).f2), .string ((rd_T169 l0 x5_1).f3)], .int .i64 x1_1] ?_; (with_reducible refine (laws_szFrame.calls ((rd_T169 l0 x5_1).f0) ((rd_T169 l0 x5_1).f1) ((rd_T169 l0 x5_1).f2) ((rd_T169 l0 x5_1).f3) x1_1 t192 _ A6.out).mono ?_); rintro e w8 ⟨rfl, hb⟩; refine ⟨_, rfl, ?_⟩; replace HB := Aside0.mk (below_step (zb HB) hb); (try clear hb)))
      (try simp only [Act.put, s1, s2, s3])
      have H := HC7.out
      clear HC7
      by_cases c9 : t192 < 0
      ·rw [if_pos c9] at H
       have c9b0 := decide_eq_true c9
       clear c9
       (first | rw [c9b0] | rw [c9b1] | rw [c9b2] | (simp only [i64_w, i32_w]; rw [c9b0]) | skip)
       obtain rfl := Option.some.inj H
       go_wp2
       go_ret
       exact ⟨ze, zb HB⟩
      ·rw [if_neg c9] at H
       have c9b0 := decide_eq_false c9
       clear c9
       (first | rw [c9b0] | rw [c9b1] | rw [c9b2] | (simp only [i64_w, i32_w]; rw [c9b0]) | skip)
       have H' := Aside0.mk H
       clear H
       go_wp2
       go_roundg k1
       case measure => have := HK1.out; omega
       case rel => exact ⟨(t192), (wrap64 (x5_1 + 1)), zs, zs, H', ⟨by have := HK1.out; omega⟩, ⟨zb HB⟩⟩
     ·rw [if_neg c5] at H
      exact absurd H (by simp)
    ·skip
     have c4b0 := decide_eq_false c4
     clear c4
     obtain rfl := Option.some.inj H
     go_wp2
     go_ret
     exact ⟨ze, zb HB⟩

/-! ### laws_szEnd: function 35 -/
-- thin
def laws_szEnd.f (k : Nat) (a0_0 : Bool) (l0_1 : List (S192)) (a0_2 : Int) (l0_3 : List (S192)) (a0_4 : Int) (a0_5 : ByteArray) (l0_6 : List (S167)) (a0_7 : Int) (a0_8 : Int) (l0_9 : List (S169)) (a0_10 : Bool) (a1 : Int) : Option (Int) := (laws_szTable.f k l0_1 a0_2 a1).bind fun t194 => (if t194 < 0 then (some (-1)) else ((laws_szTable.f k l0_3 a0_4 t194).bind fun t195 => (if t195 < 0 then (some (-1)) else (if (wrap64 (t195 - (a0_5.size : Int))) < 0 then (some (-1)) else ((laws_szStreamS.f k l0_6 (wrap64 (t195 - (a0_5.size : Int)))).bind fun t196 => (if t196 < 0 then (some (-1)) else ((laws_szFrameS.f k l0_9 t196).bind fun t197 => (if t197 < 0 then (some (-1)) else (some t197)))))))))
theorem laws_szEnd.mono : ∀ a0 a1 a2 a3 a4 a5 a6 a7 a8 a9 a10 a11 k, LeO (laws_szEnd.f k a0 a1 a2 a3 a4 a5 a6 a7 a8 a9 a10 a11) (laws_szEnd.f (k + 1) a0 a1 a2 a3 a4 a5 a6 a7 a8 a9 a10 a11) := by
 intro a0 a1 a2 a3 a4 a5 a6 a7 a8 a9 a10 a11 k
 unfold laws_szEnd.f
 have m0 := @laws_szFrameS.mono
 have m1 := @laws_szStreamS.mono
 have m2 := @laws_szTable.mono
 exact zm
set_option maxHeartbeats 8000000 in
set_option maxRecDepth 100000 in
theorem laws_szEnd.calls (k : Nat) (a0_0 : Bool) (A0_1 : Option Addr) (c0_1 : Nat) (l0_1 : List (S192)) (a0_2 : Int) (A0_3 : Option Addr) (c0_3 : Nat) (l0_3 : List (S192)) (a0_4 : Int) (a0_5 : ByteArray) (A0_6 : Option Addr) (c0_6 : Nat) (l0_6 : List (S167)) (a0_7 : Int) (a0_8 : Int) (A0_9 : Option Addr) (c0_9 : Nat) (l0_9 : List (S169)) (a0_10 : Bool) (a1 : Int) (r : Int) (w : World) (hr0_1 : Kd.C k192 w A0_1 l0_1.length l0_1) (hc0_1 : l0_1.length ≤ c0_1) (hr0_3 : Kd.C k192 w A0_3 l0_3.length l0_3) (hc0_3 : l0_3.length ≤ c0_3) (hr0_6 : Kd.C k167 w A0_6 l0_6.length l0_6) (hc0_6 : l0_6.length ≤ c0_6) (hr0_9 : Kd.C k169 w A0_9 l0_9.length l0_9) (hc0_9 : l0_9.length ≤ c0_9) (h : laws_szEnd.f k a0_0 l0_1 a0_2 l0_3 a0_4 a0_5 l0_6 a0_7 a0_8 l0_9 a0_10 a1 = some r) :
  Calls Try.prog 35 #[.agg #[.bool a0_0, .slice A0_1 l0_1.length c0_1, .int .i64 a0_2, .slice A0_3 l0_3.length c0_3, .int .i64 a0_4, .string a0_5, .slice A0_6 l0_6.length c0_6, .int .i64 a0_7, .int .i64 a0_8, .slice A0_9 l0_9.length c0_9, .bool a0_10], .int .i64 a1] w fun e w' => e = .returned (.int .i64 r) ∧ Below w.heap.size w w' := by
 have hu64 := Try.underlying64
 have hu59 := Try.underlying59
 have HR0_1 := Aside0.mk hr0_1
 have HC0_1 := Aside0.mk hc0_1
 clear hr0_1 hc0_1
 have HR0_3 := Aside0.mk hr0_3
 have HC0_3 := Aside0.mk hc0_3
 clear hr0_3 hc0_3
 have HR0_6 := Aside0.mk hr0_6
 have HC0_6 := Aside0.mk hc0_6
 clear hr0_6 hc0_6
 have HR0_9 := Aside0.mk hr0_9
 have HC0_9 := Aside0.mk hc0_9
 clear hr0_9 hc0_9
 have HB := Aside0.mk (Below.refl w.heap.size w)
 have H : ((laws_szTable.f k l0_1 a0_2 a1).bind fun t194 => (if t194 < 0 then (some (-1)) else ((laws_szTable.f k l0_3 a0_4 t194).bind fun t195 => (if t195 < 0 then (some (-1)) else (if (wrap64 (t195 - (a0_5.size : Int))) < 0 then (some (-1)) else ((laws_szStreamS.f k l0_6 (wrap64 (t195 - (a0_5.size : Int)))).bind fun t196 => (if t196 < 0 then (some (-1)) else ((laws_szFrameS.f k l0_9 t196).bind fun t197 => (if t197 < 0 then (some (-1)) else (some t197)))))))))) = some r := h
 clear h
 obtain ⟨t194, A3, H⟩ := ob H
 (try dsimp only at H)
 have HC4 := Aside0.mk H
 clear H
 go_enter Try.func35, Try.ntmps35
 go_upto_if 10 with (first | ((with_reducible refine gd 2 rfl ?_); refine bx (N := 2) (cs := #[.bool a0_0, .slice A0_1 l0_1.length c0_1, .int .i64 a0_2, .slice A0_3 l0_3.length c0_3, .int .i64 a0_4, .string a0_5, .slice A0_6 l0_6.length c0_6, .int .i64 a0_7, .int .i64 a0_8, .slice A0_9 l0_9.length c0_9, .bool a0_10]) (t := 64) ?_; intro gb193 hg w5 hbox hb; have BK193 := Aside0.mk (hbox); have GW193 := gw HB hg; have GE193 := GW193; replace HB := Aside0.mk (below_step (zb HB) hb); clear hb hbox hg; obtain ⟨hcz6_0, hcz6_1, hcz6_2, hcz6_3, hcz6_4, hcz6_5, hcz6_6, hcz6_7, hcz6_8, hcz6_9, hcz6_10, hfz6_0, hfz6_1, hfz6_2, hfz6_3, hfz6_4, hfz6_5, hfz6_6, hfz6_7, hfz6_8, hfz6_9, hfz6_10⟩ := c11 BK193) | ((with_reducible refine gq 89 rfl ?_); refine gl (some 8) Try.func89 #[.agg #[.slice A0_1 l0_1.length c0_1, .int .i64 a0_2], .int .i64 a1] ?_; (with_reducible refine (laws_szTable.calls k _ _ l0_1 a0_2 a1 t194 _ ?side1 ?side2 A3.out).mono ?_); (case side1 => exact zc (Kd.C_below HR0_1.out HB.out)); (case side2 => exact HC0_1.out); rintro e w7 ⟨rfl, hb⟩; refine ⟨_, rfl, ?_⟩; replace BK193 := kb BK193 hb; replace HB := Aside0.mk (below_step (zb HB) hb); (try clear hb)))
 (try simp only [Act.put, s1, s2, s3])
 have H := HC4.out
 clear HC4
 replace H := sp H
 rcases H with ⟨c8, H⟩ | ⟨c8, H⟩
 ·skip
  have c8b0 := decide_eq_true c8
  clear c8
  (first | rw [c8b0] | rw [c8b1] | rw [c8b2] | (simp only [i64_w, i32_w]; rw [c8b0]) | skip)
  obtain rfl := Option.some.inj H
  go_wp2
  go_ret
  exact ⟨ze, zb HB⟩
 ·skip
  have c8b0 := decide_eq_false c8
  clear c8
  (first | rw [c8b0] | rw [c8b1] | rw [c8b2] | (simp only [i64_w, i32_w]; rw [c8b0]) | skip)
  obtain ⟨t195, A9, H⟩ := ob H
  (try dsimp only at H)
  replace H := sp H
  rcases H with ⟨c10, H⟩ | ⟨c10, H⟩
  ·skip
   have c10b0 := decide_eq_true c10
   clear c10
   obtain rfl := Option.some.inj H
   obtain ⟨hcz11_0, hcz11_1, hcz11_2, hcz11_3, hcz11_4, hcz11_5, hcz11_6, hcz11_7, hcz11_8, hcz11_9, hcz11_10, hfz11_0, hfz11_1, hfz11_2, hfz11_3, hfz11_4, hfz11_5, hfz11_6, hfz11_7, hfz11_8, hfz11_9, hfz11_10⟩ := c11 BK193
   go_wp2_with (first | ((with_reducible refine gq 89 rfl ?_); refine gl (some 14) Try.func89 #[.agg #[.slice A0_3 l0_3.length c0_3, .int .i64 a0_4], .int .i64 t194] ?_; (with_reducible refine (laws_szTable.calls k _ _ l0_3 a0_4 t194 t195 _ ?side1 ?side2 A9.out).mono ?_); (case side1 => exact zc (Kd.C_below HR0_3.out HB.out)); (case side2 => exact HC0_3.out); rintro e w12 ⟨rfl, hb⟩; refine ⟨_, rfl, ?_⟩; replace BK193 := kb BK193 hb; replace HB := Aside0.mk (below_step (zb HB) hb); (try clear hb)))
   go_ret
   exact ⟨ze, zb HB⟩
  ·skip
   have c10b0 := decide_eq_false c10
   clear c10
   replace H := sp H
   rcases H with ⟨c13, H⟩ | ⟨c13, H⟩
   ·skip
    have c13b0 := decide_eq_true c13
    clear c13
    obtain rfl := Option.some.inj H
    obtain ⟨hcz14_0, hcz14_1, hcz14_2, hcz14_3, hcz14_4, hcz14_5, hcz14_6, hcz14_7, hcz14_8, hcz14_9, hcz14_10, hfz14_0, hfz14_1, hfz14_2, hfz14_3, hfz14_4, hfz14_5, hfz14_6, hfz14_7, hfz14_8, hfz14_9, hfz14_10⟩ := c11 BK193
    go_wp2_with (first | ((with_reducible refine gq 89 rfl ?_); refine gl (some 14) Try.func89 #[.agg #[.slice A0_3 l0_3.length c0_3, .int .i64 a0_4], .int .i64 t194] ?_; (with_reducible refine (laws_szTable.calls k _ _ l0_3 a0_4 t194 t195 _ ?side1 ?side2 A9.out).mono ?_); (case side1 => exact zc (Kd.C_below HR0_3.out HB.out)); (case side2 => exact HC0_3.out); rintro e w15 ⟨rfl, hb⟩; refine ⟨_, rfl, ?_⟩; replace BK193 := kb BK193 hb; replace HB := Aside0.mk (below_step (zb HB) hb); (try clear hb); obtain ⟨hcz16_0, hcz16_1, hcz16_2, hcz16_3, hcz16_4, hcz16_5, hcz16_6, hcz16_7, hcz16_8, hcz16_9, hcz16_10, hfz16_0, hfz16_1, hfz16_2, hfz16_3, hfz16_4, hfz16_5, hfz16_6, hfz16_7, hfz16_8, hfz16_9, hfz16_10⟩ := c11 BK193))
    go_ret
    exact ⟨ze, zb HB⟩
   ·skip
    have c13b0 := decide_eq_false c13
    clear c13
    obtain ⟨t196, A17, H⟩ := ob H
    (try dsimp only at H)
    have HC18 := Aside0.mk H
    clear H
    obtain ⟨hcz19_0, hcz19_1, hcz19_2, hcz19_3, hcz19_4, hcz19_5, hcz19_6, hcz19_7, hcz19_8, hcz19_9, hcz19_10, hfz19_0, hfz19_1, hfz19_2, hfz19_3, hfz19_4, hfz19_5, hfz19_6, hfz19_7, hfz19_8, hfz19_9, hfz19_10⟩ := c11 BK193
    go_upto_if 29 with (first | ((with_reducible refine gq 89 rfl ?_); refine gl (some 14) Try.func89 #[.agg #[.slice A0_3 l0_3.length c0_3, .int .i64 a0_4], .int .i64 t194] ?_; (with_reducible refine (laws_szTable.calls k _ _ l0_3 a0_4 t194 t195 _ ?side1 ?side2 A9.out).mono ?_); (case side1 => exact zc (Kd.C_below HR0_3.out HB.out)); (case side2 => exact HC0_3.out); rintro e w20 ⟨rfl, hb⟩; refine ⟨_, rfl, ?_⟩; replace BK193 := kb BK193 hb; replace HB := Aside0.mk (below_step (zb HB) hb); (try clear hb); obtain ⟨hcz21_0, hcz21_1, hcz21_2, hcz21_3, hcz21_4, hcz21_5, hcz21_6, hcz21_7, hcz21_8, hcz21_9, hcz21_10, hfz21_0, hfz21_1, hfz21_2, hfz21_3, hfz21_4, hfz21_5, hfz21_6, hfz21_7, hfz21_8, hfz21_9, hfz21_10⟩ := c11 BK193) | ((with_reducible refine gq 90 rfl ?_); refine gl (some 27) Try.func90 #[.slice A0_6 l0_6.length c0_6, .int .i64 (wrap64 (t195 - (a0_5.size : Int)))] ?_; (with_reducible refine (laws_szStreamS.calls k _ _ l0_6 (wrap64 (t195 - (a0_5.size : Int))) t196 _ ?side1 ?side2 A17.out).mono ?_); (case side1 => exact zc (Kd.C_below HR0_6.out HB.out)); (case side2 => exact HC0_6.out); rintro e w22 ⟨rfl, hb⟩; refine ⟨_, rfl, ?_⟩; replace BK193 := kb BK193 hb; replace HB := Aside0.mk (below_step (zb HB) hb); (try clear hb)))
    (try simp only [Act.put, s1, s2, s3])
    have H := HC18.out
    clear HC18
    replace H := sp H
    rcases H with ⟨c23, H⟩ | ⟨c23, H⟩
    ·skip
     have c23b0 := decide_eq_true c23
     clear c23
     (first | rw [c23b0] | rw [c23b1] | rw [c23b2] | (simp only [i64_w, i32_w]; rw [c23b0]) | skip)
     obtain rfl := Option.some.inj H
     go_wp2
     go_ret
     exact ⟨ze, zb HB⟩
    ·skip
     have c23b0 := decide_eq_false c23
     clear c23
     (first | rw [c23b0] | rw [c23b1] | rw [c23b2] | (simp only [i64_w, i32_w]; rw [c23b0]) | skip)
     obtain ⟨t197, A24, H⟩ := ob H
     (try dsimp only at H)
     replace H := sp H
     rcases H with ⟨c25, H⟩ | ⟨c25, H⟩
     ·skip
      have c25b0 := decide_eq_true c25
      clear c25
      obtain rfl := Option.some.inj H
      obtain ⟨hcz26_0, hcz26_1, hcz26_2, hcz26_3, hcz26_4, hcz26_5, hcz26_6, hcz26_7, hcz26_8, hcz26_9, hcz26_10, hfz26_0, hfz26_1, hfz26_2, hfz26_3, hfz26_4, hfz26_5, hfz26_6, hfz26_7, hfz26_8, hfz26_9, hfz26_10⟩ := c11 BK193
      go_wp2_with (first | ((with_reducible refine gq 91 rfl ?_); refine gl (some 33) Try.func91 #[.slice A0_9 l0_9.length c0_9, .int .i64 t196] ?_; (with_reducible refine (laws_szFrameS.calls k _ _ l0_9 t196 t197 _ ?side1 ?side2 A24.out).mono ?_); (case side1 => exact zc (Kd.C_below HR0_9.out HB.out)); (case side2 => exact HC0_9.out); rintro e w27 ⟨rfl, hb⟩; refine ⟨_, rfl, ?_⟩; replace BK193 := kb BK193 hb; replace HB := Aside0.mk (below_step (zb HB) hb); (try clear hb)))
      go_ret
      exact ⟨ze, zb HB⟩
     ·skip
      have c25b0 := decide_eq_false c25
      clear c25
      obtain rfl := Option.some.inj H
      obtain ⟨hcz28_0, hcz28_1, hcz28_2, hcz28_3, hcz28_4, hcz28_5, hcz28_6, hcz28_7, hcz28_8, hcz28_9, hcz28_10, hfz28_0, hfz28_1, hfz28_2, hfz28_3, hfz28_4, hfz28_5, hfz28_6, hfz28_7, hfz28_8, hfz28_9, hfz28_10⟩ := c11 BK193
      go_wp2_with (first | ((with_reducible refine gq 91 rfl ?_); refine gl (some 33) Try.func91 #[.slice A0_9 l0_9.length c0_9, .int .i64 t196] ?_; (with_reducible refine (laws_szFrameS.calls k _ _ l0_9 t196 t197 _ ?side1 ?side2 A24.out).mono ?_); (case side1 => exact zc (Kd.C_below HR0_9.out HB.out)); (case side2 => exact HC0_9.out); rintro e w29 ⟨rfl, hb⟩; refine ⟨_, rfl, ?_⟩; replace BK193 := kb BK193 hb; replace HB := Aside0.mk (below_step (zb HB) hb); (try clear hb)))
      go_ret
      exact ⟨ze, zb HB⟩

/-! ### laws_toField: function 157 -/
-- thin
def laws_toField.f (a0_0 : ByteArray) (a0_1 : ByteArray) (a0_2 : Bool) : Option (ByteArray × ByteArray × Bool) := some (a0_0, a0_1, a0_2)
set_option maxHeartbeats 8000000 in
set_option maxRecDepth 100000 in
theorem laws_toField.calls (a0_0 : ByteArray) (a0_1 : ByteArray) (a0_2 : Bool) (r1 : ByteArray) (r2 : ByteArray) (r3 : Bool) (w : World) (h : laws_toField.f a0_0 a0_1 a0_2 = some (r1, r2, r3)) :
  Calls Try.prog 157 #[.agg #[.string a0_0, .string a0_1, .bool a0_2]] w fun e w' => e = .returned (.agg #[.string r1, .string r2, .bool r3]) ∧ Below w.heap.size w w' := by
 have hu192 := Try.underlying192
 have hu88 := Try.underlying88
 have HB := Aside0.mk (Below.refl w.heap.size w)
 have H : (some (a0_0, a0_1, a0_2)) = some (r1, r2, r3) := h
 clear h
 simp only [Option.some.injEq, Prod.mk.injEq] at H
 obtain ⟨rfl, rfl, rfl⟩ := H
 go_enter Try.func157, Try.ntmps157
 go_wp2_with (first | ((with_reducible refine gd 1 rfl ?_); refine bx (N := 1) (cs := #[.string a0_0, .string a0_1, .bool a0_2]) (t := 192) ?_; intro gb198 hg w2 hbox hb; have BK198 := Aside0.mk (hbox); have GW198 := gw HB hg; have GE198 := GW198; replace HB := Aside0.mk (below_step (zb HB) hb); clear hb hbox hg) | ((with_reducible refine gd 2 rfl ?_); refine bx (N := 2) (cs := #[.string (⟨#[]⟩ : ByteArray), .string (⟨#[]⟩ : ByteArray), .bool false]) (t := 88) ?_; intro gb199 hg w3 hbox hb; have BK199 := Aside0.mk (hbox); have GW199 := gw HB hg; have GE199 := GW199; replace HB := Aside0.mk (below_step (zb HB) hb); obtain ⟨NB198_199, NB199_198⟩ := nb BK198 hg; replace BK198 := kb BK198 hb; clear hb hbox hg) | ((with_reducible refine gd 3 rfl ?_); refine bx (N := 3) (cs := #[.string (⟨#[]⟩ : ByteArray), .string (⟨#[]⟩ : ByteArray), .bool false]) (t := 88) ?_; intro gb200 hg w4 hbox hb; have BK200 := Aside0.mk (hbox); have GW200 := gw HB hg; have GE200 := GW200; replace HB := Aside0.mk (below_step (zb HB) hb); obtain ⟨NB198_200, NB200_198⟩ := nb BK198 hg; replace BK198 := kb BK198 hb; obtain ⟨NB199_200, NB200_199⟩ := nb BK199 hg; replace BK199 := kb BK199 hb; clear hb hbox hg; have hnb5 := NB198_199.out; have hnc5 := NB199_198.out; have hnb6 := NB198_200.out; have hnc6 := NB200_198.out; obtain ⟨hcz7_0, hcz7_1, hcz7_2, hfz7_0, hfz7_1, hfz7_2⟩ := c3 BK198; have hnb8 := NB200_199.out; have hnc8 := NB199_200.out; obtain ⟨hcz9_0, hcz9_1, hcz9_2, hfz9_0, hfz9_1, hfz9_2⟩ := c3 BK200; obtain ⟨hcz10_0, hcz10_1, hcz10_2, hfz10_0, hfz10_1, hfz10_2⟩ := c3 BK199))
 refine bodyPost_ret (results_cell_row rfl _ _ gb199 88 #[.string a0_0, .string a0_1, .bool a0_2] (0, 0) _ rfl (zp BK199) Try.underlying88 rfl (by kernel_rfl)) rfl ?_
 exact ⟨ze, zb HB⟩

end Go.Proofs.Ytlpibelofcabhaa.PFnExactEndLeave
