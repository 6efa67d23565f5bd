-- WRITTEN BY wip/call/gencall.py (the prover's own program)
import Derived.Test.YtlpibelofcabhaaDoorPFnExactEndCallx0
import Derived.Test.YtlpibelofcabhaaDoorPFnExactEndCallx1
import Derived.Test.YtlpibelofcabhaaDoorPFnExactEndCallx2
import Derived.Test.YtlpibelofcabhaaDoorPFnExactEndCallx3
import Derived.Test.YtlpibelofcabhaaDoorPFnExactEndCallx4
import Derived.Test.YtlpibelofcabhaaDoorPFnExactEndCallx5
import Derived.Test.YtlpibelofcabhaaDoorPFnExactEndCallx6
import Derived.Test.YtlpibelofcabhaaDoorPFnExactEndCallx7
import Derived.Test.YtlpibelofcabhaaDoorPFnExactEndCallx8
import Derived.Test.YtlpibelofcabhaaDoorPFnExactEndCallx9
import Derived.Test.YtlpibelofcabhaaDoorPFnExactEndCallx10
import Derived.Test.YtlpibelofcabhaaDoorPFnExactEndCallx11
import Derived.Test.YtlpibelofcabhaaDoorPFnExactEndCallx12
import Derived.Test.YtlpibelofcabhaaDoorPFnExactEndCallx13
import Derived.Test.YtlpibelofcabhaaDoorPFnExactEndCallx14
import Derived.Test.YtlpibelofcabhaaDoorPFnExactEndCallx15
import Derived.Test.YtlpibelofcabhaaDoorPFnExactEndCallx16
namespace Go.Proofs.YtlpibelofcabhaaDoor.PFnExactEndCall
open Go.RowKit Go.Proofs.YtlpibelofcabhaaDoorW.PrintWords Go.Proofs.YtlpibelofcabhaaDoorW.PrintLast Go.Proofs.YtlpibelofcabhaaDoorW.PrintMore Go.Proofs.YtlpibelofcabhaaDoor.Lm
attribute [local go_sem] max2_int min2_int max_two min_two max_three min_three max_four min_four   -- for this text's walks alone
set_option linter.unusedVariables false
set_option linter.unusedSimpArgs false
abbrev RG (g : Nat) (cs : List Value) (W : World) : Prop := W.rangeAt g 0 cs
theorem rg {g T : Nat} {cs : List Value} {W : World} (h : Aside0 (W.heap[g]? = some (.cells cs.toArray T (0, 0)))) : RG g cs W := by
  have h1 := World.rangeAt_of_block h.out 0 cs.length
  simpa using h1
theorem spec_EndCall.callsT (k : Nat) {b : Nat} {B : Nat → Prop} {v1 v3 v6 v9 : Value} {x0 : Bool} {x1 : List S61} {x2 : Int} {x3 : List S61} {x4 : Int} {x5 : ByteArray} {x6 : List S58} {x7 : Int} {x8 : Int} {x9 : List S79} {x10 : Bool} (path text : ByteArray) {r0 : Bool} {r1 : List S61} {r2 : Int} {r3 : List S61} {r4 : Int} {r5 : ByteArray} {r6 : List S58} {r7 : Int} {r8 : Int} {r9 : List S79} {r10 : Bool} {ri : Int} {rb : Bool} (w : World) (X : EX w b B v1 v3 v6 v9 x1 x3 x6 x9) (h : spec_EndCall.f k x0 x1 x2 x3 x4 x5 x6 x7 x8 x9 x10 path text = some ((r0, r1, r2, r3, r4, r5, r6, r7, r8, r9, r10), ri, rb)) : Calls Tryd.prog 5 #[.agg #[.bool x0, v1, .int .i64 x2, v3, .int .i64 x4, .string x5, v6, .int .i64 x7, .int .i64 x8, v9, .bool x10], .string path, .string text] w fun e w' => ∃ u1 u3 u6 u9 : Value, e = .returned (.tuple #[.agg #[.bool r0, u1, .int .i64 r2, u3, .int .i64 r4, .string r5, u6, .int .i64 r7, .int .i64 r8, u9, .bool r10], .int .i64 ri, .bool rb]) ∧ EX w' w.heap.size (fun _ => True) u1 u3 u6 u9 r1 r3 r6 r9 ∧ Below w.heap.size w w' := spec_EndCall.calls k path text r0 r1 r2 r3 r4 r5 r6 r7 r8 r9 r10 ri rb w X h
theorem impl_EndCall.callsT (k : Nat) {b : Nat} {B : Nat → Prop} {v1 v3 v6 v9 : Value} {x0 : Bool} {x1 : List S61} {x2 : Int} {x3 : List S61} {x4 : Int} {x5 : ByteArray} {x6 : List S58} {x7 : Int} {x8 : Int} {x9 : List S79} {x10 : Bool} (path text : ByteArray) {r0 : Bool} {r1 : List S61} {r2 : Int} {r3 : List S61} {r4 : Int} {r5 : ByteArray} {r6 : List S58} {r7 : Int} {r8 : Int} {r9 : List S79} {r10 : Bool} {ri : Int} {rb : Bool} (w : World) (X : EX w b B v1 v3 v6 v9 x1 x3 x6 x9) (h : impl_EndCall.f k x0 x1 x2 x3 x4 x5 x6 x7 x8 x9 x10 path text = some ((r0, r1, r2, r3, r4, r5, r6, r7, r8, r9, r10), ri, rb)) : Calls Tryd.prog 7 #[.agg #[.bool x0, v1, .int .i64 x2, v3, .int .i64 x4, .string x5, v6, .int .i64 x7, .int .i64 x8, v9, .bool x10], .string path, .string text] w fun e w' => ∃ u1 u3 u6 u9 : Value, e = .returned (.tuple #[.agg #[.bool r0, u1, .int .i64 r2, u3, .int .i64 r4, .string r5, u6, .int .i64 r7, .int .i64 r8, u9, .bool r10], .int .i64 ri, .bool rb]) ∧ EX w' w.heap.size (fun _ => True) u1 u3 u6 u9 r1 r3 r6 r9 ∧ Below w.heap.size w w' := impl_EndCall.calls k path text r0 r1 r2 r3 r4 r5 r6 r7 r8 r9 r10 ri rb w X h
/-- The slices that came in. -/
structure IB (w : World) (A0_1 : Option Addr) (c0_1 : Nat) (l0_1 : List S96) (A0_3 : Option Addr) (c0_3 : Nat) (l0_3 : List S96) (A0_6 : Option Addr) (c0_6 : Nat) (l0_6 : List S73) (A0_9 : Option Addr) (c0_9 : Nat) (l0_9 : List S76) : Prop where
  all : (Kd.C k96 w A0_1 l0_1.length l0_1 ∧ l0_1.length ≤ c0_1) ∧ (Kd.C k96 w A0_3 l0_3.length l0_3 ∧ l0_3.length ≤ c0_3) ∧ (Kd.C k73 w A0_6 l0_6.length l0_6 ∧ l0_6.length ≤ c0_6) ∧ (Kd.C k76 w A0_9 l0_9.length l0_9 ∧ l0_9.length ≤ c0_9)
theorem IB.at {w W : World} {A0_1 : Option Addr} {c0_1 : Nat} {l0_1 : List S96} {A0_3 : Option Addr} {c0_3 : Nat} {l0_3 : List S96} {A0_6 : Option Addr} {c0_6 : Nat} {l0_6 : List S73} {A0_9 : Option Addr} {c0_9 : Nat} {l0_9 : List S76} (h : IB w A0_1 c0_1 l0_1 A0_3 c0_3 l0_3 A0_6 c0_6 l0_6 A0_9 c0_9 l0_9) (hb : Below w.heap.size w W) : IB W A0_1 c0_1 l0_1 A0_3 c0_3 l0_3 A0_6 c0_6 l0_6 A0_9 c0_9 l0_9 := by
  obtain ⟨⟨⟨h1, d1⟩, ⟨h3, d3⟩, ⟨h6, d6⟩, ⟨h9, d9⟩⟩⟩ := h
  exact ⟨⟨⟨Kd.C_below h1 hb, d1⟩, ⟨Kd.C_below h3 hb, d3⟩, ⟨Kd.C_below h6 hb, d6⟩, ⟨Kd.C_below h9 hb, d9⟩⟩⟩
theorem laws_szEnd.callsI (k : Nat) (a0_0 : Bool) {A0_1 : Option Addr} {c0_1 : Nat} (l0_1 : List S96) (a0_2 : Int) {A0_3 : Option Addr} {c0_3 : Nat} (l0_3 : List S96) (a0_4 : Int) (a0_5 : ByteArray) {A0_6 : Option Addr} {c0_6 : Nat} (l0_6 : List S73) (a0_7 : Int) (a0_8 : Int) {A0_9 : Option Addr} {c0_9 : Nat} (l0_9 : List S76) (a0_10 : Bool) (a1 r : Int) (w : World) (h0 : IB w A0_1 c0_1 l0_1 A0_3 c0_3 l0_3 A0_6 c0_6 l0_6 A0_9 c0_9 l0_9) (h : laws_szEnd.f k a0_0 l0_1 a0_2 l0_3 a0_4 a0_5 l0_6 a0_7 a0_8 l0_9 a0_10 a1 = some r) : Calls Tryd.prog 4 #[.agg #[.bool a0_0, .slice A0_1 l0_1.length c0_1, .int .i64 a0_2, .slice A0_3 l0_3.length c0_3, .int .i64 a0_4, .string a0_5, .slice A0_6 l0_6.length c0_6, .int .i64 a0_7, .int .i64 a0_8, .slice A0_9 l0_9.length c0_9, .bool a0_10], .int .i64 a1] w fun e w' => e = .returned (.int .i64 r) ∧ Below w.heap.size w w' := by
  obtain ⟨⟨⟨h1, d1⟩, ⟨h3, d3⟩, ⟨h6, d6⟩, ⟨h9, d9⟩⟩⟩ := h0
  exact laws_szEnd.calls k a0_0 _ _ l0_1 a0_2 _ _ l0_3 a0_4 a0_5 _ _ l0_6 a0_7 a0_8 _ _ l0_9 a0_10 a1 r w h1 d1 h3 d3 h6 d6 h9 d9 h
theorem laws_toEnd.callsI (k : Nat) (a0_0 : Bool) {A0_1 : Option Addr} {c0_1 : Nat} (l0_1 : List S96) (a0_2 : Int) {A0_3 : Option Addr} {c0_3 : Nat} (l0_3 : List S96) (a0_4 : Int) (a0_5 : ByteArray) {A0_6 : Option Addr} {c0_6 : Nat} (l0_6 : List S73) (a0_7 : Int) (a0_8 : Int) {A0_9 : Option Addr} {c0_9 : Nat} (l0_9 : List S76) (a0_10 : Bool) (y0 : Bool) (y1 : List S61) (y2 : Int) (y3 : List S61) (y4 : Int) (y5 : ByteArray) (y6 : List S58) (y7 : Int) (y8 : Int) (y9 : List S79) (y10 : Bool) (w : World) (h0 : IB w A0_1 c0_1 l0_1 A0_3 c0_3 l0_3 A0_6 c0_6 l0_6 A0_9 c0_9 l0_9) (h : laws_toEnd.f k a0_0 l0_1 a0_2 l0_3 a0_4 a0_5 l0_6 a0_7 a0_8 l0_9 a0_10 = some (y0, y1, y2, y3, y4, y5, y6, y7, y8, y9, y10)) : Calls Tryd.prog 6 #[.agg #[.bool a0_0, .slice A0_1 l0_1.length c0_1, .int .i64 a0_2, .slice A0_3 l0_3.length c0_3, .int .i64 a0_4, .string a0_5, .slice A0_6 l0_6.length c0_6, .int .i64 a0_7, .int .i64 a0_8, .slice A0_9 l0_9.length c0_9, .bool a0_10]] w fun e w' => ∃ u1 u3 u6 u9 : Value, e = .returned (.agg #[.bool y0, u1, .int .i64 y2, u3, .int .i64 y4, .string y5, u6, .int .i64 y7, .int .i64 y8, u9, .bool y10]) ∧ EX w' w.heap.size (fun _ => True) u1 u3 u6 u9 y1 y3 y6 y9 ∧ Below w.heap.size w w' := by
  obtain ⟨⟨⟨h1, d1⟩, ⟨h3, d3⟩, ⟨h6, d6⟩, ⟨h9, d9⟩⟩⟩ := h0
  refine (laws_toEnd.calls k a0_0 _ _ l0_1 a0_2 _ _ l0_3 a0_4 a0_5 _ _ l0_6 a0_7 a0_8 _ _ l0_9 a0_10 y0 y1 y2 y3 y4 y5 y6 y7 y8 y9 y10 w h1 d1 h3 d3 h6 d6 h9 d9 h).mono ?_
  rintro e w' ⟨u1, u3, u6, u9, rfl, h1, h3, h6, h9, hb⟩
  exact ⟨u1, u3, u6, u9, rfl, (EX.of h1 (fun k h => h) h3 h6 (fun k h => h) h9).mono (fun _ _ _ _ => trivial), hb⟩
def withM (b : TE) (m : Int × List S61 × List S61 × List S58 × List S79) : TE := (b.1, m.2.1, b.2.2.1, m.2.2.1, b.2.2.2.2.1, b.2.2.2.2.2.1, m.2.2.2.1, b.2.2.2.2.2.2.2.1, b.2.2.2.2.2.2.2.2.1, m.2.2.2.2, b.2.2.2.2.2.2.2.2.2.2)
def laws_FnExactEndCall.f (k : Nat) (a0_0 : Bool) (l0_1 : List S96) (a0_2 : Int) (l0_3 : List S96) (a0_4 : Int) (a0_5 : ByteArray) (l0_6 : List S73) (a0_7 : Int) (a0_8 : Int) (l0_9 : List S76) (a0_10 : Bool) (path text : ByteArray) : Option Bool :=
 if (path.size : Int) > 1048576 then some true else if (text.size : Int) > 1048576 then some true else (laws_szEnd.f k a0_0 l0_1 a0_2 l0_3 a0_4 a0_5 l0_6 a0_7 a0_8 l0_9 a0_10 1048576).bind fun s => if s < 0 then some true else (laws_toEnd.f k a0_0 l0_1 a0_2 l0_3 a0_4 a0_5 l0_6 a0_7 a0_8 l0_9 a0_10).bind fun y => (uE (spec_EndCall.f k) y path text).bind fun w0 => (laws_toEnd.f k a0_0 l0_1 a0_2 l0_3 a0_4 a0_5 l0_6 a0_7 a0_8 l0_9 a0_10).bind fun x => (uE (impl_EndCall.f k) x path text).bind fun g0 => (uE (uE (laws_eqEnd.f k) g0.1) w0.1).bind fun e1 => if e1 = true then (if g0.2.1 = w0.2.1 then (if g0.2.2 = w0.2.2 then ((laws_toEnd.f k a0_0 l0_1 a0_2 l0_3 a0_4 a0_5 l0_6 a0_7 a0_8 l0_9 a0_10).bind fun z => (uE (uE (laws_eqEnd.f k) x) z).bind fun e2 => if e2 = true then ((laws_markEnd.f k x.2.1 x.2.2.1 x.2.2.2.1 x.2.2.2.2.1 x.2.2.2.2.2.2.1 x.2.2.2.2.2.2.2.2.2.1 1).bind fun m0 => if 0 ≤ m0.1 then ((uE (uE (laws_eqEnd.f k) g0.1) w0.1).bind fun e3 => if e3 = true then ((laws_markEnd.f k g0.1.2.1 g0.1.2.2.1 g0.1.2.2.2.1 g0.1.2.2.2.2.1 g0.1.2.2.2.2.2.2.1 g0.1.2.2.2.2.2.2.2.2.2.1 1).bind fun m => (uE (laws_heldEnd.f k) (withM g0.1 m) 1).bind fun q => if 0 ≤ q then (if q = m.1 then ((laws_toEnd.f k a0_0 l0_1 a0_2 l0_3 a0_4 a0_5 l0_6 a0_7 a0_8 l0_9 a0_10).bind fun p => (uE (impl_EndCall.f k) p path text).bind fun h0 => (uE (uE (laws_eqEnd.f k) h0.1) w0.1).bind fun e4 => if e4 = true then (if h0.2.1 = w0.2.1 then (if h0.2.2 = w0.2.2 then ((uE (laws_heldEnd.f k) (withM g0.1 m) 1).bind fun q2 => if 0 ≤ q2 then (if q2 = m.1 then some true else none) else none) else none) else none) else none) else none) else none) else none) else none) else none) else none) else none) else none
set_option maxHeartbeats 8000000 in
set_option maxRecDepth 100000 in
theorem laws_FnExactEndCall.calls (k : Nat) (a0_0 : Bool) (A0_1 : Option Addr) (c0_1 : Nat) (l0_1 : List S96) (a0_2 : Int) (A0_3 : Option Addr) (c0_3 : Nat) (l0_3 : List S96) (a0_4 : Int) (a0_5 : ByteArray) (A0_6 : Option Addr) (c0_6 : Nat) (l0_6 : List S73) (a0_7 : Int) (a0_8 : Int) (A0_9 : Option Addr) (c0_9 : Nat) (l0_9 : List S76) (a0_10 : Bool) (path text : ByteArray) (r : Bool) (w : World) (hr0_1 : Kd.C k96 w A0_1 l0_1.length l0_1) (hc0_1 : l0_1.length ≤ c0_1) (hr0_3 : Kd.C k96 w A0_3 l0_3.length l0_3) (hc0_3 : l0_3.length ≤ c0_3) (hr0_6 : Kd.C k73 w A0_6 l0_6.length l0_6) (hc0_6 : l0_6.length ≤ c0_6) (hr0_9 : Kd.C k76 w A0_9 l0_9.length l0_9) (hc0_9 : l0_9.length ≤ c0_9) (h : laws_FnExactEndCall.f k a0_0 l0_1 a0_2 l0_3 a0_4 a0_5 l0_6 a0_7 a0_8 l0_9 a0_10 path text = some r) :
  Calls Tryd.prog 3 #[.agg #[.bool a0_0, .slice A0_1 l0_1.length c0_1, .int .i64 a0_2, .slice A0_3 l0_3.length c0_3, .int .i64 a0_4, .string a0_5, .slice A0_6 l0_6.length c0_6, .int .i64 a0_7, .int .i64 a0_8, .slice A0_9 l0_9.length c0_9, .bool a0_10], .string path, .string text] w fun e w' => e = .returned (.bool r) ∧ Below w.heap.size w w' := by
 have hu64 := Tryd.underlying30
 have hu42 := Tryd.underlying39
 have HI : Aside0 (IB w A0_1 c0_1 l0_1 A0_3 c0_3 l0_3 A0_6 c0_6 l0_6 A0_9 c0_9 l0_9) := ⟨⟨⟨hr0_1, hc0_1⟩, ⟨hr0_3, hc0_3⟩, ⟨hr0_6, hc0_6⟩, ⟨hr0_9, hc0_9⟩⟩⟩
 clear hr0_1 hc0_1 hr0_3 hc0_3 hr0_6 hc0_6 hr0_9 hc0_9
 have HB := Aside0.mk (Below.refl w.heap.size w)
 have H := h
 clear h
 unfold laws_FnExactEndCall.f at H
 have HC4 := Aside0.mk H
 clear H
 go_enter Tryd.func3, Tryd.ntmps3
 go_upto_if 23 with (first | ((with_reducible refine gd 3 rfl ?_); refine bx (N := 3) (cs := #[.bool a0_0, .slice A0_1 l0_1.length c0_1, .int .i64 a0_2, .slice A0_3 l0_3.length c0_3, .int .i64 a0_4, .string a0_5, .slice A0_6 l0_6.length c0_6, .int .i64 a0_7, .int .i64 a0_8, .slice A0_9 l0_9.length c0_9, .bool a0_10]) (t := 30) ?_; intro g4 hg w3 hbox hb; have BK4 := Aside0.mk hbox; have GW4 := gw HB hg; replace HB := Aside0.mk (below_step (zb HB) hb); clear hb hbox hg))
 (try simp only [Act.put, s1, s2, s3])
 have H := HC4.out
 clear HC4
 by_cases c1 : (path.size : Int) > 1048576
 ·rw [if_pos c1] at H
  have c1b0 := decide_eq_true c1
  clear c1
  (first | rw [c1b0] | rw [c1b1] | (simp only [i64_w, i32_w]; rw [c1b0]) | skip)
  obtain rfl := Option.some.inj H
  go_wp2
  go_ret
  exact ⟨ze, zb HB⟩
 rw [if_neg c1] at H
 have c1b0 := decide_eq_false c1
 clear c1
 (first | rw [c1b0] | rw [c1b1] | (simp only [i64_w, i32_w]; rw [c1b0]) | skip)
 have HC4 := Aside0.mk H
 clear H
 go_upto_if 26 with (fail)
 (try simp only [Act.put, s1, s2, s3])
 have H := HC4.out
 clear HC4
 by_cases c2 : (text.size : Int) > 1048576
 ·rw [if_pos c2] at H
  have c2b0 := decide_eq_true c2
  clear c2
  (first | rw [c2b0] | rw [c2b1] | (simp only [i64_w, i32_w]; rw [c2b0]) | skip)
  obtain rfl := Option.some.inj H
  go_wp2
  go_ret
  exact ⟨ze, zb HB⟩
 rw [if_neg c2] at H
 have c2b0 := decide_eq_false c2
 clear c2
 (first | rw [c2b0] | rw [c2b1] | (simp only [i64_w, i32_w]; rw [c2b0]) | skip)
 obtain ⟨s, A3, Hn_⟩ := ob H
 replace H := Hn_
 clear Hn_
 have HC4 := Aside0.mk H
 clear H
 go_upto_if 31 with (first | ((with_reducible refine gd 27 rfl ?_); refine ld BK4 0 ([.bool a0_0, .slice A0_1 l0_1.length c0_1, .int .i64 a0_2, .slice A0_3 l0_3.length c0_3, .int .i64 a0_4, .string a0_5, .slice A0_6 l0_6.length c0_6, .int .i64 a0_7, .int .i64 a0_8, .slice A0_9 l0_9.length c0_9, .bool a0_10] : List Value) Tryd.underlying30 ?_) | ((with_reducible refine gq 4 rfl ?_); refine gl (some 29) Tryd.func4 #[.agg #[.bool a0_0, .slice A0_1 l0_1.length c0_1, .int .i64 a0_2, .slice A0_3 l0_3.length c0_3, .int .i64 a0_4, .string a0_5, .slice A0_6 l0_6.length c0_6, .int .i64 a0_7, .int .i64 a0_8, .slice A0_9 l0_9.length c0_9, .bool a0_10], .int .i64 1048576] ?_; (refine (laws_szEnd.callsI k a0_0 l0_1 a0_2 l0_3 a0_4 a0_5 l0_6 a0_7 a0_8 l0_9 a0_10 1048576 s _ (HI.out.at (zb HB)) A3.out).mono ?_); rintro e w29 ⟨rfl, hb⟩; refine ⟨_, rfl, ?_⟩; replace BK4 := kb BK4 hb; replace HB := Aside0.mk (below_step (zb HB) hb); clear hb))
 (try simp only [Act.put, s1, s2, s3])
 have H := HC4.out
 clear HC4
 by_cases c8 : s < 0
 ·rw [if_pos c8] at H
  have c8b0 := decide_eq_true c8
  clear c8
  (first | rw [c8b0] | rw [c8b1] | (simp only [i64_w, i32_w]; rw [c8b0]) | skip)
  obtain rfl := Option.some.inj H
  go_wp2
  go_ret
  exact ⟨ze, zb HB⟩
 rw [if_neg c8] at H
 have c8b0 := decide_eq_false c8
 clear c8
 (first | rw [c8b0] | rw [c8b1] | (simp only [i64_w, i32_w]; rw [c8b0]) | skip)
 obtain ⟨⟨ya0, ya1, ya2, ya3, ya4, ya5, ya6, ya7, ya8, ya9, ya10⟩, A9, Hn_⟩ := ob H
 replace H := Hn_
 clear Hn_
 obtain ⟨⟨⟨wa0, wa1, wa2, wa3, wa4, wa5, wa6, wa7, wa8, wa9, wa10⟩, wi, wb⟩, A10, Hn_⟩ := ob H
 replace H := Hn_
 clear Hn_
 obtain ⟨⟨xa0, xa1, xa2, xa3, xa4, xa5, xa6, xa7, xa8, xa9, xa10⟩, A11, Hn_⟩ := ob H
 replace H := Hn_
 clear Hn_
 obtain ⟨⟨⟨ga0, ga1, ga2, ga3, ga4, ga5, ga6, ga7, ga8, ga9, ga10⟩, gi, gb⟩, A12, Hn_⟩ := ob H
 replace H := Hn_
 clear Hn_
 obtain ⟨e1, A13, Hn_⟩ := ob H
 replace H := Hn_
 clear Hn_
 try dsimp only [uE] at A10 A12 A13 H
 by_cases q1 : e1 = true
 rotate_left
 · rw [if_neg q1] at H
   cases H
 rw [if_pos q1] at H
 by_cases q2 : gi = wi
 rotate_left
 · rw [if_neg q2] at H
   cases H
 rw [if_pos q2] at H
 by_cases q3 : gb = wb
 rotate_left
 · rw [if_neg q3] at H
   cases H
 rw [if_pos q3] at H
 subst q1 q2 q3
 obtain ⟨⟨za0, za1, za2, za3, za4, za5, za6, za7, za8, za9, za10⟩, A44, Hn_⟩ := ob H
 replace H := Hn_
 clear Hn_
 obtain ⟨e2, A45, Hn_⟩ := ob H
 replace H := Hn_
 clear Hn_
 try dsimp only [uE] at A45 H
 by_cases q1 : e2 = true
 rotate_left
 · rw [if_neg q1] at H
   cases H
 rw [if_pos q1] at H
 subst q1
 obtain ⟨⟨m0, n1, n3, n6, n9⟩, A59, Hn_⟩ := ob H
 replace H := Hn_
 clear Hn_
 try dsimp only at A59 H
 by_cases c64 : 0 ≤ m0
 rotate_left
 · rw [if_neg c64] at H
   cases H
 rw [if_pos c64] at H
 obtain ⟨e3, A65, Hn_⟩ := ob H
 replace H := Hn_
 clear Hn_
 try dsimp only [uE] at A65 H
 by_cases q1 : e3 = true
 rotate_left
 · rw [if_neg q1] at H
   cases H
 rw [if_pos q1] at H
 subst q1
 obtain ⟨⟨m1, m2, m3, m6, m9⟩, A68, Hn_⟩ := ob H
 replace H := Hn_
 clear Hn_
 obtain ⟨q, A69, Hn_⟩ := ob H
 replace H := Hn_
 clear Hn_
 try dsimp only [uE, withM] at A68 A69 H
 by_cases c73 : 0 ≤ q
 rotate_left
 · rw [if_neg c73] at H
   cases H
 rw [if_pos c73] at H
 by_cases c74 : q = m1
 rotate_left
 · rw [if_neg c74] at H
   cases H
 rw [if_pos c74] at H
 obtain ⟨⟨pa0, pa1, pa2, pa3, pa4, pa5, pa6, pa7, pa8, pa9, pa10⟩, A75, Hn_⟩ := ob H
 replace H := Hn_
 clear Hn_
 obtain ⟨⟨⟨ha0, ha1, ha2, ha3, ha4, ha5, ha6, ha7, ha8, ha9, ha10⟩, hi_, hb_⟩, A76, Hn_⟩ := ob H
 replace H := Hn_
 clear Hn_
 obtain ⟨e4, A77, Hn_⟩ := ob H
 replace H := Hn_
 clear Hn_
 try dsimp only [uE] at A76 A77 H
 by_cases q1 : e4 = true
 rotate_left
 · rw [if_neg q1] at H
   cases H
 rw [if_pos q1] at H
 by_cases q2 : hi_ = gi
 rotate_left
 · rw [if_neg q2] at H
   cases H
 rw [if_pos q2] at H
 by_cases q3 : hb_ = gb
 rotate_left
 · rw [if_neg q3] at H
   cases H
 rw [if_pos q3] at H
 subst q1 q2 q3
 obtain ⟨uq, A94, Hn_⟩ := ob H
 replace H := Hn_
 clear Hn_
 try dsimp only [uE, withM] at A94
 by_cases c95 : 0 ≤ uq
 rotate_left
 · rw [if_neg c95] at H
   cases H
 rw [if_pos c95] at H
 by_cases c97 : uq = m1
 rotate_left
 · rw [if_neg c97] at H
   cases H
 rw [if_pos c97] at H
 obtain rfl := Option.some.inj H
 clear H
 have c64b0 := decide_eq_false (show ¬ m0 < 0 by omega)
 have c73b0 := decide_eq_false (show ¬ q < 0 by omega)
 have c95b0 := decide_eq_false (show ¬ uq < 0 by omega)
 have c74b0 : (q == m1) = true := beq_iff_eq.mpr c74
 have c74b1 : (q != m1) = false := bne_eq_false_iff_eq.mpr c74
 have c97b0 : (uq == m1) = true := beq_iff_eq.mpr c97
 have c97b1 : (uq != m1) = false := bne_eq_false_iff_eq.mpr c97
 have hbb : (hb_ != hb_) = false := bne_self_eq_false hb_
 have hii : (hi_ != hi_) = false := bne_self_eq_false hi_
 clear c64 c73 c74 c95 c97
 go_upto_if 64 with (first | ((with_reducible refine gd 33 rfl ?_); refine ld BK4 0 ([.bool a0_0, .slice A0_1 l0_1.length c0_1, .int .i64 a0_2, .slice A0_3 l0_3.length c0_3, .int .i64 a0_4, .string a0_5, .slice A0_6 l0_6.length c0_6, .int .i64 a0_7, .int .i64 a0_8, .slice A0_9 l0_9.length c0_9, .bool a0_10] : List Value) Tryd.underlying30 ?_) | ((with_reducible refine gq 6 rfl ?_); refine gl (some 34) Tryd.func6 #[.agg #[.bool a0_0, .slice A0_1 l0_1.length c0_1, .int .i64 a0_2, .slice A0_3 l0_3.length c0_3, .int .i64 a0_4, .string a0_5, .slice A0_6 l0_6.length c0_6, .int .i64 a0_7, .int .i64 a0_8, .slice A0_9 l0_9.length c0_9, .bool a0_10]] ?_; (refine (laws_toEnd.callsI k a0_0 l0_1 a0_2 l0_3 a0_4 a0_5 l0_6 a0_7 a0_8 l0_9 a0_10 ya0 ya1 ya2 ya3 ya4 ya5 ya6 ya7 ya8 ya9 ya10 _ (HI.out.at (zb HB)) A9.out).mono ?_); rintro e w34 ⟨y1, y3, y6, y9, rfl, ho, hb⟩; refine ⟨_, rfl, ?_⟩; have HY := Aside0.mk ho; clear ho; replace BK4 := kb BK4 hb; replace HB := Aside0.mk (below_step (zb HB) hb); clear hb) | ((with_reducible refine gq 5 rfl ?_); refine gl (some 37) Tryd.func5 #[.agg #[.bool ya0, y1, .int .i64 ya2, y3, .int .i64 ya4, .string ya5, y6, .int .i64 ya7, .int .i64 ya8, y9, .bool ya10], .string path, .string text] ?_; (refine (spec_EndCall.callsT k path text _ (zx HY) A10.out).mono ?_); rintro e w37 ⟨a1, a3, a6, a9, rfl, ho, hb⟩; refine ⟨_, rfl, ?_⟩; have H0 := Aside0.mk ((ho.mono (B' := fun k => k < w37.heap.size) (fun _ _ _ h => h)).low (below_size (zb HB))); clear ho HY; replace BK4 := kb BK4 hb; replace HB := Aside0.mk (below_step (zb HB) hb); clear hb) | ((with_reducible refine gd 8 rfl ?_); refine bx (N := 8) (cs := #[.bool false, .slice none 0 0, .int .i64 0, .slice none 0 0, .int .i64 0, .string (⟨#[]⟩ : ByteArray), .slice none 0 0, .int .i64 0, .int .i64 0, .slice none 0 0, .bool false]) (t := 39) ?_; intro g6 hg w8 hbox hb; have BK6 := Aside0.mk hbox; have S6 := gw HB hg; obtain ⟨N46, N64⟩ := nb BK4 hg; have N60 := Aside0.mk (show ¬ g6 < w37.heap.size by rw [hg]; exact Nat.not_lt.2 ms); have L6 := Aside0.mk (show w37.heap.size ≤ w8.heap.size from Nat.le_trans ms hb.size); replace H0 := Aside0.mk ((zx H0).below hb); replace BK4 := kb BK4 hb; replace HB := Aside0.mk (below_step (zb HB) hb); clear hb; clear hbox hg) | ((with_reducible refine gate_store (t := 39) (p := 8) rfl ?_); refine sd BK6 0 ([.bool wa0, a1, .int .i64 wa2, a3, .int .i64 wa4, .string wa5, a6, .int .i64 wa7, .int .i64 wa8, a9, .bool wa10] : List Value) #[.bool wa0, a1, .int .i64 wa2, a3, .int .i64 wa4, .string wa5, a6, .int .i64 wa7, .int .i64 wa8, a9, .bool wa10] ?_ ?h1; (case h1 => obtain ⟨o1, o3, o6, o9⟩ := (zx H0).ones; intro u hu; simp only [List.mem_cons, List.not_mem_nil, or_false] at hu; rcases hu with rfl | rfl | rfl | rfl | rfl | rfl | rfl | rfl | rfl | rfl | rfl <;> first | rfl | assumption); intro wA bkc hk hlow; replace BK4 := Aside0.mk (KeepBut.blk hk (zk BK4) N46.out (by simp)); replace H0 := Aside0.mk ((zx H0).keep hk N60.out); replace L6 := Aside0.mk (Nat.le_trans L6.out (Nat.le_trans ms hk.1)); replace HB := Aside0.mk (hlow _ _ (zb HB) S6.out); replace BK6 := bkc; clear hk hlow bkc) | ((with_reducible refine gd 41 rfl ?_); refine ld BK4 0 ([.bool a0_0, .slice A0_1 l0_1.length c0_1, .int .i64 a0_2, .slice A0_3 l0_3.length c0_3, .int .i64 a0_4, .string a0_5, .slice A0_6 l0_6.length c0_6, .int .i64 a0_7, .int .i64 a0_8, .slice A0_9 l0_9.length c0_9, .bool a0_10] : List Value) Tryd.underlying30 ?_) | ((with_reducible refine gq 6 rfl ?_); refine gl (some 42) Tryd.func6 #[.agg #[.bool a0_0, .slice A0_1 l0_1.length c0_1, .int .i64 a0_2, .slice A0_3 l0_3.length c0_3, .int .i64 a0_4, .string a0_5, .slice A0_6 l0_6.length c0_6, .int .i64 a0_7, .int .i64 a0_8, .slice A0_9 l0_9.length c0_9, .bool a0_10]] ?_; (refine (laws_toEnd.callsI k a0_0 l0_1 a0_2 l0_3 a0_4 a0_5 l0_6 a0_7 a0_8 l0_9 a0_10 xa0 xa1 xa2 xa3 xa4 xa5 xa6 xa7 xa8 xa9 xa10 _ (HI.out.at (zb HB)) A11.out).mono ?_); rintro e w42 ⟨v1, v3, v6, v9, rfl, ho, hb⟩; refine ⟨_, rfl, ?_⟩; have X4 := Aside0.mk (blk_lt BK4.out); have X6 := Aside0.mk (blk_lt BK6.out); have HX := Aside0.mk ((ho.mono (B' := fun k => wA.heap.size ≤ k ∧ k < w42.heap.size) (fun _ _ h h2 => ⟨Nat.le_trans ms h, h2⟩)).low (below_size (zb HB))); have LX := Aside0.mk (show wA.heap.size ≤ w42.heap.size from Nat.le_trans ms hb.size); replace H0 := Aside0.mk ((zx H0).below hb); clear ho; replace BK4 := kb BK4 hb; replace BK6 := kb BK6 hb; replace HB := Aside0.mk (below_step (zb HB) hb); clear hb) | ((with_reducible refine gd 11 rfl ?_); refine bx (N := 11) (cs := #[.bool false, .slice none 0 0, .int .i64 0, .slice none 0 0, .int .i64 0, .string (⟨#[]⟩ : ByteArray), .slice none 0 0, .int .i64 0, .int .i64 0, .slice none 0 0, .bool false]) (t := 39) ?_; intro g8 hg w11 hbox hb; have BK8 := Aside0.mk hbox; have S8 := gw HB hg; obtain ⟨N48, N84⟩ := nb BK4 hg; obtain ⟨N68, N86⟩ := nb BK6 hg; have N80 := Aside0.mk (show ¬ g8 < w37.heap.size by rw [hg]; exact Nat.not_lt.2 (Nat.le_trans L6.out (Nat.le_trans LX.out ms))); have N8X := Aside0.mk (show ¬ (wA.heap.size ≤ g8 ∧ g8 < w42.heap.size) from fun h => Nat.not_lt.2 (by rw [hg]; exact ms) h.2); have HS := Aside0.mk (show w42.heap.size ≤ w11.heap.size from Nat.le_trans ms hb.size); replace H0 := Aside0.mk ((zx H0).below hb); replace BK4 := kb BK4 hb; replace BK6 := kb BK6 hb; replace HX := Aside0.mk ((zx HX).below hb); replace HB := Aside0.mk (below_step (zb HB) hb); clear hb; clear hbox hg) | ((with_reducible refine gate_store (t := 39) (p := 11) rfl ?_); refine sd BK8 0 ([.bool xa0, v1, .int .i64 xa2, v3, .int .i64 xa4, .string xa5, v6, .int .i64 xa7, .int .i64 xa8, v9, .bool xa10] : List Value) #[.bool xa0, v1, .int .i64 xa2, v3, .int .i64 xa4, .string xa5, v6, .int .i64 xa7, .int .i64 xa8, v9, .bool xa10] ?_ ?h1; (case h1 => obtain ⟨o1, o3, o6, o9⟩ := (zx HX).ones; intro u hu; simp only [List.mem_cons, List.not_mem_nil, or_false] at hu; rcases hu with rfl | rfl | rfl | rfl | rfl | rfl | rfl | rfl | rfl | rfl | rfl <;> first | rfl | assumption); intro wB bkc hk hlow; replace BK4 := Aside0.mk (KeepBut.blk hk (zk BK4) N48.out (by simp)); replace BK6 := Aside0.mk (KeepBut.blk hk (zk BK6) N68.out (by simp)); replace H0 := Aside0.mk ((zx H0).keep hk N80.out); replace HX := Aside0.mk ((zx HX).keep hk N8X.out); replace HS := Aside0.mk (Nat.le_trans HS.out (Nat.le_trans ms hk.1)); replace HB := Aside0.mk (hlow _ _ (zb HB) S8.out); replace BK8 := bkc; clear hk hlow bkc) | ((with_reducible refine gd 44 rfl ?_); refine ld BK8 0 ([.bool xa0, v1, .int .i64 xa2, v3, .int .i64 xa4, .string xa5, v6, .int .i64 xa7, .int .i64 xa8, v9, .bool xa10] : List Value) Tryd.underlying39 ?_) | ((with_reducible refine gq 7 rfl ?_); refine gl (some 47) Tryd.func7 #[.agg #[.bool xa0, v1, .int .i64 xa2, v3, .int .i64 xa4, .string xa5, v6, .int .i64 xa7, .int .i64 xa8, v9, .bool xa10], .string path, .string text] ?_; (refine (impl_EndCall.callsT k path text _ (zx HX) A12.out).mono ?_); rintro e w47 ⟨b1, b3, b6, b9, rfl, ho, hb⟩; refine ⟨_, rfl, ?_⟩; have HG := Aside0.mk ((ho.mono (B' := fun k => w42.heap.size ≤ k ∧ k < w47.heap.size) (fun _ _ h h2 => ⟨Nat.le_trans HS.out (Nat.le_trans ms h), h2⟩)).low (below_size (zb HB))); replace H0 := Aside0.mk ((zx H0).below hb); have LG := Aside0.mk (show w42.heap.size ≤ w47.heap.size from Nat.le_trans HS.out (Nat.le_trans ms hb.size)); clear ho HS; replace BK4 := kb BK4 hb; replace BK6 := kb BK6 hb; replace BK8 := kb BK8 hb; replace HX := Aside0.mk ((zx HX).below hb); replace HB := Aside0.mk (below_step (zb HB) hb); clear hb) | ((with_reducible refine gd 12 rfl ?_); refine bx (N := 12) (cs := #[.bool false, .slice none 0 0, .int .i64 0, .slice none 0 0, .int .i64 0, .string (⟨#[]⟩ : ByteArray), .slice none 0 0, .int .i64 0, .int .i64 0, .slice none 0 0, .bool false]) (t := 39) ?_; intro g9 hg w12 hbox hb; have BK9 := Aside0.mk hbox; have S9 := gw HB hg; obtain ⟨N49, N94⟩ := nb BK4 hg; obtain ⟨N69, N96⟩ := nb BK6 hg; obtain ⟨N89, N98⟩ := nb BK8 hg; have G9 := Aside0.mk (show w47.heap.size ≤ g9 by rw [hg]; exact ms); replace H0 := Aside0.mk ((zx H0).below hb); replace HG := Aside0.mk ((zx HG).below hb); replace BK4 := kb BK4 hb; replace BK6 := kb BK6 hb; replace BK8 := kb BK8 hb; replace HX := Aside0.mk ((zx HX).below hb); replace HB := Aside0.mk (below_step (zb HB) hb); clear hb; clear hbox hg) | ((with_reducible refine gate_store (t := 39) (p := 12) rfl ?_); refine sd BK9 0 ([.bool ga0, b1, .int .i64 ga2, b3, .int .i64 ga4, .string ga5, b6, .int .i64 ga7, .int .i64 ga8, b9, .bool ga10] : List Value) #[.bool ga0, b1, .int .i64 ga2, b3, .int .i64 ga4, .string ga5, b6, .int .i64 ga7, .int .i64 ga8, b9, .bool ga10] ?_ ?h1; (case h1 => obtain ⟨o1, o3, o6, o9⟩ := (zx HG).ones; intro u hu; simp only [List.mem_cons, List.not_mem_nil, or_false] at hu; rcases hu with rfl | rfl | rfl | rfl | rfl | rfl | rfl | rfl | rfl | rfl | rfl <;> first | rfl | assumption); intro wC bkc hk hlow; replace BK4 := Aside0.mk (KeepBut.blk hk (zk BK4) N49.out (by simp)); replace BK6 := Aside0.mk (KeepBut.blk hk (zk BK6) N69.out (by simp)); replace BK8 := Aside0.mk (KeepBut.blk hk (zk BK8) N89.out (by simp)); have z1 := L6.out; have z2 := LX.out; have z3 := LG.out; have z4 := G9.out; replace H0 := Aside0.mk ((zx H0).keep hk (by omega)); replace HX := Aside0.mk ((zx HX).keep hk (by omega)); replace HG := Aside0.mk ((zx HG).keep hk (by omega)); clear z1 z2 z3 z4; replace HB := Aside0.mk (hlow _ _ (zb HB) S9.out); replace BK9 := bkc; clear hk hlow bkc) | ((with_reducible refine gd 51 rfl ?_); refine ld BK9 0 ([.bool ga0, b1, .int .i64 ga2, b3, .int .i64 ga4, .string ga5, b6, .int .i64 ga7, .int .i64 ga8, b9, .bool ga10] : List Value) Tryd.underlying39 ?_) | ((with_reducible refine gd 52 rfl ?_); refine ld BK6 0 ([.bool wa0, a1, .int .i64 wa2, a3, .int .i64 wa4, .string wa5, a6, .int .i64 wa7, .int .i64 wa8, a9, .bool wa10] : List Value) Tryd.underlying39 ?_) | ((with_reducible refine gq 8 rfl ?_); refine gl (some 53) Tryd.func8 #[.agg #[.bool ga0, b1, .int .i64 ga2, b3, .int .i64 ga4, .string ga5, b6, .int .i64 ga7, .int .i64 ga8, b9, .bool ga10], .agg #[.bool wa0, a1, .int .i64 wa2, a3, .int .i64 wa4, .string wa5, a6, .int .i64 wa7, .int .i64 wa8, a9, .bool wa10]] ?_; (refine (laws_eqEnd.callsX k true _ (zx HG) (zx H0) A13.out).mono ?_); rintro e w53 ⟨rfl, hb⟩; refine ⟨_, rfl, ?_⟩; replace H0 := Aside0.mk ((zx H0).below hb); replace HG := Aside0.mk ((zx HG).below hb); replace BK4 := kb BK4 hb; replace BK6 := kb BK6 hb; replace BK8 := kb BK8 hb; replace BK9 := kb BK9 hb; replace HX := Aside0.mk ((zx HX).below hb); replace HB := Aside0.mk (below_step (zb HB) hb); clear hb))
 (try simp only [Act.put, s1, s2, s3])
 try go_wp2
 replace HX := Aside0.mk (HX.out.below (below_drew (Below.refl _ _)))
 replace H0 := Aside0.mk (H0.out.below (below_drew (Below.refl _ _)))
 replace HG := Aside0.mk (HG.out.below (below_drew (Below.refl _ _)))
 replace BK4 := Aside0.mk (blk_drew BK4.out)
 replace BK6 := Aside0.mk (blk_drew BK6.out)
 replace BK8 := Aside0.mk (blk_drew BK8.out)
 replace BK9 := Aside0.mk (blk_drew BK9.out)
 replace HB := Aside0.mk (below_drew1 HB.out)
 refine st 5 (an (rg (cs := [.bool xa0, v1, .int .i64 xa2, v3, .int .i64 xa4, .string xa5, v6, .int .i64 xa7, .int .i64 xa8, v9, .bool xa10]) BK8) (rg (cs := [.bool a0_0, .slice A0_1 l0_1.length c0_1, .int .i64 a0_2, .slice A0_3 l0_3.length c0_3, .int .i64 a0_4, .string a0_5, .slice A0_6 l0_6.length c0_6, .int .i64 a0_7, .int .i64 a0_8, .slice A0_9 l0_9.length c0_9, .bool a0_10]) BK4)) (fun hHeld => ?_)
 generalize w53.drew = wD at HX H0 HG BK4 BK6 BK8 BK9 HB hHeld ⊢
 refine tk 0 (some 65) (bm 5 1) rfl rfl hHeld ?_ (hy := yieldsIf_load_mid (by rfl) 39 (.tmp 11) rfl g8 0 rfl [.bool xa0, v1, .int .i64 xa2, v3, .int .i64 xa4, .string xa5, v6, .int .i64 xa7, .int .i64 xa8, v9, .bool xa10] _ (fun _ hs => hs.1) Tryd.underlying39 rfl (by kernel_rfl))
 refine tk 1 (some 66) (bm 5 3) rfl rfl hHeld ?_ (hy := yieldsIf_load_mid (by rfl) 30 (.tmp 3) rfl g4 0 rfl [.bool a0_0, .slice A0_1 l0_1.length c0_1, .int .i64 a0_2, .slice A0_3 l0_3.length c0_3, .int .i64 a0_4, .string a0_5, .slice A0_6 l0_6.length c0_6, .int .i64 a0_7, .int .i64 a0_8, .slice A0_9 l0_9.length c0_9, .bool a0_10] _ (fun _ hs => hs.2) Tryd.underlying30 rfl (by kernel_rfl))
 refine one_ (i := 2) (N := some 67) (bm 5 7) rfl rfl (by kernel_rfl) (by decide) (fun K hK => ?_)
 refine gs Tryd.func6 #[.agg #[.bool a0_0, .slice A0_1 l0_1.length c0_1, .int .i64 a0_2, .slice A0_3 l0_3.length c0_3, .int .i64 a0_4, .string a0_5, .slice A0_6 l0_6.length c0_6, .int .i64 a0_7, .int .i64 a0_8, .slice A0_9 l0_9.length c0_9, .bool a0_10]] ?_
 refine (laws_toEnd.callsI k a0_0 l0_1 a0_2 l0_3 a0_4 a0_5 l0_6 a0_7 a0_8 l0_9 a0_10 za0 za1 za2 za3 za4 za5 za6 za7 za8 za9 za10 _ (HI.out.at (zb HB)) A44.out).mono ?_
 rintro e wE ⟨z1_, z3_, z6_, z9_, rfl, ho, hb⟩
 refine ⟨_, rfl, ?_⟩
 have HU := Aside0.mk ho
 replace H0 := Aside0.mk ((zx H0).below hb); replace HG := Aside0.mk ((zx HG).below hb); replace BK4 := kb BK4 hb; replace BK6 := kb BK6 hb; replace BK8 := kb BK8 hb; replace BK9 := kb BK9 hb; replace HX := Aside0.mk ((zx HX).below hb); replace HB := Aside0.mk (below_step (zb HB) hb); clear hb; clear ho
 refine hK.out _ _ (an (rg (cs := [.bool xa0, v1, .int .i64 xa2, v3, .int .i64 xa4, .string xa5, v6, .int .i64 xa7, .int .i64 xa8, v9, .bool xa10]) BK8) (rg (cs := [.bool a0_0, .slice A0_1 l0_1.length c0_1, .int .i64 a0_2, .slice A0_3 l0_3.length c0_3, .int .i64 a0_4, .string a0_5, .slice A0_6 l0_6.length c0_6, .int .i64 a0_7, .int .i64 a0_8, .slice A0_9 l0_9.length c0_9, .bool a0_10]) BK4)) (fun hHeld => ?_)
 clear hK K
 refine nm ?_
 refine one_ (i := 3) (N := some 68) (bm 5 15) rfl rfl (by kernel_rfl) (by decide) (fun K hK => ?_)
 refine gs Tryd.func8 #[.agg #[.bool xa0, v1, .int .i64 xa2, v3, .int .i64 xa4, .string xa5, v6, .int .i64 xa7, .int .i64 xa8, v9, .bool xa10], .agg #[.bool za0, z1_, .int .i64 za2, z3_, .int .i64 za4, .string za5, z6_, .int .i64 za7, .int .i64 za8, z9_, .bool za10]] ?_
 refine (laws_eqEnd.callsX k true _ (zx HX) (zx HU) A45.out).mono ?_
 rintro e wF ⟨rfl, hb⟩
 refine ⟨_, rfl, ?_⟩
 replace H0 := Aside0.mk ((zx H0).below hb); replace HG := Aside0.mk ((zx HG).below hb); replace BK4 := kb BK4 hb; replace BK6 := kb BK6 hb; replace BK8 := kb BK8 hb; replace BK9 := kb BK9 hb; replace HX := Aside0.mk ((zx HX).below hb); replace HB := Aside0.mk (below_step (zb HB) hb); clear hb
 refine hK.out _ _ (an (rg (cs := [.bool xa0, v1, .int .i64 xa2, v3, .int .i64 xa4, .string xa5, v6, .int .i64 xa7, .int .i64 xa8, v9, .bool xa10]) BK8) (rg (cs := [.bool a0_0, .slice A0_1 l0_1.length c0_1, .int .i64 a0_2, .slice A0_3 l0_3.length c0_3, .int .i64 a0_4, .string a0_5, .slice A0_6 l0_6.length c0_6, .int .i64 a0_7, .int .i64 a0_8, .slice A0_9 l0_9.length c0_9, .bool a0_10]) BK4)) (fun hHeld => ?_)
 clear hK K HU
 refine nm ?_
 refine pu 4 (some 69) (bm 5 31) rfl rfl ?_
 refine done_ (by kernel_rfl) ?_
 go_upto_if 69 with (fail)
 go_upto_region 18 with (first | ((with_reducible refine gd 70 rfl ?_); refine ld BK8 0 ([.bool xa0, v1, .int .i64 xa2, v3, .int .i64 xa4, .string xa5, v6, .int .i64 xa7, .int .i64 xa8, v9, .bool xa10] : List Value) Tryd.underlying39 ?_) | ((with_reducible refine gq 9 rfl ?_); refine gl (some 72) Tryd.func9 #[.agg #[.bool xa0, v1, .int .i64 xa2, v3, .int .i64 xa4, .string xa5, v6, .int .i64 xa7, .int .i64 xa8, v9, .bool xa10], .int .i64 1] ?_; (refine (laws_markEnd.callsX k 1 m0 n1 n3 n6 n9 w _ (zb HB) (zx HX) A59.out).mono ?_); rintro e w72 ⟨rfl, _, hb, hk⟩; refine ⟨_, rfl, ?_⟩; have z1 := L6.out; have z2 := LX.out; have z3 := LG.out; have z4 := G9.out; have z5 := X4.out; have z6 := X6.out; replace H0 := Aside0.mk ((zx H0).far hk (fun k h => by omega)); replace HG := Aside0.mk ((zx HG).far hk (fun k h => by omega)); replace BK4 := Aside0.mk (blk_kept (zk BK4) hk (by omega)); replace BK6 := Aside0.mk (blk_kept (zk BK6) hk (by omega)); replace BK9 := Aside0.mk (blk_kept (zk BK9) hk (by omega)); clear z1 z2 z3 z4 z5 z6 HX BK8; replace HB := Aside0.mk hb; clear hb hk))
 (try simp only [Act.put, s1, s2, s3])
 obtain ⟨h9c0, h9c1, h9c2, h9c3, h9c4, h9c5, h9c6, h9c7, h9c8, h9c9, h9c10, h9f0, h9f1, h9f2, h9f3, h9f4, h9f5, h9f6, h9f7, h9f8, h9f9, h9f10⟩ := c11 BK9
 obtain ⟨h6c0, h6c1, h6c2, h6c3, h6c4, h6c5, h6c6, h6c7, h6c8, h6c9, h6c10, h6f0, h6f1, h6f2, h6f3, h6f4, h6f5, h6f6, h6f7, h6f8, h6f9, h6f10⟩ := c11 BK6
 go_upto_if 90 with (first | (go_at_call 8; (refine (laws_eqEnd.callsX k true _ (zx HG) (zx H0) A65.out).mono ?_); rintro e w78 ⟨rfl, hb⟩; replace H0 := Aside0.mk ((zx H0).below hb); replace HG := Aside0.mk ((zx HG).below hb); replace BK4 := kb BK4 hb; replace BK6 := kb BK6 hb; replace BK9 := kb BK9 hb; replace HB := Aside0.mk (below_step (zb HB) hb); clear hb))
 (try simp only [Act.put, s1, s2, s3])
 clear h9c0 h9c1 h9c2 h9c3 h9c4 h9c5 h9c6 h9c7 h9c8 h9c9 h9c10 h9f0 h9f1 h9f2 h9f3 h9f4 h9f5 h9f6 h9f7 h9f8 h9f9 h9f10 h6c0 h6c1 h6c2 h6c3 h6c4 h6c5 h6c6 h6c7 h6c8 h6c9 h6c10 h6f0 h6f1 h6f2 h6f3 h6f4 h6f5 h6f6 h6f7 h6f8 h6f9 h6f10
 go_upto_if 124 with (first | ((with_reducible refine gd 91 rfl ?_); refine ld BK9 0 ([.bool ga0, b1, .int .i64 ga2, b3, .int .i64 ga4, .string ga5, b6, .int .i64 ga7, .int .i64 ga8, b9, .bool ga10] : List Value) Tryd.underlying39 ?_) | ((with_reducible refine gq 9 rfl ?_); refine gl (some 93) Tryd.func9 #[.agg #[.bool ga0, b1, .int .i64 ga2, b3, .int .i64 ga4, .string ga5, b6, .int .i64 ga7, .int .i64 ga8, b9, .bool ga10], .int .i64 1] ?_; (refine (laws_markEnd.callsX k 1 m1 m2 m3 m6 m9 w _ (zb HB) (zx HG) A68.out).mono ?_); rintro e w93 ⟨rfl, ho, hb, hk⟩; refine ⟨_, rfl, ?_⟩; have z1 := L6.out; have z2 := LX.out; have z3 := LG.out; have z4 := G9.out; have z5 := X4.out; have z6 := X6.out; replace H0 := Aside0.mk ((zx H0).far hk (fun k h => by omega)); clear HG; have HG := Aside0.mk ho; replace BK4 := Aside0.mk (blk_kept (zk BK4) hk (by omega)); replace BK6 := Aside0.mk (blk_kept (zk BK6) hk (by omega)); replace BK9 := Aside0.mk (blk_kept (zk BK9) hk (by omega)); clear z1 z2 z3 z4 z5 z6; replace HB := Aside0.mk hb; clear hb hk ho) | ((with_reducible refine gd 94 rfl ?_); refine ld BK9 0 ([.bool ga0, b1, .int .i64 ga2, b3, .int .i64 ga4, .string ga5, b6, .int .i64 ga7, .int .i64 ga8, b9, .bool ga10] : List Value) Tryd.underlying39 ?_) | ((with_reducible refine gq 10 rfl ?_); refine gl (some 96) Tryd.func10 #[.agg #[.bool ga0, b1, .int .i64 ga2, b3, .int .i64 ga4, .string ga5, b6, .int .i64 ga7, .int .i64 ga8, b9, .bool ga10], .int .i64 1] ?_; (refine (laws_heldEnd.callsX k 1 q _ (zx HG) A69.out).mono ?_); rintro e w96 ⟨rfl, hb⟩; refine ⟨_, rfl, ?_⟩; replace H0 := Aside0.mk ((zx H0).below hb); replace HG := Aside0.mk ((zx HG).below hb); replace BK4 := kb BK4 hb; replace BK6 := kb BK6 hb; replace BK9 := kb BK9 hb; replace HB := Aside0.mk (below_step (zb HB) hb); clear hb) | ((with_reducible refine gd 103 rfl ?_); refine ld BK4 0 ([.bool a0_0, .slice A0_1 l0_1.length c0_1, .int .i64 a0_2, .slice A0_3 l0_3.length c0_3, .int .i64 a0_4, .string a0_5, .slice A0_6 l0_6.length c0_6, .int .i64 a0_7, .int .i64 a0_8, .slice A0_9 l0_9.length c0_9, .bool a0_10] : List Value) Tryd.underlying30 ?_) | ((with_reducible refine gq 6 rfl ?_); refine gl (some 104) Tryd.func6 #[.agg #[.bool a0_0, .slice A0_1 l0_1.length c0_1, .int .i64 a0_2, .slice A0_3 l0_3.length c0_3, .int .i64 a0_4, .string a0_5, .slice A0_6 l0_6.length c0_6, .int .i64 a0_7, .int .i64 a0_8, .slice A0_9 l0_9.length c0_9, .bool a0_10]] ?_; (refine (laws_toEnd.callsI k a0_0 l0_1 a0_2 l0_3 a0_4 a0_5 l0_6 a0_7 a0_8 l0_9 a0_10 pa0 pa1 pa2 pa3 pa4 pa5 pa6 pa7 pa8 pa9 pa10 _ (HI.out.at (zb HB)) A75.out).mono ?_); rintro e w104 ⟨p1, p3, p6, p9, rfl, ho, hb⟩; refine ⟨_, rfl, ?_⟩; have HP := Aside0.mk ho; clear ho; replace H0 := Aside0.mk ((zx H0).below hb); replace HG := Aside0.mk ((zx HG).below hb); replace BK4 := kb BK4 hb; replace BK6 := kb BK6 hb; replace BK9 := kb BK9 hb; replace HB := Aside0.mk (below_step (zb HB) hb); clear hb) | ((with_reducible refine gq 7 rfl ?_); refine gl (some 107) Tryd.func7 #[.agg #[.bool pa0, p1, .int .i64 pa2, p3, .int .i64 pa4, .string pa5, p6, .int .i64 pa7, .int .i64 pa8, p9, .bool pa10], .string path, .string text] ?_; (refine (impl_EndCall.callsT k path text _ (zx HP) A76.out).mono ?_); rintro e w107 ⟨h1_, h3_, h6_, h9_, rfl, ho, hb⟩; refine ⟨_, rfl, ?_⟩; have HH := Aside0.mk (ho.mono (B' := fun k => k < w107.heap.size) (fun _ _ _ h => h)); have LH := Aside0.mk (show True from trivial); clear ho HP LH; replace H0 := Aside0.mk ((zx H0).below hb); replace HG := Aside0.mk ((zx HG).below hb); replace BK4 := kb BK4 hb; replace BK6 := kb BK6 hb; replace BK9 := kb BK9 hb; replace HB := Aside0.mk (below_step (zb HB) hb); clear hb) | ((with_reducible refine gd 18 rfl ?_); refine bx (N := 18) (cs := #[.bool false, .slice none 0 0, .int .i64 0, .slice none 0 0, .int .i64 0, .string (⟨#[]⟩ : ByteArray), .slice none 0 0, .int .i64 0, .int .i64 0, .slice none 0 0, .bool false]) (t := 39) ?_; intro g14 hg w18 hbox hb; have BK14 := Aside0.mk hbox; have S14 := gw HB hg; obtain ⟨N6E, NE6⟩ := nb BK6 hg; obtain ⟨N9E, NE9⟩ := nb BK9 hg; have NH := Aside0.mk (show ¬ g14 < w107.heap.size by rw [hg]; exact Nat.not_lt.2 ms); have M0 := Aside0.mk ((zx H0).mono (B' := fun k => k < w107.heap.size) (fun _ _ _ h => Nat.lt_of_lt_of_le h (Nat.le_of_eq (by first | rfl | simp)))); clear H0; have H0 := M0; clear M0; have M0 := Aside0.mk ((zx HG).mono (B' := fun k => k < w107.heap.size) (fun _ _ _ h => Nat.lt_of_lt_of_le h (Nat.le_of_eq (by first | rfl | simp)))); clear HG; have HG := M0; clear M0; replace HH := Aside0.mk ((zx HH).below hb); replace H0 := Aside0.mk ((zx H0).below hb); replace HG := Aside0.mk ((zx HG).below hb); replace BK6 := kb BK6 hb; replace BK9 := kb BK9 hb; replace HB := Aside0.mk (below_step (zb HB) hb); clear hb; clear hbox hg) | ((with_reducible refine gate_store (t := 39) (p := 18) rfl ?_); refine sd BK14 0 ([.bool ha0, h1_, .int .i64 ha2, h3_, .int .i64 ha4, .string ha5, h6_, .int .i64 ha7, .int .i64 ha8, h9_, .bool ha10] : List Value) #[.bool ha0, h1_, .int .i64 ha2, h3_, .int .i64 ha4, .string ha5, h6_, .int .i64 ha7, .int .i64 ha8, h9_, .bool ha10] ?_ ?h1; (case h1 => obtain ⟨o1, o3, o6, o9⟩ := (zx HH).ones; intro u hu; simp only [List.mem_cons, List.not_mem_nil, or_false] at hu; rcases hu with rfl | rfl | rfl | rfl | rfl | rfl | rfl | rfl | rfl | rfl | rfl <;> first | rfl | assumption); intro wG bkc hk hlow; replace BK6 := Aside0.mk (KeepBut.blk hk (zk BK6) N6E.out (by simp)); replace BK9 := Aside0.mk (KeepBut.blk hk (zk BK9) N9E.out (by simp)); replace H0 := Aside0.mk ((zx H0).keep hk NH.out); replace HG := Aside0.mk ((zx HG).keep hk NH.out); replace HH := Aside0.mk ((zx HH).keep hk NH.out); replace HB := Aside0.mk (hlow _ _ (zb HB) S14.out); replace BK14 := bkc; clear hk hlow bkc) | ((with_reducible refine gd 111 rfl ?_); refine ld BK14 0 ([.bool ha0, h1_, .int .i64 ha2, h3_, .int .i64 ha4, .string ha5, h6_, .int .i64 ha7, .int .i64 ha8, h9_, .bool ha10] : List Value) Tryd.underlying39 ?_) | ((with_reducible refine gd 112 rfl ?_); refine ld BK6 0 ([.bool wa0, a1, .int .i64 wa2, a3, .int .i64 wa4, .string wa5, a6, .int .i64 wa7, .int .i64 wa8, a9, .bool wa10] : List Value) Tryd.underlying39 ?_) | ((with_reducible refine gq 8 rfl ?_); refine gl (some 113) Tryd.func8 #[.agg #[.bool ha0, h1_, .int .i64 ha2, h3_, .int .i64 ha4, .string ha5, h6_, .int .i64 ha7, .int .i64 ha8, h9_, .bool ha10], .agg #[.bool wa0, a1, .int .i64 wa2, a3, .int .i64 wa4, .string wa5, a6, .int .i64 wa7, .int .i64 wa8, a9, .bool wa10]] ?_; (refine (laws_eqEnd.callsX k true _ (zx HH) (zx H0) A77.out).mono ?_); rintro e w113 ⟨rfl, hb⟩; refine ⟨_, rfl, ?_⟩; replace HG := Aside0.mk ((zx HG).below hb); replace BK9 := kb BK9 hb; replace HB := Aside0.mk (below_step (zb HB) hb); clear hb))
 (try simp only [Act.put, s1, s2, s3])
 go_wp2_with (first | ((with_reducible refine gd 125 rfl ?_); refine ld BK9 0 ([.bool ga0, b1, .int .i64 ga2, b3, .int .i64 ga4, .string ga5, b6, .int .i64 ga7, .int .i64 ga8, b9, .bool ga10] : List Value) Tryd.underlying39 ?_) | ((with_reducible refine gq 10 rfl ?_); refine gl (some 127) Tryd.func10 #[.agg #[.bool ga0, b1, .int .i64 ga2, b3, .int .i64 ga4, .string ga5, b6, .int .i64 ga7, .int .i64 ga8, b9, .bool ga10], .int .i64 1] ?_; (refine (laws_heldEnd.callsX k 1 uq _ (zx HG) A94.out).mono ?_); rintro e w127 ⟨rfl, hb⟩; refine ⟨_, rfl, ?_⟩; replace HB := Aside0.mk (below_step (zb HB) hb); clear hb))
 go_ret
 exact ⟨ze, zb HB⟩
end Go.Proofs.YtlpibelofcabhaaDoor.PFnExactEndCall
