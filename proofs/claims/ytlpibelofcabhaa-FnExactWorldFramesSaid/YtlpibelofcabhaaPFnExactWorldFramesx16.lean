-- WRITTEN BY a turned print (wip/tools of the prover's repo)
import Derived.Test.YtlpibelofcabhaaPFnExactWorldFramesx0
import Derived.Test.YtlpibelofcabhaaPFnExactWorldFramesx1
import Derived.Test.YtlpibelofcabhaaPFnExactWorldFramesx2
import Derived.Test.YtlpibelofcabhaaPFnExactWorldFramesx3
import Derived.Test.YtlpibelofcabhaaPFnExactWorldFramesx4
import Derived.Test.YtlpibelofcabhaaPFnExactWorldFramesx9
import Derived.Test.YtlpibelofcabhaaPFnExactWorldFramesx14
import Derived.Test.YtlpibelofcabhaaPFnExactWorldFramesx15
namespace Go.Proofs.Ytlpibelofcabhaa.PFnExactWorldFrames
open Go.RowKit Go.Proofs.YtlpibelofcabhaaW.PrintWords Go.Proofs.YtlpibelofcabhaaW.PrintLast Go.Proofs.YtlpibelofcabhaaW.PrintMore Go.Proofs.Ytlpibelofcabhaa.Lm
attribute [local go_sem] max2_int min2_int max_two min_two max_three min_three max_four min_four   -- for this text's walks alone
set_option linter.unusedVariables false
set_option linter.unusedSimpArgs false

/-! ### laws_FnExactWorldFrames: function 9 -/
/-- The slices that came in. -/
structure IB (w : World) (A0_1 : Option Addr) (c0_1 : Nat) (l0_1 : List S192) (A0_3 : Option Addr) (c0_3 : Nat) (l0_3 : List S192) (A0_6 : Option Addr) (c0_6 : Nat) (l0_6 : List S167) (A0_9 : Option Addr) (c0_9 : Nat) (l0_9 : List S169) (A0_12 : Option Addr) (c0_12 : Nat) (l0_12 : List S192) (A0_14 : Option Addr) (c0_14 : Nat) (l0_14 : List S192) (A0_17 : Option Addr) (c0_17 : Nat) (l0_17 : List S167) (A0_20 : Option Addr) (c0_20 : Nat) (l0_20 : List S169) : Prop where
  all : (Kd.C k192 w A0_1 l0_1.length l0_1 ∧ l0_1.length ≤ c0_1) ∧ (Kd.C k192 w A0_3 l0_3.length l0_3 ∧ l0_3.length ≤ c0_3) ∧ (Kd.C k167 w A0_6 l0_6.length l0_6 ∧ l0_6.length ≤ c0_6) ∧ (Kd.C k169 w A0_9 l0_9.length l0_9 ∧ l0_9.length ≤ c0_9) ∧ (Kd.C k192 w A0_12 l0_12.length l0_12 ∧ l0_12.length ≤ c0_12) ∧ (Kd.C k192 w A0_14 l0_14.length l0_14 ∧ l0_14.length ≤ c0_14) ∧ (Kd.C k167 w A0_17 l0_17.length l0_17 ∧ l0_17.length ≤ c0_17) ∧ (Kd.C k169 w A0_20 l0_20.length l0_20 ∧ l0_20.length ≤ c0_20)
theorem IB.at {w W : World} {A0_1 : Option Addr} {c0_1 : Nat} {l0_1 : List S192} {A0_3 : Option Addr} {c0_3 : Nat} {l0_3 : List S192} {A0_6 : Option Addr} {c0_6 : Nat} {l0_6 : List S167} {A0_9 : Option Addr} {c0_9 : Nat} {l0_9 : List S169} {A0_12 : Option Addr} {c0_12 : Nat} {l0_12 : List S192} {A0_14 : Option Addr} {c0_14 : Nat} {l0_14 : List S192} {A0_17 : Option Addr} {c0_17 : Nat} {l0_17 : List S167} {A0_20 : Option Addr} {c0_20 : Nat} {l0_20 : List S169} (h : IB w A0_1 c0_1 l0_1 A0_3 c0_3 l0_3 A0_6 c0_6 l0_6 A0_9 c0_9 l0_9 A0_12 c0_12 l0_12 A0_14 c0_14 l0_14 A0_17 c0_17 l0_17 A0_20 c0_20 l0_20) (hb : Below w.heap.size w W) : IB W A0_1 c0_1 l0_1 A0_3 c0_3 l0_3 A0_6 c0_6 l0_6 A0_9 c0_9 l0_9 A0_12 c0_12 l0_12 A0_14 c0_14 l0_14 A0_17 c0_17 l0_17 A0_20 c0_20 l0_20 := by
  obtain ⟨⟨h1, d1⟩, ⟨h3, d3⟩, ⟨h6, d6⟩, ⟨h9, d9⟩, ⟨h12, d12⟩, ⟨h14, d14⟩, ⟨h17, d17⟩, ⟨h20, d20⟩⟩ := h
  exact ⟨⟨Kd.C_below h1 hb, d1⟩, ⟨Kd.C_below h3 hb, d3⟩, ⟨Kd.C_below h6 hb, d6⟩, ⟨Kd.C_below h9 hb, d9⟩, ⟨Kd.C_below h12 hb, d12⟩, ⟨Kd.C_below h14 hb, d14⟩, ⟨Kd.C_below h17 hb, d17⟩, ⟨Kd.C_below h20 hb, d20⟩⟩
theorem laws_szWorld.callsI (k : Nat) (a0_0 : Bool) {A0_1 : Option Addr} {c0_1 : Nat} (l0_1 : List S192) (a0_2 : Int) {A0_3 : Option Addr} {c0_3 : Nat} (l0_3 : List S192) (a0_4 : Int) (a0_5 : ByteArray) {A0_6 : Option Addr} {c0_6 : Nat} (l0_6 : List S167) (a0_7 : Int) (a0_8 : Int) {A0_9 : Option Addr} {c0_9 : Nat} (l0_9 : List S169) (a0_10 : Bool) (a0_11 : Bool) {A0_12 : Option Addr} {c0_12 : Nat} (l0_12 : List S192) (a0_13 : Int) {A0_14 : Option Addr} {c0_14 : Nat} (l0_14 : List S192) (a0_15 : Int) (a0_16 : ByteArray) {A0_17 : Option Addr} {c0_17 : Nat} (l0_17 : List S167) (a0_18 : Int) (a0_19 : Int) {A0_20 : Option Addr} {c0_20 : Nat} (l0_20 : List S169) (a0_21 : Bool) (a0_22 : ByteArray) (a0_23 : ByteArray) (a1 r : Int) (w : World) (h0 : IB w A0_1 c0_1 l0_1 A0_3 c0_3 l0_3 A0_6 c0_6 l0_6 A0_9 c0_9 l0_9 A0_12 c0_12 l0_12 A0_14 c0_14 l0_14 A0_17 c0_17 l0_17 A0_20 c0_20 l0_20) (h : laws_szWorld.f k a0_0 l0_1 a0_2 l0_3 a0_4 a0_5 l0_6 a0_7 a0_8 l0_9 a0_10 a0_11 l0_12 a0_13 l0_14 a0_15 a0_16 l0_17 a0_18 a0_19 l0_20 a0_21 a0_22 a0_23 a1 = some r) : Calls Try.prog 38 #[.agg #[.bool a0_0, .slice A0_1 l0_1.length c0_1, .int .i64 a0_2, .slice A0_3 l0_3.length c0_3, .int .i64 a0_4, .string a0_5, .slice A0_6 l0_6.length c0_6, .int .i64 a0_7, .int .i64 a0_8, .slice A0_9 l0_9.length c0_9, .bool a0_10, .bool a0_11, .slice A0_12 l0_12.length c0_12, .int .i64 a0_13, .slice A0_14 l0_14.length c0_14, .int .i64 a0_15, .string a0_16, .slice A0_17 l0_17.length c0_17, .int .i64 a0_18, .int .i64 a0_19, .slice A0_20 l0_20.length c0_20, .bool a0_21, .string a0_22, .string a0_23], .int .i64 a1] w fun e w' => e = .returned (.int .i64 r) ∧ Below w.heap.size w w' := by
  obtain ⟨⟨h1, d1⟩, ⟨h3, d3⟩, ⟨h6, d6⟩, ⟨h9, d9⟩, ⟨h12, d12⟩, ⟨h14, d14⟩, ⟨h17, d17⟩, ⟨h20, d20⟩⟩ := h0
  exact laws_szWorld.calls k a0_0 _ _ l0_1 a0_2 _ _ l0_3 a0_4 a0_5 _ _ l0_6 a0_7 a0_8 _ _ l0_9 a0_10 a0_11 _ _ l0_12 a0_13 _ _ l0_14 a0_15 a0_16 _ _ l0_17 a0_18 a0_19 _ _ l0_20 a0_21 a0_22 a0_23 a1 r w h1 d1 h3 d3 h6 d6 h9 d9 h12 d12 h14 d14 h17 d17 h20 d20 h
theorem laws_toWorld.callsI (k : Nat) (a0_0 : Bool) {A0_1 : Option Addr} {c0_1 : Nat} (l0_1 : List S192) (a0_2 : Int) {A0_3 : Option Addr} {c0_3 : Nat} (l0_3 : List S192) (a0_4 : Int) (a0_5 : ByteArray) {A0_6 : Option Addr} {c0_6 : Nat} (l0_6 : List S167) (a0_7 : Int) (a0_8 : Int) {A0_9 : Option Addr} {c0_9 : Nat} (l0_9 : List S169) (a0_10 : Bool) (a0_11 : Bool) {A0_12 : Option Addr} {c0_12 : Nat} (l0_12 : List S192) (a0_13 : Int) {A0_14 : Option Addr} {c0_14 : Nat} (l0_14 : List S192) (a0_15 : Int) (a0_16 : ByteArray) {A0_17 : Option Addr} {c0_17 : Nat} (l0_17 : List S167) (a0_18 : Int) (a0_19 : Int) {A0_20 : Option Addr} {c0_20 : Nat} (l0_20 : List S169) (a0_21 : Bool) (a0_22 : ByteArray) (a0_23 : ByteArray) (x0 : Bool) (x1 : List S88) (x2 : Int) (x3 : List S88) (x4 : Int) (x5 : ByteArray) (x6 : List S104) (x7 : Int) (x8 : Int) (x9 : List S110) (x10 : Bool) (x11 : Bool) (x12 : List S88) (x13 : Int) (x14 : List S88) (x15 : Int) (x16 : ByteArray) (x17 : List S104) (x18 : Int) (x19 : Int) (x20 : List S110) (x21 : Bool) (x22 : ByteArray) (x23 : ByteArray) (w : World) (h0 : IB w A0_1 c0_1 l0_1 A0_3 c0_3 l0_3 A0_6 c0_6 l0_6 A0_9 c0_9 l0_9 A0_12 c0_12 l0_12 A0_14 c0_14 l0_14 A0_17 c0_17 l0_17 A0_20 c0_20 l0_20) (h : laws_toWorld.f k a0_0 l0_1 a0_2 l0_3 a0_4 a0_5 l0_6 a0_7 a0_8 l0_9 a0_10 a0_11 l0_12 a0_13 l0_14 a0_15 a0_16 l0_17 a0_18 a0_19 l0_20 a0_21 a0_22 a0_23 = some (x0, x1, x2, x3, x4, x5, x6, x7, x8, x9, x10, x11, x12, x13, x14, x15, x16, x17, x18, x19, x20, x21, x22, x23)) : Calls Try.prog 40 #[.agg #[.bool a0_0, .slice A0_1 l0_1.length c0_1, .int .i64 a0_2, .slice A0_3 l0_3.length c0_3, .int .i64 a0_4, .string a0_5, .slice A0_6 l0_6.length c0_6, .int .i64 a0_7, .int .i64 a0_8, .slice A0_9 l0_9.length c0_9, .bool a0_10, .bool a0_11, .slice A0_12 l0_12.length c0_12, .int .i64 a0_13, .slice A0_14 l0_14.length c0_14, .int .i64 a0_15, .string a0_16, .slice A0_17 l0_17.length c0_17, .int .i64 a0_18, .int .i64 a0_19, .slice A0_20 l0_20.length c0_20, .bool a0_21, .string a0_22, .string a0_23]] w fun e w' => ∃ v1 v3 v6 v9 v12 v14 v17 v20 : Value, e = .returned (.agg #[.bool x0, v1, .int .i64 x2, v3, .int .i64 x4, .string x5, v6, .int .i64 x7, .int .i64 x8, v9, .bool x10, .bool x11, v12, .int .i64 x13, v14, .int .i64 x15, .string x16, v17, .int .i64 x18, .int .i64 x19, v20, .bool x21, .string x22, .string x23]) ∧ WB w' w.heap.size w.heap.size w'.heap.size v1 v3 v6 v9 v12 v14 v17 v20 x1 x3 x6 x9 x12 x14 x17 x20 ∧ Below w.heap.size w w' := by
  obtain ⟨⟨h1, d1⟩, ⟨h3, d3⟩, ⟨h6, d6⟩, ⟨h9, d9⟩, ⟨h12, d12⟩, ⟨h14, d14⟩, ⟨h17, d17⟩, ⟨h20, d20⟩⟩ := h0
  exact laws_toWorld.calls k a0_0 _ _ l0_1 a0_2 _ _ l0_3 a0_4 a0_5 _ _ l0_6 a0_7 a0_8 _ _ l0_9 a0_10 a0_11 _ _ l0_12 a0_13 _ _ l0_14 a0_15 a0_16 _ _ l0_17 a0_18 a0_19 _ _ l0_20 a0_21 a0_22 a0_23 x0 x1 x2 x3 x4 x5 x6 x7 x8 x9 x10 x11 x12 x13 x14 x15 x16 x17 x18 x19 x20 x21 x22 x23 w h1 d1 h3 d3 h6 d6 h9 d9 h12 d12 h14 d14 h17 d17 h20 d20 h
theorem spec_WorldFrames.callsW (k : Nat) {b lo hi : Nat} {v1 v3 v6 v9 v12 v14 v17 v20 : Value} {x0 : Bool} {x1 : List S88} {x2 : Int} {x3 : List S88} {x4 : Int} {x5 : ByteArray} {x6 : List S104} {x7 : Int} {x8 : Int} {x9 : List S110} {x10 : Bool} {x11 : Bool} {x12 : List S88} {x13 : Int} {x14 : List S88} {x15 : Int} {x16 : ByteArray} {x17 : List S104} {x18 : Int} {x19 : Int} {x20 : List S110} {x21 : Bool} {x22 : ByteArray} {x23 : ByteArray} (a1 : Int) (r : List S110) (w : World) (W : WB w b lo hi v1 v3 v6 v9 v12 v14 v17 v20 x1 x3 x6 x9 x12 x14 x17 x20) (h : spec_WorldFrames.f k x0 x1 x2 x3 x4 x5 x6 x7 x8 x9 x10 x11 x12 x13 x14 x15 x16 x17 x18 x19 x20 x21 x22 x23 a1 = some r) : Calls Try.prog 42 #[.agg #[.bool x0, v1, .int .i64 x2, v3, .int .i64 x4, .string x5, v6, .int .i64 x7, .int .i64 x8, v9, .bool x10, .bool x11, v12, .int .i64 x13, v14, .int .i64 x15, .string x16, v17, .int .i64 x18, .int .i64 x19, v20, .bool x21, .string x22, .string x23], .int .i64 a1] w fun e w' => ∃ v0_ : Value, e = .returned v0_ ∧ Kd.R k110 110 w' w.heap.size (fun _ => True) v0_ r ∧ Below w.heap.size w w' := by
  obtain ⟨P, Q, E, F, _⟩ := W.ex
  obtain ⟨A0, c0, rfl⟩ := Kd.R_slice E.r1
  obtain ⟨A1, c1, rfl⟩ := Kd.R_slice E.r3
  obtain ⟨A2, c2, rfl⟩ := Kd.S_slice E.s6
  obtain ⟨A3, c3, rfl⟩ := Kd.R_slice E.r9
  obtain ⟨A4, c4, rfl⟩ := Kd.R_slice F.r1
  obtain ⟨A5, c5, rfl⟩ := Kd.R_slice F.r3
  obtain ⟨A6, c6, rfl⟩ := Kd.S_slice F.s6
  obtain ⟨A7, c7, rfl⟩ := Kd.R_slice F.r9
  exact spec_WorldFrames.calls k x0 _ _ x1 x2 _ _ x3 x4 x5 _ _ x6 x7 x8 _ _ x9 x10 x11 _ _ x12 x13 _ _ x14 x15 x16 _ _ x17 x18 x19 _ _ x20 x21 x22 x23 a1 r w (Kd.R_reads' E.r1).2.2 (Kd.R_reads' E.r1).2.1 (Kd.R_reads' E.r3).2.2 (Kd.R_reads' E.r3).2.1 (Kd.S_reads' E.s6).2.2 (Kd.S_reads' E.s6).2.1 (Kd.R_reads' E.r9).2.2 (Kd.R_reads' E.r9).2.1 (Kd.R_reads' F.r1).2.2 (Kd.R_reads' F.r1).2.1 (Kd.R_reads' F.r3).2.2 (Kd.R_reads' F.r3).2.1 (Kd.S_reads' F.s6).2.2 (Kd.S_reads' F.s6).2.1 (Kd.R_reads' F.r9).2.2 (Kd.R_reads' F.r9).2.1 h
theorem impl_WorldFrames.callsW (k : Nat) {b lo hi : Nat} {v1 v3 v6 v9 v12 v14 v17 v20 : Value} {x0 : Bool} {x1 : List S88} {x2 : Int} {x3 : List S88} {x4 : Int} {x5 : ByteArray} {x6 : List S104} {x7 : Int} {x8 : Int} {x9 : List S110} {x10 : Bool} {x11 : Bool} {x12 : List S88} {x13 : Int} {x14 : List S88} {x15 : Int} {x16 : ByteArray} {x17 : List S104} {x18 : Int} {x19 : Int} {x20 : List S110} {x21 : Bool} {x22 : ByteArray} {x23 : ByteArray} (a1 : Int) (r : List S110) (w : World) (W : WB w b lo hi v1 v3 v6 v9 v12 v14 v17 v20 x1 x3 x6 x9 x12 x14 x17 x20) (h : impl_WorldFrames.f k x0 x1 x2 x3 x4 x5 x6 x7 x8 x9 x10 x11 x12 x13 x14 x15 x16 x17 x18 x19 x20 x21 x22 x23 a1 = some r) : Calls Try.prog 43 #[.agg #[.bool x0, v1, .int .i64 x2, v3, .int .i64 x4, .string x5, v6, .int .i64 x7, .int .i64 x8, v9, .bool x10, .bool x11, v12, .int .i64 x13, v14, .int .i64 x15, .string x16, v17, .int .i64 x18, .int .i64 x19, v20, .bool x21, .string x22, .string x23], .int .i64 a1] w fun e w' => ∃ v0_ : Value, e = .returned v0_ ∧ Kd.R k110 110 w' w.heap.size (fun _ => True) v0_ r ∧ Below w.heap.size w w' := by
  obtain ⟨P, Q, E, F, _⟩ := W.ex
  obtain ⟨A0, c0, rfl⟩ := Kd.R_slice E.r1
  obtain ⟨A1, c1, rfl⟩ := Kd.R_slice E.r3
  obtain ⟨A2, c2, rfl⟩ := Kd.S_slice E.s6
  obtain ⟨A3, c3, rfl⟩ := Kd.R_slice E.r9
  obtain ⟨A4, c4, rfl⟩ := Kd.R_slice F.r1
  obtain ⟨A5, c5, rfl⟩ := Kd.R_slice F.r3
  obtain ⟨A6, c6, rfl⟩ := Kd.S_slice F.s6
  obtain ⟨A7, c7, rfl⟩ := Kd.R_slice F.r9
  exact impl_WorldFrames.calls k x0 _ _ x1 x2 _ _ x3 x4 x5 _ _ x6 x7 x8 _ _ x9 x10 x11 _ _ x12 x13 _ _ x14 x15 x16 _ _ x17 x18 x19 _ _ x20 x21 x22 x23 a1 r w (Kd.R_reads' E.r1).2.2 (Kd.R_reads' E.r1).2.1 (Kd.R_reads' E.r3).2.2 (Kd.R_reads' E.r3).2.1 (Kd.S_reads' E.s6).2.2 (Kd.S_reads' E.s6).2.1 (Kd.R_reads' E.r9).2.2 (Kd.R_reads' E.r9).2.1 (Kd.R_reads' F.r1).2.2 (Kd.R_reads' F.r1).2.1 (Kd.R_reads' F.r3).2.2 (Kd.R_reads' F.r3).2.1 (Kd.S_reads' F.s6).2.2 (Kd.S_reads' F.s6).2.1 (Kd.R_reads' F.r9).2.2 (Kd.R_reads' F.r9).2.1 h
theorem laws_eqWorld.callsW (k : Nat) {b lo hi b' lo' hi' : Nat} {v1 v3 v6 v9 v12 v14 v17 v20 : Value} {x0 : Bool} {x1 : List S88} {x2 : Int} {x3 : List S88} {x4 : Int} {x5 : ByteArray} {x6 : List S104} {x7 : Int} {x8 : Int} {x9 : List S110} {x10 : Bool} {x11 : Bool} {x12 : List S88} {x13 : Int} {x14 : List S88} {x15 : Int} {x16 : ByteArray} {x17 : List S104} {x18 : Int} {x19 : Int} {x20 : List S110} {x21 : Bool} {x22 : ByteArray} {x23 : ByteArray} {u1 u3 u6 u9 u12 u14 u17 u20 : Value} {y0 : Bool} {y1 : List S88} {y2 : Int} {y3 : List S88} {y4 : Int} {y5 : ByteArray} {y6 : List S104} {y7 : Int} {y8 : Int} {y9 : List S110} {y10 : Bool} {y11 : Bool} {y12 : List S88} {y13 : Int} {y14 : List S88} {y15 : Int} {y16 : ByteArray} {y17 : List S104} {y18 : Int} {y19 : Int} {y20 : List S110} {y21 : Bool} {y22 : ByteArray} {y23 : ByteArray} (r : Bool) (w : World) (W : WB w b lo hi v1 v3 v6 v9 v12 v14 v17 v20 x1 x3 x6 x9 x12 x14 x17 x20) (U : WB w b' lo' hi' u1 u3 u6 u9 u12 u14 u17 u20 y1 y3 y6 y9 y12 y14 y17 y20) (h : laws_eqWorld.f k x0 x1 x2 x3 x4 x5 x6 x7 x8 x9 x10 x11 x12 x13 x14 x15 x16 x17 x18 x19 x20 x21 x22 x23 y0 y1 y2 y3 y4 y5 y6 y7 y8 y9 y10 y11 y12 y13 y14 y15 y16 y17 y18 y19 y20 y21 y22 y23 = some r) : Calls Try.prog 27 #[.agg #[.bool x0, v1, .int .i64 x2, v3, .int .i64 x4, .string x5, v6, .int .i64 x7, .int .i64 x8, v9, .bool x10, .bool x11, v12, .int .i64 x13, v14, .int .i64 x15, .string x16, v17, .int .i64 x18, .int .i64 x19, v20, .bool x21, .string x22, .string x23], .agg #[.bool y0, u1, .int .i64 y2, u3, .int .i64 y4, .string y5, u6, .int .i64 y7, .int .i64 y8, u9, .bool y10, .bool y11, u12, .int .i64 y13, u14, .int .i64 y15, .string y16, u17, .int .i64 y18, .int .i64 y19, u20, .bool y21, .string y22, .string y23]] w fun e w' => e = .returned (.bool r) ∧ Below w.heap.size w w' := by
  obtain ⟨P, Q, E, F, _⟩ := W.ex
  obtain ⟨P', Q', G, H, _⟩ := U.ex
  obtain ⟨A0, c0, rfl⟩ := Kd.R_slice E.r1
  obtain ⟨A1, c1, rfl⟩ := Kd.R_slice E.r3
  obtain ⟨A2, c2, rfl⟩ := Kd.S_slice E.s6
  obtain ⟨A3, c3, rfl⟩ := Kd.R_slice E.r9
  obtain ⟨A4, c4, rfl⟩ := Kd.R_slice F.r1
  obtain ⟨A5, c5, rfl⟩ := Kd.R_slice F.r3
  obtain ⟨A6, c6, rfl⟩ := Kd.S_slice F.s6
  obtain ⟨A7, c7, rfl⟩ := Kd.R_slice F.r9
  obtain ⟨Au0, cu0, rfl⟩ := Kd.R_slice G.r1
  obtain ⟨Au1, cu1, rfl⟩ := Kd.R_slice G.r3
  obtain ⟨Au2, cu2, rfl⟩ := Kd.S_slice G.s6
  obtain ⟨Au3, cu3, rfl⟩ := Kd.R_slice G.r9
  obtain ⟨Au4, cu4, rfl⟩ := Kd.R_slice H.r1
  obtain ⟨Au5, cu5, rfl⟩ := Kd.R_slice H.r3
  obtain ⟨Au6, cu6, rfl⟩ := Kd.S_slice H.s6
  obtain ⟨Au7, cu7, rfl⟩ := Kd.R_slice H.r9
  exact laws_eqWorld.calls k x0 _ _ x1 x2 _ _ x3 x4 x5 _ _ x6 x7 x8 _ _ x9 x10 x11 _ _ x12 x13 _ _ x14 x15 x16 _ _ x17 x18 x19 _ _ x20 x21 x22 x23 y0 _ _ y1 y2 _ _ y3 y4 y5 _ _ y6 y7 y8 _ _ y9 y10 y11 _ _ y12 y13 _ _ y14 y15 y16 _ _ y17 y18 y19 _ _ y20 y21 y22 y23 r w (Kd.R_reads' E.r1).2.2 (Kd.R_reads' E.r1).2.1 (Kd.R_reads' E.r3).2.2 (Kd.R_reads' E.r3).2.1 (Kd.S_reads' E.s6).2.2 (Kd.S_reads' E.s6).2.1 (Kd.R_reads' E.r9).2.2 (Kd.R_reads' E.r9).2.1 (Kd.R_reads' F.r1).2.2 (Kd.R_reads' F.r1).2.1 (Kd.R_reads' F.r3).2.2 (Kd.R_reads' F.r3).2.1 (Kd.S_reads' F.s6).2.2 (Kd.S_reads' F.s6).2.1 (Kd.R_reads' F.r9).2.2 (Kd.R_reads' F.r9).2.1 (Kd.R_reads' G.r1).2.2 (Kd.R_reads' G.r1).2.1 (Kd.R_reads' G.r3).2.2 (Kd.R_reads' G.r3).2.1 (Kd.S_reads' G.s6).2.2 (Kd.S_reads' G.s6).2.1 (Kd.R_reads' G.r9).2.2 (Kd.R_reads' G.r9).2.1 (Kd.R_reads' H.r1).2.2 (Kd.R_reads' H.r1).2.1 (Kd.R_reads' H.r3).2.2 (Kd.R_reads' H.r3).2.1 (Kd.S_reads' H.s6).2.2 (Kd.S_reads' H.s6).2.1 (Kd.R_reads' H.r9).2.2 (Kd.R_reads' H.r9).2.1 h
theorem laws_eqFrameS.callsV (k : Nat) {b b' : Nat} {o o' : Nat → Prop} {v u : Value} {l m : List S110} (r : Bool) (w : World) (hv : Kd.R k110 110 w b o v l) (hu : Kd.R k110 110 w b' o' u m) (h : laws_eqFrameS.f k l m = some r) : Calls Try.prog 44 #[v, u] w fun e w' => e = .returned (.bool r) ∧ Below w.heap.size w w' := by
  obtain ⟨A, c, rfl⟩ := Kd.R_slice hv
  obtain ⟨B, d, rfl⟩ := Kd.R_slice hu
  exact laws_eqFrameS.calls k _ _ l _ _ m r w (Kd.R_reads' hv).2.2 (Kd.R_reads' hv).2.1 (Kd.R_reads' hu).2.2 (Kd.R_reads' hu).2.1 h
theorem laws_heldFrameS.callsV (k : Nat) {b : Nat} {o : Nat → Prop} {v : Value} {l : List S110} (a1 r : Int) (w : World) (hv : Kd.R k110 110 w b o v l) (h : laws_heldFrameS.f k l a1 = some r) : Calls Try.prog 46 #[v, .int .i64 a1] w fun e w' => e = .returned (.int .i64 r) ∧ Below w.heap.size w w' := by
  obtain ⟨A, c, rfl⟩ := Kd.R_slice hv
  exact laws_heldFrameS.calls k _ _ l a1 r w (Kd.R_reads' hv).2.2 (Kd.R_reads' hv).2.1 h
theorem far_row {w w' : World} {b lo hi : Nat} {v : Value} {l : List S110} {S : Nat → Prop} (h : Kd.R k110 110 w b (fun k => some k = v.ownBlock) v l) (hk : Kept w w' S) (hS : ∀ k, S k → lo ≤ k ∧ k < hi) (hv : ∀ k, v.ownBlock = some k → k < lo ∨ hi ≤ k) : Kd.R k110 110 w' b (fun k => some k = v.ownBlock) v l :=
  Kd.R_step h (fun k e hl => hk.2 k hl (fun h2 => by have := hS k h2; have := hv k e.symm; omega))
theorem WB.ones {w : World} {b lo hi : Nat} {v1 v3 v6 v9 v12 v14 v17 v20 : Value} {x1 : List S88} {x3 : List S88} {x6 : List S104} {x9 : List S110} {x12 : List S88} {x14 : List S88} {x17 : List S104} {x20 : List S110} (W : WB w b lo hi v1 v3 v6 v9 v12 v14 v17 v20 x1 x3 x6 x9 x12 x14 x17 x20) : v1.oneCell' = true ∧ v3.oneCell' = true ∧ v6.oneCell' = true ∧ v9.oneCell' = true ∧ v12.oneCell' = true ∧ v14.oneCell' = true ∧ v17.oneCell' = true ∧ v20.oneCell' = true := by
  obtain ⟨P, Q, E, F, _⟩ := W.ex
  obtain ⟨a, c, d, e⟩ := E.one
  obtain ⟨f, g, h, i⟩ := F.one
  exact ⟨a, c, d, e, f, g, h, i⟩
abbrev RG (g : Nat) (cs : List Value) (W : World) : Prop := W.rangeAt g 0 cs
theorem rg {g T : Nat} {cs : List Value} {W : World} (h : Aside0 (W.heap[g]? = some (.cells cs.toArray T (0, 0)))) : RG g cs W := by
  have h1 := World.rangeAt_of_block h.out 0 cs.length
  simpa using h1
abbrev TW := Bool × List S88 × Int × List S88 × Int × ByteArray × List S104 × Int × Int × List S110 × Bool × Bool × List S88 × Int × List S88 × Int × ByteArray × List S104 × Int × Int × List S110 × Bool × ByteArray × ByteArray
def uW {β : Type} (g : Bool → List S88 → Int → List S88 → Int → ByteArray → List S104 → Int → Int → List S110 → Bool → Bool → List S88 → Int → List S88 → Int → ByteArray → List S104 → Int → Int → List S110 → Bool → ByteArray → ByteArray → β) (b : TW) : β := g b.1 b.2.1 b.2.2.1 b.2.2.2.1 b.2.2.2.2.1 b.2.2.2.2.2.1 b.2.2.2.2.2.2.1 b.2.2.2.2.2.2.2.1 b.2.2.2.2.2.2.2.2.1 b.2.2.2.2.2.2.2.2.2.1 b.2.2.2.2.2.2.2.2.2.2.1 b.2.2.2.2.2.2.2.2.2.2.2.1 b.2.2.2.2.2.2.2.2.2.2.2.2.1 b.2.2.2.2.2.2.2.2.2.2.2.2.2.1 b.2.2.2.2.2.2.2.2.2.2.2.2.2.2.1 b.2.2.2.2.2.2.2.2.2.2.2.2.2.2.2.1 b.2.2.2.2.2.2.2.2.2.2.2.2.2.2.2.2.1 b.2.2.2.2.2.2.2.2.2.2.2.2.2.2.2.2.2.1 b.2.2.2.2.2.2.2.2.2.2.2.2.2.2.2.2.2.2.1 b.2.2.2.2.2.2.2.2.2.2.2.2.2.2.2.2.2.2.2.1 b.2.2.2.2.2.2.2.2.2.2.2.2.2.2.2.2.2.2.2.2.1 b.2.2.2.2.2.2.2.2.2.2.2.2.2.2.2.2.2.2.2.2.2.1 b.2.2.2.2.2.2.2.2.2.2.2.2.2.2.2.2.2.2.2.2.2.2.1 b.2.2.2.2.2.2.2.2.2.2.2.2.2.2.2.2.2.2.2.2.2.2.2
def laws_FnExactWorldFrames.f (k : Nat) (a0_0 : Bool) (l0_1 : List S192) (a0_2 : Int) (l0_3 : List S192) (a0_4 : Int) (a0_5 : ByteArray) (l0_6 : List S167) (a0_7 : Int) (a0_8 : Int) (l0_9 : List S169) (a0_10 : Bool) (a0_11 : Bool) (l0_12 : List S192) (a0_13 : Int) (l0_14 : List S192) (a0_15 : Int) (a0_16 : ByteArray) (l0_17 : List S167) (a0_18 : Int) (a0_19 : Int) (l0_20 : List S169) (a0_21 : Bool) (a0_22 : ByteArray) (a0_23 : ByteArray) (a1 : Int) : Option Bool :=
 (laws_szWorld.f k a0_0 l0_1 a0_2 l0_3 a0_4 a0_5 l0_6 a0_7 a0_8 l0_9 a0_10 a0_11 l0_12 a0_13 l0_14 a0_15 a0_16 l0_17 a0_18 a0_19 l0_20 a0_21 a0_22 a0_23 1048576).bind fun s => if s < 0 then some true else (laws_toWorld.f k a0_0 l0_1 a0_2 l0_3 a0_4 a0_5 l0_6 a0_7 a0_8 l0_9 a0_10 a0_11 l0_12 a0_13 l0_14 a0_15 a0_16 l0_17 a0_18 a0_19 l0_20 a0_21 a0_22 a0_23).bind fun y => (uW (spec_WorldFrames.f k) y a1).bind fun w0 => (laws_toWorld.f k a0_0 l0_1 a0_2 l0_3 a0_4 a0_5 l0_6 a0_7 a0_8 l0_9 a0_10 a0_11 l0_12 a0_13 l0_14 a0_15 a0_16 l0_17 a0_18 a0_19 l0_20 a0_21 a0_22 a0_23).bind fun x => (uW (impl_WorldFrames.f k) x a1).bind fun g0 => (laws_eqFrameS.f k g0 w0).bind fun e1 => if e1 = true then ((laws_toWorld.f k a0_0 l0_1 a0_2 l0_3 a0_4 a0_5 l0_6 a0_7 a0_8 l0_9 a0_10 a0_11 l0_12 a0_13 l0_14 a0_15 a0_16 l0_17 a0_18 a0_19 l0_20 a0_21 a0_22 a0_23).bind fun z => (uW (uW (laws_eqWorld.f k) x) z).bind fun e2 => if e2 = true then (uW (laws_markWorld.f k) x 1).bind fun m0 => if m0 < 0 then some false else (laws_eqFrameS.f k g0 w0).bind fun e3 => if e3 = true then (laws_markFrameS.f k g0 1).bind fun m => (laws_heldFrameS.f k m.2 1).bind fun q => if q < 0 then some false else if q = m.1 then ((laws_toWorld.f k a0_0 l0_1 a0_2 l0_3 a0_4 a0_5 l0_6 a0_7 a0_8 l0_9 a0_10 a0_11 l0_12 a0_13 l0_14 a0_15 a0_16 l0_17 a0_18 a0_19 l0_20 a0_21 a0_22 a0_23).bind fun p => (uW (impl_WorldFrames.f k) p a1).bind fun h0 => (laws_eqFrameS.f k h0 w0).bind fun e4 => if e4 = true then (laws_heldFrameS.f k m.2 1).bind fun q2 => if q2 < 0 then some false else if q2 = m.1 then some true else some false else some false) else some false else some false else some false) else some false
set_option maxHeartbeats 8000000 in
set_option maxRecDepth 100000 in
theorem laws_FnExactWorldFrames.calls (k : Nat) (a0_0 : Bool) (A0_1 : Option Addr) (c0_1 : Nat) (l0_1 : List S192) (a0_2 : Int) (A0_3 : Option Addr) (c0_3 : Nat) (l0_3 : List S192) (a0_4 : Int) (a0_5 : ByteArray) (A0_6 : Option Addr) (c0_6 : Nat) (l0_6 : List S167) (a0_7 : Int) (a0_8 : Int) (A0_9 : Option Addr) (c0_9 : Nat) (l0_9 : List S169) (a0_10 : Bool) (a0_11 : Bool) (A0_12 : Option Addr) (c0_12 : Nat) (l0_12 : List S192) (a0_13 : Int) (A0_14 : Option Addr) (c0_14 : Nat) (l0_14 : List S192) (a0_15 : Int) (a0_16 : ByteArray) (A0_17 : Option Addr) (c0_17 : Nat) (l0_17 : List S167) (a0_18 : Int) (a0_19 : Int) (A0_20 : Option Addr) (c0_20 : Nat) (l0_20 : List S169) (a0_21 : Bool) (a0_22 : ByteArray) (a0_23 : ByteArray) (a1 : Int) (r : Bool) (w : World) (hr0_1 : Kd.C k192 w A0_1 l0_1.length l0_1) (hc0_1 : l0_1.length ≤ c0_1) (hr0_3 : Kd.C k192 w A0_3 l0_3.length l0_3) (hc0_3 : l0_3.length ≤ c0_3) (hr0_6 : Kd.C k167 w A0_6 l0_6.length l0_6) (hc0_6 : l0_6.length ≤ c0_6) (hr0_9 : Kd.C k169 w A0_9 l0_9.length l0_9) (hc0_9 : l0_9.length ≤ c0_9) (hr0_12 : Kd.C k192 w A0_12 l0_12.length l0_12) (hc0_12 : l0_12.length ≤ c0_12) (hr0_14 : Kd.C k192 w A0_14 l0_14.length l0_14) (hc0_14 : l0_14.length ≤ c0_14) (hr0_17 : Kd.C k167 w A0_17 l0_17.length l0_17) (hc0_17 : l0_17.length ≤ c0_17) (hr0_20 : Kd.C k169 w A0_20 l0_20.length l0_20) (hc0_20 : l0_20.length ≤ c0_20) (h : laws_FnExactWorldFrames.f k a0_0 l0_1 a0_2 l0_3 a0_4 a0_5 l0_6 a0_7 a0_8 l0_9 a0_10 a0_11 l0_12 a0_13 l0_14 a0_15 a0_16 l0_17 a0_18 a0_19 l0_20 a0_21 a0_22 a0_23 a1 = some r) :
  Calls Try.prog 9 #[.agg #[.bool a0_0, .slice A0_1 l0_1.length c0_1, .int .i64 a0_2, .slice A0_3 l0_3.length c0_3, .int .i64 a0_4, .string a0_5, .slice A0_6 l0_6.length c0_6, .int .i64 a0_7, .int .i64 a0_8, .slice A0_9 l0_9.length c0_9, .bool a0_10, .bool a0_11, .slice A0_12 l0_12.length c0_12, .int .i64 a0_13, .slice A0_14 l0_14.length c0_14, .int .i64 a0_15, .string a0_16, .slice A0_17 l0_17.length c0_17, .int .i64 a0_18, .int .i64 a0_19, .slice A0_20 l0_20.length c0_20, .bool a0_21, .string a0_22, .string a0_23], .int .i64 a1] w fun e w' => e = .returned (.bool r) ∧ Below w.heap.size w w' := by
 have hu69 := Try.underlying69
 have hu48 := Try.underlying48
 have HI : Aside0 (IB w A0_1 c0_1 l0_1 A0_3 c0_3 l0_3 A0_6 c0_6 l0_6 A0_9 c0_9 l0_9 A0_12 c0_12 l0_12 A0_14 c0_14 l0_14 A0_17 c0_17 l0_17 A0_20 c0_20 l0_20) := ⟨⟨⟨hr0_1, hc0_1⟩, ⟨hr0_3, hc0_3⟩, ⟨hr0_6, hc0_6⟩, ⟨hr0_9, hc0_9⟩, ⟨hr0_12, hc0_12⟩, ⟨hr0_14, hc0_14⟩, ⟨hr0_17, hc0_17⟩, ⟨hr0_20, hc0_20⟩⟩⟩
 clear hr0_1 hc0_1 hr0_3 hc0_3 hr0_6 hc0_6 hr0_9 hc0_9 hr0_12 hc0_12 hr0_14 hc0_14 hr0_17 hc0_17 hr0_20 hc0_20
 have HB := Aside0.mk (Below.refl w.heap.size w)
 have H := h
 clear h
 unfold laws_FnExactWorldFrames.f at H
 obtain ⟨s, A3, H⟩ := ob H
 have HC4 := Aside0.mk H
 clear H
 go_enter Try.func9, Try.ntmps9
 go_upto_if 17 with (first | ((with_reducible refine gd 2 rfl ?_); refine bx (N := 2) (cs := #[.bool a0_0, .slice A0_1 l0_1.length c0_1, .int .i64 a0_2, .slice A0_3 l0_3.length c0_3, .int .i64 a0_4, .string a0_5, .slice A0_6 l0_6.length c0_6, .int .i64 a0_7, .int .i64 a0_8, .slice A0_9 l0_9.length c0_9, .bool a0_10, .bool a0_11, .slice A0_12 l0_12.length c0_12, .int .i64 a0_13, .slice A0_14 l0_14.length c0_14, .int .i64 a0_15, .string a0_16, .slice A0_17 l0_17.length c0_17, .int .i64 a0_18, .int .i64 a0_19, .slice A0_20 l0_20.length c0_20, .bool a0_21, .string a0_22, .string a0_23]) (t := 69) ?_; intro gb400 hg w5 hbox hb; have BK400 := Aside0.mk hbox; have GW400 := gw HB hg; replace HB := Aside0.mk (below_step (zb HB) hb); clear hb hbox hg) | ((with_reducible refine gd 13 rfl ?_); refine ld BK400 0 ([.bool a0_0, .slice A0_1 l0_1.length c0_1, .int .i64 a0_2, .slice A0_3 l0_3.length c0_3, .int .i64 a0_4, .string a0_5, .slice A0_6 l0_6.length c0_6, .int .i64 a0_7, .int .i64 a0_8, .slice A0_9 l0_9.length c0_9, .bool a0_10, .bool a0_11, .slice A0_12 l0_12.length c0_12, .int .i64 a0_13, .slice A0_14 l0_14.length c0_14, .int .i64 a0_15, .string a0_16, .slice A0_17 l0_17.length c0_17, .int .i64 a0_18, .int .i64 a0_19, .slice A0_20 l0_20.length c0_20, .bool a0_21, .string a0_22, .string a0_23] : List Value) Try.underlying69 ?_) | ((with_reducible refine gq 38 rfl ?_); refine gl (some 15) Try.func38 #[.agg #[.bool a0_0, .slice A0_1 l0_1.length c0_1, .int .i64 a0_2, .slice A0_3 l0_3.length c0_3, .int .i64 a0_4, .string a0_5, .slice A0_6 l0_6.length c0_6, .int .i64 a0_7, .int .i64 a0_8, .slice A0_9 l0_9.length c0_9, .bool a0_10, .bool a0_11, .slice A0_12 l0_12.length c0_12, .int .i64 a0_13, .slice A0_14 l0_14.length c0_14, .int .i64 a0_15, .string a0_16, .slice A0_17 l0_17.length c0_17, .int .i64 a0_18, .int .i64 a0_19, .slice A0_20 l0_20.length c0_20, .bool a0_21, .string a0_22, .string a0_23], .int .i64 1048576] ?_; (refine (laws_szWorld.callsI k a0_0 l0_1 a0_2 l0_3 a0_4 a0_5 l0_6 a0_7 a0_8 l0_9 a0_10 a0_11 l0_12 a0_13 l0_14 a0_15 a0_16 l0_17 a0_18 a0_19 l0_20 a0_21 a0_22 a0_23 1048576 s _ (HI.out.at (zb HB)) A3.out).mono ?_); rintro e w15 ⟨rfl, hb⟩; refine ⟨_, rfl, ?_⟩; replace BK400 := kb BK400 hb; replace HB := Aside0.mk (below_step (zb HB) hb); clear hb))
 (try simp only [Act.put, s1, s2, s3])
 have H := HC4.out
 clear HC4
 replace H := sp H
 rcases H with ⟨c8, H⟩ | ⟨c8, H⟩
 ·skip
  have c8b0 := decide_eq_true c8
  clear c8
  (first | rw [c8b0] | rw [c8b1] | (simp only [i64_w, i32_w]; rw [c8b0]) | skip)
  obtain rfl := Option.some.inj H
  go_wp2
  go_ret
  exact ⟨ze, zb HB⟩
 ·skip
  have c8b0 := decide_eq_false c8
  clear c8
  (first | rw [c8b0] | rw [c8b1] | (simp only [i64_w, i32_w]; rw [c8b0]) | skip)
  obtain ⟨⟨x0_0, x0_1, x0_2, x0_3, x0_4, x0_5, x0_6, x0_7, x0_8, x0_9, x0_10, x0_11, x0_12, x0_13, x0_14, x0_15, x0_16, x0_17, x0_18, x0_19, x0_20, x0_21, x0_22, x0_23⟩, A9, H⟩ := ob H
  obtain ⟨l6, A10, H⟩ := ob H
  obtain ⟨⟨x1_0, x1_1, x1_2, x1_3, x1_4, x1_5, x1_6, x1_7, x1_8, x1_9, x1_10, x1_11, x1_12, x1_13, x1_14, x1_15, x1_16, x1_17, x1_18, x1_19, x1_20, x1_21, x1_22, x1_23⟩, A11, H⟩ := ob H
  obtain ⟨l8, A12, H⟩ := ob H
  obtain ⟨e1, A13, H⟩ := ob H
  dsimp only [uW] at A10 A12
  have HC14 := Aside0.mk H
  clear H
  go_upto_if 30 with (first | ((with_reducible refine gd 18 rfl ?_); refine ld BK400 0 ([.bool a0_0, .slice A0_1 l0_1.length c0_1, .int .i64 a0_2, .slice A0_3 l0_3.length c0_3, .int .i64 a0_4, .string a0_5, .slice A0_6 l0_6.length c0_6, .int .i64 a0_7, .int .i64 a0_8, .slice A0_9 l0_9.length c0_9, .bool a0_10, .bool a0_11, .slice A0_12 l0_12.length c0_12, .int .i64 a0_13, .slice A0_14 l0_14.length c0_14, .int .i64 a0_15, .string a0_16, .slice A0_17 l0_17.length c0_17, .int .i64 a0_18, .int .i64 a0_19, .slice A0_20 l0_20.length c0_20, .bool a0_21, .string a0_22, .string a0_23] : List Value) Try.underlying69 ?_) | ((with_reducible refine gq 40 rfl ?_); refine gl (some 19) Try.func40 #[.agg #[.bool a0_0, .slice A0_1 l0_1.length c0_1, .int .i64 a0_2, .slice A0_3 l0_3.length c0_3, .int .i64 a0_4, .string a0_5, .slice A0_6 l0_6.length c0_6, .int .i64 a0_7, .int .i64 a0_8, .slice A0_9 l0_9.length c0_9, .bool a0_10, .bool a0_11, .slice A0_12 l0_12.length c0_12, .int .i64 a0_13, .slice A0_14 l0_14.length c0_14, .int .i64 a0_15, .string a0_16, .slice A0_17 l0_17.length c0_17, .int .i64 a0_18, .int .i64 a0_19, .slice A0_20 l0_20.length c0_20, .bool a0_21, .string a0_22, .string a0_23]] ?_; (refine (laws_toWorld.callsI k a0_0 l0_1 a0_2 l0_3 a0_4 a0_5 l0_6 a0_7 a0_8 l0_9 a0_10 a0_11 l0_12 a0_13 l0_14 a0_15 a0_16 l0_17 a0_18 a0_19 l0_20 a0_21 a0_22 a0_23 x0_0 x0_1 x0_2 x0_3 x0_4 x0_5 x0_6 x0_7 x0_8 x0_9 x0_10 x0_11 x0_12 x0_13 x0_14 x0_15 x0_16 x0_17 x0_18 x0_19 x0_20 x0_21 x0_22 x0_23 _ (HI.out.at (zb HB)) A9.out).mono ?_); rintro e w19 ⟨v0_1, v0_3, v0_6, v0_9, v0_12, v0_14, v0_17, v0_20, rfl, ho, hb⟩; refine ⟨_, rfl, ?_⟩; have HV := Aside0.mk ho; replace BK400 := kb BK400 hb; replace HB := Aside0.mk (below_step (zb HB) hb); clear hb ho) | ((with_reducible refine gq 42 rfl ?_); refine gl (some 21) Try.func42 #[.agg #[.bool x0_0, v0_1, .int .i64 x0_2, v0_3, .int .i64 x0_4, .string x0_5, v0_6, .int .i64 x0_7, .int .i64 x0_8, v0_9, .bool x0_10, .bool x0_11, v0_12, .int .i64 x0_13, v0_14, .int .i64 x0_15, .string x0_16, v0_17, .int .i64 x0_18, .int .i64 x0_19, v0_20, .bool x0_21, .string x0_22, .string x0_23], .int .i64 a1] ?_; (refine (spec_WorldFrames.callsW k a1 l6 _ (zw HV) A10.out).mono ?_); rintro e w21 ⟨v21, rfl, ho, hb⟩; refine ⟨_, rfl, ?_⟩; have HO6 := Aside0.mk (Kd.R_tight rfl (Kd.R_lower ho (below_size (zb HB)))); replace BK400 := kb BK400 hb; replace HB := Aside0.mk (below_step (zb HB) hb); clear hb ho HV) | ((with_reducible refine gd 22 rfl ?_); refine ld BK400 0 ([.bool a0_0, .slice A0_1 l0_1.length c0_1, .int .i64 a0_2, .slice A0_3 l0_3.length c0_3, .int .i64 a0_4, .string a0_5, .slice A0_6 l0_6.length c0_6, .int .i64 a0_7, .int .i64 a0_8, .slice A0_9 l0_9.length c0_9, .bool a0_10, .bool a0_11, .slice A0_12 l0_12.length c0_12, .int .i64 a0_13, .slice A0_14 l0_14.length c0_14, .int .i64 a0_15, .string a0_16, .slice A0_17 l0_17.length c0_17, .int .i64 a0_18, .int .i64 a0_19, .slice A0_20 l0_20.length c0_20, .bool a0_21, .string a0_22, .string a0_23] : List Value) Try.underlying69 ?_) | ((with_reducible refine gq 40 rfl ?_); refine gl (some 23) Try.func40 #[.agg #[.bool a0_0, .slice A0_1 l0_1.length c0_1, .int .i64 a0_2, .slice A0_3 l0_3.length c0_3, .int .i64 a0_4, .string a0_5, .slice A0_6 l0_6.length c0_6, .int .i64 a0_7, .int .i64 a0_8, .slice A0_9 l0_9.length c0_9, .bool a0_10, .bool a0_11, .slice A0_12 l0_12.length c0_12, .int .i64 a0_13, .slice A0_14 l0_14.length c0_14, .int .i64 a0_15, .string a0_16, .slice A0_17 l0_17.length c0_17, .int .i64 a0_18, .int .i64 a0_19, .slice A0_20 l0_20.length c0_20, .bool a0_21, .string a0_22, .string a0_23]] ?_; (refine (laws_toWorld.callsI k a0_0 l0_1 a0_2 l0_3 a0_4 a0_5 l0_6 a0_7 a0_8 l0_9 a0_10 a0_11 l0_12 a0_13 l0_14 a0_15 a0_16 l0_17 a0_18 a0_19 l0_20 a0_21 a0_22 a0_23 x1_0 x1_1 x1_2 x1_3 x1_4 x1_5 x1_6 x1_7 x1_8 x1_9 x1_10 x1_11 x1_12 x1_13 x1_14 x1_15 x1_16 x1_17 x1_18 x1_19 x1_20 x1_21 x1_22 x1_23 _ (HI.out.at (zb HB)) A11.out).mono ?_); rintro e w23 ⟨v1_1, v1_3, v1_6, v1_9, v1_12, v1_14, v1_17, v1_20, rfl, ho, hb⟩; refine ⟨_, rfl, ?_⟩; have L6 := Aside0.mk (Kd.R_lt HO6.out); have G4 := Aside0.mk (blk_lt BK400.out); have HW := Aside0.mk (ho.low (lo' := w21.heap.size) (below_size (zb HB)) ms); have HL := Aside0.mk (Nat.le_trans (ms (w := w21)) hb.size); have HS := Aside0.mk (Nat.le_refl w23.heap.size); replace HO6 := Aside0.mk (Kd.R_below (zr HO6) hb); replace BK400 := kb BK400 hb; replace HB := Aside0.mk (below_step (zb HB) hb); clear hb ho) | ((with_reducible refine gd 7 rfl ?_); refine bx (N := 7) (cs := #[.bool false, .slice none 0 0, .int .i64 0, .slice none 0 0, .int .i64 0, .string (⟨#[]⟩ : ByteArray), .slice none 0 0, .int .i64 0, .int .i64 0, .slice none 0 0, .bool false, .bool false, .slice none 0 0, .int .i64 0, .slice none 0 0, .int .i64 0, .string (⟨#[]⟩ : ByteArray), .slice none 0 0, .int .i64 0, .int .i64 0, .slice none 0 0, .bool false, .string (⟨#[]⟩ : ByteArray), .string (⟨#[]⟩ : ByteArray)]) (t := 48) ?_; intro gb485 hg w28 hbox hb; have BK485 := Aside0.mk hbox; have GW485 := gw HB hg; have G485 := Aside0.mk (show w23.heap.size ≤ gb485 by rw [hg]; exact Nat.le_trans HS.out ms); obtain ⟨NB400_485, NB485_400⟩ := nb BK400 hg; replace BK400 := kb BK400 hb; replace HW := Aside0.mk ((zw HW).below hb); replace HO6 := Aside0.mk (Kd.R_below (zr HO6) hb); replace HS := Aside0.mk (Nat.le_trans HS.out (Nat.le_trans ms hb.size)); replace HB := Aside0.mk (below_step (zb HB) hb); clear hb; clear hbox hg) | ((with_reducible refine gate_store (t := 48) (p := 7) rfl ?_); refine sd BK485 0 ([.bool x1_0, v1_1, .int .i64 x1_2, v1_3, .int .i64 x1_4, .string x1_5, v1_6, .int .i64 x1_7, .int .i64 x1_8, v1_9, .bool x1_10, .bool x1_11, v1_12, .int .i64 x1_13, v1_14, .int .i64 x1_15, .string x1_16, v1_17, .int .i64 x1_18, .int .i64 x1_19, v1_20, .bool x1_21, .string x1_22, .string x1_23] : List Value) #[.bool x1_0, v1_1, .int .i64 x1_2, v1_3, .int .i64 x1_4, .string x1_5, v1_6, .int .i64 x1_7, .int .i64 x1_8, v1_9, .bool x1_10, .bool x1_11, v1_12, .int .i64 x1_13, v1_14, .int .i64 x1_15, .string x1_16, v1_17, .int .i64 x1_18, .int .i64 x1_19, v1_20, .bool x1_21, .string x1_22, .string x1_23] ?_ ?h1; (case h1 => obtain ⟨h1, h3, h6, h9, h12, h14, h17, h20⟩ := HW.out.ones; intro u hu; simp only [List.mem_cons, List.not_mem_nil, or_false] at hu; rcases hu with rfl | rfl | rfl | rfl | rfl | rfl | rfl | rfl | rfl | rfl | rfl | rfl | rfl | rfl | rfl | rfl | rfl | rfl | rfl | rfl | rfl | rfl | rfl | rfl <;> first | rfl | assumption); intro w30 bkc hk hlow; replace HW := Aside0.mk ((zw HW).keep hk G485.out); replace HO6 := Aside0.mk (Kd.R_mono (Kd.R_keep (ztR (Kd.R_types HO6.out BK485.out (by decide))) hk (fun _ h => h.2)) (fun _ h => h.1)); replace HS := Aside0.mk (Nat.le_trans HS.out (Nat.le_trans ms hk.1)); replace BK400 := Aside0.mk (KeepBut.blk hk (zp BK400) NB400_485.out (by simp)); replace HB := Aside0.mk (hlow _ _ (zb HB) GW485.out); replace BK485 := bkc; clear hk hlow bkc) | ((with_reducible refine gd 24 rfl ?_); refine ld BK485 0 ([.bool x1_0, v1_1, .int .i64 x1_2, v1_3, .int .i64 x1_4, .string x1_5, v1_6, .int .i64 x1_7, .int .i64 x1_8, v1_9, .bool x1_10, .bool x1_11, v1_12, .int .i64 x1_13, v1_14, .int .i64 x1_15, .string x1_16, v1_17, .int .i64 x1_18, .int .i64 x1_19, v1_20, .bool x1_21, .string x1_22, .string x1_23] : List Value) Try.underlying48 ?_) | ((with_reducible refine gq 43 rfl ?_); refine gl (some 26) Try.func43 #[.agg #[.bool x1_0, v1_1, .int .i64 x1_2, v1_3, .int .i64 x1_4, .string x1_5, v1_6, .int .i64 x1_7, .int .i64 x1_8, v1_9, .bool x1_10, .bool x1_11, v1_12, .int .i64 x1_13, v1_14, .int .i64 x1_15, .string x1_16, v1_17, .int .i64 x1_18, .int .i64 x1_19, v1_20, .bool x1_21, .string x1_22, .string x1_23], .int .i64 a1] ?_; (refine (impl_WorldFrames.callsW k a1 l8 _ (zw HW) A12.out).mono ?_); rintro e w26 ⟨v26, rfl, ho, hb⟩; refine ⟨_, rfl, ?_⟩; have L8 := Aside0.mk (fun k h => Nat.le_trans HS.out (Nat.le_trans ms (Kd.R_base ho k h))); have HO8 := Aside0.mk (Kd.R_tight rfl (Kd.R_lower ho (below_size (zb HB)))); replace BK400 := kb BK400 hb; replace BK485 := kb BK485 hb; replace HW := Aside0.mk ((zw HW).below hb); replace HO6 := Aside0.mk (Kd.R_below (zr HO6) hb); replace HS := Aside0.mk (Nat.le_trans HS.out (Nat.le_trans ms hb.size)); replace HB := Aside0.mk (below_step (zb HB) hb); clear hb; clear ho) | ((with_reducible refine gq 44 rfl ?_); refine gl (some 29) Try.func44 #[v26, v21] ?_; (refine (laws_eqFrameS.callsV k e1 _ (zr HO8) (zr HO6) A13.out).mono ?_); rintro e w29 ⟨rfl, hb⟩; refine ⟨_, rfl, ?_⟩; replace BK400 := kb BK400 hb; replace BK485 := kb BK485 hb; replace HW := Aside0.mk ((zw HW).below hb); replace HO6 := Aside0.mk (Kd.R_below (zr HO6) hb); replace HO8 := Aside0.mk (Kd.R_below (zr HO8) hb); replace HS := Aside0.mk (Nat.le_trans HS.out (Nat.le_trans ms hb.size)); replace HB := Aside0.mk (below_step (zb HB) hb); clear hb))
  (try simp only [Act.put, s1, s2, s3])
  have H := HC14.out
  clear HC14
  by_cases c43 : e1 = true
  ·subst c43
   rw [if_pos rfl] at H
   obtain ⟨⟨x2_0, x2_1, x2_2, x2_3, x2_4, x2_5, x2_6, x2_7, x2_8, x2_9, x2_10, x2_11, x2_12, x2_13, x2_14, x2_15, x2_16, x2_17, x2_18, x2_19, x2_20, x2_21, x2_22, x2_23⟩, A44, H⟩ := ob H
   obtain ⟨e2, A45, H⟩ := ob H
   dsimp only [uW] at A45
   have HC46 := Aside0.mk H
   clear H
   try go_wp2
   replace HW := Aside0.mk (WB.below HW.out (below_drew (Below.refl _ _)))
   replace HO6 := Aside0.mk (Kd.R_drew HO6.out)
   replace HO8 := Aside0.mk (Kd.R_drew HO8.out)
   replace BK400 := Aside0.mk (blk_drew BK400.out)
   replace BK485 := Aside0.mk (blk_drew BK485.out)
   replace HB := Aside0.mk (below_drew1 HB.out)
   replace HS := Aside0.mk (show w23.heap.size ≤ w29.drew.heap.size from HS.out)
   refine st 5 (an (rg (cs := [.bool x1_0, v1_1, .int .i64 x1_2, v1_3, .int .i64 x1_4, .string x1_5, v1_6, .int .i64 x1_7, .int .i64 x1_8, v1_9, .bool x1_10, .bool x1_11, v1_12, .int .i64 x1_13, v1_14, .int .i64 x1_15, .string x1_16, v1_17, .int .i64 x1_18, .int .i64 x1_19, v1_20, .bool x1_21, .string x1_22, .string x1_23]) BK485) (rg (cs := [.bool a0_0, .slice A0_1 l0_1.length c0_1, .int .i64 a0_2, .slice A0_3 l0_3.length c0_3, .int .i64 a0_4, .string a0_5, .slice A0_6 l0_6.length c0_6, .int .i64 a0_7, .int .i64 a0_8, .slice A0_9 l0_9.length c0_9, .bool a0_10, .bool a0_11, .slice A0_12 l0_12.length c0_12, .int .i64 a0_13, .slice A0_14 l0_14.length c0_14, .int .i64 a0_15, .string a0_16, .slice A0_17 l0_17.length c0_17, .int .i64 a0_18, .int .i64 a0_19, .slice A0_20 l0_20.length c0_20, .bool a0_21, .string a0_22, .string a0_23]) BK400)) (fun hHeld => ?_)
   generalize w29.drew = w47 at HS HW HO6 HO8 BK400 BK485 HB hHeld ⊢
   refine tk 0 (some 31) (bm 5 1) rfl rfl hHeld ?_ (hy := yieldsIf_load_mid (by rfl) 48 (.tmp 7) rfl gb485 0 rfl [.bool x1_0, v1_1, .int .i64 x1_2, v1_3, .int .i64 x1_4, .string x1_5, v1_6, .int .i64 x1_7, .int .i64 x1_8, v1_9, .bool x1_10, .bool x1_11, v1_12, .int .i64 x1_13, v1_14, .int .i64 x1_15, .string x1_16, v1_17, .int .i64 x1_18, .int .i64 x1_19, v1_20, .bool x1_21, .string x1_22, .string x1_23] _ (fun _ hs => hs.1) Try.underlying48 rfl (by kernel_rfl))
   refine tk 1 (some 32) (bm 5 3) rfl rfl hHeld ?_ (hy := yieldsIf_load_mid (by rfl) 69 (.tmp 2) rfl gb400 0 rfl [.bool a0_0, .slice A0_1 l0_1.length c0_1, .int .i64 a0_2, .slice A0_3 l0_3.length c0_3, .int .i64 a0_4, .string a0_5, .slice A0_6 l0_6.length c0_6, .int .i64 a0_7, .int .i64 a0_8, .slice A0_9 l0_9.length c0_9, .bool a0_10, .bool a0_11, .slice A0_12 l0_12.length c0_12, .int .i64 a0_13, .slice A0_14 l0_14.length c0_14, .int .i64 a0_15, .string a0_16, .slice A0_17 l0_17.length c0_17, .int .i64 a0_18, .int .i64 a0_19, .slice A0_20 l0_20.length c0_20, .bool a0_21, .string a0_22, .string a0_23] _ (fun _ hs => hs.2) Try.underlying69 rfl (by kernel_rfl))
   refine one_ (i := 2) (N := some 33) (bm 5 7) rfl rfl (by kernel_rfl) (by decide) (fun K hK => ?_)
   refine gs Try.func40 #[.agg #[.bool a0_0, .slice A0_1 l0_1.length c0_1, .int .i64 a0_2, .slice A0_3 l0_3.length c0_3, .int .i64 a0_4, .string a0_5, .slice A0_6 l0_6.length c0_6, .int .i64 a0_7, .int .i64 a0_8, .slice A0_9 l0_9.length c0_9, .bool a0_10, .bool a0_11, .slice A0_12 l0_12.length c0_12, .int .i64 a0_13, .slice A0_14 l0_14.length c0_14, .int .i64 a0_15, .string a0_16, .slice A0_17 l0_17.length c0_17, .int .i64 a0_18, .int .i64 a0_19, .slice A0_20 l0_20.length c0_20, .bool a0_21, .string a0_22, .string a0_23]] ?_
   refine (laws_toWorld.callsI k a0_0 l0_1 a0_2 l0_3 a0_4 a0_5 l0_6 a0_7 a0_8 l0_9 a0_10 a0_11 l0_12 a0_13 l0_14 a0_15 a0_16 l0_17 a0_18 a0_19 l0_20 a0_21 a0_22 a0_23 x2_0 x2_1 x2_2 x2_3 x2_4 x2_5 x2_6 x2_7 x2_8 x2_9 x2_10 x2_11 x2_12 x2_13 x2_14 x2_15 x2_16 x2_17 x2_18 x2_19 x2_20 x2_21 x2_22 x2_23 _ (HI.out.at (zb HB)) A44.out).mono ?_
   rintro e w48 ⟨v2_1, v2_3, v2_6, v2_9, v2_12, v2_14, v2_17, v2_20, rfl, ho, hb⟩
   refine ⟨_, rfl, ?_⟩
   have HU := Aside0.mk ho
   replace BK400 := kb BK400 hb; replace BK485 := kb BK485 hb; replace HW := Aside0.mk ((zw HW).below hb); replace HO6 := Aside0.mk (Kd.R_below (zr HO6) hb); replace HO8 := Aside0.mk (Kd.R_below (zr HO8) hb); replace HS := Aside0.mk (Nat.le_trans HS.out (Nat.le_trans ms hb.size)); replace HB := Aside0.mk (below_step (zb HB) hb); clear hb; clear ho
   refine hK.out _ _ (an (rg (cs := [.bool x1_0, v1_1, .int .i64 x1_2, v1_3, .int .i64 x1_4, .string x1_5, v1_6, .int .i64 x1_7, .int .i64 x1_8, v1_9, .bool x1_10, .bool x1_11, v1_12, .int .i64 x1_13, v1_14, .int .i64 x1_15, .string x1_16, v1_17, .int .i64 x1_18, .int .i64 x1_19, v1_20, .bool x1_21, .string x1_22, .string x1_23]) BK485) (rg (cs := [.bool a0_0, .slice A0_1 l0_1.length c0_1, .int .i64 a0_2, .slice A0_3 l0_3.length c0_3, .int .i64 a0_4, .string a0_5, .slice A0_6 l0_6.length c0_6, .int .i64 a0_7, .int .i64 a0_8, .slice A0_9 l0_9.length c0_9, .bool a0_10, .bool a0_11, .slice A0_12 l0_12.length c0_12, .int .i64 a0_13, .slice A0_14 l0_14.length c0_14, .int .i64 a0_15, .string a0_16, .slice A0_17 l0_17.length c0_17, .int .i64 a0_18, .int .i64 a0_19, .slice A0_20 l0_20.length c0_20, .bool a0_21, .string a0_22, .string a0_23]) BK400)) (fun hHeld => ?_)
   clear hK K
   refine nm ?_
   refine one_ (i := 3) (N := some 34) (bm 5 15) rfl rfl (by kernel_rfl) (by decide) (fun K hK => ?_)
   refine gs Try.func27 #[.agg #[.bool x1_0, v1_1, .int .i64 x1_2, v1_3, .int .i64 x1_4, .string x1_5, v1_6, .int .i64 x1_7, .int .i64 x1_8, v1_9, .bool x1_10, .bool x1_11, v1_12, .int .i64 x1_13, v1_14, .int .i64 x1_15, .string x1_16, v1_17, .int .i64 x1_18, .int .i64 x1_19, v1_20, .bool x1_21, .string x1_22, .string x1_23], .agg #[.bool x2_0, v2_1, .int .i64 x2_2, v2_3, .int .i64 x2_4, .string x2_5, v2_6, .int .i64 x2_7, .int .i64 x2_8, v2_9, .bool x2_10, .bool x2_11, v2_12, .int .i64 x2_13, v2_14, .int .i64 x2_15, .string x2_16, v2_17, .int .i64 x2_18, .int .i64 x2_19, v2_20, .bool x2_21, .string x2_22, .string x2_23]] ?_
   refine (laws_eqWorld.callsW k e2 _ (zw HW) (zw HU) A45.out).mono ?_
   rintro e w57 ⟨rfl, hb⟩
   refine ⟨_, rfl, ?_⟩
   replace BK400 := kb BK400 hb; replace BK485 := kb BK485 hb; replace HW := Aside0.mk ((zw HW).below hb); replace HO6 := Aside0.mk (Kd.R_below (zr HO6) hb); replace HO8 := Aside0.mk (Kd.R_below (zr HO8) hb); replace HS := Aside0.mk (Nat.le_trans HS.out (Nat.le_trans ms hb.size)); replace HB := Aside0.mk (below_step (zb HB) hb); clear hb
   refine hK.out _ _ (an (rg (cs := [.bool x1_0, v1_1, .int .i64 x1_2, v1_3, .int .i64 x1_4, .string x1_5, v1_6, .int .i64 x1_7, .int .i64 x1_8, v1_9, .bool x1_10, .bool x1_11, v1_12, .int .i64 x1_13, v1_14, .int .i64 x1_15, .string x1_16, v1_17, .int .i64 x1_18, .int .i64 x1_19, v1_20, .bool x1_21, .string x1_22, .string x1_23]) BK485) (rg (cs := [.bool a0_0, .slice A0_1 l0_1.length c0_1, .int .i64 a0_2, .slice A0_3 l0_3.length c0_3, .int .i64 a0_4, .string a0_5, .slice A0_6 l0_6.length c0_6, .int .i64 a0_7, .int .i64 a0_8, .slice A0_9 l0_9.length c0_9, .bool a0_10, .bool a0_11, .slice A0_12 l0_12.length c0_12, .int .i64 a0_13, .slice A0_14 l0_14.length c0_14, .int .i64 a0_15, .string a0_16, .slice A0_17 l0_17.length c0_17, .int .i64 a0_18, .int .i64 a0_19, .slice A0_20 l0_20.length c0_20, .bool a0_21, .string a0_22, .string a0_23]) BK400)) (fun hHeld => ?_)
   clear hK K HU
   refine nm ?_
   refine pu 4 (some 35) (bm 5 31) rfl rfl ?_
   refine done_ (by kernel_rfl) ?_
   go_upto_if 35 with (fail)
   have H := HC46.out
   clear HC46
   by_cases c58 : e2 = true
   ·subst c58
    rw [if_pos rfl] at H
    obtain ⟨m0, A59, H⟩ := ob H
    dsimp only [uW] at A59
    unfold laws_markWorld.f laws_markWorld.g at A59
    obtain ⟨⟨p0, p1, p3, p6, p9⟩, A61, B59⟩ := ob A59.out
    obtain ⟨⟨q0, q1, q3, q6, q9⟩, A62, B59⟩ := ob B59
    dsimp only at A62 B59
    obtain rfl := Option.some.inj B59
    clear A59 B59
    have HC60 := Aside0.mk H
    clear H
    go_upto_region 14 with (first | ((with_reducible refine gd 36 rfl ?_); refine ld BK485 0 ([.bool x1_0, v1_1, .int .i64 x1_2, v1_3, .int .i64 x1_4, .string x1_5, v1_6, .int .i64 x1_7, .int .i64 x1_8, v1_9, .bool x1_10, .bool x1_11, v1_12, .int .i64 x1_13, v1_14, .int .i64 x1_15, .string x1_16, v1_17, .int .i64 x1_18, .int .i64 x1_19, v1_20, .bool x1_21, .string x1_22, .string x1_23] : List Value) Try.underlying48 ?_) | ((with_reducible refine gq 28 rfl ?_); refine gl (some 38) Try.func28 #[.agg #[.bool x1_0, v1_1, .int .i64 x1_2, v1_3, .int .i64 x1_4, .string x1_5, v1_6, .int .i64 x1_7, .int .i64 x1_8, v1_9, .bool x1_10, .bool x1_11, v1_12, .int .i64 x1_13, v1_14, .int .i64 x1_15, .string x1_16, v1_17, .int .i64 x1_18, .int .i64 x1_19, v1_20, .bool x1_21, .string x1_22, .string x1_23], .int .i64 1] ?_; obtain ⟨P, Q, E, F, bp, bq, bd⟩ := (zw HW).ex; (refine (laws_markWorld.calls k x1_0 v1_1 x1_1 x1_2 v1_3 x1_3 x1_4 x1_5 P v1_6 x1_6 x1_7 x1_8 v1_9 x1_9 x1_10 x1_11 v1_12 x1_12 x1_13 v1_14 x1_14 x1_15 x1_16 Q v1_17 x1_17 x1_18 x1_19 v1_20 x1_20 x1_21 x1_22 x1_23 1 p0 p1 p3 p6 p9 q0 q1 q3 q6 q9 w _ (zb HB) E F (fun k h => Nat.lt_of_lt_of_le (bp k (.inr (.inr (.inl h)))).2 (Nat.le_trans HS.out ms)) (fun k h => Nat.lt_of_lt_of_le (bq k (.inr (.inr (.inl h)))).2 (Nat.le_trans HS.out ms)) bd A61.out A62.out).mono ?_); rintro e w38 ⟨rfl, _, _, hb, hk⟩; refine ⟨_, rfl, ?_⟩; have hS := fun k h => Or.elim h (bp k) (bq k); replace HO6 := Aside0.mk (far_row (zr HO6) hk hS (fun k h => .inl (L6.out k h))); replace HO8 := Aside0.mk (far_row (zr HO8) hk hS (fun k h => .inr (L8.out k h))); replace BK400 := Aside0.mk (blk_kept (zk BK400) hk (fun h => Nat.lt_irrefl _ (Nat.lt_of_lt_of_le G4.out (hS _ h).1))); replace HB := Aside0.mk hb; clear hb hk hS E F bp bq bd HW BK485 HS))
    (try simp only [Act.put, s1, s2, s3])
    have H := HC60.out
    clear HC60
    replace H := sp H
    rcases H with ⟨c64, H⟩ | ⟨c64, H⟩
    ·skip
     have c64b0 := decide_eq_true c64
     clear c64
     (first | rw [c64b0] | rw [c64b1] | (simp only [i64_w, i32_w]; rw [c64b0]) | skip)
     obtain rfl := Option.some.inj H
     go_wp2
     go_ret
     exact ⟨ze, zb HB⟩
    ·skip
     have c64b0 := decide_eq_false c64
     clear c64
     (first | rw [c64b0] | rw [c64b1] | (simp only [i64_w, i32_w]; rw [c64b0]) | skip)
     obtain ⟨e3, A65, H⟩ := ob H
     have HC65 := Aside0.mk H
     clear H
     go_upto_if 46 with (first | (go_at_call 44; (refine (laws_eqFrameS.callsV k e3 _ (zr HO8) (zr HO6) A65.out).mono ?_); rintro e w44 ⟨rfl, hb⟩; replace BK400 := kb BK400 hb; replace HO6 := Aside0.mk (Kd.R_below (zr HO6) hb); replace HO8 := Aside0.mk (Kd.R_below (zr HO8) hb); replace HB := Aside0.mk (below_step (zb HB) hb); clear hb))
     have H := HC65.out
     clear HC65
     by_cases c67 : e3 = true
     ·subst c67
      rw [if_pos rfl] at H
      obtain ⟨⟨m1, m2⟩, A68, H⟩ := ob H
      dsimp only at H
      obtain ⟨q, A69, H⟩ := ob H
      have HC70 := Aside0.mk H
      clear H
      go_upto_if 54 with (first | ((with_reducible refine gq 45 rfl ?_); refine gl (some 49) Try.func45 #[v26, .int .i64 1] ?_; (refine (laws_markFrameS.calls k (fun k_ => some k_ = v26.ownBlock) v26 l8 1 m1 m2 w _ (zb HB) (zr HO8) A68.out).mono ?_); rintro e w49 ⟨rfl, hy0, hb, hk⟩; refine ⟨_, rfl, ?_⟩; replace HO6 := Aside0.mk (Kd.R_step (zr HO6) (fun k e hl => hk.2 k hl (fun h2 => by have h3 := L6.out k e.symm; have h4 := L8.out k h2.symm; have h5 := HL.out; omega))); replace BK400 := Aside0.mk (blk_kept (zk BK400) hk (fun h2 => by have h3 := G4.out; have h4 := L8.out _ h2.symm; have h5 := HL.out; omega)); replace HO8 := Aside0.mk (Kd.R_tight rfl hy0); replace HB := Aside0.mk hb; clear hb hk hy0) | ((with_reducible refine gq 46 rfl ?_); refine gl (some 52) Try.func46 #[v26, .int .i64 1] ?_; (refine (laws_heldFrameS.callsV k 1 q _ (zr HO8) A69.out).mono ?_); rintro e w52 ⟨rfl, hb⟩; refine ⟨_, rfl, ?_⟩; replace BK400 := kb BK400 hb; replace HO6 := Aside0.mk (Kd.R_below (zr HO6) hb); replace HO8 := Aside0.mk (Kd.R_below (zr HO8) hb); replace HB := Aside0.mk (below_step (zb HB) hb); clear hb))
      (try simp only [Act.put, s1, s2, s3])
      have H := HC70.out
      clear HC70
      replace H := sp H
      rcases H with ⟨c73, H⟩ | ⟨c73, H⟩
      ·skip
       have c73b0 := decide_eq_true c73
       clear c73
       (first | rw [c73b0] | rw [c73b1] | (simp only [i64_w, i32_w]; rw [c73b0]) | skip)
       obtain rfl := Option.some.inj H
       go_wp2
       go_ret
       exact ⟨ze, zb HB⟩
      ·skip
       have c73b0 := decide_eq_false c73
       clear c73
       (first | rw [c73b0] | rw [c73b1] | (simp only [i64_w, i32_w]; rw [c73b0]) | skip)
       replace H := sp H
       rcases H with ⟨c74, H⟩ | ⟨c74, H⟩
       ·skip
        have c74b0 : (q == m1) = true := beq_iff_eq.mpr c74
        have c74b1 : (q != m1) = false := bne_eq_false_iff_eq.mpr c74
        clear c74
        obtain ⟨⟨x3_0, x3_1, x3_2, x3_3, x3_4, x3_5, x3_6, x3_7, x3_8, x3_9, x3_10, x3_11, x3_12, x3_13, x3_14, x3_15, x3_16, x3_17, x3_18, x3_19, x3_20, x3_21, x3_22, x3_23⟩, A75, H⟩ := ob H
        obtain ⟨l12, A76, H⟩ := ob H
        obtain ⟨e4, A77, H⟩ := ob H
        dsimp only [uW] at A76
        have HC78 := Aside0.mk H
        clear H
        go_upto_if 65 with (first | ((with_reducible refine gd 58 rfl ?_); refine ld BK400 0 ([.bool a0_0, .slice A0_1 l0_1.length c0_1, .int .i64 a0_2, .slice A0_3 l0_3.length c0_3, .int .i64 a0_4, .string a0_5, .slice A0_6 l0_6.length c0_6, .int .i64 a0_7, .int .i64 a0_8, .slice A0_9 l0_9.length c0_9, .bool a0_10, .bool a0_11, .slice A0_12 l0_12.length c0_12, .int .i64 a0_13, .slice A0_14 l0_14.length c0_14, .int .i64 a0_15, .string a0_16, .slice A0_17 l0_17.length c0_17, .int .i64 a0_18, .int .i64 a0_19, .slice A0_20 l0_20.length c0_20, .bool a0_21, .string a0_22, .string a0_23] : List Value) Try.underlying69 ?_) | ((with_reducible refine gq 40 rfl ?_); refine gl (some 59) Try.func40 #[.agg #[.bool a0_0, .slice A0_1 l0_1.length c0_1, .int .i64 a0_2, .slice A0_3 l0_3.length c0_3, .int .i64 a0_4, .string a0_5, .slice A0_6 l0_6.length c0_6, .int .i64 a0_7, .int .i64 a0_8, .slice A0_9 l0_9.length c0_9, .bool a0_10, .bool a0_11, .slice A0_12 l0_12.length c0_12, .int .i64 a0_13, .slice A0_14 l0_14.length c0_14, .int .i64 a0_15, .string a0_16, .slice A0_17 l0_17.length c0_17, .int .i64 a0_18, .int .i64 a0_19, .slice A0_20 l0_20.length c0_20, .bool a0_21, .string a0_22, .string a0_23]] ?_; (refine (laws_toWorld.callsI k a0_0 l0_1 a0_2 l0_3 a0_4 a0_5 l0_6 a0_7 a0_8 l0_9 a0_10 a0_11 l0_12 a0_13 l0_14 a0_15 a0_16 l0_17 a0_18 a0_19 l0_20 a0_21 a0_22 a0_23 x3_0 x3_1 x3_2 x3_3 x3_4 x3_5 x3_6 x3_7 x3_8 x3_9 x3_10 x3_11 x3_12 x3_13 x3_14 x3_15 x3_16 x3_17 x3_18 x3_19 x3_20 x3_21 x3_22 x3_23 _ (HI.out.at (zb HB)) A75.out).mono ?_); rintro e w59 ⟨v3_1, v3_3, v3_6, v3_9, v3_12, v3_14, v3_17, v3_20, rfl, ho, hb⟩; refine ⟨_, rfl, ?_⟩; have HV := Aside0.mk ho; replace HO6 := Aside0.mk (Kd.R_below (zr HO6) hb); replace HO8 := Aside0.mk (Kd.R_below (zr HO8) hb); replace HB := Aside0.mk (below_step (zb HB) hb); clear hb; clear ho) | ((with_reducible refine gq 43 rfl ?_); refine gl (some 61) Try.func43 #[.agg #[.bool x3_0, v3_1, .int .i64 x3_2, v3_3, .int .i64 x3_4, .string x3_5, v3_6, .int .i64 x3_7, .int .i64 x3_8, v3_9, .bool x3_10, .bool x3_11, v3_12, .int .i64 x3_13, v3_14, .int .i64 x3_15, .string x3_16, v3_17, .int .i64 x3_18, .int .i64 x3_19, v3_20, .bool x3_21, .string x3_22, .string x3_23], .int .i64 a1] ?_; (refine (impl_WorldFrames.callsW k a1 l12 _ (zw HV) A76.out).mono ?_); rintro e w61 ⟨v61, rfl, ho, hb⟩; refine ⟨_, rfl, ?_⟩; have HO12 := Aside0.mk ho; replace HO6 := Aside0.mk (Kd.R_below (zr HO6) hb); replace HO8 := Aside0.mk (Kd.R_below (zr HO8) hb); replace HB := Aside0.mk (below_step (zb HB) hb); clear hb; clear ho HV) | ((with_reducible refine gq 44 rfl ?_); refine gl (some 64) Try.func44 #[v61, v21] ?_; (refine (laws_eqFrameS.callsV k e4 _ (zr HO12) (zr HO6) A77.out).mono ?_); rintro e w64 ⟨rfl, hb⟩; refine ⟨_, rfl, ?_⟩; replace HO8 := Aside0.mk (Kd.R_below (zr HO8) hb); replace HB := Aside0.mk (below_step (zb HB) hb); clear hb))
        (try simp only [Act.put, s1, s2, s3])
        have H := HC78.out
        clear HC78
        by_cases c93 : e4 = true
        ·subst c93
         rw [if_pos rfl] at H
         obtain ⟨q2, A94, H⟩ := ob H
         by_cases c95 : q2 < 0
         ·rw [if_pos c95] at H
          have c95b0 := decide_eq_true c95
          clear c95
          obtain rfl := Option.some.inj H
          go_wp2_with (first | ((with_reducible refine gq 46 rfl ?_); refine gl (some 68) Try.func46 #[v26, .int .i64 1] ?_; (refine (laws_heldFrameS.callsV k 1 q2 _ (zr HO8) A94.out).mono ?_); rintro e w68 ⟨rfl, hb⟩; refine ⟨_, rfl, ?_⟩; replace HB := Aside0.mk (below_step (zb HB) hb); clear hb))
          go_ret
          exact ⟨ze, zb HB⟩
         ·rw [if_neg c95] at H
          have c95b0 := decide_eq_false c95
          clear c95
          by_cases c97 : q2 = m1
          ·rw [if_pos c97] at H
           have c97b0 : (q2 == m1) = true := beq_iff_eq.mpr c97
           have c97b1 : (q2 != m1) = false := bne_eq_false_iff_eq.mpr c97
           clear c97
           obtain rfl := Option.some.inj H
           go_wp2_with (first | ((with_reducible refine gq 46 rfl ?_); refine gl (some 68) Try.func46 #[v26, .int .i64 1] ?_; (refine (laws_heldFrameS.callsV k 1 q2 _ (zr HO8) A94.out).mono ?_); rintro e w68 ⟨rfl, hb⟩; refine ⟨_, rfl, ?_⟩; replace HB := Aside0.mk (below_step (zb HB) hb); clear hb))
           go_ret
           exact ⟨ze, zb HB⟩
          ·rw [if_neg c97] at H
           have c97b0 : (q2 == m1) = false := beq_eq_false_iff_ne.mpr c97
           have c97b1 : (q2 != m1) = true := bne_iff_ne.mpr c97
           obtain rfl := Option.some.inj H
           go_wp2_with (first | ((with_reducible refine gq 46 rfl ?_); refine gl (some 68) Try.func46 #[v26, .int .i64 1] ?_; (refine (laws_heldFrameS.callsV k 1 q2 _ (zr HO8) A94.out).mono ?_); rintro e w68 ⟨rfl, hb⟩; refine ⟨_, rfl, ?_⟩; replace HB := Aside0.mk (below_step (zb HB) hb); clear hb))
           go_ret
           exact ⟨ze, zb HB⟩
        ·replace c93 := Bool.eq_false_iff.mpr c93
         subst c93
         rw [if_neg (show ¬ (false = true) by decide)] at H
         obtain rfl := Option.some.inj H
         go_wp2
         go_ret
         exact ⟨ze, zb HB⟩
       ·skip
        have c74b0 : (q == m1) = false := beq_eq_false_iff_ne.mpr c74
        have c74b1 : (q != m1) = true := bne_iff_ne.mpr c74
        obtain rfl := Option.some.inj H
        go_wp2
        go_ret
        exact ⟨ze, zb HB⟩
     ·replace c67 := Bool.eq_false_iff.mpr c67
      subst c67
      rw [if_neg (show ¬ (false = true) by decide)] at H
      obtain rfl := Option.some.inj H
      go_wp2
      go_ret
      exact ⟨ze, zb HB⟩
   ·replace c58 := Bool.eq_false_iff.mpr c58
    subst c58
    rw [if_neg (show ¬ (false = true) by decide)] at H
    obtain rfl := Option.some.inj H
    go_wp2
    go_ret
    exact ⟨ze, zb HB⟩
  ·replace c43 := Bool.eq_false_iff.mpr c43
   subst c43
   rw [if_neg (show ¬ (false = true) by decide)] at H
   obtain rfl := Option.some.inj H
   go_wp2
   go_ret
   exact ⟨ze, zb HB⟩
end Go.Proofs.Ytlpibelofcabhaa.PFnExactWorldFrames
