-- WRITTEN BY a turned print (wip/tools of the prover's repo)
import Derived.Test.YtlpibelofcabhaaProg
import Derived.Test.YtlpibelofcabhaaLm3
import Derived.Test.YtlpibelofcabhaaLz
import Derived.Below
import Derived.Deep.Draws
import Derived.Deep.AppendLies
import Derived.Maps.AppendAt
import Derived.OwnWalk
import Derived.Laws.BytesArg
import Derived.Laws.MakeOwn
import Derived.Laws.OwnMore
import Derived.Deep.OwnRows
import Derived.Tactics
import Derived.Lib.ConvBytes
import Derived.Laws.Slices
import Derived.WalkKit
import Derived.KernelRfl
import Derived.RowKit3
import Derived.Deep.LoopGhost
import Derived.Deep.QuietTactic
import Derived.BigQuiet
import Derived.WideLaws
import Derived.Deep.DeepCutAuto
import Derived.Deep.CutBlock
import Derived.Deep.RegionHeld3
import Derived.Laws.Rows
import Derived.Lib.AppendStr
import Derived.ArgAppend
import Derived.Laws.IdiomCopy
import Derived.OrdersHeld
import Derived.Laws.BitsLemmas
import Derived.RowKit
import Derived.Deep.RegionLaw
import Derived.Shelf.Small.Strs
import Derived.Shelf.Strings.Search1
import Derived.Deep.MidRow
import Derived.Test.YtlpibelofcabhaaWWords
import Derived.Test.YtlpibelofcabhaaWLast
import Derived.Test.YtlpibelofcabhaaWTab
import Derived.Test.YtlpibelofcabhaaWFour
import Derived.Test.YtlpibelofcabhaaWQPut
import Derived.Test.YtlpibelofcabhaaWApart
import Derived.Test.YtlpibelofcabhaaWArr
import Derived.Test.YtlpibelofcabhaaWZeros
import Derived.Test.YtlpibelofcabhaaWFoot
import Derived.Test.YtlpibelofcabhaaWKept
import Derived.Test.YtlpibelofcabhaaWShare
import Derived.Test.YtlpibelofcabhaaWN
import Derived.Test.YtlpibelofcabhaaWFootNe
import Derived.Test.YtlpibelofcabhaaWAt
import Derived.Test.YtlpibelofcabhaaWEqStruct
import Derived.Test.YtlpibelofcabhaaWRepsOne
import Derived.Test.YtlpibelofcabhaaWInv
import Derived.Test.YtlpibelofcabhaaWInvWords
import Derived.Test.YtlpibelofcabhaaWGuard
import Derived.Test.YtlpibelofcabhaaWNEv
import Derived.Test.YtlpibelofcabhaaWMore
namespace Go.Proofs.Ytlpibelofcabhaa.PFnExactEndLeave
open Go.RowKit Go.Proofs.YtlpibelofcabhaaW.PrintWords Go.Proofs.YtlpibelofcabhaaW.PrintLast Go.Proofs.YtlpibelofcabhaaW.PrintMore Go.Proofs.Ytlpibelofcabhaa.Lm
attribute [local go_sem] max2_int min2_int max_two min_two max_three min_three max_four min_four   -- for this text's walks alone
set_option linter.unusedVariables false
set_option linter.unusedSimpArgs false



def errW : Option Int → Value
  | none => .nilIface
  | some c => .iface 0 (.int .i64 c)
theorem errW_none : errW none = .nilIface := rfl
theorem errW_some (c : Int) : errW (some c) = .iface 0 (.int .i64 c) := rfl

theorem ze {p : Prop} (h : p := by first | rfl | (simp [errW_none, errW_some] <;> rfl) | (simp [*, errW_none, errW_some] <;> rfl) | (simp [errW_none, errW_some]; exact (by intro l_; cases l_ <;> rfl : ∀ l_ : List UInt8, l_.isEmpty = !(l_ != [])) _)) : p := h

theorem info5 : (Try.prog.info? 5).map (fun i => (i.zero, i.size, i.bytes)) = some (some (.int .u8 0), 1, 1) := by kernel_rfl
theorem info42 : (Try.prog.info? 42).map (fun i => (i.zero, i.size, i.bytes)) = some (some (.agg #[(.bool false), (.slice none 0 0), (.int .i64 0), (.slice none 0 0), (.int .i64 0), (.string ⟨#[]⟩), (.slice none 0 0), (.int .i64 0), (.int .i64 0), (.slice none 0 0), (.bool false)]), 11, 160) := by kernel_rfl
theorem info88 : (Try.prog.info? 88).map (fun i => (i.zero, i.size, i.bytes)) = some (some (.agg #[(.string ⟨#[]⟩), (.string ⟨#[]⟩), (.bool false)]), 3, 40) := by kernel_rfl
theorem info104 : (Try.prog.info? 104).map (fun i => (i.zero, i.size, i.bytes)) = some (some (.agg #[(.int .i64 0), (.int .i64 0), (.slice none 0 0), (.string ⟨#[]⟩), (.bool false), (.bool false), (.int .i64 0), (.slice none 0 0), (.string ⟨#[]⟩), (.bool false), (.int .i64 0), (.int .i64 0)]), 12, 136) := by kernel_rfl
theorem info110 : (Try.prog.info? 110).map (fun i => (i.zero, i.size, i.bytes)) = some (some (.agg #[(.int .i64 0), (.bool false), (.int .i64 0), (.string ⟨#[]⟩)]), 4, 40) := by kernel_rfl
-- the values' own types
/-! #### struct type 110 -/
structure S110 where
  f0 : Int
  f1 : Bool
  f2 : Int
  f3 : ByteArray
def z110 : S110 := ⟨(0 : Int), false, (0 : Int), (⟨#[]⟩ : ByteArray)⟩
def k110 : Kd S110 := Kd.iso (Kd.pair (Kd.int .i64) (Kd.pair Kd.bool (Kd.pair (Kd.int .i64) Kd.string))) (fun x : S110 => (x.f0, x.f1, x.f2, x.f3))
theorem k110_open {w : World} {x : S110} {cs : List Value} (h : k110.K w x cs) : cs = [.int .i64 x.f0, .bool x.f1, .int .i64 x.f2, .string x.f3] := by
  obtain ⟨_, _, rfl, rfl, ⟨_, _, rfl, rfl, ⟨_, _, rfl, rfl, rfl⟩⟩⟩ := h
  exact rfl
theorem k110_openM {w : World} {base : Nat} {ok : Nat → Prop} {x : S110} {cs : List Value} (h : k110.M w base ok x cs) : cs = [.int .i64 x.f0, .bool x.f1, .int .i64 x.f2, .string x.f3] := by
  obtain ⟨_, _, rfl, rfl, ⟨_, _, rfl, rfl, ⟨_, _, rfl, rfl, rfl⟩⟩⟩ := h
  exact rfl
theorem k110_mk (w : World) (x : S110)  : k110.K w x [.int .i64 x.f0, .bool x.f1, .int .i64 x.f2, .string x.f3] := ⟨[.int .i64 x.f0], [.bool x.f1, .int .i64 x.f2, .string x.f3], rfl, rfl, ⟨[.bool x.f1], [.int .i64 x.f2, .string x.f3], rfl, rfl, ⟨[.int .i64 x.f2], [.string x.f3], rfl, rfl, rfl⟩⟩⟩
theorem k110_mkM (w : World) (base : Nat) (ok : Nat → Prop) (x : S110)  : k110.M w base ok x [.int .i64 x.f0, .bool x.f1, .int .i64 x.f2, .string x.f3] := ⟨[.int .i64 x.f0], [.bool x.f1, .int .i64 x.f2, .string x.f3], rfl, rfl, ⟨[.bool x.f1], [.int .i64 x.f2, .string x.f3], rfl, rfl, ⟨[.int .i64 x.f2], [.string x.f3], rfl, rfl, rfl⟩⟩⟩
def rd_T110 (xs : List S110) (i : Int) : S110 := xs.getD i.toNat z110
theorem at_T110 {w : World} {A : Option Addr} {n : Nat} {xs : List S110} (h : Kd.C k110 w A n xs) (i : Int) (h0 : 0 ≤ i) (h1 : i < n) : ∃ ad , A = some ad ∧ w.cell? (ad.add (i.toNat * 4)) = some (.int .i64 (rd_T110 xs i).f0) ∧ w.cell? ⟨(ad.add (i.toNat * 4)).block, (ad.add (i.toNat * 4)).off + 1, none⟩ = some (.bool (rd_T110 xs i).f1) ∧ w.cell? ⟨(ad.add (i.toNat * 4)).block, (ad.add (i.toNat * 4)).off + 2, none⟩ = some (.int .i64 (rd_T110 xs i).f2) ∧ w.cell? ⟨(ad.add (i.toNat * 4)).block, (ad.add (i.toNat * 4)).off + 3, none⟩ = some (.string (rd_T110 xs i).f3) := by
  obtain ⟨ad, c, e, _, hK, hc0⟩ := Kd.C_get h z110 i h0 h1
  have hc : ∀ j u, c[j]? = some u → w.cell? (ad.add (i.toNat * 4 + j)) = some u := hc0
  obtain rfl := k110_open hK
  exact ⟨ad, e, hc 0 _ rfl, by rw [← add_field _ _ 1 (by omega)]; exact hc 1 _ rfl, by rw [← add_field _ _ 2 (by omega)]; exact hc 2 _ rfl, by rw [← add_field _ _ 3 (by omega)]; exact hc 3 _ rfl⟩

/-! #### struct type 88 -/
structure S88 where
  f0 : ByteArray
  f1 : ByteArray
  f2 : Bool
def z88 : S88 := ⟨(⟨#[]⟩ : ByteArray), (⟨#[]⟩ : ByteArray), false⟩
def k88 : Kd S88 := Kd.iso (Kd.pair Kd.string (Kd.pair Kd.string Kd.bool)) (fun x : S88 => (x.f0, x.f1, x.f2))
theorem k88_open {w : World} {x : S88} {cs : List Value} (h : k88.K w x cs) : cs = [.string x.f0, .string x.f1, .bool x.f2] := by
  obtain ⟨_, _, rfl, rfl, ⟨_, _, rfl, rfl, rfl⟩⟩ := h
  exact rfl
theorem k88_openM {w : World} {base : Nat} {ok : Nat → Prop} {x : S88} {cs : List Value} (h : k88.M w base ok x cs) : cs = [.string x.f0, .string x.f1, .bool x.f2] := by
  obtain ⟨_, _, rfl, rfl, ⟨_, _, rfl, rfl, rfl⟩⟩ := h
  exact rfl
theorem k88_mk (w : World) (x : S88)  : k88.K w x [.string x.f0, .string x.f1, .bool x.f2] := ⟨[.string x.f0], [.string x.f1, .bool x.f2], rfl, rfl, ⟨[.string x.f1], [.bool x.f2], rfl, rfl, rfl⟩⟩
theorem k88_mkM (w : World) (base : Nat) (ok : Nat → Prop) (x : S88)  : k88.M w base ok x [.string x.f0, .string x.f1, .bool x.f2] := ⟨[.string x.f0], [.string x.f1, .bool x.f2], rfl, rfl, ⟨[.string x.f1], [.bool x.f2], rfl, rfl, rfl⟩⟩
def rd_T88 (xs : List S88) (i : Int) : S88 := xs.getD i.toNat z88
theorem at_T88 {w : World} {A : Option Addr} {n : Nat} {xs : List S88} (h : Kd.C k88 w A n xs) (i : Int) (h0 : 0 ≤ i) (h1 : i < n) : ∃ ad , A = some ad ∧ w.cell? (ad.add (i.toNat * 3)) = some (.string (rd_T88 xs i).f0) ∧ w.cell? ⟨(ad.add (i.toNat * 3)).block, (ad.add (i.toNat * 3)).off + 1, none⟩ = some (.string (rd_T88 xs i).f1) ∧ w.cell? ⟨(ad.add (i.toNat * 3)).block, (ad.add (i.toNat * 3)).off + 2, none⟩ = some (.bool (rd_T88 xs i).f2) := by
  obtain ⟨ad, c, e, _, hK, hc0⟩ := Kd.C_get h z88 i h0 h1
  have hc : ∀ j u, c[j]? = some u → w.cell? (ad.add (i.toNat * 3 + j)) = some u := hc0
  obtain rfl := k88_open hK
  exact ⟨ad, e, hc 0 _ rfl, by rw [← add_field _ _ 1 (by omega)]; exact hc 1 _ rfl, by rw [← add_field _ _ 2 (by omega)]; exact hc 2 _ rfl⟩

def rd_L5 (xs : List (List S88)) (i : Int) : (List S88) := xs.getD i.toNat ([] : List S88)
theorem at_L5 {w : World} {A : Option Addr} {n : Nat} {xs : List (List S88)} (h : Kd.C (Kd.slice 88 k88) w A n xs) (i : Int) (h0 : 0 ≤ i) (h1 : i < n) : ∃ ad A0 c0, A = some ad ∧ w.cell? (ad.add i.toNat) = some (.slice A0 (rd_L5 xs i).length c0) ∧ (rd_L5 xs i).length ≤ c0 ∧ k88.C w A0 (rd_L5 xs i).length (rd_L5 xs i) := by
  obtain ⟨ad, c, e, _, hK, hc0⟩ := Kd.C_get h ([] : List S88) i h0 h1
  have hc : ∀ j u, c[j]? = some u → w.cell? (ad.add (i.toNat * 1 + j)) = some u := hc0
  obtain ⟨A0, c0, rfl, l0, g0⟩ := hK
  exact ⟨ad, A0, c0, e, by have hq := hc 0 _ rfl; rwa [Nat.mul_one, Nat.add_zero] at hq, l0, g0⟩

/-! #### struct type 39 -/
structure S39 where
  f0 : Int
  f1 : Int
def z39 : S39 := ⟨(0 : Int), (0 : Int)⟩
def k39 : Kd S39 := Kd.iso (Kd.pair (Kd.int .i64) (Kd.int .i64)) (fun x : S39 => (x.f0, x.f1))
theorem k39_open {w : World} {x : S39} {cs : List Value} (h : k39.K w x cs) : cs = [.int .i64 x.f0, .int .i64 x.f1] := by
  obtain ⟨_, _, rfl, rfl, rfl⟩ := h
  exact rfl
theorem k39_openM {w : World} {base : Nat} {ok : Nat → Prop} {x : S39} {cs : List Value} (h : k39.M w base ok x cs) : cs = [.int .i64 x.f0, .int .i64 x.f1] := by
  obtain ⟨_, _, rfl, rfl, rfl⟩ := h
  exact rfl
theorem k39_mk (w : World) (x : S39)  : k39.K w x [.int .i64 x.f0, .int .i64 x.f1] := ⟨[.int .i64 x.f0], [.int .i64 x.f1], rfl, rfl, rfl⟩
theorem k39_mkM (w : World) (base : Nat) (ok : Nat → Prop) (x : S39)  : k39.M w base ok x [.int .i64 x.f0, .int .i64 x.f1] := ⟨[.int .i64 x.f0], [.int .i64 x.f1], rfl, rfl, rfl⟩
def rd_T39 (xs : List S39) (i : Int) : S39 := xs.getD i.toNat z39
theorem at_T39 {w : World} {A : Option Addr} {n : Nat} {xs : List S39} (h : Kd.C k39 w A n xs) (i : Int) (h0 : 0 ≤ i) (h1 : i < n) : ∃ ad , A = some ad ∧ w.cell? (ad.add (i.toNat * 2)) = some (.int .i64 (rd_T39 xs i).f0) ∧ w.cell? ⟨(ad.add (i.toNat * 2)).block, (ad.add (i.toNat * 2)).off + 1, none⟩ = some (.int .i64 (rd_T39 xs i).f1) := by
  obtain ⟨ad, c, e, _, hK, hc0⟩ := Kd.C_get h z39 i h0 h1
  have hc : ∀ j u, c[j]? = some u → w.cell? (ad.add (i.toNat * 2 + j)) = some u := hc0
  obtain rfl := k39_open hK
  exact ⟨ad, e, hc 0 _ rfl, by rw [← add_field _ _ 1 (by omega)]; exact hc 1 _ rfl⟩

/-! #### struct type 104 -/
structure S104 where
  f0 : Int
  f1 : Int
  f2 : (List S88)
  f3 : ByteArray
  f4 : Bool
  f5 : Bool
  f6 : Int
  f7 : (List S88)
  f8 : ByteArray
  f9 : Bool
  f10 : S39
def z104 : S104 := ⟨(0 : Int), (0 : Int), ([] : List S88), (⟨#[]⟩ : ByteArray), false, false, (0 : Int), ([] : List S88), (⟨#[]⟩ : ByteArray), false, z39⟩
/-- A kind, the cells of which meet p where they are the call's own. -/
def guardK {α : Type} (p : List Value → Prop) (d : Kd α) : Kd α where
  sz := d.sz
  E := d.E
  K := d.K
  M := fun w b ok x cs => d.M w b ok x cs ∧ p cs
  K_len := d.K_len
  K_one := d.K_one
  K_below := d.K_below
  K_of_M := fun h => d.K_of_M h.1
  M_mono := fun ho h => ⟨d.M_mono ho h.1, h.2⟩
  M_bound := fun h => ⟨d.M_bound h.1, h.2⟩
  M_move := fun hm h => ⟨d.M_move hm h.1, h.2⟩
  M_lower := fun hb h => ⟨d.M_lower hb h.1, h.2⟩
def two27 (cs : List Value) : Prop := ∀ u v, cs[2]? = some u → cs[7]? = some v → ∀ k, u.ownBlock = some k → v.ownBlock ≠ some k
def k104 : Kd S104 := guardK two27 (Kd.iso (Kd.pair (Kd.int .i64) (Kd.pair (Kd.int .i64) (Kd.pair (Kd.slice 88 k88) (Kd.pair Kd.string (Kd.pair Kd.bool (Kd.pair Kd.bool (Kd.pair (Kd.int .i64) (Kd.pair (Kd.slice 88 k88) (Kd.pair Kd.string (Kd.pair Kd.bool k39)))))))))) (fun x : S104 => (x.f0, x.f1, x.f2, x.f3, x.f4, x.f5, x.f6, x.f7, x.f8, x.f9, x.f10)))
theorem k104_open {w : World} {x : S104} {cs : List Value} (h : k104.K w x cs) : ∃ A2 c2 A7 c7, cs = [.int .i64 x.f0, .int .i64 x.f1, .slice A2 x.f2.length c2, .string x.f3, .bool x.f4, .bool x.f5, .int .i64 x.f6, .slice A7 x.f7.length c7, .string x.f8, .bool x.f9, .int .i64 x.f10.f0, .int .i64 x.f10.f1] ∧ x.f2.length ≤ c2 ∧ k88.C w A2 x.f2.length x.f2 ∧ x.f7.length ≤ c7 ∧ k88.C w A7 x.f7.length x.f7 := by
  obtain ⟨_, _, rfl, rfl, ⟨_, _, rfl, rfl, ⟨_, _, rfl, ⟨A2, c2, rfl, l2, g2⟩, ⟨_, _, rfl, rfl, ⟨_, _, rfl, rfl, ⟨_, _, rfl, rfl, ⟨_, _, rfl, rfl, ⟨_, _, rfl, ⟨A7, c7, rfl, l7, g7⟩, ⟨_, _, rfl, rfl, ⟨_, _, rfl, rfl, s10⟩⟩⟩⟩⟩⟩⟩⟩⟩⟩ := h
  obtain rfl := k39_open s10
  exact ⟨A2, c2, A7, c7, rfl, l2, g2, l7, g7⟩
theorem k104_openM {w : World} {base : Nat} {ok : Nat → Prop} {x : S104} {cs : List Value} (h : k104.M w base ok x cs) : ∃ v2 v7, cs = [.int .i64 x.f0, .int .i64 x.f1, v2, .string x.f3, .bool x.f4, .bool x.f5, .int .i64 x.f6, v7, .string x.f8, .bool x.f9, .int .i64 x.f10.f0, .int .i64 x.f10.f1] ∧ k88.R 88 w base ok v2 x.f2 ∧ k88.R 88 w base ok v7 x.f7 := by
  replace h := h.1
  obtain ⟨_, _, rfl, rfl, ⟨_, _, rfl, rfl, ⟨_, _, rfl, ⟨v2, rfl, g2⟩, ⟨_, _, rfl, rfl, ⟨_, _, rfl, rfl, ⟨_, _, rfl, rfl, ⟨_, _, rfl, rfl, ⟨_, _, rfl, ⟨v7, rfl, g7⟩, ⟨_, _, rfl, rfl, ⟨_, _, rfl, rfl, s10⟩⟩⟩⟩⟩⟩⟩⟩⟩⟩ := h
  obtain rfl := k39_openM s10
  exact ⟨v2, v7, rfl, g2, g7⟩
theorem k104_mk (w : World) (x : S104) {A2 : Option Addr} {c2 : Nat} (l2 : x.f2.length ≤ c2) (g2 : k88.C w A2 x.f2.length x.f2) {A7 : Option Addr} {c7 : Nat} (l7 : x.f7.length ≤ c7) (g7 : k88.C w A7 x.f7.length x.f7) : k104.K w x [.int .i64 x.f0, .int .i64 x.f1, .slice A2 x.f2.length c2, .string x.f3, .bool x.f4, .bool x.f5, .int .i64 x.f6, .slice A7 x.f7.length c7, .string x.f8, .bool x.f9, .int .i64 x.f10.f0, .int .i64 x.f10.f1] := ⟨[.int .i64 x.f0], [.int .i64 x.f1, .slice A2 x.f2.length c2, .string x.f3, .bool x.f4, .bool x.f5, .int .i64 x.f6, .slice A7 x.f7.length c7, .string x.f8, .bool x.f9, .int .i64 x.f10.f0, .int .i64 x.f10.f1], rfl, rfl, ⟨[.int .i64 x.f1], [.slice A2 x.f2.length c2, .string x.f3, .bool x.f4, .bool x.f5, .int .i64 x.f6, .slice A7 x.f7.length c7, .string x.f8, .bool x.f9, .int .i64 x.f10.f0, .int .i64 x.f10.f1], rfl, rfl, ⟨[.slice A2 x.f2.length c2], [.string x.f3, .bool x.f4, .bool x.f5, .int .i64 x.f6, .slice A7 x.f7.length c7, .string x.f8, .bool x.f9, .int .i64 x.f10.f0, .int .i64 x.f10.f1], rfl, ⟨A2, c2, rfl, l2, g2⟩, ⟨[.string x.f3], [.bool x.f4, .bool x.f5, .int .i64 x.f6, .slice A7 x.f7.length c7, .string x.f8, .bool x.f9, .int .i64 x.f10.f0, .int .i64 x.f10.f1], rfl, rfl, ⟨[.bool x.f4], [.bool x.f5, .int .i64 x.f6, .slice A7 x.f7.length c7, .string x.f8, .bool x.f9, .int .i64 x.f10.f0, .int .i64 x.f10.f1], rfl, rfl, ⟨[.bool x.f5], [.int .i64 x.f6, .slice A7 x.f7.length c7, .string x.f8, .bool x.f9, .int .i64 x.f10.f0, .int .i64 x.f10.f1], rfl, rfl, ⟨[.int .i64 x.f6], [.slice A7 x.f7.length c7, .string x.f8, .bool x.f9, .int .i64 x.f10.f0, .int .i64 x.f10.f1], rfl, rfl, ⟨[.slice A7 x.f7.length c7], [.string x.f8, .bool x.f9, .int .i64 x.f10.f0, .int .i64 x.f10.f1], rfl, ⟨A7, c7, rfl, l7, g7⟩, ⟨[.string x.f8], [.bool x.f9, .int .i64 x.f10.f0, .int .i64 x.f10.f1], rfl, rfl, ⟨[.bool x.f9], [.int .i64 x.f10.f0, .int .i64 x.f10.f1], rfl, rfl, (k39_mk w x.f10 )⟩⟩⟩⟩⟩⟩⟩⟩⟩⟩
theorem k104_mkM (w : World) (base : Nat) (ok : Nat → Prop) (x : S104) {v2 : Value} (g2 : k88.R 88 w base ok v2 x.f2) {v7 : Value} (g7 : k88.R 88 w base ok v7 x.f7) (hp : ∀ k, v2.ownBlock = some k → v7.ownBlock ≠ some k) : k104.M w base ok x [.int .i64 x.f0, .int .i64 x.f1, v2, .string x.f3, .bool x.f4, .bool x.f5, .int .i64 x.f6, v7, .string x.f8, .bool x.f9, .int .i64 x.f10.f0, .int .i64 x.f10.f1] := ⟨⟨[.int .i64 x.f0], [.int .i64 x.f1, v2, .string x.f3, .bool x.f4, .bool x.f5, .int .i64 x.f6, v7, .string x.f8, .bool x.f9, .int .i64 x.f10.f0, .int .i64 x.f10.f1], rfl, rfl, ⟨[.int .i64 x.f1], [v2, .string x.f3, .bool x.f4, .bool x.f5, .int .i64 x.f6, v7, .string x.f8, .bool x.f9, .int .i64 x.f10.f0, .int .i64 x.f10.f1], rfl, rfl, ⟨[v2], [.string x.f3, .bool x.f4, .bool x.f5, .int .i64 x.f6, v7, .string x.f8, .bool x.f9, .int .i64 x.f10.f0, .int .i64 x.f10.f1], rfl, ⟨v2, rfl, g2⟩, ⟨[.string x.f3], [.bool x.f4, .bool x.f5, .int .i64 x.f6, v7, .string x.f8, .bool x.f9, .int .i64 x.f10.f0, .int .i64 x.f10.f1], rfl, rfl, ⟨[.bool x.f4], [.bool x.f5, .int .i64 x.f6, v7, .string x.f8, .bool x.f9, .int .i64 x.f10.f0, .int .i64 x.f10.f1], rfl, rfl, ⟨[.bool x.f5], [.int .i64 x.f6, v7, .string x.f8, .bool x.f9, .int .i64 x.f10.f0, .int .i64 x.f10.f1], rfl, rfl, ⟨[.int .i64 x.f6], [v7, .string x.f8, .bool x.f9, .int .i64 x.f10.f0, .int .i64 x.f10.f1], rfl, rfl, ⟨[v7], [.string x.f8, .bool x.f9, .int .i64 x.f10.f0, .int .i64 x.f10.f1], rfl, ⟨v7, rfl, g7⟩, ⟨[.string x.f8], [.bool x.f9, .int .i64 x.f10.f0, .int .i64 x.f10.f1], rfl, rfl, ⟨[.bool x.f9], [.int .i64 x.f10.f0, .int .i64 x.f10.f1], rfl, rfl, (k39_mkM w base ok x.f10 )⟩⟩⟩⟩⟩⟩⟩⟩⟩⟩, fun u v hu hv => by cases hu; cases hv; exact hp⟩
def rd_T104 (xs : List S104) (i : Int) : S104 := xs.getD i.toNat z104
theorem at_T104 {w : World} {A : Option Addr} {n : Nat} {xs : List S104} (h : Kd.C k104 w A n xs) (i : Int) (h0 : 0 ≤ i) (h1 : i < n) : ∃ ad A2 c2 A7 c7, A = some ad ∧ w.cell? (ad.add (i.toNat * 12)) = some (.int .i64 (rd_T104 xs i).f0) ∧ w.cell? ⟨(ad.add (i.toNat * 12)).block, (ad.add (i.toNat * 12)).off + 1, none⟩ = some (.int .i64 (rd_T104 xs i).f1) ∧ w.cell? ⟨(ad.add (i.toNat * 12)).block, (ad.add (i.toNat * 12)).off + 2, none⟩ = some (.slice A2 (rd_T104 xs i).f2.length c2) ∧ w.cell? ⟨(ad.add (i.toNat * 12)).block, (ad.add (i.toNat * 12)).off + 3, none⟩ = some (.string (rd_T104 xs i).f3) ∧ w.cell? ⟨(ad.add (i.toNat * 12)).block, (ad.add (i.toNat * 12)).off + 4, none⟩ = some (.bool (rd_T104 xs i).f4) ∧ w.cell? ⟨(ad.add (i.toNat * 12)).block, (ad.add (i.toNat * 12)).off + 5, none⟩ = some (.bool (rd_T104 xs i).f5) ∧ w.cell? ⟨(ad.add (i.toNat * 12)).block, (ad.add (i.toNat * 12)).off + 6, none⟩ = some (.int .i64 (rd_T104 xs i).f6) ∧ w.cell? ⟨(ad.add (i.toNat * 12)).block, (ad.add (i.toNat * 12)).off + 7, none⟩ = some (.slice A7 (rd_T104 xs i).f7.length c7) ∧ w.cell? ⟨(ad.add (i.toNat * 12)).block, (ad.add (i.toNat * 12)).off + 8, none⟩ = some (.string (rd_T104 xs i).f8) ∧ w.cell? ⟨(ad.add (i.toNat * 12)).block, (ad.add (i.toNat * 12)).off + 9, none⟩ = some (.bool (rd_T104 xs i).f9) ∧ w.cell? ⟨(ad.add (i.toNat * 12)).block, (ad.add (i.toNat * 12)).off + 10, none⟩ = some (.int .i64 (rd_T104 xs i).f10.f0) ∧ w.cell? ⟨(ad.add (i.toNat * 12)).block, (ad.add (i.toNat * 12)).off + 11, none⟩ = some (.int .i64 (rd_T104 xs i).f10.f1) ∧ (rd_T104 xs i).f2.length ≤ c2 ∧ k88.C w A2 (rd_T104 xs i).f2.length (rd_T104 xs i).f2 ∧ (rd_T104 xs i).f7.length ≤ c7 ∧ k88.C w A7 (rd_T104 xs i).f7.length (rd_T104 xs i).f7 := by
  obtain ⟨ad, c, e, _, hK, hc0⟩ := Kd.C_get h z104 i h0 h1
  have hc : ∀ j u, c[j]? = some u → w.cell? (ad.add (i.toNat * 12 + j)) = some u := hc0
  obtain ⟨A2, c2, A7, c7, rfl, l2, g2, l7, g7⟩ := k104_open hK
  exact ⟨ad, A2, c2, A7, c7, e, hc 0 _ rfl, by rw [← add_field _ _ 1 (by omega)]; exact hc 1 _ rfl, by rw [← add_field _ _ 2 (by omega)]; exact hc 2 _ rfl, by rw [← add_field _ _ 3 (by omega)]; exact hc 3 _ rfl, by rw [← add_field _ _ 4 (by omega)]; exact hc 4 _ rfl, by rw [← add_field _ _ 5 (by omega)]; exact hc 5 _ rfl, by rw [← add_field _ _ 6 (by omega)]; exact hc 6 _ rfl, by rw [← add_field _ _ 7 (by omega)]; exact hc 7 _ rfl, by rw [← add_field _ _ 8 (by omega)]; exact hc 8 _ rfl, by rw [← add_field _ _ 9 (by omega)]; exact hc 9 _ rfl, by rw [← add_field _ _ 10 (by omega)]; exact hc 10 _ rfl, by rw [← add_field _ _ 11 (by omega)]; exact hc 11 _ rfl, l2, g2, l7, g7⟩

/-! #### struct type 25 -/
structure S25 where
  f0 : (List S88)
  f1 : Int
def z25 : S25 := ⟨([] : List S88), (0 : Int)⟩
def k25 : Kd S25 := Kd.iso (Kd.pair (Kd.slice 88 k88) (Kd.int .i64)) (fun x : S25 => (x.f0, x.f1))
theorem k25_open {w : World} {x : S25} {cs : List Value} (h : k25.K w x cs) : ∃ A0 c0, cs = [.slice A0 x.f0.length c0, .int .i64 x.f1] ∧ x.f0.length ≤ c0 ∧ k88.C w A0 x.f0.length x.f0 := by
  obtain ⟨_, _, rfl, ⟨A0, c0, rfl, l0, g0⟩, rfl⟩ := h
  exact ⟨A0, c0, rfl, l0, g0⟩
theorem k25_openM {w : World} {base : Nat} {ok : Nat → Prop} {x : S25} {cs : List Value} (h : k25.M w base ok x cs) : ∃ v0, cs = [v0, .int .i64 x.f1] ∧ k88.R 88 w base ok v0 x.f0 := by
  obtain ⟨_, _, rfl, ⟨v0, rfl, g0⟩, rfl⟩ := h
  exact ⟨v0, rfl, g0⟩
theorem k25_mk (w : World) (x : S25) {A0 : Option Addr} {c0 : Nat} (l0 : x.f0.length ≤ c0) (g0 : k88.C w A0 x.f0.length x.f0) : k25.K w x [.slice A0 x.f0.length c0, .int .i64 x.f1] := ⟨[.slice A0 x.f0.length c0], [.int .i64 x.f1], rfl, ⟨A0, c0, rfl, l0, g0⟩, rfl⟩
theorem k25_mkM (w : World) (base : Nat) (ok : Nat → Prop) (x : S25) {v0 : Value} (g0 : k88.R 88 w base ok v0 x.f0) : k25.M w base ok x [v0, .int .i64 x.f1] := ⟨[v0], [.int .i64 x.f1], rfl, ⟨v0, rfl, g0⟩, rfl⟩
def rd_T25 (xs : List S25) (i : Int) : S25 := xs.getD i.toNat z25
theorem at_T25 {w : World} {A : Option Addr} {n : Nat} {xs : List S25} (h : Kd.C k25 w A n xs) (i : Int) (h0 : 0 ≤ i) (h1 : i < n) : ∃ ad A0 c0, A = some ad ∧ w.cell? (ad.add (i.toNat * 2)) = some (.slice A0 (rd_T25 xs i).f0.length c0) ∧ w.cell? ⟨(ad.add (i.toNat * 2)).block, (ad.add (i.toNat * 2)).off + 1, none⟩ = some (.int .i64 (rd_T25 xs i).f1) ∧ (rd_T25 xs i).f0.length ≤ c0 ∧ k88.C w A0 (rd_T25 xs i).f0.length (rd_T25 xs i).f0 := by
  obtain ⟨ad, c, e, _, hK, hc0⟩ := Kd.C_get h z25 i h0 h1
  have hc : ∀ j u, c[j]? = some u → w.cell? (ad.add (i.toNat * 2 + j)) = some u := hc0
  obtain ⟨A0, c0, rfl, l0, g0⟩ := k25_open hK
  exact ⟨ad, A0, c0, e, hc 0 _ rfl, by rw [← add_field _ _ 1 (by omega)]; exact hc 1 _ rfl, l0, g0⟩

def rd_L10 (xs : List (List S104)) (i : Int) : (List S104) := xs.getD i.toNat ([] : List S104)
theorem at_L10 {w : World} {A : Option Addr} {n : Nat} {xs : List (List S104)} (h : Kd.C (Kd.slice 104 k104) w A n xs) (i : Int) (h0 : 0 ≤ i) (h1 : i < n) : ∃ ad A0 c0, A = some ad ∧ w.cell? (ad.add i.toNat) = some (.slice A0 (rd_L10 xs i).length c0) ∧ (rd_L10 xs i).length ≤ c0 ∧ k104.C w A0 (rd_L10 xs i).length (rd_L10 xs i) := by
  obtain ⟨ad, c, e, _, hK, hc0⟩ := Kd.C_get h ([] : List S104) i h0 h1
  have hc : ∀ j u, c[j]? = some u → w.cell? (ad.add (i.toNat * 1 + j)) = some u := hc0
  obtain ⟨A0, c0, rfl, l0, g0⟩ := hK
  exact ⟨ad, A0, c0, e, by have hq := hc 0 _ rfl; rwa [Nat.mul_one, Nat.add_zero] at hq, l0, g0⟩

def rd_L11 (xs : List (List S110)) (i : Int) : (List S110) := xs.getD i.toNat ([] : List S110)
theorem at_L11 {w : World} {A : Option Addr} {n : Nat} {xs : List (List S110)} (h : Kd.C (Kd.slice 110 k110) w A n xs) (i : Int) (h0 : 0 ≤ i) (h1 : i < n) : ∃ ad A0 c0, A = some ad ∧ w.cell? (ad.add i.toNat) = some (.slice A0 (rd_L11 xs i).length c0) ∧ (rd_L11 xs i).length ≤ c0 ∧ k110.C w A0 (rd_L11 xs i).length (rd_L11 xs i) := by
  obtain ⟨ad, c, e, _, hK, hc0⟩ := Kd.C_get h ([] : List S110) i h0 h1
  have hc : ∀ j u, c[j]? = some u → w.cell? (ad.add (i.toNat * 1 + j)) = some u := hc0
  obtain ⟨A0, c0, rfl, l0, g0⟩ := hK
  exact ⟨ad, A0, c0, e, by have hq := hc 0 _ rfl; rwa [Nat.mul_one, Nat.add_zero] at hq, l0, g0⟩

/-! #### struct type 42 -/
structure S42 where
  f0 : Bool
  f1 : S25
  f2 : S25
  f3 : ByteArray
  f4 : (List S104)
  f5 : S39
  f6 : (List S110)
  f7 : Bool
def z42 : S42 := ⟨false, z25, z25, (⟨#[]⟩ : ByteArray), ([] : List S104), z39, ([] : List S110), false⟩
def k42 : Kd S42 := Kd.iso (Kd.pair Kd.bool (Kd.pair k25 (Kd.pair k25 (Kd.pair Kd.string (Kd.pair (Kd.slice 104 k104) (Kd.pair k39 (Kd.pair (Kd.slice 110 k110) Kd.bool))))))) (fun x : S42 => (x.f0, x.f1, x.f2, x.f3, x.f4, x.f5, x.f6, x.f7))
theorem k42_open {w : World} {x : S42} {cs : List Value} (h : k42.K w x cs) : ∃ A1 c1 A3 c3 A6 c6 A9 c9, cs = [.bool x.f0, .slice A1 x.f1.f0.length c1, .int .i64 x.f1.f1, .slice A3 x.f2.f0.length c3, .int .i64 x.f2.f1, .string x.f3, .slice A6 x.f4.length c6, .int .i64 x.f5.f0, .int .i64 x.f5.f1, .slice A9 x.f6.length c9, .bool x.f7] ∧ x.f1.f0.length ≤ c1 ∧ k88.C w A1 x.f1.f0.length x.f1.f0 ∧ x.f2.f0.length ≤ c3 ∧ k88.C w A3 x.f2.f0.length x.f2.f0 ∧ x.f4.length ≤ c6 ∧ k104.C w A6 x.f4.length x.f4 ∧ x.f6.length ≤ c9 ∧ k110.C w A9 x.f6.length x.f6 := by
  obtain ⟨_, _, rfl, rfl, ⟨_, _, rfl, s1, ⟨_, _, rfl, s3, ⟨_, _, rfl, rfl, ⟨_, _, rfl, ⟨A6, c6, rfl, l6, g6⟩, ⟨_, _, rfl, s7, ⟨_, _, rfl, ⟨A9, c9, rfl, l9, g9⟩, rfl⟩⟩⟩⟩⟩⟩⟩ := h
  obtain ⟨A1, c1, rfl, l1, g1⟩ := k25_open s1
  obtain ⟨A3, c3, rfl, l3, g3⟩ := k25_open s3
  obtain rfl := k39_open s7
  exact ⟨A1, c1, A3, c3, A6, c6, A9, c9, rfl, l1, g1, l3, g3, l6, g6, l9, g9⟩
theorem k42_openM {w : World} {base : Nat} {ok : Nat → Prop} {x : S42} {cs : List Value} (h : k42.M w base ok x cs) : ∃ v1 v3 v6 v9, cs = [.bool x.f0, v1, .int .i64 x.f1.f1, v3, .int .i64 x.f2.f1, .string x.f3, v6, .int .i64 x.f5.f0, .int .i64 x.f5.f1, v9, .bool x.f7] ∧ k88.R 88 w base ok v1 x.f1.f0 ∧ k88.R 88 w base ok v3 x.f2.f0 ∧ k104.R 104 w base ok v6 x.f4 ∧ k110.R 110 w base ok v9 x.f6 := by
  obtain ⟨_, _, rfl, rfl, ⟨_, _, rfl, s1, ⟨_, _, rfl, s3, ⟨_, _, rfl, rfl, ⟨_, _, rfl, ⟨v6, rfl, g6⟩, ⟨_, _, rfl, s7, ⟨_, _, rfl, ⟨v9, rfl, g9⟩, rfl⟩⟩⟩⟩⟩⟩⟩ := h
  obtain ⟨v1, rfl, g1⟩ := k25_openM s1
  obtain ⟨v3, rfl, g3⟩ := k25_openM s3
  obtain rfl := k39_openM s7
  exact ⟨v1, v3, v6, v9, rfl, g1, g3, g6, g9⟩
theorem k42_mk (w : World) (x : S42) {A1 : Option Addr} {c1 : Nat} (l1 : x.f1.f0.length ≤ c1) (g1 : k88.C w A1 x.f1.f0.length x.f1.f0) {A3 : Option Addr} {c3 : Nat} (l3 : x.f2.f0.length ≤ c3) (g3 : k88.C w A3 x.f2.f0.length x.f2.f0) {A6 : Option Addr} {c6 : Nat} (l6 : x.f4.length ≤ c6) (g6 : k104.C w A6 x.f4.length x.f4) {A9 : Option Addr} {c9 : Nat} (l9 : x.f6.length ≤ c9) (g9 : k110.C w A9 x.f6.length x.f6) : k42.K w x [.bool x.f0, .slice A1 x.f1.f0.length c1, .int .i64 x.f1.f1, .slice A3 x.f2.f0.length c3, .int .i64 x.f2.f1, .string x.f3, .slice A6 x.f4.length c6, .int .i64 x.f5.f0, .int .i64 x.f5.f1, .slice A9 x.f6.length c9, .bool x.f7] := ⟨[.bool x.f0], [.slice A1 x.f1.f0.length c1, .int .i64 x.f1.f1, .slice A3 x.f2.f0.length c3, .int .i64 x.f2.f1, .string x.f3, .slice A6 x.f4.length c6, .int .i64 x.f5.f0, .int .i64 x.f5.f1, .slice A9 x.f6.length c9, .bool x.f7], rfl, rfl, ⟨[.slice A1 x.f1.f0.length c1, .int .i64 x.f1.f1], [.slice A3 x.f2.f0.length c3, .int .i64 x.f2.f1, .string x.f3, .slice A6 x.f4.length c6, .int .i64 x.f5.f0, .int .i64 x.f5.f1, .slice A9 x.f6.length c9, .bool x.f7], rfl, (k25_mk w x.f1 l1 g1), ⟨[.slice A3 x.f2.f0.length c3, .int .i64 x.f2.f1], [.string x.f3, .slice A6 x.f4.length c6, .int .i64 x.f5.f0, .int .i64 x.f5.f1, .slice A9 x.f6.length c9, .bool x.f7], rfl, (k25_mk w x.f2 l3 g3), ⟨[.string x.f3], [.slice A6 x.f4.length c6, .int .i64 x.f5.f0, .int .i64 x.f5.f1, .slice A9 x.f6.length c9, .bool x.f7], rfl, rfl, ⟨[.slice A6 x.f4.length c6], [.int .i64 x.f5.f0, .int .i64 x.f5.f1, .slice A9 x.f6.length c9, .bool x.f7], rfl, ⟨A6, c6, rfl, l6, g6⟩, ⟨[.int .i64 x.f5.f0, .int .i64 x.f5.f1], [.slice A9 x.f6.length c9, .bool x.f7], rfl, (k39_mk w x.f5 ), ⟨[.slice A9 x.f6.length c9], [.bool x.f7], rfl, ⟨A9, c9, rfl, l9, g9⟩, rfl⟩⟩⟩⟩⟩⟩⟩
theorem k42_mkM (w : World) (base : Nat) (ok : Nat → Prop) (x : S42) {v1 : Value} (g1 : k88.R 88 w base ok v1 x.f1.f0) {v3 : Value} (g3 : k88.R 88 w base ok v3 x.f2.f0) {v6 : Value} (g6 : k104.R 104 w base ok v6 x.f4) {v9 : Value} (g9 : k110.R 110 w base ok v9 x.f6) : k42.M w base ok x [.bool x.f0, v1, .int .i64 x.f1.f1, v3, .int .i64 x.f2.f1, .string x.f3, v6, .int .i64 x.f5.f0, .int .i64 x.f5.f1, v9, .bool x.f7] := ⟨[.bool x.f0], [v1, .int .i64 x.f1.f1, v3, .int .i64 x.f2.f1, .string x.f3, v6, .int .i64 x.f5.f0, .int .i64 x.f5.f1, v9, .bool x.f7], rfl, rfl, ⟨[v1, .int .i64 x.f1.f1], [v3, .int .i64 x.f2.f1, .string x.f3, v6, .int .i64 x.f5.f0, .int .i64 x.f5.f1, v9, .bool x.f7], rfl, (k25_mkM w base ok x.f1 g1), ⟨[v3, .int .i64 x.f2.f1], [.string x.f3, v6, .int .i64 x.f5.f0, .int .i64 x.f5.f1, v9, .bool x.f7], rfl, (k25_mkM w base ok x.f2 g3), ⟨[.string x.f3], [v6, .int .i64 x.f5.f0, .int .i64 x.f5.f1, v9, .bool x.f7], rfl, rfl, ⟨[v6], [.int .i64 x.f5.f0, .int .i64 x.f5.f1, v9, .bool x.f7], rfl, ⟨v6, rfl, g6⟩, ⟨[.int .i64 x.f5.f0, .int .i64 x.f5.f1], [v9, .bool x.f7], rfl, (k39_mkM w base ok x.f5 ), ⟨[v9], [.bool x.f7], rfl, ⟨v9, rfl, g9⟩, rfl⟩⟩⟩⟩⟩⟩⟩
def rd_T42 (xs : List S42) (i : Int) : S42 := xs.getD i.toNat z42
theorem at_T42 {w : World} {A : Option Addr} {n : Nat} {xs : List S42} (h : Kd.C k42 w A n xs) (i : Int) (h0 : 0 ≤ i) (h1 : i < n) : ∃ ad A1 c1 A3 c3 A6 c6 A9 c9, A = some ad ∧ w.cell? (ad.add (i.toNat * 11)) = some (.bool (rd_T42 xs i).f0) ∧ w.cell? ⟨(ad.add (i.toNat * 11)).block, (ad.add (i.toNat * 11)).off + 1, none⟩ = some (.slice A1 (rd_T42 xs i).f1.f0.length c1) ∧ w.cell? ⟨(ad.add (i.toNat * 11)).block, (ad.add (i.toNat * 11)).off + 2, none⟩ = some (.int .i64 (rd_T42 xs i).f1.f1) ∧ w.cell? ⟨(ad.add (i.toNat * 11)).block, (ad.add (i.toNat * 11)).off + 3, none⟩ = some (.slice A3 (rd_T42 xs i).f2.f0.length c3) ∧ w.cell? ⟨(ad.add (i.toNat * 11)).block, (ad.add (i.toNat * 11)).off + 4, none⟩ = some (.int .i64 (rd_T42 xs i).f2.f1) ∧ w.cell? ⟨(ad.add (i.toNat * 11)).block, (ad.add (i.toNat * 11)).off + 5, none⟩ = some (.string (rd_T42 xs i).f3) ∧ w.cell? ⟨(ad.add (i.toNat * 11)).block, (ad.add (i.toNat * 11)).off + 6, none⟩ = some (.slice A6 (rd_T42 xs i).f4.length c6) ∧ w.cell? ⟨(ad.add (i.toNat * 11)).block, (ad.add (i.toNat * 11)).off + 7, none⟩ = some (.int .i64 (rd_T42 xs i).f5.f0) ∧ w.cell? ⟨(ad.add (i.toNat * 11)).block, (ad.add (i.toNat * 11)).off + 8, none⟩ = some (.int .i64 (rd_T42 xs i).f5.f1) ∧ w.cell? ⟨(ad.add (i.toNat * 11)).block, (ad.add (i.toNat * 11)).off + 9, none⟩ = some (.slice A9 (rd_T42 xs i).f6.length c9) ∧ w.cell? ⟨(ad.add (i.toNat * 11)).block, (ad.add (i.toNat * 11)).off + 10, none⟩ = some (.bool (rd_T42 xs i).f7) ∧ (rd_T42 xs i).f1.f0.length ≤ c1 ∧ k88.C w A1 (rd_T42 xs i).f1.f0.length (rd_T42 xs i).f1.f0 ∧ (rd_T42 xs i).f2.f0.length ≤ c3 ∧ k88.C w A3 (rd_T42 xs i).f2.f0.length (rd_T42 xs i).f2.f0 ∧ (rd_T42 xs i).f4.length ≤ c6 ∧ k104.C w A6 (rd_T42 xs i).f4.length (rd_T42 xs i).f4 ∧ (rd_T42 xs i).f6.length ≤ c9 ∧ k110.C w A9 (rd_T42 xs i).f6.length (rd_T42 xs i).f6 := by
  obtain ⟨ad, c, e, _, hK, hc0⟩ := Kd.C_get h z42 i h0 h1
  have hc : ∀ j u, c[j]? = some u → w.cell? (ad.add (i.toNat * 11 + j)) = some u := hc0
  obtain ⟨A1, c1, A3, c3, A6, c6, A9, c9, rfl, l1, g1, l3, g3, l6, g6, l9, g9⟩ := k42_open hK
  exact ⟨ad, A1, c1, A3, c3, A6, c6, A9, c9, e, hc 0 _ rfl, by rw [← add_field _ _ 1 (by omega)]; exact hc 1 _ rfl, by rw [← add_field _ _ 2 (by omega)]; exact hc 2 _ rfl, by rw [← add_field _ _ 3 (by omega)]; exact hc 3 _ rfl, by rw [← add_field _ _ 4 (by omega)]; exact hc 4 _ rfl, by rw [← add_field _ _ 5 (by omega)]; exact hc 5 _ rfl, by rw [← add_field _ _ 6 (by omega)]; exact hc 6 _ rfl, by rw [← add_field _ _ 7 (by omega)]; exact hc 7 _ rfl, by rw [← add_field _ _ 8 (by omega)]; exact hc 8 _ rfl, by rw [← add_field _ _ 9 (by omega)]; exact hc 9 _ rfl, by rw [← add_field _ _ 10 (by omega)]; exact hc 10 _ rfl, l1, g1, l3, g3, l6, g6, l9, g9⟩

/-! #### struct type 192 -/
structure S192 where
  f0 : ByteArray
  f1 : ByteArray
  f2 : Bool
def z192 : S192 := ⟨(⟨#[]⟩ : ByteArray), (⟨#[]⟩ : ByteArray), false⟩
def k192 : Kd S192 := Kd.iso (Kd.pair Kd.string (Kd.pair Kd.string Kd.bool)) (fun x : S192 => (x.f0, x.f1, x.f2))
theorem k192_open {w : World} {x : S192} {cs : List Value} (h : k192.K w x cs) : cs = [.string x.f0, .string x.f1, .bool x.f2] := by
  obtain ⟨_, _, rfl, rfl, ⟨_, _, rfl, rfl, rfl⟩⟩ := h
  exact rfl
theorem k192_openM {w : World} {base : Nat} {ok : Nat → Prop} {x : S192} {cs : List Value} (h : k192.M w base ok x cs) : cs = [.string x.f0, .string x.f1, .bool x.f2] := by
  obtain ⟨_, _, rfl, rfl, ⟨_, _, rfl, rfl, rfl⟩⟩ := h
  exact rfl
theorem k192_mk (w : World) (x : S192)  : k192.K w x [.string x.f0, .string x.f1, .bool x.f2] := ⟨[.string x.f0], [.string x.f1, .bool x.f2], rfl, rfl, ⟨[.string x.f1], [.bool x.f2], rfl, rfl, rfl⟩⟩
theorem k192_mkM (w : World) (base : Nat) (ok : Nat → Prop) (x : S192)  : k192.M w base ok x [.string x.f0, .string x.f1, .bool x.f2] := ⟨[.string x.f0], [.string x.f1, .bool x.f2], rfl, rfl, ⟨[.string x.f1], [.bool x.f2], rfl, rfl, rfl⟩⟩
def rd_T192 (xs : List S192) (i : Int) : S192 := xs.getD i.toNat z192
theorem at_T192 {w : World} {A : Option Addr} {n : Nat} {xs : List S192} (h : Kd.C k192 w A n xs) (i : Int) (h0 : 0 ≤ i) (h1 : i < n) : ∃ ad , A = some ad ∧ w.cell? (ad.add (i.toNat * 3)) = some (.string (rd_T192 xs i).f0) ∧ w.cell? ⟨(ad.add (i.toNat * 3)).block, (ad.add (i.toNat * 3)).off + 1, none⟩ = some (.string (rd_T192 xs i).f1) ∧ w.cell? ⟨(ad.add (i.toNat * 3)).block, (ad.add (i.toNat * 3)).off + 2, none⟩ = some (.bool (rd_T192 xs i).f2) := by
  obtain ⟨ad, c, e, _, hK, hc0⟩ := Kd.C_get h z192 i h0 h1
  have hc : ∀ j u, c[j]? = some u → w.cell? (ad.add (i.toNat * 3 + j)) = some u := hc0
  obtain rfl := k192_open hK
  exact ⟨ad, e, hc 0 _ rfl, by rw [← add_field _ _ 1 (by omega)]; exact hc 1 _ rfl, by rw [← add_field _ _ 2 (by omega)]; exact hc 2 _ rfl⟩

def rd_L14 (xs : List (List S192)) (i : Int) : (List S192) := xs.getD i.toNat ([] : List S192)
theorem at_L14 {w : World} {A : Option Addr} {n : Nat} {xs : List (List S192)} (h : Kd.C (Kd.slice 192 k192) w A n xs) (i : Int) (h0 : 0 ≤ i) (h1 : i < n) : ∃ ad A0 c0, A = some ad ∧ w.cell? (ad.add i.toNat) = some (.slice A0 (rd_L14 xs i).length c0) ∧ (rd_L14 xs i).length ≤ c0 ∧ k192.C w A0 (rd_L14 xs i).length (rd_L14 xs i) := by
  obtain ⟨ad, c, e, _, hK, hc0⟩ := Kd.C_get h ([] : List S192) i h0 h1
  have hc : ∀ j u, c[j]? = some u → w.cell? (ad.add (i.toNat * 1 + j)) = some u := hc0
  obtain ⟨A0, c0, rfl, l0, g0⟩ := hK
  exact ⟨ad, A0, c0, e, by have hq := hc 0 _ rfl; rwa [Nat.mul_one, Nat.add_zero] at hq, l0, g0⟩

/-! #### struct type 61 -/
structure S61 where
  f0 : Int
  f1 : Int
def z61 : S61 := ⟨(0 : Int), (0 : Int)⟩
def k61 : Kd S61 := Kd.iso (Kd.pair (Kd.int .i64) (Kd.int .i64)) (fun x : S61 => (x.f0, x.f1))
theorem k61_open {w : World} {x : S61} {cs : List Value} (h : k61.K w x cs) : cs = [.int .i64 x.f0, .int .i64 x.f1] := by
  obtain ⟨_, _, rfl, rfl, rfl⟩ := h
  exact rfl
theorem k61_openM {w : World} {base : Nat} {ok : Nat → Prop} {x : S61} {cs : List Value} (h : k61.M w base ok x cs) : cs = [.int .i64 x.f0, .int .i64 x.f1] := by
  obtain ⟨_, _, rfl, rfl, rfl⟩ := h
  exact rfl
theorem k61_mk (w : World) (x : S61)  : k61.K w x [.int .i64 x.f0, .int .i64 x.f1] := ⟨[.int .i64 x.f0], [.int .i64 x.f1], rfl, rfl, rfl⟩
theorem k61_mkM (w : World) (base : Nat) (ok : Nat → Prop) (x : S61)  : k61.M w base ok x [.int .i64 x.f0, .int .i64 x.f1] := ⟨[.int .i64 x.f0], [.int .i64 x.f1], rfl, rfl, rfl⟩
def rd_T61 (xs : List S61) (i : Int) : S61 := xs.getD i.toNat z61
theorem at_T61 {w : World} {A : Option Addr} {n : Nat} {xs : List S61} (h : Kd.C k61 w A n xs) (i : Int) (h0 : 0 ≤ i) (h1 : i < n) : ∃ ad , A = some ad ∧ w.cell? (ad.add (i.toNat * 2)) = some (.int .i64 (rd_T61 xs i).f0) ∧ w.cell? ⟨(ad.add (i.toNat * 2)).block, (ad.add (i.toNat * 2)).off + 1, none⟩ = some (.int .i64 (rd_T61 xs i).f1) := by
  obtain ⟨ad, c, e, _, hK, hc0⟩ := Kd.C_get h z61 i h0 h1
  have hc : ∀ j u, c[j]? = some u → w.cell? (ad.add (i.toNat * 2 + j)) = some u := hc0
  obtain rfl := k61_open hK
  exact ⟨ad, e, hc 0 _ rfl, by rw [← add_field _ _ 1 (by omega)]; exact hc 1 _ rfl⟩

/-! #### struct type 167 -/
structure S167 where
  f0 : Int
  f1 : Int
  f2 : (List S192)
  f3 : ByteArray
  f4 : Bool
  f5 : Bool
  f6 : Int
  f7 : (List S192)
  f8 : ByteArray
  f9 : Bool
  f10 : S61
def z167 : S167 := ⟨(0 : Int), (0 : Int), ([] : List S192), (⟨#[]⟩ : ByteArray), false, false, (0 : Int), ([] : List S192), (⟨#[]⟩ : ByteArray), false, z61⟩
def k167 : Kd S167 := Kd.iso (Kd.pair (Kd.int .i64) (Kd.pair (Kd.int .i64) (Kd.pair (Kd.slice 192 k192) (Kd.pair Kd.string (Kd.pair Kd.bool (Kd.pair Kd.bool (Kd.pair (Kd.int .i64) (Kd.pair (Kd.slice 192 k192) (Kd.pair Kd.string (Kd.pair Kd.bool k61)))))))))) (fun x : S167 => (x.f0, x.f1, x.f2, x.f3, x.f4, x.f5, x.f6, x.f7, x.f8, x.f9, x.f10))
theorem k167_open {w : World} {x : S167} {cs : List Value} (h : k167.K w x cs) : ∃ A2 c2 A7 c7, cs = [.int .i64 x.f0, .int .i64 x.f1, .slice A2 x.f2.length c2, .string x.f3, .bool x.f4, .bool x.f5, .int .i64 x.f6, .slice A7 x.f7.length c7, .string x.f8, .bool x.f9, .int .i64 x.f10.f0, .int .i64 x.f10.f1] ∧ x.f2.length ≤ c2 ∧ k192.C w A2 x.f2.length x.f2 ∧ x.f7.length ≤ c7 ∧ k192.C w A7 x.f7.length x.f7 := by
  obtain ⟨_, _, rfl, rfl, ⟨_, _, rfl, rfl, ⟨_, _, rfl, ⟨A2, c2, rfl, l2, g2⟩, ⟨_, _, rfl, rfl, ⟨_, _, rfl, rfl, ⟨_, _, rfl, rfl, ⟨_, _, rfl, rfl, ⟨_, _, rfl, ⟨A7, c7, rfl, l7, g7⟩, ⟨_, _, rfl, rfl, ⟨_, _, rfl, rfl, s10⟩⟩⟩⟩⟩⟩⟩⟩⟩⟩ := h
  obtain rfl := k61_open s10
  exact ⟨A2, c2, A7, c7, rfl, l2, g2, l7, g7⟩
theorem k167_openM {w : World} {base : Nat} {ok : Nat → Prop} {x : S167} {cs : List Value} (h : k167.M w base ok x cs) : ∃ v2 v7, cs = [.int .i64 x.f0, .int .i64 x.f1, v2, .string x.f3, .bool x.f4, .bool x.f5, .int .i64 x.f6, v7, .string x.f8, .bool x.f9, .int .i64 x.f10.f0, .int .i64 x.f10.f1] ∧ k192.R 192 w base ok v2 x.f2 ∧ k192.R 192 w base ok v7 x.f7 := by
  obtain ⟨_, _, rfl, rfl, ⟨_, _, rfl, rfl, ⟨_, _, rfl, ⟨v2, rfl, g2⟩, ⟨_, _, rfl, rfl, ⟨_, _, rfl, rfl, ⟨_, _, rfl, rfl, ⟨_, _, rfl, rfl, ⟨_, _, rfl, ⟨v7, rfl, g7⟩, ⟨_, _, rfl, rfl, ⟨_, _, rfl, rfl, s10⟩⟩⟩⟩⟩⟩⟩⟩⟩⟩ := h
  obtain rfl := k61_openM s10
  exact ⟨v2, v7, rfl, g2, g7⟩
theorem k167_mk (w : World) (x : S167) {A2 : Option Addr} {c2 : Nat} (l2 : x.f2.length ≤ c2) (g2 : k192.C w A2 x.f2.length x.f2) {A7 : Option Addr} {c7 : Nat} (l7 : x.f7.length ≤ c7) (g7 : k192.C w A7 x.f7.length x.f7) : k167.K w x [.int .i64 x.f0, .int .i64 x.f1, .slice A2 x.f2.length c2, .string x.f3, .bool x.f4, .bool x.f5, .int .i64 x.f6, .slice A7 x.f7.length c7, .string x.f8, .bool x.f9, .int .i64 x.f10.f0, .int .i64 x.f10.f1] := ⟨[.int .i64 x.f0], [.int .i64 x.f1, .slice A2 x.f2.length c2, .string x.f3, .bool x.f4, .bool x.f5, .int .i64 x.f6, .slice A7 x.f7.length c7, .string x.f8, .bool x.f9, .int .i64 x.f10.f0, .int .i64 x.f10.f1], rfl, rfl, ⟨[.int .i64 x.f1], [.slice A2 x.f2.length c2, .string x.f3, .bool x.f4, .bool x.f5, .int .i64 x.f6, .slice A7 x.f7.length c7, .string x.f8, .bool x.f9, .int .i64 x.f10.f0, .int .i64 x.f10.f1], rfl, rfl, ⟨[.slice A2 x.f2.length c2], [.string x.f3, .bool x.f4, .bool x.f5, .int .i64 x.f6, .slice A7 x.f7.length c7, .string x.f8, .bool x.f9, .int .i64 x.f10.f0, .int .i64 x.f10.f1], rfl, ⟨A2, c2, rfl, l2, g2⟩, ⟨[.string x.f3], [.bool x.f4, .bool x.f5, .int .i64 x.f6, .slice A7 x.f7.length c7, .string x.f8, .bool x.f9, .int .i64 x.f10.f0, .int .i64 x.f10.f1], rfl, rfl, ⟨[.bool x.f4], [.bool x.f5, .int .i64 x.f6, .slice A7 x.f7.length c7, .string x.f8, .bool x.f9, .int .i64 x.f10.f0, .int .i64 x.f10.f1], rfl, rfl, ⟨[.bool x.f5], [.int .i64 x.f6, .slice A7 x.f7.length c7, .string x.f8, .bool x.f9, .int .i64 x.f10.f0, .int .i64 x.f10.f1], rfl, rfl, ⟨[.int .i64 x.f6], [.slice A7 x.f7.length c7, .string x.f8, .bool x.f9, .int .i64 x.f10.f0, .int .i64 x.f10.f1], rfl, rfl, ⟨[.slice A7 x.f7.length c7], [.string x.f8, .bool x.f9, .int .i64 x.f10.f0, .int .i64 x.f10.f1], rfl, ⟨A7, c7, rfl, l7, g7⟩, ⟨[.string x.f8], [.bool x.f9, .int .i64 x.f10.f0, .int .i64 x.f10.f1], rfl, rfl, ⟨[.bool x.f9], [.int .i64 x.f10.f0, .int .i64 x.f10.f1], rfl, rfl, (k61_mk w x.f10 )⟩⟩⟩⟩⟩⟩⟩⟩⟩⟩
theorem k167_mkM (w : World) (base : Nat) (ok : Nat → Prop) (x : S167) {v2 : Value} (g2 : k192.R 192 w base ok v2 x.f2) {v7 : Value} (g7 : k192.R 192 w base ok v7 x.f7) : k167.M w base ok x [.int .i64 x.f0, .int .i64 x.f1, v2, .string x.f3, .bool x.f4, .bool x.f5, .int .i64 x.f6, v7, .string x.f8, .bool x.f9, .int .i64 x.f10.f0, .int .i64 x.f10.f1] := ⟨[.int .i64 x.f0], [.int .i64 x.f1, v2, .string x.f3, .bool x.f4, .bool x.f5, .int .i64 x.f6, v7, .string x.f8, .bool x.f9, .int .i64 x.f10.f0, .int .i64 x.f10.f1], rfl, rfl, ⟨[.int .i64 x.f1], [v2, .string x.f3, .bool x.f4, .bool x.f5, .int .i64 x.f6, v7, .string x.f8, .bool x.f9, .int .i64 x.f10.f0, .int .i64 x.f10.f1], rfl, rfl, ⟨[v2], [.string x.f3, .bool x.f4, .bool x.f5, .int .i64 x.f6, v7, .string x.f8, .bool x.f9, .int .i64 x.f10.f0, .int .i64 x.f10.f1], rfl, ⟨v2, rfl, g2⟩, ⟨[.string x.f3], [.bool x.f4, .bool x.f5, .int .i64 x.f6, v7, .string x.f8, .bool x.f9, .int .i64 x.f10.f0, .int .i64 x.f10.f1], rfl, rfl, ⟨[.bool x.f4], [.bool x.f5, .int .i64 x.f6, v7, .string x.f8, .bool x.f9, .int .i64 x.f10.f0, .int .i64 x.f10.f1], rfl, rfl, ⟨[.bool x.f5], [.int .i64 x.f6, v7, .string x.f8, .bool x.f9, .int .i64 x.f10.f0, .int .i64 x.f10.f1], rfl, rfl, ⟨[.int .i64 x.f6], [v7, .string x.f8, .bool x.f9, .int .i64 x.f10.f0, .int .i64 x.f10.f1], rfl, rfl, ⟨[v7], [.string x.f8, .bool x.f9, .int .i64 x.f10.f0, .int .i64 x.f10.f1], rfl, ⟨v7, rfl, g7⟩, ⟨[.string x.f8], [.bool x.f9, .int .i64 x.f10.f0, .int .i64 x.f10.f1], rfl, rfl, ⟨[.bool x.f9], [.int .i64 x.f10.f0, .int .i64 x.f10.f1], rfl, rfl, (k61_mkM w base ok x.f10 )⟩⟩⟩⟩⟩⟩⟩⟩⟩⟩
def rd_T167 (xs : List S167) (i : Int) : S167 := xs.getD i.toNat z167
theorem at_T167 {w : World} {A : Option Addr} {n : Nat} {xs : List S167} (h : Kd.C k167 w A n xs) (i : Int) (h0 : 0 ≤ i) (h1 : i < n) : ∃ ad A2 c2 A7 c7, A = some ad ∧ w.cell? (ad.add (i.toNat * 12)) = some (.int .i64 (rd_T167 xs i).f0) ∧ w.cell? ⟨(ad.add (i.toNat * 12)).block, (ad.add (i.toNat * 12)).off + 1, none⟩ = some (.int .i64 (rd_T167 xs i).f1) ∧ w.cell? ⟨(ad.add (i.toNat * 12)).block, (ad.add (i.toNat * 12)).off + 2, none⟩ = some (.slice A2 (rd_T167 xs i).f2.length c2) ∧ w.cell? ⟨(ad.add (i.toNat * 12)).block, (ad.add (i.toNat * 12)).off + 3, none⟩ = some (.string (rd_T167 xs i).f3) ∧ w.cell? ⟨(ad.add (i.toNat * 12)).block, (ad.add (i.toNat * 12)).off + 4, none⟩ = some (.bool (rd_T167 xs i).f4) ∧ w.cell? ⟨(ad.add (i.toNat * 12)).block, (ad.add (i.toNat * 12)).off + 5, none⟩ = some (.bool (rd_T167 xs i).f5) ∧ w.cell? ⟨(ad.add (i.toNat * 12)).block, (ad.add (i.toNat * 12)).off + 6, none⟩ = some (.int .i64 (rd_T167 xs i).f6) ∧ w.cell? ⟨(ad.add (i.toNat * 12)).block, (ad.add (i.toNat * 12)).off + 7, none⟩ = some (.slice A7 (rd_T167 xs i).f7.length c7) ∧ w.cell? ⟨(ad.add (i.toNat * 12)).block, (ad.add (i.toNat * 12)).off + 8, none⟩ = some (.string (rd_T167 xs i).f8) ∧ w.cell? ⟨(ad.add (i.toNat * 12)).block, (ad.add (i.toNat * 12)).off + 9, none⟩ = some (.bool (rd_T167 xs i).f9) ∧ w.cell? ⟨(ad.add (i.toNat * 12)).block, (ad.add (i.toNat * 12)).off + 10, none⟩ = some (.int .i64 (rd_T167 xs i).f10.f0) ∧ w.cell? ⟨(ad.add (i.toNat * 12)).block, (ad.add (i.toNat * 12)).off + 11, none⟩ = some (.int .i64 (rd_T167 xs i).f10.f1) ∧ (rd_T167 xs i).f2.length ≤ c2 ∧ k192.C w A2 (rd_T167 xs i).f2.length (rd_T167 xs i).f2 ∧ (rd_T167 xs i).f7.length ≤ c7 ∧ k192.C w A7 (rd_T167 xs i).f7.length (rd_T167 xs i).f7 := by
  obtain ⟨ad, c, e, _, hK, hc0⟩ := Kd.C_get h z167 i h0 h1
  have hc : ∀ j u, c[j]? = some u → w.cell? (ad.add (i.toNat * 12 + j)) = some u := hc0
  obtain ⟨A2, c2, A7, c7, rfl, l2, g2, l7, g7⟩ := k167_open hK
  exact ⟨ad, A2, c2, A7, c7, e, hc 0 _ rfl, by rw [← add_field _ _ 1 (by omega)]; exact hc 1 _ rfl, by rw [← add_field _ _ 2 (by omega)]; exact hc 2 _ rfl, by rw [← add_field _ _ 3 (by omega)]; exact hc 3 _ rfl, by rw [← add_field _ _ 4 (by omega)]; exact hc 4 _ rfl, by rw [← add_field _ _ 5 (by omega)]; exact hc 5 _ rfl, by rw [← add_field _ _ 6 (by omega)]; exact hc 6 _ rfl, by rw [← add_field _ _ 7 (by omega)]; exact hc 7 _ rfl, by rw [← add_field _ _ 8 (by omega)]; exact hc 8 _ rfl, by rw [← add_field _ _ 9 (by omega)]; exact hc 9 _ rfl, by rw [← add_field _ _ 10 (by omega)]; exact hc 10 _ rfl, by rw [← add_field _ _ 11 (by omega)]; exact hc 11 _ rfl, l2, g2, l7, g7⟩

/-! #### struct type 169 -/
structure S169 where
  f0 : Int
  f1 : Bool
  f2 : Int
  f3 : ByteArray
def z169 : S169 := ⟨(0 : Int), false, (0 : Int), (⟨#[]⟩ : ByteArray)⟩
def k169 : Kd S169 := Kd.iso (Kd.pair (Kd.int .i64) (Kd.pair Kd.bool (Kd.pair (Kd.int .i64) Kd.string))) (fun x : S169 => (x.f0, x.f1, x.f2, x.f3))
theorem k169_open {w : World} {x : S169} {cs : List Value} (h : k169.K w x cs) : cs = [.int .i64 x.f0, .bool x.f1, .int .i64 x.f2, .string x.f3] := by
  obtain ⟨_, _, rfl, rfl, ⟨_, _, rfl, rfl, ⟨_, _, rfl, rfl, rfl⟩⟩⟩ := h
  exact rfl
theorem k169_openM {w : World} {base : Nat} {ok : Nat → Prop} {x : S169} {cs : List Value} (h : k169.M w base ok x cs) : cs = [.int .i64 x.f0, .bool x.f1, .int .i64 x.f2, .string x.f3] := by
  obtain ⟨_, _, rfl, rfl, ⟨_, _, rfl, rfl, ⟨_, _, rfl, rfl, rfl⟩⟩⟩ := h
  exact rfl
theorem k169_mk (w : World) (x : S169)  : k169.K w x [.int .i64 x.f0, .bool x.f1, .int .i64 x.f2, .string x.f3] := ⟨[.int .i64 x.f0], [.bool x.f1, .int .i64 x.f2, .string x.f3], rfl, rfl, ⟨[.bool x.f1], [.int .i64 x.f2, .string x.f3], rfl, rfl, ⟨[.int .i64 x.f2], [.string x.f3], rfl, rfl, rfl⟩⟩⟩
theorem k169_mkM (w : World) (base : Nat) (ok : Nat → Prop) (x : S169)  : k169.M w base ok x [.int .i64 x.f0, .bool x.f1, .int .i64 x.f2, .string x.f3] := ⟨[.int .i64 x.f0], [.bool x.f1, .int .i64 x.f2, .string x.f3], rfl, rfl, ⟨[.bool x.f1], [.int .i64 x.f2, .string x.f3], rfl, rfl, ⟨[.int .i64 x.f2], [.string x.f3], rfl, rfl, rfl⟩⟩⟩
def rd_T169 (xs : List S169) (i : Int) : S169 := xs.getD i.toNat z169
theorem at_T169 {w : World} {A : Option Addr} {n : Nat} {xs : List S169} (h : Kd.C k169 w A n xs) (i : Int) (h0 : 0 ≤ i) (h1 : i < n) : ∃ ad , A = some ad ∧ w.cell? (ad.add (i.toNat * 4)) = some (.int .i64 (rd_T169 xs i).f0) ∧ w.cell? ⟨(ad.add (i.toNat * 4)).block, (ad.add (i.toNat * 4)).off + 1, none⟩ = some (.bool (rd_T169 xs i).f1) ∧ w.cell? ⟨(ad.add (i.toNat * 4)).block, (ad.add (i.toNat * 4)).off + 2, none⟩ = some (.int .i64 (rd_T169 xs i).f2) ∧ w.cell? ⟨(ad.add (i.toNat * 4)).block, (ad.add (i.toNat * 4)).off + 3, none⟩ = some (.string (rd_T169 xs i).f3) := by
  obtain ⟨ad, c, e, _, hK, hc0⟩ := Kd.C_get h z169 i h0 h1
  have hc : ∀ j u, c[j]? = some u → w.cell? (ad.add (i.toNat * 4 + j)) = some u := hc0
  obtain rfl := k169_open hK
  exact ⟨ad, e, hc 0 _ rfl, by rw [← add_field _ _ 1 (by omega)]; exact hc 1 _ rfl, by rw [← add_field _ _ 2 (by omega)]; exact hc 2 _ rfl, by rw [← add_field _ _ 3 (by omega)]; exact hc 3 _ rfl⟩

end Go.Proofs.Ytlpibelofcabhaa.PFnExactEndLeave
