-- WRITTEN BY a turned print (wip/tools of the prover's repo)
import Derived.Test.YtlpibelofcabhaaDoorProg
import Derived.Test.YtlpibelofcabhaaDoorLm3
import Derived.Test.YtlpibelofcabhaaDoorLz
import Derived.Below
import Derived.Deep.Draws
import Derived.Deep.AppendLies
import Derived.Maps.AppendAt
import Derived.OwnWalk
import Derived.Laws.BytesArg
import Derived.Laws.MakeOwn
import Derived.Laws.OwnMore
import Derived.Deep.OwnRows
import Derived.Tactics
import Derived.Lib.ConvBytes
import Derived.Laws.Slices
import Derived.WalkKit
import Derived.KernelRfl
import Derived.RowKit3
import Derived.Deep.LoopGhost
import Derived.Deep.QuietTactic
import Derived.BigQuiet
import Derived.WideLaws
import Derived.Deep.DeepCutAuto
import Derived.Deep.CutBlock
import Derived.Deep.RegionHeld3
import Derived.Laws.Rows
import Derived.Lib.AppendStr
import Derived.ArgAppend
import Derived.Laws.IdiomCopy
import Derived.OrdersHeld
import Derived.Laws.BitsLemmas
import Derived.RowKit
import Derived.Deep.RegionLaw
import Derived.Shelf.Small.Strs
import Derived.Shelf.Strings.Search1
import Derived.Deep.MidRow
import Derived.Shelf.Lay
import Derived.Shelf.Strconv.Itoa3
import Derived.Laws.IdiomStrings
import Derived.Test.YtlpibelofcabhaaDoorWWords
import Derived.Test.YtlpibelofcabhaaDoorWLast
import Derived.Test.YtlpibelofcabhaaDoorWTab
import Derived.Test.YtlpibelofcabhaaDoorWFour
import Derived.Test.YtlpibelofcabhaaDoorWQPut
import Derived.Test.YtlpibelofcabhaaDoorWApart
import Derived.Test.YtlpibelofcabhaaDoorWArr
import Derived.Test.YtlpibelofcabhaaDoorWZeros
import Derived.Test.YtlpibelofcabhaaDoorWFoot
import Derived.Test.YtlpibelofcabhaaDoorWKept
import Derived.Test.YtlpibelofcabhaaDoorWShare
import Derived.Test.YtlpibelofcabhaaDoorWN
import Derived.Test.YtlpibelofcabhaaDoorWFootNe
import Derived.Test.YtlpibelofcabhaaDoorWAt
import Derived.Test.YtlpibelofcabhaaDoorWEqStruct
import Derived.Test.YtlpibelofcabhaaDoorWRepsOne
import Derived.Test.YtlpibelofcabhaaDoorWInv
import Derived.Test.YtlpibelofcabhaaDoorWInvWords
import Derived.Test.YtlpibelofcabhaaDoorWGuard
import Derived.Test.YtlpibelofcabhaaDoorWNEv
import Derived.Test.YtlpibelofcabhaaDoorWMore
namespace Go.Proofs.YtlpibelofcabhaaDoor.PFnExactEndCall
open Go.RowKit Go.Proofs.YtlpibelofcabhaaDoorW.PrintWords Go.Proofs.YtlpibelofcabhaaDoorW.PrintLast Go.Proofs.YtlpibelofcabhaaDoorW.PrintMore Go.Proofs.YtlpibelofcabhaaDoor.Lm
attribute [local go_sem] max2_int min2_int max_two min_two max_three min_three max_four min_four   -- for this text's walks alone
set_option linter.unusedVariables false
set_option linter.unusedSimpArgs false



def errW : Option Int → Value
  | none => .nilIface
  | some c => .iface 0 (.int .i64 c)
theorem errW_none : errW none = .nilIface := rfl
theorem errW_some (c : Int) : errW (some c) = .iface 0 (.int .i64 c) := rfl

theorem ze {p : Prop} (h : p := by first | rfl | (simp [errW_none, errW_some] <;> rfl) | (simp [*, errW_none, errW_some] <;> rfl) | (simp [errW_none, errW_some]; exact (by intro l_; cases l_ <;> rfl : ∀ l_ : List UInt8, l_.isEmpty = !(l_ != [])) _)) : p := h

theorem info5 : (Tryd.prog.info? 5).map (fun i => (i.zero, i.size, i.bytes)) = some (some (.int .u8 0), 1, 1) := by kernel_rfl
theorem info39 : (Tryd.prog.info? 39).map (fun i => (i.zero, i.size, i.bytes)) = some (some (.agg #[(.bool false), (.slice none 0 0), (.int .i64 0), (.slice none 0 0), (.int .i64 0), (.string ⟨#[]⟩), (.slice none 0 0), (.int .i64 0), (.int .i64 0), (.slice none 0 0), (.bool false)]), 11, 160) := by kernel_rfl
theorem info58 : (Tryd.prog.info? 58).map (fun i => (i.zero, i.size, i.bytes)) = some (some (.agg #[(.int .i64 0), (.int .i64 0), (.slice none 0 0), (.string ⟨#[]⟩), (.bool false), (.bool false), (.int .i64 0), (.slice none 0 0), (.string ⟨#[]⟩), (.bool false), (.int .i64 0), (.int .i64 0)]), 12, 136) := by kernel_rfl
theorem info61 : (Tryd.prog.info? 61).map (fun i => (i.zero, i.size, i.bytes)) = some (some (.agg #[(.string ⟨#[]⟩), (.string ⟨#[]⟩), (.bool false)]), 3, 40) := by kernel_rfl
theorem info79 : (Tryd.prog.info? 79).map (fun i => (i.zero, i.size, i.bytes)) = some (some (.agg #[(.int .i64 0), (.bool false), (.int .i64 0), (.string ⟨#[]⟩)]), 4, 40) := by kernel_rfl
-- the values' own types
/-! #### struct type 96 -/
structure S96 where
  f0 : ByteArray
  f1 : ByteArray
  f2 : Bool
def z96 : S96 := ⟨(⟨#[]⟩ : ByteArray), (⟨#[]⟩ : ByteArray), false⟩
def k96 : Kd S96 := Kd.iso (Kd.pair Kd.string (Kd.pair Kd.string Kd.bool)) (fun x : S96 => (x.f0, x.f1, x.f2))
theorem k96_open {w : World} {x : S96} {cs : List Value} (h : k96.K w x cs) : cs = [.string x.f0, .string x.f1, .bool x.f2] := by
  obtain ⟨_, _, rfl, rfl, ⟨_, _, rfl, rfl, rfl⟩⟩ := h
  exact rfl
theorem k96_openM {w : World} {base : Nat} {ok : Nat → Prop} {x : S96} {cs : List Value} (h : k96.M w base ok x cs) : cs = [.string x.f0, .string x.f1, .bool x.f2] := by
  obtain ⟨_, _, rfl, rfl, ⟨_, _, rfl, rfl, rfl⟩⟩ := h
  exact rfl
theorem k96_mk (w : World) (x : S96)  : k96.K w x [.string x.f0, .string x.f1, .bool x.f2] := ⟨[.string x.f0], [.string x.f1, .bool x.f2], rfl, rfl, ⟨[.string x.f1], [.bool x.f2], rfl, rfl, rfl⟩⟩
theorem k96_mkM (w : World) (base : Nat) (ok : Nat → Prop) (x : S96)  : k96.M w base ok x [.string x.f0, .string x.f1, .bool x.f2] := ⟨[.string x.f0], [.string x.f1, .bool x.f2], rfl, rfl, ⟨[.string x.f1], [.bool x.f2], rfl, rfl, rfl⟩⟩
def rd_T96 (xs : List S96) (i : Int) : S96 := xs.getD i.toNat z96
theorem at_T96 {w : World} {A : Option Addr} {n : Nat} {xs : List S96} (h : Kd.C k96 w A n xs) (i : Int) (h0 : 0 ≤ i) (h1 : i < n) : ∃ ad , A = some ad ∧ w.cell? (ad.add (i.toNat * 3)) = some (.string (rd_T96 xs i).f0) ∧ w.cell? ⟨(ad.add (i.toNat * 3)).block, (ad.add (i.toNat * 3)).off + 1, none⟩ = some (.string (rd_T96 xs i).f1) ∧ w.cell? ⟨(ad.add (i.toNat * 3)).block, (ad.add (i.toNat * 3)).off + 2, none⟩ = some (.bool (rd_T96 xs i).f2) := by
  obtain ⟨ad, c, e, _, hK, hc0⟩ := Kd.C_get h z96 i h0 h1
  have hc : ∀ j u, c[j]? = some u → w.cell? (ad.add (i.toNat * 3 + j)) = some u := hc0
  obtain rfl := k96_open hK
  exact ⟨ad, e, hc 0 _ rfl, by rw [← add_field _ _ 1 (by omega)]; exact hc 1 _ rfl, by rw [← add_field _ _ 2 (by omega)]; exact hc 2 _ rfl⟩

def rd_L4 (xs : List (List S96)) (i : Int) : (List S96) := xs.getD i.toNat ([] : List S96)
theorem at_L4 {w : World} {A : Option Addr} {n : Nat} {xs : List (List S96)} (h : Kd.C (Kd.slice 96 k96) w A n xs) (i : Int) (h0 : 0 ≤ i) (h1 : i < n) : ∃ ad A0 c0, A = some ad ∧ w.cell? (ad.add i.toNat) = some (.slice A0 (rd_L4 xs i).length c0) ∧ (rd_L4 xs i).length ≤ c0 ∧ k96.C w A0 (rd_L4 xs i).length (rd_L4 xs i) := by
  obtain ⟨ad, c, e, _, hK, hc0⟩ := Kd.C_get h ([] : List S96) i h0 h1
  have hc : ∀ j u, c[j]? = some u → w.cell? (ad.add (i.toNat * 1 + j)) = some u := hc0
  obtain ⟨A0, c0, rfl, l0, g0⟩ := hK
  exact ⟨ad, A0, c0, e, by have hq := hc 0 _ rfl; rwa [Nat.mul_one, Nat.add_zero] at hq, l0, g0⟩

/-! #### struct type 27 -/
structure S27 where
  f0 : Int
  f1 : Int
def z27 : S27 := ⟨(0 : Int), (0 : Int)⟩
def k27 : Kd S27 := Kd.iso (Kd.pair (Kd.int .i64) (Kd.int .i64)) (fun x : S27 => (x.f0, x.f1))
theorem k27_open {w : World} {x : S27} {cs : List Value} (h : k27.K w x cs) : cs = [.int .i64 x.f0, .int .i64 x.f1] := by
  obtain ⟨_, _, rfl, rfl, rfl⟩ := h
  exact rfl
theorem k27_openM {w : World} {base : Nat} {ok : Nat → Prop} {x : S27} {cs : List Value} (h : k27.M w base ok x cs) : cs = [.int .i64 x.f0, .int .i64 x.f1] := by
  obtain ⟨_, _, rfl, rfl, rfl⟩ := h
  exact rfl
theorem k27_mk (w : World) (x : S27)  : k27.K w x [.int .i64 x.f0, .int .i64 x.f1] := ⟨[.int .i64 x.f0], [.int .i64 x.f1], rfl, rfl, rfl⟩
theorem k27_mkM (w : World) (base : Nat) (ok : Nat → Prop) (x : S27)  : k27.M w base ok x [.int .i64 x.f0, .int .i64 x.f1] := ⟨[.int .i64 x.f0], [.int .i64 x.f1], rfl, rfl, rfl⟩
def rd_T27 (xs : List S27) (i : Int) : S27 := xs.getD i.toNat z27
theorem at_T27 {w : World} {A : Option Addr} {n : Nat} {xs : List S27} (h : Kd.C k27 w A n xs) (i : Int) (h0 : 0 ≤ i) (h1 : i < n) : ∃ ad , A = some ad ∧ w.cell? (ad.add (i.toNat * 2)) = some (.int .i64 (rd_T27 xs i).f0) ∧ w.cell? ⟨(ad.add (i.toNat * 2)).block, (ad.add (i.toNat * 2)).off + 1, none⟩ = some (.int .i64 (rd_T27 xs i).f1) := by
  obtain ⟨ad, c, e, _, hK, hc0⟩ := Kd.C_get h z27 i h0 h1
  have hc : ∀ j u, c[j]? = some u → w.cell? (ad.add (i.toNat * 2 + j)) = some u := hc0
  obtain rfl := k27_open hK
  exact ⟨ad, e, hc 0 _ rfl, by rw [← add_field _ _ 1 (by omega)]; exact hc 1 _ rfl⟩

/-! #### struct type 73 -/
structure S73 where
  f0 : Int
  f1 : Int
  f2 : (List S96)
  f3 : ByteArray
  f4 : Bool
  f5 : Bool
  f6 : Int
  f7 : (List S96)
  f8 : ByteArray
  f9 : Bool
  f10 : S27
def z73 : S73 := ⟨(0 : Int), (0 : Int), ([] : List S96), (⟨#[]⟩ : ByteArray), false, false, (0 : Int), ([] : List S96), (⟨#[]⟩ : ByteArray), false, z27⟩
def k73 : Kd S73 := Kd.iso (Kd.pair (Kd.int .i64) (Kd.pair (Kd.int .i64) (Kd.pair (Kd.slice 96 k96) (Kd.pair Kd.string (Kd.pair Kd.bool (Kd.pair Kd.bool (Kd.pair (Kd.int .i64) (Kd.pair (Kd.slice 96 k96) (Kd.pair Kd.string (Kd.pair Kd.bool k27)))))))))) (fun x : S73 => (x.f0, x.f1, x.f2, x.f3, x.f4, x.f5, x.f6, x.f7, x.f8, x.f9, x.f10))
theorem k73_open {w : World} {x : S73} {cs : List Value} (h : k73.K w x cs) : ∃ A2 c2 A7 c7, cs = [.int .i64 x.f0, .int .i64 x.f1, .slice A2 x.f2.length c2, .string x.f3, .bool x.f4, .bool x.f5, .int .i64 x.f6, .slice A7 x.f7.length c7, .string x.f8, .bool x.f9, .int .i64 x.f10.f0, .int .i64 x.f10.f1] ∧ x.f2.length ≤ c2 ∧ k96.C w A2 x.f2.length x.f2 ∧ x.f7.length ≤ c7 ∧ k96.C w A7 x.f7.length x.f7 := by
  obtain ⟨_, _, rfl, rfl, ⟨_, _, rfl, rfl, ⟨_, _, rfl, ⟨A2, c2, rfl, l2, g2⟩, ⟨_, _, rfl, rfl, ⟨_, _, rfl, rfl, ⟨_, _, rfl, rfl, ⟨_, _, rfl, rfl, ⟨_, _, rfl, ⟨A7, c7, rfl, l7, g7⟩, ⟨_, _, rfl, rfl, ⟨_, _, rfl, rfl, s10⟩⟩⟩⟩⟩⟩⟩⟩⟩⟩ := h
  obtain rfl := k27_open s10
  exact ⟨A2, c2, A7, c7, rfl, l2, g2, l7, g7⟩
theorem k73_openM {w : World} {base : Nat} {ok : Nat → Prop} {x : S73} {cs : List Value} (h : k73.M w base ok x cs) : ∃ v2 v7, cs = [.int .i64 x.f0, .int .i64 x.f1, v2, .string x.f3, .bool x.f4, .bool x.f5, .int .i64 x.f6, v7, .string x.f8, .bool x.f9, .int .i64 x.f10.f0, .int .i64 x.f10.f1] ∧ k96.R 96 w base ok v2 x.f2 ∧ k96.R 96 w base ok v7 x.f7 := by
  obtain ⟨_, _, rfl, rfl, ⟨_, _, rfl, rfl, ⟨_, _, rfl, ⟨v2, rfl, g2⟩, ⟨_, _, rfl, rfl, ⟨_, _, rfl, rfl, ⟨_, _, rfl, rfl, ⟨_, _, rfl, rfl, ⟨_, _, rfl, ⟨v7, rfl, g7⟩, ⟨_, _, rfl, rfl, ⟨_, _, rfl, rfl, s10⟩⟩⟩⟩⟩⟩⟩⟩⟩⟩ := h
  obtain rfl := k27_openM s10
  exact ⟨v2, v7, rfl, g2, g7⟩
theorem k73_mk (w : World) (x : S73) {A2 : Option Addr} {c2 : Nat} (l2 : x.f2.length ≤ c2) (g2 : k96.C w A2 x.f2.length x.f2) {A7 : Option Addr} {c7 : Nat} (l7 : x.f7.length ≤ c7) (g7 : k96.C w A7 x.f7.length x.f7) : k73.K w x [.int .i64 x.f0, .int .i64 x.f1, .slice A2 x.f2.length c2, .string x.f3, .bool x.f4, .bool x.f5, .int .i64 x.f6, .slice A7 x.f7.length c7, .string x.f8, .bool x.f9, .int .i64 x.f10.f0, .int .i64 x.f10.f1] := ⟨[.int .i64 x.f0], [.int .i64 x.f1, .slice A2 x.f2.length c2, .string x.f3, .bool x.f4, .bool x.f5, .int .i64 x.f6, .slice A7 x.f7.length c7, .string x.f8, .bool x.f9, .int .i64 x.f10.f0, .int .i64 x.f10.f1], rfl, rfl, ⟨[.int .i64 x.f1], [.slice A2 x.f2.length c2, .string x.f3, .bool x.f4, .bool x.f5, .int .i64 x.f6, .slice A7 x.f7.length c7, .string x.f8, .bool x.f9, .int .i64 x.f10.f0, .int .i64 x.f10.f1], rfl, rfl, ⟨[.slice A2 x.f2.length c2], [.string x.f3, .bool x.f4, .bool x.f5, .int .i64 x.f6, .slice A7 x.f7.length c7, .string x.f8, .bool x.f9, .int .i64 x.f10.f0, .int .i64 x.f10.f1], rfl, ⟨A2, c2, rfl, l2, g2⟩, ⟨[.string x.f3], [.bool x.f4, .bool x.f5, .int .i64 x.f6, .slice A7 x.f7.length c7, .string x.f8, .bool x.f9, .int .i64 x.f10.f0, .int .i64 x.f10.f1], rfl, rfl, ⟨[.bool x.f4], [.bool x.f5, .int .i64 x.f6, .slice A7 x.f7.length c7, .string x.f8, .bool x.f9, .int .i64 x.f10.f0, .int .i64 x.f10.f1], rfl, rfl, ⟨[.bool x.f5], [.int .i64 x.f6, .slice A7 x.f7.length c7, .string x.f8, .bool x.f9, .int .i64 x.f10.f0, .int .i64 x.f10.f1], rfl, rfl, ⟨[.int .i64 x.f6], [.slice A7 x.f7.length c7, .string x.f8, .bool x.f9, .int .i64 x.f10.f0, .int .i64 x.f10.f1], rfl, rfl, ⟨[.slice A7 x.f7.length c7], [.string x.f8, .bool x.f9, .int .i64 x.f10.f0, .int .i64 x.f10.f1], rfl, ⟨A7, c7, rfl, l7, g7⟩, ⟨[.string x.f8], [.bool x.f9, .int .i64 x.f10.f0, .int .i64 x.f10.f1], rfl, rfl, ⟨[.bool x.f9], [.int .i64 x.f10.f0, .int .i64 x.f10.f1], rfl, rfl, (k27_mk w x.f10 )⟩⟩⟩⟩⟩⟩⟩⟩⟩⟩
theorem k73_mkM (w : World) (base : Nat) (ok : Nat → Prop) (x : S73) {v2 : Value} (g2 : k96.R 96 w base ok v2 x.f2) {v7 : Value} (g7 : k96.R 96 w base ok v7 x.f7) : k73.M w base ok x [.int .i64 x.f0, .int .i64 x.f1, v2, .string x.f3, .bool x.f4, .bool x.f5, .int .i64 x.f6, v7, .string x.f8, .bool x.f9, .int .i64 x.f10.f0, .int .i64 x.f10.f1] := ⟨[.int .i64 x.f0], [.int .i64 x.f1, v2, .string x.f3, .bool x.f4, .bool x.f5, .int .i64 x.f6, v7, .string x.f8, .bool x.f9, .int .i64 x.f10.f0, .int .i64 x.f10.f1], rfl, rfl, ⟨[.int .i64 x.f1], [v2, .string x.f3, .bool x.f4, .bool x.f5, .int .i64 x.f6, v7, .string x.f8, .bool x.f9, .int .i64 x.f10.f0, .int .i64 x.f10.f1], rfl, rfl, ⟨[v2], [.string x.f3, .bool x.f4, .bool x.f5, .int .i64 x.f6, v7, .string x.f8, .bool x.f9, .int .i64 x.f10.f0, .int .i64 x.f10.f1], rfl, ⟨v2, rfl, g2⟩, ⟨[.string x.f3], [.bool x.f4, .bool x.f5, .int .i64 x.f6, v7, .string x.f8, .bool x.f9, .int .i64 x.f10.f0, .int .i64 x.f10.f1], rfl, rfl, ⟨[.bool x.f4], [.bool x.f5, .int .i64 x.f6, v7, .string x.f8, .bool x.f9, .int .i64 x.f10.f0, .int .i64 x.f10.f1], rfl, rfl, ⟨[.bool x.f5], [.int .i64 x.f6, v7, .string x.f8, .bool x.f9, .int .i64 x.f10.f0, .int .i64 x.f10.f1], rfl, rfl, ⟨[.int .i64 x.f6], [v7, .string x.f8, .bool x.f9, .int .i64 x.f10.f0, .int .i64 x.f10.f1], rfl, rfl, ⟨[v7], [.string x.f8, .bool x.f9, .int .i64 x.f10.f0, .int .i64 x.f10.f1], rfl, ⟨v7, rfl, g7⟩, ⟨[.string x.f8], [.bool x.f9, .int .i64 x.f10.f0, .int .i64 x.f10.f1], rfl, rfl, ⟨[.bool x.f9], [.int .i64 x.f10.f0, .int .i64 x.f10.f1], rfl, rfl, (k27_mkM w base ok x.f10 )⟩⟩⟩⟩⟩⟩⟩⟩⟩⟩
def rd_T73 (xs : List S73) (i : Int) : S73 := xs.getD i.toNat z73
theorem at_T73 {w : World} {A : Option Addr} {n : Nat} {xs : List S73} (h : Kd.C k73 w A n xs) (i : Int) (h0 : 0 ≤ i) (h1 : i < n) : ∃ ad A2 c2 A7 c7, A = some ad ∧ w.cell? (ad.add (i.toNat * 12)) = some (.int .i64 (rd_T73 xs i).f0) ∧ w.cell? ⟨(ad.add (i.toNat * 12)).block, (ad.add (i.toNat * 12)).off + 1, none⟩ = some (.int .i64 (rd_T73 xs i).f1) ∧ w.cell? ⟨(ad.add (i.toNat * 12)).block, (ad.add (i.toNat * 12)).off + 2, none⟩ = some (.slice A2 (rd_T73 xs i).f2.length c2) ∧ w.cell? ⟨(ad.add (i.toNat * 12)).block, (ad.add (i.toNat * 12)).off + 3, none⟩ = some (.string (rd_T73 xs i).f3) ∧ w.cell? ⟨(ad.add (i.toNat * 12)).block, (ad.add (i.toNat * 12)).off + 4, none⟩ = some (.bool (rd_T73 xs i).f4) ∧ w.cell? ⟨(ad.add (i.toNat * 12)).block, (ad.add (i.toNat * 12)).off + 5, none⟩ = some (.bool (rd_T73 xs i).f5) ∧ w.cell? ⟨(ad.add (i.toNat * 12)).block, (ad.add (i.toNat * 12)).off + 6, none⟩ = some (.int .i64 (rd_T73 xs i).f6) ∧ w.cell? ⟨(ad.add (i.toNat * 12)).block, (ad.add (i.toNat * 12)).off + 7, none⟩ = some (.slice A7 (rd_T73 xs i).f7.length c7) ∧ w.cell? ⟨(ad.add (i.toNat * 12)).block, (ad.add (i.toNat * 12)).off + 8, none⟩ = some (.string (rd_T73 xs i).f8) ∧ w.cell? ⟨(ad.add (i.toNat * 12)).block, (ad.add (i.toNat * 12)).off + 9, none⟩ = some (.bool (rd_T73 xs i).f9) ∧ w.cell? ⟨(ad.add (i.toNat * 12)).block, (ad.add (i.toNat * 12)).off + 10, none⟩ = some (.int .i64 (rd_T73 xs i).f10.f0) ∧ w.cell? ⟨(ad.add (i.toNat * 12)).block, (ad.add (i.toNat * 12)).off + 11, none⟩ = some (.int .i64 (rd_T73 xs i).f10.f1) ∧ (rd_T73 xs i).f2.length ≤ c2 ∧ k96.C w A2 (rd_T73 xs i).f2.length (rd_T73 xs i).f2 ∧ (rd_T73 xs i).f7.length ≤ c7 ∧ k96.C w A7 (rd_T73 xs i).f7.length (rd_T73 xs i).f7 := by
  obtain ⟨ad, c, e, _, hK, hc0⟩ := Kd.C_get h z73 i h0 h1
  have hc : ∀ j u, c[j]? = some u → w.cell? (ad.add (i.toNat * 12 + j)) = some u := hc0
  obtain ⟨A2, c2, A7, c7, rfl, l2, g2, l7, g7⟩ := k73_open hK
  exact ⟨ad, A2, c2, A7, c7, e, hc 0 _ rfl, by rw [← add_field _ _ 1 (by omega)]; exact hc 1 _ rfl, by rw [← add_field _ _ 2 (by omega)]; exact hc 2 _ rfl, by rw [← add_field _ _ 3 (by omega)]; exact hc 3 _ rfl, by rw [← add_field _ _ 4 (by omega)]; exact hc 4 _ rfl, by rw [← add_field _ _ 5 (by omega)]; exact hc 5 _ rfl, by rw [← add_field _ _ 6 (by omega)]; exact hc 6 _ rfl, by rw [← add_field _ _ 7 (by omega)]; exact hc 7 _ rfl, by rw [← add_field _ _ 8 (by omega)]; exact hc 8 _ rfl, by rw [← add_field _ _ 9 (by omega)]; exact hc 9 _ rfl, by rw [← add_field _ _ 10 (by omega)]; exact hc 10 _ rfl, by rw [← add_field _ _ 11 (by omega)]; exact hc 11 _ rfl, l2, g2, l7, g7⟩

/-! #### struct type 76 -/
structure S76 where
  f0 : Int
  f1 : Bool
  f2 : Int
  f3 : ByteArray
def z76 : S76 := ⟨(0 : Int), false, (0 : Int), (⟨#[]⟩ : ByteArray)⟩
def k76 : Kd S76 := Kd.iso (Kd.pair (Kd.int .i64) (Kd.pair Kd.bool (Kd.pair (Kd.int .i64) Kd.string))) (fun x : S76 => (x.f0, x.f1, x.f2, x.f3))
theorem k76_open {w : World} {x : S76} {cs : List Value} (h : k76.K w x cs) : cs = [.int .i64 x.f0, .bool x.f1, .int .i64 x.f2, .string x.f3] := by
  obtain ⟨_, _, rfl, rfl, ⟨_, _, rfl, rfl, ⟨_, _, rfl, rfl, rfl⟩⟩⟩ := h
  exact rfl
theorem k76_openM {w : World} {base : Nat} {ok : Nat → Prop} {x : S76} {cs : List Value} (h : k76.M w base ok x cs) : cs = [.int .i64 x.f0, .bool x.f1, .int .i64 x.f2, .string x.f3] := by
  obtain ⟨_, _, rfl, rfl, ⟨_, _, rfl, rfl, ⟨_, _, rfl, rfl, rfl⟩⟩⟩ := h
  exact rfl
theorem k76_mk (w : World) (x : S76)  : k76.K w x [.int .i64 x.f0, .bool x.f1, .int .i64 x.f2, .string x.f3] := ⟨[.int .i64 x.f0], [.bool x.f1, .int .i64 x.f2, .string x.f3], rfl, rfl, ⟨[.bool x.f1], [.int .i64 x.f2, .string x.f3], rfl, rfl, ⟨[.int .i64 x.f2], [.string x.f3], rfl, rfl, rfl⟩⟩⟩
theorem k76_mkM (w : World) (base : Nat) (ok : Nat → Prop) (x : S76)  : k76.M w base ok x [.int .i64 x.f0, .bool x.f1, .int .i64 x.f2, .string x.f3] := ⟨[.int .i64 x.f0], [.bool x.f1, .int .i64 x.f2, .string x.f3], rfl, rfl, ⟨[.bool x.f1], [.int .i64 x.f2, .string x.f3], rfl, rfl, ⟨[.int .i64 x.f2], [.string x.f3], rfl, rfl, rfl⟩⟩⟩
def rd_T76 (xs : List S76) (i : Int) : S76 := xs.getD i.toNat z76
theorem at_T76 {w : World} {A : Option Addr} {n : Nat} {xs : List S76} (h : Kd.C k76 w A n xs) (i : Int) (h0 : 0 ≤ i) (h1 : i < n) : ∃ ad , A = some ad ∧ w.cell? (ad.add (i.toNat * 4)) = some (.int .i64 (rd_T76 xs i).f0) ∧ w.cell? ⟨(ad.add (i.toNat * 4)).block, (ad.add (i.toNat * 4)).off + 1, none⟩ = some (.bool (rd_T76 xs i).f1) ∧ w.cell? ⟨(ad.add (i.toNat * 4)).block, (ad.add (i.toNat * 4)).off + 2, none⟩ = some (.int .i64 (rd_T76 xs i).f2) ∧ w.cell? ⟨(ad.add (i.toNat * 4)).block, (ad.add (i.toNat * 4)).off + 3, none⟩ = some (.string (rd_T76 xs i).f3) := by
  obtain ⟨ad, c, e, _, hK, hc0⟩ := Kd.C_get h z76 i h0 h1
  have hc : ∀ j u, c[j]? = some u → w.cell? (ad.add (i.toNat * 4 + j)) = some u := hc0
  obtain rfl := k76_open hK
  exact ⟨ad, e, hc 0 _ rfl, by rw [← add_field _ _ 1 (by omega)]; exact hc 1 _ rfl, by rw [← add_field _ _ 2 (by omega)]; exact hc 2 _ rfl, by rw [← add_field _ _ 3 (by omega)]; exact hc 3 _ rfl⟩

/-! #### struct type 61 -/
structure S61 where
  f0 : ByteArray
  f1 : ByteArray
  f2 : Bool
def z61 : S61 := ⟨(⟨#[]⟩ : ByteArray), (⟨#[]⟩ : ByteArray), false⟩
def k61 : Kd S61 := Kd.iso (Kd.pair Kd.string (Kd.pair Kd.string Kd.bool)) (fun x : S61 => (x.f0, x.f1, x.f2))
theorem k61_open {w : World} {x : S61} {cs : List Value} (h : k61.K w x cs) : cs = [.string x.f0, .string x.f1, .bool x.f2] := by
  obtain ⟨_, _, rfl, rfl, ⟨_, _, rfl, rfl, rfl⟩⟩ := h
  exact rfl
theorem k61_openM {w : World} {base : Nat} {ok : Nat → Prop} {x : S61} {cs : List Value} (h : k61.M w base ok x cs) : cs = [.string x.f0, .string x.f1, .bool x.f2] := by
  obtain ⟨_, _, rfl, rfl, ⟨_, _, rfl, rfl, rfl⟩⟩ := h
  exact rfl
theorem k61_mk (w : World) (x : S61)  : k61.K w x [.string x.f0, .string x.f1, .bool x.f2] := ⟨[.string x.f0], [.string x.f1, .bool x.f2], rfl, rfl, ⟨[.string x.f1], [.bool x.f2], rfl, rfl, rfl⟩⟩
theorem k61_mkM (w : World) (base : Nat) (ok : Nat → Prop) (x : S61)  : k61.M w base ok x [.string x.f0, .string x.f1, .bool x.f2] := ⟨[.string x.f0], [.string x.f1, .bool x.f2], rfl, rfl, ⟨[.string x.f1], [.bool x.f2], rfl, rfl, rfl⟩⟩
def rd_T61 (xs : List S61) (i : Int) : S61 := xs.getD i.toNat z61
theorem at_T61 {w : World} {A : Option Addr} {n : Nat} {xs : List S61} (h : Kd.C k61 w A n xs) (i : Int) (h0 : 0 ≤ i) (h1 : i < n) : ∃ ad , A = some ad ∧ w.cell? (ad.add (i.toNat * 3)) = some (.string (rd_T61 xs i).f0) ∧ w.cell? ⟨(ad.add (i.toNat * 3)).block, (ad.add (i.toNat * 3)).off + 1, none⟩ = some (.string (rd_T61 xs i).f1) ∧ w.cell? ⟨(ad.add (i.toNat * 3)).block, (ad.add (i.toNat * 3)).off + 2, none⟩ = some (.bool (rd_T61 xs i).f2) := by
  obtain ⟨ad, c, e, _, hK, hc0⟩ := Kd.C_get h z61 i h0 h1
  have hc : ∀ j u, c[j]? = some u → w.cell? (ad.add (i.toNat * 3 + j)) = some u := hc0
  obtain rfl := k61_open hK
  exact ⟨ad, e, hc 0 _ rfl, by rw [← add_field _ _ 1 (by omega)]; exact hc 1 _ rfl, by rw [← add_field _ _ 2 (by omega)]; exact hc 2 _ rfl⟩

def rd_L9 (xs : List (List S61)) (i : Int) : (List S61) := xs.getD i.toNat ([] : List S61)
theorem at_L9 {w : World} {A : Option Addr} {n : Nat} {xs : List (List S61)} (h : Kd.C (Kd.slice 61 k61) w A n xs) (i : Int) (h0 : 0 ≤ i) (h1 : i < n) : ∃ ad A0 c0, A = some ad ∧ w.cell? (ad.add i.toNat) = some (.slice A0 (rd_L9 xs i).length c0) ∧ (rd_L9 xs i).length ≤ c0 ∧ k61.C w A0 (rd_L9 xs i).length (rd_L9 xs i) := by
  obtain ⟨ad, c, e, _, hK, hc0⟩ := Kd.C_get h ([] : List S61) i h0 h1
  have hc : ∀ j u, c[j]? = some u → w.cell? (ad.add (i.toNat * 1 + j)) = some u := hc0
  obtain ⟨A0, c0, rfl, l0, g0⟩ := hK
  exact ⟨ad, A0, c0, e, by have hq := hc 0 _ rfl; rwa [Nat.mul_one, Nat.add_zero] at hq, l0, g0⟩

/-! #### struct type 36 -/
structure S36 where
  f0 : Int
  f1 : Int
def z36 : S36 := ⟨(0 : Int), (0 : Int)⟩
def k36 : Kd S36 := Kd.iso (Kd.pair (Kd.int .i64) (Kd.int .i64)) (fun x : S36 => (x.f0, x.f1))
theorem k36_open {w : World} {x : S36} {cs : List Value} (h : k36.K w x cs) : cs = [.int .i64 x.f0, .int .i64 x.f1] := by
  obtain ⟨_, _, rfl, rfl, rfl⟩ := h
  exact rfl
theorem k36_openM {w : World} {base : Nat} {ok : Nat → Prop} {x : S36} {cs : List Value} (h : k36.M w base ok x cs) : cs = [.int .i64 x.f0, .int .i64 x.f1] := by
  obtain ⟨_, _, rfl, rfl, rfl⟩ := h
  exact rfl
theorem k36_mk (w : World) (x : S36)  : k36.K w x [.int .i64 x.f0, .int .i64 x.f1] := ⟨[.int .i64 x.f0], [.int .i64 x.f1], rfl, rfl, rfl⟩
theorem k36_mkM (w : World) (base : Nat) (ok : Nat → Prop) (x : S36)  : k36.M w base ok x [.int .i64 x.f0, .int .i64 x.f1] := ⟨[.int .i64 x.f0], [.int .i64 x.f1], rfl, rfl, rfl⟩
def rd_T36 (xs : List S36) (i : Int) : S36 := xs.getD i.toNat z36
theorem at_T36 {w : World} {A : Option Addr} {n : Nat} {xs : List S36} (h : Kd.C k36 w A n xs) (i : Int) (h0 : 0 ≤ i) (h1 : i < n) : ∃ ad , A = some ad ∧ w.cell? (ad.add (i.toNat * 2)) = some (.int .i64 (rd_T36 xs i).f0) ∧ w.cell? ⟨(ad.add (i.toNat * 2)).block, (ad.add (i.toNat * 2)).off + 1, none⟩ = some (.int .i64 (rd_T36 xs i).f1) := by
  obtain ⟨ad, c, e, _, hK, hc0⟩ := Kd.C_get h z36 i h0 h1
  have hc : ∀ j u, c[j]? = some u → w.cell? (ad.add (i.toNat * 2 + j)) = some u := hc0
  obtain rfl := k36_open hK
  exact ⟨ad, e, hc 0 _ rfl, by rw [← add_field _ _ 1 (by omega)]; exact hc 1 _ rfl⟩

/-! #### struct type 58 -/
structure S58 where
  f0 : Int
  f1 : Int
  f2 : (List S61)
  f3 : ByteArray
  f4 : Bool
  f5 : Bool
  f6 : Int
  f7 : (List S61)
  f8 : ByteArray
  f9 : Bool
  f10 : S36
def z58 : S58 := ⟨(0 : Int), (0 : Int), ([] : List S61), (⟨#[]⟩ : ByteArray), false, false, (0 : Int), ([] : List S61), (⟨#[]⟩ : ByteArray), false, z36⟩
/-- A kind, the cells of which meet p where they are the call's own. -/
def guardK {α : Type} (p : List Value → Prop) (d : Kd α) : Kd α where
  sz := d.sz
  E := d.E
  K := d.K
  M := fun w b ok x cs => d.M w b ok x cs ∧ p cs
  K_len := d.K_len
  K_one := d.K_one
  K_below := d.K_below
  K_of_M := fun h => d.K_of_M h.1
  M_mono := fun ho h => ⟨d.M_mono ho h.1, h.2⟩
  M_bound := fun h => ⟨d.M_bound h.1, h.2⟩
  M_move := fun hm h => ⟨d.M_move hm h.1, h.2⟩
  M_lower := fun hb h => ⟨d.M_lower hb h.1, h.2⟩
def two27 (cs : List Value) : Prop := ∀ u v, cs[2]? = some u → cs[7]? = some v → ∀ k, u.ownBlock = some k → v.ownBlock ≠ some k
def k58 : Kd S58 := guardK two27 (Kd.iso (Kd.pair (Kd.int .i64) (Kd.pair (Kd.int .i64) (Kd.pair (Kd.slice 61 k61) (Kd.pair Kd.string (Kd.pair Kd.bool (Kd.pair Kd.bool (Kd.pair (Kd.int .i64) (Kd.pair (Kd.slice 61 k61) (Kd.pair Kd.string (Kd.pair Kd.bool k36)))))))))) (fun x : S58 => (x.f0, x.f1, x.f2, x.f3, x.f4, x.f5, x.f6, x.f7, x.f8, x.f9, x.f10)))
theorem k58_open {w : World} {x : S58} {cs : List Value} (h : k58.K w x cs) : ∃ A2 c2 A7 c7, cs = [.int .i64 x.f0, .int .i64 x.f1, .slice A2 x.f2.length c2, .string x.f3, .bool x.f4, .bool x.f5, .int .i64 x.f6, .slice A7 x.f7.length c7, .string x.f8, .bool x.f9, .int .i64 x.f10.f0, .int .i64 x.f10.f1] ∧ x.f2.length ≤ c2 ∧ k61.C w A2 x.f2.length x.f2 ∧ x.f7.length ≤ c7 ∧ k61.C w A7 x.f7.length x.f7 := by
  obtain ⟨_, _, rfl, rfl, ⟨_, _, rfl, rfl, ⟨_, _, rfl, ⟨A2, c2, rfl, l2, g2⟩, ⟨_, _, rfl, rfl, ⟨_, _, rfl, rfl, ⟨_, _, rfl, rfl, ⟨_, _, rfl, rfl, ⟨_, _, rfl, ⟨A7, c7, rfl, l7, g7⟩, ⟨_, _, rfl, rfl, ⟨_, _, rfl, rfl, s10⟩⟩⟩⟩⟩⟩⟩⟩⟩⟩ := h
  obtain rfl := k36_open s10
  exact ⟨A2, c2, A7, c7, rfl, l2, g2, l7, g7⟩
theorem k58_openM {w : World} {base : Nat} {ok : Nat → Prop} {x : S58} {cs : List Value} (h : k58.M w base ok x cs) : ∃ v2 v7, cs = [.int .i64 x.f0, .int .i64 x.f1, v2, .string x.f3, .bool x.f4, .bool x.f5, .int .i64 x.f6, v7, .string x.f8, .bool x.f9, .int .i64 x.f10.f0, .int .i64 x.f10.f1] ∧ k61.R 61 w base ok v2 x.f2 ∧ k61.R 61 w base ok v7 x.f7 := by
  replace h := h.1
  obtain ⟨_, _, rfl, rfl, ⟨_, _, rfl, rfl, ⟨_, _, rfl, ⟨v2, rfl, g2⟩, ⟨_, _, rfl, rfl, ⟨_, _, rfl, rfl, ⟨_, _, rfl, rfl, ⟨_, _, rfl, rfl, ⟨_, _, rfl, ⟨v7, rfl, g7⟩, ⟨_, _, rfl, rfl, ⟨_, _, rfl, rfl, s10⟩⟩⟩⟩⟩⟩⟩⟩⟩⟩ := h
  obtain rfl := k36_openM s10
  exact ⟨v2, v7, rfl, g2, g7⟩
theorem k58_mk (w : World) (x : S58) {A2 : Option Addr} {c2 : Nat} (l2 : x.f2.length ≤ c2) (g2 : k61.C w A2 x.f2.length x.f2) {A7 : Option Addr} {c7 : Nat} (l7 : x.f7.length ≤ c7) (g7 : k61.C w A7 x.f7.length x.f7) : k58.K w x [.int .i64 x.f0, .int .i64 x.f1, .slice A2 x.f2.length c2, .string x.f3, .bool x.f4, .bool x.f5, .int .i64 x.f6, .slice A7 x.f7.length c7, .string x.f8, .bool x.f9, .int .i64 x.f10.f0, .int .i64 x.f10.f1] := ⟨[.int .i64 x.f0], [.int .i64 x.f1, .slice A2 x.f2.length c2, .string x.f3, .bool x.f4, .bool x.f5, .int .i64 x.f6, .slice A7 x.f7.length c7, .string x.f8, .bool x.f9, .int .i64 x.f10.f0, .int .i64 x.f10.f1], rfl, rfl, ⟨[.int .i64 x.f1], [.slice A2 x.f2.length c2, .string x.f3, .bool x.f4, .bool x.f5, .int .i64 x.f6, .slice A7 x.f7.length c7, .string x.f8, .bool x.f9, .int .i64 x.f10.f0, .int .i64 x.f10.f1], rfl, rfl, ⟨[.slice A2 x.f2.length c2], [.string x.f3, .bool x.f4, .bool x.f5, .int .i64 x.f6, .slice A7 x.f7.length c7, .string x.f8, .bool x.f9, .int .i64 x.f10.f0, .int .i64 x.f10.f1], rfl, ⟨A2, c2, rfl, l2, g2⟩, ⟨[.string x.f3], [.bool x.f4, .bool x.f5, .int .i64 x.f6, .slice A7 x.f7.length c7, .string x.f8, .bool x.f9, .int .i64 x.f10.f0, .int .i64 x.f10.f1], rfl, rfl, ⟨[.bool x.f4], [.bool x.f5, .int .i64 x.f6, .slice A7 x.f7.length c7, .string x.f8, .bool x.f9, .int .i64 x.f10.f0, .int .i64 x.f10.f1], rfl, rfl, ⟨[.bool x.f5], [.int .i64 x.f6, .slice A7 x.f7.length c7, .string x.f8, .bool x.f9, .int .i64 x.f10.f0, .int .i64 x.f10.f1], rfl, rfl, ⟨[.int .i64 x.f6], [.slice A7 x.f7.length c7, .string x.f8, .bool x.f9, .int .i64 x.f10.f0, .int .i64 x.f10.f1], rfl, rfl, ⟨[.slice A7 x.f7.length c7], [.string x.f8, .bool x.f9, .int .i64 x.f10.f0, .int .i64 x.f10.f1], rfl, ⟨A7, c7, rfl, l7, g7⟩, ⟨[.string x.f8], [.bool x.f9, .int .i64 x.f10.f0, .int .i64 x.f10.f1], rfl, rfl, ⟨[.bool x.f9], [.int .i64 x.f10.f0, .int .i64 x.f10.f1], rfl, rfl, (k36_mk w x.f10 )⟩⟩⟩⟩⟩⟩⟩⟩⟩⟩
theorem k58_mkM (w : World) (base : Nat) (ok : Nat → Prop) (x : S58) {v2 : Value} (g2 : k61.R 61 w base ok v2 x.f2) {v7 : Value} (g7 : k61.R 61 w base ok v7 x.f7) (hp : ∀ k, v2.ownBlock = some k → v7.ownBlock ≠ some k) : k58.M w base ok x [.int .i64 x.f0, .int .i64 x.f1, v2, .string x.f3, .bool x.f4, .bool x.f5, .int .i64 x.f6, v7, .string x.f8, .bool x.f9, .int .i64 x.f10.f0, .int .i64 x.f10.f1] := ⟨⟨[.int .i64 x.f0], [.int .i64 x.f1, v2, .string x.f3, .bool x.f4, .bool x.f5, .int .i64 x.f6, v7, .string x.f8, .bool x.f9, .int .i64 x.f10.f0, .int .i64 x.f10.f1], rfl, rfl, ⟨[.int .i64 x.f1], [v2, .string x.f3, .bool x.f4, .bool x.f5, .int .i64 x.f6, v7, .string x.f8, .bool x.f9, .int .i64 x.f10.f0, .int .i64 x.f10.f1], rfl, rfl, ⟨[v2], [.string x.f3, .bool x.f4, .bool x.f5, .int .i64 x.f6, v7, .string x.f8, .bool x.f9, .int .i64 x.f10.f0, .int .i64 x.f10.f1], rfl, ⟨v2, rfl, g2⟩, ⟨[.string x.f3], [.bool x.f4, .bool x.f5, .int .i64 x.f6, v7, .string x.f8, .bool x.f9, .int .i64 x.f10.f0, .int .i64 x.f10.f1], rfl, rfl, ⟨[.bool x.f4], [.bool x.f5, .int .i64 x.f6, v7, .string x.f8, .bool x.f9, .int .i64 x.f10.f0, .int .i64 x.f10.f1], rfl, rfl, ⟨[.bool x.f5], [.int .i64 x.f6, v7, .string x.f8, .bool x.f9, .int .i64 x.f10.f0, .int .i64 x.f10.f1], rfl, rfl, ⟨[.int .i64 x.f6], [v7, .string x.f8, .bool x.f9, .int .i64 x.f10.f0, .int .i64 x.f10.f1], rfl, rfl, ⟨[v7], [.string x.f8, .bool x.f9, .int .i64 x.f10.f0, .int .i64 x.f10.f1], rfl, ⟨v7, rfl, g7⟩, ⟨[.string x.f8], [.bool x.f9, .int .i64 x.f10.f0, .int .i64 x.f10.f1], rfl, rfl, ⟨[.bool x.f9], [.int .i64 x.f10.f0, .int .i64 x.f10.f1], rfl, rfl, (k36_mkM w base ok x.f10 )⟩⟩⟩⟩⟩⟩⟩⟩⟩⟩, fun u v hu hv => by cases hu; cases hv; exact hp⟩
def rd_T58 (xs : List S58) (i : Int) : S58 := xs.getD i.toNat z58
theorem at_T58 {w : World} {A : Option Addr} {n : Nat} {xs : List S58} (h : Kd.C k58 w A n xs) (i : Int) (h0 : 0 ≤ i) (h1 : i < n) : ∃ ad A2 c2 A7 c7, A = some ad ∧ w.cell? (ad.add (i.toNat * 12)) = some (.int .i64 (rd_T58 xs i).f0) ∧ w.cell? ⟨(ad.add (i.toNat * 12)).block, (ad.add (i.toNat * 12)).off + 1, none⟩ = some (.int .i64 (rd_T58 xs i).f1) ∧ w.cell? ⟨(ad.add (i.toNat * 12)).block, (ad.add (i.toNat * 12)).off + 2, none⟩ = some (.slice A2 (rd_T58 xs i).f2.length c2) ∧ w.cell? ⟨(ad.add (i.toNat * 12)).block, (ad.add (i.toNat * 12)).off + 3, none⟩ = some (.string (rd_T58 xs i).f3) ∧ w.cell? ⟨(ad.add (i.toNat * 12)).block, (ad.add (i.toNat * 12)).off + 4, none⟩ = some (.bool (rd_T58 xs i).f4) ∧ w.cell? ⟨(ad.add (i.toNat * 12)).block, (ad.add (i.toNat * 12)).off + 5, none⟩ = some (.bool (rd_T58 xs i).f5) ∧ w.cell? ⟨(ad.add (i.toNat * 12)).block, (ad.add (i.toNat * 12)).off + 6, none⟩ = some (.int .i64 (rd_T58 xs i).f6) ∧ w.cell? ⟨(ad.add (i.toNat * 12)).block, (ad.add (i.toNat * 12)).off + 7, none⟩ = some (.slice A7 (rd_T58 xs i).f7.length c7) ∧ w.cell? ⟨(ad.add (i.toNat * 12)).block, (ad.add (i.toNat * 12)).off + 8, none⟩ = some (.string (rd_T58 xs i).f8) ∧ w.cell? ⟨(ad.add (i.toNat * 12)).block, (ad.add (i.toNat * 12)).off + 9, none⟩ = some (.bool (rd_T58 xs i).f9) ∧ w.cell? ⟨(ad.add (i.toNat * 12)).block, (ad.add (i.toNat * 12)).off + 10, none⟩ = some (.int .i64 (rd_T58 xs i).f10.f0) ∧ w.cell? ⟨(ad.add (i.toNat * 12)).block, (ad.add (i.toNat * 12)).off + 11, none⟩ = some (.int .i64 (rd_T58 xs i).f10.f1) ∧ (rd_T58 xs i).f2.length ≤ c2 ∧ k61.C w A2 (rd_T58 xs i).f2.length (rd_T58 xs i).f2 ∧ (rd_T58 xs i).f7.length ≤ c7 ∧ k61.C w A7 (rd_T58 xs i).f7.length (rd_T58 xs i).f7 := by
  obtain ⟨ad, c, e, _, hK, hc0⟩ := Kd.C_get h z58 i h0 h1
  have hc : ∀ j u, c[j]? = some u → w.cell? (ad.add (i.toNat * 12 + j)) = some u := hc0
  obtain ⟨A2, c2, A7, c7, rfl, l2, g2, l7, g7⟩ := k58_open hK
  exact ⟨ad, A2, c2, A7, c7, e, hc 0 _ rfl, by rw [← add_field _ _ 1 (by omega)]; exact hc 1 _ rfl, by rw [← add_field _ _ 2 (by omega)]; exact hc 2 _ rfl, by rw [← add_field _ _ 3 (by omega)]; exact hc 3 _ rfl, by rw [← add_field _ _ 4 (by omega)]; exact hc 4 _ rfl, by rw [← add_field _ _ 5 (by omega)]; exact hc 5 _ rfl, by rw [← add_field _ _ 6 (by omega)]; exact hc 6 _ rfl, by rw [← add_field _ _ 7 (by omega)]; exact hc 7 _ rfl, by rw [← add_field _ _ 8 (by omega)]; exact hc 8 _ rfl, by rw [← add_field _ _ 9 (by omega)]; exact hc 9 _ rfl, by rw [← add_field _ _ 10 (by omega)]; exact hc 10 _ rfl, by rw [← add_field _ _ 11 (by omega)]; exact hc 11 _ rfl, l2, g2, l7, g7⟩

/-! #### struct type 79 -/
structure S79 where
  f0 : Int
  f1 : Bool
  f2 : Int
  f3 : ByteArray
def z79 : S79 := ⟨(0 : Int), false, (0 : Int), (⟨#[]⟩ : ByteArray)⟩
def k79 : Kd S79 := Kd.iso (Kd.pair (Kd.int .i64) (Kd.pair Kd.bool (Kd.pair (Kd.int .i64) Kd.string))) (fun x : S79 => (x.f0, x.f1, x.f2, x.f3))
theorem k79_open {w : World} {x : S79} {cs : List Value} (h : k79.K w x cs) : cs = [.int .i64 x.f0, .bool x.f1, .int .i64 x.f2, .string x.f3] := by
  obtain ⟨_, _, rfl, rfl, ⟨_, _, rfl, rfl, ⟨_, _, rfl, rfl, rfl⟩⟩⟩ := h
  exact rfl
theorem k79_openM {w : World} {base : Nat} {ok : Nat → Prop} {x : S79} {cs : List Value} (h : k79.M w base ok x cs) : cs = [.int .i64 x.f0, .bool x.f1, .int .i64 x.f2, .string x.f3] := by
  obtain ⟨_, _, rfl, rfl, ⟨_, _, rfl, rfl, ⟨_, _, rfl, rfl, rfl⟩⟩⟩ := h
  exact rfl
theorem k79_mk (w : World) (x : S79)  : k79.K w x [.int .i64 x.f0, .bool x.f1, .int .i64 x.f2, .string x.f3] := ⟨[.int .i64 x.f0], [.bool x.f1, .int .i64 x.f2, .string x.f3], rfl, rfl, ⟨[.bool x.f1], [.int .i64 x.f2, .string x.f3], rfl, rfl, ⟨[.int .i64 x.f2], [.string x.f3], rfl, rfl, rfl⟩⟩⟩
theorem k79_mkM (w : World) (base : Nat) (ok : Nat → Prop) (x : S79)  : k79.M w base ok x [.int .i64 x.f0, .bool x.f1, .int .i64 x.f2, .string x.f3] := ⟨[.int .i64 x.f0], [.bool x.f1, .int .i64 x.f2, .string x.f3], rfl, rfl, ⟨[.bool x.f1], [.int .i64 x.f2, .string x.f3], rfl, rfl, ⟨[.int .i64 x.f2], [.string x.f3], rfl, rfl, rfl⟩⟩⟩
def rd_T79 (xs : List S79) (i : Int) : S79 := xs.getD i.toNat z79
theorem at_T79 {w : World} {A : Option Addr} {n : Nat} {xs : List S79} (h : Kd.C k79 w A n xs) (i : Int) (h0 : 0 ≤ i) (h1 : i < n) : ∃ ad , A = some ad ∧ w.cell? (ad.add (i.toNat * 4)) = some (.int .i64 (rd_T79 xs i).f0) ∧ w.cell? ⟨(ad.add (i.toNat * 4)).block, (ad.add (i.toNat * 4)).off + 1, none⟩ = some (.bool (rd_T79 xs i).f1) ∧ w.cell? ⟨(ad.add (i.toNat * 4)).block, (ad.add (i.toNat * 4)).off + 2, none⟩ = some (.int .i64 (rd_T79 xs i).f2) ∧ w.cell? ⟨(ad.add (i.toNat * 4)).block, (ad.add (i.toNat * 4)).off + 3, none⟩ = some (.string (rd_T79 xs i).f3) := by
  obtain ⟨ad, c, e, _, hK, hc0⟩ := Kd.C_get h z79 i h0 h1
  have hc : ∀ j u, c[j]? = some u → w.cell? (ad.add (i.toNat * 4 + j)) = some u := hc0
  obtain rfl := k79_open hK
  exact ⟨ad, e, hc 0 _ rfl, by rw [← add_field _ _ 1 (by omega)]; exact hc 1 _ rfl, by rw [← add_field _ _ 2 (by omega)]; exact hc 2 _ rfl, by rw [← add_field _ _ 3 (by omega)]; exact hc 3 _ rfl⟩

def rd_L14 (xs : List (List S79)) (i : Int) : (List S79) := xs.getD i.toNat ([] : List S79)
theorem at_L14 {w : World} {A : Option Addr} {n : Nat} {xs : List (List S79)} (h : Kd.C (Kd.slice 79 k79) w A n xs) (i : Int) (h0 : 0 ≤ i) (h1 : i < n) : ∃ ad A0 c0, A = some ad ∧ w.cell? (ad.add i.toNat) = some (.slice A0 (rd_L14 xs i).length c0) ∧ (rd_L14 xs i).length ≤ c0 ∧ k79.C w A0 (rd_L14 xs i).length (rd_L14 xs i) := by
  obtain ⟨ad, c, e, _, hK, hc0⟩ := Kd.C_get h ([] : List S79) i h0 h1
  have hc : ∀ j u, c[j]? = some u → w.cell? (ad.add (i.toNat * 1 + j)) = some u := hc0
  obtain ⟨A0, c0, rfl, l0, g0⟩ := hK
  exact ⟨ad, A0, c0, e, by have hq := hc 0 _ rfl; rwa [Nat.mul_one, Nat.add_zero] at hq, l0, g0⟩

/-! #### struct type 34 -/
structure S34 where
  f0 : (List S61)
  f1 : Int
def z34 : S34 := ⟨([] : List S61), (0 : Int)⟩
def k34 : Kd S34 := Kd.iso (Kd.pair (Kd.slice 61 k61) (Kd.int .i64)) (fun x : S34 => (x.f0, x.f1))
theorem k34_open {w : World} {x : S34} {cs : List Value} (h : k34.K w x cs) : ∃ A0 c0, cs = [.slice A0 x.f0.length c0, .int .i64 x.f1] ∧ x.f0.length ≤ c0 ∧ k61.C w A0 x.f0.length x.f0 := by
  obtain ⟨_, _, rfl, ⟨A0, c0, rfl, l0, g0⟩, rfl⟩ := h
  exact ⟨A0, c0, rfl, l0, g0⟩
theorem k34_openM {w : World} {base : Nat} {ok : Nat → Prop} {x : S34} {cs : List Value} (h : k34.M w base ok x cs) : ∃ v0, cs = [v0, .int .i64 x.f1] ∧ k61.R 61 w base ok v0 x.f0 := by
  obtain ⟨_, _, rfl, ⟨v0, rfl, g0⟩, rfl⟩ := h
  exact ⟨v0, rfl, g0⟩
theorem k34_mk (w : World) (x : S34) {A0 : Option Addr} {c0 : Nat} (l0 : x.f0.length ≤ c0) (g0 : k61.C w A0 x.f0.length x.f0) : k34.K w x [.slice A0 x.f0.length c0, .int .i64 x.f1] := ⟨[.slice A0 x.f0.length c0], [.int .i64 x.f1], rfl, ⟨A0, c0, rfl, l0, g0⟩, rfl⟩
theorem k34_mkM (w : World) (base : Nat) (ok : Nat → Prop) (x : S34) {v0 : Value} (g0 : k61.R 61 w base ok v0 x.f0) : k34.M w base ok x [v0, .int .i64 x.f1] := ⟨[v0], [.int .i64 x.f1], rfl, ⟨v0, rfl, g0⟩, rfl⟩
def rd_T34 (xs : List S34) (i : Int) : S34 := xs.getD i.toNat z34
theorem at_T34 {w : World} {A : Option Addr} {n : Nat} {xs : List S34} (h : Kd.C k34 w A n xs) (i : Int) (h0 : 0 ≤ i) (h1 : i < n) : ∃ ad A0 c0, A = some ad ∧ w.cell? (ad.add (i.toNat * 2)) = some (.slice A0 (rd_T34 xs i).f0.length c0) ∧ w.cell? ⟨(ad.add (i.toNat * 2)).block, (ad.add (i.toNat * 2)).off + 1, none⟩ = some (.int .i64 (rd_T34 xs i).f1) ∧ (rd_T34 xs i).f0.length ≤ c0 ∧ k61.C w A0 (rd_T34 xs i).f0.length (rd_T34 xs i).f0 := by
  obtain ⟨ad, c, e, _, hK, hc0⟩ := Kd.C_get h z34 i h0 h1
  have hc : ∀ j u, c[j]? = some u → w.cell? (ad.add (i.toNat * 2 + j)) = some u := hc0
  obtain ⟨A0, c0, rfl, l0, g0⟩ := k34_open hK
  exact ⟨ad, A0, c0, e, hc 0 _ rfl, by rw [← add_field _ _ 1 (by omega)]; exact hc 1 _ rfl, l0, g0⟩

def rd_L16 (xs : List (List S58)) (i : Int) : (List S58) := xs.getD i.toNat ([] : List S58)
theorem at_L16 {w : World} {A : Option Addr} {n : Nat} {xs : List (List S58)} (h : Kd.C (Kd.slice 58 k58) w A n xs) (i : Int) (h0 : 0 ≤ i) (h1 : i < n) : ∃ ad A0 c0, A = some ad ∧ w.cell? (ad.add i.toNat) = some (.slice A0 (rd_L16 xs i).length c0) ∧ (rd_L16 xs i).length ≤ c0 ∧ k58.C w A0 (rd_L16 xs i).length (rd_L16 xs i) := by
  obtain ⟨ad, c, e, _, hK, hc0⟩ := Kd.C_get h ([] : List S58) i h0 h1
  have hc : ∀ j u, c[j]? = some u → w.cell? (ad.add (i.toNat * 1 + j)) = some u := hc0
  obtain ⟨A0, c0, rfl, l0, g0⟩ := hK
  exact ⟨ad, A0, c0, e, by have hq := hc 0 _ rfl; rwa [Nat.mul_one, Nat.add_zero] at hq, l0, g0⟩

/-! #### struct type 39 -/
structure S39 where
  f0 : Bool
  f1 : S34
  f2 : S34
  f3 : ByteArray
  f4 : (List S58)
  f5 : S36
  f6 : (List S79)
  f7 : Bool
def z39 : S39 := ⟨false, z34, z34, (⟨#[]⟩ : ByteArray), ([] : List S58), z36, ([] : List S79), false⟩
def k39 : Kd S39 := Kd.iso (Kd.pair Kd.bool (Kd.pair k34 (Kd.pair k34 (Kd.pair Kd.string (Kd.pair (Kd.slice 58 k58) (Kd.pair k36 (Kd.pair (Kd.slice 79 k79) Kd.bool))))))) (fun x : S39 => (x.f0, x.f1, x.f2, x.f3, x.f4, x.f5, x.f6, x.f7))
theorem k39_open {w : World} {x : S39} {cs : List Value} (h : k39.K w x cs) : ∃ A1 c1 A3 c3 A6 c6 A9 c9, cs = [.bool x.f0, .slice A1 x.f1.f0.length c1, .int .i64 x.f1.f1, .slice A3 x.f2.f0.length c3, .int .i64 x.f2.f1, .string x.f3, .slice A6 x.f4.length c6, .int .i64 x.f5.f0, .int .i64 x.f5.f1, .slice A9 x.f6.length c9, .bool x.f7] ∧ x.f1.f0.length ≤ c1 ∧ k61.C w A1 x.f1.f0.length x.f1.f0 ∧ x.f2.f0.length ≤ c3 ∧ k61.C w A3 x.f2.f0.length x.f2.f0 ∧ x.f4.length ≤ c6 ∧ k58.C w A6 x.f4.length x.f4 ∧ x.f6.length ≤ c9 ∧ k79.C w A9 x.f6.length x.f6 := by
  obtain ⟨_, _, rfl, rfl, ⟨_, _, rfl, s1, ⟨_, _, rfl, s3, ⟨_, _, rfl, rfl, ⟨_, _, rfl, ⟨A6, c6, rfl, l6, g6⟩, ⟨_, _, rfl, s7, ⟨_, _, rfl, ⟨A9, c9, rfl, l9, g9⟩, rfl⟩⟩⟩⟩⟩⟩⟩ := h
  obtain ⟨A1, c1, rfl, l1, g1⟩ := k34_open s1
  obtain ⟨A3, c3, rfl, l3, g3⟩ := k34_open s3
  obtain rfl := k36_open s7
  exact ⟨A1, c1, A3, c3, A6, c6, A9, c9, rfl, l1, g1, l3, g3, l6, g6, l9, g9⟩
theorem k39_openM {w : World} {base : Nat} {ok : Nat → Prop} {x : S39} {cs : List Value} (h : k39.M w base ok x cs) : ∃ v1 v3 v6 v9, cs = [.bool x.f0, v1, .int .i64 x.f1.f1, v3, .int .i64 x.f2.f1, .string x.f3, v6, .int .i64 x.f5.f0, .int .i64 x.f5.f1, v9, .bool x.f7] ∧ k61.R 61 w base ok v1 x.f1.f0 ∧ k61.R 61 w base ok v3 x.f2.f0 ∧ k58.R 58 w base ok v6 x.f4 ∧ k79.R 79 w base ok v9 x.f6 := by
  obtain ⟨_, _, rfl, rfl, ⟨_, _, rfl, s1, ⟨_, _, rfl, s3, ⟨_, _, rfl, rfl, ⟨_, _, rfl, ⟨v6, rfl, g6⟩, ⟨_, _, rfl, s7, ⟨_, _, rfl, ⟨v9, rfl, g9⟩, rfl⟩⟩⟩⟩⟩⟩⟩ := h
  obtain ⟨v1, rfl, g1⟩ := k34_openM s1
  obtain ⟨v3, rfl, g3⟩ := k34_openM s3
  obtain rfl := k36_openM s7
  exact ⟨v1, v3, v6, v9, rfl, g1, g3, g6, g9⟩
theorem k39_mk (w : World) (x : S39) {A1 : Option Addr} {c1 : Nat} (l1 : x.f1.f0.length ≤ c1) (g1 : k61.C w A1 x.f1.f0.length x.f1.f0) {A3 : Option Addr} {c3 : Nat} (l3 : x.f2.f0.length ≤ c3) (g3 : k61.C w A3 x.f2.f0.length x.f2.f0) {A6 : Option Addr} {c6 : Nat} (l6 : x.f4.length ≤ c6) (g6 : k58.C w A6 x.f4.length x.f4) {A9 : Option Addr} {c9 : Nat} (l9 : x.f6.length ≤ c9) (g9 : k79.C w A9 x.f6.length x.f6) : k39.K w x [.bool x.f0, .slice A1 x.f1.f0.length c1, .int .i64 x.f1.f1, .slice A3 x.f2.f0.length c3, .int .i64 x.f2.f1, .string x.f3, .slice A6 x.f4.length c6, .int .i64 x.f5.f0, .int .i64 x.f5.f1, .slice A9 x.f6.length c9, .bool x.f7] := ⟨[.bool x.f0], [.slice A1 x.f1.f0.length c1, .int .i64 x.f1.f1, .slice A3 x.f2.f0.length c3, .int .i64 x.f2.f1, .string x.f3, .slice A6 x.f4.length c6, .int .i64 x.f5.f0, .int .i64 x.f5.f1, .slice A9 x.f6.length c9, .bool x.f7], rfl, rfl, ⟨[.slice A1 x.f1.f0.length c1, .int .i64 x.f1.f1], [.slice A3 x.f2.f0.length c3, .int .i64 x.f2.f1, .string x.f3, .slice A6 x.f4.length c6, .int .i64 x.f5.f0, .int .i64 x.f5.f1, .slice A9 x.f6.length c9, .bool x.f7], rfl, (k34_mk w x.f1 l1 g1), ⟨[.slice A3 x.f2.f0.length c3, .int .i64 x.f2.f1], [.string x.f3, .slice A6 x.f4.length c6, .int .i64 x.f5.f0, .int .i64 x.f5.f1, .slice A9 x.f6.length c9, .bool x.f7], rfl, (k34_mk w x.f2 l3 g3), ⟨[.string x.f3], [.slice A6 x.f4.length c6, .int .i64 x.f5.f0, .int .i64 x.f5.f1, .slice A9 x.f6.length c9, .bool x.f7], rfl, rfl, ⟨[.slice A6 x.f4.length c6], [.int .i64 x.f5.f0, .int .i64 x.f5.f1, .slice A9 x.f6.length c9, .bool x.f7], rfl, ⟨A6, c6, rfl, l6, g6⟩, ⟨[.int .i64 x.f5.f0, .int .i64 x.f5.f1], [.slice A9 x.f6.length c9, .bool x.f7], rfl, (k36_mk w x.f5 ), ⟨[.slice A9 x.f6.length c9], [.bool x.f7], rfl, ⟨A9, c9, rfl, l9, g9⟩, rfl⟩⟩⟩⟩⟩⟩⟩
theorem k39_mkM (w : World) (base : Nat) (ok : Nat → Prop) (x : S39) {v1 : Value} (g1 : k61.R 61 w base ok v1 x.f1.f0) {v3 : Value} (g3 : k61.R 61 w base ok v3 x.f2.f0) {v6 : Value} (g6 : k58.R 58 w base ok v6 x.f4) {v9 : Value} (g9 : k79.R 79 w base ok v9 x.f6) : k39.M w base ok x [.bool x.f0, v1, .int .i64 x.f1.f1, v3, .int .i64 x.f2.f1, .string x.f3, v6, .int .i64 x.f5.f0, .int .i64 x.f5.f1, v9, .bool x.f7] := ⟨[.bool x.f0], [v1, .int .i64 x.f1.f1, v3, .int .i64 x.f2.f1, .string x.f3, v6, .int .i64 x.f5.f0, .int .i64 x.f5.f1, v9, .bool x.f7], rfl, rfl, ⟨[v1, .int .i64 x.f1.f1], [v3, .int .i64 x.f2.f1, .string x.f3, v6, .int .i64 x.f5.f0, .int .i64 x.f5.f1, v9, .bool x.f7], rfl, (k34_mkM w base ok x.f1 g1), ⟨[v3, .int .i64 x.f2.f1], [.string x.f3, v6, .int .i64 x.f5.f0, .int .i64 x.f5.f1, v9, .bool x.f7], rfl, (k34_mkM w base ok x.f2 g3), ⟨[.string x.f3], [v6, .int .i64 x.f5.f0, .int .i64 x.f5.f1, v9, .bool x.f7], rfl, rfl, ⟨[v6], [.int .i64 x.f5.f0, .int .i64 x.f5.f1, v9, .bool x.f7], rfl, ⟨v6, rfl, g6⟩, ⟨[.int .i64 x.f5.f0, .int .i64 x.f5.f1], [v9, .bool x.f7], rfl, (k36_mkM w base ok x.f5 ), ⟨[v9], [.bool x.f7], rfl, ⟨v9, rfl, g9⟩, rfl⟩⟩⟩⟩⟩⟩⟩
def rd_T39 (xs : List S39) (i : Int) : S39 := xs.getD i.toNat z39
theorem at_T39 {w : World} {A : Option Addr} {n : Nat} {xs : List S39} (h : Kd.C k39 w A n xs) (i : Int) (h0 : 0 ≤ i) (h1 : i < n) : ∃ ad A1 c1 A3 c3 A6 c6 A9 c9, A = some ad ∧ w.cell? (ad.add (i.toNat * 11)) = some (.bool (rd_T39 xs i).f0) ∧ w.cell? ⟨(ad.add (i.toNat * 11)).block, (ad.add (i.toNat * 11)).off + 1, none⟩ = some (.slice A1 (rd_T39 xs i).f1.f0.length c1) ∧ w.cell? ⟨(ad.add (i.toNat * 11)).block, (ad.add (i.toNat * 11)).off + 2, none⟩ = some (.int .i64 (rd_T39 xs i).f1.f1) ∧ w.cell? ⟨(ad.add (i.toNat * 11)).block, (ad.add (i.toNat * 11)).off + 3, none⟩ = some (.slice A3 (rd_T39 xs i).f2.f0.length c3) ∧ w.cell? ⟨(ad.add (i.toNat * 11)).block, (ad.add (i.toNat * 11)).off + 4, none⟩ = some (.int .i64 (rd_T39 xs i).f2.f1) ∧ w.cell? ⟨(ad.add (i.toNat * 11)).block, (ad.add (i.toNat * 11)).off + 5, none⟩ = some (.string (rd_T39 xs i).f3) ∧ w.cell? ⟨(ad.add (i.toNat * 11)).block, (ad.add (i.toNat * 11)).off + 6, none⟩ = some (.slice A6 (rd_T39 xs i).f4.length c6) ∧ w.cell? ⟨(ad.add (i.toNat * 11)).block, (ad.add (i.toNat * 11)).off + 7, none⟩ = some (.int .i64 (rd_T39 xs i).f5.f0) ∧ w.cell? ⟨(ad.add (i.toNat * 11)).block, (ad.add (i.toNat * 11)).off + 8, none⟩ = some (.int .i64 (rd_T39 xs i).f5.f1) ∧ w.cell? ⟨(ad.add (i.toNat * 11)).block, (ad.add (i.toNat * 11)).off + 9, none⟩ = some (.slice A9 (rd_T39 xs i).f6.length c9) ∧ w.cell? ⟨(ad.add (i.toNat * 11)).block, (ad.add (i.toNat * 11)).off + 10, none⟩ = some (.bool (rd_T39 xs i).f7) ∧ (rd_T39 xs i).f1.f0.length ≤ c1 ∧ k61.C w A1 (rd_T39 xs i).f1.f0.length (rd_T39 xs i).f1.f0 ∧ (rd_T39 xs i).f2.f0.length ≤ c3 ∧ k61.C w A3 (rd_T39 xs i).f2.f0.length (rd_T39 xs i).f2.f0 ∧ (rd_T39 xs i).f4.length ≤ c6 ∧ k58.C w A6 (rd_T39 xs i).f4.length (rd_T39 xs i).f4 ∧ (rd_T39 xs i).f6.length ≤ c9 ∧ k79.C w A9 (rd_T39 xs i).f6.length (rd_T39 xs i).f6 := by
  obtain ⟨ad, c, e, _, hK, hc0⟩ := Kd.C_get h z39 i h0 h1
  have hc : ∀ j u, c[j]? = some u → w.cell? (ad.add (i.toNat * 11 + j)) = some u := hc0
  obtain ⟨A1, c1, A3, c3, A6, c6, A9, c9, rfl, l1, g1, l3, g3, l6, g6, l9, g9⟩ := k39_open hK
  exact ⟨ad, A1, c1, A3, c3, A6, c6, A9, c9, e, hc 0 _ rfl, by rw [← add_field _ _ 1 (by omega)]; exact hc 1 _ rfl, by rw [← add_field _ _ 2 (by omega)]; exact hc 2 _ rfl, by rw [← add_field _ _ 3 (by omega)]; exact hc 3 _ rfl, by rw [← add_field _ _ 4 (by omega)]; exact hc 4 _ rfl, by rw [← add_field _ _ 5 (by omega)]; exact hc 5 _ rfl, by rw [← add_field _ _ 6 (by omega)]; exact hc 6 _ rfl, by rw [← add_field _ _ 7 (by omega)]; exact hc 7 _ rfl, by rw [← add_field _ _ 8 (by omega)]; exact hc 8 _ rfl, by rw [← add_field _ _ 9 (by omega)]; exact hc 9 _ rfl, by rw [← add_field _ _ 10 (by omega)]; exact hc 10 _ rfl, l1, g1, l3, g3, l6, g6, l9, g9⟩

end Go.Proofs.YtlpibelofcabhaaDoor.PFnExactEndCall
