/- Plain words for 'from some number of rounds on it answers, and the answer is such': no program in sight. -/
import Derived.Test.YtdhahifdcoinhaaLm0
import Derived.Laws.BitsLemmas
import Derived.IntWalk
namespace Go.Proofs.Ytdhahifdcoinhaa.Lm
set_option linter.unusedSimpArgs false
set_option linter.unusedVariables false
open Go.RowKit Go.Proofs.YtdhahifdcoinhaaW.PrintWords Go.Proofs.YtdhahifdcoinhaaW.PrintLast Go.Proofs.YtdhahifdcoinhaaW.PrintMore

/-- From some number of rounds on g answers r, and r is such. -/
def EvQ {α : Type} (g : Nat → Option α) (Q : α → Prop) : Prop := ∃ r, Q r ∧ Ev g r

theorem EvQ.now {α : Type} {Q : α → Prop} {r : α} (h : Q r) : EvQ (fun _ => some r) Q := ⟨r, h, Ev.now r⟩
theorem EvQ.bind {α β : Type} {P : α → Prop} {Q : β → Prop} {g : Nat → Option α} {f : Nat → α → Option β}
    (h : EvQ g P) (k : ∀ a, P a → EvQ (fun n => f n a) Q) : EvQ (fun n => (g n).bind (f n)) Q := by
  obtain ⟨a, ha, hg⟩ := h
  obtain ⟨r, hr, hf⟩ := k a ha
  exact ⟨r, hr, Ev.bind hg hf⟩
theorem EvQ.bindE {α β : Type} {a : α} {Q : β → Prop} {g : Nat → Option α} {f : Nat → α → Option β}
    (h : Ev g a) (k : EvQ (fun n => f n a) Q) : EvQ (fun n => (g n).bind (f n)) Q := by
  obtain ⟨r, hr, hf⟩ := k
  exact ⟨r, hr, Ev.bind h hf⟩
theorem EvQ.mono {α : Type} {P Q : α → Prop} {g : Nat → Option α} (h : EvQ g P) (k : ∀ a, P a → Q a) : EvQ g Q := by
  obtain ⟨a, ha, hg⟩ := h
  exact ⟨a, k a ha, hg⟩
theorem EvQ.step {α : Type} {Q : α → Prop} {g f : Nat → Option α} (h : ∀ k, g (k + 1) = f k) (k : EvQ f Q) : EvQ g Q := by
  obtain ⟨r, hr, hf⟩ := k
  exact ⟨r, hr, Ev.step h hf⟩
theorem EvQ.congr {α : Type} {Q : α → Prop} {g f : Nat → Option α} (h : ∀ k, g k = f k) (k : EvQ f Q) : EvQ g Q := by
  obtain ⟨r, hr, hf⟩ := k
  exact ⟨r, hr, Ev.congr h hf⟩
theorem EvQ.ite {α : Type} {Q : α → Prop} {c : Prop} [Decidable c] {g f : Nat → Option α} (h : c → EvQ g Q) (k : ¬ c → EvQ f Q) : EvQ (fun n => if c then g n else f n) Q := by
  by_cases hc : c
  · exact EvQ.congr (fun _ => if_pos hc) (h hc)
  · exact EvQ.congr (fun _ => if_neg hc) (k hc)
theorem EvQ.pos {α : Type} {Q : α → Prop} {c : Prop} [Decidable c] {g f : Nat → Option α} (hc : c) (h : EvQ g Q) : EvQ (fun n => if c then g n else f n) Q := EvQ.congr (fun _ => if_pos hc) h
theorem EvQ.neg {α : Type} {Q : α → Prop} {c : Prop} [Decidable c] {g f : Nat → Option α} (hc : ¬ c) (h : EvQ f Q) : EvQ (fun n => if c then g n else f n) Q := EvQ.congr (fun _ => if_neg hc) h
theorem Ev.pos {α : Type} {r : α} {c : Prop} [Decidable c] {g f : Nat → Option α} (hc : c) (h : Ev g r) : Ev (fun n => if c then g n else f n) r := Ev.congr (fun _ => if_pos hc) h
theorem Ev.neg {α : Type} {r : α} {c : Prop} [Decidable c] {g f : Nat → Option α} (hc : ¬ c) (h : Ev f r) : Ev (fun n => if c then g n else f n) r := Ev.congr (fun _ => if_neg hc) h
theorem EvQ.tt {α : Type} {r : α} {g : Nat → Option α} (h : EvQ g (fun x => x = r)) : ∃ k, g k = some r := by
  obtain ⟨a, rfl, hg⟩ := h
  exact hg.rounds
theorem EvQ.ev {α : Type} {r : α} {g : Nat → Option α} (h : EvQ g (fun x => x = r)) : Ev g r := by
  obtain ⟨a, rfl, hg⟩ := h
  exact hg
theorem EvQ.of_ev {α : Type} {r : α} {Q : α → Prop} {g : Nat → Option α} (h : Ev g r) (k : Q r) : EvQ g Q := ⟨r, k, h⟩
theorem EvQ.of_eq {α : Type} {r : α} {Q : α → Prop} {o : Option α} (h : o = some r) (k : Q r) : EvQ (fun _ => o) Q := ⟨r, k, ⟨0, fun _ _ => h⟩⟩

theorem w64 (n : Int) (h0 : -9223372036854775808 ≤ n) (h1 : n ≤ 9223372036854775807) : wrap64 n = n := by unfold wrap64; omega
theorem w64_0 (n : Int) (h0 : 0 ≤ n) (h1 : n < 9223372036854775808) : wrap64 n = n := by unfold wrap64; omega

/-- Bytes as the program's numbers. -/
def Bytes (l : List Int) : Prop := ∀ x ∈ l, 0 ≤ x ∧ x < 256
theorem bytes_of_wf {l : List Int} (h : ∀ x ∈ l, (Lit.int .u8 x).wf = true) : Bytes l := by
  intro x hx
  have := h x hx
  simp [Lit.wf, IntKind.min, IntKind.max, IntKind.bits, IntKind.signed] at this
  omega
theorem rd_bytes {l : List Int} (h : Bytes l) (i : Int) : 0 ≤ rd l i ∧ rd l i < 256 := by
  unfold rd
  by_cases hi : i.toNat < l.length
  · rw [List.getD_eq_getElem?_getD, List.getElem?_eq_getElem hi]
    exact h _ (List.getElem_mem hi)
  · rw [List.getD_eq_getElem?_getD, List.getElem?_eq_none (by omega)]
    simp
theorem Bytes.take {l : List Int} (h : Bytes l) (n : Nat) : Bytes (l.take n) := fun x hx => h x (List.mem_of_mem_take hx)

theorem xor_i64_nat (a b : Nat) (ha : a < 2 ^ 62) (hb : b < 2 ^ 62) : Go.bits .xor .i64 (a : Int) (b : Int) = ((a ^^^ b : Nat) : Int) ∧ a ^^^ b < 2 ^ 62 := by
  have hx : a ^^^ b < 2 ^ 62 := Nat.xor_lt_two_pow ha hb
  refine ⟨?_, hx⟩
  have h1 : (BitVec.ofInt 64 (a : Int)).toNat = a := by
    rw [BitVec.ofInt_natCast, BitVec.toNat_ofNat]; exact Nat.mod_eq_of_lt (by omega)
  have h2 : (BitVec.ofInt 64 (b : Int)).toNat = b := by
    rw [BitVec.ofInt_natCast, BitVec.toNat_ofNat]; exact Nat.mod_eq_of_lt (by omega)
  show IntKind.i64.wrap ((BitVec.ofInt 64 (a : Int) ^^^ BitVec.ofInt 64 (b : Int)).toNat : Int) = _
  rw [BitVec.toNat_xor, h1, h2, IntKind.wrap_i64]
  omega
theorem xor_i64_nonneg (x y : Int) (hx : 0 ≤ x) (hx1 : x < 2 ^ 62) (hy : 0 ≤ y) (hy1 : y < 2 ^ 62) : 0 ≤ Go.bits .xor .i64 x y := by
  obtain ⟨a, rfl⟩ := Int.eq_ofNat_of_zero_le hx
  obtain ⟨b, rfl⟩ := Int.eq_ofNat_of_zero_le hy
  rw [(xor_i64_nat a b (by omega) (by omega)).1]
  exact Int.natCast_nonneg _
theorem tmod_range (x n : Int) (hx : 0 ≤ x) (hn : 0 < n) : 0 ≤ Int.tmod x n ∧ Int.tmod x n < n := by
  rw [Int.tmod_eq_emod_of_nonneg hx]
  exact ⟨Int.emod_nonneg _ (by omega), Int.emod_lt_of_pos _ hn⟩
theorem tdiv_range (x n : Int) (hx : 0 ≤ x) (hn : 0 < n) : 0 ≤ Int.tdiv x n ∧ Int.tdiv x n ≤ x := by
  rw [Int.tdiv_eq_ediv_of_nonneg hx]
  exact ⟨Int.ediv_nonneg hx (by omega), Int.ediv_le_self _ hx⟩
end Go.Proofs.Ytdhahifdcoinhaa.Lm
