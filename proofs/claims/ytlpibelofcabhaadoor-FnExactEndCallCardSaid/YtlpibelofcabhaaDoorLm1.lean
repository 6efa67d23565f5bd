/- Plain words for 'from some number of rounds on it answers, and the answer is such': no program in sight. -/
import Derived.Test.YtlpibelofcabhaaDoorLm0
import Derived.Laws.BitsLemmas
import Derived.IntWalk
namespace Go.Proofs.YtlpibelofcabhaaDoor.Lm
set_option linter.unusedSimpArgs false
set_option linter.unusedVariables false
open Go.RowKit Go.Proofs.YtlpibelofcabhaaDoorW.PrintWords Go.Proofs.YtlpibelofcabhaaDoorW.PrintLast Go.Proofs.YtlpibelofcabhaaDoorW.PrintMore
def EvQ {α : Type} (g : Nat → Option α) (Q : α → Prop) : Prop := ∃ r, Q r ∧ Ev g r
theorem EvQ.now {α : Type} {Q : α → Prop} {r : α} (h : Q r) : EvQ (fun _ => some r) Q := ⟨r, h, Ev.now r⟩
theorem EvQ.bind {α β : Type} {P : α → Prop} {Q : β → Prop} {g : Nat → Option α} {f : Nat → α → Option β}
    (h : EvQ g P) (k : ∀ a, P a → EvQ (fun n => f n a) Q) : EvQ (fun n => (g n).bind (f n)) Q := by
  obtain ⟨a, ha, hg⟩ := h
  obtain ⟨r, hr, hf⟩ := k a ha
  exact ⟨r, hr, Ev.bind hg hf⟩
theorem EvQ.bindE {α β : Type} {a : α} {Q : β → Prop} {g : Nat → Option α} {f : Nat → α → Option β}
    (h : Ev g a) (k : EvQ (fun n => f n a) Q) : EvQ (fun n => (g n).bind (f n)) Q := by
  obtain ⟨r, hr, hf⟩ := k
  exact ⟨r, hr, Ev.bind h hf⟩
theorem EvQ.mono {α : Type} {P Q : α → Prop} {g : Nat → Option α} (h : EvQ g P) (k : ∀ a, P a → Q a) : EvQ g Q := by
  obtain ⟨a, ha, hg⟩ := h
  exact ⟨a, k a ha, hg⟩
theorem EvQ.step {α : Type} {Q : α → Prop} {g f : Nat → Option α} (h : ∀ k, g (k + 1) = f k) (k : EvQ f Q) : EvQ g Q := by
  obtain ⟨r, hr, hf⟩ := k
  exact ⟨r, hr, Ev.step h hf⟩
theorem EvQ.congr {α : Type} {Q : α → Prop} {g f : Nat → Option α} (h : ∀ k, g k = f k) (k : EvQ f Q) : EvQ g Q := by
  obtain ⟨r, hr, hf⟩ := k
  exact ⟨r, hr, Ev.congr h hf⟩
theorem EvQ.ite {α : Type} {Q : α → Prop} {c : Prop} [Decidable c] {g f : Nat → Option α} (h : c → EvQ g Q) (k : ¬ c → EvQ f Q) : EvQ (fun n => if c then g n else f n) Q := by
  by_cases hc : c
  · exact EvQ.congr (fun _ => if_pos hc) (h hc)
  · exact EvQ.congr (fun _ => if_neg hc) (k hc)
theorem EvQ.pos {α : Type} {Q : α → Prop} {c : Prop} [Decidable c] {g f : Nat → Option α} (hc : c) (h : EvQ g Q) : EvQ (fun n => if c then g n else f n) Q := EvQ.congr (fun _ => if_pos hc) h
theorem EvQ.neg {α : Type} {Q : α → Prop} {c : Prop} [Decidable c] {g f : Nat → Option α} (hc : ¬ c) (h : EvQ f Q) : EvQ (fun n => if c then g n else f n) Q := EvQ.congr (fun _ => if_neg hc) h
theorem Ev.pos {α : Type} {r : α} {c : Prop} [Decidable c] {g f : Nat → Option α} (hc : c) (h : Ev g r) : Ev (fun n => if c then g n else f n) r := Ev.congr (fun _ => if_pos hc) h
theorem Ev.neg {α : Type} {r : α} {c : Prop} [Decidable c] {g f : Nat → Option α} (hc : ¬ c) (h : Ev f r) : Ev (fun n => if c then g n else f n) r := Ev.congr (fun _ => if_neg hc) h
theorem EvQ.tt {α : Type} {r : α} {g : Nat → Option α} (h : EvQ g (fun x => x = r)) : ∃ k, g k = some r := by
  obtain ⟨a, rfl, hg⟩ := h
  exact hg.rounds
theorem EvQ.ev {α : Type} {r : α} {g : Nat → Option α} (h : EvQ g (fun x => x = r)) : Ev g r := by
  obtain ⟨a, rfl, hg⟩ := h
  exact hg
theorem EvQ.of_ev {α : Type} {r : α} {Q : α → Prop} {g : Nat → Option α} (h : Ev g r) (k : Q r) : EvQ g Q := ⟨r, k, h⟩
theorem w64 (n : Int) (h0 : -9223372036854775808 ≤ n) (h1 : n ≤ 9223372036854775807) : wrap64 n = n := by unfold wrap64; omega
theorem w64_0 (n : Int) (h0 : 0 ≤ n) (h1 : n < 9223372036854775808) : wrap64 n = n := by unfold wrap64; omega
def Bytes (l : List Int) : Prop := ∀ x ∈ l, 0 ≤ x ∧ x < 256
theorem Bytes.take {l : List Int} (h : Bytes l) (n : Nat) : Bytes (l.take n) := fun x hx => h x (List.mem_of_mem_take hx)
end Go.Proofs.YtlpibelofcabhaaDoor.Lm
