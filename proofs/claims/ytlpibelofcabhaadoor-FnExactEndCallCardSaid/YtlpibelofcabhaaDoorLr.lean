/- What can be read as data of a type is of the printed kind: for arguments that are records, or slices of records. No program in sight. -/
import Derived.Test.YtlpibelofcabhaaDoorWMore
import Derived.Deep.Slices
import Derived.ChangeSame
import Derived.WideShapes
namespace Go.Proofs.YtlpibelofcabhaaDoor.Lm
open Go.RowKit Go.Proofs.YtlpibelofcabhaaDoorW.PrintWords Go.ChangeShapes Go.WideShapes Go.Deep
set_option linter.unusedVariables false
def Opens {α : Type} (P : Program) (t : TypeId) (d : Kd α) (G : α → Prop) : Prop :=
  ∀ (H : Type) (enc : TypeId × Value → H) (w : World) (base : Nat) (spare : Nat → Bool) (held : Bool) (fuel : Nat) (cs : List Value) (x : DataW H × List MemPlace),
    DataW.trod enc P w base spare held fuel t cs = some x → ∃ a : α, d.K w a cs ∧ G a
theorem opens_int {P : Program} {t : TypeId} {k : IntKind} (ht : P.underlying t = some (.int k)) : Opens P t (Kd.int k) (fun n => (Lit.int k n).wf = true) := by
  intro H enc w base spare held fuel cs x h
  obtain ⟨n, rfl, _, hw⟩ := DataW.trod_int ht h
  exact ⟨n, rfl, hw⟩
theorem opens_bool {P : Program} {t : TypeId} (ht : P.underlying t = some .bool) : Opens P t Kd.bool (fun _ => True) := by
  intro H enc w base spare held fuel cs x h
  obtain ⟨n, rfl, _⟩ := DataW.trod_bool ht h
  exact ⟨n, rfl, trivial⟩
theorem opens_string {P : Program} {t : TypeId} (ht : P.underlying t = some .string) : Opens P t Kd.string (fun s => s.size ≤ maxLen) := by
  intro H enc w base spare held fuel cs x h
  obtain ⟨n, rfl, _, hs⟩ := DataW.trod_string ht h
  exact ⟨n, rfl, hs⟩
theorem opens_slice {α : Type} {P : Program} {t e : TypeId} {d : Kd α} {G : α → Prop} (ht : P.underlying t = some (.slice e)) (hd : Opens P e d G) (hs : P.cellsOf e = d.sz) : Opens P t (Kd.slice e d) (fun l => l.length ≤ maxLen ∧ ∀ x ∈ l, G x) := by
  intro H enc w base spare held fuel cs x h
  rcases open_slice ht h with ⟨rfl, _⟩ | ⟨a, len, cap, m, n, D, Pl, rfl, hb, hl, hm, hmm, _, hi⟩
  · exact ⟨[], ⟨none, 0, rfl, Nat.le_refl _, Kd.C_nil d w⟩, by simp, fun x hx => by cases hx⟩
  · have hlm : len ≤ m := by rw [hmm]; split <;> omega
    have hget : ∀ i, i < len → ∃ y : α, G y ∧ ∃ c, c.length = d.sz ∧ d.K w y c ∧ ∀ j u, c[j]? = some u → w.cell? (a.add (i * d.sz + j)) = some u := by
      intro i hil
      obtain ⟨c, hc, htr⟩ := hi i (by omega)
      obtain ⟨y, hy, hG⟩ := hd H enc w base spare held n c _ htr
      obtain ⟨_, hcl, hat⟩ := World.cells?_some hc
      refine ⟨y, hG, c, d.K_len hy, hy, fun j u hu => ?_⟩
      have hj : j < c.length := (List.getElem?_eq_some_iff.1 hu).1
      have := hat j (by omega)
      rw [hs] at this
      rw [← Go.Deep.add_add, this, hu]
    have hlist : ∀ k, k ≤ len → ∃ l : List α, l.length = k ∧ ∀ i y, l[i]? = some y → G y ∧ ∃ c, c.length = d.sz ∧ d.K w y c ∧ ∀ j u, c[j]? = some u → w.cell? (a.add (i * d.sz + j)) = some u := by
      intro k
      induction k with
      | zero => intro _; exact ⟨[], rfl, fun i y h => by simp at h⟩
      | succ k ih =>
        intro hk
        obtain ⟨l, hl1, hl2⟩ := ih (by omega)
        obtain ⟨y, hy⟩ := hget k (by omega)
        refine ⟨l ++ [y], by simp [hl1], fun i z hz => ?_⟩
        by_cases hik : i < l.length
        · rw [List.getElem?_append_left hik] at hz; exact hl2 i z hz
        · rw [List.getElem?_append_right (by omega)] at hz
          have : i - l.length = 0 := by
            rcases Nat.eq_zero_or_pos (i - l.length) with h0 | h0
            · exact h0
            · rw [List.getElem?_eq_none (by simp; omega)] at hz; cases hz
          rw [this] at hz
          simp at hz
          subst hz
          have : i = k := by omega
          subst this
          exact hy
    obtain ⟨l, hl1, hl2⟩ := hlist len (Nat.le_refl _)
    subst hl1
    refine ⟨l, ⟨some a, cap, rfl, hl, rfl, by unfold maxLen at hm; omega, fun _ => ⟨a, rfl, fun j p hp => (hl2 j p hp).2⟩⟩, by omega, fun x hx => ?_⟩
    obtain ⟨i, hi, rfl⟩ := List.getElem_of_mem hx
    exact (hl2 i _ (List.getElem?_eq_getElem hi)).1
def OpensL {α : Type} (P : Program) (L : List Field) (off sz : Nat) (d : Kd α) (G : α → Prop) : Prop :=
  ∀ (H : Type) (enc : TypeId × Value → H) (w : World) (base : Nat) (spare : Nat → Bool) (held : Bool) (n : Nat) (cs : List Value), cs.length = off + sz →
    (∀ (j : Nat) (f : Field), L[j]? = some f → ∃ y, DataW.trod enc P w base spare held n f.type ((cs.drop f.offset).take (P.cellsOf f.type)) = some y) → ∃ a : α, d.K w a (cs.drop off) ∧ G a
theorem opensL_one {α : Type} {P : Program} {f : Field} {off sz : Nat} {d : Kd α} {G : α → Prop} (h : Opens P f.type d G) (ho : f.offset = off) (hs : P.cellsOf f.type = sz) : OpensL P [f] off sz d G := by
  intro H enc w base spare held n cs hl hf
  obtain ⟨y, hy⟩ := hf 0 f rfl
  rw [ho, hs, List.take_of_length_le (by rw [List.length_drop]; omega)] at hy
  exact h H enc w base spare held n _ y hy
theorem opensL_cons {α β : Type} {P : Program} {f : Field} {L : List Field} {off s0 s1 : Nat} {a : Kd α} {d : Kd β} {G0 : α → Prop} {G1 : β → Prop} (h : Opens P f.type a G0) (ho : f.offset = off) (hs : P.cellsOf f.type = s0) (ht : OpensL P L (off + s0) s1 d G1) :
    OpensL P (f :: L) off (s0 + s1) (Kd.pair a d) (fun x => G0 x.1 ∧ G1 x.2) := by
  intro H enc w base spare held n cs hl hf
  obtain ⟨y, hy⟩ := hf 0 f rfl
  rw [ho, hs] at hy
  obtain ⟨x0, k0, g0⟩ := h H enc w base spare held n _ _ hy
  obtain ⟨x1, k1, g1⟩ := ht H enc w base spare held n cs (by omega) (fun j f' hj => hf (j + 1) f' hj)
  refine ⟨(x0, x1), ⟨_, _, ?_, k0, k1⟩, g0, g1⟩
  rw [← List.drop_drop, List.take_append_drop]
theorem opens_struct {α : Type} {P : Program} {t : TypeId} {fs : Array Field} {sz : Nat} {d : Kd α} {G : α → Prop} (ht : P.underlying t = some (.struct fs)) (hs : P.cellsOf t = sz) (hL : OpensL P fs.toList 0 sz d G) : Opens P t d G := by
  intro H enc w base spare held fuel cs x h
  obtain ⟨xs, n, _, _, hl, hlen, hf⟩ := DataW.trod_struct ht h
  have := hL H enc w base spare held n cs (by omega) (fun j f hj => by
    have hj2 : fs[j]? = some f := by rw [← Array.getElem?_toList]; exact hj
    have e := hf j f hj2
    have hlt : j < xs.length := by rw [hlen]; exact (Array.getElem?_eq_some_iff.1 hj2).1
    rw [List.getElem?_eq_getElem hlt] at e
    exact ⟨_, e⟩)
  simpa using this
theorem opens_iso {α β : Type} {P : Program} {t : TypeId} {d : Kd α} {f : β → α} {G : α → Prop} (g : α → β) (hg : ∀ a, f (g a) = a) (h : Opens P t d G) : Opens P t (Kd.iso d f) (fun x => G (f x)) := by
  intro H enc w base spare held fuel cs x hx
  obtain ⟨a, k, ga⟩ := h H enc w base spare held fuel cs x hx
  refine ⟨g a, ?_, ?_⟩
  · show d.K w (f (g a)) cs
    rw [hg]; exact k
  · show G (f (g a))
    rw [hg]; exact ga
end Go.Proofs.YtlpibelofcabhaaDoor.Lm
