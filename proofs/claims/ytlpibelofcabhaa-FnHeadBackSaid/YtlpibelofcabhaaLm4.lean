/- Plain laws of unpacking: what is unpacked packs as it was, and back. No program in sight. -/
import Derived.Test.YtlpibelofcabhaaLm3
namespace Go.Proofs.Ytlpibelofcabhaa.Lm
set_option linter.unusedSimpArgs false
set_option linter.unusedVariables false
open Go.RowKit Go.Proofs.YtlpibelofcabhaaW.PrintWords Go.Proofs.YtlpibelofcabhaaW.PrintLast Go.Proofs.YtlpibelofcabhaaW.PrintMore
def unp (b : ByteArray) : ByteArray × Bool := if b.size > 16 then (⟨#[]⟩, false) else if wordOk (upW b) = true ∧ packB (upW b) = b then (upW b, true) else (⟨#[]⟩, false)
def AllOnes (r : List Int) : Prop := ∀ x ∈ r, x = 1
theorem up_pack {a : ByteArray} (hp : packOk a) : unp (packB a) = (a, true) := by
 have h14 := packB_small hp
 have hd := dec_pack hp 30 (by have := hp.1; omega)
 have hu : upW (packB a) = a := by unfold upW; rw [bits_packB, hd]; exact places_signs hp
 unfold unp
 rw [if_neg (by omega), if_pos (by rw [hu]; exact ⟨wordOk_of hp, rfl⟩), hu]
theorem up_true {b w : ByteArray} (h : unp b = (w, true)) : packOk w ∧ packB w = b ∧ b.size ≤ 16 := by
 unfold unp at h
 split at h
 ·cases h
 ·split at h
  ·rename_i h1 h2
   simp only [Prod.mk.injEq, and_true] at h
   rw [← h]
   exact ⟨ok_of h2.1, h2.2, by omega⟩
  ·cases h
