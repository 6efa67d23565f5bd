/- Plain laws of unpacking: bits out of bytes, signs out of bits, in one way. No program in sight. -/
import Derived.Test.YtlpibelofcabhaaDoorLm2
namespace Go.Proofs.YtlpibelofcabhaaDoor.Lm
set_option linter.unusedSimpArgs false
set_option linter.unusedVariables false
open Go.RowKit Go.Proofs.YtlpibelofcabhaaDoorW.PrintWords Go.Proofs.YtlpibelofcabhaaDoorW.PrintLast Go.Proofs.YtlpibelofcabhaaDoorW.PrintMore
def Bits (l : List Int) : Prop := ∀ x ∈ l, x = 0 ∨ x = 1
theorem Bits.take {l : List Int} (h : Bits l) (n : Nat) : Bits (l.take n) := fun x hx => h x (List.mem_of_mem_take hx)
theorem Bits.drop {l : List Int} (h : Bits l) (n : Nat) : Bits (l.drop n) := fun x hx => h x (List.mem_of_mem_drop hx)
/-! ### signs out of bits -/
def enc (ps : List Int) : List Int := ps.flatMap signBits
theorem toList_nil_iff (a : ByteArray) : (a.toList == ([] : List UInt8)) = decide (a.size = 0) := by
  rw [toList_data]
  by_cases h : a.size = 0
  · rw [decide_eq_true h]; simp; exact Array.eq_empty_of_size_eq_zero h
  · rw [decide_eq_false h]; simp; intro h2; apply h; change a.data.size = 0; rw [h2]; rfl
end Go.Proofs.YtlpibelofcabhaaDoor.Lm
