/- Plain laws of reading a word: what is written is read back. No program in sight. -/
import Derived.Test.YtlpibelofcabhaaLm4
namespace Go.Proofs.Ytlpibelofcabhaa.Lm
set_option linter.unusedSimpArgs false
set_option linter.unusedVariables false
open Go.RowKit Go.Proofs.YtlpibelofcabhaaW.PrintWords Go.Proofs.YtlpibelofcabhaaW.PrintLast Go.Proofs.YtlpibelofcabhaaW.PrintMore
def body (b : ByteArray) : ByteArray := b.extract 1 (1 + bt b 0 % 128).toNat
def rdW (b : ByteArray) : ByteArray × Int × Bool :=
 if b.size = 0 then (⟨#[]⟩, 0, false)
 else if bt b 0 % 128 > 16 ∨ 1 + bt b 0 % 128 > b.size then (⟨#[]⟩, 0, false)
 else if bt b 0 ≥ 128 then (if (unp (body b)).2 = true then ((unp (body b)).1, 1 + bt b 0 % 128, true) else (⟨#[]⟩, 0, false))
 else if wordOk (body b) = true then (body b, 1 + bt b 0 % 128, true) else (⟨#[]⟩, 0, false)
theorem bt_head (x : Int) (b : ByteArray) (h0 : 0 ≤ x) (h1 : x < 256) : bt (strOfNums [x] ++ b) 0 = x := by
 have := bt_bytesOf (strOfNums [x] ++ b) 0
 rw [show ((0 : Nat) : Int) = 0 from rfl] at this
 rw [this]
 unfold bytesOf
 simp [strOfNums]
 omega
theorem head_size (x : Int) (b : ByteArray) : (strOfNums [x] ++ b).size = 1 + b.size := by
 rw [ba_size_append, son_size]; rfl
theorem body_head (x : Int) (a m : ByteArray) : (strOfNums [x] ++ a ++ m).extract 1 (1 + a.size) = a := by
 apply ba_ext
 have h1 : a.data.toList.length = a.size := by rw [Array.length_toList]; rfl
 have h2 : m.data.toList.length = m.size := by rw [Array.length_toList]; rfl
 have h3 : (⟨#[UInt8.ofNat x.toNat]⟩ : ByteArray).size = 1 := rfl
 simp [strOfNums]
 exact List.take_of_length_le (by omega)
theorem ba_assoc (a b c : ByteArray) : a ++ b ++ c = a ++ (b ++ c) := by apply ba_ext; simp
theorem rd_plain {a : ByteArray} (hp : packOk a) (m : ByteArray) : rdW (strOfNums [(a.size : Int)] ++ a ++ m) = (a, 1 + (a.size : Int), true) := by
 have h16 := hp.1
 have hs : (strOfNums [(a.size : Int)] ++ a ++ m).size = 1 + a.size + m.size := by rw [ba_size_append, head_size]
 have hb : bt (strOfNums [(a.size : Int)] ++ a ++ m) 0 = a.size := by rw [ba_assoc]; exact bt_head _ _ (by omega) (by omega)
 have hbd : body (strOfNums [(a.size : Int)] ++ a ++ m) = a := by
  unfold body
  rw [hb, show (1 + (a.size : Int) % 128).toNat = 1 + a.size by omega]
  exact body_head _ _ _
 unfold rdW
 rw [hbd, hb, hs, if_neg (by omega), if_neg (by omega), if_neg (by omega), if_pos (wordOk_of hp)]
 simp only [Prod.mk.injEq, true_and, and_true]
 omega
theorem rd_packed {a : ByteArray} (hp : packOk a) (m : ByteArray) : rdW (strOfNums [128 + ((packB a).size : Int)] ++ packB a ++ m) = (a, 1 + ((packB a).size : Int), true) := by
 have h14 := packB_small hp
 have hs : (strOfNums [128 + ((packB a).size : Int)] ++ packB a ++ m).size = 1 + (packB a).size + m.size := by rw [ba_size_append, head_size]
 have hb : bt (strOfNums [128 + ((packB a).size : Int)] ++ packB a ++ m) 0 = 128 + (packB a).size := by rw [ba_assoc]; exact bt_head _ _ (by omega) (by omega)
 have hbd : body (strOfNums [128 + ((packB a).size : Int)] ++ packB a ++ m) = packB a := by
  unfold body
  rw [hb, show (1 + (128 + ((packB a).size : Int)) % 128).toNat = 1 + (packB a).size by omega]
  exact body_head _ _ _
 unfold rdW
 rw [hbd, hb, hs, up_pack hp, if_neg (by omega), if_neg (by omega), if_pos (by omega), if_pos rfl]
 simp only [Prod.mk.injEq, true_and, and_true]
 omega
theorem rd_wr {a : ByteArray} (hp : packOk a) (m : ByteArray) : rdW (wrB a ++ m) = (a, ((wrB a).size : Int), true) := by
 unfold wrB
 split
 ·rw [rd_packed hp, head_size]; simp
 ·rw [rd_plain hp, head_size]; simp
theorem wrB_small {a : ByteArray} (hp : packOk a) : (wrB a).size ≤ 17 := by
 have h14 := packB_small hp
 have h16 := hp.1
 unfold wrB; split <;> (rw [head_size]; omega)
theorem body_size (b : ByteArray) (h : 1 + bt b 0 % 128 ≤ b.size) : ((body b).size : Int) = bt b 0 % 128 := by
 unfold body
 simp
 omega
def numHead (b : ByteArray) (r : Int × Int × Bool) : Prop :=
 (b.size = 0 → r.2.2 = false) ∧ (0 < b.size → (bt b 0 % 128 < 127 → r = (bt b 0 % 128, 1, true)) ∧ (bt b 0 % 128 = 127 → r.2.2 = true → r.1 > 16))
theorem toList_nil_size (b : ByteArray) : b.toList = ([] : List UInt8) ↔ b.size = 0 := by
 have h := toList_nil_iff b
 constructor
 ·intro h1
  rw [h1] at h
  exact of_decide_eq_true h.symm
 ·intro h1
  rw [decide_eq_true h1] at h
  exact eq_of_beq h
theorem extract_one (b : ByteArray) (h : 0 < b.size) : b.extract 0 1 = strOfNums [bt b 0] := by
 have hb := bt_byte b 0
 apply ba_eq_of_bt
 ·rw [extract_size _ _ (by omega), son_size]; rfl
 ·intro i hi
  rw [extract_size _ _ (by omega)] at hi
  rw [bt_extract _ _ _ hi, show i = 0 by omega, bt_son (by intro x hx; simp only [List.mem_singleton] at hx; rw [hx]; exact hb)]
  rfl
end Go.Proofs.Ytlpibelofcabhaa.Lm
