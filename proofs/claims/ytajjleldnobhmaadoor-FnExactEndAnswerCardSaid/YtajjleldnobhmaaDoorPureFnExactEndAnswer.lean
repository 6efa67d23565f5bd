/- The plain law of FnExactEndAnswer: for every input that fits, what the printed functions reckon is true. No condition but the row's own. -/
import Derived.Test.YtajjleldnobhmaaDoorLm0
import Derived.Test.YtajjleldnobhmaaDoorLm1
import Derived.Test.YtajjleldnobhmaaDoorLm2
import Derived.Test.YtajjleldnobhmaaDoorLm3
import Derived.Test.YtajjleldnobhmaaDoorPFnExactEndAnswerx2
namespace Go.Proofs.YtajjleldnobhmaaDoor.Pure
open Go.RowKit Go.Proofs.YtajjleldnobhmaaDoor.PFnExactEndAnswer Go.Proofs.YtajjleldnobhmaaDoorW.PrintWords Go.Proofs.YtajjleldnobhmaaDoorW.PrintLast Go.Proofs.YtajjleldnobhmaaDoorW.PrintMore Go.Proofs.YtajjleldnobhmaaDoor.Lm
set_option linter.unusedVariables false
set_option linter.unusedSimpArgs false

def dec (n : Nat) : ByteArray := ⟨(Lib.decDigits n).toArray⟩
theorem decDigits_len (n : Nat) : 1 ≤ (Lib.decDigits n).length ∧ (Lib.decDigits n).length ≤ n + 1 ∧ ((Lib.decDigits n).length = 1 ↔ n < 10) := by
  induction n using Nat.strongRecOn with
  | _ n ih =>
    rw [Lib.decDigits]
    by_cases h : n < 10
    · rw [dif_pos h]
      simp [h]
    · rw [dif_neg h]
      have := ih (n / 10) (by omega)
      simp only [List.length_append, List.length_singleton]
      omega
theorem dec_size (n : Nat) : (dec n).size = (Lib.decDigits n).length := by
  unfold dec; show (Lib.decDigits n).toArray.size = _; simp
theorem l6Dec_ev (n : Nat) (hn : n ≤ 1000000000) : Ev (fun k => spec_l6Dec.f k (n : Int)) (dec n) := by
  induction n using Nat.strongRecOn with
  | _ n ih =>
    refine EvQ.ev (EvQ.step (fun k => by rw [spec_l6Dec.f]) (EvQ.neg (by omega) (EvQ.neg (by omega) ?_)))
    by_cases h : n < 10
    · refine EvQ.pos (by omega) (EvQ.now ?_)
      unfold dec
      rw [Lib.decDigits, dif_pos h, w64_0 _ (by omega) (by omega), show (48 + (n : Int)) % 256 = ((48 + n : Nat) : Int) by omega]
      rfl
    · have e1 : wrap64 (Int.tdiv (n : Int) 10) = ((n / 10 : Nat) : Int) := by rw [Int.tdiv_eq_ediv_of_nonneg (by omega), w64_0 _ (by omega) (by omega)]; omega
      have e2 : wrap64 (48 + Int.tmod (n : Int) 10) % 256 = ((48 + n % 10 : Nat) : Int) := by rw [Int.tmod_eq_emod_of_nonneg (by omega), w64_0 _ (by omega) (by omega)]; omega
      simp only [e1, e2, Option.bind_some]
      have hs := dec_size (n / 10)
      have hl := decDigits_len (n / 10)
      refine EvQ.neg (by omega) (EvQ.bindE (ih (n / 10) (by omega) (by omega)) (EvQ.pos (by rw [son_size]; simp only [List.length_singleton]; omega) (EvQ.now ?_)))
      unfold dec
      rw [show Lib.decDigits n = Lib.decDigits (n / 10) ++ [UInt8.ofNat (48 + n % 10)] by rw [Lib.decDigits, dif_neg h]]
      rw [show strOfNums [((48 + n % 10 : Nat) : Int)] = (⟨#[UInt8.ofNat (48 + n % 10)]⟩ : ByteArray) from rfl]
      generalize UInt8.ofNat (48 + n % 10) = u
      apply ba_ext
      simp
theorem l21Up_l0 (s : ByteArray) (hs : s.size ≤ 1000000000) (d : Nat) : ∀ i : Nat, s.size - i = d → i ≤ s.size →
    Ev (fun k => spec_l21Up.l0 k s (strOfNums (((bytesOf s).map upc).take i)) i) (upS s) := by
  induction d with
  | zero =>
    intro i hd hi
    refine EvQ.ev (EvQ.step (fun k => by rw [spec_l21Up.l0]) (EvQ.neg (by omega) (EvQ.now ?_)))
    unfold upS
    rw [List.take_of_length_le (by rw [List.length_map, bytesOf_length]; omega)]
  | succ d ih =>
    intro i hd hi
    have hb := bt_byte s i
    have hi2 := ih (i + 1) (by omega) (by omega)
    have e2 : wrap64 ((i : Int) + 1) = ((i + 1 : Nat) : Int) := by rw [w64_0 _ (by omega) (by omega)]; omega
    have hl : ((bytesOf s).map upc).length = s.size := by rw [List.length_map, bytesOf_length]
    have et : ((bytesOf s).map upc).take (i + 1) = ((bytesOf s).map upc).take i ++ [upc (bt s i)] := by
      rw [List.take_add_one, List.getElem?_map, List.getElem?_eq_getElem (by rw [bytesOf_length]; omega)]
      simp only [Option.map_some, Option.toList_some]
      rw [bt_bytesOf, List.getD_eq_getElem?_getD, List.getElem?_eq_getElem (by rw [bytesOf_length]; omega)]
      rfl
    rw [et, son_append] at hi2
    have hsz : ∀ x : Int, (strOfNums (((bytesOf s).map upc).take i)).size + (strOfNums [x]).size ≤ 9223372036854775807 := by
      intro x
      rw [son_size, son_size, List.length_take]
      simp only [List.length_singleton]
      omega
    refine EvQ.ev (EvQ.step (fun k => by rw [spec_l21Up.l0]) ?_)
    simp only [e2, Option.bind_some]
    refine EvQ.pos (by omega) (EvQ.pos (by omega) (EvQ.ite (fun h1 => EvQ.ite (fun h2 => EvQ.pos (hsz _) (EvQ.of_ev ?_ rfl)) (fun h2 => EvQ.pos (hsz _) (EvQ.of_ev ?_ rfl))) (fun h1 => EvQ.pos (hsz _) (EvQ.of_ev ?_ rfl))))
    · have : upc (bt s i) = (bt s i + 1) % 256 := by unfold upc; rw [if_pos (by omega)]; omega
      rw [← this]; exact hi2
    · have : upc (bt s i) = bt s i := by unfold upc; rw [if_neg (by omega)]
      rw [this] at hi2; exact hi2
    · have : upc (bt s i) = bt s i := by unfold upc; rw [if_neg (by omega)]
      rw [this] at hi2; exact hi2
theorem l21Up_ev (s : ByteArray) (hs : s.size ≤ 1000000000) : Ev (fun k => spec_l21Up.f k s) (upS s) := by
  unfold spec_l21Up.f
  exact l21Up_l0 s hs s.size 0 (by omega) (by omega)
/-- What is answered. -/
def ans (p s : ByteArray) : ByteArray × ByteArray :=
  if p.toList = ([47, 101, 99, 104, 111] : List UInt8) then (⟨#[48]⟩, s)
  else if p.toList = ([47, 117, 112] : List UInt8) then (⟨#[48]⟩, upS s)
  else if p.toList = ([47, 108, 101, 110] : List UInt8) then (⟨#[48]⟩, dec s.size)
  else (⟨#[49, 50]⟩, ⟨#[]⟩)
theorem spec_EndAnswer_ev (p s : ByteArray) (hs : s.size ≤ 1000000000) : Ev (fun k => spec_EndAnswer.f k p s) (ans p s) := by
  unfold spec_EndAnswer.f ans
  refine EvQ.ev (EvQ.ite (fun h => EvQ.now (by rw [if_pos h])) (fun h => EvQ.ite (fun h1 => ?_) (fun h1 => EvQ.ite (fun h2 => ?_) (fun h2 => EvQ.now ?_))))
  · exact EvQ.bindE (l21Up_ev s hs) (EvQ.now (by rw [if_neg h, if_pos h1]))
  · exact EvQ.bindE (l6Dec_ev s.size hs) (EvQ.now (by rw [if_neg h, if_neg h1, if_pos h2]))
  · rw [if_neg h, if_neg h1, if_neg h2]
theorem upS_size (s : ByteArray) : (upS s).size = s.size := by unfold upS; rw [son_size, List.length_map, bytesOf_length]

theorem impl_EndAnswer_big (p s : ByteArray) (hs : s.size ≤ 1000000000) : impl_EndAnswer.f p s = some (ans p s) := by
  unfold impl_EndAnswer.f ans
  rw [if_pos (by omega)]
  simp only [beq_iff_eq]
  by_cases h : p.toList = ([47, 101, 99, 104, 111] : List UInt8)
  · rw [if_pos h, if_pos h]
  · rw [if_neg h, if_neg h]
    by_cases h1 : p.toList = ([47, 117, 112] : List UInt8)
    · rw [if_pos h1, if_pos h1]
    · rw [if_neg h1, if_neg h1]
      by_cases h2 : p.toList = ([47, 108, 101, 110] : List UInt8)
      · rw [if_pos h2, if_pos h2]
        unfold strconv_Itoa.f
        rw [if_pos (by omega)]
        rfl
      · rw [if_neg h2, if_neg h2]
theorem impl_EndAnswer_evb (p s : ByteArray) (hs : s.size ≤ 1000000000) : Ev (fun _ => impl_EndAnswer.f p s) (ans p s) := ⟨0, fun _ _ => impl_EndAnswer_big p s hs⟩
theorem FnExactEndAnswer : laws_FnExactEndAnswer.Pure := by
  intro a b
  intros
  apply EvQ.tt
  unfold laws_FnExactEndAnswer.f
  refine EvQ.ite (fun _ => EvQ.now rfl) (fun h1 => EvQ.ite (fun _ => EvQ.now rfl) (fun h2 => ?_))
  exact EvQ.bindE (spec_EndAnswer_ev a b (by omega)) (EvQ.bindE (impl_EndAnswer_evb a b (by omega)) (EvQ.pos rfl (EvQ.pos rfl (EvQ.now rfl))))

end Go.Proofs.YtajjleldnobhmaaDoor.Pure
