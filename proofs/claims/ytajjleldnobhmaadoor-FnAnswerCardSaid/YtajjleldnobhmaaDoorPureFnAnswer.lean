/- The plain law of FnAnswer: for every input that fits, what the printed functions reckon is true. No condition but the row's own. -/
import Derived.Test.YtajjleldnobhmaaDoorLm0
import Derived.Test.YtajjleldnobhmaaDoorLm1
import Derived.Test.YtajjleldnobhmaaDoorLm2
import Derived.Test.YtajjleldnobhmaaDoorLm3
import Derived.Test.YtajjleldnobhmaaDoorPFnAnswerx3
namespace Go.Proofs.YtajjleldnobhmaaDoor.Pure
open Go.RowKit Go.Proofs.YtajjleldnobhmaaDoor.PFnAnswer Go.Proofs.YtajjleldnobhmaaDoorW.PrintWords Go.Proofs.YtajjleldnobhmaaDoorW.PrintLast Go.Proofs.YtajjleldnobhmaaDoorW.PrintMore Go.Proofs.YtajjleldnobhmaaDoor.Lm
set_option linter.unusedVariables false
set_option linter.unusedSimpArgs false

theorem pick_ev (l : List Int) (p n : Int) (hl : Bytes l) (hll : l.length ≤ 2000) (hp : 0 ≤ p) (hp1 : p ≤ 1000000000) (hn : 1 ≤ n) :
    EvQ (fun k => spec_l6Rd_pick.f k l p n) (fun r => 0 ≤ r.1 ∧ r.1 < n ∧ r.2 = p + 1) := by
  have e1 : wrap64 (p + 1) = p + 1 := w64_0 _ (by omega) (by omega)
  have e2 : wrap64 (p + 1 - 1) = p := by rw [show p + 1 - 1 = p by omega]; exact w64_0 _ (by omega) (by omega)
  unfold spec_l6Rd_pick.f
  simp only [e1]
  refine EvQ.neg (by omega) ?_
  refine EvQ.step (fun k => by rw [spec_l6Rd_pick.j0]) ?_
  simp only [e2]
  by_cases h0 : (l.length : Int) = 0
  · refine EvQ.pos (by simpa using h0) (EvQ.now ⟨by omega, by omega, rfl⟩)
  · refine EvQ.neg (by simpa using h0) ?_
    by_cases h1 : p < (l.length : Int)
    · refine EvQ.pos h1 (EvQ.pos hp (EvQ.neg (by omega) (EvQ.now ?_)))
      have hb := rd_bytes hl p
      rw [w64_0 (rd l p) hb.1 (by omega)]
      have := tmod_range (rd l p) n hb.1 (by omega)
      exact ⟨this.1, this.2, rfl⟩
    · have hlen : 0 < (l.length : Int) := by omega
      have hm1 := tmod_range p (l.length : Int) hp hlen
      have e7 : wrap64 (p * 7) = p * 7 := w64_0 _ (by omega) (by omega)
      have e3 : wrap64 (p * 7 + 3) = p * 7 + 3 := w64_0 _ (by omega) (by omega)
      have hm2 := tmod_range (p * 7 + 3) (l.length : Int) (by omega) hlen
      refine EvQ.neg h1 (EvQ.neg h0 ?_)
      simp only [e7, e3]
      refine EvQ.pos hm1.1 (EvQ.pos hm1.2 (EvQ.pos hm2.1 (EvQ.pos hm2.2 (EvQ.neg (by omega) (EvQ.now ?_)))))
      have ha := rd_bytes hl (Int.tmod p (l.length : Int))
      have hb := rd_bytes hl (Int.tmod (p * 7 + 3) (l.length : Int))
      have hd := tdiv_range p (l.length : Int) hp hlen
      generalize rd l (Int.tmod p (l.length : Int)) = a at *
      generalize rd l (Int.tmod (p * 7 + 3) (l.length : Int)) = b at *
      generalize Int.tdiv p (l.length : Int) = d at *
      rw [w64_0 a ha.1 (by omega), w64_0 b hb.1 (by omega), w64_0 d hd.1 (by omega), w64_0 (a * 131) (by omega) (by omega), w64_0 (b * 1117) (by omega) (by omega),
        w64_0 (p * 29) (by omega) (by omega), w64_0 (d * 53) (by omega) (by omega), w64_0 (a * 131 + b * 1117) (by omega) (by omega),
        w64_0 (a * 131 + b * 1117 + p * 29) (by omega) (by omega), w64_0 (a * 131 + b * 1117 + p * 29 + d * 53) (by omega) (by omega)]
      have hx : 0 ≤ a * 131 + b * 1117 + p * 29 + d * 53 := by omega
      have hx1 : a * 131 + b * 1117 + p * 29 + d * 53 < 2 ^ 62 := by omega
      generalize a * 131 + b * 1117 + p * 29 + d * 53 = x at *
      have hy := tdiv_range x 64 hx (by omega)
      rw [w64_0 (Int.tdiv x 64) hy.1 (by omega)]
      have := tmod_range _ n (xor_i64_nonneg x (Int.tdiv x 64) hx hx1 hy.1 (by omega)) (by omega)
      exact ⟨this.1, this.2, rfl⟩

theorem open_ev (l : List Int) (hl : Bytes l) :
    EvQ (fun _ => spec_l6Open.f l) (fun r => Bytes r.1 ∧ r.1.length ≤ 2000 ∧ r.2 = 0) := by
  unfold spec_l6Open.f
  refine EvQ.ite (fun h => EvQ.pos (by omega) (EvQ.now ⟨hl.take _, by simp; omega, rfl⟩)) (fun h => EvQ.now ⟨hl, (by omega : l.length ≤ 2000), rfl⟩)

theorem of_ev (m : List Int) (p : Int) (xs : List ByteArray) (hm : Bytes m) (hm1 : m.length ≤ 2000) (hp : 0 ≤ p) (hp1 : p ≤ 1000000000) (hx : 1 ≤ xs.length) :
    EvQ (fun k => spec_l6Rd_of.f k m p xs) (fun r => r.1 ∈ xs ∧ r.2 = p + 1) := by
  unfold spec_l6Rd_of.f
  refine EvQ.bind (pick_ev m p (xs.length : Int) hm hm1 hp hp1 (by omega)) ?_
  rintro ⟨c, q⟩ ⟨hc, hc1, rfl⟩
  dsimp only at *
  refine EvQ.pos hc (EvQ.pos hc1 (EvQ.now ⟨?_, rfl⟩))
  unfold rdOf
  rw [List.getD_eq_getElem?_getD, List.getElem?_eq_getElem (by omega : c.toNat < xs.length)]
  exact List.getElem_mem _
theorem l72Path_ev (m : List Int) (p : Int) (hm : Bytes m) (hm1 : m.length ≤ 2000) (hp : 0 ≤ p) (hp1 : p ≤ 1000000000) : EvQ (fun k => spec_l72Path.f k m p) (fun r => r.2 = p + 1) := by
  unfold spec_l72Path.f
  refine EvQ.bind (of_ev m p _ hm hm1 hp hp1 (by simp)) ?_
  rintro ⟨c, q⟩ ⟨_, rfl⟩
  exact EvQ.now rfl
theorem l72Text_l0 (m : List Int) (hm : Bytes m) (hm1 : m.length ≤ 2000) (d : Nat) : ∀ (s : ByteArray) (p : Int), s.size + d ≤ 16 → 0 ≤ p → p + d ≤ 900000000 →
    EvQ (fun k => spec_l72Text.l0 k s (d : Int) m p) (fun r => r.1.size ≤ 16 ∧ 0 ≤ r.2 ∧ r.2 ≤ p + d) := by
  induction d with
  | zero =>
    intro s p hs hp hp1
    exact EvQ.step (fun k => by rw [spec_l72Text.l0]) (EvQ.neg (by omega) (EvQ.now ⟨by omega, hp, by omega⟩))
  | succ d ih =>
    intro s p hs hp hp1
    have e : wrap64 (((d + 1 : Nat) : Int) - 1) = (d : Int) := by rw [w64_0 _ (by omega) (by omega)]; omega
    refine EvQ.step (fun k => by rw [spec_l72Text.l0]) ?_
    simp only [e]
    refine EvQ.pos (by omega) (EvQ.bind (of_ev m p _ hm hm1 hp (by omega) (by simp)) ?_)
    rintro ⟨c, q⟩ ⟨hc, rfl⟩
    have hc1 : c.size = 1 := by
      simp only [List.mem_cons, List.not_mem_nil, or_false] at hc
      rcases hc with rfl | rfl | rfl | rfl | rfl | rfl <;> rfl
    dsimp only
    refine EvQ.pos (by omega) ((ih (s ++ c) (p + 1) (by rw [ba_size_append]; omega) (by omega) (by omega)).mono ?_)
    rintro r ⟨h1, h2, h3⟩
    exact ⟨h1, h2, by omega⟩
theorem l72Text_ev (m : List Int) (p : Int) (hm : Bytes m) (hm1 : m.length ≤ 2000) (hp : 0 ≤ p) (hp1 : p ≤ 800000000) : EvQ (fun k => spec_l72Text.f k m p) (fun r => r.1.size ≤ 16 ∧ 0 ≤ r.2 ∧ r.2 ≤ p + 17) := by
  unfold spec_l72Text.f
  refine EvQ.bind (pick_ev m p 17 hm hm1 hp (by omega) (by omega)) ?_
  rintro ⟨c, q⟩ ⟨hc, hc1, rfl⟩
  dsimp only at *
  obtain ⟨n, rfl⟩ := Int.eq_ofNat_of_zero_le hc
  refine (l72Text_l0 m hm hm1 n (⟨#[]⟩ : ByteArray) (p + 1) (by rw [ba_size_nil]; omega) (by omega) (by omega)).mono ?_
  rintro r ⟨h1, h2, h3⟩
  exact ⟨h1, h2, by omega⟩

theorem drawEndAnswer_ev (l : List Int) (hl : Bytes l) : EvQ (fun k => spec_DrawEndAnswer.f k l) (fun r => r.2.size ≤ 16) := by
  unfold spec_DrawEndAnswer.f
  refine EvQ.bind (open_ev l hl) ?_
  rintro ⟨m, p⟩ ⟨hm, hm1, rfl⟩
  refine EvQ.bind (l72Path_ev m 0 hm hm1 (by omega) (by omega)) ?_
  rintro ⟨s, q⟩ rfl
  refine EvQ.bind (l72Text_ev m _ hm hm1 (by omega) (by omega)) ?_
  rintro ⟨t, q⟩ ⟨h1, _, _⟩
  exact EvQ.now h1

def dec (n : Nat) : ByteArray := ⟨(Lib.decDigits n).toArray⟩
theorem decDigits_len (n : Nat) : 1 ≤ (Lib.decDigits n).length ∧ (Lib.decDigits n).length ≤ n + 1 ∧ ((Lib.decDigits n).length = 1 ↔ n < 10) := by
  induction n using Nat.strongRecOn with
  | _ n ih =>
    rw [Lib.decDigits]
    by_cases h : n < 10
    · rw [dif_pos h]
      simp [h]
    · rw [dif_neg h]
      have := ih (n / 10) (by omega)
      simp only [List.length_append, List.length_singleton]
      omega
theorem dec_size (n : Nat) : (dec n).size = (Lib.decDigits n).length := by
  unfold dec; show (Lib.decDigits n).toArray.size = _; simp
theorem l6Dec_ev (n : Nat) (hn : n ≤ 1000000000) : Ev (fun k => spec_l6Dec.f k (n : Int)) (dec n) := by
  induction n using Nat.strongRecOn with
  | _ n ih =>
    refine EvQ.ev (EvQ.step (fun k => by rw [spec_l6Dec.f]) (EvQ.neg (by omega) (EvQ.neg (by omega) ?_)))
    by_cases h : n < 10
    · refine EvQ.pos (by omega) (EvQ.now ?_)
      unfold dec
      rw [Lib.decDigits, dif_pos h, w64_0 _ (by omega) (by omega), show (48 + (n : Int)) % 256 = ((48 + n : Nat) : Int) by omega]
      rfl
    · have e1 : wrap64 (Int.tdiv (n : Int) 10) = ((n / 10 : Nat) : Int) := by rw [Int.tdiv_eq_ediv_of_nonneg (by omega), w64_0 _ (by omega) (by omega)]; omega
      have e2 : wrap64 (48 + Int.tmod (n : Int) 10) % 256 = ((48 + n % 10 : Nat) : Int) := by rw [Int.tmod_eq_emod_of_nonneg (by omega), w64_0 _ (by omega) (by omega)]; omega
      simp only [e1, e2, Option.bind_some]
      have hs := dec_size (n / 10)
      have hl := decDigits_len (n / 10)
      refine EvQ.neg (by omega) (EvQ.bindE (ih (n / 10) (by omega) (by omega)) (EvQ.pos (by rw [son_size]; simp only [List.length_singleton]; omega) (EvQ.now ?_)))
      unfold dec
      rw [show Lib.decDigits n = Lib.decDigits (n / 10) ++ [UInt8.ofNat (48 + n % 10)] by rw [Lib.decDigits, dif_neg h]]
      rw [show strOfNums [((48 + n % 10 : Nat) : Int)] = (⟨#[UInt8.ofNat (48 + n % 10)]⟩ : ByteArray) from rfl]
      generalize UInt8.ofNat (48 + n % 10) = u
      apply ba_ext
      simp
theorem l21Up_l0 (s : ByteArray) (hs : s.size ≤ 1000000000) (d : Nat) : ∀ i : Nat, s.size - i = d → i ≤ s.size →
    Ev (fun k => spec_l21Up.l0 k s (strOfNums (((bytesOf s).map upc).take i)) i) (upS s) := by
  induction d with
  | zero =>
    intro i hd hi
    refine EvQ.ev (EvQ.step (fun k => by rw [spec_l21Up.l0]) (EvQ.neg (by omega) (EvQ.now ?_)))
    unfold upS
    rw [List.take_of_length_le (by rw [List.length_map, bytesOf_length]; omega)]
  | succ d ih =>
    intro i hd hi
    have hb := bt_byte s i
    have hi2 := ih (i + 1) (by omega) (by omega)
    have e2 : wrap64 ((i : Int) + 1) = ((i + 1 : Nat) : Int) := by rw [w64_0 _ (by omega) (by omega)]; omega
    have hl : ((bytesOf s).map upc).length = s.size := by rw [List.length_map, bytesOf_length]
    have et : ((bytesOf s).map upc).take (i + 1) = ((bytesOf s).map upc).take i ++ [upc (bt s i)] := by
      rw [List.take_add_one, List.getElem?_map, List.getElem?_eq_getElem (by rw [bytesOf_length]; omega)]
      simp only [Option.map_some, Option.toList_some]
      rw [bt_bytesOf, List.getD_eq_getElem?_getD, List.getElem?_eq_getElem (by rw [bytesOf_length]; omega)]
      rfl
    rw [et, son_append] at hi2
    have hsz : ∀ x : Int, (strOfNums (((bytesOf s).map upc).take i)).size + (strOfNums [x]).size ≤ 9223372036854775807 := by
      intro x
      rw [son_size, son_size, List.length_take]
      simp only [List.length_singleton]
      omega
    refine EvQ.ev (EvQ.step (fun k => by rw [spec_l21Up.l0]) ?_)
    simp only [e2, Option.bind_some]
    refine EvQ.pos (by omega) (EvQ.pos (by omega) (EvQ.ite (fun h1 => EvQ.ite (fun h2 => EvQ.pos (hsz _) (EvQ.of_ev ?_ rfl)) (fun h2 => EvQ.pos (hsz _) (EvQ.of_ev ?_ rfl))) (fun h1 => EvQ.pos (hsz _) (EvQ.of_ev ?_ rfl))))
    · have : upc (bt s i) = (bt s i + 1) % 256 := by unfold upc; rw [if_pos (by omega)]; omega
      rw [← this]; exact hi2
    · have : upc (bt s i) = bt s i := by unfold upc; rw [if_neg (by omega)]
      rw [this] at hi2; exact hi2
    · have : upc (bt s i) = bt s i := by unfold upc; rw [if_neg (by omega)]
      rw [this] at hi2; exact hi2
theorem l21Up_ev (s : ByteArray) (hs : s.size ≤ 1000000000) : Ev (fun k => spec_l21Up.f k s) (upS s) := by
  unfold spec_l21Up.f
  exact l21Up_l0 s hs s.size 0 (by omega) (by omega)
/-- What is answered. -/
def ans (p s : ByteArray) : ByteArray × ByteArray :=
  if p.toList = ([47, 101, 99, 104, 111] : List UInt8) then (⟨#[48]⟩, s)
  else if p.toList = ([47, 117, 112] : List UInt8) then (⟨#[48]⟩, upS s)
  else if p.toList = ([47, 108, 101, 110] : List UInt8) then (⟨#[48]⟩, dec s.size)
  else (⟨#[49, 50]⟩, ⟨#[]⟩)
theorem spec_EndAnswer_ev (p s : ByteArray) (hs : s.size ≤ 1000000000) : Ev (fun k => spec_EndAnswer.f k p s) (ans p s) := by
  unfold spec_EndAnswer.f ans
  refine EvQ.ev (EvQ.ite (fun h => EvQ.now (by rw [if_pos h])) (fun h => EvQ.ite (fun h1 => ?_) (fun h1 => EvQ.ite (fun h2 => ?_) (fun h2 => EvQ.now ?_))))
  · exact EvQ.bindE (l21Up_ev s hs) (EvQ.now (by rw [if_neg h, if_pos h1]))
  · exact EvQ.bindE (l6Dec_ev s.size hs) (EvQ.now (by rw [if_neg h, if_neg h1, if_pos h2]))
  · rw [if_neg h, if_neg h1, if_neg h2]
theorem upS_size (s : ByteArray) : (upS s).size = s.size := by unfold upS; rw [son_size, List.length_map, bytesOf_length]

theorem impl_EndAnswer_eq (p s : ByteArray) (hs : s.size < 100) : impl_EndAnswer.f p s = some (ans p s) := by
  unfold impl_EndAnswer.f ans
  rw [if_pos (by omega)]
  simp only [beq_iff_eq]
  by_cases h : p.toList = ([47, 101, 99, 104, 111] : List UInt8)
  · rw [if_pos h, if_pos h]
  · rw [if_neg h, if_neg h]
    by_cases h1 : p.toList = ([47, 117, 112] : List UInt8)
    · rw [if_pos h1, if_pos h1]
    · rw [if_neg h1, if_neg h1]
      by_cases h2 : p.toList = ([47, 108, 101, 110] : List UInt8)
      · rw [if_pos h2, if_pos h2]
        unfold strconv_Itoa.f
        rw [if_pos (by omega)]
        rfl
      · rw [if_neg h2, if_neg h2]
theorem impl_EndAnswer_ev (p s : ByteArray) (hs : s.size < 100) : Ev (fun _ => impl_EndAnswer.f p s) (ans p s) := ⟨0, fun _ _ => impl_EndAnswer_eq p s hs⟩

theorem FnAnswer : laws_FnAnswer.Pure := by
  intro l0 _ _ hw0
  have hl := bytes_of_wf hw0
  apply EvQ.tt
  unfold laws_FnAnswer.f
  refine EvQ.ite (fun _ => EvQ.now rfl) (fun _ => EvQ.bind (drawEndAnswer_ev l0 hl) ?_)
  rintro ⟨p, s⟩ hs
  dsimp only at hs ⊢
  refine EvQ.bindE (spec_EndAnswer_ev p s (by omega)) (EvQ.bindE (impl_EndAnswer_ev p s (by omega)) (EvQ.pos rfl ?_))
  have e : ((ans p s).2.toList != (ans p s).2.toList) = false := by simp
  rw [e]
  refine EvQ.step (fun k => by rw [laws_FnAnswer.j0]) (EvQ.neg (by decide) ?_)
  unfold ans
  by_cases h : p.toList = ([47, 101, 99, 104, 111] : List UInt8)
  · simp only [if_pos h]
    exact EvQ.pos (by rw [toList_data]) (EvQ.now (by simp))
  · simp only [if_neg h]
    by_cases h1 : p.toList = ([47, 117, 112] : List UInt8)
    · simp only [if_pos h1]
      exact EvQ.pos (by rw [toList_data]) (EvQ.now (by rw [upS_size]; simp))
    · simp only [if_neg h1]
      by_cases h2 : p.toList = ([47, 108, 101, 110] : List UInt8)
      · simp only [if_pos h2]
        refine EvQ.pos (by rw [toList_data]) (EvQ.now ?_)
        have h3 := (decDigits_len s.size).2.2
        rw [dec_size]
        by_cases h4 : s.size < 10
        · have h7 : decide ((s.size : Int) < 10) = true := decide_eq_true (by omega)
          rw [h3.2 h4, h7]; rfl
        · have h5 : (Lib.decDigits s.size).length ≠ 1 := fun h6 => h4 (h3.1 h6)
          have h6 : (((Lib.decDigits s.size).length : Int) == 1) = false := by rw [beq_eq_false_iff_ne]; omega
          have h7 : decide ((s.size : Int) < 10) = false := decide_eq_false (by omega)
          rw [h6, h7]
          rfl
      · simp only [if_neg h2]
        exact EvQ.pos (by rw [toList_data]) (EvQ.now (by rw [toList_data]; rfl))

end Go.Proofs.YtajjleldnobhmaaDoor.Pure
