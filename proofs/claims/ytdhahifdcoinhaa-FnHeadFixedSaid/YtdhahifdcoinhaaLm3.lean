/- Plain laws of unpacking: bits out of bytes, signs out of bits, in one way. No program in sight. -/
import Derived.Test.YtdhahifdcoinhaaLm2
namespace Go.Proofs.Ytdhahifdcoinhaa.Lm
set_option linter.unusedSimpArgs false
set_option linter.unusedVariables false
open Go.RowKit Go.Proofs.YtdhahifdcoinhaaW.PrintWords Go.Proofs.YtdhahifdcoinhaaW.PrintLast Go.Proofs.YtdhahifdcoinhaaW.PrintMore

def Bits (l : List Int) : Prop := ∀ x ∈ l, x = 0 ∨ x = 1
theorem Bits.take {l : List Int} (h : Bits l) (n : Nat) : Bits (l.take n) := fun x hx => h x (List.mem_of_mem_take hx)
theorem Bits.drop {l : List Int} (h : Bits l) (n : Nat) : Bits (l.drop n) := fun x hx => h x (List.mem_of_mem_drop hx)
theorem foldl_acc (s : List Int) : ∀ a : Int, s.foldl (fun n b => 2 * n + b) a = a * 2 ^ s.length + numL s := by
  induction s with
  | nil => intro a; simp [numL]
  | cons x s ih =>
    intro a
    simp only [List.foldl_cons, List.length_cons]
    rw [ih, show numL (x :: s) = s.foldl (fun n b => 2 * n + b) (2 * 0 + x) from rfl, ih, Int.pow_succ, show 2 * 0 + x = x by omega, Int.add_mul]
    rw [show 2 * a * (2 ^ s.length : Int) = a * (2 ^ s.length * 2) by rw [Int.mul_comm 2 a, Int.mul_assoc, Int.mul_comm 2]]
    omega
theorem numL_cons (x : Int) (s : List Int) : numL (x :: s) = x * 2 ^ s.length + numL s := by
  rw [show numL (x :: s) = s.foldl (fun n b => 2 * n + b) (2 * 0 + x) from rfl, foldl_acc, show 2 * 0 + x = x by omega]
theorem numL_lt (s : List Int) (h : Bits s) : 0 ≤ numL s ∧ numL s < 2 ^ s.length := by
  have := numL_range s h s.length (Nat.le_refl _)
  rwa [List.take_length] at this
theorem bitAt_add (c y : Int) (m i : Nat) (h : i < m) : bitAt (c * 2 ^ m + y) i = bitAt y i := by
  unfold bitAt
  have e : (2 : Int) ^ m = 2 ^ (m - i - 1) * 2 * 2 ^ i := by
    rw [← Int.pow_succ, ← Int.pow_add]; congr 1; omega
  have hp : (0 : Int) < 2 ^ i := Int.pow_pos (by omega)
  rw [e, ← Int.mul_assoc, Int.add_comm, Int.add_mul_ediv_right _ _ (by omega), ← Int.mul_assoc]
  omega
theorem bitsL_add (c y : Int) (m n : Nat) (h : n ≤ m) : bitsL (c * 2 ^ m + y) n = bitsL y n := by
  induction n with
  | zero => rfl
  | succ n ih => rw [bitsL, bitsL, ih (by omega), bitAt_add _ _ _ _ (by omega)]
theorem bits_num (s : List Int) (h : Bits s) : bitsL (numL s) s.length = s := by
  induction s with
  | nil => rfl
  | cons x s ih =>
    have hs : Bits s := fun y hy => h y (List.mem_cons_of_mem _ hy)
    have hn := numL_lt s hs
    have hx := h x (List.mem_cons_self)
    rw [List.length_cons, bitsL, numL_cons, bitsL_add _ _ _ _ (Nat.le_refl _), ih hs]
    congr 1
    unfold bitAt
    rw [Int.add_comm, Int.add_mul_ediv_right _ _ (by have := Int.pow_pos (n := 2) (m := s.length) (by omega); omega), Int.ediv_eq_zero_of_lt hn.1 hn.2]
    omega
theorem num_bits8 : ∀ c : Fin 256, numL (bitsL (c.val : Int) 8) = (c.val : Int) := by decide +kernel
theorem num_bits (x : Int) (h0 : 0 ≤ x) (h1 : x < 256) : numL (bitsL x 8) = x := by
  obtain ⟨n, rfl⟩ := Int.eq_ofNat_of_zero_le h0
  exact num_bits8 ⟨n, by omega⟩
theorem bitsB_len (b : ByteArray) (n : Nat) : (bitsB b n).length = 8 * n := by
  induction n with
  | zero => rfl
  | succ n ih => rw [bitsB, List.length_append, ih, bitsL_length]; omega
theorem bitsB_bits (b : ByteArray) (n : Nat) : Bits (bitsB b n) := by
  induction n with
  | zero => intro x hx; cases hx
  | succ n ih =>
    intro x hx
    simp only [bitsB, List.mem_append] at hx
    rcases hx with hx | hx
    · exact ih x hx
    · exact bits01 _ _ x hx
theorem bytesL_get (l : List Int) (n m : Nat) (h : m < n) : (bytesL l n).getD m 0 = numL ((l.drop (8 * m)).take 8) := by
  induction n with
  | zero => omega
  | succ n ih =>
    rw [bytesL]
    by_cases e : m = n
    · subst e
      simp [List.getD_eq_getElem?_getD, bytesL_len]
    · have := ih (by omega)
      rw [List.getD_eq_getElem?_getD] at this ⊢
      rw [List.getElem?_append_left (by rw [bytesL_len]; omega), this]
theorem bytesL_bytes (l : List Int) (hl : Bits l) (n : Nat) : Bytes (bytesL l n) := by
  induction n with
  | zero => intro x hx; cases hx
  | succ n ih =>
    intro x hx
    simp only [bytesL, List.mem_append, List.mem_singleton] at hx
    rcases hx with hx | rfl
    · exact ih x hx
    · have h1 := numL_lt _ ((hl.drop (8 * n)).take 8)
      have h2 := pow8 ((l.drop (8 * n)).take 8).length (by rw [List.length_take]; omega)
      omega
theorem bits_bytes (l : List Int) (hl : Bits l) (n m : Nat) (hm : m ≤ n) (h : 8 * n ≤ l.length) : bitsB (strOfNums (bytesL l n)) m = l.take (8 * m) := by
  induction m with
  | zero => simp [bitsB]
  | succ m ih =>
    rw [bitsB, ih (by omega), bt_son (bytesL_bytes l hl n), bytesL_get _ _ _ (by omega)]
    have hs : ((l.drop (8 * m)).take 8).length = 8 := by rw [List.length_take, List.length_drop]; omega
    have := bits_num _ ((hl.drop (8 * m)).take 8)
    rw [hs] at this
    rw [this, show 8 * (m + 1) = 8 * m + 8 by omega, List.take_add]
theorem padBits_bits {l : List Int} (h : Bits l) : Bits (padBits l) := by
  intro x hx
  unfold padBits at hx
  simp only [List.mem_append, List.mem_replicate] at hx
  rcases hx with hx | ⟨_, rfl⟩
  · exact h x hx
  · exact .inr rfl
theorem bits_packB (a : ByteArray) : bitsB (packB a) (packB a).size = padBits (packBits a a.size) := by
  have h := padBits_len (packBits a a.size)
  rw [packB_size]
  unfold packB
  rw [bits_bytes _ (padBits_bits (pack01 a _)) _ _ (Nat.le_refl _) (by omega), List.take_of_length_le (by omega)]
theorem bytes_bitsB (b : ByteArray) (n : Nat) (h : n ≤ b.size) : bytesL (bitsB b n) n = (bytesOf b).take n := by
  induction n with
  | zero => rfl
  | succ n ih =>
    have hb := bt_byte b n
    rw [bytesL, bitsB]
    rw [bytesL_congr (l := bitsB b n ++ bitsL (bt b n) 8) (l' := bitsB b n) n (by rw [List.take_append_of_le_length (by rw [bitsB_len]; omega)]), ih (by omega)]
    rw [List.drop_append_of_le_length (by rw [bitsB_len]; omega), List.drop_of_length_le (by rw [bitsB_len]; omega), List.nil_append, List.take_of_length_le (l := bitsL (bt b n) 8) (by rw [bitsL_length]; omega), num_bits _ hb.1 hb.2]
    have hl : n < (bytesOf b).length := by rw [bytesOf_length]; omega
    rw [List.take_succ_eq_append_getElem hl, bt_bytesOf]
    simp [List.getD_eq_getElem?_getD, List.getElem?_eq_getElem hl]
theorem bytes_bits (b : ByteArray) : strOfNums (bytesL (bitsB b b.size) b.size) = b := by
  rw [bytes_bitsB b _ (Nat.le_refl _), List.take_of_length_le (by rw [bytesOf_length]; omega), son_bytesOf]

/-! ### signs out of bits -/
def enc (ps : List Int) : List Int := ps.flatMap signBits
theorem enc_cons (p : Int) (ps : List Int) : enc (p :: ps) = signBits p ++ enc ps := by simp [enc]
theorem num7 (l : List Int) (h : Bits l) (hl : 7 ≤ l.length) : 4 * numL (l.take 5) ≤ numL (l.take 7) ∧ numL (l.take 7) < 4 * numL (l.take 5) + 4 := by
  have e : l.take 7 = l.take 5 ++ (l.drop 5).take 2 := by rw [show (7 : Nat) = 5 + 2 from rfl, List.take_add]
  have h2 : ((l.drop 5).take 2).length = 2 := by rw [List.length_take, List.length_drop]; omega
  have hb : Bits ((l.drop 5).take 2) := (h.drop 5).take 2
  rw [e]
  obtain ⟨x, y, hxy⟩ : ∃ x y, (l.drop 5).take 2 = [x, y] := by
    match hz : (l.drop 5).take 2, h2 with
    | [x, y], _ => exact ⟨x, y, rfl⟩
  rw [hxy] at hb ⊢
  have hx := hb x (by simp)
  have hy := hb y (by simp)
  rw [show l.take 5 ++ [x, y] = (l.take 5 ++ [x]) ++ [y] by simp, numL_snoc, numL_snoc]
  omega
theorem num2 (l : List Int) (h : Bits l) (hl : 5 ≤ l.length) : 8 * numL (l.take 2) ≤ numL (l.take 5) ∧ numL (l.take 5) < 8 * numL (l.take 2) + 8 := by
  have e : l.take 5 = l.take 2 ++ (l.drop 2).take 3 := by rw [show (5 : Nat) = 2 + 3 from rfl, List.take_add]
  have h2 : ((l.drop 2).take 3).length = 3 := by rw [List.length_take, List.length_drop]; omega
  have hb : Bits ((l.drop 2).take 3) := (h.drop 2).take 3
  rw [e]
  obtain ⟨x, y, z, hxy⟩ : ∃ x y z, (l.drop 2).take 3 = [x, y, z] := by
    match hz : (l.drop 2).take 3, h2 with
    | [x, y, z], _ => exact ⟨x, y, z, rfl⟩
  rw [hxy] at hb ⊢
  have hx := hb x (by simp)
  have hy := hb y (by simp)
  have hz := hb z (by simp)
  rw [show l.take 2 ++ [x, y, z] = ((l.take 2 ++ [x]) ++ [y]) ++ [z] by simp, numL_snoc, numL_snoc, numL_snoc]
  omega
/-- One step of unpacking, as the program goes. -/
theorem dec_step7 (f : Nat) (l : List Int) (h : Bits l) (hA : 2 ≤ l.length ∧ numL (l.take 2) = 3) :
    (l.length < 7 → (decF (f + 1) l).1 = []) ∧ (7 ≤ l.length → 39 ≤ numL (l.take 7) - 72 → (decF (f + 1) l).1 = []) ∧
    (7 ≤ l.length → numL (l.take 7) - 72 < 39 → (decF (f + 1) l).1 = (numL (l.take 7) - 72) :: (decF f (l.drop 7)).1) ∧ (7 ≤ l.length → 24 ≤ numL (l.take 7) - 72) := by
  refine ⟨fun h7 => ?_, fun h7 h39 => ?_, fun h7 h39 => ?_, fun h7 => ?_⟩
  · rw [decF]
    by_cases h5 : l.length < 5
    · rw [if_pos h5]
    · have := num2 l h (by omega)
      rw [if_neg h5, if_neg (by omega), if_pos h7]
  · have := num2 l h (by omega)
    rw [decF, if_neg (by omega), if_neg (by omega), if_neg (by omega), if_pos (by omega)]
  · have := num2 l h (by omega)
    rw [decF, if_neg (by omega), if_neg (by omega), if_neg (by omega), if_neg (by omega)]
  · have := num2 l h (by omega)
    have := num7 l h (by omega)
    omega
theorem dec_step5 (f : Nat) (l : List Int) (h : Bits l) (hA : ¬ (2 ≤ l.length ∧ numL (l.take 2) = 3)) :
    (l.length < 5 → (decF (f + 1) l).1 = []) ∧ (5 ≤ l.length → (decF (f + 1) l).1 = numL (l.take 5) :: (decF f (l.drop 5)).1) ∧ (5 ≤ l.length → numL (l.take 5) < 24) := by
  have h3 : 5 ≤ l.length → numL (l.take 5) < 24 := fun h5 => by
    have h2 := num2 l h h5
    have h4 := numL_lt _ (h.take 2)
    rw [List.length_take, Nat.min_eq_left (by omega)] at h4
    have : numL (l.take 2) ≠ 3 := fun e => hA ⟨by omega, e⟩
    have : (2 : Int) ^ 2 = 4 := by decide
    omega
  refine ⟨fun h5 => ?_, fun h5 => ?_, h3⟩
  · rw [decF, if_pos h5]
  · have := h3 h5
    rw [decF, if_neg (by omega), if_pos this]
theorem dec_enc (f : Nat) : ∀ l : List Int, Bits l → l = enc (decF f l).1 ++ (decF f l).2 ∧ ∀ p ∈ (decF f l).1, 0 ≤ p ∧ p < 39 := by
  induction f with
  | zero => intro l _; exact ⟨by simp [decF, enc], fun p hp => by simp [decF] at hp⟩
  | succ f ih =>
    intro l hl
    rw [decF]
    by_cases h5 : l.length < 5
    · rw [if_pos h5]; exact ⟨by simp [enc], fun p hp => by simp at hp⟩
    · rw [if_neg h5]
      have hn5 := numL_lt _ (hl.take 5)
      by_cases h24 : numL (l.take 5) < 24
      · rw [if_pos h24]
        obtain ⟨i1, i2⟩ := ih (l.drop 5) (hl.drop 5)
        refine ⟨?_, ?_⟩
        · dsimp only
          rw [enc_cons, List.append_assoc, ← i1]
          unfold signBits
          rw [if_pos h24]
          have := bits_num _ (hl.take 5)
          rw [List.length_take, Nat.min_eq_left (by omega)] at this
          rw [this, List.take_append_drop]
        · intro p hp
          dsimp only at hp
          rcases List.mem_cons.1 hp with rfl | hp
          · exact ⟨hn5.1, by omega⟩
          · exact i2 p hp
      · rw [if_neg h24]
        by_cases h7 : l.length < 7
        · rw [if_pos h7]; exact ⟨by simp [enc], fun p hp => by simp at hp⟩
        · rw [if_neg h7]
          have hn7 := num7 l hl (by omega)
          by_cases h39 : numL (l.take 7) - 72 ≥ 39
          · rw [if_pos h39]; exact ⟨by simp [enc], fun p hp => by simp at hp⟩
          · rw [if_neg h39]
            obtain ⟨i1, i2⟩ := ih (l.drop 7) (hl.drop 7)
            refine ⟨?_, ?_⟩
            · dsimp only
              rw [enc_cons, List.append_assoc, ← i1]
              unfold signBits
              rw [if_neg (by omega), show 96 + (numL (l.take 7) - 72) - 24 = numL (l.take 7) by omega]
              have := bits_num _ (hl.take 7)
              rw [List.length_take, Nat.min_eq_left (by omega)] at this
              rw [this, List.take_append_drop]
            · intro p hp
              dsimp only at hp
              rcases List.mem_cons.1 hp with rfl | hp
              · exact ⟨by omega, by omega⟩
              · exact i2 p hp
theorem sign5 : ∀ p : Fin 24, numL (bitsL (p.val : Int) 5) = (p.val : Int) := by decide +kernel
theorem sign7 : ∀ p : Fin 15, numL ((bitsL (96 + (24 + (p.val : Int)) - 24) 7).take 5) ≥ 24 ∧ numL (bitsL (96 + (24 + (p.val : Int)) - 24) 7) = 96 + (p.val : Int) := by decide +kernel
theorem dec_of_enc (ps : List Int) : ∀ (f : Nat) (r : List Int), (∀ p ∈ ps, 0 ≤ p ∧ p < 39) → ps.length ≤ f → (∀ g, decF g r = ([], r)) → decF f (enc ps ++ r) = (ps, r) := by
  induction ps with
  | nil => intro f r _ _ hr; simpa [enc] using hr f
  | cons p ps ih =>
    intro f r hp hf hr
    obtain ⟨f, rfl⟩ : ∃ g, f = g + 1 := ⟨f - 1, by simp at hf; omega⟩
    have h0 := hp p (by simp)
    have ih' := ih f r (fun q hq => hp q (by simp [hq])) (by simp at hf; omega) hr
    rw [enc_cons, List.append_assoc, decF]
    by_cases h24 : p < 24
    · have e : signBits p = bitsL p 5 := by unfold signBits; rw [if_pos h24]
      have hl : (bitsL p 5).length = 5 := bitsL_length _ _
      have hn : numL (bitsL p 5) = p := by
        obtain ⟨n, rfl⟩ := Int.eq_ofNat_of_zero_le h0.1
        exact sign5 ⟨n, by omega⟩
      rw [e, List.take_append_of_le_length (by omega), List.take_of_length_le (by omega), hn, if_neg (by simp [hl]), if_pos h24]
      rw [List.drop_append_of_le_length (by omega), List.drop_of_length_le (by omega), List.nil_append, ih']
    · have e : signBits p = bitsL (96 + p - 24) 7 := by unfold signBits; rw [if_neg h24]
      have hl : (bitsL (96 + p - 24) 7).length = 7 := bitsL_length _ _
      have hn : numL ((bitsL (96 + p - 24) 7).take 5) ≥ 24 ∧ numL (bitsL (96 + p - 24) 7) = 96 + p - 24 := by
        obtain ⟨n, hn⟩ := Int.eq_ofNat_of_zero_le (show 0 ≤ p - 24 by omega)
        have := sign7 ⟨n, by omega⟩
        rw [show p = 24 + (n : Int) by omega]
        refine ⟨this.1, ?_⟩
        rw [this.2]; dsimp only; omega
      rw [e, List.take_append_of_le_length (by omega), if_neg (by simp [hl]; omega), if_neg (by omega), if_neg (by simp [hl]), List.take_append_of_le_length (by omega), List.take_of_length_le (by omega), hn.2, if_neg (by omega)]
      rw [List.drop_append_of_le_length (by omega), List.drop_of_length_le (by omega), List.nil_append, ih']
      congr 2
      omega
theorem ones_stuck : ∀ j : Fin 8, ∀ g : Fin 2, decF g.val (List.replicate j.val 1) = ([], List.replicate j.val 1) := by decide +kernel
theorem dec_ones (j : Nat) (hj : j < 8) (g : Nat) : decF g (List.replicate j 1) = ([], List.replicate j 1) := by
  cases g with
  | zero => rfl
  | succ g =>
    have h := ones_stuck ⟨j, hj⟩ ⟨1, by omega⟩
    dsimp only at h
    rw [decF] at h ⊢
    have hr : numL ((List.replicate j (1 : Int)).take 5) ≥ 24 ∨ j < 5 := by
      have : j = 0 ∨ j = 1 ∨ j = 2 ∨ j = 3 ∨ j = 4 ∨ j = 5 ∨ j = 6 ∨ j = 7 := by omega
      rcases this with h | h | h | h | h | h | h | h <;> subst h <;> decide
    by_cases h5 : j < 5
    · rw [if_pos (by simpa using h5)]
    · rw [if_neg (by simpa using h5), if_neg (by omega)]
      by_cases h7 : j < 7
      · rw [if_pos (by simpa using h7)]
      · have : j = 7 := by omega
        subst this
        rw [if_neg (by decide), if_pos (by decide)]
/-- The places of a word's signs. -/
def places (a : ByteArray) : Nat → List Int
  | 0 => []
  | n + 1 => places a n ++ [place (bt a n)]
theorem places_len (a : ByteArray) (n : Nat) : (places a n).length = n := by
  induction n with
  | zero => rfl
  | succ n ih => simp [places, ih]
theorem packBits_enc (a : ByteArray) (n : Nat) : packBits a n = enc (places a n) := by
  induction n with
  | zero => rfl
  | succ n ih => rw [packBits, places, ih]; simp [enc]
theorem places_ok {a : ByteArray} (hp : packOk a) (n : Nat) (hn : n ≤ a.size) : ∀ p ∈ places a n, 0 ≤ p ∧ p < 39 := by
  induction n with
  | zero => intro p hp; cases hp
  | succ n ih =>
    intro p hq
    simp only [places, List.mem_append, List.mem_singleton] at hq
    rcases hq with hq | rfl
    · exact ih (by omega) p hq
    · exact hp.2 n (by omega)
theorem dec_pack {a : ByteArray} (hp : packOk a) (f : Nat) (hf : a.size ≤ f) :
    decF f (padBits (packBits a a.size)) = (places a a.size, List.replicate ((8 - (packBits a a.size).length % 8) % 8) 1) := by
  unfold padBits
  rw [packBits_enc]
  exact dec_of_enc _ _ _ (places_ok hp _ (Nat.le_refl _)) (by rw [places_len]; exact hf) (dec_ones _ (by omega))
theorem place_inj_all : ∀ c : Fin 256, place (c.val : Int) = -1 ∨ signAt (place (c.val : Int)) = (c.val : Int) := by decide +kernel
theorem signAt_place (c : Int) (h0 : 0 ≤ c) (h1 : c < 256) (h : 0 ≤ place c) : signAt (place c) = c := by
  obtain ⟨n, rfl⟩ := Int.eq_ofNat_of_zero_le h0
  rcases place_inj_all ⟨n, by omega⟩ with h2 | h2
  · dsimp only at h2; omega
  · exact h2
theorem places_get (a : ByteArray) (n i : Nat) (h : i < n) : (places a n).getD i 0 = place (bt a i) := by
  induction n with
  | zero => omega
  | succ n ih =>
    rw [places, List.getD_eq_getElem?_getD]
    by_cases e : i = n
    · subst e; rw [List.getElem?_append_right (by rw [places_len]; omega), places_len]; simp
    · rw [List.getElem?_append_left (by rw [places_len]; omega), ← List.getD_eq_getElem?_getD, ih (by omega)]
theorem places_signs {a : ByteArray} (hp : packOk a) : strOfNums ((places a a.size).map signAt) = a := by
  have hb : Bytes ((places a a.size).map signAt) := by
    intro x hx
    obtain ⟨p, _, rfl⟩ := List.mem_map.1 hx
    exact bt_byte _ _
  apply ba_eq_of_bt
  · rw [son_size, List.length_map, places_len]
  · intro i hi
    rw [son_size, List.length_map, places_len] at hi
    rw [bt_son hb]
    have h1 := places_get a a.size i hi
    have hl : i < (places a a.size).length := by rw [places_len]; exact hi
    rw [List.getD_eq_getElem?_getD, List.getElem?_eq_getElem hl] at h1
    rw [List.getD_eq_getElem?_getD, List.getElem?_map, List.getElem?_eq_getElem hl]
    simp only [Option.map_some, Option.getD_some] at h1 ⊢
    rw [h1]
    exact signAt_place _ (bt_byte a i).1 (bt_byte a i).2 (hp.2 i hi).1
theorem pack_inj {a b : ByteArray} (ha : packOk a) (hb : packOk b) (h : packB a = packB b) : a = b := by
  have e : padBits (packBits a a.size) = padBits (packBits b b.size) := by rw [← bits_packB, ← bits_packB, h]
  have d1 := dec_pack ha (a.size + b.size) (by omega)
  have d2 := dec_pack hb (a.size + b.size) (by omega)
  rw [e, d2] at d1
  have := congrArg Prod.fst d1
  dsimp only at this
  rw [← places_signs ha, ← places_signs hb, this]
theorem pack_empty {a : ByteArray} (ha : packOk a) : (packB a).size = 0 ↔ a.size = 0 := by
  rw [packB_size]
  constructor
  · intro h
    have h1 := padBits_len (packBits a a.size)
    cases hn : a.size with
    | zero => rfl
    | succ n =>
      rw [hn] at h h1
      rw [packBits] at h h1
      have : 5 ≤ (signBits (place (bt a n))).length := by unfold signBits; split <;> simp [bitsL_length]
      simp only [List.length_append] at h1
      omega
  · intro h
    rw [h]; simp [packBits, padBits]
theorem toList_nil_iff (a : ByteArray) : (a.toList == ([] : List UInt8)) = decide (a.size = 0) := by
  rw [toList_data]
  by_cases h : a.size = 0
  · rw [decide_eq_true h]; simp; exact Array.eq_empty_of_size_eq_zero h
  · rw [decide_eq_false h]; simp; intro h2; apply h; change a.data.size = 0; rw [h2]; rfl
end Go.Proofs.Ytdhahifdcoinhaa.Lm
