-- WRITTEN BY a turned print (wip/tools of the prover's repo)
import Derived.Test.YtlpibelofcabhaaPFnEndNewx0
import Derived.Test.YtlpibelofcabhaaPFnEndNewx7
import Derived.Test.YtlpibelofcabhaaPFnEndNewx9
import Derived.Test.YtlpibelofcabhaaPFnEndNewx10
import Derived.Test.YtlpibelofcabhaaPFnEndNewx11
namespace Go.Proofs.Ytlpibelofcabhaa.PFnEndNew
open Go.RowKit Go.Proofs.YtlpibelofcabhaaW.PrintWords Go.Proofs.YtlpibelofcabhaaW.PrintLast Go.Proofs.YtlpibelofcabhaaW.PrintMore Go.Proofs.Ytlpibelofcabhaa.Lm
attribute [local go_sem] max2_int min2_int max_two min_two max_three min_three max_four min_four   -- for this text's walks alone
set_option linter.unusedVariables false
set_option linter.unusedSimpArgs false

/-! ### impl_bitRow_number: function 166 -/
-- by hand
set_option maxHeartbeats 4000000 in
set_option maxRecDepth 100000 in
theorem number_calls (A0 : Option Addr) (c0 : Nat) (l0 : List Int) (a1 a2 : Int) (w : World) (hr0 : Kd.C (Kd.int .u8) w A0 l0.length l0) (hc0 : l0.length ≤ c0)
    (ha : 0 ≤ a1) (hb : 0 ≤ a2) (hb8 : a2 ≤ 8) (hab : a1 + a2 ≤ l0.length) (hl : l0.length ≤ 1000000) (h01 : ∀ x ∈ l0, x = 0 ∨ x = 1) :
    Calls Try.prog 166 #[.slice A0 l0.length c0, .int .i64 a1, .int .i64 a2] w fun e w' => e = .returned (.int .i64 (numL ((l0.drop a1.toNat).take a2.toNat))) ∧ Drawn0 w w' := by
  obtain ⟨a, rfl⟩ := Int.eq_ofNat_of_zero_le ha
  obtain ⟨b, rfl⟩ := Int.eq_ofNat_of_zero_le hb
  obtain ⟨i0, hi, _, hsz, _⟩ := info_parts info5
  obtain ⟨A1, hcut, hA, hC⟩ := print_mid_of (P := Try.prog) (Value.int .u8) 0 196 5 .i64 .i64 Try.underlying196 hi hsz A0 c0 l0 (a : Int) ((a : Int) + (b : Int)) ha (by omega) (by omega) hc0
  have es : ((l0.take ((a : Int) + (b : Int)).toNat).drop (a : Int).toNat) = (l0.drop a).take b := by
    rw [show ((a : Int) + (b : Int)).toNat = a + b by omega, show (a : Int).toNat = a by omega, List.drop_take]
    congr 1
    omega
  have hrd := hA w (Kd.reads_of_C hr0)
  rw [es] at hcut hrd
  rw [show (a : Int).toNat = a by omega, show (b : Int).toNat = b by omega]
  have hs01 : ∀ x ∈ (l0.drop a).take b, x = 0 ∨ x = 1 := fun x hx => h01 x (List.mem_of_mem_drop (List.mem_of_mem_take hx))
  have hlen : ((l0.drop a).take b).length = b := by rw [List.length_take, List.length_drop]; omega
  generalize (l0.drop a).take b = s at *
  subst hlen
  clear hA hC hi hsz hr0
  have H01 := Aside0.mk hs01
  have HR : Aside0 (Kd.C (Kd.int .u8) w A1 s.length s) := Aside0.mk (Kd.C_of_reads (h1 := fun _ => rfl) hrd)
  clear hs01 hrd h01 es
  go_enter Try.func166, Try.ntmps166
  go_wp2
  go_loopg [7, 17] (s.length) (fun kq v7 v17 w' => ∃ (j : Nat), v7 = .int .i64 (numL (s.take j)) ∧ v17 = .int .i64 j ∧ Aside0 (kq + j = s.length) ∧ Drawn0 w w')
  case atStart => exact ⟨0, rfl, rfl, ⟨by omega⟩, Drawn0.refl _⟩
  case round =>
    obtain ⟨j, rfl, rfl, HK, ⟨m1, rfl⟩⟩ := hrel
    have hk := HK.out
    by_cases hj : j < s.length
    · have hr := numL_range s H01.out j (by omega)
      have hp := pow8 j (by omega)
      have h2 := rd_01 s H01.out j hj
      have HS := Aside0.mk (or_spelled (numL (s.take j)) (rd s j) hr.1 (by omega) h2)
      have HT := Aside0.mk (numL_take s j hj)
      obtain ⟨ad, e1, hcell⟩ := Kd.at_int HR.out (j : Int) (by omega) (by omega)
      subst e1
      rw [show ((j : Int)).toNat = j by omega] at hcell
      generalize hnj : numL (s.take j) = nj at *
      generalize hrj : rd s j = rj at *
      have h0 : (0 : Int) ≤ (j : Int) := by omega
      have h1 : (j : Int) < (s.length : Int) := by omega
      have hrj0 : 0 ≤ rj := by omega
      have hrj1 : rj ≤ 1 := by omega
      have hnj0 : 0 ≤ nj := by omega
      have hnj1 : nj ≤ 10000 := by omega
      cases gk with
      | zero => omega
      | succ k1 =>
      clear hr hp h2 hnj hrj hk
      go_wp2
      go_roundg k1
      case measure => omega
      case rel => exact ⟨j + 1, by rw [HT.out, ← HS.out], by go_num, ⟨by have := HK.out; omega⟩, by repeat (first | exact Drawn0.refl _ | apply Drawn0.step)⟩
    · have e : j = s.length := by omega
      subst e
      go_wp2
      go_ret
      exact ⟨by first | rfl | (simp; done) | (rw [List.take_length]), by repeat (first | exact Drawn0.refl _ | apply Drawn0.step)⟩

/-! ### impl_WordPack: function 164 -/
-- by hand
def impl_WordPack.f (k : Nat) (a0 : ByteArray) : Option (ByteArray) := (impl_WordOk.f k a0).bind fun b => if b = true then (if packOk a0 then some (packB a0) else none) else some ⟨#[]⟩
theorem impl_WordPack.mono : ∀ a0 k, LeO (impl_WordPack.f k a0) (impl_WordPack.f (k + 1) a0) := by
  intro a0 k
  unfold impl_WordPack.f
  exact LeO.bind (impl_WordOk.mono _ _) (fun _ => LeO.refl _)
set_option maxHeartbeats 4000000 in
set_option maxRecDepth 100000 in
theorem impl_WordPack.calls (k : Nat) (a0 : ByteArray) (r : ByteArray) (w : World) (h : impl_WordPack.f k a0 = some r) :
    Calls Try.prog 164 #[.string a0] w fun e w' => e = .returned (.string r) ∧ Below w.heap.size w w' := by
  unfold impl_WordPack.f at h
  obtain ⟨b, hA, h⟩ := Option.bind_eq_some_iff.mp h
  cases b with
  | false =>
    simp only [if_neg (show ¬ (false = true) by decide), Option.some.injEq] at h
    subst h
    go_enter Try.func164, Try.ntmps164
    go_wp2_with (go_at_call 122; refine (impl_WordOk.calls k a0 false _ hA).mono ?_; rintro e w' ⟨rfl, ⟨nd, rfl⟩⟩)
    go_ret
    exact ⟨rfl, (Drawn0.step (Drawn0.refl w) nd).below⟩
  | true =>
    rw [if_pos rfl] at h
    by_cases hp : packOk a0
    · rw [if_pos hp] at h
      simp only [Option.some.injEq] at h
      have HP := Aside0.mk hp
      have HR := Aside0.mk h
      have HA := Aside0.mk hA
      have hsz := hp.1
      clear h hA hp
      go_enter Try.func164, Try.ntmps164
      go_wp2_with (go_at_call 122; refine (impl_WordOk.calls k a0 true _ HA.out).mono ?_; rintro e w' ⟨rfl, ⟨nd, rfl⟩⟩)
      go_loopg [13] (a0.size) (fun kq v13 w' => ∃ (x : Int) (v' : Value), v13 = .int .i64 x ∧ Aside0 (kq + x.toNat = a0.size ∧ 0 ≤ x) ∧ Aside0 (w'.heap[w.heap.size]? = some (.cells #[v'] 196 (0, 0))) ∧ Aside0 (Kd.R (Kd.int .u8) 5 w' w.heap.size (fun _ => True) v' (packBits a0 x.toNat)) ∧ Aside0 (Below w.heap.size w w'))
      case atStart => exact ⟨0, .slice none 0 0, rfl, ⟨by omega, by omega⟩, ⟨by simpa using heap_alloc_new (w.drewN nd) _⟩, ⟨Kd.R_nil _ _ _ _ _⟩, ⟨below_alloc (pw_below_drewN (Below.refl _ _) nd) _⟩⟩
      case round =>
        obtain ⟨x, v', rfl, HK, HG, HO, HB⟩ := hrel
        obtain ⟨hk, h0⟩ := HK.out
        by_cases hj : x < a0.size
        · have hpl := HP.out.2 x.toNat (by omega)
          rw [show ((x.toNat : Nat) : Int) = x by omega] at hpl
          cases gk with
          | zero => omega
          | succ k1 =>
          have hle : (packBits a0 x.toNat).length ≤ 1000 := by have := packBits_len a0 x.toNat; omega
          generalize hpe : place (bt a0 x) = p at hpl
          have HPE := Aside0.mk hpe
          clear hpe hk
          obtain ⟨hp0, hp1⟩ := hpl
          have hx := bt_at a0 x
          have q0 := eq_true h0
          have q1 := eq_true hj
          clear h0 hj
          by_cases hp : p < 24
          · go_wp2_with (first | (go_at_call 153; refine (strings_IndexByte.calls _ (bt a0 x) p _ (by rw [← HPE.out]; rfl)).mono ?_; rintro e w' ⟨rfl, ⟨nd, rfl⟩⟩) | (go_at_call 165; refine (add_calls w.heap.size p 5 (packBits a0 x.toNat) v' w _ (pw_below_drewN HB.out _) (blk_drewN HG.out _) (Nat.le_refl _) (Kd.R_drewN HO.out _) (by omega) (by omega) (by omega) (by omega) (by omega)).mono ?_; rintro e w2 ⟨rfl, hb2, v2, hg2, ho2⟩; have N1 := Aside0.mk hb2; have N2 := Aside0.mk hg2; have N3 := Aside0.mk ho2; clear hb2 hg2 ho2))
            go_roundg k1
            case measure => have := HK.out.1; omega
            case rel =>
              have h0 := of_eq_true q0
              have hj := of_eq_true q1
              have h64 : wrap64 (x + 1) = x + 1 := by unfold wrap64; omega
              refine ⟨x + 1, v2, by rw [h64], ⟨by have := HK.out.1; omega, by omega⟩, N2, ⟨?_⟩, N1⟩
              · have h9 := N3.out
                rw [show (x + 1).toNat = x.toNat + 1 by omega, packBits, show ((x.toNat : Nat) : Int) = x by omega, HPE.out]
                unfold signBits
                rw [if_pos hp]
                exact h9
          · go_wp2_with (first | (go_at_call 153; refine (strings_IndexByte.calls _ (bt a0 x) p _ (by rw [← HPE.out]; rfl)).mono ?_; rintro e w' ⟨rfl, ⟨nd, rfl⟩⟩) | (go_at_call 165; refine (add_calls w.heap.size (96 + p - 24) 7 (packBits a0 x.toNat) v' w _ (pw_below_drewN HB.out _) (blk_drewN HG.out _) (Nat.le_refl _) (Kd.R_drewN HO.out _) (by omega) (by omega) (by omega) (by omega) (by omega)).mono ?_; rintro e w2 ⟨rfl, hb2, v2, hg2, ho2⟩; have N1 := Aside0.mk hb2; have N2 := Aside0.mk hg2; have N3 := Aside0.mk ho2; clear hb2 hg2 ho2))
            go_roundg k1
            case measure => have := HK.out.1; omega
            case rel =>
              have h0 := of_eq_true q0
              have hj := of_eq_true q1
              have h64 : wrap64 (x + 1) = x + 1 := by unfold wrap64; omega
              refine ⟨x + 1, v2, by rw [h64], ⟨by have := HK.out.1; omega, by omega⟩, N2, ⟨?_⟩, N1⟩
              · have h9 := N3.out
                rw [show (x + 1).toNat = x.toNat + 1 by omega, packBits, show ((x.toNat : Nat) : Int) = x by omega, HPE.out]
                unfold signBits
                rw [if_neg (by omega)]
                exact h9
        · have e : x.toNat = a0.size := by omega
          have HO1 := HO.out
          rw [e] at HO1
          have HO' := Aside0.mk HO1
          have hle : (packBits a0 a0.size).length ≤ 1000 := by have := packBits_len a0 a0.size; omega
          clear HO HO1 e hk h0
          have h01 := pack01 a0 a0.size
          generalize hP : packBits a0 a0.size = ys0 at *
          have HP0 := Aside0.mk hP
          have H01 := Aside0.mk h01
          clear hP h01
          go_wp2
          go_loopg [] (8) (fun kq w' => ∃ (v' : Value) (ys : List Int), Aside0 ((8 - ys.length % 8) % 8 ≤ kq ∧ kq + ys.length ≤ ys0.length + 8) ∧ Aside0 (padBits ys = padBits ys0) ∧ Aside0 (∀ x ∈ ys, x = 0 ∨ x = 1) ∧ Aside0 (w'.heap[w.heap.size]? = some (.cells #[v'] 196 (0, 0))) ∧ Aside0 (Kd.R (Kd.int .u8) 5 w' w.heap.size (fun _ => True) v' ys) ∧ Aside0 (Below w.heap.size w w'))
          case atStart => exact ⟨v', ys0, ⟨by omega, by omega⟩, ⟨rfl⟩, H01, HG, HO', HB⟩
          case round =>
            clear HG HO' HB HK hj
            obtain ⟨v', ys, HK, HPY, H01y, HG, HO, HB⟩ := hrel
            obtain ⟨hk, hkl⟩ := HK.out
            obtain ⟨A, c, hv, hlc, hC⟩ := Kd.R_reads HO.out
            subst hv
            have hc : wr.cell? ⟨w.heap.size, 0, none⟩ = some (.slice A ys.length c) := (blk_cell HG.out 0).trans rfl
            have hf := blk_frozen HG.out 0
            by_cases hm : ys.length % 8 = 0
            · have t1 : ((((ys.length : Nat) : Int) % 8) != 0) = false := by rw [bne_eq_false_iff_eq]; omega
              have t2 : ((((ys.length : Nat) : Int) % 8) == 0) = true := by rw [beq_iff_eq]; omega
              have hle : ys.length ≤ 1010 := by omega
              have HCr := Aside0.mk hC
              have HF := Aside0.mk (show r = strOfNums (bytesL ys (ys.length / 8)) by
                rw [← HR.out]; unfold packB; rw [HP0.out, ← HPY.out, pad_done ys hm])
              clear hC
              go_wp2
              obtain ⟨wl, hwl⟩ : ∃ wl : World, wl = wr := ⟨_, rfl⟩
              subst hwl
              go_loopg [6, 7] (ys.length / 8) (fun kq v6 v7 w' => ∃ (m : Nat), v7 = .int .i64 (8 * (m : Int)) ∧ Aside0 (kq + m = ys.length / 8) ∧ Aside0 (Kd.R (Kd.int .u8) 5 w' wl.heap.size (fun _ => True) v6 (bytesL ys m)) ∧ Aside0 (Below wl.heap.size wl w'))
              case atStart => exact ⟨0, rfl, ⟨by omega⟩, ⟨Kd.R_nil _ _ _ _ _⟩, ⟨Below.refl _ _⟩⟩
              case round =>
                clear hc hf t1 t2
                obtain ⟨m, rfl, HK3, HO6, HB3⟩ := hrel
                have hk3 := HK3.out
                obtain ⟨Ao, co, hv6, _, _⟩ := Kd.R_reads HO6.out
                subst hv6
                have hcw : wr.cell? ⟨w.heap.size, 0, none⟩ = some (.slice A ys.length c) := (blk_cell (blk_below HG.out HB3.out) 0).trans rfl
                by_cases h3 : 8 * (m : Int) < (ys.length : Int)
                · cases gk with
                  | zero => omega
                  | succ k1 =>
                  have hnr := numL_range ((ys.drop (8 * m)).take 8) (fun z hz => H01y.out z (List.mem_of_mem_drop (List.mem_of_mem_take hz))) ((ys.drop (8 * m)).take 8).length (Nat.le_refl _)
                  rw [List.take_length] at hnr
                  have hn8 := pow8 ((ys.drop (8 * m)).take 8).length (by rw [List.length_take]; omega)
                  have hnl : numL (List.take (8 : Int).toNat (List.drop (8 * (m : Int)).toNat ys)) = numL ((ys.drop (8 * m)).take 8) := by
                    rw [show (8 * (m : Int)).toNat = 8 * m by omega]; rfl
                  have hbl : (bytesL ys m).length ≤ 1000 := by rw [bytesL_len]; omega
                  generalize hpp : numL ((ys.drop (8 * m)).take 8) = p at hnr hnl
                  have HPP := Aside0.mk hpp
                  have HNL := Aside0.mk hnl
                  have hp0 : 0 ≤ p := hnr.1
                  have hp1 : p ≤ 255 := by omega
                  have hb9 := HB3.out.size
                  clear hpp hnl hnr hn8 hk3
                  go_wp2_with (first | (go_at_call 166; refine (number_calls A c ys (8 * (m : Int)) 8 _ (Kd.C_below HCr.out HB3.out) hlc (by omega) (by omega) (by omega) (by omega) (by omega) H01y.out).mono ?_; rw [HNL.out]; rintro e w' ⟨rfl, ⟨nd, rfl⟩⟩) | (at_builtin; refine Kd.R_append (Kd.int .u8) (w0 := wl) wl.heap.size rfl (.tmp 40) (.tmp 45) 22 5 (.int .u8 0) 1 rfl Try.underlying22 info5 rfl (by decide) (by omega) (.slice Ao (bytesL ys m).length co) (bytesL ys m) p [.int .u8 p] (fun _ => True) (fun _ => False) rfl rfl ?aP (fun _ hk => hk.elim) ?aF ?aO ?aB ?aS ?aL ?_; (case aP => exact rfl); (case aB => exact pw_below_drewN HB3.out _); (case aF => exact (fun _ _ => trivial)); (case aO => exact Kd.R_drewN HO6.out _); (case aS => exact hb9); (case aL => omega); intro v138 w22 ho hb hg hat; have N1 := Aside0.mk hb; have N2 := Aside0.mk ho; clear ho hb hg hat))
                  go_roundg k1
                  case measure => have := HK3.out; omega
                  case rel =>
                    refine ⟨m + 1, by rw [show 8 * ((m + 1 : Nat) : Int) = 8 * (m : Int) + 8 by omega], ⟨by have := HK3.out; omega⟩, ⟨?_⟩, N1⟩
                    have h9 := N2.out
                    rw [← HPP.out] at h9
                    exact h9
                · have hcv := own_string (P := Try.prog) Try.underlying22 Try.underlying5 Try.underlying9 (Kd.own_of_R HO6.out)
                  have em := Aside0.mk (show m = ys.length / 8 by omega)
                  clear hk3
                  go_wp2
                  go_ret
                  have h9 := HF.out
                  rw [← em.out] at h9
                  subst h9
                  refine ⟨by first | rfl | (simp; done) | (simp <;> rfl), ?_⟩
                  exact below_then HB.out HB.out.size HB3.out
            · have t1 : ((((ys.length : Nat) : Int) % 8) != 0) = true := by rw [bne_iff_ne]; omega
              have t2 : ((((ys.length : Nat) : Int) % 8) == 0) = false := by rw [beq_eq_false_iff_ne]; omega
              cases gk with
              | zero => omega
              | succ k1 =>
              go_wp2_with (go_at_call 165; refine (add_calls w.heap.size 1 1 ys _ w _ HB.out HG.out (Nat.le_refl _) HO.out (by omega) (by omega) (by omega) (by omega) (by omega)).mono ?_; rintro e w2 ⟨rfl, hb2, v2, hg2, ho2⟩; have N1 := Aside0.mk hb2; have N2 := Aside0.mk hg2; have N3 := Aside0.mk ho2; clear hb2 hg2 ho2)
              go_roundg k1
              case measure => omega
              case rel => exact ⟨v2, ys ++ [1], ⟨by simp; omega, by simp; omega⟩, ⟨by rw [pad_step ys hm]; exact HPY.out⟩, ⟨by intro z hz; simp at hz; rcases hz with hz | hz; exact H01y.out z hz; exact .inr hz⟩, N2, ⟨by have h9 := N3.out; rw [bitsL_one] at h9; exact h9⟩, N1⟩
    · rw [if_neg hp] at h
      cases h

/-! ### impl_WordWrite: function 149 -/
-- thin
def impl_WordWrite.f (k : Nat) (a0 : ByteArray) : Option (ByteArray) := (impl_WordOk.f k a0).bind fun t298 => (if t298 = true then ((impl_WordPack.f k a0).bind fun t299 => (if (t299.size : Int) < (a0.size : Int) then ((impl_NumWrite.f k (t299.size : Int) 7 1).bind fun t300 => (if t300.size + t299.size ≤ 9223372036854775807 then (some (t300 ++ t299)) else (none))) else ((impl_NumWrite.f k (a0.size : Int) 7 0).bind fun t301 => (if t301.size + a0.size ≤ 9223372036854775807 then (some (t301 ++ a0)) else (none))))) else (some (⟨#[]⟩ : ByteArray)))
theorem impl_WordWrite.mono : ∀ a0 k, LeO (impl_WordWrite.f k a0) (impl_WordWrite.f (k + 1) a0) := by
 intro a0 k
 unfold impl_WordWrite.f
 have m0 := @impl_NumWrite.mono
 have m1 := @impl_WordOk.mono
 have m2 := @impl_WordPack.mono
 exact zm
set_option maxHeartbeats 8000000 in
set_option maxRecDepth 100000 in
theorem impl_WordWrite.calls (k : Nat) (a0 : ByteArray) (r : ByteArray) (w : World) (h : impl_WordWrite.f k a0 = some r) :
  Calls Try.prog 149 #[.string a0] w fun e w' => e = .returned (.string r) ∧ Below w.heap.size w w' := by
 have HB := Aside0.mk (Below.refl w.heap.size w)
 have H : ((impl_WordOk.f k a0).bind fun t298 => (if t298 = true then ((impl_WordPack.f k a0).bind fun t299 => (if (t299.size : Int) < (a0.size : Int) then ((impl_NumWrite.f k (t299.size : Int) 7 1).bind fun t300 => (if t300.size + t299.size ≤ 9223372036854775807 then (some (t300 ++ t299)) else (none))) else ((impl_NumWrite.f k (a0.size : Int) 7 0).bind fun t301 => (if t301.size + a0.size ≤ 9223372036854775807 then (some (t301 ++ a0)) else (none))))) else (some (⟨#[]⟩ : ByteArray)))) = some r := h
 clear h
 obtain ⟨t298, A2, H⟩ := ob H
 (try dsimp only at H)
 by_cases c3 : t298 = true
 ·subst c3
  rw [if_pos rfl] at H
  obtain ⟨t299, A4, H⟩ := ob H
  (try dsimp only at H)
  have HC5 := Aside0.mk H
  clear H
  go_enter Try.func149, Try.ntmps149
  go_upto_if 13 with (first | ((with_reducible refine gq 122 rfl ?_); refine gl (some 5) Try.func122 #[.string a0] ?_; (with_reducible refine (impl_WordOk.calls k a0 true _ A2.out).mono ?_); rintro e w' ⟨rfl, ⟨nd, rfl⟩⟩; refine ⟨_, rfl, ?_⟩) | ((with_reducible refine gq 164 rfl ?_); refine gl (some 8) Try.func164 #[.string a0] ?_; (with_reducible refine (impl_WordPack.calls k a0 t299 _ A4.out).mono ?_); rintro e w6 ⟨rfl, hb⟩; refine ⟨_, rfl, ?_⟩; replace HB := Aside0.mk (below_step (zb HB) hb); (try clear hb)))
  (try simp only [Act.put, s1, s2, s3])
  have H := HC5.out
  clear HC5
  replace H := sp H
  rcases H with ⟨c7, H⟩ | ⟨c7, H⟩
  ·skip
   have c7b0 := decide_eq_true c7
   have c7b1 := decide_eq_true (Int.ofNat_lt.mp c7)
   clear c7
   (first | rw [c7b0] | rw [c7b1] | rw [c7b2] | (simp only [i64_w, i32_w]; rw [c7b0]) | skip)
   obtain ⟨t300, A8, H⟩ := ob H
   (try dsimp only at H)
   by_cases c9 : t300.size + t299.size ≤ 9223372036854775807
   ·rw [if_pos c9] at H
    have c9b0 := eq_true c9
    have c9b1 := decide_eq_true c9
    try have c9b2 : (9223372036854775807 < t300.size + t299.size) = False := eq_false (Nat.not_lt.2 c9)
    obtain rfl := Option.some.inj H
    go_wp2_with (first | ((with_reducible refine gq 112 rfl ?_); refine gl (some 16) Try.func112 #[.int .i64 (t299.size : Int), .int .i64 7, .int .i64 1] ?_; (with_reducible refine (impl_NumWrite.calls k (t299.size : Int) 7 1 t300 _ A8.out).mono ?_); rintro e w10 ⟨rfl, hb⟩; refine ⟨_, rfl, ?_⟩; replace HB := Aside0.mk (below_step (zb HB) hb); (try clear hb)))
    go_ret
    exact ⟨ze, zb HB⟩
   ·rw [if_neg c9] at H
    exact absurd H (by simp)
  ·skip
   have c7b0 := decide_eq_false c7
   have c7b1 := decide_eq_false (fun h => c7 (Int.ofNat_lt.mpr h))
   clear c7
   (first | rw [c7b0] | rw [c7b1] | rw [c7b2] | (simp only [i64_w, i32_w]; rw [c7b0]) | skip)
   obtain ⟨t301, A11, H⟩ := ob H
   (try dsimp only at H)
   replace H := sp H
   rcases H with ⟨c12, H⟩ | ⟨c12, H⟩
   ·skip
    have c12b0 := eq_true c12
    have c12b1 := decide_eq_true c12
    try have c12b2 : (9223372036854775807 < t301.size + a0.size) = False := eq_false (Nat.not_lt.2 c12)
    obtain rfl := Option.some.inj H
    go_wp2_with (first | ((with_reducible refine gq 112 rfl ?_); refine gl (some 21) Try.func112 #[.int .i64 (a0.size : Int), .int .i64 7, .int .i64 0] ?_; (with_reducible refine (impl_NumWrite.calls k (a0.size : Int) 7 0 t301 _ A11.out).mono ?_); rintro e w13 ⟨rfl, hb⟩; refine ⟨_, rfl, ?_⟩; replace HB := Aside0.mk (below_step (zb HB) hb); (try clear hb)))
    go_ret
    exact ⟨ze, zb HB⟩
   ·skip
    exact absurd H (by simp)
 ·replace c3 := Bool.eq_false_iff.mpr c3
  subst c3
  rw [if_neg (show ¬ (false = true) by decide)] at H
  obtain rfl := Option.some.inj H
  go_enter Try.func149, Try.ntmps149
  go_wp2_with (first | ((with_reducible refine gq 122 rfl ?_); refine gl (some 5) Try.func122 #[.string a0] ?_; (with_reducible refine (impl_WordOk.calls k a0 false _ A2.out).mono ?_); rintro e w' ⟨rfl, ⟨nd, rfl⟩⟩; refine ⟨_, rfl, ?_⟩))
  go_ret
  exact ⟨ze, zb HB⟩

/-! ### impl_named: function 111 -/
-- thin
def impl_named.f (k : Nat) (a0_0 : ByteArray) (a0_1 : ByteArray) (a0_2 : Bool) (a1 : Int) (a2 : Int) : Option (ByteArray) := (impl_NumWrite.f k a1 a2 1).bind fun t303 => (if a1 = 0 then ((impl_WordWrite.f k a0_0).bind fun t304 => (if t303.size + t304.size ≤ 9223372036854775807 then ((impl_WordWrite.f k a0_1).bind fun t305 => (if (t303 ++ t304).size + t305.size ≤ 9223372036854775807 then (some ((t303 ++ t304) ++ t305)) else (none))) else (none))) else ((impl_WordWrite.f k a0_1).bind fun t306 => (if t303.size + t306.size ≤ 9223372036854775807 then (some (t303 ++ t306)) else (none))))
theorem impl_named.mono : ∀ a0 a1 a2 a3 a4 k, LeO (impl_named.f k a0 a1 a2 a3 a4) (impl_named.f (k + 1) a0 a1 a2 a3 a4) := by
 intro a0 a1 a2 a3 a4 k
 unfold impl_named.f
 have m0 := @impl_NumWrite.mono
 have m1 := @impl_WordWrite.mono
 exact zm
set_option maxHeartbeats 8000000 in
set_option maxRecDepth 100000 in
theorem impl_named.calls (k : Nat) (a0_0 : ByteArray) (a0_1 : ByteArray) (a0_2 : Bool) (a1 : Int) (a2 : Int) (r : ByteArray) (w : World) (h : impl_named.f k a0_0 a0_1 a0_2 a1 a2 = some r) :
  Calls Try.prog 111 #[.agg #[.string a0_0, .string a0_1, .bool a0_2], .int .i64 a1, .int .i64 a2] w fun e w' => e = .returned (.string r) ∧ Below w.heap.size w w' := by
 have hu88 := Try.underlying88
 have HB := Aside0.mk (Below.refl w.heap.size w)
 have H : ((impl_NumWrite.f k a1 a2 1).bind fun t303 => (if a1 = 0 then ((impl_WordWrite.f k a0_0).bind fun t304 => (if t303.size + t304.size ≤ 9223372036854775807 then ((impl_WordWrite.f k a0_1).bind fun t305 => (if (t303 ++ t304).size + t305.size ≤ 9223372036854775807 then (some ((t303 ++ t304) ++ t305)) else (none))) else (none))) else ((impl_WordWrite.f k a0_1).bind fun t306 => (if t303.size + t306.size ≤ 9223372036854775807 then (some (t303 ++ t306)) else (none))))) = some r := h
 clear h
 obtain ⟨t303, A4, H⟩ := ob H
 (try dsimp only at H)
 have HC5 := Aside0.mk H
 clear H
 go_enter Try.func111, Try.ntmps111
 go_upto_if 12 with (first | ((with_reducible refine gd 3 rfl ?_); refine bx (N := 3) (cs := #[.string a0_0, .string a0_1, .bool a0_2]) (t := 88) ?_; intro gb302 hg w6 hbox hb; have BK302 := Aside0.mk (hbox); have GW302 := gw HB hg; have GE302 := GW302; replace HB := Aside0.mk (below_step (zb HB) hb); clear hb hbox hg) | ((with_reducible refine gq 112 rfl ?_); refine gl (some 10) Try.func112 #[.int .i64 a1, .int .i64 a2, .int .i64 1] ?_; (with_reducible refine (impl_NumWrite.calls k a1 a2 1 t303 _ A4.out).mono ?_); rintro e w7 ⟨rfl, hb⟩; refine ⟨_, rfl, ?_⟩; replace BK302 := kb BK302 hb; replace HB := Aside0.mk (below_step (zb HB) hb); (try clear hb)))
 (try simp only [Act.put, s1, s2, s3])
 have H := HC5.out
 clear HC5
 replace H := sp H
 rcases H with ⟨c8, H⟩ | ⟨c8, H⟩
 ·skip
  have c8b0 : (a1 == 0) = true := beq_iff_eq.mpr c8
  have c8b1 : (a1 != 0) = false := bne_eq_false_iff_eq.mpr c8
  clear c8
  (first | rw [c8b0] | rw [c8b1] | rw [c8b2] | (simp only [i64_w, i32_w]; rw [c8b0]) | skip)
  obtain ⟨t304, A9, H⟩ := ob H
  (try dsimp only at H)
  by_cases c10 : t303.size + t304.size ≤ 9223372036854775807
  ·rw [if_pos c10] at H
   have c10b0 := eq_true c10
   have c10b1 := decide_eq_true c10
   try have c10b2 : (9223372036854775807 < t303.size + t304.size) = False := eq_false (Nat.not_lt.2 c10)
   obtain ⟨t305, A11, H⟩ := ob H
   (try dsimp only at H)
   by_cases c12 : (t303 ++ t304).size + t305.size ≤ 9223372036854775807
   ·rw [if_pos c12] at H
    have c12b0 := eq_true c12
    have c12b1 := decide_eq_true c12
    try have c12b2 : (9223372036854775807 < (t303 ++ t304).size + t305.size) = False := eq_false (Nat.not_lt.2 c12)
    try (have c12b3 := c12b2; rw [ByteArray.size_append] at c12b3)
    obtain rfl := Option.some.inj H
    obtain ⟨hcz13_0, hcz13_1, hcz13_2, hfz13_0, hfz13_1, hfz13_2⟩ := c3 BK302
    go_wp2_with (first | ((with_reducible refine gq 149 rfl ?_); refine gl (some 16) Try.func149 #[.string a0_0] ?_; (with_reducible refine (impl_WordWrite.calls k a0_0 t304 _ A9.out).mono ?_); rintro e w14 ⟨rfl, hb⟩; refine ⟨_, rfl, ?_⟩; replace BK302 := kb BK302 hb; replace HB := Aside0.mk (below_step (zb HB) hb); (try clear hb); obtain ⟨hcz15_0, hcz15_1, hcz15_2, hfz15_0, hfz15_1, hfz15_2⟩ := c3 BK302) | ((with_reducible refine gq 149 rfl ?_); refine gl (some 21) Try.func149 #[.string a0_1] ?_; (with_reducible refine (impl_WordWrite.calls k a0_1 t305 _ A11.out).mono ?_); rintro e w16 ⟨rfl, hb⟩; refine ⟨_, rfl, ?_⟩; replace BK302 := kb BK302 hb; replace HB := Aside0.mk (below_step (zb HB) hb); (try clear hb)))
    go_ret
    exact ⟨ze, zb HB⟩
   ·rw [if_neg c12] at H
    exact absurd H (by simp)
  ·rw [if_neg c10] at H
   exact absurd H (by simp)
 ·skip
  have c8b0 : (a1 == 0) = false := beq_eq_false_iff_ne.mpr c8
  have c8b1 : (a1 != 0) = true := bne_iff_ne.mpr c8
  (first | rw [c8b0] | rw [c8b1] | rw [c8b2] | (simp only [i64_w, i32_w]; rw [c8b0]) | skip)
  obtain ⟨t306, A17, H⟩ := ob H
  (try dsimp only at H)
  replace H := sp H
  rcases H with ⟨c18, H⟩ | ⟨c18, H⟩
  ·skip
   have c18b0 := eq_true c18
   have c18b1 := decide_eq_true c18
   try have c18b2 : (9223372036854775807 < t303.size + t306.size) = False := eq_false (Nat.not_lt.2 c18)
   obtain rfl := Option.some.inj H
   obtain ⟨hcz19_0, hcz19_1, hcz19_2, hfz19_0, hfz19_1, hfz19_2⟩ := c3 BK302
   go_wp2_with (first | ((with_reducible refine gq 149 rfl ?_); refine gl (some 21) Try.func149 #[.string a0_1] ?_; (with_reducible refine (impl_WordWrite.calls k a0_1 t306 _ A17.out).mono ?_); rintro e w20 ⟨rfl, hb⟩; refine ⟨_, rfl, ?_⟩; replace BK302 := kb BK302 hb; replace HB := Aside0.mk (below_step (zb HB) hb); (try clear hb)))
   go_ret
   exact ⟨ze, zb HB⟩
  ·skip
   exact absurd H (by simp)

/-! ### impl_Table_write: function 54 -/
-- thin
def impl_Table_write.l0 : Nat → ByteArray → List (S88) → Int → Int → List (S88) → Int → Option ((List (S88)) × Int × ByteArray)
 | 0, _, _, _, _, _, _ => none
 | k + 1, x6, x11, x12, x13, x308000, x308001 => if x13 < x12 then (if 0 ≤ x13 then (if x13 < (x11.length : Int) then ((impl_Table_find.f x308000 x308001 ((rd_T88 x11 x13).f0) ((rd_T88 x11 x13).f1) ((rd_T88 x11 x13).f2)).bind fun bt315 => (if (rd_T88 x11 x13).f2 = true then ((impl_named.f k ((rd_T88 x11 x13).f0) ((rd_T88 x11 x13).f1) ((rd_T88 x11 x13).f2) bt315.1 4).bind fun t317 => (if x6.size + t317.size ≤ 9223372036854775807 then (impl_Table_write.l0 k (x6 ++ t317) x11 x12 (wrap64 (x13 + 1)) x308000 x308001) else (none))) else (if bt315.2 = true then ((impl_NumWrite.f k bt315.1 7 1).bind fun t318 => (if x6.size + t318.size ≤ 9223372036854775807 then (impl_Table_write.l0 k (x6 ++ t318) x11 x12 (wrap64 (x13 + 1)) x308000 x308001) else (none))) else ((impl_named.f k ((rd_T88 x11 x13).f0) ((rd_T88 x11 x13).f1) ((rd_T88 x11 x13).f2) bt315.1 6).bind fun t319 => (if x6.size + t319.size ≤ 9223372036854775807 then ((impl_Table_add.f k x308000 x308001 ((rd_T88 x11 x13).f0) ((rd_T88 x11 x13).f1) ((rd_T88 x11 x13).f2)).bind fun bt320 => (impl_Table_write.l0 k (x6 ++ t319) x11 x12 (wrap64 (x13 + 1)) bt320.1 bt320.2)) else (none)))))) else (none)) else (none)) else ((impl_Table_clone.f x308000 x308001).bind fun bt309 => (some (bt309.1, bt309.2, x6)))
def impl_Table_write.f (k : Nat) (l0_0 : List (S88)) (a0_1 : Int) (l1 : List (S88)) : Option ((List (S88)) × Int × ByteArray) := impl_Table_write.l0 k (⟨#[]⟩ : ByteArray) l1 (l1.length : Int) 0 l0_0 a0_1
theorem impl_Table_write.mono_l : ∀ k, (∀ y0 y1 y2 y3 y4 y5, LeO (impl_Table_write.l0 k y0 y1 y2 y3 y4 y5) (impl_Table_write.l0 (k + 1) y0 y1 y2 y3 y4 y5))
 | 0 => fun _ _ _ _ _ _ r h => by simp [impl_Table_write.l0] at h
 | k + 1 => by
  have ih0 := impl_Table_write.mono_l k
  ·intro y0 y1 y2 y3 y4 y5
   unfold impl_Table_write.l0
   have m0 := @impl_NumWrite.mono
   have m1 := @impl_Table_add.mono
   have m2 := @impl_named.mono
   exact zm
theorem impl_Table_write.mono : ∀ a0 a1 a2 k, LeO (impl_Table_write.f k a0 a1 a2) (impl_Table_write.f (k + 1) a0 a1 a2) := by
 intro a0 a1 a2 k
 have ih0 := impl_Table_write.mono_l k
 unfold impl_Table_write.f
 have m0 := @impl_NumWrite.mono
 have m1 := @impl_Table_add.mono
 have m2 := @impl_named.mono
 exact zm
set_option maxHeartbeats 8000000 in
set_option maxRecDepth 100000 in
theorem impl_Table_write.calls (k : Nat) (P0_0_ : Nat → Prop) (A0_0 : Option Addr) (c0_0 : Nat) (l0_0 : List (S88)) (a0_1 : Int) (A1 : Option Addr) (c1 : Nat) (l1 : List (S88)) (r1 : List (S88)) (r2 : Int) (r3 : ByteArray) (w : World) (hs0_0 : Kd.V k88 88 w w.heap.size (fun k_ => P0_0_ k_) (.slice A0_0 l0_0.length c0_0) l0_0) (hr1 : Kd.C k88 w A1 l1.length l1) (hc1 : l1.length ≤ c1) (h : impl_Table_write.f k l0_0 a0_1 l1 = some (r1, r2, r3)) :
  Calls Try.prog 54 #[.agg #[.slice A0_0 l0_0.length c0_0, .int .i64 a0_1], .slice A1 l1.length c1] w fun e w' => ∃ v0_ : Value, e = .returned (.tuple #[.agg #[v0_, .int .i64 r2], .string r3]) ∧ Kd.R k88 88 w' w.heap.size (fun k_ => (w.heap.size ≤ k_)) v0_ r1 ∧ Below w.heap.size w w' := by
 have hu25 := Try.underlying25
 have hu88 := Try.underlying88
 have HO0_0 := Aside0.mk (show Kd.V k88 88 w w.heap.size (fun k_ => (P0_0_ k_ ∨ w.heap.size ≤ k_)) (.slice A0_0 l0_0.length c0_0) l0_0 from Kd.V_mono hs0_0 (fun k_ hk => .inl hk))
 have HR1 := Aside0.mk hr1
 have HC1 := Aside0.mk hc1
 clear hr1 hc1
 have HB := Aside0.mk (Below.refl w.heap.size w)
 have H : (impl_Table_write.l0 k (⟨#[]⟩ : ByteArray) l1 (l1.length : Int) 0 l0_0 a0_1) = some (r1, r2, r3) := h
 clear h
 have H' := Aside0.mk H
 clear H
 go_enter Try.func54, Try.ntmps54
 go_wp2_with (first | ((with_reducible refine gd 2 rfl ?_); refine bx (N := 2) (cs := #[.slice A0_0 l0_0.length c0_0, .int .i64 a0_1]) (t := 25) ?_; intro gb307 hg w3 hbox hb; replace HO0_0 := Aside0.mk (Kd.V_below (Kd.V_elderB (zV HO0_0) gb307 (Nat.le_of_eq hg.symm)) hb); have BK307 := Aside0.mk (hbox); have GW307 := gw HB hg; have GE307 := GW307; replace HB := Aside0.mk (below_step (zb HB) hb); clear hb hbox hg) | ((with_reducible refine gd 4 rfl ?_); refine bx (N := 4) (cs := #[.slice none 0 0, .int .i64 0]) (t := 25) ?_; intro gb308 hg w4 hbox hb; replace HO0_0 := Aside0.mk (Kd.V_below (Kd.V_elderB (zV HO0_0) gb308 (Nat.le_of_eq hg.symm)) hb); have BK308 := Aside0.mk (hbox); have GW308 := gw HB hg; have GE308 := GW308; replace HB := Aside0.mk (below_step (zb HB) hb); obtain ⟨NB307_308, NB308_307⟩ := nb BK307 hg; replace BK307 := kb BK307 hb; clear hb hbox hg))
 go_loopg [6, 13] k (fun kq v6 v13 w' => ∃ (x6_1 : ByteArray) (x13_1 : Int) (x308000_1 : List (S88)) (x308001_1 : Int) (u308000 : Value), v6 = .string x6_1 ∧ v13 = .int .i64 x13_1 ∧ Aside0 (impl_Table_write.l0 kq x6_1 l1 (l1.length : Int) x13_1 x308000_1 x308001_1 = some (r1, r2, r3)) ∧ Aside0 (kq ≤ k) ∧ Aside0 (Kd.V k88 88 w' w.heap.size (fun k_ => (P0_0_ k_ ∨ w.heap.size ≤ k_) ∧ k_ ≠ gb307 ∧ k_ ≠ gb308) u308000 x308000_1) ∧ Aside0 (w'.heap[gb307]? = some (.cells #[u308000, .int .i64 x308001_1] 25 (0, 0))) ∧ Aside0 (w'.heap[gb308]? = some (.cells #[(.slice none 0 0), .int .i64 0] 25 (0, 0))) ∧ Aside0 (Below w.heap.size w w'))
 case atStart => exact ⟨((⟨#[]⟩ : ByteArray)), (0), (l0_0), (a0_1), (.slice A0_0 l0_0.length c0_0), zs, zs, H', ⟨Nat.le_refl _⟩, ⟨by (with_reducible repeat (first | apply Kd.V_alloc | apply Kd.V_drewN | apply Kd.V_drew)); exact Kd.V_mono HO0_0.out (fun _ hk => ⟨hk.1.1, ⟨hk.1.2, hk.2⟩⟩)⟩, ⟨by exact zk BK307⟩, ⟨by exact zk BK308⟩, ⟨zb HB⟩⟩
 case round =>
  clear H'
  try clear c1
  try clear p2
  obtain ⟨x6_1, x13_1, x308000_1, x308001_1, u308000, rfl, rfl, HA, HK1, HO_308000, BK307, BK308, HB⟩ := hrel
  cases gk with
  | zero => exact absurd HA.out (by simp [impl_Table_write.l0])
  | succ k1 =>
   have H := HA.out
   clear HA
   simp only [impl_Table_write.l0] at H
   replace H := sp H
   rcases H with ⟨c5, H⟩ | ⟨c5, H⟩
   ·skip
    have c5b0 := decide_eq_true c5
    clear c5
    by_cases c6 : 0 ≤ x13_1
    ·rw [if_pos c6] at H
     have c6b0 := decide_eq_true c6
     clear c6
     by_cases c7 : x13_1 < (l1.length : Int)
     ·rw [if_pos c7] at H
      have c7b0 := decide_eq_true c7
      clear c7
      obtain ⟨⟨t315, t316⟩, A8, H⟩ := ob H
      (try dsimp only at H)
      have HC9 := Aside0.mk H
      clear H
      have p313 : 0 ≤ (x13_1 : Int) := of_decide_eq_true za
      have q313 : x13_1 < (l1.length : Int) := of_decide_eq_true za
      obtain ⟨ad313, e313, hx313_0, hx313_1, hx313_2⟩ := at_T88 HR1.out x13_1 p313 q313
      cases e313
      replace hx313_0 := cb0 hx313_0 HB
      replace hx313_1 := cb0 hx313_1 HB
      replace hx313_2 := cb0 hx313_2 HB
      replace p313 := eq_true p313
      replace q313 := eq_true q313
      go_upto_if 31 with (first | ((with_reducible refine gd 8 rfl ?_); refine bx (N := 8) (cs := #[.string (⟨#[]⟩ : ByteArray), .string (⟨#[]⟩ : ByteArray), .bool false]) (t := 88) ?_; intro gb314 hg w10 hbox hb; replace HO_308000 := Aside0.mk (Kd.V_below (Kd.V_elderB (zV HO_308000) gb314 (Nat.le_of_eq hg.symm)) hb); have BK314 := Aside0.mk (hbox); have GW314 := gw HB hg; have GE314 := GW314; replace HB := Aside0.mk (below_step (zb HB) hb); obtain ⟨NB307_314, NB314_307⟩ := nb BK307 hg; replace BK307 := kb BK307 hb; obtain ⟨NB308_314, NB314_308⟩ := nb BK308 hg; replace BK308 := kb BK308 hb; clear hb hbox hg; have hnb11 := NB314_307.out; have hnc11 := NB307_314.out; have hnb12 := NB314_308.out; have hnc12 := NB308_314.out; obtain ⟨hcz13_0, hcz13_1, hcz13_2, hfz13_0, hfz13_1, hfz13_2⟩ := c3 BK314; have hnb14 := NB307_308.out; have hnc14 := NB308_307.out; obtain ⟨hcz15_0, hcz15_1, hfz15_0, hfz15_1⟩ := c2 BK307; obtain ⟨Ao16, co16, eo16⟩ := Kd.V_slice HO_308000.out; subst eo16) | ((with_reducible refine gq 110 rfl ?_); refine gl (some 20) Try.func110 #[.agg #[.slice Ao16 x308000_1.length co16, .int .i64 x308001_1], .agg #[.string ((rd_T88 l1 x13_1).f0), .string ((rd_T88 l1 x13_1).f1), .bool ((rd_T88 l1 x13_1).f2)]] ?_; (with_reducible refine (impl_Table_find.calls _ _ x308000_1 x308001_1 ((rd_T88 l1 x13_1).f0) ((rd_T88 l1 x13_1).f1) ((rd_T88 l1 x13_1).f2) t315 t316 _ ?side1 ?side2 A8.out).mono ?_); (case side1 => refine (Kd.V_reads' (e := 88) (base := w.heap.size) (ok := fun k_ => ((((P0_0_ k_ ∨ w.heap.size ≤ k_)) ∧ (k_ ≠ gb307 ∧ k_ ≠ gb308)) ∧ k_ ≠ gb314)) (n := x308000_1.length) (c := co16) ?_).2.2; exact (by (with_reducible repeat (first | apply Kd.V_alloc | apply Kd.V_drewN | apply Kd.V_drew)); exact (Kd.V_mono (Kd.V_far (p := ⟨gb314, 2, none⟩) (Kd.V_far (p := ⟨gb314, 1, none⟩) (Kd.V_far (p := ⟨gb314, 0, none⟩) (Kd.V_mono HO_308000.out (fun k_ hk => (⟨hk, hk.2⟩ : _ ∧ k_ ≠ gb314))) (fun _ hk => hk.2) (.string ((rd_T88 l1 x13_1).f0))) (fun _ hk => hk.2) (.string ((rd_T88 l1 x13_1).f1))) (fun _ hk => hk.2) (.bool ((rd_T88 l1 x13_1).f2))) (fun _ h_ => h_.1)))); (case side2 => exact (Kd.V_reads' HO_308000.out).2.1); rintro e w17 ⟨rfl, hb⟩; refine ⟨_, rfl, ?_⟩; replace HO_308000 := Aside0.mk (Kd.V_below (by (with_reducible repeat (first | apply Kd.V_alloc | apply Kd.V_drewN | apply Kd.V_drew)); exact (Kd.V_mono (Kd.V_far (p := ⟨gb314, 2, none⟩) (Kd.V_far (p := ⟨gb314, 1, none⟩) (Kd.V_far (p := ⟨gb314, 0, none⟩) (Kd.V_mono HO_308000.out (fun k_ hk => (⟨hk, hk.2⟩ : _ ∧ k_ ≠ gb314))) (fun _ hk => hk.2) (.string ((rd_T88 l1 x13_1).f0))) (fun _ hk => hk.2) (.string ((rd_T88 l1 x13_1).f1))) (fun _ hk => hk.2) (.bool ((rd_T88 l1 x13_1).f2))) (fun _ h_ => h_.1))) hb); replace BK307 := Aside0.mk (blk_below (g := gb307) (o := .cells #[.slice Ao16 x308000_1.length co16, .int .i64 x308001_1] 25 (0, 0)) (zp BK307) hb); replace BK308 := Aside0.mk (blk_below (g := gb308) (o := .cells #[.slice none 0 0, .int .i64 0] 25 (0, 0)) (zp BK308) hb); replace BK314 := Aside0.mk (blk_below (g := gb314) (o := .cells #[.string ((rd_T88 l1 x13_1).f0), .string ((rd_T88 l1 x13_1).f1), .bool ((rd_T88 l1 x13_1).f2)] 88 (0, 0)) (zp BK314) hb); replace HB := Aside0.mk (below_step (zb HB) hb); (try clear hb); (try clear hk); obtain ⟨hcz18_0, hcz18_1, hcz18_2, hfz18_0, hfz18_1, hfz18_2⟩ := c3 BK314))
      (try simp only [Act.put, s1, s2, s3])
      have H := HC9.out
      clear HC9
      obtain ⟨bq19, hbq19⟩ : ∃ b_ : Bool, b_ = ((rd_T88 l1 x13_1).f2) := ⟨_, rfl⟩
      replace H : (if bq19 = true then ((impl_named.f k1 ((rd_T88 l1 x13_1).f0) ((rd_T88 l1 x13_1).f1) (bq19) t315 4).bind fun t317 => (if x6_1.size + t317.size ≤ 9223372036854775807 then (impl_Table_write.l0 k1 (x6_1 ++ t317) l1 (l1.length : Int) (wrap64 (x13_1 + 1)) x308000_1 x308001_1) else (none))) else (if t316 = true then ((impl_NumWrite.f k1 t315 7 1).bind fun t318 => (if x6_1.size + t318.size ≤ 9223372036854775807 then (impl_Table_write.l0 k1 (x6_1 ++ t318) l1 (l1.length : Int) (wrap64 (x13_1 + 1)) x308000_1 x308001_1) else (none))) else ((impl_named.f k1 ((rd_T88 l1 x13_1).f0) ((rd_T88 l1 x13_1).f1) (bq19) t315 6).bind fun t319 => (if x6_1.size + t319.size ≤ 9223372036854775807 then ((impl_Table_add.f k1 x308000_1 x308001_1 ((rd_T88 l1 x13_1).f0) ((rd_T88 l1 x13_1).f1) (bq19)).bind fun bt320 => (impl_Table_write.l0 k1 (x6_1 ++ t319) l1 (l1.length : Int) (wrap64 (x13_1 + 1)) bt320.1 bt320.2)) else (none))))) = some (r1, r2, r3) := by rw [← hbq19] at H; exact H
      have Nbq19 := Aside0.mk hbq19
      clear hbq19
      (try rw [← Nbq19.out])
      (try rw [← Nbq19.out] at BK307)
      (try rw [← Nbq19.out] at BK308)
      (try rw [← Nbq19.out] at BK314)
      (try rw [← Nbq19.out] at hcz18_2)
      by_cases c20 : bq19 = true
      ·subst c20
       rw [if_pos rfl] at H
       obtain ⟨t317, A21, H⟩ := ob H
       (try dsimp only at H)
       by_cases c22 : x6_1.size + t317.size ≤ 9223372036854775807
       ·rw [if_pos c22] at H
        have c22b0 := eq_true c22
        have c22b1 := decide_eq_true c22
        try have c22b2 : (9223372036854775807 < x6_1.size + t317.size) = False := eq_false (Nat.not_lt.2 c22)
        have H' := Aside0.mk H
        clear H
        have hnb23 := NB314_307.out
        have hnc23 := NB307_314.out
        have hnb24 := NB314_308.out
        have hnc24 := NB308_314.out
        obtain ⟨hcz25_0, hcz25_1, hcz25_2, hfz25_0, hfz25_1, hfz25_2⟩ := c3 BK314
        go_wp2_with (first | ((with_reducible refine gq 111 rfl ?_); refine gl (some 37) Try.func111 #[.agg #[.string ((rd_T88 l1 x13_1).f0), .string ((rd_T88 l1 x13_1).f1), .bool true], .int .i64 t315, .int .i64 4] ?_; (with_reducible refine (impl_named.calls k1 ((rd_T88 l1 x13_1).f0) ((rd_T88 l1 x13_1).f1) true t315 4 t317 _ A21.out).mono ?_); rintro e w26 ⟨rfl, hb⟩; refine ⟨_, rfl, ?_⟩; replace HO_308000 := Aside0.mk (Kd.V_below (zV HO_308000) hb); replace BK307 := kb BK307 hb; replace BK308 := kb BK308 hb; replace BK314 := kb BK314 hb; replace HB := Aside0.mk (below_step (zb HB) hb); (try clear hb)))
        go_roundg k1
        case measure => have := HK1.out; omega
        case rel => exact ⟨(x6_1 ++ t317), (wrap64 (x13_1 + 1)), (x308000_1), (x308001_1), (.slice Ao16 x308000_1.length co16), zs, zs, H', ⟨by have := HK1.out; omega⟩, ⟨by (with_reducible repeat (first | apply Kd.V_alloc | apply Kd.V_drewN | apply Kd.V_drew)); exact Kd.V_mono HO_308000.out (fun _ hk => ⟨hk.1.1, ⟨hk.1.2.1, hk.1.2.2⟩⟩)⟩, ⟨by exact zk BK307⟩, ⟨by exact zk BK308⟩, ⟨zb HB⟩⟩
       ·rw [if_neg c22] at H
        exact absurd H (by simp)
      ·replace c20 := Bool.eq_false_iff.mpr c20
       subst c20
       rw [if_neg (show ¬ (false = true) by decide)] at H
       by_cases c27 : t316 = true
       ·subst c27
        rw [if_pos rfl] at H
        obtain ⟨t318, A28, H⟩ := ob H
        (try dsimp only at H)
        by_cases c29 : x6_1.size + t318.size ≤ 9223372036854775807
        ·rw [if_pos c29] at H
         have c29b0 := eq_true c29
         have c29b1 := decide_eq_true c29
         try have c29b2 : (9223372036854775807 < x6_1.size + t318.size) = False := eq_false (Nat.not_lt.2 c29)
         have H' := Aside0.mk H
         clear H
         go_wp2_with (first | ((with_reducible refine gq 112 rfl ?_); refine gl (some 43) Try.func112 #[.int .i64 t315, .int .i64 7, .int .i64 1] ?_; (with_reducible refine (impl_NumWrite.calls k1 t315 7 1 t318 _ A28.out).mono ?_); rintro e w30 ⟨rfl, hb⟩; refine ⟨_, rfl, ?_⟩; replace HO_308000 := Aside0.mk (Kd.V_below (zV HO_308000) hb); replace BK307 := kb BK307 hb; replace BK308 := kb BK308 hb; replace BK314 := kb BK314 hb; replace HB := Aside0.mk (below_step (zb HB) hb); (try clear hb)))
         go_roundg k1
         case measure => have := HK1.out; omega
         case rel => exact ⟨(x6_1 ++ t318), (wrap64 (x13_1 + 1)), (x308000_1), (x308001_1), (.slice Ao16 x308000_1.length co16), zs, zs, H', ⟨by have := HK1.out; omega⟩, ⟨by (with_reducible repeat (first | apply Kd.V_alloc | apply Kd.V_drewN | apply Kd.V_drew)); exact Kd.V_mono HO_308000.out (fun _ hk => ⟨hk.1.1, ⟨hk.1.2.1, hk.1.2.2⟩⟩)⟩, ⟨by exact zk BK307⟩, ⟨by exact zk BK308⟩, ⟨zb HB⟩⟩
        ·rw [if_neg c29] at H
         exact absurd H (by simp)
       ·replace c27 := Bool.eq_false_iff.mpr c27
        subst c27
        rw [if_neg (show ¬ (false = true) by decide)] at H
        obtain ⟨t319, A31, H⟩ := ob H
        (try dsimp only at H)
        by_cases c32 : x6_1.size + t319.size ≤ 9223372036854775807
        ·rw [if_pos c32] at H
         have c32b0 := eq_true c32
         have c32b1 := decide_eq_true c32
         try have c32b2 : (9223372036854775807 < x6_1.size + t319.size) = False := eq_false (Nat.not_lt.2 c32)
         obtain ⟨⟨t320, t323⟩, A33, H⟩ := ob H
         (try dsimp only at H)
         have H' := Aside0.mk H
         clear H
         have hnb34 := NB314_307.out
         have hnc34 := NB307_314.out
         have hnb35 := NB314_308.out
         have hnc35 := NB308_314.out
         obtain ⟨hcz36_0, hcz36_1, hcz36_2, hfz36_0, hfz36_1, hfz36_2⟩ := c3 BK314
         go_wp2_with (first | ((with_reducible refine gq 111 rfl ?_); refine gl (some 26) Try.func111 #[.agg #[.string ((rd_T88 l1 x13_1).f0), .string ((rd_T88 l1 x13_1).f1), .bool false], .int .i64 t315, .int .i64 6] ?_; (with_reducible refine (impl_named.calls k1 ((rd_T88 l1 x13_1).f0) ((rd_T88 l1 x13_1).f1) false t315 6 t319 _ A31.out).mono ?_); rintro e w37 ⟨rfl, hb⟩; refine ⟨_, rfl, ?_⟩; replace HO_308000 := Aside0.mk (Kd.V_below (zV HO_308000) hb); replace BK307 := kb BK307 hb; replace BK308 := kb BK308 hb; replace BK314 := kb BK314 hb; replace HB := Aside0.mk (below_step (zb HB) hb); (try clear hb); have hnb38 := NB307_308.out; have hnc38 := NB308_307.out; obtain ⟨hcz39_0, hcz39_1, hfz39_0, hfz39_1⟩ := c2 BK307; obtain ⟨hcz40_0, hcz40_1, hcz40_2, hfz40_0, hfz40_1, hfz40_2⟩ := c3 BK314) | ((with_reducible refine gq 59 rfl ?_); refine gl (some 30) Try.func59 #[.agg #[.slice Ao16 x308000_1.length co16, .int .i64 x308001_1], .agg #[.string ((rd_T88 l1 x13_1).f0), .string ((rd_T88 l1 x13_1).f1), .bool false]] ?_; (with_reducible refine (impl_Table_add.calls k1 (fun k_ => (((P0_0_ k_ ∨ w.heap.size ≤ k_) ∧ (k_ ≠ gb307 ∧ k_ ≠ gb308)) ∧ k_ ≠ gb314)) _ _ x308000_1 x308001_1 ((rd_T88 l1 x13_1).f0) ((rd_T88 l1 x13_1).f1) false t320 t323 _ ?side1 A33.out).mono ?_); (case side1 => exact HO_308000.out); rintro e w41 ⟨v321, rfl, ho0, hb⟩; refine ⟨_, rfl, ?_⟩; replace HO_308000 := Aside0.mk (Kd.V_elder' (zV HO_308000) (Kd.R_base ho0) hb); have HO322 := Aside0.mk (Kd.R_lower (Kd.R_newB (Kd.R_newM (M := fun k_ => (w.heap.size ≤ k_)) (Kd.R_mono (ok' := fun k_ => True) ho0 (fun _ hk_ => trivial)) (below_size (zb HB)) (fun k_ h_ => h_)) (zk BK314)) (below_size (zb HB))); replace BK307 := kb BK307 hb; replace BK308 := kb BK308 hb; replace BK314 := kb BK314 hb; replace HB := Aside0.mk (below_step (zb HB) hb); (try clear hb); (try clear ho0); obtain ⟨Ao42, co42, eo42⟩ := Kd.R_slice HO322.out; subst eo42; obtain ⟨hcz43_0, hcz43_1, hfz43_0, hfz43_1⟩ := c2 BK307))
         go_roundg k1
         case measure => have := HK1.out; omega
         case rel => exact ⟨(x6_1 ++ t319), (wrap64 (x13_1 + 1)), (t320), (t323), (.slice Ao42 t320.length co42), zs, zs, H', ⟨by have := HK1.out; omega⟩, ⟨by first | (refine Kd.V_mono (Kd.R_V (base := w.heap.size) ?h_) (fun k_ (hk : ((w.heap.size ≤ k_)) ∧ _) => ⟨(.inr (hk.1)), hk.2⟩); exact ((Kd.R_mono (ztR (Kd.R_types (Kd.R_types (Kd.R_types HO322.out BK307.out (by decide)) BK308.out (by decide)) BK307.out (by decide))) (fun _ hk => ⟨hk.1.1.1.1.1, ⟨hk.1.1.2, hk.1.2⟩⟩)))) | (refine Kd.V_mono (Kd.R_V (base := w.heap.size) ?h_) (fun k_ (hk : (w.heap.size ≤ k_)) => (.inr (hk))); exact ((Kd.R_mono (ztR (Kd.R_types (Kd.R_types (Kd.R_types HO322.out BK307.out (by decide)) BK308.out (by decide)) BK307.out (by decide))) (fun _ hk => ⟨hk.1.1.1.1.1, ⟨hk.1.1.2, hk.1.2⟩⟩))))⟩, ⟨zp BK307⟩, ⟨zp BK308⟩, ⟨zb HB⟩⟩
        ·rw [if_neg c32] at H
         exact absurd H (by simp)
     ·rw [if_neg c7] at H
      exact absurd H (by simp)
    ·rw [if_neg c6] at H
     exact absurd H (by simp)
   ·skip
    have c5b0 := decide_eq_false c5
    clear c5
    obtain ⟨⟨t309, t312⟩, A44, H⟩ := ob H
    (try dsimp only at H)
    simp only [Option.some.injEq, Prod.mk.injEq] at H
    obtain ⟨rfl, rfl, rfl⟩ := H
    have hnb45 := NB307_308.out
    have hnc45 := NB308_307.out
    obtain ⟨hcz46_0, hcz46_1, hfz46_0, hfz46_1⟩ := c2 BK307
    obtain ⟨Ao47, co47, eo47⟩ := Kd.V_slice HO_308000.out
    subst eo47
    go_wp2_with (first | ((with_reducible refine gq 60 rfl ?_); refine gl (some 47) Try.func60 #[.agg #[.slice Ao47 x308000_1.length co47, .int .i64 x308001_1]] ?_; (with_reducible refine (impl_Table_clone.calls _ _ x308000_1 x308001_1 t309 t312 _ ?side1 ?side2 A44.out).mono ?_); (case side1 => exact zc (Kd.V_reads' HO_308000.out).2.2); (case side2 => exact (Kd.V_reads' HO_308000.out).2.1); rintro e w48 ⟨v310, rfl, ho0, hb⟩; refine ⟨_, rfl, ?_⟩; replace HO_308000 := Aside0.mk (Kd.V_elder' (zV HO_308000) (Kd.R_base ho0) hb); have HO311 := Aside0.mk (Kd.R_lower (Kd.R_newM (M := fun k_ => (w.heap.size ≤ k_)) ho0 (below_size (zb HB)) (fun k_ h_ => h_)) (below_size (zb HB))); replace BK307 := kb BK307 hb; replace BK308 := kb BK308 hb; replace HB := Aside0.mk (below_step (zb HB) hb); (try clear hb); (try clear ho0); obtain ⟨Ao49, co49, eo49⟩ := Kd.R_slice HO311.out; subst eo49; obtain ⟨hcz50_0, hcz50_1, hfz50_0, hfz50_1⟩ := c2 BK308))
    refine bodyPost_ret (results_ct rfl _ _ gb308 25 #[.slice Ao49 t309.length co49, .int .i64 t312] (0, 0) _ rfl (zp BK308) Try.underlying25 rfl (by kernel_rfl)) rfl ?_
    exact ⟨_, ze, (Kd.R_mono (ztR (Kd.R_types HO311.out BK308.out (by decide))) (fun _ hk => hk.1.1)), zb HB⟩

-- NOT PRINTED: function 81 (impl_End_say)

-- NOT PRINTED: function 82 (strings_Builder_String)

/-! ### impl_EndWrite: function 32 -/
-- by hand
section
variable {P : Program} {ops : Array Oper} {rest : List Oper} {o : Oper} {a : Act} {Q : Exit → Act → World → Prop} {W W0 : World} {g T : Nat} {c0 c1 : Array Value}
theorem chg_heap (h0 : Aside0 (W0.heap[g]? = some (.cells c0 T (0, 0)))) (m : Chg g W0 c0 W c1) : W.heap[g]? = some (.cells c1 T (0, 0)) := zp h0 m rfl
/-- A record out of a block, as one. -/
theorem ld {ty : TypeId} {x : Operand} {d : TypeDesc} (h0 : Aside0 (W0.heap[g]? = some (.cells c0 T (0, 0)))) (j : Nat) (cs : List Value) (hu : P.underlying ty = some d) (h : wpList P ops Q rest (a.put o.dst (.agg cs.toArray)) W)
    (m : Chg g W0 c0 W c1 := by repeat (first | (with_reducible first | exact Chg.refl | apply Chg.alloc | apply Chg.drewN | apply Chg.drew | apply Chg.put) | ((with_reducible apply Chg.far); (case hp => exact Aside0.out (by assumption)))))
    (he : (c1.extract j (j + cs.length)).toList = cs := by kernel_rfl) (hg : o.guard = none := by rfl) (ho : o.op = .load ty x := by rfl) (hx : a.eval x = .pointer (some ⟨g, j, none⟩) := by rfl) (hd : d.isRow = true := by rfl) (hi : (P.info? ty).map (·.size) = some cs.length := by kernel_rfl) : wpList P ops Q (o :: rest) a W :=
  wpList_load_mid hg ty x ho g j hx cs d (by have h1 := World.rangeAt_of_block (chg_heap h0 m) j cs.length; rwa [he] at h1) hu hd hi h
def putAll : Array Value → Nat → List Value → Array Value
  | c, _, [] => c
  | c, j, v :: r => putAll (c.setIfInBounds j v) (j + 1) r
theorem setCells_heap (vs : List Value) : ∀ (j : Nat) (W : World) (c : Array Value), W.heap[g]? = some (.cells c T (0, 0)) → (W.setCells g j vs).heap[g]? = some (.cells (putAll c j vs) T (0, 0)) := by
  induction vs with
  | nil => intro j W c h; exact h
  | cons v r ih => intro j W c h; exact ih (j + 1) _ _ (blk_put h j v rfl)
theorem setCells_keep (vs : List Value) : ∀ (j : Nat) (V W : World), KeepBut V W g none → KeepBut V (W.setCells g j vs) g none := by
  induction vs with
  | nil => intro j V W h; exact h
  | cons v r ih => intro j V W h; exact ih (j + 1) V _ (KeepBut.set_ h j v)
theorem setCells_low (vs : List Value) : ∀ (j n : Nat) (V W : World), Below n V W → n ≤ g → Below n V (W.setCells g j vs) := by
  induction vs with
  | nil => intro j n V W h _; exact h
  | cons v r ih => intro j n V W h hn; exact ih (j + 1) n V _ (Below.setCell h hn v) hn
/-- A record into a block, as one. -/
theorem sd {ty : TypeId} {x y : Operand} (h0 : Aside0 (W0.heap[g]? = some (.cells c0 T (0, 0)))) (j : Nat) (vs : List Value) (cs1 : Array Value)
    (h : ∀ w', Aside0 (w'.heap[g]? = some (.cells cs1 T (0, 0))) → KeepBut W w' g none → (∀ n V, Below n V W → n ≤ g → Below n V w') → wpList P ops Q rest a w') (h1 : ∀ v ∈ vs, v.oneCell' = true)
    (m : Chg g W0 c0 W c1 := by repeat (first | (with_reducible first | exact Chg.refl | apply Chg.alloc | apply Chg.drewN | apply Chg.drew | apply Chg.put) | ((with_reducible apply Chg.far); (case hp => exact Aside0.out (by assumption)))))
    (he : putAll c1 j vs = cs1 := by kernel_rfl) (hl : decide (j + vs.length ≤ c1.size) = true := by kernel_rfl) (hg : o.guard = none := by rfl) (hn : o.dst = none := by rfl) (ho : o.op = .store ty x y := by rfl) (hx : a.eval x = .pointer (some ⟨g, j, none⟩) := by rfl) (hy : a.eval y = .agg vs.toArray := by rfl) (hi : (P.info? ty).map (·.size) = some vs.toArray.size := by kernel_rfl) : wpList P ops Q (o :: rest) a W := by
  have hb := chg_heap h0 m
  have hl' := of_decide_eq_true hl
  refine wpList_store_mid hg ty x y ho g j vs.toArray hx hy (fun i hi => ?_) hi (all_oneCell_toArray h1) ?_
  · rw [List.size_toArray] at hi
    refine ⟨?_, blk_frozen hb _⟩
    rw [blk_cell hb, Array.getElem?_eq_getElem (by omega)]
    rfl
  · rw [hn]
    show wpList P ops Q rest a (W.setCells g j vs)
    exact h _ ⟨by rw [← he]; exact setCells_heap vs j W c1 hb⟩ (setCells_keep vs j W W (KeepBut.refl W g none)) (fun n V hV hn => setCells_low vs j n V W hV hn)
theorem cz {cs : Array Value} {v : Value} (h : Aside0 (W.heap[g]? = some (.cells cs T (0, 0)))) (j : Nat) (e : cs[j]? = some v) : W.cell? ⟨g, j, none⟩ = some v := (blk_cell h.out j).trans e
end
section
variable {α : Type} {d : Kd α} {e base n : Nat} {ok : Nat → Prop} {v : Value} {xs : List α} {W W1 w : World}
theorem ocR (h : d.R e W base ok v xs) : v.oneCell' = true := by obtain ⟨A, c, rfl⟩ := Kd.R_slice h; rfl
theorem ocS (h : Kd.S d e W base ok v xs) : v.oneCell' = true := ocR (Kd.S_R h)
theorem newR (h : d.R e W1 n ok v xs) (hle : base ≤ n) : d.R e W1 base (fun k => ok k ∧ n ≤ k) v xs := Kd.R_lower (Kd.R_mono (Kd.R_bound h) (fun _ hk => ⟨hk.1, hk.2.1⟩)) hle
theorem newS (h : Kd.S d e W1 n ok v xs) (hle : base ≤ n) : Kd.S d e W1 base (fun k => ok k ∧ n ≤ k) v xs := Kd.S_lower (Kd.S_mono (Kd.S_bound h) (fun _ hk => ⟨hk.1, hk.2.1⟩)) hle
theorem ownltR (h : d.R e W base (fun k => ok k ∧ k < n) v xs) (k : Nat) (hk : v.ownBlock = some k) : k < n := (h.1 k hk).2
theorem owngeR (h : d.R e W base (fun k => ok k ∧ n ≤ k) v xs) (k : Nat) (hk : v.ownBlock = some k) : n ≤ k := (h.1 k hk).2
theorem ownltS (h : Kd.S d e W base (fun k => ok k ∧ k < n) v xs) (k : Nat) (hk : v.ownBlock = some k) : k < n := ownltR (Kd.S_R h) k hk
theorem owngeS (h : Kd.S d e W base (fun k => ok k ∧ n ≤ k) v xs) (k : Nat) (hk : v.ownBlock = some k) : n ≤ k := owngeR (Kd.S_R h) k hk
theorem lt_ne {k : Nat} (h : k < n) (ho : ∀ k, v.ownBlock = some k → n ≤ k) (e : some k = v.ownBlock) : False := by have := ho k e.symm; omega
theorem ge_ne {k : Nat} (h : n ≤ k) (ho : ∀ k, v.ownBlock = some k → k < n) (e : some k = v.ownBlock) : False := by have := ho k e.symm; omega
end
set_option maxHeartbeats 4000000 in
set_option maxRecDepth 100000 in
theorem Builder_String_nil (g : Nat) (w : World) (hb : w.heap[g]? = some (.cells #[.pointer none, .slice none 0 0] 108 (0, 0))) :
    Calls Try.prog 82 #[.pointer (some ⟨g, 0, none⟩)] w fun e w' => e = .returned (.string (⟨#[]⟩ : ByteArray)) ∧ Drawn0 w w' := by
  have hUS : ∀ W : World, (Builtin.unsafeString_ #[162, 3] 9 #[.pointer none, .int .i64 0]).run Try.prog W = .ok (.string ⟨#[]⟩) W := fun W => Lib.run_unsafeString_none W _ _ _ none
  have c1 : w.drew.cell? ⟨g, 1, none⟩ = some (.slice none 0 0) := (blk_cell (blk_drew hb) 1).trans rfl
  have hSD : ∀ W : World, (Builtin.unsafeSliceData_ #[22] 162 #[.slice none 0 0]).run Try.prog W = .ok (.pointer none) W := fun W => rfl
  have mixed : Try.prog.follows .mixedOrders = true := by kernel_rfl
  clear hb
  go_enter Try.func82, Try.ntmps82
  go_wp2
  go_region_o
  all_goals (go_wp2; go_ret; exact ⟨rfl, ⟨1, rfl⟩⟩)
def impl_EndWrite.f (k : Nat) (a0_0 : Bool) (l0_1 : List (S88)) (a0_2 : Int) (l0_3 : List (S88)) (a0_4 : Int) (a0_5 : ByteArray) (l0_6 : List (S104)) (a0_7 : Int) (a0_8 : Int) (l0_9 : List (S110)) (a0_10 : Bool) : Option (Bool × (List (S88)) × Int × (List (S88)) × Int × ByteArray × (List (S104)) × Int × Int × (List (S110)) × Bool × ByteArray) := if l0_6.length = 0 ∧ l0_9.length = 0 ∧ a0_10 = false then ((impl_EndOk.f k a0_0 l0_1 a0_2 l0_3 a0_4 a0_5 l0_6 a0_7 a0_8 l0_9 a0_10).bind fun t => (if t = true then ((impl_End_clone.f k a0_0 l0_1 a0_2 l0_3 a0_4 a0_5 l0_6 a0_7 a0_8 l0_9 a0_10).bind fun b => (if (b.2.2.2.2.2.2.1).length = 0 ∧ (b.2.2.2.2.2.2.2.2.2.1).length = 0 ∧ (b.2.2.2.2.2.2.2.2.2.2) = false then ((impl_End_clone.f k b.1 b.2.1 b.2.2.1 b.2.2.2.1 b.2.2.2.2.1 b.2.2.2.2.2.1 b.2.2.2.2.2.2.1 b.2.2.2.2.2.2.2.1 b.2.2.2.2.2.2.2.2.1 [] b.2.2.2.2.2.2.2.2.2.2).bind fun d => (some (d.1, d.2.1, d.2.2.1, d.2.2.2.1, d.2.2.2.2.1, d.2.2.2.2.2.1, d.2.2.2.2.2.2.1, d.2.2.2.2.2.2.2.1, d.2.2.2.2.2.2.2.2.1, d.2.2.2.2.2.2.2.2.2.1, d.2.2.2.2.2.2.2.2.2.2, (⟨#[]⟩ : ByteArray)))) else none)) else none)) else none
theorem impl_EndWrite.mono : ∀ a0 a1 a2 a3 a4 a5 a6 a7 a8 a9 a10 k, LeO (impl_EndWrite.f k a0 a1 a2 a3 a4 a5 a6 a7 a8 a9 a10) (impl_EndWrite.f (k + 1) a0 a1 a2 a3 a4 a5 a6 a7 a8 a9 a10) := by
  intro a0 a1 a2 a3 a4 a5 a6 a7 a8 a9 a10 k
  unfold impl_EndWrite.f
  have m0 := @impl_EndOk.mono
  have m1 := @impl_End_clone.mono
  exact zm
set_option maxHeartbeats 8000000 in
set_option maxRecDepth 100000 in
theorem impl_EndWrite.calls (k : Nat) (a0_0 : Bool) (A0_1 : Option Addr) (c0_1 : Nat) (l0_1 : List (S88)) (a0_2 : Int) (A0_3 : Option Addr) (c0_3 : Nat) (l0_3 : List (S88)) (a0_4 : Int) (a0_5 : ByteArray) (A0_6 : Option Addr) (c0_6 : Nat) (l0_6 : List (S104)) (a0_7 : Int) (a0_8 : Int) (A0_9 : Option Addr) (c0_9 : Nat) (l0_9 : List (S110)) (a0_10 : Bool) (r1 : Bool) (r2 : List (S88)) (r3 : Int) (r4 : List (S88)) (r5 : Int) (r6 : ByteArray) (r7 : List (S104)) (r8 : Int) (r9 : Int) (r10 : List (S110)) (r11 : Bool) (r12 : ByteArray) (w : World) (hr0_1 : Kd.C k88 w A0_1 l0_1.length l0_1) (hc0_1 : l0_1.length ≤ c0_1) (hr0_3 : Kd.C k88 w A0_3 l0_3.length l0_3) (hc0_3 : l0_3.length ≤ c0_3) (hr0_6 : Kd.C k104 w A0_6 l0_6.length l0_6) (hc0_6 : l0_6.length ≤ c0_6) (hr0_9 : Kd.C k110 w A0_9 l0_9.length l0_9) (hc0_9 : l0_9.length ≤ c0_9) (h : impl_EndWrite.f k a0_0 l0_1 a0_2 l0_3 a0_4 a0_5 l0_6 a0_7 a0_8 l0_9 a0_10 = some (r1, r2, r3, r4, r5, r6, r7, r8, r9, r10, r11, r12)) :
  Calls Try.prog 32 #[.agg #[.bool a0_0, .slice A0_1 l0_1.length c0_1, .int .i64 a0_2, .slice A0_3 l0_3.length c0_3, .int .i64 a0_4, .string a0_5, .slice A0_6 l0_6.length c0_6, .int .i64 a0_7, .int .i64 a0_8, .slice A0_9 l0_9.length c0_9, .bool a0_10]] w fun e w' => ∃ v1_ v3_ v6_ v9_ : Value, e = .returned (.tuple #[.agg #[.bool r1, v1_, .int .i64 r3, v3_, .int .i64 r5, .string r6, v6_, .int .i64 r8, .int .i64 r9, v9_, .bool r11], .string r12]) ∧ Kd.R k88 88 w' w.heap.size (fun k_ => some k_ ≠ (v3_ : Value).ownBlock) v1_ r2 ∧ Kd.R k88 88 w' w.heap.size (fun k_ => some k_ ≠ (v1_ : Value).ownBlock) v3_ r4 ∧ Kd.S k104 104 w' w.heap.size (fun k_ => some k_ ≠ (v1_ : Value).ownBlock ∧ some k_ ≠ (v3_ : Value).ownBlock) v6_ r7 ∧ Kd.R k110 110 w' w.heap.size (fun _ => True) v9_ r10 ∧ Below w.heap.size w w' := by
  have hu42 := Try.underlying42
  have HR0_1 := Aside0.mk hr0_1
  have HC0_1 := Aside0.mk hc0_1
  clear hr0_1 hc0_1
  have HR0_3 := Aside0.mk hr0_3
  have HC0_3 := Aside0.mk hc0_3
  clear hr0_3 hc0_3
  have HR0_6 := Aside0.mk hr0_6
  have HC0_6 := Aside0.mk hc0_6
  clear hr0_6 hc0_6
  have HR0_9 := Aside0.mk hr0_9
  have HC0_9 := Aside0.mk hc0_9
  clear hr0_9 hc0_9
  have HB := Aside0.mk (Below.refl w.heap.size w)
  unfold impl_EndWrite.f at h
  split at h
  case isFalse => cases h
  rename_i hg
  obtain ⟨g6, g9, g10⟩ := hg
  obtain ⟨t, A1, h⟩ := ob h
  (try dsimp only at h)
  split at h
  case isFalse => cases h
  rename_i ht
  subst ht
  obtain ⟨⟨t0a, t1a, t2a, t3a, t4a, t5a, t6a, t7a, t8a, t9a, t10a⟩, A2, h⟩ := ob h
  (try dsimp only at h)
  split at h
  case isFalse => cases h
  rename_i hg
  obtain ⟨G6, G9, G10⟩ := hg
  obtain ⟨⟨t0b, t1b, t2b, t3b, t4b, t5b, t6b, t7b, t8b, t9b, t10b⟩, A3, h⟩ := ob h
  (try dsimp only at h)
  simp only [Option.some.injEq, Prod.mk.injEq] at h
  obtain ⟨rfl, rfl, rfl, rfl, rfl, rfl, rfl, rfl, rfl, rfl, rfl, rfl⟩ := h
  subst G10
  clear g6 g9
  have HG6 := Aside0.mk G6
  have HG9 := Aside0.mk G9
  clear G6 G9
  subst g10
  go_enter Try.func32, Try.ntmps32
  go_wp2_with (first | ((with_reducible refine gd 1 rfl ?_); refine bx (N := 1) (cs := #[.bool a0_0, .slice A0_1 l0_1.length c0_1, .int .i64 a0_2, .slice A0_3 l0_3.length c0_3, .int .i64 a0_4, .string a0_5, .slice A0_6 l0_6.length c0_6, .int .i64 a0_7, .int .i64 a0_8, .slice A0_9 l0_9.length c0_9, .bool false]) (t := 42) ?_; intro gA hg w4 hbox hb; have BKA := Aside0.mk hbox; replace HB := Aside0.mk (below_step (zb HB) hb); clear hb hbox hg) | ((with_reducible refine gd 2 rfl ?_); refine bx (N := 2) (cs := #[.bool false, .slice none 0 0, .int .i64 0, .slice none 0 0, .int .i64 0, .string (⟨#[]⟩ : ByteArray), .slice none 0 0, .int .i64 0, .int .i64 0, .slice none 0 0, .bool false]) (t := 42) ?_; intro gB hg w5 hbox hb; have BKB := Aside0.mk hbox; have GWB := gw HB hg; replace HB := Aside0.mk (below_step (zb HB) hb); obtain ⟨NAB, NBA⟩ := nb BKA hg; replace BKA := kb BKA hb; clear hb hbox hg) | ((with_reducible refine gd 10 rfl ?_); refine ld BKA 0 ([.bool a0_0, .slice A0_1 l0_1.length c0_1, .int .i64 a0_2, .slice A0_3 l0_3.length c0_3, .int .i64 a0_4, .string a0_5, .slice A0_6 l0_6.length c0_6, .int .i64 a0_7, .int .i64 a0_8, .slice A0_9 l0_9.length c0_9, .bool false] : List Value) Try.underlying42 ?_) | ((with_reducible refine gd 11 rfl ?_); refine gl (some 11) Try.func33 #[.agg #[.bool a0_0, .slice A0_1 l0_1.length c0_1, .int .i64 a0_2, .slice A0_3 l0_3.length c0_3, .int .i64 a0_4, .string a0_5, .slice A0_6 l0_6.length c0_6, .int .i64 a0_7, .int .i64 a0_8, .slice A0_9 l0_9.length c0_9, .bool false]] ?_; (with_reducible refine (impl_EndOk.calls k a0_0 _ _ l0_1 a0_2 _ _ l0_3 a0_4 a0_5 _ _ l0_6 a0_7 a0_8 _ _ l0_9 false true _ ?s1 ?s2 ?s3 ?s4 ?s5 ?s6 ?s7 ?s8 A1.out).mono ?_); (case s1 => exact zc (Kd.C_below HR0_1.out HB.out)); (case s2 => exact HC0_1.out); (case s3 => exact zc (Kd.C_below HR0_3.out HB.out)); (case s4 => exact HC0_3.out); (case s5 => exact zc (Kd.C_below HR0_6.out HB.out)); (case s6 => exact HC0_6.out); (case s7 => exact zc (Kd.C_below HR0_9.out HB.out)); (case s8 => exact HC0_9.out); rintro e w7 ⟨rfl, hb⟩; refine ⟨_, rfl, ?_⟩; replace BKA := kb BKA hb; replace BKB := kb BKB hb; replace HB := Aside0.mk (below_step (zb HB) hb); clear hb) | ((with_reducible refine gd 14 rfl ?_); refine ld BKA 0 ([.bool a0_0, .slice A0_1 l0_1.length c0_1, .int .i64 a0_2, .slice A0_3 l0_3.length c0_3, .int .i64 a0_4, .string a0_5, .slice A0_6 l0_6.length c0_6, .int .i64 a0_7, .int .i64 a0_8, .slice A0_9 l0_9.length c0_9, .bool false] : List Value) Try.underlying42 ?_) | ((with_reducible refine gd 15 rfl ?_); refine gl (some 15) Try.func77 #[.agg #[.bool a0_0, .slice A0_1 l0_1.length c0_1, .int .i64 a0_2, .slice A0_3 l0_3.length c0_3, .int .i64 a0_4, .string a0_5, .slice A0_6 l0_6.length c0_6, .int .i64 a0_7, .int .i64 a0_8, .slice A0_9 l0_9.length c0_9, .bool false]] ?_; (with_reducible refine (impl_End_clone.calls k a0_0 _ _ l0_1 a0_2 _ _ l0_3 a0_4 a0_5 _ _ l0_6 a0_7 a0_8 _ _ l0_9 false t0a t1a t2a t3a t4a t5a t6a t7a t8a t9a false _ ?s1 ?s2 ?s3 ?s4 ?s5 ?s6 ?s7 ?s8 A2.out).mono ?_); (case s1 => exact zc (Kd.C_below HR0_1.out HB.out)); (case s2 => exact HC0_1.out); (case s3 => exact zc (Kd.C_below HR0_3.out HB.out)); (case s4 => exact HC0_3.out); (case s5 => exact zc (Kd.C_below HR0_6.out HB.out)); (case s6 => exact HC0_6.out); (case s7 => exact zc (Kd.C_below HR0_9.out HB.out)); (case s8 => exact HC0_9.out); rintro e w8 ⟨v1, v3, v6, v9, rfl, o1, o3, o6, o9, hb⟩; refine ⟨_, rfl, ?_⟩; obtain ⟨B1a, d1a, rfl⟩ := Kd.R_slice o1; obtain ⟨B3a, d3a, rfl⟩ := Kd.R_slice o3; obtain ⟨B6a, d6a, rfl⟩ := Kd.S_slice o6; obtain ⟨B9a, d9a, rfl⟩ := Kd.R_slice o9; have O1a := Aside0.mk (Kd.R_lower o1 HB.out.size); have O3a := Aside0.mk (Kd.R_lower o3 HB.out.size); have O6a := Aside0.mk (Kd.S_lower o6 HB.out.size); have O9a := Aside0.mk (Kd.R_lower o9 HB.out.size); replace BKA := kb BKA hb; replace BKB := kb BKB hb; replace HB := Aside0.mk (below_step (zb HB) hb); clear hb o1 o3 o6 o9) | ((with_reducible refine gd 4 rfl ?_); refine bx (N := 4) (cs := #[.bool false, .slice none 0 0, .int .i64 0, .slice none 0 0, .int .i64 0, .string (⟨#[]⟩ : ByteArray), .slice none 0 0, .int .i64 0, .int .i64 0, .slice none 0 0, .bool false]) (t := 42) ?_; intro gC hg w9 hbox hb; have BKC := Aside0.mk hbox; have GWC := gw HB hg; replace O1a := Aside0.mk (Kd.R_below O1a.out hb); replace O3a := Aside0.mk (Kd.R_below O3a.out hb); replace O6a := Aside0.mk (Kd.S_below O6a.out hb); replace O9a := Aside0.mk (Kd.R_below O9a.out hb); replace HB := Aside0.mk (below_step (zb HB) hb); obtain ⟨NAC, NCA⟩ := nb BKA hg; replace BKA := kb BKA hb; obtain ⟨NBC, NCB⟩ := nb BKB hg; replace BKB := kb BKB hb; clear hb hbox hg) | ((with_reducible refine gate_store (t := 42) (p := 4) rfl ?_); refine sd BKC 0 ([.bool t0a, .slice B1a t1a.length d1a, .int .i64 t2a, .slice B3a t3a.length d3a, .int .i64 t4a, .string t5a, .slice B6a t6a.length d6a, .int .i64 t7a, .int .i64 t8a, .slice B9a t9a.length d9a, .bool false] : List Value) #[.bool t0a, .slice B1a t1a.length d1a, .int .i64 t2a, .slice B3a t3a.length d3a, .int .i64 t4a, .string t5a, .slice B6a t6a.length d6a, .int .i64 t7a, .int .i64 t8a, .slice B9a t9a.length d9a, .bool false] ?_ ?h1; (case h1 => intro u hu; simp only [List.mem_cons, List.not_mem_nil, or_false] at hu; rcases hu with rfl | rfl | rfl | rfl | rfl | rfl | rfl | rfl | rfl | rfl | rfl <;> rfl); intro w10 bkc hk hlow; replace O1a := Aside0.mk (Kd.R_mono (Kd.R_keep (Kd.R_types O1a.out BKC.out (by decide)) hk (fun _ h => h.2)) (fun _ h => h.1)); replace O3a := Aside0.mk (Kd.R_mono (Kd.R_keep (Kd.R_types O3a.out BKC.out (by decide)) hk (fun _ h => h.2)) (fun _ h => h.1)); replace O6a := Aside0.mk (Kd.S_mono (Kd.S_keep (Kd.S_types O6a.out BKC.out (by decide)) hk (fun _ h => h.2)) (fun _ h => h.1)); replace O9a := Aside0.mk (Kd.R_mono (Kd.R_keep (Kd.R_types O9a.out BKC.out (by decide)) hk (fun _ h => h.2)) (fun _ h => h.1)); replace BKA := Aside0.mk (KeepBut.blk hk BKA.out NAC.out (by simp)); replace BKB := Aside0.mk (KeepBut.blk hk BKB.out NBC.out (by simp)); replace HB := Aside0.mk (hlow _ _ HB.out GWC.out); replace BKC := bkc; clear hk hlow bkc; have cA10 := cz BKA 10 rfl) | ((with_reducible refine gd 5 rfl ?_); clear cA10; refine bx (N := 5) (cs := #[.pointer none, .slice none 0 0]) (t := 108) ?_; intro gD hg w11 hbox hb; have BKD := Aside0.mk hbox; replace O1a := Aside0.mk (Kd.R_below O1a.out hb); replace O3a := Aside0.mk (Kd.R_below O3a.out hb); replace O6a := Aside0.mk (Kd.S_below O6a.out hb); replace O9a := Aside0.mk (Kd.R_below O9a.out hb); replace HB := Aside0.mk (below_step (zb HB) hb); obtain ⟨NBD, NDB⟩ := nb BKB hg; replace BKB := kb BKB hb; obtain ⟨NCD, NDC⟩ := nb BKC hg; replace BKC := kb BKC hb; clear hb hbox hg BKA; have cC9 := cz BKC 9 rfl; have cC6 := cz BKC 6 rfl; have fC9 := blk_frozen BKC.out 9; rw [HG9.out] at cC9; rw [HG6.out] at cC6))
  go_loop [22] (fun v => v = .int .i64 0) (fun _ => 0)
  case atStart => rfl
  case round =>
    subst hrel
    go_wp2
    go_loop [36] (fun v => v = .int .i64 0) (fun _ => 0)
    case atStart => rfl
    case round =>
      subst hrel
      clear cC9 cC6 fC9
      go_wp2_with (first | ((with_reducible refine gd 67 rfl ?_); refine ld BKC 0 ([.bool t0a, .slice B1a t1a.length d1a, .int .i64 t2a, .slice B3a t3a.length d3a, .int .i64 t4a, .string t5a, .slice B6a t6a.length d6a, .int .i64 t7a, .int .i64 t8a, .slice none 0 0, .bool false] : List Value) Try.underlying42 ?_) | ((with_reducible refine gd 68 rfl ?_); refine gl (some 68) Try.func77 #[.agg #[.bool t0a, .slice B1a t1a.length d1a, .int .i64 t2a, .slice B3a t3a.length d3a, .int .i64 t4a, .string t5a, .slice B6a t6a.length d6a, .int .i64 t7a, .int .i64 t8a, .slice none ([] : List (S110)).length 0, .bool false]] ?_; (with_reducible refine (impl_End_clone.calls k t0a _ _ t1a t2a _ _ t3a t4a t5a _ _ t6a t7a t8a _ _ ([] : List (S110)) false t0b t1b t2b t3b t4b t5b t6b t7b t8b t9b t10b _ ?s1 ?s2 ?s3 ?s4 ?s5 ?s6 ?s7 ?s8 A3.out).mono ?_); (case s1 => exact (Kd.R_reads' (ztR (Kd.R_types O1a.out BKC.out (by decide)))).2.2); (case s2 => exact (Kd.R_reads' O1a.out).2.1); (case s3 => exact (Kd.R_reads' (ztR (Kd.R_types O3a.out BKC.out (by decide)))).2.2); (case s4 => exact (Kd.R_reads' O3a.out).2.1); (case s5 => exact (Kd.S_reads' (ztS (Kd.S_types O6a.out BKC.out (by decide)))).2.2); (case s6 => exact (Kd.S_reads' O6a.out).2.1); (case s7 => exact Kd.C_nil _ _); (case s8 => exact Nat.le_refl _); rintro e w12 ⟨v1, v3, v6, v9, rfl, o1, o3, o6, o9, hb⟩; refine ⟨_, rfl, ?_⟩; obtain ⟨B1b, d1b, rfl⟩ := Kd.R_slice o1; obtain ⟨B3b, d3b, rfl⟩ := Kd.R_slice o3; obtain ⟨B6b, d6b, rfl⟩ := Kd.S_slice o6; obtain ⟨B9b, d9b, rfl⟩ := Kd.R_slice o9; have O1b := Aside0.mk (Kd.R_lower o1 (zb HB).size); have O3b := Aside0.mk (Kd.R_lower o3 (zb HB).size); have O6b := Aside0.mk (Kd.S_lower o6 (zb HB).size); have O9b := Aside0.mk (Kd.R_lower o9 (zb HB).size); replace BKB := Aside0.mk (blk_below (zp BKB) hb); replace BKD := Aside0.mk (blk_below (zp BKD) hb); replace HB := Aside0.mk (below_step (zb HB) hb); clear hb o1 o3 o6 o9 BKC) | ((with_reducible refine gd 69 rfl ?_); refine gl (some 69) Try.func82 #[.pointer (some ⟨gD, 0, none⟩)] ?_; (with_reducible refine (Builder_String_nil gD _ BKD.out).mono ?_); rintro e w' ⟨rfl, ⟨nd, rfl⟩⟩; refine ⟨_, rfl, ?_⟩) | ((with_reducible refine gate_store (t := 42) (p := 2) rfl ?_); refine sd BKB 0 ([.bool t0b, .slice B1b t1b.length d1b, .int .i64 t2b, .slice B3b t3b.length d3b, .int .i64 t4b, .string t5b, .slice B6b t6b.length d6b, .int .i64 t7b, .int .i64 t8b, .slice B9b t9b.length d9b, .bool t10b] : List Value) #[.bool t0b, .slice B1b t1b.length d1b, .int .i64 t2b, .slice B3b t3b.length d3b, .int .i64 t4b, .string t5b, .slice B6b t6b.length d6b, .int .i64 t7b, .int .i64 t8b, .slice B9b t9b.length d9b, .bool t10b] ?_ ?h1; (case h1 => intro u hu; simp only [List.mem_cons, List.not_mem_nil, or_false] at hu; rcases hu with rfl | rfl | rfl | rfl | rfl | rfl | rfl | rfl | rfl | rfl | rfl <;> rfl); intro w13 bkb hk hlow; replace O1b := Aside0.mk (Kd.R_mono (Kd.R_keep (ztR (Kd.R_types O1b.out BKB.out (by decide))) hk (fun _ h => h.2)) (fun _ h => h.1)); replace O3b := Aside0.mk (Kd.R_mono (Kd.R_keep (ztR (Kd.R_types O3b.out BKB.out (by decide))) hk (fun _ h => h.2)) (fun _ h => h.1)); replace O6b := Aside0.mk (Kd.S_mono (Kd.S_keep (ztS (Kd.S_types O6b.out BKB.out (by decide))) hk (fun _ h => h.2)) (fun _ h => h.1)); replace O9b := Aside0.mk (Kd.R_mono (Kd.R_keep (ztR (Kd.R_types O9b.out BKB.out (by decide))) hk (fun _ h => h.2)) (fun _ h => h.1)); replace HB := Aside0.mk (hlow _ _ (zb HB) GWB.out); clear hk hlow))
      refine bodyPost_ret (results_ct rfl _ _ gB 42 #[.bool t0b, .slice B1b t1b.length d1b, .int .i64 t2b, .slice B3b t3b.length d3b, .int .i64 t4b, .string t5b, .slice B6b t6b.length d6b, .int .i64 t7b, .int .i64 t8b, .slice B9b t9b.length d9b, .bool t10b] (0, 0) _ rfl bkb.out Try.underlying42 rfl (by kernel_rfl)) rfl ?_
      exact ⟨_, _, _, _, rfl, O1b.out, O3b.out, O6b.out, O9b.out, HB.out⟩

/-! ### impl_TableSize: function 34 -/
-- thin
def impl_TableSize.f (k : Nat) (l0_0 : List (S88)) (a0_1 : Int) : Option (Int) := (impl_TableOk.f k l0_0 a0_1).bind fun t325 => (if t325 = true then ((impl_Table_size.f k l0_0 a0_1).bind fun t326 => (some t326)) else (some (-1)))
theorem impl_TableSize.mono : ∀ a0 a1 k, LeO (impl_TableSize.f k a0 a1) (impl_TableSize.f (k + 1) a0 a1) := by
 intro a0 a1 k
 unfold impl_TableSize.f
 have m0 := @impl_TableOk.mono
 have m1 := @impl_Table_size.mono
 exact zm
set_option maxHeartbeats 8000000 in
set_option maxRecDepth 100000 in
theorem impl_TableSize.calls (k : Nat) (A0_0 : Option Addr) (c0_0 : Nat) (l0_0 : List (S88)) (a0_1 : Int) (r : Int) (w : World) (hr0_0 : Kd.C k88 w A0_0 l0_0.length l0_0) (hc0_0 : l0_0.length ≤ c0_0) (h : impl_TableSize.f k l0_0 a0_1 = some r) :
  Calls Try.prog 34 #[.agg #[.slice A0_0 l0_0.length c0_0, .int .i64 a0_1]] w fun e w' => e = .returned (.int .i64 r) ∧ Below w.heap.size w w' := by
 have hu25 := Try.underlying25
 have HR0_0 := Aside0.mk hr0_0
 have HC0_0 := Aside0.mk hc0_0
 clear hr0_0 hc0_0
 have HB := Aside0.mk (Below.refl w.heap.size w)
 have H : ((impl_TableOk.f k l0_0 a0_1).bind fun t325 => (if t325 = true then ((impl_Table_size.f k l0_0 a0_1).bind fun t326 => (some t326)) else (some (-1)))) = some r := h
 clear h
 obtain ⟨t325, A2, H⟩ := ob H
 (try dsimp only at H)
 have HC3 := Aside0.mk H
 clear H
 go_enter Try.func34, Try.ntmps34
 go_upto_if 5 with (first | ((with_reducible refine gd 1 rfl ?_); refine bx (N := 1) (cs := #[.slice A0_0 l0_0.length c0_0, .int .i64 a0_1]) (t := 25) ?_; intro gb324 hg w4 hbox hb; have BK324 := Aside0.mk (hbox); have GW324 := gw HB hg; have GE324 := GW324; replace HB := Aside0.mk (below_step (zb HB) hb); clear hb hbox hg; obtain ⟨hcz5_0, hcz5_1, hfz5_0, hfz5_1⟩ := c2 BK324) | ((with_reducible refine gq 19 rfl ?_); refine gl (some 4) Try.func19 #[.agg #[.slice A0_0 l0_0.length c0_0, .int .i64 a0_1]] ?_; (with_reducible refine (impl_TableOk.calls k _ _ l0_0 a0_1 t325 _ ?side1 ?side2 A2.out).mono ?_); (case side1 => exact zc (Kd.C_below HR0_0.out HB.out)); (case side2 => exact HC0_0.out); rintro e w6 ⟨rfl, hb⟩; refine ⟨_, rfl, ?_⟩; replace BK324 := kb BK324 hb; replace HB := Aside0.mk (below_step (zb HB) hb); (try clear hb)))
 (try simp only [Act.put, s1, s2, s3])
 have H := HC3.out
 clear HC3
 by_cases c7 : t325 = true
 ·subst c7
  rw [if_pos rfl] at H
  obtain ⟨t326, A8, H⟩ := ob H
  (try dsimp only at H)
  obtain rfl := Option.some.inj H
  obtain ⟨hcz9_0, hcz9_1, hfz9_0, hfz9_1⟩ := c2 BK324
  go_wp2_with (first | ((with_reducible refine gq 65 rfl ?_); refine gl (some 7) Try.func65 #[.agg #[.slice A0_0 l0_0.length c0_0, .int .i64 a0_1]] ?_; (with_reducible refine (impl_Table_size.calls k _ _ l0_0 a0_1 t326 _ ?side1 ?side2 A8.out).mono ?_); (case side1 => exact zc (Kd.C_below HR0_0.out HB.out)); (case side2 => exact HC0_0.out); rintro e w10 ⟨rfl, hb⟩; refine ⟨_, rfl, ?_⟩; replace BK324 := kb BK324 hb; replace HB := Aside0.mk (below_step (zb HB) hb); (try clear hb)))
  go_ret
  exact ⟨ze, zb HB⟩
 ·replace c7 := Bool.eq_false_iff.mpr c7
  subst c7
  rw [if_neg (show ¬ (false = true) by decide)] at H
  obtain rfl := Option.some.inj H
  go_wp2
  go_ret
  exact ⟨ze, zb HB⟩

end Go.Proofs.Ytlpibelofcabhaa.PFnEndNew
