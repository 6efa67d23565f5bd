-- WRITTEN BY a turned print (wip/tools of the prover's repo)
import Derived.Test.YtajjleldnobhmaaPFnWordBackx0
import Derived.Test.YtajjleldnobhmaaPFnWordBackx1
namespace Go.Proofs.Ytajjleldnobhmaa.PFnWordBack
open Go.RowKit Go.Proofs.YtajjleldnobhmaaW.PrintWords Go.Proofs.YtajjleldnobhmaaW.PrintLast Go.Proofs.YtajjleldnobhmaaW.PrintMore Go.Proofs.Ytajjleldnobhmaa.Lm
attribute [local go_sem] max2_int min2_int max_two min_two max_three min_three max_four min_four   -- for this text's walks alone
set_option linter.unusedVariables false
set_option linter.unusedSimpArgs false

/-! ### impl_bitRow_add: function 27 -/
set_option maxHeartbeats 4000000 in
set_option maxRecDepth 100000 in
theorem add_calls (g : Nat) (n bits : Int) (xs : List Int) (v : Value) (w0 w : World) (hB : Below w0.heap.size w0 w) (hg : w.heap[g]? = some (.cells #[v] 38 (0, 0))) (hge : w0.heap.size ≤ g)
   (ho : Kd.R (Kd.int .u8) 5 w w0.heap.size (fun _ => True) v xs) (hn : 0 ≤ n) (hn1 : n < 1000) (hb0 : 0 ≤ bits) (hb1 : bits ≤ 8) (hl : xs.length ≤ 1000000) :
   Calls Try.prog 27 #[.pointer (some ⟨g, 0, none⟩), .int .i64 n, .int .i64 bits] w fun e w' => e = .returned (.tuple #[]) ∧ Below w0.heap.size w0 w' ∧
     ∃ v', w'.heap[g]? = some (.cells #[v'] 38 (0, 0)) ∧ Kd.R (Kd.int .u8) 5 w' w0.heap.size (fun _ => True) v' (xs ++ bitsL n bits.toNat) := by
  obtain ⟨i0, hi, hz0, hz1, hz2⟩ := info_parts info5
  have HG := Aside0.mk hg
  have HO := Aside0.mk ho
  have HB := Aside0.mk hB
  clear hg ho hB
  go_enter Try.func27, Try.ntmps27
  go_wp2
  go_loopg [2] (bits.toNat) (fun kq v2 w' => ∃ (x : Int) (v' : Value) (ys : List Int), v2 = .int .i64 x ∧ Aside0 (kq = (x + 1).toNat ∧ -1 ≤ x ∧ x < bits) ∧ Aside0 (w'.heap[g]? = some (.cells #[v'] 38 (0, 0))) ∧ Aside0 (Kd.R (Kd.int .u8) 5 w' w0.heap.size (fun _ => True) v' ys) ∧ Aside0 (ys ++ bitsL n (x+1).toNat = xs ++ bitsL n bits.toNat) ∧ Aside0 (ys.length ≤ xs.length + 8) ∧ Aside0 (Below w0.heap.size w0 w'))
  case atStart => exact ⟨bits - 1, v, xs, rfl, ⟨by omega, by omega, by omega⟩, HG, HO, ⟨by rw [show (bits - 1 + 1) = bits by omega]⟩, ⟨by omega⟩, HB⟩
  case round =>
    obtain ⟨x, v', ys, rfl, HK, HG', HO', HY, HL, HB'⟩ := hrel
    have hx0 := HK.out.2.1
    have hx1 := HK.out.2.2
    by_cases hx : 0 ≤ x
    · have hc : wr.cell? ⟨g, 0, none⟩ = some v' := (blk_cell HG'.out 0).trans rfl
      have hf := blk_frozen HG'.out 0
      have hown := Kd.own_of_R HO'.out
      have hlt := blk_lt HG'.out
      have hne := own_ne hown HG'.out (by decide)
      have hbs := HB'.out.size
      have hyl := HL.out
      have hk1 := HK.out.1
      cases gk with
      | zero => omega
      | succ k1 =>
      have HBit := Aside0.mk (bit_spelled n x.toNat hn hn1)
      generalize hbt : bitAt n x.toNat = bt at HBit
      have HBt := Aside0.mk hbt
      clear hbt hk1
      go_wp2
      go_region_law
        ((refine step_append_lies _ (by rfl) _ _ _ (by rfl) w0.heap.size 5 i0 _ 1 1 Try.underlying38 hi hz0 hz1 hz2 rfl (by omega) v' ys.length (encs (Value.int .u8) ys) (by rfl) ((hown.alloc _).drew)
            ⟨wr.heap.size, 0, none⟩ 1 1 [.int .u8 (IntKind.u8.wrap (Go.bits .and .i64 (n / 2 ^ x.toNat) 1))] (by rfl) (by rfl) (World.news_of_block (cs := #[.int .u8 (IntKind.u8.wrap (Go.bits .and .i64 (n / 2 ^ x.toNat) 1))]) (t := 5) (fr := (0, 0)) (heap_alloc_new wr _)) (by simp [Value.oneCell'])
            (by omega) (by unfold maxLen; omega) (by omega) (by simp; omega) (wr.heap.size + 1) (by simp) ?_; intro gg cap w1 hown1 hgrow hat hlt1
          have hh1 := blk_grown (blk_drew (blk_alloc HG'.out (.cells #[.int .u8 (IntKind.u8.wrap (Go.bits .and .i64 (n / 2 ^ x.toNat) 1))] 5))) hgrow hne
          have hc1 : w1.cell? ⟨g, 0, none⟩ = some v' := (blk_cell hh1 0).trans rfl
          have hf1 := blk_frozen hh1 0))
      all_goals
        have hgg := own_ne hown1 hh1 (by decide)
        have N1 := Aside0.mk (blk_put (cs' := #[.slice (some ⟨gg, 0, none⟩) (ys.length + 1) cap]) hh1 0 (.slice (some ⟨gg, 0, none⟩) (ys.length + 1) cap) rfl)
        have N2 := Aside0.mk (below_set (j := 0) (v := .slice (some ⟨gg, 0, none⟩) (ys.length + 1) cap) (Below.grown (below_drew (HB'.out.alloc hbs (.cells #[.int .u8 (IntKind.u8.wrap (Go.bits .and .i64 (n / 2 ^ x.toNat) 1))] 5))) hgrow (by simp; omega) (fun k hk => own_base hown k hk)) hge)
        have N3 := Aside0.mk (own_setCell hown1 (p := ⟨g, 0, none⟩) hgg (.slice (some ⟨gg, 0, none⟩) (ys.length + 1) cap))
        clear hgg hh1 hc1 hf1 hc hf hown hne hat hlt1 hown1 hgrow
        go_wp2
        go_roundg k1
        case measure => have := HK.out.1; omega
        case rel =>
          refine ⟨x - 1, _, ys ++ [bt], rfl, ⟨by have := HK.out.1; omega, by omega, by omega⟩, N1, ⟨?_⟩, ⟨?_⟩, ⟨?_⟩, N2⟩
          · rw [HBit.out] at N3
            refine Kd.R_of_own ?_ (fun _ _ => trivial)
            have := N3.out
            rw [List.length_append, encs_append]
            exact this
          · have h1 : (x + 1).toNat = x.toNat + 1 := by omega
            have h2 := HY.out
            rw [h1, bitsL, HBt.out] at h2
            rw [show (x - 1 + 1) = x by omega, List.append_assoc]
            exact h2
          · have h1 := congrArg List.length HY.out
            simp [bitsL_length] at h1 ⊢
            omega
    · go_wp2
      go_end0
      refine ⟨rfl, HB'.out, v', HG'.out, ?_⟩
      have e : (x + 1).toNat = 0 := by omega
      have hy := HY.out
      rw [e] at hy
      simp only [bitsL, List.append_nil] at hy
      rw [← hy]
      exact HO'.out

/-! ### impl_bitRow_number: function 28 -/
set_option maxHeartbeats 4000000 in
set_option maxRecDepth 100000 in
theorem number_calls (A0 : Option Addr) (c0 : Nat) (l0 : List Int) (a1 a2 : Int) (w : World) (hr0 : Kd.C (Kd.int .u8) w A0 l0.length l0) (hc0 : l0.length ≤ c0)
    (ha : 0 ≤ a1) (hb : 0 ≤ a2) (hb8 : a2 ≤ 8) (hab : a1 + a2 ≤ l0.length) (hl : l0.length ≤ 1000000) (h01 : ∀ x ∈ l0, x = 0 ∨ x = 1) :
    Calls Try.prog 28 #[.slice A0 l0.length c0, .int .i64 a1, .int .i64 a2] w fun e w' => e = .returned (.int .i64 (numL ((l0.drop a1.toNat).take a2.toNat))) ∧ Drawn0 w w' := by
  obtain ⟨a, rfl⟩ := Int.eq_ofNat_of_zero_le ha
  obtain ⟨b, rfl⟩ := Int.eq_ofNat_of_zero_le hb
  obtain ⟨i0, hi, _, hsz, _⟩ := info_parts info5
  obtain ⟨A1, hcut, hA, hC⟩ := print_mid_of (P := Try.prog) (Value.int .u8) 0 38 5 .i64 .i64 Try.underlying38 hi hsz A0 c0 l0 (a : Int) ((a : Int) + (b : Int)) ha (by omega) (by omega) hc0
  have es : ((l0.take ((a : Int) + (b : Int)).toNat).drop (a : Int).toNat) = (l0.drop a).take b := by
    rw [show ((a : Int) + (b : Int)).toNat = a + b by omega, show (a : Int).toNat = a by omega, List.drop_take]
    congr 1
    omega
  have hrd := hA w (Kd.reads_of_C hr0)
  rw [es] at hcut hrd
  rw [show (a : Int).toNat = a by omega, show (b : Int).toNat = b by omega]
  have hs01 : ∀ x ∈ (l0.drop a).take b, x = 0 ∨ x = 1 := fun x hx => h01 x (List.mem_of_mem_drop (List.mem_of_mem_take hx))
  have hlen : ((l0.drop a).take b).length = b := by rw [List.length_take, List.length_drop]; omega
  generalize (l0.drop a).take b = s at *
  subst hlen
  clear hA hC hi hsz hr0
  have H01 := Aside0.mk hs01
  have HR : Aside0 (Kd.C (Kd.int .u8) w A1 s.length s) := Aside0.mk (Kd.C_of_reads (h1 := fun _ => rfl) hrd)
  clear hs01 hrd h01 es
  go_enter Try.func28, Try.ntmps28
  go_wp2
  go_loopg [7, 17] (s.length) (fun kq v7 v17 w' => ∃ (j : Nat), v7 = .int .i64 (numL (s.take j)) ∧ v17 = .int .i64 j ∧ Aside0 (kq + j = s.length) ∧ Drawn0 w w')
  case atStart => exact ⟨0, rfl, rfl, ⟨by omega⟩, Drawn0.refl _⟩
  case round =>
    obtain ⟨j, rfl, rfl, HK, ⟨m1, rfl⟩⟩ := hrel
    have hk := HK.out
    by_cases hj : j < s.length
    · have hr := numL_range s H01.out j (by omega)
      have hp := pow8 j (by omega)
      have h2 := rd_01 s H01.out j hj
      have HS := Aside0.mk (or_spelled (numL (s.take j)) (rd s j) hr.1 (by omega) h2)
      have HT := Aside0.mk (numL_take s j hj)
      obtain ⟨ad, e1, hcell⟩ := Kd.at_int HR.out (j : Int) (by omega) (by omega)
      subst e1
      rw [show ((j : Int)).toNat = j by omega] at hcell
      generalize hnj : numL (s.take j) = nj at *
      generalize hrj : rd s j = rj at *
      have h0 : (0 : Int) ≤ (j : Int) := by omega
      have h1 : (j : Int) < (s.length : Int) := by omega
      have hrj0 : 0 ≤ rj := by omega
      have hrj1 : rj ≤ 1 := by omega
      have hnj0 : 0 ≤ nj := by omega
      have hnj1 : nj ≤ 10000 := by omega
      cases gk with
      | zero => omega
      | succ k1 =>
      clear hr hp h2 hnj hrj hk
      go_wp2
      go_roundg k1
      case measure => omega
      case rel => exact ⟨j + 1, by rw [HT.out, ← HS.out], by go_num, ⟨by have := HK.out; omega⟩, by repeat (first | exact Drawn0.refl _ | apply Drawn0.step)⟩
    · have e : j = s.length := by omega
      subst e
      go_wp2
      go_ret
      exact ⟨by first | rfl | (simp; done) | (rw [List.take_length]), by repeat (first | exact Drawn0.refl _ | apply Drawn0.step)⟩

/-! ### impl_WordPack: function 14 -/
def impl_WordPack.f (k : Nat) (a0 : ByteArray) : Option (ByteArray) := (impl_WordOk.f k a0).bind fun b => if b = true then (if packOk a0 then some (packB a0) else none) else some ⟨#[]⟩
theorem impl_WordPack.mono : ∀ a0 k, LeO (impl_WordPack.f k a0) (impl_WordPack.f (k + 1) a0) := by
  intro a0 k
  unfold impl_WordPack.f
  exact LeO.bind (impl_WordOk.mono _ _) (fun _ => LeO.refl _)
set_option maxHeartbeats 4000000 in
set_option maxRecDepth 100000 in
theorem impl_WordPack.calls (k : Nat) (a0 : ByteArray) (r : ByteArray) (w : World) (h : impl_WordPack.f k a0 = some r) :
    Calls Try.prog 14 #[.string a0] w fun e w' => e = .returned (.string r) ∧ Below w.heap.size w w' := by
  unfold impl_WordPack.f at h
  obtain ⟨b, hA, h⟩ := Option.bind_eq_some_iff.mp h
  cases b with
  | false =>
    simp only [if_neg (show ¬ (false = true) by decide), Option.some.injEq] at h
    subst h
    go_enter Try.func14, Try.ntmps14
    go_wp2_with (go_at_call 17; refine (impl_WordOk.calls k a0 false _ hA).mono ?_; rintro e w' ⟨rfl, ⟨nd, rfl⟩⟩)
    go_ret
    exact ⟨rfl, (Drawn0.step (Drawn0.refl w) nd).below⟩
  | true =>
    rw [if_pos rfl] at h
    by_cases hp : packOk a0
    · rw [if_pos hp] at h
      simp only [Option.some.injEq] at h
      have HP := Aside0.mk hp
      have HR := Aside0.mk h
      have HA := Aside0.mk hA
      have hsz := hp.1
      clear h hA hp
      go_enter Try.func14, Try.ntmps14
      go_wp2_with (go_at_call 17; refine (impl_WordOk.calls k a0 true _ HA.out).mono ?_; rintro e w' ⟨rfl, ⟨nd, rfl⟩⟩)
      go_loopg [13] (a0.size) (fun kq v13 w' => ∃ (x : Int) (v' : Value), v13 = .int .i64 x ∧ Aside0 (kq + x.toNat = a0.size ∧ 0 ≤ x) ∧ Aside0 (w'.heap[w.heap.size]? = some (.cells #[v'] 38 (0, 0))) ∧ Aside0 (Kd.R (Kd.int .u8) 5 w' w.heap.size (fun _ => True) v' (packBits a0 x.toNat)) ∧ Aside0 (Below w.heap.size w w'))
      case atStart => exact ⟨0, .slice none 0 0, rfl, ⟨by omega, by omega⟩, ⟨by simpa using heap_alloc_new (w.drewN nd) _⟩, ⟨Kd.R_nil _ _ _ _ _⟩, ⟨below_alloc (pw_below_drewN (Below.refl _ _) nd) _⟩⟩
      case round =>
        obtain ⟨x, v', rfl, HK, HG, HO, HB⟩ := hrel
        obtain ⟨hk, h0⟩ := HK.out
        by_cases hj : x < a0.size
        · have hpl := HP.out.2 x.toNat (by omega)
          rw [show ((x.toNat : Nat) : Int) = x by omega] at hpl
          cases gk with
          | zero => omega
          | succ k1 =>
          have hle : (packBits a0 x.toNat).length ≤ 1000 := by have := packBits_len a0 x.toNat; omega
          generalize hpe : place (bt a0 x) = p at hpl
          have HPE := Aside0.mk hpe
          clear hpe hk
          obtain ⟨hp0, hp1⟩ := hpl
          have hx := bt_at a0 x
          have q0 := eq_true h0
          have q1 := eq_true hj
          clear h0 hj
          by_cases hp : p < 24
          · go_wp2_with (first | (go_at_call 26; refine (strings_IndexByte.calls _ (bt a0 x) p _ (by rw [← HPE.out]; rfl)).mono ?_; rintro e w' ⟨rfl, ⟨nd, rfl⟩⟩) | (go_at_call 27; refine (add_calls w.heap.size p 5 (packBits a0 x.toNat) v' w _ (pw_below_drewN HB.out _) (blk_drewN HG.out _) (Nat.le_refl _) (Kd.R_drewN HO.out _) (by omega) (by omega) (by omega) (by omega) (by omega)).mono ?_; rintro e w2 ⟨rfl, hb2, v2, hg2, ho2⟩; have N1 := Aside0.mk hb2; have N2 := Aside0.mk hg2; have N3 := Aside0.mk ho2; clear hb2 hg2 ho2))
            go_roundg k1
            case measure => have := HK.out.1; omega
            case rel =>
              have h0 := of_eq_true q0
              have hj := of_eq_true q1
              have h64 : wrap64 (x + 1) = x + 1 := by unfold wrap64; omega
              refine ⟨x + 1, v2, by rw [h64], ⟨by have := HK.out.1; omega, by omega⟩, N2, ⟨?_⟩, N1⟩
              · have h9 := N3.out
                rw [show (x + 1).toNat = x.toNat + 1 by omega, packBits, show ((x.toNat : Nat) : Int) = x by omega, HPE.out]
                unfold signBits
                rw [if_pos hp]
                exact h9
          · go_wp2_with (first | (go_at_call 26; refine (strings_IndexByte.calls _ (bt a0 x) p _ (by rw [← HPE.out]; rfl)).mono ?_; rintro e w' ⟨rfl, ⟨nd, rfl⟩⟩) | (go_at_call 27; refine (add_calls w.heap.size (96 + p - 24) 7 (packBits a0 x.toNat) v' w _ (pw_below_drewN HB.out _) (blk_drewN HG.out _) (Nat.le_refl _) (Kd.R_drewN HO.out _) (by omega) (by omega) (by omega) (by omega) (by omega)).mono ?_; rintro e w2 ⟨rfl, hb2, v2, hg2, ho2⟩; have N1 := Aside0.mk hb2; have N2 := Aside0.mk hg2; have N3 := Aside0.mk ho2; clear hb2 hg2 ho2))
            go_roundg k1
            case measure => have := HK.out.1; omega
            case rel =>
              have h0 := of_eq_true q0
              have hj := of_eq_true q1
              have h64 : wrap64 (x + 1) = x + 1 := by unfold wrap64; omega
              refine ⟨x + 1, v2, by rw [h64], ⟨by have := HK.out.1; omega, by omega⟩, N2, ⟨?_⟩, N1⟩
              · have h9 := N3.out
                rw [show (x + 1).toNat = x.toNat + 1 by omega, packBits, show ((x.toNat : Nat) : Int) = x by omega, HPE.out]
                unfold signBits
                rw [if_neg (by omega)]
                exact h9
        · have e : x.toNat = a0.size := by omega
          have HO1 := HO.out
          rw [e] at HO1
          have HO' := Aside0.mk HO1
          have hle : (packBits a0 a0.size).length ≤ 1000 := by have := packBits_len a0 a0.size; omega
          clear HO HO1 e hk h0
          have h01 := pack01 a0 a0.size
          generalize hP : packBits a0 a0.size = ys0 at *
          have HP0 := Aside0.mk hP
          have H01 := Aside0.mk h01
          clear hP h01
          go_wp2
          go_loopg [] (8) (fun kq w' => ∃ (v' : Value) (ys : List Int), Aside0 ((8 - ys.length % 8) % 8 ≤ kq ∧ kq + ys.length ≤ ys0.length + 8) ∧ Aside0 (padBits ys = padBits ys0) ∧ Aside0 (∀ x ∈ ys, x = 0 ∨ x = 1) ∧ Aside0 (w'.heap[w.heap.size]? = some (.cells #[v'] 38 (0, 0))) ∧ Aside0 (Kd.R (Kd.int .u8) 5 w' w.heap.size (fun _ => True) v' ys) ∧ Aside0 (Below w.heap.size w w'))
          case atStart => exact ⟨v', ys0, ⟨by omega, by omega⟩, ⟨rfl⟩, H01, HG, HO', HB⟩
          case round =>
            clear HG HO' HB HK hj
            obtain ⟨v', ys, HK, HPY, H01y, HG, HO, HB⟩ := hrel
            obtain ⟨hk, hkl⟩ := HK.out
            obtain ⟨A, c, hv, hlc, hC⟩ := Kd.R_reads HO.out
            subst hv
            have hc : wr.cell? ⟨w.heap.size, 0, none⟩ = some (.slice A ys.length c) := (blk_cell HG.out 0).trans rfl
            have hf := blk_frozen HG.out 0
            by_cases hm : ys.length % 8 = 0
            · have t1 : ((((ys.length : Nat) : Int) % 8) != 0) = false := by rw [bne_eq_false_iff_eq]; omega
              have t2 : ((((ys.length : Nat) : Int) % 8) == 0) = true := by rw [beq_iff_eq]; omega
              have hle : ys.length ≤ 1010 := by omega
              have HCr := Aside0.mk hC
              have HF := Aside0.mk (show r = strOfNums (bytesL ys (ys.length / 8)) by
                rw [← HR.out]; unfold packB; rw [HP0.out, ← HPY.out, pad_done ys hm])
              clear hC
              go_wp2
              obtain ⟨wl, hwl⟩ : ∃ wl : World, wl = wr := ⟨_, rfl⟩
              subst hwl
              go_loopg [6, 7] (ys.length / 8) (fun kq v6 v7 w' => ∃ (m : Nat), v7 = .int .i64 (8 * (m : Int)) ∧ Aside0 (kq + m = ys.length / 8) ∧ Aside0 (Kd.R (Kd.int .u8) 5 w' wl.heap.size (fun _ => True) v6 (bytesL ys m)) ∧ Aside0 (Below wl.heap.size wl w'))
              case atStart => exact ⟨0, rfl, ⟨by omega⟩, ⟨Kd.R_nil _ _ _ _ _⟩, ⟨Below.refl _ _⟩⟩
              case round =>
                clear hc hf t1 t2
                obtain ⟨m, rfl, HK3, HO6, HB3⟩ := hrel
                have hk3 := HK3.out
                obtain ⟨Ao, co, hv6, _, _⟩ := Kd.R_reads HO6.out
                subst hv6
                have hcw : wr.cell? ⟨w.heap.size, 0, none⟩ = some (.slice A ys.length c) := (blk_cell (blk_below HG.out HB3.out) 0).trans rfl
                by_cases h3 : 8 * (m : Int) < (ys.length : Int)
                · cases gk with
                  | zero => omega
                  | succ k1 =>
                  have hnr := numL_range ((ys.drop (8 * m)).take 8) (fun z hz => H01y.out z (List.mem_of_mem_drop (List.mem_of_mem_take hz))) ((ys.drop (8 * m)).take 8).length (Nat.le_refl _)
                  rw [List.take_length] at hnr
                  have hn8 := pow8 ((ys.drop (8 * m)).take 8).length (by rw [List.length_take]; omega)
                  have hnl : numL (List.take (8 : Int).toNat (List.drop (8 * (m : Int)).toNat ys)) = numL ((ys.drop (8 * m)).take 8) := by
                    rw [show (8 * (m : Int)).toNat = 8 * m by omega]; rfl
                  have hbl : (bytesL ys m).length ≤ 1000 := by rw [bytesL_len]; omega
                  generalize hpp : numL ((ys.drop (8 * m)).take 8) = p at hnr hnl
                  have HPP := Aside0.mk hpp
                  have HNL := Aside0.mk hnl
                  have hp0 : 0 ≤ p := hnr.1
                  have hp1 : p ≤ 255 := by omega
                  have hb9 := HB3.out.size
                  clear hpp hnl hnr hn8 hk3
                  go_wp2_with (first | (go_at_call 28; refine (number_calls A c ys (8 * (m : Int)) 8 _ (Kd.C_below HCr.out HB3.out) hlc (by omega) (by omega) (by omega) (by omega) (by omega) H01y.out).mono ?_; rw [HNL.out]; rintro e w' ⟨rfl, ⟨nd, rfl⟩⟩) | (at_builtin; refine Kd.R_append (Kd.int .u8) (w0 := wl) wl.heap.size rfl (.tmp 40) (.tmp 45) 25 5 (.int .u8 0) 1 rfl Try.underlying25 info5 rfl (by decide) (by omega) (.slice Ao (bytesL ys m).length co) (bytesL ys m) p [.int .u8 p] (fun _ => True) (fun _ => False) rfl rfl ?aP (fun _ hk => hk.elim) ?aF ?aO ?aB ?aS ?aL ?_; (case aP => exact rfl); (case aB => exact pw_below_drewN HB3.out _); (case aF => exact (fun _ _ => trivial)); (case aO => exact Kd.R_drewN HO6.out _); (case aS => exact hb9); (case aL => omega); intro v138 w22 ho hb hg hat; have N1 := Aside0.mk hb; have N2 := Aside0.mk ho; clear ho hb hg hat))
                  go_roundg k1
                  case measure => have := HK3.out; omega
                  case rel =>
                    refine ⟨m + 1, by rw [show 8 * ((m + 1 : Nat) : Int) = 8 * (m : Int) + 8 by omega], ⟨by have := HK3.out; omega⟩, ⟨?_⟩, N1⟩
                    have h9 := N2.out
                    rw [← HPP.out] at h9
                    exact h9
                · have hcv := own_string (P := Try.prog) Try.underlying25 Try.underlying5 Try.underlying9 (Kd.own_of_R HO6.out)
                  have em := Aside0.mk (show m = ys.length / 8 by omega)
                  clear hk3
                  go_wp2
                  go_ret
                  have h9 := HF.out
                  rw [← em.out] at h9
                  subst h9
                  refine ⟨by first | rfl | (simp; done) | (simp <;> rfl), ?_⟩
                  exact below_then HB.out HB.out.size HB3.out
            · have t1 : ((((ys.length : Nat) : Int) % 8) != 0) = true := by rw [bne_iff_ne]; omega
              have t2 : ((((ys.length : Nat) : Int) % 8) == 0) = false := by rw [beq_eq_false_iff_ne]; omega
              cases gk with
              | zero => omega
              | succ k1 =>
              go_wp2_with (go_at_call 27; refine (add_calls w.heap.size 1 1 ys _ w _ HB.out HG.out (Nat.le_refl _) HO.out (by omega) (by omega) (by omega) (by omega) (by omega)).mono ?_; rintro e w2 ⟨rfl, hb2, v2, hg2, ho2⟩; have N1 := Aside0.mk hb2; have N2 := Aside0.mk hg2; have N3 := Aside0.mk ho2; clear hb2 hg2 ho2)
              go_roundg k1
              case measure => omega
              case rel => exact ⟨v2, ys ++ [1], ⟨by simp; omega, by simp; omega⟩, ⟨by rw [pad_step ys hm]; exact HPY.out⟩, ⟨by intro z hz; simp at hz; rcases hz with hz | hz; exact H01y.out z hz; exact .inr hz⟩, N2, ⟨by have h9 := N3.out; rw [bitsL_one] at h9; exact h9⟩, N1⟩
    · rw [if_neg hp] at h
      cases h

/-! ### impl_WordUnpack: function 20 -/
def impl_WordUnpack.f (k : Nat) (a0 : ByteArray) : Option (ByteArray × Bool) :=
  if a0.size > 16 then some (⟨#[]⟩, false) else
  (impl_WordOk.f k (upW a0)).bind fun ok => if ok = true then (impl_WordPack.f k (upW a0)).bind fun p => if p = a0 then some (upW a0, true) else some (⟨#[]⟩, false) else some (⟨#[]⟩, false)
theorem impl_WordUnpack.mono : ∀ a0 k, LeO (impl_WordUnpack.f k a0) (impl_WordUnpack.f (k + 1) a0) := by
  intro a0 k
  unfold impl_WordUnpack.f
  refine LeO.ite (LeO.refl _) (LeO.bind (impl_WordOk.mono _ _) (fun _ => LeO.ite (LeO.bind (impl_WordPack.mono _ _) (fun _ => LeO.refl _)) (LeO.refl _)))
set_option maxHeartbeats 8000000 in
set_option maxRecDepth 100000 in
theorem impl_WordUnpack.calls (k : Nat) (a0 : ByteArray) (r1 : ByteArray) (r2 : Bool) (w : World) (h : impl_WordUnpack.f k a0 = some (r1, r2)) :
    Calls Try.prog 20 #[.string a0] w fun e w' => e = .returned (.tuple #[.string r1, .bool r2]) ∧ Below w.heap.size w w' := by
  unfold impl_WordUnpack.f at h
  by_cases hs : a0.size > 16
  · rw [if_pos hs] at h
    simp only [Option.some.injEq, Prod.mk.injEq] at h
    obtain ⟨rfl, rfl⟩ := h
    go_enter Try.func20, Try.ntmps20
    go_wp2
    go_ret2
    exact ⟨by first | rfl | (simp; done), Below.refl _ _⟩
  · rw [if_neg hs] at h
    have HF := Aside0.mk h
    have hs16 : a0.size ≤ 16 := by omega
    clear h hs
    go_enter Try.func20, Try.ntmps20
    go_wp2
    go_loopg [17] (a0.size) (fun kq v17 w' => ∃ (x : Int) (v' : Value), v17 = .int .i64 x ∧ Aside0 (kq + x.toNat = a0.size ∧ 0 ≤ x) ∧ Aside0 (w'.heap[w.heap.size]? = some (.cells #[v'] 38 (0, 0))) ∧ Aside0 (Kd.R (Kd.int .u8) 5 w' w.heap.size (fun _ => True) v' (bitsB a0 x.toNat)) ∧ Aside0 (Below w.heap.size w w'))
    case atStart => exact ⟨0, .slice none 0 0, rfl, ⟨by omega, by omega⟩, ⟨by simpa using heap_alloc_new w _⟩, ⟨Kd.R_nil _ _ _ _ _⟩, ⟨below_alloc (Below.refl _ _) _⟩⟩
    case round =>
      obtain ⟨x, v', rfl, HK, HG, HO, HB⟩ := hrel
      obtain ⟨hk, h0⟩ := HK.out
      by_cases hj : x < a0.size
      · cases gk with
        | zero => omega
        | succ k1 =>
        have hle : (bitsB a0 x.toNat).length ≤ 1000 := by rw [bitsB_len]; omega
        have hb := bt_byte a0 x
        have hx := bt_at a0 x
        have q0 := eq_true h0
        have q1 := eq_true hj
        clear h0 hj hk
        generalize hbb : bt a0 x = b at hb hx
        have HBB := Aside0.mk hbb
        obtain ⟨hb0, hb1⟩ := hb
        clear hbb
        go_wp2_with (go_at_call 27; refine (add_calls w.heap.size b 8 (bitsB a0 x.toNat) v' w _ HB.out HG.out (Nat.le_refl _) HO.out (by omega) (by omega) (by omega) (by omega) (by omega)).mono ?_; rintro e w2 ⟨rfl, hb2, v2, hg2, ho2⟩; have N1 := Aside0.mk hb2; have N2 := Aside0.mk hg2; have N3 := Aside0.mk ho2; clear hb2 hg2 ho2)
        go_roundg k1
        case measure => have := HK.out.1; omega
        case rel =>
          have h0 := of_eq_true q0
          have hj := of_eq_true q1
          have h64 : wrap64 (x + 1) = x + 1 := by unfold wrap64; omega
          refine ⟨x + 1, v2, by rw [h64], ⟨by have := HK.out.1; omega, by omega⟩, N2, ⟨?_⟩, N1⟩
          have h9 := N3.out
          rw [show (x + 1).toNat = x.toNat + 1 by omega, bitsB, show ((x.toNat : Nat) : Int) = x by omega, HBB.out]
          exact h9
      · have e : x.toNat = a0.size := by omega
        have HO1 := HO.out
        rw [e] at HO1
        obtain ⟨A, c, hv, hlc, hC⟩ := Kd.R_reads HO1
        have hLlen := bitsB_len a0 a0.size
        have hLb : Bits (bitsB a0 a0.size) := bitsB_bits a0 _
        have HD := Aside0.mk (show (decF 30 (bitsB a0 a0.size)).1 = (decF 30 (bitsB a0 a0.size)).1 from rfl)
        have HU := Aside0.mk (show upW a0 = strOfNums ((decF 30 (bitsB a0 a0.size)).1.map signAt) from rfl)
        generalize hL : bitsB a0 a0.size = L at *
        clear hL HO HO1 HD
        subst hv
        have HC := Aside0.mk hC
        have HLB := Aside0.mk hLb
        have HLZ : Aside0 (∀ z ∈ L, z = 0 ∨ z = 1) := ⟨hLb⟩
        have hc : wr.cell? ⟨w.heap.size, 0, none⟩ = some (.slice A L.length c) := (blk_cell HG.out 0).trans rfl
        have hLl : L.length ≤ 128 := by omega
        clear hC hLb hk e hLlen
        go_wp2
        obtain ⟨wl, hwl⟩ : ∃ wl : World, wl = wr := ⟨_, rfl⟩
        subst hwl
        go_loopg [6, 7] (30) (fun kq v6 v7 w' => ∃ (x : Int) (o : List Int), v7 = .int .i64 x ∧ Aside0 (0 ≤ x ∧ x ≤ L.length ∧ 5 * (30 - (kq : Int)) ≤ x ∧ kq ≤ 30) ∧ Aside0 (o ++ ((decF kq (L.drop x.toNat)).1.map signAt) = (decF 30 L).1.map signAt) ∧ Aside0 (o.length ≤ x.toNat) ∧ Aside0 (Kd.R (Kd.int .u8) 5 w' wl.heap.size (fun _ => True) v6 o) ∧ Aside0 (Below wl.heap.size wl w'))
        case atStart => exact ⟨0, [], rfl, ⟨by omega, by omega, by omega, by omega⟩, ⟨by simp⟩, ⟨by simp⟩, ⟨Kd.R_nil _ _ _ _ _⟩, ⟨Below.refl _ _⟩⟩
        case round =>
          clear hc
          obtain ⟨x, o, rfl, HK3, HOO, HOL, HO6, HB3⟩ := hrel
          obtain ⟨g0, g1, g2, g3⟩ := HK3.out
          obtain ⟨Ao, co, hv6, _, _⟩ := Kd.R_reads HO6.out
          subst hv6
          have hol := HOL.out
          have hb9 := HB3.out.size
          have hcw : wr.cell? ⟨w.heap.size, 0, none⟩ = some (.slice A L.length c) := (blk_cell (blk_below HG.out HB3.out) 0).trans rfl
          cases gk with
          | zero => omega
          | succ k1 =>
          by_cases h3 : x < (L.length : Int)
          · have hRl : (L.drop x.toNat).length = L.length - x.toNat := List.length_drop
            have hRb := HLB.out.drop x.toNat
            have hm2 : numL (List.take (2 : Int).toNat (List.drop x.toNat L)) = numL ((L.drop x.toNat).take 2) := rfl
            by_cases hA : 2 ≤ (L.drop x.toNat).length ∧ numL ((L.drop x.toNat).take 2) = 3
            · obtain ⟨s1, s2, s3, s4⟩ := dec_step7 k1 _ hRb hA
              have a1 : x + 2 ≤ (L.length : Int) := by omega
              have a2 : decide (x + 2 ≤ (L.length : Int)) = true := decide_eq_true a1
              have HM2 := Aside0.mk (hm2.trans hA.2)
              clear hm2
              by_cases h7 : 7 ≤ (L.drop x.toNat).length
              · have s5 := s4 h7
                have b1 : x + 7 ≤ (L.length : Int) := by omega
                have b2 : decide ((L.length : Int) < x + 7) = false := decide_eq_false (by omega)
                have hm7 : numL (List.take (7 : Int).toNat (List.drop x.toNat L)) = numL ((L.drop x.toNat).take 7) := rfl
                have hr7 := numL_lt _ (hRb.take 7)
                have hp7 := pow8 ((L.drop x.toNat).take 7).length (by rw [List.length_take]; omega)
                by_cases h39 : 39 ≤ numL ((L.drop x.toNat).take 7) - 72
                · have HS := Aside0.mk (s2 h7 h39)
                  clear s1 s2 s3 s4 hA
                  generalize numL ((L.drop x.toNat).take 7) = m7 at *
                  have HM7 := Aside0.mk hm7
                  have c0 : 0 ≤ m7 := hr7.1
                  have c1 : m7 ≤ 256 := by omega
                  have c2 : decide (39 ≤ m7 - 72) = true := decide_eq_true h39
                  clear hm7 hr7 hp7 hRl hRb h7
                  have ho : o = (decF 30 L).1.map signAt := by have h9 := HOO.out; rw [HS.out] at h9; simpa using h9
                  have HW := Aside0.mk (show strOfNums o = upW a0 by rw [HU.out, ho])
                  have hcv := own_string (P := Try.prog) Try.underlying25 Try.underlying5 Try.underlying9 (Kd.own_of_R HO6.out)
                  have hcv1 := fun nd : Nat => own_string (P := Try.prog) Try.underlying25 Try.underlying5 Try.underlying9 (Kd.own_of_R (Kd.R_drewN HO6.out nd))
                  rw [HW.out] at hcv
                  simp only [HW.out] at hcv1
                  clear ho
                  obtain ⟨ok, hok, HF2⟩ := Option.bind_eq_some_iff.mp HF.out
                  generalize hu : upW a0 = u at *
                  have HUU := Aside0.mk hu
                  have HOK := Aside0.mk hok
                  clear hok hu
                  cases ok with
                  | false =>
                    simp only [if_neg (show ¬ (false = true) by decide), Option.some.injEq, Prod.mk.injEq] at HF2
                    obtain ⟨rfl, rfl⟩ := HF2
                    go_wp2_with (first | (go_at_call 28; (with_reducible refine (number_calls A c L x 2 _ (Kd.C_below HC.out (by repeat (first | exact HB3.out | refine pw_below_drewN ?_ _))) hlc (by omega) (by omega) (by omega) (by omega) (by omega) HLZ.out).mono ?_); rw [HM2.out]; rintro e w' ⟨rfl, ⟨nd, rfl⟩⟩) | (go_at_call 28; (with_reducible refine (number_calls A c L x 7 _ (Kd.C_below HC.out (by repeat (first | exact HB3.out | refine pw_below_drewN ?_ _))) hlc (by omega) (by omega) (by omega) (by omega) (by omega) HLZ.out).mono ?_); rw [HM7.out]; rintro e w' ⟨rfl, ⟨nd, rfl⟩⟩) | (go_at_call 17; (with_reducible refine (impl_WordOk.calls k u _ _ HOK.out).mono ?_); rintro e w8 ⟨rfl, hd8⟩; have BB : Aside0 (Below w.heap.size w w8) := ⟨by refine below_then ?_ ?_ (Drawn0.below hd8) <;> (first | exact (below_then HB.out HB.out.size HB3.out).size | (repeat (first | exact below_then HB.out HB.out.size HB3.out | refine pw_below_drewN ?_ _)))⟩; clear hd8) | (go_at_call 14; (with_reducible refine (impl_WordPack.calls k u _ _ HPB.out).mono ?_); rintro e w9 ⟨rfl, hb9⟩; have BB2 := Aside0.mk (below_then BB.out BB.out.size hb9); clear hb9))
                    go_ret2
                    exact ⟨by first | rfl | (simp; done), BB.out⟩
                  | true =>
                    rw [if_pos rfl] at HF2
                    obtain ⟨pb, hpb, HF3⟩ := Option.bind_eq_some_iff.mp HF2
                    have HPB := Aside0.mk hpb
                    clear hpb HF2
                    by_cases hpe : pb = a0
                    · rw [if_pos hpe] at HF3
                      simp only [Option.some.injEq, Prod.mk.injEq] at HF3
                      obtain ⟨rfl, rfl⟩ := HF3
                      subst hpe
                      go_wp2_with (first | (go_at_call 28; (with_reducible refine (number_calls A c L x 2 _ (Kd.C_below HC.out (by repeat (first | exact HB3.out | refine pw_below_drewN ?_ _))) hlc (by omega) (by omega) (by omega) (by omega) (by omega) HLZ.out).mono ?_); rw [HM2.out]; rintro e w' ⟨rfl, ⟨nd, rfl⟩⟩) | (go_at_call 28; (with_reducible refine (number_calls A c L x 7 _ (Kd.C_below HC.out (by repeat (first | exact HB3.out | refine pw_below_drewN ?_ _))) hlc (by omega) (by omega) (by omega) (by omega) (by omega) HLZ.out).mono ?_); rw [HM7.out]; rintro e w' ⟨rfl, ⟨nd, rfl⟩⟩) | (go_at_call 17; (with_reducible refine (impl_WordOk.calls k u _ _ HOK.out).mono ?_); rintro e w8 ⟨rfl, hd8⟩; have BB : Aside0 (Below w.heap.size w w8) := ⟨by refine below_then ?_ ?_ (Drawn0.below hd8) <;> (first | exact (below_then HB.out HB.out.size HB3.out).size | (repeat (first | exact below_then HB.out HB.out.size HB3.out | refine pw_below_drewN ?_ _)))⟩; clear hd8) | (go_at_call 14; (with_reducible refine (impl_WordPack.calls k u _ _ HPB.out).mono ?_); rintro e w9 ⟨rfl, hb9⟩; have BB2 := Aside0.mk (below_then BB.out BB.out.size hb9); clear hb9))
                      go_ret2
                      exact ⟨by first | rfl | (simp; done), BB2.out⟩
                    · rw [if_neg hpe] at HF3
                      simp only [Option.some.injEq, Prod.mk.injEq] at HF3
                      obtain ⟨rfl, rfl⟩ := HF3
                      have hne1 : (pb.toList == a0.toList) = false := by rw [beq_eq_false_iff_ne]; intro h9; exact hpe (toList_inj.1 h9)
                      have hne2 : (pb.toList != a0.toList) = true := by rw [bne_iff_ne]; intro h9; exact hpe (toList_inj.1 h9)
                      go_wp2_with (first | (go_at_call 28; (with_reducible refine (number_calls A c L x 2 _ (Kd.C_below HC.out (by repeat (first | exact HB3.out | refine pw_below_drewN ?_ _))) hlc (by omega) (by omega) (by omega) (by omega) (by omega) HLZ.out).mono ?_); rw [HM2.out]; rintro e w' ⟨rfl, ⟨nd, rfl⟩⟩) | (go_at_call 28; (with_reducible refine (number_calls A c L x 7 _ (Kd.C_below HC.out (by repeat (first | exact HB3.out | refine pw_below_drewN ?_ _))) hlc (by omega) (by omega) (by omega) (by omega) (by omega) HLZ.out).mono ?_); rw [HM7.out]; rintro e w' ⟨rfl, ⟨nd, rfl⟩⟩) | (go_at_call 17; (with_reducible refine (impl_WordOk.calls k u _ _ HOK.out).mono ?_); rintro e w8 ⟨rfl, hd8⟩; have BB : Aside0 (Below w.heap.size w w8) := ⟨by refine below_then ?_ ?_ (Drawn0.below hd8) <;> (first | exact (below_then HB.out HB.out.size HB3.out).size | (repeat (first | exact below_then HB.out HB.out.size HB3.out | refine pw_below_drewN ?_ _)))⟩; clear hd8) | (go_at_call 14; (with_reducible refine (impl_WordPack.calls k u _ _ HPB.out).mono ?_); rintro e w9 ⟨rfl, hb9⟩; have BB2 := Aside0.mk (below_then BB.out BB.out.size hb9); clear hb9))
                      go_ret2
                      exact ⟨by first | rfl | (simp; done), BB2.out⟩
                · have HS := Aside0.mk (s3 h7 (by omega))
                  clear s1 s2 s3 s4 hA
                  generalize numL ((L.drop x.toNat).take 7) = m7 at *
                  have HM7 := Aside0.mk hm7
                  have c0 : 0 ≤ m7 := hr7.1
                  have c1 : m7 ≤ 256 := by omega
                  obtain ⟨q, hq⟩ : ∃ q, q = m7 - 72 := ⟨_, rfl⟩
                  have c3 : 0 ≤ q := by omega
                  have c4 : q < 39 := by omega
                  have hx := bt_at (⟨#[101, 116, 97, 111, 105, 110, 115, 114, 104, 108, 48, 49, 50, 51, 52, 53, 54, 55, 56, 57, 100, 99, 117, 109, 102, 112, 103, 119, 121, 98, 118, 107, 120, 106, 113, 122, 58, 47, 45]⟩ : ByteArray) (m7 - 72)
                  generalize hsp : signAt (m7 - 72) = sp at *
                  have HSP := Aside0.mk hsp
                  have hx2 : bt (⟨#[101, 116, 97, 111, 105, 110, 115, 114, 104, 108, 48, 49, 50, 51, 52, 53, 54, 55, 56, 57, 100, 99, 117, 109, 102, 112, 103, 119, 121, 98, 118, 107, 120, 106, 113, 122, 58, 47, 45]⟩ : ByteArray) (m7 - 72) = sp := hsp
                  rw [hx2] at hx
                  have c5 := eq_true (show 0 ≤ m7 - 72 by omega)
                  have c6 := eq_true (show m7 - 72 < 39 by omega)
                  have c7 : decide (39 ≤ m7 - 72) = false := decide_eq_false h39
                  clear hm7 hr7 hp7 hRl hRb h7 hsp hx2 hq c3 c4 q
                  go_wp2_with (first | (go_at_call 28; (with_reducible refine (number_calls A c L x 2 _ (Kd.C_below HC.out (by repeat (first | exact HB3.out | refine pw_below_drewN ?_ _))) hlc (by omega) (by omega) (by omega) (by omega) (by omega) HLZ.out).mono ?_); rw [HM2.out]; rintro e w' ⟨rfl, ⟨nd, rfl⟩⟩) | (go_at_call 28; (with_reducible refine (number_calls A c L x 7 _ (Kd.C_below HC.out (by repeat (first | exact HB3.out | refine pw_below_drewN ?_ _))) hlc (by omega) (by omega) (by omega) (by omega) (by omega) HLZ.out).mono ?_); rw [HM7.out]; rintro e w' ⟨rfl, ⟨nd, rfl⟩⟩) | (at_builtin; refine Kd.R_append (Kd.int .u8) (w0 := wl) wl.heap.size rfl (.tmp 55) (.tmp 58) 25 5 (.int .u8 0) 1 rfl Try.underlying25 info5 rfl (by decide) (by omega) (.slice Ao o.length co) o sp [.int .u8 sp] (fun _ => True) (fun _ => False) rfl rfl ?aP (fun _ hk => hk.elim) ?aF ?aO ?aB ?aS ?aL ?_; (case aP => exact rfl); (case aB => repeat (first | exact HB3.out | refine pw_below_drewN ?_ _)); (case aF => exact (fun _ _ => trivial)); (case aO => repeat (first | exact HO6.out | refine Kd.R_drewN ?_ _)); (case aS => exact hb9); (case aL => omega); intro v138 w22 ho hb hg hat; have N1 := Aside0.mk hb; have N2 := Aside0.mk ho; clear ho hb hg hat))
                  go_roundg k1
                  case measure => have := HK3.out; omega
                  case rel =>
                    refine ⟨x + 7, o ++ [sp], rfl, ⟨by omega, by omega, by have := HK3.out; omega, by have := HK3.out; omega⟩, ⟨?_⟩, ⟨by simp; omega⟩, N2, N1⟩
                    have h9 := HOO.out
                    rw [HS.out, List.map_cons, HSP.out] at h9
                    rw [List.append_assoc, List.singleton_append, show (x + 7).toNat = x.toNat + 7 by omega, ← List.drop_drop]
                    exact h9
              · have HS := Aside0.mk (s1 (by omega))
                clear s1 s2 s3 s4 hA
                have b2 : decide ((L.length : Int) < x + 7) = true := decide_eq_true (by omega)
                have b3 : (L.length : Int) < x + 7 := by omega
                clear hRl hRb h7
                have ho : o = (decF 30 L).1.map signAt := by have h9 := HOO.out; rw [HS.out] at h9; simpa using h9
                have HW := Aside0.mk (show strOfNums o = upW a0 by rw [HU.out, ho])
                have hcv := own_string (P := Try.prog) Try.underlying25 Try.underlying5 Try.underlying9 (Kd.own_of_R HO6.out)
                have hcv1 := fun nd : Nat => own_string (P := Try.prog) Try.underlying25 Try.underlying5 Try.underlying9 (Kd.own_of_R (Kd.R_drewN HO6.out nd))
                rw [HW.out] at hcv
                simp only [HW.out] at hcv1
                clear ho
                obtain ⟨ok, hok, HF2⟩ := Option.bind_eq_some_iff.mp HF.out
                generalize hu : upW a0 = u at *
                have HUU := Aside0.mk hu
                have HOK := Aside0.mk hok
                clear hok hu
                cases ok with
                | false =>
                  simp only [if_neg (show ¬ (false = true) by decide), Option.some.injEq, Prod.mk.injEq] at HF2
                  obtain ⟨rfl, rfl⟩ := HF2
                  go_wp2_with (first | (go_at_call 28; (with_reducible refine (number_calls A c L x 2 _ (Kd.C_below HC.out (by repeat (first | exact HB3.out | refine pw_below_drewN ?_ _))) hlc (by omega) (by omega) (by omega) (by omega) (by omega) HLZ.out).mono ?_); rw [HM2.out]; rintro e w' ⟨rfl, ⟨nd, rfl⟩⟩) | (go_at_call 17; (with_reducible refine (impl_WordOk.calls k u _ _ HOK.out).mono ?_); rintro e w8 ⟨rfl, hd8⟩; have BB : Aside0 (Below w.heap.size w w8) := ⟨by refine below_then ?_ ?_ (Drawn0.below hd8) <;> (first | exact (below_then HB.out HB.out.size HB3.out).size | (repeat (first | exact below_then HB.out HB.out.size HB3.out | refine pw_below_drewN ?_ _)))⟩; clear hd8) | (go_at_call 14; (with_reducible refine (impl_WordPack.calls k u _ _ HPB.out).mono ?_); rintro e w9 ⟨rfl, hb9⟩; have BB2 := Aside0.mk (below_then BB.out BB.out.size hb9); clear hb9))
                  go_ret2
                  exact ⟨by first | rfl | (simp; done), BB.out⟩
                | true =>
                  rw [if_pos rfl] at HF2
                  obtain ⟨pb, hpb, HF3⟩ := Option.bind_eq_some_iff.mp HF2
                  have HPB := Aside0.mk hpb
                  clear hpb HF2
                  by_cases hpe : pb = a0
                  · rw [if_pos hpe] at HF3
                    simp only [Option.some.injEq, Prod.mk.injEq] at HF3
                    obtain ⟨rfl, rfl⟩ := HF3
                    subst hpe
                    go_wp2_with (first | (go_at_call 28; (with_reducible refine (number_calls A c L x 2 _ (Kd.C_below HC.out (by repeat (first | exact HB3.out | refine pw_below_drewN ?_ _))) hlc (by omega) (by omega) (by omega) (by omega) (by omega) HLZ.out).mono ?_); rw [HM2.out]; rintro e w' ⟨rfl, ⟨nd, rfl⟩⟩) | (go_at_call 17; (with_reducible refine (impl_WordOk.calls k u _ _ HOK.out).mono ?_); rintro e w8 ⟨rfl, hd8⟩; have BB : Aside0 (Below w.heap.size w w8) := ⟨by refine below_then ?_ ?_ (Drawn0.below hd8) <;> (first | exact (below_then HB.out HB.out.size HB3.out).size | (repeat (first | exact below_then HB.out HB.out.size HB3.out | refine pw_below_drewN ?_ _)))⟩; clear hd8) | (go_at_call 14; (with_reducible refine (impl_WordPack.calls k u _ _ HPB.out).mono ?_); rintro e w9 ⟨rfl, hb9⟩; have BB2 := Aside0.mk (below_then BB.out BB.out.size hb9); clear hb9))
                    go_ret2
                    exact ⟨by first | rfl | (simp; done), BB2.out⟩
                  · rw [if_neg hpe] at HF3
                    simp only [Option.some.injEq, Prod.mk.injEq] at HF3
                    obtain ⟨rfl, rfl⟩ := HF3
                    have hne1 : (pb.toList == a0.toList) = false := by rw [beq_eq_false_iff_ne]; intro h9; exact hpe (toList_inj.1 h9)
                    have hne2 : (pb.toList != a0.toList) = true := by rw [bne_iff_ne]; intro h9; exact hpe (toList_inj.1 h9)
                    go_wp2_with (first | (go_at_call 28; (with_reducible refine (number_calls A c L x 2 _ (Kd.C_below HC.out (by repeat (first | exact HB3.out | refine pw_below_drewN ?_ _))) hlc (by omega) (by omega) (by omega) (by omega) (by omega) HLZ.out).mono ?_); rw [HM2.out]; rintro e w' ⟨rfl, ⟨nd, rfl⟩⟩) | (go_at_call 17; (with_reducible refine (impl_WordOk.calls k u _ _ HOK.out).mono ?_); rintro e w8 ⟨rfl, hd8⟩; have BB : Aside0 (Below w.heap.size w w8) := ⟨by refine below_then ?_ ?_ (Drawn0.below hd8) <;> (first | exact (below_then HB.out HB.out.size HB3.out).size | (repeat (first | exact below_then HB.out HB.out.size HB3.out | refine pw_below_drewN ?_ _)))⟩; clear hd8) | (go_at_call 14; (with_reducible refine (impl_WordPack.calls k u _ _ HPB.out).mono ?_); rintro e w9 ⟨rfl, hb9⟩; have BB2 := Aside0.mk (below_then BB.out BB.out.size hb9); clear hb9))
                    go_ret2
                    exact ⟨by first | rfl | (simp; done), BB2.out⟩
            · obtain ⟨s1, s2, s3⟩ := dec_step5 k1 _ hRb hA
              by_cases g : 2 ≤ (L.drop x.toNat).length
              · have a1 : x + 2 ≤ (L.length : Int) := by omega
                have a2 : decide (x + 2 ≤ (L.length : Int)) = true := decide_eq_true a1
                have hne : numL ((L.drop x.toNat).take 2) ≠ 3 := fun e => hA ⟨g, e⟩
                generalize numL ((L.drop x.toNat).take 2) = m2 at *
                have HM2 := Aside0.mk hm2
                have t1 : (m2 == 3) = false := beq_eq_false_iff_ne.2 hne
                clear hm2 hA
                by_cases h5 : 5 ≤ (L.drop x.toNat).length
                · have s5 := s3 h5
                  have HS := Aside0.mk (s2 h5)
                  have b1 : x + 5 ≤ (L.length : Int) := by omega
                  have b2 : decide ((L.length : Int) < x + 5) = false := decide_eq_false (by omega)
                  have hm5 : numL (List.take (5 : Int).toNat (List.drop x.toNat L)) = numL ((L.drop x.toNat).take 5) := rfl
                  have hr5 := numL_lt _ (hRb.take 5)
                  clear s1 s2 s3
                  generalize numL ((L.drop x.toNat).take 5) = m5 at *
                  have HM5 := Aside0.mk hm5
                  have c0 : 0 ≤ m5 := hr5.1
                  have hx := bt_at (⟨#[101, 116, 97, 111, 105, 110, 115, 114, 104, 108, 48, 49, 50, 51, 52, 53, 54, 55, 56, 57, 100, 99, 117, 109, 102, 112, 103, 119, 121, 98, 118, 107, 120, 106, 113, 122, 58, 47, 45]⟩ : ByteArray) m5
                  generalize hsp : signAt m5 = sp at *
                  have HSP := Aside0.mk hsp
                  have hx2 : bt (⟨#[101, 116, 97, 111, 105, 110, 115, 114, 104, 108, 48, 49, 50, 51, 52, 53, 54, 55, 56, 57, 100, 99, 117, 109, 102, 112, 103, 119, 121, 98, 118, 107, 120, 106, 113, 122, 58, 47, 45]⟩ : ByteArray) m5 = sp := hsp
                  rw [hx2] at hx
                  have c5 := eq_true (show 0 ≤ m5 by omega)
                  have c6 := eq_true (show m5 < 39 by omega)
                  have c7 : decide (39 ≤ m5) = false := decide_eq_false (by omega)
                  have c8 : m5 < 39 := by omega
                  clear hm5 hr5 hRl hRb h5 hsp hx2
                  go_wp2_with (first | (go_at_call 28; (with_reducible refine (number_calls A c L x 2 _ (Kd.C_below HC.out (by repeat (first | exact HB3.out | refine pw_below_drewN ?_ _))) hlc (by omega) (by omega) (by omega) (by omega) (by omega) HLZ.out).mono ?_); rw [HM2.out]; rintro e w' ⟨rfl, ⟨nd, rfl⟩⟩) | (go_at_call 28; (with_reducible refine (number_calls A c L x 5 _ (Kd.C_below HC.out (by repeat (first | exact HB3.out | refine pw_below_drewN ?_ _))) hlc (by omega) (by omega) (by omega) (by omega) (by omega) HLZ.out).mono ?_); rw [HM5.out]; rintro e w' ⟨rfl, ⟨nd, rfl⟩⟩) | (at_builtin; refine Kd.R_append (Kd.int .u8) (w0 := wl) wl.heap.size rfl (.tmp 55) (.tmp 58) 25 5 (.int .u8 0) 1 rfl Try.underlying25 info5 rfl (by decide) (by omega) (.slice Ao o.length co) o sp [.int .u8 sp] (fun _ => True) (fun _ => False) rfl rfl ?aP (fun _ hk => hk.elim) ?aF ?aO ?aB ?aS ?aL ?_; (case aP => exact rfl); (case aB => repeat (first | exact HB3.out | refine pw_below_drewN ?_ _)); (case aF => exact (fun _ _ => trivial)); (case aO => repeat (first | exact HO6.out | refine Kd.R_drewN ?_ _)); (case aS => exact hb9); (case aL => omega); intro v138 w22 ho hb hg hat; have N1 := Aside0.mk hb; have N2 := Aside0.mk ho; clear ho hb hg hat))
                  go_roundg k1
                  case measure => have := HK3.out; omega
                  case rel =>
                    refine ⟨x + 5, o ++ [sp], rfl, ⟨by omega, by omega, by have := HK3.out; omega, by have := HK3.out; omega⟩, ⟨?_⟩, ⟨by simp; omega⟩, N2, N1⟩
                    have h9 := HOO.out
                    rw [HS.out, List.map_cons, HSP.out] at h9
                    rw [List.append_assoc, List.singleton_append, show (x + 5).toNat = x.toNat + 5 by omega, ← List.drop_drop]
                    exact h9
                · have HS := Aside0.mk (s1 (by omega))
                  clear s1 s2 s3
                  have b2 : decide ((L.length : Int) < x + 5) = true := decide_eq_true (by omega)
                  have b3 : (L.length : Int) < x + 5 := by omega
                  clear hRl hRb h5
                  have ho : o = (decF 30 L).1.map signAt := by have h9 := HOO.out; rw [HS.out] at h9; simpa using h9
                  have HW := Aside0.mk (show strOfNums o = upW a0 by rw [HU.out, ho])
                  have hcv := own_string (P := Try.prog) Try.underlying25 Try.underlying5 Try.underlying9 (Kd.own_of_R HO6.out)
                  have hcv1 := fun nd : Nat => own_string (P := Try.prog) Try.underlying25 Try.underlying5 Try.underlying9 (Kd.own_of_R (Kd.R_drewN HO6.out nd))
                  rw [HW.out] at hcv
                  simp only [HW.out] at hcv1
                  clear ho
                  obtain ⟨ok, hok, HF2⟩ := Option.bind_eq_some_iff.mp HF.out
                  generalize hu : upW a0 = u at *
                  have HUU := Aside0.mk hu
                  have HOK := Aside0.mk hok
                  clear hok hu
                  cases ok with
                  | false =>
                    simp only [if_neg (show ¬ (false = true) by decide), Option.some.injEq, Prod.mk.injEq] at HF2
                    obtain ⟨rfl, rfl⟩ := HF2
                    go_wp2_with (first | (go_at_call 28; (with_reducible refine (number_calls A c L x 2 _ (Kd.C_below HC.out (by repeat (first | exact HB3.out | refine pw_below_drewN ?_ _))) hlc (by omega) (by omega) (by omega) (by omega) (by omega) HLZ.out).mono ?_); rw [HM2.out]; rintro e w' ⟨rfl, ⟨nd, rfl⟩⟩) | (go_at_call 17; (with_reducible refine (impl_WordOk.calls k u _ _ HOK.out).mono ?_); rintro e w8 ⟨rfl, hd8⟩; have BB : Aside0 (Below w.heap.size w w8) := ⟨by refine below_then ?_ ?_ (Drawn0.below hd8) <;> (first | exact (below_then HB.out HB.out.size HB3.out).size | (repeat (first | exact below_then HB.out HB.out.size HB3.out | refine pw_below_drewN ?_ _)))⟩; clear hd8) | (go_at_call 14; (with_reducible refine (impl_WordPack.calls k u _ _ HPB.out).mono ?_); rintro e w9 ⟨rfl, hb9⟩; have BB2 := Aside0.mk (below_then BB.out BB.out.size hb9); clear hb9))
                    go_ret2
                    exact ⟨by first | rfl | (simp; done), BB.out⟩
                  | true =>
                    rw [if_pos rfl] at HF2
                    obtain ⟨pb, hpb, HF3⟩ := Option.bind_eq_some_iff.mp HF2
                    have HPB := Aside0.mk hpb
                    clear hpb HF2
                    by_cases hpe : pb = a0
                    · rw [if_pos hpe] at HF3
                      simp only [Option.some.injEq, Prod.mk.injEq] at HF3
                      obtain ⟨rfl, rfl⟩ := HF3
                      subst hpe
                      go_wp2_with (first | (go_at_call 28; (with_reducible refine (number_calls A c L x 2 _ (Kd.C_below HC.out (by repeat (first | exact HB3.out | refine pw_below_drewN ?_ _))) hlc (by omega) (by omega) (by omega) (by omega) (by omega) HLZ.out).mono ?_); rw [HM2.out]; rintro e w' ⟨rfl, ⟨nd, rfl⟩⟩) | (go_at_call 17; (with_reducible refine (impl_WordOk.calls k u _ _ HOK.out).mono ?_); rintro e w8 ⟨rfl, hd8⟩; have BB : Aside0 (Below w.heap.size w w8) := ⟨by refine below_then ?_ ?_ (Drawn0.below hd8) <;> (first | exact (below_then HB.out HB.out.size HB3.out).size | (repeat (first | exact below_then HB.out HB.out.size HB3.out | refine pw_below_drewN ?_ _)))⟩; clear hd8) | (go_at_call 14; (with_reducible refine (impl_WordPack.calls k u _ _ HPB.out).mono ?_); rintro e w9 ⟨rfl, hb9⟩; have BB2 := Aside0.mk (below_then BB.out BB.out.size hb9); clear hb9))
                      go_ret2
                      exact ⟨by first | rfl | (simp; done), BB2.out⟩
                    · rw [if_neg hpe] at HF3
                      simp only [Option.some.injEq, Prod.mk.injEq] at HF3
                      obtain ⟨rfl, rfl⟩ := HF3
                      have hne1 : (pb.toList == a0.toList) = false := by rw [beq_eq_false_iff_ne]; intro h9; exact hpe (toList_inj.1 h9)
                      have hne2 : (pb.toList != a0.toList) = true := by rw [bne_iff_ne]; intro h9; exact hpe (toList_inj.1 h9)
                      go_wp2_with (first | (go_at_call 28; (with_reducible refine (number_calls A c L x 2 _ (Kd.C_below HC.out (by repeat (first | exact HB3.out | refine pw_below_drewN ?_ _))) hlc (by omega) (by omega) (by omega) (by omega) (by omega) HLZ.out).mono ?_); rw [HM2.out]; rintro e w' ⟨rfl, ⟨nd, rfl⟩⟩) | (go_at_call 17; (with_reducible refine (impl_WordOk.calls k u _ _ HOK.out).mono ?_); rintro e w8 ⟨rfl, hd8⟩; have BB : Aside0 (Below w.heap.size w w8) := ⟨by refine below_then ?_ ?_ (Drawn0.below hd8) <;> (first | exact (below_then HB.out HB.out.size HB3.out).size | (repeat (first | exact below_then HB.out HB.out.size HB3.out | refine pw_below_drewN ?_ _)))⟩; clear hd8) | (go_at_call 14; (with_reducible refine (impl_WordPack.calls k u _ _ HPB.out).mono ?_); rintro e w9 ⟨rfl, hb9⟩; have BB2 := Aside0.mk (below_then BB.out BB.out.size hb9); clear hb9))
                      go_ret2
                      exact ⟨by first | rfl | (simp; done), BB2.out⟩
              · have HS := Aside0.mk (s1 (by omega))
                clear s1 s2 s3 hm2 hA
                have a1 : ¬ (x + 2 ≤ (L.length : Int)) := by omega
                have a2 : decide (x + 2 ≤ (L.length : Int)) = false := decide_eq_false a1
                have b2 : decide ((L.length : Int) < x + 5) = true := decide_eq_true (by omega)
                have b3 : (L.length : Int) < x + 5 := by omega
                clear hRl hRb g
                have ho : o = (decF 30 L).1.map signAt := by have h9 := HOO.out; rw [HS.out] at h9; simpa using h9
                have HW := Aside0.mk (show strOfNums o = upW a0 by rw [HU.out, ho])
                have hcv := own_string (P := Try.prog) Try.underlying25 Try.underlying5 Try.underlying9 (Kd.own_of_R HO6.out)
                have hcv1 := fun nd : Nat => own_string (P := Try.prog) Try.underlying25 Try.underlying5 Try.underlying9 (Kd.own_of_R (Kd.R_drewN HO6.out nd))
                rw [HW.out] at hcv
                simp only [HW.out] at hcv1
                clear ho
                obtain ⟨ok, hok, HF2⟩ := Option.bind_eq_some_iff.mp HF.out
                generalize hu : upW a0 = u at *
                have HUU := Aside0.mk hu
                have HOK := Aside0.mk hok
                clear hok hu
                cases ok with
                | false =>
                  simp only [if_neg (show ¬ (false = true) by decide), Option.some.injEq, Prod.mk.injEq] at HF2
                  obtain ⟨rfl, rfl⟩ := HF2
                  go_wp2_with (first | (go_at_call 17; (with_reducible refine (impl_WordOk.calls k u _ _ HOK.out).mono ?_); rintro e w8 ⟨rfl, hd8⟩; have BB : Aside0 (Below w.heap.size w w8) := ⟨by refine below_then ?_ ?_ (Drawn0.below hd8) <;> (first | exact (below_then HB.out HB.out.size HB3.out).size | (repeat (first | exact below_then HB.out HB.out.size HB3.out | refine pw_below_drewN ?_ _)))⟩; clear hd8) | (go_at_call 14; (with_reducible refine (impl_WordPack.calls k u _ _ HPB.out).mono ?_); rintro e w9 ⟨rfl, hb9⟩; have BB2 := Aside0.mk (below_then BB.out BB.out.size hb9); clear hb9))
                  go_ret2
                  exact ⟨by first | rfl | (simp; done), BB.out⟩
                | true =>
                  rw [if_pos rfl] at HF2
                  obtain ⟨pb, hpb, HF3⟩ := Option.bind_eq_some_iff.mp HF2
                  have HPB := Aside0.mk hpb
                  clear hpb HF2
                  by_cases hpe : pb = a0
                  · rw [if_pos hpe] at HF3
                    simp only [Option.some.injEq, Prod.mk.injEq] at HF3
                    obtain ⟨rfl, rfl⟩ := HF3
                    subst hpe
                    go_wp2_with (first | (go_at_call 17; (with_reducible refine (impl_WordOk.calls k u _ _ HOK.out).mono ?_); rintro e w8 ⟨rfl, hd8⟩; have BB : Aside0 (Below w.heap.size w w8) := ⟨by refine below_then ?_ ?_ (Drawn0.below hd8) <;> (first | exact (below_then HB.out HB.out.size HB3.out).size | (repeat (first | exact below_then HB.out HB.out.size HB3.out | refine pw_below_drewN ?_ _)))⟩; clear hd8) | (go_at_call 14; (with_reducible refine (impl_WordPack.calls k u _ _ HPB.out).mono ?_); rintro e w9 ⟨rfl, hb9⟩; have BB2 := Aside0.mk (below_then BB.out BB.out.size hb9); clear hb9))
                    go_ret2
                    exact ⟨by first | rfl | (simp; done), BB2.out⟩
                  · rw [if_neg hpe] at HF3
                    simp only [Option.some.injEq, Prod.mk.injEq] at HF3
                    obtain ⟨rfl, rfl⟩ := HF3
                    have hne1 : (pb.toList == a0.toList) = false := by rw [beq_eq_false_iff_ne]; intro h9; exact hpe (toList_inj.1 h9)
                    have hne2 : (pb.toList != a0.toList) = true := by rw [bne_iff_ne]; intro h9; exact hpe (toList_inj.1 h9)
                    go_wp2_with (first | (go_at_call 17; (with_reducible refine (impl_WordOk.calls k u _ _ HOK.out).mono ?_); rintro e w8 ⟨rfl, hd8⟩; have BB : Aside0 (Below w.heap.size w w8) := ⟨by refine below_then ?_ ?_ (Drawn0.below hd8) <;> (first | exact (below_then HB.out HB.out.size HB3.out).size | (repeat (first | exact below_then HB.out HB.out.size HB3.out | refine pw_below_drewN ?_ _)))⟩; clear hd8) | (go_at_call 14; (with_reducible refine (impl_WordPack.calls k u _ _ HPB.out).mono ?_); rintro e w9 ⟨rfl, hb9⟩; have BB2 := Aside0.mk (below_then BB.out BB.out.size hb9); clear hb9))
                    go_ret2
                    exact ⟨by first | rfl | (simp; done), BB2.out⟩
          · have HS : Aside0 ((decF (k1 + 1) (L.drop x.toNat)).1 = []) := ⟨by rw [List.drop_of_length_le (by omega)]; rfl⟩
            have ho : o = (decF 30 L).1.map signAt := by have h9 := HOO.out; rw [HS.out] at h9; simpa using h9
            have HW := Aside0.mk (show strOfNums o = upW a0 by rw [HU.out, ho])
            have hcv := own_string (P := Try.prog) Try.underlying25 Try.underlying5 Try.underlying9 (Kd.own_of_R HO6.out)
            have hcv1 := fun nd : Nat => own_string (P := Try.prog) Try.underlying25 Try.underlying5 Try.underlying9 (Kd.own_of_R (Kd.R_drewN HO6.out nd))
            rw [HW.out] at hcv
            simp only [HW.out] at hcv1
            clear ho
            obtain ⟨ok, hok, HF2⟩ := Option.bind_eq_some_iff.mp HF.out
            generalize hu : upW a0 = u at *
            have HUU := Aside0.mk hu
            have HOK := Aside0.mk hok
            clear hok hu
            cases ok with
            | false =>
              simp only [if_neg (show ¬ (false = true) by decide), Option.some.injEq, Prod.mk.injEq] at HF2
              obtain ⟨rfl, rfl⟩ := HF2
              go_wp2_with (first | (go_at_call 17; (with_reducible refine (impl_WordOk.calls k u _ _ HOK.out).mono ?_); rintro e w8 ⟨rfl, hd8⟩; have BB : Aside0 (Below w.heap.size w w8) := ⟨by refine below_then ?_ ?_ (Drawn0.below hd8) <;> (first | exact (below_then HB.out HB.out.size HB3.out).size | (repeat (first | exact below_then HB.out HB.out.size HB3.out | refine pw_below_drewN ?_ _)))⟩; clear hd8) | (go_at_call 14; (with_reducible refine (impl_WordPack.calls k u _ _ HPB.out).mono ?_); rintro e w9 ⟨rfl, hb9⟩; have BB2 := Aside0.mk (below_then BB.out BB.out.size hb9); clear hb9))
              go_ret2
              exact ⟨by first | rfl | (simp; done), BB.out⟩
            | true =>
              rw [if_pos rfl] at HF2
              obtain ⟨pb, hpb, HF3⟩ := Option.bind_eq_some_iff.mp HF2
              have HPB := Aside0.mk hpb
              clear hpb HF2
              by_cases hpe : pb = a0
              · rw [if_pos hpe] at HF3
                simp only [Option.some.injEq, Prod.mk.injEq] at HF3
                obtain ⟨rfl, rfl⟩ := HF3
                subst hpe
                go_wp2_with (first | (go_at_call 17; (with_reducible refine (impl_WordOk.calls k u _ _ HOK.out).mono ?_); rintro e w8 ⟨rfl, hd8⟩; have BB : Aside0 (Below w.heap.size w w8) := ⟨by refine below_then ?_ ?_ (Drawn0.below hd8) <;> (first | exact (below_then HB.out HB.out.size HB3.out).size | (repeat (first | exact below_then HB.out HB.out.size HB3.out | refine pw_below_drewN ?_ _)))⟩; clear hd8) | (go_at_call 14; (with_reducible refine (impl_WordPack.calls k u _ _ HPB.out).mono ?_); rintro e w9 ⟨rfl, hb9⟩; have BB2 := Aside0.mk (below_then BB.out BB.out.size hb9); clear hb9))
                go_ret2
                exact ⟨by first | rfl | (simp; done), BB2.out⟩
              · rw [if_neg hpe] at HF3
                simp only [Option.some.injEq, Prod.mk.injEq] at HF3
                obtain ⟨rfl, rfl⟩ := HF3
                have hne1 : (pb.toList == a0.toList) = false := by rw [beq_eq_false_iff_ne]; intro h9; exact hpe (toList_inj.1 h9)
                have hne2 : (pb.toList != a0.toList) = true := by rw [bne_iff_ne]; intro h9; exact hpe (toList_inj.1 h9)
                go_wp2_with (first | (go_at_call 17; (with_reducible refine (impl_WordOk.calls k u _ _ HOK.out).mono ?_); rintro e w8 ⟨rfl, hd8⟩; have BB : Aside0 (Below w.heap.size w w8) := ⟨by refine below_then ?_ ?_ (Drawn0.below hd8) <;> (first | exact (below_then HB.out HB.out.size HB3.out).size | (repeat (first | exact below_then HB.out HB.out.size HB3.out | refine pw_below_drewN ?_ _)))⟩; clear hd8) | (go_at_call 14; (with_reducible refine (impl_WordPack.calls k u _ _ HPB.out).mono ?_); rintro e w9 ⟨rfl, hb9⟩; have BB2 := Aside0.mk (below_then BB.out BB.out.size hb9); clear hb9))
                go_ret2
                exact ⟨by first | rfl | (simp; done), BB2.out⟩
    

end Go.Proofs.Ytajjleldnobhmaa.PFnWordBack
