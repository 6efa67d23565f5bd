-- WRITTEN BY a turned print (wip/tools of the prover's repo)
import Derived.Test.YtdhahifdcoinhaaPFnHeadAgainx0
import Derived.Test.YtdhahifdcoinhaaPFnHeadAgainx3
import Derived.Test.YtdhahifdcoinhaaPFnHeadAgainx4
import Derived.Test.YtdhahifdcoinhaaPFnHeadAgainx10
namespace Go.Proofs.Ytdhahifdcoinhaa.PFnHeadAgain
open Go.RowKit Go.Proofs.YtdhahifdcoinhaaW.PrintWords Go.Proofs.YtdhahifdcoinhaaW.PrintLast Go.Proofs.YtdhahifdcoinhaaW.PrintMore Go.Proofs.Ytdhahifdcoinhaa.Lm
attribute [local go_sem] max2_int min2_int max_two min_two max_three min_three max_four min_four   -- for this text's walks alone
set_option linter.unusedVariables false
set_option linter.unusedSimpArgs false

/-! ### impl_bitRow_add: function 103 -/
-- by hand
set_option maxHeartbeats 4000000 in
set_option maxRecDepth 100000 in
theorem add_calls (g : Nat) (n bits : Int) (xs : List Int) (v : Value) (w0 w : World) (hB : Below w0.heap.size w0 w) (hg : w.heap[g]? = some (.cells #[v] 106 (0, 0))) (hge : w0.heap.size ≤ g)
   (ho : Kd.R (Kd.int .u8) 5 w w0.heap.size (fun _ => True) v xs) (hn : 0 ≤ n) (hn1 : n < 1000) (hb0 : 0 ≤ bits) (hb1 : bits ≤ 8) (hl : xs.length ≤ 1000000) :
   Calls Try.prog 103 #[.pointer (some ⟨g, 0, none⟩), .int .i64 n, .int .i64 bits] w fun e w' => e = .returned (.tuple #[]) ∧ Below w0.heap.size w0 w' ∧
     ∃ v', w'.heap[g]? = some (.cells #[v'] 106 (0, 0)) ∧ Kd.R (Kd.int .u8) 5 w' w0.heap.size (fun _ => True) v' (xs ++ bitsL n bits.toNat) := by
  obtain ⟨i0, hi, hz0, hz1, hz2⟩ := info_parts info5
  have HG := Aside0.mk hg
  have HO := Aside0.mk ho
  have HB := Aside0.mk hB
  clear hg ho hB
  go_enter Try.func103, Try.ntmps103
  go_wp2
  go_loopg [2] (bits.toNat) (fun kq v2 w' => ∃ (x : Int) (v' : Value) (ys : List Int), v2 = .int .i64 x ∧ Aside0 (kq = (x + 1).toNat ∧ -1 ≤ x ∧ x < bits) ∧ Aside0 (w'.heap[g]? = some (.cells #[v'] 106 (0, 0))) ∧ Aside0 (Kd.R (Kd.int .u8) 5 w' w0.heap.size (fun _ => True) v' ys) ∧ Aside0 (ys ++ bitsL n (x+1).toNat = xs ++ bitsL n bits.toNat) ∧ Aside0 (ys.length ≤ xs.length + 8) ∧ Aside0 (Below w0.heap.size w0 w'))
  case atStart => exact ⟨bits - 1, v, xs, rfl, ⟨by omega, by omega, by omega⟩, HG, HO, ⟨by rw [show (bits - 1 + 1) = bits by omega]⟩, ⟨by omega⟩, HB⟩
  case round =>
    obtain ⟨x, v', ys, rfl, HK, HG', HO', HY, HL, HB'⟩ := hrel
    have hx0 := HK.out.2.1
    have hx1 := HK.out.2.2
    by_cases hx : 0 ≤ x
    · have hc : wr.cell? ⟨g, 0, none⟩ = some v' := (blk_cell HG'.out 0).trans rfl
      have hf := blk_frozen HG'.out 0
      have hown := Kd.own_of_R HO'.out
      have hlt := blk_lt HG'.out
      have hne := own_ne hown HG'.out (by decide)
      have hbs := HB'.out.size
      have hyl := HL.out
      have hk1 := HK.out.1
      cases gk with
      | zero => omega
      | succ k1 =>
      have HBit := Aside0.mk (bit_spelled n x.toNat hn hn1)
      generalize hbt : bitAt n x.toNat = bt at HBit
      have HBt := Aside0.mk hbt
      clear hbt hk1
      go_wp2
      go_region_law
        ((refine step_append_lies _ (by rfl) _ _ _ (by rfl) w0.heap.size 5 i0 _ 1 1 Try.underlying106 hi hz0 hz1 hz2 rfl (by omega) v' ys.length (encs (Value.int .u8) ys) (by rfl) ((hown.alloc _).drew)
            ⟨wr.heap.size, 0, none⟩ 1 1 [.int .u8 (IntKind.u8.wrap (Go.bits .and .i64 (n / 2 ^ x.toNat) 1))] (by rfl) (by rfl) (World.news_of_block (cs := #[.int .u8 (IntKind.u8.wrap (Go.bits .and .i64 (n / 2 ^ x.toNat) 1))]) (t := 5) (fr := (0, 0)) (heap_alloc_new wr _)) (by simp [Value.oneCell'])
            (by omega) (by unfold maxLen; omega) (by omega) (by simp; omega) (wr.heap.size + 1) (by simp) ?_; intro gg cap w1 hown1 hgrow hat hlt1
          have hh1 := blk_grown (blk_drew (blk_alloc HG'.out (.cells #[.int .u8 (IntKind.u8.wrap (Go.bits .and .i64 (n / 2 ^ x.toNat) 1))] 5))) hgrow hne
          have hc1 : w1.cell? ⟨g, 0, none⟩ = some v' := (blk_cell hh1 0).trans rfl
          have hf1 := blk_frozen hh1 0))
      all_goals
        have hgg := own_ne hown1 hh1 (by decide)
        have N1 := Aside0.mk (blk_put (cs' := #[.slice (some ⟨gg, 0, none⟩) (ys.length + 1) cap]) hh1 0 (.slice (some ⟨gg, 0, none⟩) (ys.length + 1) cap) rfl)
        have N2 := Aside0.mk (below_set (j := 0) (v := .slice (some ⟨gg, 0, none⟩) (ys.length + 1) cap) (Below.grown (below_drew (HB'.out.alloc hbs (.cells #[.int .u8 (IntKind.u8.wrap (Go.bits .and .i64 (n / 2 ^ x.toNat) 1))] 5))) hgrow (by simp; omega) (fun k hk => own_base hown k hk)) hge)
        have N3 := Aside0.mk (own_setCell hown1 (p := ⟨g, 0, none⟩) hgg (.slice (some ⟨gg, 0, none⟩) (ys.length + 1) cap))
        clear hgg hh1 hc1 hf1 hc hf hown hne hat hlt1 hown1 hgrow
        go_wp2
        go_roundg k1
        case measure => have := HK.out.1; omega
        case rel =>
          refine ⟨x - 1, _, ys ++ [bt], rfl, ⟨by have := HK.out.1; omega, by omega, by omega⟩, N1, ⟨?_⟩, ⟨?_⟩, ⟨?_⟩, N2⟩
          · rw [HBit.out] at N3
            refine Kd.R_of_own ?_ (fun _ _ => trivial)
            have := N3.out
            rw [List.length_append, encs_append]
            exact this
          · have h1 : (x + 1).toNat = x.toNat + 1 := by omega
            have h2 := HY.out
            rw [h1, bitsL, HBt.out] at h2
            rw [show (x - 1 + 1) = x by omega, List.append_assoc]
            exact h2
          · have h1 := congrArg List.length HY.out
            simp [bitsL_length] at h1 ⊢
            omega
    · go_wp2
      go_end0
      refine ⟨rfl, HB'.out, v', HG'.out, ?_⟩
      have e : (x + 1).toNat = 0 := by omega
      have hy := HY.out
      rw [e] at hy
      simp only [bitsL, List.append_nil] at hy
      rw [← hy]
      exact HO'.out

/-! ### impl_bitRow_number: function 104 -/
-- by hand
set_option maxHeartbeats 4000000 in
set_option maxRecDepth 100000 in
theorem number_calls (A0 : Option Addr) (c0 : Nat) (l0 : List Int) (a1 a2 : Int) (w : World) (hr0 : Kd.C (Kd.int .u8) w A0 l0.length l0) (hc0 : l0.length ≤ c0)
    (ha : 0 ≤ a1) (hb : 0 ≤ a2) (hb8 : a2 ≤ 8) (hab : a1 + a2 ≤ l0.length) (hl : l0.length ≤ 1000000) (h01 : ∀ x ∈ l0, x = 0 ∨ x = 1) :
    Calls Try.prog 104 #[.slice A0 l0.length c0, .int .i64 a1, .int .i64 a2] w fun e w' => e = .returned (.int .i64 (numL ((l0.drop a1.toNat).take a2.toNat))) ∧ Drawn0 w w' := by
  obtain ⟨a, rfl⟩ := Int.eq_ofNat_of_zero_le ha
  obtain ⟨b, rfl⟩ := Int.eq_ofNat_of_zero_le hb
  obtain ⟨i0, hi, _, hsz, _⟩ := info_parts info5
  obtain ⟨A1, hcut, hA, hC⟩ := print_mid_of (P := Try.prog) (Value.int .u8) 0 106 5 .i64 .i64 Try.underlying106 hi hsz A0 c0 l0 (a : Int) ((a : Int) + (b : Int)) ha (by omega) (by omega) hc0
  have es : ((l0.take ((a : Int) + (b : Int)).toNat).drop (a : Int).toNat) = (l0.drop a).take b := by
    rw [show ((a : Int) + (b : Int)).toNat = a + b by omega, show (a : Int).toNat = a by omega, List.drop_take]
    congr 1
    omega
  have hrd := hA w (Kd.reads_of_C hr0)
  rw [es] at hcut hrd
  rw [show (a : Int).toNat = a by omega, show (b : Int).toNat = b by omega]
  have hs01 : ∀ x ∈ (l0.drop a).take b, x = 0 ∨ x = 1 := fun x hx => h01 x (List.mem_of_mem_drop (List.mem_of_mem_take hx))
  have hlen : ((l0.drop a).take b).length = b := by rw [List.length_take, List.length_drop]; omega
  generalize (l0.drop a).take b = s at *
  subst hlen
  clear hA hC hi hsz hr0
  have H01 := Aside0.mk hs01
  have HR : Aside0 (Kd.C (Kd.int .u8) w A1 s.length s) := Aside0.mk (Kd.C_of_reads (h1 := fun _ => rfl) hrd)
  clear hs01 hrd h01 es
  go_enter Try.func104, Try.ntmps104
  go_wp2
  go_loopg [7, 17] (s.length) (fun kq v7 v17 w' => ∃ (j : Nat), v7 = .int .i64 (numL (s.take j)) ∧ v17 = .int .i64 j ∧ Aside0 (kq + j = s.length) ∧ Drawn0 w w')
  case atStart => exact ⟨0, rfl, rfl, ⟨by omega⟩, Drawn0.refl _⟩
  case round =>
    obtain ⟨j, rfl, rfl, HK, ⟨m1, rfl⟩⟩ := hrel
    have hk := HK.out
    by_cases hj : j < s.length
    · have hr := numL_range s H01.out j (by omega)
      have hp := pow8 j (by omega)
      have h2 := rd_01 s H01.out j hj
      have HS := Aside0.mk (or_spelled (numL (s.take j)) (rd s j) hr.1 (by omega) h2)
      have HT := Aside0.mk (numL_take s j hj)
      obtain ⟨ad, e1, hcell⟩ := Kd.at_int HR.out (j : Int) (by omega) (by omega)
      subst e1
      rw [show ((j : Int)).toNat = j by omega] at hcell
      generalize hnj : numL (s.take j) = nj at *
      generalize hrj : rd s j = rj at *
      have h0 : (0 : Int) ≤ (j : Int) := by omega
      have h1 : (j : Int) < (s.length : Int) := by omega
      have hrj0 : 0 ≤ rj := by omega
      have hrj1 : rj ≤ 1 := by omega
      have hnj0 : 0 ≤ nj := by omega
      have hnj1 : nj ≤ 10000 := by omega
      cases gk with
      | zero => omega
      | succ k1 =>
      clear hr hp h2 hnj hrj hk
      go_wp2
      go_roundg k1
      case measure => omega
      case rel => exact ⟨j + 1, by rw [HT.out, ← HS.out], by go_num, ⟨by have := HK.out; omega⟩, by repeat (first | exact Drawn0.refl _ | apply Drawn0.step)⟩
    · have e : j = s.length := by omega
      subst e
      go_wp2
      go_ret
      exact ⟨by first | rfl | (simp; done) | (rw [List.take_length]), by repeat (first | exact Drawn0.refl _ | apply Drawn0.step)⟩

/-! ### impl_WordPack: function 98 -/
-- by hand
def impl_WordPack.f (k : Nat) (a0 : ByteArray) : Option (ByteArray) := (impl_WordOk.f k a0).bind fun b => if b = true then (if packOk a0 then some (packB a0) else none) else some ⟨#[]⟩
theorem impl_WordPack.mono : ∀ a0 k, LeO (impl_WordPack.f k a0) (impl_WordPack.f (k + 1) a0) := by
  intro a0 k
  unfold impl_WordPack.f
  exact LeO.bind (impl_WordOk.mono _ _) (fun _ => LeO.refl _)
set_option maxHeartbeats 4000000 in
set_option maxRecDepth 100000 in
theorem impl_WordPack.calls (k : Nat) (a0 : ByteArray) (r : ByteArray) (w : World) (h : impl_WordPack.f k a0 = some r) :
    Calls Try.prog 98 #[.string a0] w fun e w' => e = .returned (.string r) ∧ Below w.heap.size w w' := by
  unfold impl_WordPack.f at h
  obtain ⟨b, hA, h⟩ := Option.bind_eq_some_iff.mp h
  cases b with
  | false =>
    simp only [if_neg (show ¬ (false = true) by decide), Option.some.injEq] at h
    subst h
    go_enter Try.func98, Try.ntmps98
    go_wp2_with (go_at_call 72; refine (impl_WordOk.calls k a0 false _ hA).mono ?_; rintro e w' ⟨rfl, ⟨nd, rfl⟩⟩)
    go_ret
    exact ⟨rfl, (Drawn0.step (Drawn0.refl w) nd).below⟩
  | true =>
    rw [if_pos rfl] at h
    by_cases hp : packOk a0
    · rw [if_pos hp] at h
      simp only [Option.some.injEq] at h
      have HP := Aside0.mk hp
      have HR := Aside0.mk h
      have HA := Aside0.mk hA
      have hsz := hp.1
      clear h hA hp
      go_enter Try.func98, Try.ntmps98
      go_wp2_with (go_at_call 72; refine (impl_WordOk.calls k a0 true _ HA.out).mono ?_; rintro e w' ⟨rfl, ⟨nd, rfl⟩⟩)
      go_loopg [13] (a0.size) (fun kq v13 w' => ∃ (x : Int) (v' : Value), v13 = .int .i64 x ∧ Aside0 (kq + x.toNat = a0.size ∧ 0 ≤ x) ∧ Aside0 (w'.heap[w.heap.size]? = some (.cells #[v'] 106 (0, 0))) ∧ Aside0 (Kd.R (Kd.int .u8) 5 w' w.heap.size (fun _ => True) v' (packBits a0 x.toNat)) ∧ Aside0 (Below w.heap.size w w'))
      case atStart => exact ⟨0, .slice none 0 0, rfl, ⟨by omega, by omega⟩, ⟨by simpa using heap_alloc_new (w.drewN nd) _⟩, ⟨Kd.R_nil _ _ _ _ _⟩, ⟨below_alloc (pw_below_drewN (Below.refl _ _) nd) _⟩⟩
      case round =>
        obtain ⟨x, v', rfl, HK, HG, HO, HB⟩ := hrel
        obtain ⟨hk, h0⟩ := HK.out
        by_cases hj : x < a0.size
        · have hpl := HP.out.2 x.toNat (by omega)
          rw [show ((x.toNat : Nat) : Int) = x by omega] at hpl
          cases gk with
          | zero => omega
          | succ k1 =>
          have hle : (packBits a0 x.toNat).length ≤ 1000 := by have := packBits_len a0 x.toNat; omega
          generalize hpe : place (bt a0 x) = p at hpl
          have HPE := Aside0.mk hpe
          clear hpe hk
          obtain ⟨hp0, hp1⟩ := hpl
          have hx := bt_at a0 x
          have q0 := eq_true h0
          have q1 := eq_true hj
          clear h0 hj
          by_cases hp : p < 24
          · go_wp2_with (first | (go_at_call 85; refine (strings_IndexByte.calls _ (bt a0 x) p _ (by rw [← HPE.out]; rfl)).mono ?_; rintro e w' ⟨rfl, ⟨nd, rfl⟩⟩) | (go_at_call 103; refine (add_calls w.heap.size p 5 (packBits a0 x.toNat) v' w _ (pw_below_drewN HB.out _) (blk_drewN HG.out _) (Nat.le_refl _) (Kd.R_drewN HO.out _) (by omega) (by omega) (by omega) (by omega) (by omega)).mono ?_; rintro e w2 ⟨rfl, hb2, v2, hg2, ho2⟩; have N1 := Aside0.mk hb2; have N2 := Aside0.mk hg2; have N3 := Aside0.mk ho2; clear hb2 hg2 ho2))
            go_roundg k1
            case measure => have := HK.out.1; omega
            case rel =>
              have h0 := of_eq_true q0
              have hj := of_eq_true q1
              have h64 : wrap64 (x + 1) = x + 1 := by unfold wrap64; omega
              refine ⟨x + 1, v2, by rw [h64], ⟨by have := HK.out.1; omega, by omega⟩, N2, ⟨?_⟩, N1⟩
              · have h9 := N3.out
                rw [show (x + 1).toNat = x.toNat + 1 by omega, packBits, show ((x.toNat : Nat) : Int) = x by omega, HPE.out]
                unfold signBits
                rw [if_pos hp]
                exact h9
          · go_wp2_with (first | (go_at_call 85; refine (strings_IndexByte.calls _ (bt a0 x) p _ (by rw [← HPE.out]; rfl)).mono ?_; rintro e w' ⟨rfl, ⟨nd, rfl⟩⟩) | (go_at_call 103; refine (add_calls w.heap.size (96 + p - 24) 7 (packBits a0 x.toNat) v' w _ (pw_below_drewN HB.out _) (blk_drewN HG.out _) (Nat.le_refl _) (Kd.R_drewN HO.out _) (by omega) (by omega) (by omega) (by omega) (by omega)).mono ?_; rintro e w2 ⟨rfl, hb2, v2, hg2, ho2⟩; have N1 := Aside0.mk hb2; have N2 := Aside0.mk hg2; have N3 := Aside0.mk ho2; clear hb2 hg2 ho2))
            go_roundg k1
            case measure => have := HK.out.1; omega
            case rel =>
              have h0 := of_eq_true q0
              have hj := of_eq_true q1
              have h64 : wrap64 (x + 1) = x + 1 := by unfold wrap64; omega
              refine ⟨x + 1, v2, by rw [h64], ⟨by have := HK.out.1; omega, by omega⟩, N2, ⟨?_⟩, N1⟩
              · have h9 := N3.out
                rw [show (x + 1).toNat = x.toNat + 1 by omega, packBits, show ((x.toNat : Nat) : Int) = x by omega, HPE.out]
                unfold signBits
                rw [if_neg (by omega)]
                exact h9
        · have e : x.toNat = a0.size := by omega
          have HO1 := HO.out
          rw [e] at HO1
          have HO' := Aside0.mk HO1
          have hle : (packBits a0 a0.size).length ≤ 1000 := by have := packBits_len a0 a0.size; omega
          clear HO HO1 e hk h0
          have h01 := pack01 a0 a0.size
          generalize hP : packBits a0 a0.size = ys0 at *
          have HP0 := Aside0.mk hP
          have H01 := Aside0.mk h01
          clear hP h01
          go_wp2
          go_loopg [] (8) (fun kq w' => ∃ (v' : Value) (ys : List Int), Aside0 ((8 - ys.length % 8) % 8 ≤ kq ∧ kq + ys.length ≤ ys0.length + 8) ∧ Aside0 (padBits ys = padBits ys0) ∧ Aside0 (∀ x ∈ ys, x = 0 ∨ x = 1) ∧ Aside0 (w'.heap[w.heap.size]? = some (.cells #[v'] 106 (0, 0))) ∧ Aside0 (Kd.R (Kd.int .u8) 5 w' w.heap.size (fun _ => True) v' ys) ∧ Aside0 (Below w.heap.size w w'))
          case atStart => exact ⟨v', ys0, ⟨by omega, by omega⟩, ⟨rfl⟩, H01, HG, HO', HB⟩
          case round =>
            clear HG HO' HB HK hj
            obtain ⟨v', ys, HK, HPY, H01y, HG, HO, HB⟩ := hrel
            obtain ⟨hk, hkl⟩ := HK.out
            obtain ⟨A, c, hv, hlc, hC⟩ := Kd.R_reads HO.out
            subst hv
            have hc : wr.cell? ⟨w.heap.size, 0, none⟩ = some (.slice A ys.length c) := (blk_cell HG.out 0).trans rfl
            have hf := blk_frozen HG.out 0
            by_cases hm : ys.length % 8 = 0
            · have t1 : ((((ys.length : Nat) : Int) % 8) != 0) = false := by rw [bne_eq_false_iff_eq]; omega
              have t2 : ((((ys.length : Nat) : Int) % 8) == 0) = true := by rw [beq_iff_eq]; omega
              have hle : ys.length ≤ 1010 := by omega
              have HCr := Aside0.mk hC
              have HF := Aside0.mk (show r = strOfNums (bytesL ys (ys.length / 8)) by
                rw [← HR.out]; unfold packB; rw [HP0.out, ← HPY.out, pad_done ys hm])
              clear hC
              go_wp2
              obtain ⟨wl, hwl⟩ : ∃ wl : World, wl = wr := ⟨_, rfl⟩
              subst hwl
              go_loopg [6, 7] (ys.length / 8) (fun kq v6 v7 w' => ∃ (m : Nat), v7 = .int .i64 (8 * (m : Int)) ∧ Aside0 (kq + m = ys.length / 8) ∧ Aside0 (Kd.R (Kd.int .u8) 5 w' wl.heap.size (fun _ => True) v6 (bytesL ys m)) ∧ Aside0 (Below wl.heap.size wl w'))
              case atStart => exact ⟨0, rfl, ⟨by omega⟩, ⟨Kd.R_nil _ _ _ _ _⟩, ⟨Below.refl _ _⟩⟩
              case round =>
                clear hc hf t1 t2
                obtain ⟨m, rfl, HK3, HO6, HB3⟩ := hrel
                have hk3 := HK3.out
                obtain ⟨Ao, co, hv6, _, _⟩ := Kd.R_reads HO6.out
                subst hv6
                have hcw : wr.cell? ⟨w.heap.size, 0, none⟩ = some (.slice A ys.length c) := (blk_cell (blk_below HG.out HB3.out) 0).trans rfl
                by_cases h3 : 8 * (m : Int) < (ys.length : Int)
                · cases gk with
                  | zero => omega
                  | succ k1 =>
                  have hnr := numL_range ((ys.drop (8 * m)).take 8) (fun z hz => H01y.out z (List.mem_of_mem_drop (List.mem_of_mem_take hz))) ((ys.drop (8 * m)).take 8).length (Nat.le_refl _)
                  rw [List.take_length] at hnr
                  have hn8 := pow8 ((ys.drop (8 * m)).take 8).length (by rw [List.length_take]; omega)
                  have hnl : numL (List.take (8 : Int).toNat (List.drop (8 * (m : Int)).toNat ys)) = numL ((ys.drop (8 * m)).take 8) := by
                    rw [show (8 * (m : Int)).toNat = 8 * m by omega]; rfl
                  have hbl : (bytesL ys m).length ≤ 1000 := by rw [bytesL_len]; omega
                  generalize hpp : numL ((ys.drop (8 * m)).take 8) = p at hnr hnl
                  have HPP := Aside0.mk hpp
                  have HNL := Aside0.mk hnl
                  have hp0 : 0 ≤ p := hnr.1
                  have hp1 : p ≤ 255 := by omega
                  have hb9 := HB3.out.size
                  clear hpp hnl hnr hn8 hk3
                  go_wp2_with (first | (go_at_call 104; refine (number_calls A c ys (8 * (m : Int)) 8 _ (Kd.C_below HCr.out HB3.out) hlc (by omega) (by omega) (by omega) (by omega) (by omega) H01y.out).mono ?_; rw [HNL.out]; rintro e w' ⟨rfl, ⟨nd, rfl⟩⟩) | (at_builtin; refine Kd.R_append (Kd.int .u8) (w0 := wl) wl.heap.size rfl (.tmp 40) (.tmp 45) 22 5 (.int .u8 0) 1 rfl Try.underlying22 info5 rfl (by decide) (by omega) (.slice Ao (bytesL ys m).length co) (bytesL ys m) p [.int .u8 p] (fun _ => True) (fun _ => False) rfl rfl ?aP (fun _ hk => hk.elim) ?aF ?aO ?aB ?aS ?aL ?_; (case aP => exact rfl); (case aB => exact pw_below_drewN HB3.out _); (case aF => exact (fun _ _ => trivial)); (case aO => exact Kd.R_drewN HO6.out _); (case aS => exact hb9); (case aL => omega); intro v138 w22 ho hb hg hat; have N1 := Aside0.mk hb; have N2 := Aside0.mk ho; clear ho hb hg hat))
                  go_roundg k1
                  case measure => have := HK3.out; omega
                  case rel =>
                    refine ⟨m + 1, by rw [show 8 * ((m + 1 : Nat) : Int) = 8 * (m : Int) + 8 by omega], ⟨by have := HK3.out; omega⟩, ⟨?_⟩, N1⟩
                    have h9 := N2.out
                    rw [← HPP.out] at h9
                    exact h9
                · have hcv := own_string (P := Try.prog) Try.underlying22 Try.underlying5 Try.underlying9 (Kd.own_of_R HO6.out)
                  have em := Aside0.mk (show m = ys.length / 8 by omega)
                  clear hk3
                  go_wp2
                  go_ret
                  have h9 := HF.out
                  rw [← em.out] at h9
                  subst h9
                  refine ⟨by first | rfl | (simp; done) | (simp <;> rfl), ?_⟩
                  exact below_then HB.out HB.out.size HB3.out
            · have t1 : ((((ys.length : Nat) : Int) % 8) != 0) = true := by rw [bne_iff_ne]; omega
              have t2 : ((((ys.length : Nat) : Int) % 8) == 0) = false := by rw [beq_eq_false_iff_ne]; omega
              cases gk with
              | zero => omega
              | succ k1 =>
              go_wp2_with (go_at_call 103; refine (add_calls w.heap.size 1 1 ys _ w _ HB.out HG.out (Nat.le_refl _) HO.out (by omega) (by omega) (by omega) (by omega) (by omega)).mono ?_; rintro e w2 ⟨rfl, hb2, v2, hg2, ho2⟩; have N1 := Aside0.mk hb2; have N2 := Aside0.mk hg2; have N3 := Aside0.mk ho2; clear hb2 hg2 ho2)
              go_roundg k1
              case measure => omega
              case rel => exact ⟨v2, ys ++ [1], ⟨by simp; omega, by simp; omega⟩, ⟨by rw [pad_step ys hm]; exact HPY.out⟩, ⟨by intro z hz; simp at hz; rcases hz with hz | hz; exact H01y.out z hz; exact .inr hz⟩, N2, ⟨by have h9 := N3.out; rw [bitsL_one] at h9; exact h9⟩, N1⟩
    · rw [if_neg hp] at h
      cases h

/-! ### impl_WordWrite: function 93 -/
-- thin
def impl_WordWrite.f (k : Nat) (a0 : ByteArray) : Option (ByteArray) := (impl_WordOk.f k a0).bind fun t461 => (if t461 = true then ((impl_WordPack.f k a0).bind fun t462 => (if (t462.size : Int) < (a0.size : Int) then ((impl_NumWrite.f k (t462.size : Int) 7 1).bind fun t463 => (if t463.size + t462.size ≤ 9223372036854775807 then (some (t463 ++ t462)) else (none))) else ((impl_NumWrite.f k (a0.size : Int) 7 0).bind fun t464 => (if t464.size + a0.size ≤ 9223372036854775807 then (some (t464 ++ a0)) else (none))))) else (some (⟨#[]⟩ : ByteArray)))
theorem impl_WordWrite.mono : ∀ a0 k, LeO (impl_WordWrite.f k a0) (impl_WordWrite.f (k + 1) a0) := by
 intro a0 k
 unfold impl_WordWrite.f
 repeat' first
   | (with_reducible exact impl_NumWrite.mono _ _ _ _)
   | (with_reducible exact impl_WordOk.mono _ _)
   | (with_reducible exact impl_WordPack.mono _ _)
   | (with_reducible exact LeO.refl _)
   | (with_reducible exact LeO.none _)
   | (with_reducible refine LeO.ite ?_ ?_)
   | (with_reducible refine LeO.bind ?_ (fun _ => ?_))
   | exact impl_NumWrite.mono _ _ _ _
   | exact impl_WordOk.mono _ _
   | exact impl_WordPack.mono _ _
   | exact LeO.none _
   | refine LeO.ite ?_ ?_
   | refine LeO.bind ?_ (fun _ => ?_)
set_option maxHeartbeats 8000000 in
set_option maxRecDepth 100000 in
theorem impl_WordWrite.calls (k : Nat) (a0 : ByteArray) (r : ByteArray) (w : World) (h : impl_WordWrite.f k a0 = some r) :
  Calls Try.prog 93 #[.string a0] w fun e w' => e = .returned (.string r) ∧ Below w.heap.size w w' := by
 have HB := Aside0.mk (Below.refl w.heap.size w)
 have H : ((impl_WordOk.f k a0).bind fun t461 => (if t461 = true then ((impl_WordPack.f k a0).bind fun t462 => (if (t462.size : Int) < (a0.size : Int) then ((impl_NumWrite.f k (t462.size : Int) 7 1).bind fun t463 => (if t463.size + t462.size ≤ 9223372036854775807 then (some (t463 ++ t462)) else (none))) else ((impl_NumWrite.f k (a0.size : Int) 7 0).bind fun t464 => (if t464.size + a0.size ≤ 9223372036854775807 then (some (t464 ++ a0)) else (none))))) else (some (⟨#[]⟩ : ByteArray)))) = some r := h
 clear h
 replace H := Option.bind_eq_some_iff.mp H
 obtain ⟨t461, A20, H⟩ := H
 replace H : (if t461 = true then ((impl_WordPack.f k a0).bind fun t462 => (if (t462.size : Int) < (a0.size : Int) then ((impl_NumWrite.f k (t462.size : Int) 7 1).bind fun t463 => (if t463.size + t462.size ≤ 9223372036854775807 then (some (t463 ++ t462)) else (none))) else ((impl_NumWrite.f k (a0.size : Int) 7 0).bind fun t464 => (if t464.size + a0.size ≤ 9223372036854775807 then (some (t464 ++ a0)) else (none))))) else (some (⟨#[]⟩ : ByteArray))) = some r := H
 have A2 := Aside0.mk A20
 clear A20
 by_cases c3 : t461 = true
 ·subst c3
  have H1 : ((impl_WordPack.f k a0).bind fun t462 => (if (t462.size : Int) < (a0.size : Int) then ((impl_NumWrite.f k (t462.size : Int) 7 1).bind fun t463 => (if t463.size + t462.size ≤ 9223372036854775807 then (some (t463 ++ t462)) else (none))) else ((impl_NumWrite.f k (a0.size : Int) 7 0).bind fun t464 => (if t464.size + a0.size ≤ 9223372036854775807 then (some (t464 ++ a0)) else (none))))) = some r := by rw [if_pos rfl] at H; exact H
  clear H
  have H := H1
  clear H1
  replace H := Option.bind_eq_some_iff.mp H
  obtain ⟨t462, A40, H⟩ := H
  replace H : (if (t462.size : Int) < (a0.size : Int) then ((impl_NumWrite.f k (t462.size : Int) 7 1).bind fun t463 => (if t463.size + t462.size ≤ 9223372036854775807 then (some (t463 ++ t462)) else (none))) else ((impl_NumWrite.f k (a0.size : Int) 7 0).bind fun t464 => (if t464.size + a0.size ≤ 9223372036854775807 then (some (t464 ++ a0)) else (none)))) = some r := H
  have A4 := Aside0.mk A40
  clear A40
  have HC5 := Aside0.mk H
  clear H
  go_enter Try.func93, Try.ntmps93
  go_upto_if 13 with (first | ((with_reducible refine gq 72 rfl ?_); refine gl (some 5) Try.func72 #[.string a0] ?_; (with_reducible refine (impl_WordOk.calls k a0 true _ A2.out).mono ?_); rintro e w' ⟨rfl, ⟨nd, rfl⟩⟩; refine ⟨_, rfl, ?_⟩) | ((with_reducible refine gq 98 rfl ?_); refine gl (some 8) Try.func98 #[.string a0] ?_; (with_reducible refine (impl_WordPack.calls k a0 t462 _ A4.out).mono ?_); rintro e w6 ⟨rfl, hb⟩; refine ⟨_, rfl, ?_⟩; replace HB := Aside0.mk (below_step (zb HB) hb); (try clear hb)))
  (try simp only [Act.put, s1, s2, s3])
  have H := HC5.out
  clear HC5
  by_cases c7 : (t462.size : Int) < (a0.size : Int)
  ·rw [if_pos c7] at H
   have c7b0 : decide ((t462.size : Int) < (a0.size : Int)) = true := decide_eq_true c7
   have c7b1 : decide (t462.size < a0.size) = true := decide_eq_true (Int.ofNat_lt.mp c7)
   clear c7
   (first | rw [c7b0] | rw [c7b1] | (simp only [i64_w, i32_w]; rw [c7b0]) | skip)
   replace H := Option.bind_eq_some_iff.mp H
   obtain ⟨t463, A80, H⟩ := H
   replace H : (if t463.size + t462.size ≤ 9223372036854775807 then (some (t463 ++ t462)) else (none)) = some r := H
   have A8 := Aside0.mk A80
   clear A80
   by_cases c9 : t463.size + t462.size ≤ 9223372036854775807
   ·rw [if_pos c9] at H
    have c9b0 := eq_true c9
    have c9b1 : decide (t463.size + t462.size ≤ 9223372036854775807) = true := decide_eq_true c9
    try have c9b2 : (9223372036854775807 < t463.size + t462.size) = False := eq_false (Nat.not_lt.2 c9)
    obtain rfl := Option.some.inj H
    go_wp2_with (first | ((with_reducible refine gq 83 rfl ?_); refine gl (some 16) Try.func83 #[.int .i64 (t462.size : Int), .int .i64 7, .int .i64 1] ?_; (with_reducible refine (impl_NumWrite.calls k (t462.size : Int) 7 1 t463 _ A8.out).mono ?_); rintro e w10 ⟨rfl, hb⟩; refine ⟨_, rfl, ?_⟩; replace HB := Aside0.mk (below_step (zb HB) hb); (try clear hb)))
    go_ret
    exact ⟨ze, zb HB⟩
   ·rw [if_neg c9] at H
    exact absurd H (by simp)
  ·rw [if_neg c7] at H
   have c7b0 : decide ((t462.size : Int) < (a0.size : Int)) = false := decide_eq_false c7
   have c7b1 : decide (t462.size < a0.size) = false := decide_eq_false (fun h => c7 (Int.ofNat_lt.mpr h))
   clear c7
   (first | rw [c7b0] | rw [c7b1] | (simp only [i64_w, i32_w]; rw [c7b0]) | skip)
   replace H := Option.bind_eq_some_iff.mp H
   obtain ⟨t464, A110, H⟩ := H
   replace H : (if t464.size + a0.size ≤ 9223372036854775807 then (some (t464 ++ a0)) else (none)) = some r := H
   have A11 := Aside0.mk A110
   clear A110
   by_cases c12 : t464.size + a0.size ≤ 9223372036854775807
   ·rw [if_pos c12] at H
    have c12b0 := eq_true c12
    have c12b1 : decide (t464.size + a0.size ≤ 9223372036854775807) = true := decide_eq_true c12
    try have c12b2 : (9223372036854775807 < t464.size + a0.size) = False := eq_false (Nat.not_lt.2 c12)
    obtain rfl := Option.some.inj H
    go_wp2_with (first | ((with_reducible refine gq 83 rfl ?_); refine gl (some 21) Try.func83 #[.int .i64 (a0.size : Int), .int .i64 7, .int .i64 0] ?_; (with_reducible refine (impl_NumWrite.calls k (a0.size : Int) 7 0 t464 _ A11.out).mono ?_); rintro e w13 ⟨rfl, hb⟩; refine ⟨_, rfl, ?_⟩; replace HB := Aside0.mk (below_step (zb HB) hb); (try clear hb)))
    go_ret
    exact ⟨ze, zb HB⟩
   ·rw [if_neg c12] at H
    exact absurd H (by simp)
 ·replace c3 := Bool.eq_false_iff.mpr c3
  subst c3
  have H1 : (some (⟨#[]⟩ : ByteArray)) = some r := by rw [if_neg (show ¬ (false = true) by decide)] at H; exact H
  clear H
  have H := H1
  clear H1
  obtain rfl := Option.some.inj H
  go_enter Try.func93, Try.ntmps93
  go_wp2_with (first | ((with_reducible refine gq 72 rfl ?_); refine gl (some 5) Try.func72 #[.string a0] ?_; (with_reducible refine (impl_WordOk.calls k a0 false _ A2.out).mono ?_); rintro e w' ⟨rfl, ⟨nd, rfl⟩⟩; refine ⟨_, rfl, ?_⟩))
  go_ret
  exact ⟨ze, zb HB⟩

/-! ### impl_named: function 82 -/
-- thin
def impl_named.f (k : Nat) (a0_0 : ByteArray) (a0_1 : ByteArray) (a0_2 : Bool) (a1 : Int) (a2 : Int) : Option (ByteArray) := (impl_NumWrite.f k a1 a2 1).bind fun t466 => (if a1 = 0 then ((impl_WordWrite.f k a0_0).bind fun t467 => (if t466.size + t467.size ≤ 9223372036854775807 then ((impl_WordWrite.f k a0_1).bind fun t468 => (if (t466 ++ t467).size + t468.size ≤ 9223372036854775807 then (some ((t466 ++ t467) ++ t468)) else (none))) else (none))) else ((impl_WordWrite.f k a0_1).bind fun t469 => (if t466.size + t469.size ≤ 9223372036854775807 then (some (t466 ++ t469)) else (none))))
theorem impl_named.mono : ∀ a0 a1 a2 a3 a4 k, LeO (impl_named.f k a0 a1 a2 a3 a4) (impl_named.f (k + 1) a0 a1 a2 a3 a4) := by
 intro a0 a1 a2 a3 a4 k
 unfold impl_named.f
 repeat' first
   | (with_reducible exact impl_NumWrite.mono _ _ _ _)
   | (with_reducible exact impl_WordWrite.mono _ _)
   | (with_reducible exact LeO.refl _)
   | (with_reducible exact LeO.none _)
   | (with_reducible refine LeO.ite ?_ ?_)
   | (with_reducible refine LeO.bind ?_ (fun _ => ?_))
   | exact impl_NumWrite.mono _ _ _ _
   | exact impl_WordWrite.mono _ _
   | exact LeO.none _
   | refine LeO.ite ?_ ?_
   | refine LeO.bind ?_ (fun _ => ?_)
set_option maxHeartbeats 8000000 in
set_option maxRecDepth 100000 in
theorem impl_named.calls (k : Nat) (a0_0 : ByteArray) (a0_1 : ByteArray) (a0_2 : Bool) (a1 : Int) (a2 : Int) (r : ByteArray) (w : World) (h : impl_named.f k a0_0 a0_1 a0_2 a1 a2 = some r) :
  Calls Try.prog 82 #[.agg #[.string a0_0, .string a0_1, .bool a0_2], .int .i64 a1, .int .i64 a2] w fun e w' => e = .returned (.string r) ∧ Below w.heap.size w w' := by
 have hu36 := Try.underlying36
 have HB := Aside0.mk (Below.refl w.heap.size w)
 have H : ((impl_NumWrite.f k a1 a2 1).bind fun t466 => (if a1 = 0 then ((impl_WordWrite.f k a0_0).bind fun t467 => (if t466.size + t467.size ≤ 9223372036854775807 then ((impl_WordWrite.f k a0_1).bind fun t468 => (if (t466 ++ t467).size + t468.size ≤ 9223372036854775807 then (some ((t466 ++ t467) ++ t468)) else (none))) else (none))) else ((impl_WordWrite.f k a0_1).bind fun t469 => (if t466.size + t469.size ≤ 9223372036854775807 then (some (t466 ++ t469)) else (none))))) = some r := h
 clear h
 replace H := Option.bind_eq_some_iff.mp H
 obtain ⟨t466, A40, H⟩ := H
 replace H : (if a1 = 0 then ((impl_WordWrite.f k a0_0).bind fun t467 => (if t466.size + t467.size ≤ 9223372036854775807 then ((impl_WordWrite.f k a0_1).bind fun t468 => (if (t466 ++ t467).size + t468.size ≤ 9223372036854775807 then (some ((t466 ++ t467) ++ t468)) else (none))) else (none))) else ((impl_WordWrite.f k a0_1).bind fun t469 => (if t466.size + t469.size ≤ 9223372036854775807 then (some (t466 ++ t469)) else (none)))) = some r := H
 have A4 := Aside0.mk A40
 clear A40
 have HC5 := Aside0.mk H
 clear H
 go_enter Try.func82, Try.ntmps82
 go_upto_if 12 with (first | ((with_reducible refine gd 3 rfl ?_); refine bx (N := 3) (cs := #[.string a0_0, .string a0_1, .bool a0_2]) (t := 36) ?_; intro gb465 hg w6 hbox hb; have BK465 := Aside0.mk (hbox); have GW465 := Aside0.mk ((by rw [hg]; exact (below_size (zb HB)) : w.heap.size ≤ gb465)); have GE465 := Aside0.mk ((by rw [hg]; exact (below_size (zb HB)) : w.heap.size ≤ gb465)); replace HB := Aside0.mk (below_step (zb HB) hb); clear hb hbox hg) | ((with_reducible refine gq 83 rfl ?_); refine gl (some 10) Try.func83 #[.int .i64 a1, .int .i64 a2, .int .i64 1] ?_; (with_reducible refine (impl_NumWrite.calls k a1 a2 1 t466 _ A4.out).mono ?_); rintro e w7 ⟨rfl, hb⟩; refine ⟨_, rfl, ?_⟩; replace BK465 := Aside0.mk (blk_below (g := gb465) (o := .cells #[.string a0_0, .string a0_1, .bool a0_2] 36 (0, 0)) (zk BK465) hb); replace HB := Aside0.mk (below_step (zb HB) hb); (try clear hb)))
 (try simp only [Act.put, s1, s2, s3])
 have H := HC5.out
 clear HC5
 by_cases c8 : a1 = 0
 ·rw [if_pos c8] at H
  have c8b0 : (a1 == 0) = true := beq_iff_eq.mpr c8
  have c8b1 : (a1 != 0) = false := bne_eq_false_iff_eq.mpr c8
  clear c8
  (first | rw [c8b0] | rw [c8b1] | (simp only [i64_w, i32_w]; rw [c8b0]) | skip)
  replace H := Option.bind_eq_some_iff.mp H
  obtain ⟨t467, A90, H⟩ := H
  replace H : (if t466.size + t467.size ≤ 9223372036854775807 then ((impl_WordWrite.f k a0_1).bind fun t468 => (if (t466 ++ t467).size + t468.size ≤ 9223372036854775807 then (some ((t466 ++ t467) ++ t468)) else (none))) else (none)) = some r := H
  have A9 := Aside0.mk A90
  clear A90
  by_cases c10 : t466.size + t467.size ≤ 9223372036854775807
  ·rw [if_pos c10] at H
   have c10b0 := eq_true c10
   have c10b1 : decide (t466.size + t467.size ≤ 9223372036854775807) = true := decide_eq_true c10
   try have c10b2 : (9223372036854775807 < t466.size + t467.size) = False := eq_false (Nat.not_lt.2 c10)
   replace H := Option.bind_eq_some_iff.mp H
   obtain ⟨t468, A110, H⟩ := H
   replace H : (if (t466 ++ t467).size + t468.size ≤ 9223372036854775807 then (some ((t466 ++ t467) ++ t468)) else (none)) = some r := H
   have A11 := Aside0.mk A110
   clear A110
   by_cases c12 : (t466 ++ t467).size + t468.size ≤ 9223372036854775807
   ·rw [if_pos c12] at H
    have c12b0 := eq_true c12
    have c12b1 : decide ((t466 ++ t467).size + t468.size ≤ 9223372036854775807) = true := decide_eq_true c12
    try have c12b2 : (9223372036854775807 < (t466 ++ t467).size + t468.size) = False := eq_false (Nat.not_lt.2 c12)
    try (have c12b3 := c12b2; rw [ByteArray.size_append] at c12b3)
    obtain rfl := Option.some.inj H
    have hcz13_0 : w7.cell? ⟨gb465, 0, none⟩ = some (.string a0_0) := (blk_cell BK465.out 0).trans rfl
    have hcz13_1 : w7.cell? ⟨gb465, 1, none⟩ = some (.string a0_1) := (blk_cell BK465.out 1).trans rfl
    have hcz13_2 : w7.cell? ⟨gb465, 2, none⟩ = some (.bool a0_2) := (blk_cell BK465.out 2).trans rfl
    have hfz13_0 := blk_frozen BK465.out 0
    have hfz13_1 := blk_frozen BK465.out 1
    have hfz13_2 := blk_frozen BK465.out 2
    go_wp2_with (first | ((with_reducible refine gq 93 rfl ?_); refine gl (some 16) Try.func93 #[.string a0_0] ?_; (with_reducible refine (impl_WordWrite.calls k a0_0 t467 _ A9.out).mono ?_); rintro e w14 ⟨rfl, hb⟩; refine ⟨_, rfl, ?_⟩; replace BK465 := Aside0.mk (blk_below (g := gb465) (o := .cells #[.string a0_0, .string a0_1, .bool a0_2] 36 (0, 0)) (zk BK465) hb); replace HB := Aside0.mk (below_step (zb HB) hb); (try clear hb); have hcz15_0 : w14.cell? ⟨gb465, 0, none⟩ = some (.string a0_0) := (blk_cell BK465.out 0).trans rfl; have hcz15_1 : w14.cell? ⟨gb465, 1, none⟩ = some (.string a0_1) := (blk_cell BK465.out 1).trans rfl; have hcz15_2 : w14.cell? ⟨gb465, 2, none⟩ = some (.bool a0_2) := (blk_cell BK465.out 2).trans rfl; have hfz15_0 := blk_frozen BK465.out 0; have hfz15_1 := blk_frozen BK465.out 1; have hfz15_2 := blk_frozen BK465.out 2) | ((with_reducible refine gq 93 rfl ?_); refine gl (some 21) Try.func93 #[.string a0_1] ?_; (with_reducible refine (impl_WordWrite.calls k a0_1 t468 _ A11.out).mono ?_); rintro e w16 ⟨rfl, hb⟩; refine ⟨_, rfl, ?_⟩; replace BK465 := Aside0.mk (blk_below (g := gb465) (o := .cells #[.string a0_0, .string a0_1, .bool a0_2] 36 (0, 0)) (zk BK465) hb); replace HB := Aside0.mk (below_step (zb HB) hb); (try clear hb)))
    go_ret
    exact ⟨ze, zb HB⟩
   ·rw [if_neg c12] at H
    exact absurd H (by simp)
  ·rw [if_neg c10] at H
   exact absurd H (by simp)
 ·rw [if_neg c8] at H
  have c8b0 : (a1 == 0) = false := beq_eq_false_iff_ne.mpr c8
  have c8b1 : (a1 != 0) = true := bne_iff_ne.mpr c8
  (first | rw [c8b0] | rw [c8b1] | (simp only [i64_w, i32_w]; rw [c8b0]) | skip)
  replace H := Option.bind_eq_some_iff.mp H
  obtain ⟨t469, A170, H⟩ := H
  replace H : (if t466.size + t469.size ≤ 9223372036854775807 then (some (t466 ++ t469)) else (none)) = some r := H
  have A17 := Aside0.mk A170
  clear A170
  by_cases c18 : t466.size + t469.size ≤ 9223372036854775807
  ·rw [if_pos c18] at H
   have c18b0 := eq_true c18
   have c18b1 : decide (t466.size + t469.size ≤ 9223372036854775807) = true := decide_eq_true c18
   try have c18b2 : (9223372036854775807 < t466.size + t469.size) = False := eq_false (Nat.not_lt.2 c18)
   obtain rfl := Option.some.inj H
   have hcz19_0 : w7.cell? ⟨gb465, 0, none⟩ = some (.string a0_0) := (blk_cell BK465.out 0).trans rfl
   have hcz19_1 : w7.cell? ⟨gb465, 1, none⟩ = some (.string a0_1) := (blk_cell BK465.out 1).trans rfl
   have hcz19_2 : w7.cell? ⟨gb465, 2, none⟩ = some (.bool a0_2) := (blk_cell BK465.out 2).trans rfl
   have hfz19_0 := blk_frozen BK465.out 0
   have hfz19_1 := blk_frozen BK465.out 1
   have hfz19_2 := blk_frozen BK465.out 2
   go_wp2_with (first | ((with_reducible refine gq 93 rfl ?_); refine gl (some 21) Try.func93 #[.string a0_1] ?_; (with_reducible refine (impl_WordWrite.calls k a0_1 t469 _ A17.out).mono ?_); rintro e w20 ⟨rfl, hb⟩; refine ⟨_, rfl, ?_⟩; replace BK465 := Aside0.mk (blk_below (g := gb465) (o := .cells #[.string a0_0, .string a0_1, .bool a0_2] 36 (0, 0)) (zk BK465) hb); replace HB := Aside0.mk (below_step (zb HB) hb); (try clear hb)))
   go_ret
   exact ⟨ze, zb HB⟩
  ·rw [if_neg c18] at H
   exact absurd H (by simp)

/-! ### impl_Table_write: function 66 -/
-- thin
def impl_Table_write.l0 : Nat → ByteArray → List (S36) → Int → Int → List (S36) → Int → Option ((List (S36)) × Int × ByteArray)
 | 0, _, _, _, _, _, _ => none
 | k + 1, x6, x11, x12, x13, x471000, x471001 => if x13 < x12 then (if 0 ≤ x13 then (if x13 < (x11.length : Int) then ((impl_Table_find.f x471000 x471001 ((rd_T36 x11 x13).f0) ((rd_T36 x11 x13).f1) ((rd_T36 x11 x13).f2)).bind fun bt478 => (if (rd_T36 x11 x13).f2 = true then ((impl_named.f k ((rd_T36 x11 x13).f0) ((rd_T36 x11 x13).f1) ((rd_T36 x11 x13).f2) bt478.1 4).bind fun t480 => (if x6.size + t480.size ≤ 9223372036854775807 then (impl_Table_write.l0 k (x6 ++ t480) x11 x12 (wrap64 (x13 + 1)) x471000 x471001) else (none))) else (if bt478.2 = true then ((impl_NumWrite.f k bt478.1 7 1).bind fun t481 => (if x6.size + t481.size ≤ 9223372036854775807 then (impl_Table_write.l0 k (x6 ++ t481) x11 x12 (wrap64 (x13 + 1)) x471000 x471001) else (none))) else ((impl_named.f k ((rd_T36 x11 x13).f0) ((rd_T36 x11 x13).f1) ((rd_T36 x11 x13).f2) bt478.1 6).bind fun t482 => (if x6.size + t482.size ≤ 9223372036854775807 then ((impl_Table_add.f k x471000 x471001 ((rd_T36 x11 x13).f0) ((rd_T36 x11 x13).f1) ((rd_T36 x11 x13).f2)).bind fun bt483 => (impl_Table_write.l0 k (x6 ++ t482) x11 x12 (wrap64 (x13 + 1)) bt483.1 bt483.2)) else (none)))))) else (none)) else (none)) else ((impl_Table_clone.f x471000 x471001).bind fun bt472 => (some (bt472.1, bt472.2, x6)))
def impl_Table_write.f (k : Nat) (l0_0 : List (S36)) (a0_1 : Int) (l1 : List (S36)) : Option ((List (S36)) × Int × ByteArray) := impl_Table_write.l0 k (⟨#[]⟩ : ByteArray) l1 (l1.length : Int) 0 l0_0 a0_1
theorem impl_Table_write.mono_l : ∀ k, (∀ y0 y1 y2 y3 y4 y5, LeO (impl_Table_write.l0 k y0 y1 y2 y3 y4 y5) (impl_Table_write.l0 (k + 1) y0 y1 y2 y3 y4 y5))
 | 0 => fun _ _ _ _ _ _ r h => by simp [impl_Table_write.l0] at h
 | k + 1 => by
  have ih0 := impl_Table_write.mono_l k
  ·intro y0 y1 y2 y3 y4 y5
   unfold impl_Table_write.l0
   repeat' first
   | (with_reducible exact ih0 _ _ _ _ _ _)
   | (with_reducible exact impl_NumWrite.mono _ _ _ _)
   | (with_reducible exact impl_Table_add.mono _ _ _ _ _ _)
   | (with_reducible exact impl_named.mono _ _ _ _ _ _)
   | (with_reducible exact LeO.refl _)
   | (with_reducible exact LeO.none _)
   | (with_reducible refine LeO.ite ?_ ?_)
   | (with_reducible refine LeO.bind ?_ (fun _ => ?_))
   | exact ih0 _ _ _ _ _ _
   | exact impl_NumWrite.mono _ _ _ _
   | exact impl_Table_add.mono _ _ _ _ _ _
   | exact impl_named.mono _ _ _ _ _ _
   | exact LeO.none _
   | refine LeO.ite ?_ ?_
   | refine LeO.bind ?_ (fun _ => ?_)
theorem impl_Table_write.mono : ∀ a0 a1 a2 k, LeO (impl_Table_write.f k a0 a1 a2) (impl_Table_write.f (k + 1) a0 a1 a2) := by
 intro a0 a1 a2 k
 have ih0 := impl_Table_write.mono_l k
 unfold impl_Table_write.f
 repeat' first
   | (with_reducible exact ih0 _ _ _ _ _ _)
   | (with_reducible exact impl_NumWrite.mono _ _ _ _)
   | (with_reducible exact impl_Table_add.mono _ _ _ _ _ _)
   | (with_reducible exact impl_named.mono _ _ _ _ _ _)
   | (with_reducible exact LeO.refl _)
   | (with_reducible exact LeO.none _)
   | (with_reducible refine LeO.ite ?_ ?_)
   | (with_reducible refine LeO.bind ?_ (fun _ => ?_))
   | exact ih0 _ _ _ _ _ _
   | exact impl_NumWrite.mono _ _ _ _
   | exact impl_Table_add.mono _ _ _ _ _ _
   | exact impl_named.mono _ _ _ _ _ _
   | exact LeO.none _
   | refine LeO.ite ?_ ?_
   | refine LeO.bind ?_ (fun _ => ?_)
set_option maxHeartbeats 8000000 in
set_option maxRecDepth 100000 in
theorem impl_Table_write.calls (k : Nat) (P0_0_ : Nat → Prop) (A0_0 : Option Addr) (c0_0 : Nat) (l0_0 : List (S36)) (a0_1 : Int) (A1 : Option Addr) (c1 : Nat) (l1 : List (S36)) (r1 : List (S36)) (r2 : Int) (r3 : ByteArray) (w : World) (hs0_0 : Kd.V k36 36 w w.heap.size (fun k_ => P0_0_ k_) (.slice A0_0 l0_0.length c0_0) l0_0) (hr1 : Kd.C k36 w A1 l1.length l1) (hc1 : l1.length ≤ c1) (h : impl_Table_write.f k l0_0 a0_1 l1 = some (r1, r2, r3)) :
  Calls Try.prog 66 #[.agg #[.slice A0_0 l0_0.length c0_0, .int .i64 a0_1], .slice A1 l1.length c1] w fun e w' => ∃ v0_ : Value, e = .returned (.tuple #[.agg #[v0_, .int .i64 r2], .string r3]) ∧ Kd.R k36 36 w' w.heap.size (fun k_ => (w.heap.size ≤ k_)) v0_ r1 ∧ Below w.heap.size w w' := by
 have hu25 := Try.underlying25
 have hu36 := Try.underlying36
 have HO0_0 := Aside0.mk (show Kd.V k36 36 w w.heap.size (fun k_ => (P0_0_ k_ ∨ w.heap.size ≤ k_)) (.slice A0_0 l0_0.length c0_0) l0_0 from Kd.V_mono hs0_0 (fun k_ hk => .inl hk))
 have HR1 := Aside0.mk hr1
 have HC1 := Aside0.mk hc1
 clear hr1 hc1
 have HB := Aside0.mk (Below.refl w.heap.size w)
 have H : (impl_Table_write.l0 k (⟨#[]⟩ : ByteArray) l1 (l1.length : Int) 0 l0_0 a0_1) = some (r1, r2, r3) := h
 clear h
 have H' := Aside0.mk H
 clear H
 go_enter Try.func66, Try.ntmps66
 go_wp2_with (first | ((with_reducible refine gd 2 rfl ?_); refine bx (N := 2) (cs := #[.slice A0_0 l0_0.length c0_0, .int .i64 a0_1]) (t := 25) ?_; intro gb470 hg w3 hbox hb; replace HO0_0 := Aside0.mk (Kd.V_below (Kd.V_elderB (by (with_reducible repeat (first | apply Kd.V_alloc | apply Kd.V_drewN | apply Kd.V_drew)); exact HO0_0.out) gb470 (Nat.le_of_eq hg.symm)) hb); have BK470 := Aside0.mk (hbox); have GW470 := Aside0.mk ((by rw [hg]; exact (below_size (zb HB)) : w.heap.size ≤ gb470)); have GE470 := Aside0.mk ((by rw [hg]; exact (below_size (zb HB)) : w.heap.size ≤ gb470)); replace HB := Aside0.mk (below_step (zb HB) hb); clear hb hbox hg) | ((with_reducible refine gd 4 rfl ?_); refine bx (N := 4) (cs := #[.slice none 0 0, .int .i64 0]) (t := 25) ?_; intro gb471 hg w4 hbox hb; replace HO0_0 := Aside0.mk (Kd.V_below (Kd.V_elderB (by (with_reducible repeat (first | apply Kd.V_alloc | apply Kd.V_drewN | apply Kd.V_drew)); exact HO0_0.out) gb471 (Nat.le_of_eq hg.symm)) hb); have BK471 := Aside0.mk (hbox); have GW471 := Aside0.mk ((by rw [hg]; exact (below_size (zb HB)) : w.heap.size ≤ gb471)); have GE471 := Aside0.mk ((by rw [hg]; exact (below_size (zb HB)) : w.heap.size ≤ gb471)); replace HB := Aside0.mk (below_step (zb HB) hb); have NB470_471 := Aside0.mk ((by rw [hg]; exact Nat.ne_of_lt (blk_lt (g := gb470) (o := .cells #[.slice A0_0 l0_0.length c0_0, .int .i64 a0_1] 25 (0, 0)) (zk BK470)) : gb470 ≠ gb471)); have NB471_470 := Aside0.mk ((by rw [hg]; exact Nat.ne_of_gt (blk_lt (g := gb470) (o := .cells #[.slice A0_0 l0_0.length c0_0, .int .i64 a0_1] 25 (0, 0)) (zk BK470)) : gb471 ≠ gb470)); replace BK470 := Aside0.mk (blk_below (g := gb470) (o := .cells #[.slice A0_0 l0_0.length c0_0, .int .i64 a0_1] 25 (0, 0)) (zk BK470) hb); clear hb hbox hg))
 go_loopg [6, 13] k (fun kq v6 v13 w' => ∃ (x6_1 : ByteArray) (x13_1 : Int) (x471000_1 : List (S36)) (x471001_1 : Int) (u471000 : Value), v6 = .string x6_1 ∧ v13 = .int .i64 x13_1 ∧ Aside0 (impl_Table_write.l0 kq x6_1 l1 (l1.length : Int) x13_1 x471000_1 x471001_1 = some (r1, r2, r3)) ∧ Aside0 (kq ≤ k) ∧ Aside0 (Kd.V k36 36 w' w.heap.size (fun k_ => (P0_0_ k_ ∨ w.heap.size ≤ k_) ∧ k_ ≠ gb470 ∧ k_ ≠ gb471) u471000 x471000_1) ∧ Aside0 (w'.heap[gb470]? = some (.cells #[u471000, .int .i64 x471001_1] 25 (0, 0))) ∧ Aside0 (w'.heap[gb471]? = some (.cells #[(.slice none 0 0), .int .i64 0] 25 (0, 0))) ∧ Aside0 (Below w.heap.size w w'))
 case atStart => exact ⟨((⟨#[]⟩ : ByteArray)), (0), (l0_0), (a0_1), (.slice A0_0 l0_0.length c0_0), zs, zs, H', ⟨Nat.le_refl _⟩, ⟨by (with_reducible repeat (first | apply Kd.V_alloc | apply Kd.V_drewN | apply Kd.V_drew)); exact Kd.V_mono HO0_0.out (fun _ hk => ⟨hk.1.1, ⟨hk.1.2, hk.2⟩⟩)⟩, ⟨by exact zk BK470⟩, ⟨by exact zk BK471⟩, ⟨zb HB⟩⟩
 case round =>
  clear H'
  try clear c1
  try clear p2
  obtain ⟨x6_1, x13_1, x471000_1, x471001_1, u471000, rfl, rfl, HA, HK1, HO_471000, BK470, BK471, HB⟩ := hrel
  cases gk with
  | zero => exact absurd HA.out (by simp [impl_Table_write.l0])
  | succ k1 =>
   have H := HA.out
   clear HA
   simp only [impl_Table_write.l0] at H
   by_cases c5 : x13_1 < (l1.length : Int)
   ·rw [if_pos c5] at H
    have c5b0 : decide (x13_1 < (l1.length : Int)) = true := decide_eq_true c5
    clear c5
    by_cases c6 : 0 ≤ x13_1
    ·rw [if_pos c6] at H
     have c6b0 : decide (0 ≤ x13_1) = true := decide_eq_true c6
     clear c6
     by_cases c7 : x13_1 < (l1.length : Int)
     ·rw [if_pos c7] at H
      have c7b0 : decide (x13_1 < (l1.length : Int)) = true := decide_eq_true c7
      clear c7
      replace H := Option.bind_eq_some_iff.mp H
      obtain ⟨⟨t478, t479⟩, A80, H⟩ := H
      replace H : (if (rd_T36 l1 x13_1).f2 = true then ((impl_named.f k1 ((rd_T36 l1 x13_1).f0) ((rd_T36 l1 x13_1).f1) ((rd_T36 l1 x13_1).f2) t478 4).bind fun t480 => (if x6_1.size + t480.size ≤ 9223372036854775807 then (impl_Table_write.l0 k1 (x6_1 ++ t480) l1 (l1.length : Int) (wrap64 (x13_1 + 1)) x471000_1 x471001_1) else (none))) else (if t479 = true then ((impl_NumWrite.f k1 t478 7 1).bind fun t481 => (if x6_1.size + t481.size ≤ 9223372036854775807 then (impl_Table_write.l0 k1 (x6_1 ++ t481) l1 (l1.length : Int) (wrap64 (x13_1 + 1)) x471000_1 x471001_1) else (none))) else ((impl_named.f k1 ((rd_T36 l1 x13_1).f0) ((rd_T36 l1 x13_1).f1) ((rd_T36 l1 x13_1).f2) t478 6).bind fun t482 => (if x6_1.size + t482.size ≤ 9223372036854775807 then ((impl_Table_add.f k1 x471000_1 x471001_1 ((rd_T36 l1 x13_1).f0) ((rd_T36 l1 x13_1).f1) ((rd_T36 l1 x13_1).f2)).bind fun bt483 => (impl_Table_write.l0 k1 (x6_1 ++ t482) l1 (l1.length : Int) (wrap64 (x13_1 + 1)) bt483.1 bt483.2)) else (none))))) = some (r1, r2, r3) := H
      have A8 := Aside0.mk A80
      clear A80
      have HC9 := Aside0.mk H
      clear H
      have p476 : 0 ≤ (x13_1 : Int) := of_decide_eq_true za
      have q476 : x13_1 < (l1.length : Int) := of_decide_eq_true za
      obtain ⟨ad476, e476, hx476_0, hx476_1, hx476_2⟩ := at_T36 HR1.out x13_1 p476 q476
      cases e476
      replace hx476_0 := (HB.out.cell (World.block_lt_of_cell? w _ hx476_0)).trans hx476_0
      replace hx476_1 := (HB.out.cell (World.block_lt_of_cell? w _ hx476_1)).trans hx476_1
      replace hx476_2 := (HB.out.cell (World.block_lt_of_cell? w _ hx476_2)).trans hx476_2
      replace p476 := eq_true p476
      replace q476 := eq_true q476
      go_upto_if 31 with (first | ((with_reducible refine gd 8 rfl ?_); refine bx (N := 8) (cs := #[.string (⟨#[]⟩ : ByteArray), .string (⟨#[]⟩ : ByteArray), .bool false]) (t := 36) ?_; intro gb477 hg w10 hbox hb; replace HO_471000 := Aside0.mk (Kd.V_below (Kd.V_elderB (by (with_reducible repeat (first | apply Kd.V_alloc | apply Kd.V_drewN | apply Kd.V_drew)); exact HO_471000.out) gb477 (Nat.le_of_eq hg.symm)) hb); have BK477 := Aside0.mk (hbox); have GW477 := Aside0.mk ((by rw [hg]; exact (below_size (zb HB)) : w.heap.size ≤ gb477)); have GE477 := Aside0.mk ((by rw [hg]; exact (below_size (zb HB)) : w.heap.size ≤ gb477)); replace HB := Aside0.mk (below_step (zb HB) hb); have NB470_477 := Aside0.mk ((by rw [hg]; exact Nat.ne_of_lt (blk_lt (g := gb470) (o := .cells #[u471000, .int .i64 x471001_1] 25 (0, 0)) (zk BK470)) : gb470 ≠ gb477)); have NB477_470 := Aside0.mk ((by rw [hg]; exact Nat.ne_of_gt (blk_lt (g := gb470) (o := .cells #[u471000, .int .i64 x471001_1] 25 (0, 0)) (zk BK470)) : gb477 ≠ gb470)); replace BK470 := Aside0.mk (blk_below (g := gb470) (o := .cells #[u471000, .int .i64 x471001_1] 25 (0, 0)) (zk BK470) hb); have NB471_477 := Aside0.mk ((by rw [hg]; exact Nat.ne_of_lt (blk_lt (g := gb471) (o := .cells #[.slice none 0 0, .int .i64 0] 25 (0, 0)) (zk BK471)) : gb471 ≠ gb477)); have NB477_471 := Aside0.mk ((by rw [hg]; exact Nat.ne_of_gt (blk_lt (g := gb471) (o := .cells #[.slice none 0 0, .int .i64 0] 25 (0, 0)) (zk BK471)) : gb477 ≠ gb471)); replace BK471 := Aside0.mk (blk_below (g := gb471) (o := .cells #[.slice none 0 0, .int .i64 0] 25 (0, 0)) (zk BK471) hb); clear hb hbox hg; have hnb11 := NB477_470.out; have hnc11 := NB470_477.out; have hnb12 := NB477_471.out; have hnc12 := NB471_477.out; have hcz13_0 : w10.cell? ⟨gb477, 0, none⟩ = some (.string (⟨#[]⟩ : ByteArray)) := (blk_cell BK477.out 0).trans rfl; have hcz13_1 : w10.cell? ⟨gb477, 1, none⟩ = some (.string (⟨#[]⟩ : ByteArray)) := (blk_cell BK477.out 1).trans rfl; have hcz13_2 : w10.cell? ⟨gb477, 2, none⟩ = some (.bool false) := (blk_cell BK477.out 2).trans rfl; have hfz13_0 := blk_frozen BK477.out 0; have hfz13_1 := blk_frozen BK477.out 1; have hfz13_2 := blk_frozen BK477.out 2; have hnb14 := NB470_471.out; have hnc14 := NB471_470.out; have hcz15_0 : w10.cell? ⟨gb470, 0, none⟩ = some (u471000) := (blk_cell BK470.out 0).trans rfl; have hcz15_1 : w10.cell? ⟨gb470, 1, none⟩ = some (.int .i64 x471001_1) := (blk_cell BK470.out 1).trans rfl; have hfz15_0 := blk_frozen BK470.out 0; have hfz15_1 := blk_frozen BK470.out 1; obtain ⟨Ao16, co16, eo16⟩ := Kd.V_slice HO_471000.out; subst eo16) | ((with_reducible refine gq 62 rfl ?_); refine gl (some 20) Try.func62 #[.agg #[.slice Ao16 x471000_1.length co16, .int .i64 x471001_1], .agg #[.string ((rd_T36 l1 x13_1).f0), .string ((rd_T36 l1 x13_1).f1), .bool ((rd_T36 l1 x13_1).f2)]] ?_; (with_reducible refine (impl_Table_find.calls _ _ x471000_1 x471001_1 ((rd_T36 l1 x13_1).f0) ((rd_T36 l1 x13_1).f1) ((rd_T36 l1 x13_1).f2) t478 t479 _ ?side1 ?side2 A8.out).mono ?_); (case side1 => refine (Kd.V_reads' (e := 36) (base := w.heap.size) (ok := fun k_ => ((((P0_0_ k_ ∨ w.heap.size ≤ k_)) ∧ (k_ ≠ gb470 ∧ k_ ≠ gb471)) ∧ k_ ≠ gb477)) (n := x471000_1.length) (c := co16) ?_).2.2; exact (by (with_reducible repeat (first | apply Kd.V_alloc | apply Kd.V_drewN | apply Kd.V_drew)); exact (Kd.V_mono (Kd.V_far (p := ⟨gb477, 2, none⟩) (Kd.V_far (p := ⟨gb477, 1, none⟩) (Kd.V_far (p := ⟨gb477, 0, none⟩) (Kd.V_mono HO_471000.out (fun k_ hk => (⟨hk, hk.2⟩ : _ ∧ k_ ≠ gb477))) (fun _ hk => hk.2) (.string ((rd_T36 l1 x13_1).f0))) (fun _ hk => hk.2) (.string ((rd_T36 l1 x13_1).f1))) (fun _ hk => hk.2) (.bool ((rd_T36 l1 x13_1).f2))) (fun _ h_ => h_.1)))); (case side2 => exact (Kd.V_reads' HO_471000.out).2.1); rintro e w17 ⟨rfl, hb⟩; refine ⟨_, rfl, ?_⟩; replace HO_471000 := Aside0.mk (Kd.V_below (by (with_reducible repeat (first | apply Kd.V_alloc | apply Kd.V_drewN | apply Kd.V_drew)); exact (Kd.V_mono (Kd.V_far (p := ⟨gb477, 2, none⟩) (Kd.V_far (p := ⟨gb477, 1, none⟩) (Kd.V_far (p := ⟨gb477, 0, none⟩) (Kd.V_mono HO_471000.out (fun k_ hk => (⟨hk, hk.2⟩ : _ ∧ k_ ≠ gb477))) (fun _ hk => hk.2) (.string ((rd_T36 l1 x13_1).f0))) (fun _ hk => hk.2) (.string ((rd_T36 l1 x13_1).f1))) (fun _ hk => hk.2) (.bool ((rd_T36 l1 x13_1).f2))) (fun _ h_ => h_.1))) hb); replace BK470 := Aside0.mk (blk_below (g := gb470) (o := .cells #[.slice Ao16 x471000_1.length co16, .int .i64 x471001_1] 25 (0, 0)) (by (with_reducible repeat (first | refine blk_drewN ?_ _ | refine blk_drew ?_ | refine blk_alloc ?_ _)); refine blk_far ?_ NB470_477.out _; (with_reducible repeat (first | refine blk_drewN ?_ _ | refine blk_drew ?_ | refine blk_alloc ?_ _)); refine blk_far ?_ NB470_477.out _; (with_reducible repeat (first | refine blk_drewN ?_ _ | refine blk_drew ?_ | refine blk_alloc ?_ _)); refine blk_far ?_ NB470_477.out _; exact zk BK470) hb); replace BK471 := Aside0.mk (blk_below (g := gb471) (o := .cells #[.slice none 0 0, .int .i64 0] 25 (0, 0)) (by (with_reducible repeat (first | refine blk_drewN ?_ _ | refine blk_drew ?_ | refine blk_alloc ?_ _)); refine blk_far ?_ NB471_477.out _; (with_reducible repeat (first | refine blk_drewN ?_ _ | refine blk_drew ?_ | refine blk_alloc ?_ _)); refine blk_far ?_ NB471_477.out _; (with_reducible repeat (first | refine blk_drewN ?_ _ | refine blk_drew ?_ | refine blk_alloc ?_ _)); refine blk_far ?_ NB471_477.out _; exact zk BK471) hb); replace BK477 := Aside0.mk (blk_below (g := gb477) (o := .cells #[.string ((rd_T36 l1 x13_1).f0), .string ((rd_T36 l1 x13_1).f1), .bool ((rd_T36 l1 x13_1).f2)] 36 (0, 0)) (by (with_reducible repeat (first | refine blk_drewN ?_ _ | refine blk_drew ?_ | refine blk_alloc ?_ _)); refine blk_put (cs := #[.string ((rd_T36 l1 x13_1).f0), .string ((rd_T36 l1 x13_1).f1), .bool false]) ?_ 2 _ rfl; (with_reducible repeat (first | refine blk_drewN ?_ _ | refine blk_drew ?_ | refine blk_alloc ?_ _)); refine blk_put (cs := #[.string ((rd_T36 l1 x13_1).f0), .string (⟨#[]⟩ : ByteArray), .bool false]) ?_ 1 _ rfl; (with_reducible repeat (first | refine blk_drewN ?_ _ | refine blk_drew ?_ | refine blk_alloc ?_ _)); refine blk_put (cs := #[.string (⟨#[]⟩ : ByteArray), .string (⟨#[]⟩ : ByteArray), .bool false]) ?_ 0 _ rfl; exact zk BK477) hb); replace HB := Aside0.mk (below_step (zb HB) hb); (try clear hb); (try clear hk); have hcz18_0 : w17.cell? ⟨gb477, 0, none⟩ = some (.string ((rd_T36 l1 x13_1).f0)) := (blk_cell BK477.out 0).trans rfl; have hcz18_1 : w17.cell? ⟨gb477, 1, none⟩ = some (.string ((rd_T36 l1 x13_1).f1)) := (blk_cell BK477.out 1).trans rfl; have hcz18_2 : w17.cell? ⟨gb477, 2, none⟩ = some (.bool ((rd_T36 l1 x13_1).f2)) := (blk_cell BK477.out 2).trans rfl; have hfz18_0 := blk_frozen BK477.out 0; have hfz18_1 := blk_frozen BK477.out 1; have hfz18_2 := blk_frozen BK477.out 2))
      (try simp only [Act.put, s1, s2, s3])
      have H := HC9.out
      clear HC9
      obtain ⟨bq19, hbq19⟩ : ∃ b_ : Bool, b_ = ((rd_T36 l1 x13_1).f2) := ⟨_, rfl⟩
      replace H : (if bq19 = true then ((impl_named.f k1 ((rd_T36 l1 x13_1).f0) ((rd_T36 l1 x13_1).f1) (bq19) t478 4).bind fun t480 => (if x6_1.size + t480.size ≤ 9223372036854775807 then (impl_Table_write.l0 k1 (x6_1 ++ t480) l1 (l1.length : Int) (wrap64 (x13_1 + 1)) x471000_1 x471001_1) else (none))) else (if t479 = true then ((impl_NumWrite.f k1 t478 7 1).bind fun t481 => (if x6_1.size + t481.size ≤ 9223372036854775807 then (impl_Table_write.l0 k1 (x6_1 ++ t481) l1 (l1.length : Int) (wrap64 (x13_1 + 1)) x471000_1 x471001_1) else (none))) else ((impl_named.f k1 ((rd_T36 l1 x13_1).f0) ((rd_T36 l1 x13_1).f1) (bq19) t478 6).bind fun t482 => (if x6_1.size + t482.size ≤ 9223372036854775807 then ((impl_Table_add.f k1 x471000_1 x471001_1 ((rd_T36 l1 x13_1).f0) ((rd_T36 l1 x13_1).f1) (bq19)).bind fun bt483 => (impl_Table_write.l0 k1 (x6_1 ++ t482) l1 (l1.length : Int) (wrap64 (x13_1 + 1)) bt483.1 bt483.2)) else (none))))) = some (r1, r2, r3) := by rw [← hbq19] at H; exact H
      have Nbq19 := Aside0.mk hbq19
      clear hbq19
      (try rw [← Nbq19.out])
      (try rw [← Nbq19.out] at BK470)
      (try rw [← Nbq19.out] at BK471)
      (try rw [← Nbq19.out] at BK477)
      (try rw [← Nbq19.out] at hcz18_2)
      by_cases c20 : bq19 = true
      ·subst c20
       have H1 : ((impl_named.f k1 ((rd_T36 l1 x13_1).f0) ((rd_T36 l1 x13_1).f1) (true) t478 4).bind fun t480 => (if x6_1.size + t480.size ≤ 9223372036854775807 then (impl_Table_write.l0 k1 (x6_1 ++ t480) l1 (l1.length : Int) (wrap64 (x13_1 + 1)) x471000_1 x471001_1) else (none))) = some (r1, r2, r3) := by rw [if_pos rfl] at H; exact H
       clear H
       have H := H1
       clear H1
       replace H := Option.bind_eq_some_iff.mp H
       obtain ⟨t480, A210, H⟩ := H
       replace H : (if x6_1.size + t480.size ≤ 9223372036854775807 then (impl_Table_write.l0 k1 (x6_1 ++ t480) l1 (l1.length : Int) (wrap64 (x13_1 + 1)) x471000_1 x471001_1) else (none)) = some (r1, r2, r3) := H
       have A21 := Aside0.mk A210
       clear A210
       by_cases c22 : x6_1.size + t480.size ≤ 9223372036854775807
       ·rw [if_pos c22] at H
        have c22b0 := eq_true c22
        have c22b1 : decide (x6_1.size + t480.size ≤ 9223372036854775807) = true := decide_eq_true c22
        try have c22b2 : (9223372036854775807 < x6_1.size + t480.size) = False := eq_false (Nat.not_lt.2 c22)
        have H' := Aside0.mk H
        clear H
        have hnb23 := NB477_470.out
        have hnc23 := NB470_477.out
        have hnb24 := NB477_471.out
        have hnc24 := NB471_477.out
        have hcz25_0 : w17.cell? ⟨gb477, 0, none⟩ = some (.string ((rd_T36 l1 x13_1).f0)) := (blk_cell BK477.out 0).trans rfl
        have hcz25_1 : w17.cell? ⟨gb477, 1, none⟩ = some (.string ((rd_T36 l1 x13_1).f1)) := (blk_cell BK477.out 1).trans rfl
        have hcz25_2 : w17.cell? ⟨gb477, 2, none⟩ = some (.bool true) := (blk_cell BK477.out 2).trans rfl
        have hfz25_0 := blk_frozen BK477.out 0
        have hfz25_1 := blk_frozen BK477.out 1
        have hfz25_2 := blk_frozen BK477.out 2
        go_wp2_with (first | ((with_reducible refine gq 82 rfl ?_); refine gl (some 37) Try.func82 #[.agg #[.string ((rd_T36 l1 x13_1).f0), .string ((rd_T36 l1 x13_1).f1), .bool true], .int .i64 t478, .int .i64 4] ?_; (with_reducible refine (impl_named.calls k1 ((rd_T36 l1 x13_1).f0) ((rd_T36 l1 x13_1).f1) true t478 4 t480 _ A21.out).mono ?_); rintro e w26 ⟨rfl, hb⟩; refine ⟨_, rfl, ?_⟩; replace HO_471000 := Aside0.mk (Kd.V_below (by (with_reducible repeat (first | apply Kd.V_alloc | apply Kd.V_drewN | apply Kd.V_drew)); exact HO_471000.out) hb); replace BK470 := Aside0.mk (blk_below (g := gb470) (o := .cells #[.slice Ao16 x471000_1.length co16, .int .i64 x471001_1] 25 (0, 0)) (zk BK470) hb); replace BK471 := Aside0.mk (blk_below (g := gb471) (o := .cells #[.slice none 0 0, .int .i64 0] 25 (0, 0)) (zk BK471) hb); replace BK477 := Aside0.mk (blk_below (g := gb477) (o := .cells #[.string ((rd_T36 l1 x13_1).f0), .string ((rd_T36 l1 x13_1).f1), .bool true] 36 (0, 0)) (zk BK477) hb); replace HB := Aside0.mk (below_step (zb HB) hb); (try clear hb)))
        go_roundg k1
        case measure => have := HK1.out; omega
        case rel => exact ⟨(x6_1 ++ t480), (wrap64 (x13_1 + 1)), (x471000_1), (x471001_1), (.slice Ao16 x471000_1.length co16), zs, zs, H', ⟨by have := HK1.out; omega⟩, ⟨by (with_reducible repeat (first | apply Kd.V_alloc | apply Kd.V_drewN | apply Kd.V_drew)); exact Kd.V_mono HO_471000.out (fun _ hk => ⟨hk.1.1, ⟨hk.1.2.1, hk.1.2.2⟩⟩)⟩, ⟨by exact zk BK470⟩, ⟨by exact zk BK471⟩, ⟨zb HB⟩⟩
       ·rw [if_neg c22] at H
        exact absurd H (by simp)
      ·replace c20 := Bool.eq_false_iff.mpr c20
       subst c20
       have H1 : (if t479 = true then ((impl_NumWrite.f k1 t478 7 1).bind fun t481 => (if x6_1.size + t481.size ≤ 9223372036854775807 then (impl_Table_write.l0 k1 (x6_1 ++ t481) l1 (l1.length : Int) (wrap64 (x13_1 + 1)) x471000_1 x471001_1) else (none))) else ((impl_named.f k1 ((rd_T36 l1 x13_1).f0) ((rd_T36 l1 x13_1).f1) (false) t478 6).bind fun t482 => (if x6_1.size + t482.size ≤ 9223372036854775807 then ((impl_Table_add.f k1 x471000_1 x471001_1 ((rd_T36 l1 x13_1).f0) ((rd_T36 l1 x13_1).f1) (false)).bind fun bt483 => (impl_Table_write.l0 k1 (x6_1 ++ t482) l1 (l1.length : Int) (wrap64 (x13_1 + 1)) bt483.1 bt483.2)) else (none)))) = some (r1, r2, r3) := by rw [if_neg (show ¬ (false = true) by decide)] at H; exact H
       clear H
       have H := H1
       clear H1
       by_cases c27 : t479 = true
       ·subst c27
        have H1 : ((impl_NumWrite.f k1 t478 7 1).bind fun t481 => (if x6_1.size + t481.size ≤ 9223372036854775807 then (impl_Table_write.l0 k1 (x6_1 ++ t481) l1 (l1.length : Int) (wrap64 (x13_1 + 1)) x471000_1 x471001_1) else (none))) = some (r1, r2, r3) := by rw [if_pos rfl] at H; exact H
        clear H
        have H := H1
        clear H1
        replace H := Option.bind_eq_some_iff.mp H
        obtain ⟨t481, A280, H⟩ := H
        replace H : (if x6_1.size + t481.size ≤ 9223372036854775807 then (impl_Table_write.l0 k1 (x6_1 ++ t481) l1 (l1.length : Int) (wrap64 (x13_1 + 1)) x471000_1 x471001_1) else (none)) = some (r1, r2, r3) := H
        have A28 := Aside0.mk A280
        clear A280
        by_cases c29 : x6_1.size + t481.size ≤ 9223372036854775807
        ·rw [if_pos c29] at H
         have c29b0 := eq_true c29
         have c29b1 : decide (x6_1.size + t481.size ≤ 9223372036854775807) = true := decide_eq_true c29
         try have c29b2 : (9223372036854775807 < x6_1.size + t481.size) = False := eq_false (Nat.not_lt.2 c29)
         have H' := Aside0.mk H
         clear H
         go_wp2_with (first | ((with_reducible refine gq 83 rfl ?_); refine gl (some 43) Try.func83 #[.int .i64 t478, .int .i64 7, .int .i64 1] ?_; (with_reducible refine (impl_NumWrite.calls k1 t478 7 1 t481 _ A28.out).mono ?_); rintro e w30 ⟨rfl, hb⟩; refine ⟨_, rfl, ?_⟩; replace HO_471000 := Aside0.mk (Kd.V_below (by (with_reducible repeat (first | apply Kd.V_alloc | apply Kd.V_drewN | apply Kd.V_drew)); exact HO_471000.out) hb); replace BK470 := Aside0.mk (blk_below (g := gb470) (o := .cells #[.slice Ao16 x471000_1.length co16, .int .i64 x471001_1] 25 (0, 0)) (zk BK470) hb); replace BK471 := Aside0.mk (blk_below (g := gb471) (o := .cells #[.slice none 0 0, .int .i64 0] 25 (0, 0)) (zk BK471) hb); replace BK477 := Aside0.mk (blk_below (g := gb477) (o := .cells #[.string ((rd_T36 l1 x13_1).f0), .string ((rd_T36 l1 x13_1).f1), .bool false] 36 (0, 0)) (zk BK477) hb); replace HB := Aside0.mk (below_step (zb HB) hb); (try clear hb)))
         go_roundg k1
         case measure => have := HK1.out; omega
         case rel => exact ⟨(x6_1 ++ t481), (wrap64 (x13_1 + 1)), (x471000_1), (x471001_1), (.slice Ao16 x471000_1.length co16), zs, zs, H', ⟨by have := HK1.out; omega⟩, ⟨by (with_reducible repeat (first | apply Kd.V_alloc | apply Kd.V_drewN | apply Kd.V_drew)); exact Kd.V_mono HO_471000.out (fun _ hk => ⟨hk.1.1, ⟨hk.1.2.1, hk.1.2.2⟩⟩)⟩, ⟨by exact zk BK470⟩, ⟨by exact zk BK471⟩, ⟨zb HB⟩⟩
        ·rw [if_neg c29] at H
         exact absurd H (by simp)
       ·replace c27 := Bool.eq_false_iff.mpr c27
        subst c27
        have H1 : ((impl_named.f k1 ((rd_T36 l1 x13_1).f0) ((rd_T36 l1 x13_1).f1) (false) t478 6).bind fun t482 => (if x6_1.size + t482.size ≤ 9223372036854775807 then ((impl_Table_add.f k1 x471000_1 x471001_1 ((rd_T36 l1 x13_1).f0) ((rd_T36 l1 x13_1).f1) (false)).bind fun bt483 => (impl_Table_write.l0 k1 (x6_1 ++ t482) l1 (l1.length : Int) (wrap64 (x13_1 + 1)) bt483.1 bt483.2)) else (none))) = some (r1, r2, r3) := by rw [if_neg (show ¬ (false = true) by decide)] at H; exact H
        clear H
        have H := H1
        clear H1
        replace H := Option.bind_eq_some_iff.mp H
        obtain ⟨t482, A310, H⟩ := H
        replace H : (if x6_1.size + t482.size ≤ 9223372036854775807 then ((impl_Table_add.f k1 x471000_1 x471001_1 ((rd_T36 l1 x13_1).f0) ((rd_T36 l1 x13_1).f1) (false)).bind fun bt483 => (impl_Table_write.l0 k1 (x6_1 ++ t482) l1 (l1.length : Int) (wrap64 (x13_1 + 1)) bt483.1 bt483.2)) else (none)) = some (r1, r2, r3) := H
        have A31 := Aside0.mk A310
        clear A310
        by_cases c32 : x6_1.size + t482.size ≤ 9223372036854775807
        ·rw [if_pos c32] at H
         have c32b0 := eq_true c32
         have c32b1 : decide (x6_1.size + t482.size ≤ 9223372036854775807) = true := decide_eq_true c32
         try have c32b2 : (9223372036854775807 < x6_1.size + t482.size) = False := eq_false (Nat.not_lt.2 c32)
         replace H := Option.bind_eq_some_iff.mp H
         obtain ⟨⟨t483, t486⟩, A330, H⟩ := H
         replace H : (impl_Table_write.l0 k1 (x6_1 ++ t482) l1 (l1.length : Int) (wrap64 (x13_1 + 1)) t483 t486) = some (r1, r2, r3) := H
         have A33 := Aside0.mk A330
         clear A330
         have H' := Aside0.mk H
         clear H
         have hnb34 := NB477_470.out
         have hnc34 := NB470_477.out
         have hnb35 := NB477_471.out
         have hnc35 := NB471_477.out
         have hcz36_0 : w17.cell? ⟨gb477, 0, none⟩ = some (.string ((rd_T36 l1 x13_1).f0)) := (blk_cell BK477.out 0).trans rfl
         have hcz36_1 : w17.cell? ⟨gb477, 1, none⟩ = some (.string ((rd_T36 l1 x13_1).f1)) := (blk_cell BK477.out 1).trans rfl
         have hcz36_2 : w17.cell? ⟨gb477, 2, none⟩ = some (.bool false) := (blk_cell BK477.out 2).trans rfl
         have hfz36_0 := blk_frozen BK477.out 0
         have hfz36_1 := blk_frozen BK477.out 1
         have hfz36_2 := blk_frozen BK477.out 2
         go_wp2_with (first | ((with_reducible refine gq 82 rfl ?_); refine gl (some 26) Try.func82 #[.agg #[.string ((rd_T36 l1 x13_1).f0), .string ((rd_T36 l1 x13_1).f1), .bool false], .int .i64 t478, .int .i64 6] ?_; (with_reducible refine (impl_named.calls k1 ((rd_T36 l1 x13_1).f0) ((rd_T36 l1 x13_1).f1) false t478 6 t482 _ A31.out).mono ?_); rintro e w37 ⟨rfl, hb⟩; refine ⟨_, rfl, ?_⟩; replace HO_471000 := Aside0.mk (Kd.V_below (by (with_reducible repeat (first | apply Kd.V_alloc | apply Kd.V_drewN | apply Kd.V_drew)); exact HO_471000.out) hb); replace BK470 := Aside0.mk (blk_below (g := gb470) (o := .cells #[.slice Ao16 x471000_1.length co16, .int .i64 x471001_1] 25 (0, 0)) (zk BK470) hb); replace BK471 := Aside0.mk (blk_below (g := gb471) (o := .cells #[.slice none 0 0, .int .i64 0] 25 (0, 0)) (zk BK471) hb); replace BK477 := Aside0.mk (blk_below (g := gb477) (o := .cells #[.string ((rd_T36 l1 x13_1).f0), .string ((rd_T36 l1 x13_1).f1), .bool false] 36 (0, 0)) (zk BK477) hb); replace HB := Aside0.mk (below_step (zb HB) hb); (try clear hb); have hnb38 := NB470_471.out; have hnc38 := NB471_470.out; have hcz39_0 : w37.cell? ⟨gb470, 0, none⟩ = some (.slice Ao16 x471000_1.length co16) := (blk_cell BK470.out 0).trans rfl; have hcz39_1 : w37.cell? ⟨gb470, 1, none⟩ = some (.int .i64 x471001_1) := (blk_cell BK470.out 1).trans rfl; have hfz39_0 := blk_frozen BK470.out 0; have hfz39_1 := blk_frozen BK470.out 1; have hcz40_0 : w37.cell? ⟨gb477, 0, none⟩ = some (.string ((rd_T36 l1 x13_1).f0)) := (blk_cell BK477.out 0).trans rfl; have hcz40_1 : w37.cell? ⟨gb477, 1, none⟩ = some (.string ((rd_T36 l1 x13_1).f1)) := (blk_cell BK477.out 1).trans rfl; have hcz40_2 : w37.cell? ⟨gb477, 2, none⟩ = some (.bool false) := (blk_cell BK477.out 2).trans rfl; have hfz40_0 := blk_frozen BK477.out 0; have hfz40_1 := blk_frozen BK477.out 1; have hfz40_2 := blk_frozen BK477.out 2) | ((with_reducible refine gq 59 rfl ?_); refine gl (some 30) Try.func59 #[.agg #[.slice Ao16 x471000_1.length co16, .int .i64 x471001_1], .agg #[.string ((rd_T36 l1 x13_1).f0), .string ((rd_T36 l1 x13_1).f1), .bool false]] ?_; (with_reducible refine (impl_Table_add.calls k1 (fun k_ => (((P0_0_ k_ ∨ w.heap.size ≤ k_) ∧ (k_ ≠ gb470 ∧ k_ ≠ gb471)) ∧ k_ ≠ gb477)) _ _ x471000_1 x471001_1 ((rd_T36 l1 x13_1).f0) ((rd_T36 l1 x13_1).f1) false t483 t486 _ ?side1 A33.out).mono ?_); (case side1 => exact HO_471000.out); rintro e w41 ⟨v484, rfl, ho0, hb⟩; refine ⟨_, rfl, ?_⟩; replace HO_471000 := Aside0.mk (Kd.V_elder' (by (with_reducible repeat (first | apply Kd.V_alloc | apply Kd.V_drewN | apply Kd.V_drew)); exact HO_471000.out) (Kd.R_base ho0) hb); have HO485 := Aside0.mk (Kd.R_lower (Kd.R_newB (Kd.R_newM (M := fun k_ => (w.heap.size ≤ k_)) (Kd.R_mono (ok' := fun k_ => True) ho0 (fun _ hk_ => trivial)) (below_size (zb HB)) (fun k_ h_ => h_)) (g := gb477) (o := .cells #[.string ((rd_T36 l1 x13_1).f0), .string ((rd_T36 l1 x13_1).f1), .bool false] 36 (0, 0)) (zk BK477)) (below_size (zb HB))); replace BK470 := Aside0.mk (blk_below (g := gb470) (o := .cells #[.slice Ao16 x471000_1.length co16, .int .i64 x471001_1] 25 (0, 0)) (zk BK470) hb); replace BK471 := Aside0.mk (blk_below (g := gb471) (o := .cells #[.slice none 0 0, .int .i64 0] 25 (0, 0)) (zk BK471) hb); replace BK477 := Aside0.mk (blk_below (g := gb477) (o := .cells #[.string ((rd_T36 l1 x13_1).f0), .string ((rd_T36 l1 x13_1).f1), .bool false] 36 (0, 0)) (zk BK477) hb); replace HB := Aside0.mk (below_step (zb HB) hb); (try clear hb); (try clear ho0); obtain ⟨Ao42, co42, eo42⟩ := Kd.R_slice HO485.out; subst eo42; have hcz43_0 : w41.cell? ⟨gb470, 0, none⟩ = some (.slice Ao16 x471000_1.length co16) := (blk_cell BK470.out 0).trans rfl; have hcz43_1 : w41.cell? ⟨gb470, 1, none⟩ = some (.int .i64 x471001_1) := (blk_cell BK470.out 1).trans rfl; have hfz43_0 := blk_frozen BK470.out 0; have hfz43_1 := blk_frozen BK470.out 1))
         go_roundg k1
         case measure => have := HK1.out; omega
         case rel => exact ⟨(x6_1 ++ t482), (wrap64 (x13_1 + 1)), (t483), (t486), (.slice Ao42 t483.length co42), zs, zs, H', ⟨by have := HK1.out; omega⟩, ⟨by first | (refine Kd.V_mono (Kd.R_V (base := w.heap.size) ?h_) (fun k_ (hk : ((w.heap.size ≤ k_)) ∧ _) => ⟨(.inr (hk.1)), hk.2⟩); exact (by (with_reducible repeat (first | apply Kd.R_alloc | apply Kd.R_drewN | apply Kd.R_drew)); exact Kd.R_mono (Kd.R_far (p := ⟨gb470, 1, none⟩) (Kd.R_far (p := ⟨gb470, 0, none⟩) (Kd.R_types (Kd.R_types (Kd.R_types HO485.out BK470.out (by decide)) BK471.out (by decide)) BK470.out (by decide)) (fun _ hk => hk.2) (.slice Ao42 t483.length co42)) (fun _ hk => hk.2) (.int .i64 t486)) (fun _ hk => ⟨hk.1.1.1.1.1, ⟨hk.1.1.2, hk.1.2⟩⟩))) | (refine Kd.V_mono (Kd.R_V (base := w.heap.size) ?h_) (fun k_ (hk : (w.heap.size ≤ k_)) => (.inr (hk))); exact (by (with_reducible repeat (first | apply Kd.R_alloc | apply Kd.R_drewN | apply Kd.R_drew)); exact Kd.R_mono (Kd.R_far (p := ⟨gb470, 1, none⟩) (Kd.R_far (p := ⟨gb470, 0, none⟩) (Kd.R_types (Kd.R_types (Kd.R_types HO485.out BK470.out (by decide)) BK471.out (by decide)) BK470.out (by decide)) (fun _ hk => hk.2) (.slice Ao42 t483.length co42)) (fun _ hk => hk.2) (.int .i64 t486)) (fun _ hk => ⟨hk.1.1.1.1.1, ⟨hk.1.1.2, hk.1.2⟩⟩)))⟩, ⟨by (with_reducible repeat (first | refine blk_drewN ?_ _ | refine blk_drew ?_ | refine blk_alloc ?_ _)); refine blk_put (cs := #[.slice Ao42 t483.length co42, .int .i64 x471001_1]) ?_ 1 _ rfl; (with_reducible repeat (first | refine blk_drewN ?_ _ | refine blk_drew ?_ | refine blk_alloc ?_ _)); refine blk_put (cs := #[.slice Ao16 x471000_1.length co16, .int .i64 x471001_1]) ?_ 0 _ rfl; exact zk BK470⟩, ⟨by (with_reducible repeat (first | refine blk_drewN ?_ _ | refine blk_drew ?_ | refine blk_alloc ?_ _)); refine blk_far ?_ NB471_470.out _; (with_reducible repeat (first | refine blk_drewN ?_ _ | refine blk_drew ?_ | refine blk_alloc ?_ _)); refine blk_far ?_ NB471_470.out _; exact zk BK471⟩, ⟨zb HB⟩⟩
        ·rw [if_neg c32] at H
         exact absurd H (by simp)
     ·rw [if_neg c7] at H
      exact absurd H (by simp)
    ·rw [if_neg c6] at H
     exact absurd H (by simp)
   ·rw [if_neg c5] at H
    have c5b0 : decide (x13_1 < (l1.length : Int)) = false := decide_eq_false c5
    clear c5
    replace H := Option.bind_eq_some_iff.mp H
    obtain ⟨⟨t472, t475⟩, A440, H⟩ := H
    replace H : (some (t472, t475, x6_1)) = some (r1, r2, r3) := H
    have A44 := Aside0.mk A440
    clear A440
    simp only [Option.some.injEq, Prod.mk.injEq] at H
    obtain ⟨rfl, rfl, rfl⟩ := H
    have hnb45 := NB470_471.out
    have hnc45 := NB471_470.out
    have hcz46_0 : wr.cell? ⟨gb470, 0, none⟩ = some (u471000) := (blk_cell BK470.out 0).trans rfl
    have hcz46_1 : wr.cell? ⟨gb470, 1, none⟩ = some (.int .i64 x471001_1) := (blk_cell BK470.out 1).trans rfl
    have hfz46_0 := blk_frozen BK470.out 0
    have hfz46_1 := blk_frozen BK470.out 1
    obtain ⟨Ao47, co47, eo47⟩ := Kd.V_slice HO_471000.out
    subst eo47
    go_wp2_with (first | ((with_reducible refine gq 69 rfl ?_); refine gl (some 47) Try.func69 #[.agg #[.slice Ao47 x471000_1.length co47, .int .i64 x471001_1]] ?_; (with_reducible refine (impl_Table_clone.calls _ _ x471000_1 x471001_1 t472 t475 _ ?side1 ?side2 A44.out).mono ?_); (case side1 => exact zc (Kd.V_reads' HO_471000.out).2.2); (case side2 => exact (Kd.V_reads' HO_471000.out).2.1); rintro e w48 ⟨v473, rfl, ho0, hb⟩; refine ⟨_, rfl, ?_⟩; replace HO_471000 := Aside0.mk (Kd.V_elder' (by (with_reducible repeat (first | apply Kd.V_alloc | apply Kd.V_drewN | apply Kd.V_drew)); exact HO_471000.out) (Kd.R_base ho0) hb); have HO474 := Aside0.mk (Kd.R_lower (Kd.R_newM (M := fun k_ => (w.heap.size ≤ k_)) ho0 (below_size (zb HB)) (fun k_ h_ => h_)) (below_size (zb HB))); replace BK470 := Aside0.mk (blk_below (g := gb470) (o := .cells #[.slice Ao47 x471000_1.length co47, .int .i64 x471001_1] 25 (0, 0)) (zk BK470) hb); replace BK471 := Aside0.mk (blk_below (g := gb471) (o := .cells #[.slice none 0 0, .int .i64 0] 25 (0, 0)) (zk BK471) hb); replace HB := Aside0.mk (below_step (zb HB) hb); (try clear hb); (try clear ho0); obtain ⟨Ao49, co49, eo49⟩ := Kd.R_slice HO474.out; subst eo49; have hcz50_0 : w48.cell? ⟨gb471, 0, none⟩ = some (.slice none 0 0) := (blk_cell BK471.out 0).trans rfl; have hcz50_1 : w48.cell? ⟨gb471, 1, none⟩ = some (.int .i64 0) := (blk_cell BK471.out 1).trans rfl; have hfz50_0 := blk_frozen BK471.out 0; have hfz50_1 := blk_frozen BK471.out 1))
    refine bodyPost_ret (results_ct rfl _ _ gb471 25 #[.slice Ao49 t472.length co49, .int .i64 t475] (0, 0) _ rfl (by (with_reducible repeat (first | refine blk_drewN ?_ _ | refine blk_drew ?_ | refine blk_alloc ?_ _)); refine blk_put (cs := #[.slice Ao49 t472.length co49, .int .i64 0]) ?_ 1 _ rfl; (with_reducible repeat (first | refine blk_drewN ?_ _ | refine blk_drew ?_ | refine blk_alloc ?_ _)); refine blk_put (cs := #[.slice none 0 0, .int .i64 0]) ?_ 0 _ rfl; exact zk BK471) Try.underlying25 rfl (by kernel_rfl)) rfl ?_
    exact ⟨_, ze, by (with_reducible repeat (first | apply Kd.R_alloc | apply Kd.R_drewN | apply Kd.R_drew)); exact Kd.R_mono (Kd.R_far (p := ⟨gb471, 1, none⟩) (Kd.R_far (p := ⟨gb471, 0, none⟩) (Kd.R_types HO474.out BK471.out (by decide)) (fun _ hk => hk.2) (.slice Ao49 t472.length co49)) (fun _ hk => hk.2) (.int .i64 t475)) (fun _ hk => hk.1.1), zb HB⟩

/-! ### impl_HeadWrite: function 39 -/
-- thin
def impl_HeadWrite.f (k : Nat) (l0_0 : List (S36)) (a0_1 : Int) (l1 : List (S36)) : Option ((List (S36)) × Int × ByteArray) := (impl_TableOk.f k l0_0 a0_1).bind fun t489 => (if t489 = true then ((impl_HeadOk.f k l1).bind fun t490 => (if t490 = true then ((impl_Table_write.f k l0_0 a0_1 l1).bind fun bt491 => (some (bt491.1, bt491.2.1, bt491.2.2))) else (some (([] : List (S36)), 0, (⟨#[]⟩ : ByteArray))))) else (some (([] : List (S36)), 0, (⟨#[]⟩ : ByteArray))))
theorem impl_HeadWrite.mono : ∀ a0 a1 a2 k, LeO (impl_HeadWrite.f k a0 a1 a2) (impl_HeadWrite.f (k + 1) a0 a1 a2) := by
 intro a0 a1 a2 k
 unfold impl_HeadWrite.f
 repeat' first
   | (with_reducible exact impl_HeadOk.mono _ _)
   | (with_reducible exact impl_TableOk.mono _ _ _)
   | (with_reducible exact impl_Table_write.mono _ _ _ _)
   | (with_reducible exact LeO.refl _)
   | (with_reducible exact LeO.none _)
   | (with_reducible refine LeO.ite ?_ ?_)
   | (with_reducible refine LeO.bind ?_ (fun _ => ?_))
   | exact impl_HeadOk.mono _ _
   | exact impl_TableOk.mono _ _ _
   | exact impl_Table_write.mono _ _ _ _
   | exact LeO.none _
   | refine LeO.ite ?_ ?_
   | refine LeO.bind ?_ (fun _ => ?_)
set_option maxHeartbeats 8000000 in
set_option maxRecDepth 100000 in
theorem impl_HeadWrite.calls (k : Nat) (A0_0 : Option Addr) (c0_0 : Nat) (l0_0 : List (S36)) (a0_1 : Int) (A1 : Option Addr) (c1 : Nat) (l1 : List (S36)) (r1 : List (S36)) (r2 : Int) (r3 : ByteArray) (w : World) (hr0_0 : Kd.C k36 w A0_0 l0_0.length l0_0) (hc0_0 : l0_0.length ≤ c0_0) (hr1 : Kd.C k36 w A1 l1.length l1) (hc1 : l1.length ≤ c1) (h : impl_HeadWrite.f k l0_0 a0_1 l1 = some (r1, r2, r3)) :
  Calls Try.prog 39 #[.agg #[.slice A0_0 l0_0.length c0_0, .int .i64 a0_1], .slice A1 l1.length c1] w fun e w' => ∃ v0_ : Value, e = .returned (.tuple #[.agg #[v0_, .int .i64 r2], .string r3]) ∧ Kd.R k36 36 w' w.heap.size (fun _ => True) v0_ r1 ∧ Below w.heap.size w w' := by
 have hu25 := Try.underlying25
 have HR0_0 := Aside0.mk hr0_0
 have HC0_0 := Aside0.mk hc0_0
 clear hr0_0 hc0_0
 have HR1 := Aside0.mk hr1
 have HC1 := Aside0.mk hc1
 clear hr1 hc1
 have HB := Aside0.mk (Below.refl w.heap.size w)
 have H : ((impl_TableOk.f k l0_0 a0_1).bind fun t489 => (if t489 = true then ((impl_HeadOk.f k l1).bind fun t490 => (if t490 = true then ((impl_Table_write.f k l0_0 a0_1 l1).bind fun bt491 => (some (bt491.1, bt491.2.1, bt491.2.2))) else (some (([] : List (S36)), 0, (⟨#[]⟩ : ByteArray))))) else (some (([] : List (S36)), 0, (⟨#[]⟩ : ByteArray))))) = some (r1, r2, r3) := h
 clear h
 replace H := Option.bind_eq_some_iff.mp H
 obtain ⟨t489, A30, H⟩ := H
 replace H : (if t489 = true then ((impl_HeadOk.f k l1).bind fun t490 => (if t490 = true then ((impl_Table_write.f k l0_0 a0_1 l1).bind fun bt491 => (some (bt491.1, bt491.2.1, bt491.2.2))) else (some (([] : List (S36)), 0, (⟨#[]⟩ : ByteArray))))) else (some (([] : List (S36)), 0, (⟨#[]⟩ : ByteArray)))) = some (r1, r2, r3) := H
 have A3 := Aside0.mk A30
 clear A30
 by_cases c4 : t489 = true
 ·subst c4
  have H1 : ((impl_HeadOk.f k l1).bind fun t490 => (if t490 = true then ((impl_Table_write.f k l0_0 a0_1 l1).bind fun bt491 => (some (bt491.1, bt491.2.1, bt491.2.2))) else (some (([] : List (S36)), 0, (⟨#[]⟩ : ByteArray))))) = some (r1, r2, r3) := by rw [if_pos rfl] at H; exact H
  clear H
  have H := H1
  clear H1
  replace H := Option.bind_eq_some_iff.mp H
  obtain ⟨t490, A50, H⟩ := H
  replace H : (if t490 = true then ((impl_Table_write.f k l0_0 a0_1 l1).bind fun bt491 => (some (bt491.1, bt491.2.1, bt491.2.2))) else (some (([] : List (S36)), 0, (⟨#[]⟩ : ByteArray)))) = some (r1, r2, r3) := H
  have A5 := Aside0.mk A50
  clear A50
  have HC6 := Aside0.mk H
  clear H
  go_enter Try.func39, Try.ntmps39
  go_upto_if 13 with (first | ((with_reducible refine gd 2 rfl ?_); refine bx (N := 2) (cs := #[.slice A0_0 l0_0.length c0_0, .int .i64 a0_1]) (t := 25) ?_; intro gb487 hg w7 hbox hb; have BK487 := Aside0.mk (hbox); have GW487 := Aside0.mk ((by rw [hg]; exact (below_size (zb HB)) : w.heap.size ≤ gb487)); have GE487 := Aside0.mk ((by rw [hg]; exact (below_size (zb HB)) : w.heap.size ≤ gb487)); replace HB := Aside0.mk (below_step (zb HB) hb); clear hb hbox hg) | ((with_reducible refine gd 4 rfl ?_); refine bx (N := 4) (cs := #[.slice none 0 0, .int .i64 0]) (t := 25) ?_; intro gb488 hg w8 hbox hb; have BK488 := Aside0.mk (hbox); have GW488 := Aside0.mk ((by rw [hg]; exact (below_size (zb HB)) : w.heap.size ≤ gb488)); have GE488 := Aside0.mk ((by rw [hg]; exact (below_size (zb HB)) : w.heap.size ≤ gb488)); replace HB := Aside0.mk (below_step (zb HB) hb); have NB487_488 := Aside0.mk ((by rw [hg]; exact Nat.ne_of_lt (blk_lt (g := gb487) (o := .cells #[.slice A0_0 l0_0.length c0_0, .int .i64 a0_1] 25 (0, 0)) (zk BK487)) : gb487 ≠ gb488)); have NB488_487 := Aside0.mk ((by rw [hg]; exact Nat.ne_of_gt (blk_lt (g := gb487) (o := .cells #[.slice A0_0 l0_0.length c0_0, .int .i64 a0_1] 25 (0, 0)) (zk BK487)) : gb488 ≠ gb487)); replace BK487 := Aside0.mk (blk_below (g := gb487) (o := .cells #[.slice A0_0 l0_0.length c0_0, .int .i64 a0_1] 25 (0, 0)) (zk BK487) hb); clear hb hbox hg; have hnb9 := NB487_488.out; have hnc9 := NB488_487.out; have hcz10_0 : w8.cell? ⟨gb487, 0, none⟩ = some (.slice A0_0 l0_0.length c0_0) := (blk_cell BK487.out 0).trans rfl; have hcz10_1 : w8.cell? ⟨gb487, 1, none⟩ = some (.int .i64 a0_1) := (blk_cell BK487.out 1).trans rfl; have hfz10_0 := blk_frozen BK487.out 0; have hfz10_1 := blk_frozen BK487.out 1) | ((with_reducible refine gq 21 rfl ?_); refine gl (some 7) Try.func21 #[.agg #[.slice A0_0 l0_0.length c0_0, .int .i64 a0_1]] ?_; (with_reducible refine (impl_TableOk.calls k _ _ l0_0 a0_1 true _ ?side1 ?side2 A3.out).mono ?_); (case side1 => exact zc (Kd.C_below HR0_0.out HB.out)); (case side2 => exact HC0_0.out); rintro e w11 ⟨rfl, hb⟩; refine ⟨_, rfl, ?_⟩; replace BK487 := Aside0.mk (blk_below (g := gb487) (o := .cells #[.slice A0_0 l0_0.length c0_0, .int .i64 a0_1] 25 (0, 0)) (zk BK487) hb); replace BK488 := Aside0.mk (blk_below (g := gb488) (o := .cells #[.slice none 0 0, .int .i64 0] 25 (0, 0)) (zk BK488) hb); replace HB := Aside0.mk (below_step (zb HB) hb); (try clear hb)) | (go_at_call 65; (with_reducible refine (impl_HeadOk.calls k _ _ l1 t490 _ ?side1 ?side2 A5.out).mono ?_); (case side1 => exact zc (Kd.C_below HR1.out HB.out)); (case side2 => exact HC1.out); rintro e w12 ⟨rfl, hb⟩; replace BK487 := Aside0.mk (blk_below (g := gb487) (o := .cells #[.slice A0_0 l0_0.length c0_0, .int .i64 a0_1] 25 (0, 0)) (zk BK487) hb); replace BK488 := Aside0.mk (blk_below (g := gb488) (o := .cells #[.slice none 0 0, .int .i64 0] 25 (0, 0)) (zk BK488) hb); replace HB := Aside0.mk (below_step (zb HB) hb); (try clear hb)))
  (try simp only [Act.put, s1, s2, s3])
  have H := HC6.out
  clear HC6
  by_cases c13 : t490 = true
  ·subst c13
   have H1 : ((impl_Table_write.f k l0_0 a0_1 l1).bind fun bt491 => (some (bt491.1, bt491.2.1, bt491.2.2))) = some (r1, r2, r3) := by rw [if_pos rfl] at H; exact H
   clear H
   have H := H1
   clear H1
   replace H := Option.bind_eq_some_iff.mp H
   obtain ⟨⟨t491, t494, t495⟩, A140, H⟩ := H
   replace H : (some (t491, t494, t495)) = some (r1, r2, r3) := H
   have A14 := Aside0.mk A140
   clear A140
   simp only [Option.some.injEq, Prod.mk.injEq] at H
   obtain ⟨rfl, rfl, rfl⟩ := H
   have hnb15 := NB487_488.out
   have hnc15 := NB488_487.out
   have hcz16_0 : w12.cell? ⟨gb487, 0, none⟩ = some (.slice A0_0 l0_0.length c0_0) := (blk_cell BK487.out 0).trans rfl
   have hcz16_1 : w12.cell? ⟨gb487, 1, none⟩ = some (.int .i64 a0_1) := (blk_cell BK487.out 1).trans rfl
   have hfz16_0 := blk_frozen BK487.out 0
   have hfz16_1 := blk_frozen BK487.out 1
   go_wp2_with (first | ((with_reducible refine gq 66 rfl ?_); refine gl (some 17) Try.func66 #[.agg #[.slice A0_0 l0_0.length c0_0, .int .i64 a0_1], .slice A1 l1.length c1] ?_; (with_reducible refine (impl_Table_write.calls k (fun k_ => k_ < w.heap.size) _ _ l0_0 a0_1 _ _ l1 t491 t494 t495 _ ?side1 ?side2 ?side3 A14.out).mono ?_); (case side1 => exact Kd.V_mk HC0_0.out (Kd.F_below (Kd.C_F k36_heap HR0_0.out) (zb HB))); (case side2 => exact zc (Kd.C_below HR1.out HB.out)); (case side3 => exact HC1.out); rintro e w17 ⟨v492, rfl, ho0, hb⟩; refine ⟨_, rfl, ?_⟩; have HO493 := Aside0.mk (Kd.R_lower (Kd.R_mono (ok' := fun k_ => True) ho0 (fun _ hk_ => trivial)) (below_size (zb HB))); replace BK487 := Aside0.mk (blk_below (g := gb487) (o := .cells #[.slice A0_0 l0_0.length c0_0, .int .i64 a0_1] 25 (0, 0)) (zk BK487) hb); replace BK488 := Aside0.mk (blk_below (g := gb488) (o := .cells #[.slice none 0 0, .int .i64 0] 25 (0, 0)) (zk BK488) hb); replace HB := Aside0.mk (below_step (zb HB) hb); (try clear hb); (try clear ho0); obtain ⟨Ao18, co18, eo18⟩ := Kd.R_slice HO493.out; subst eo18; have hcz19_0 : w17.cell? ⟨gb488, 0, none⟩ = some (.slice none 0 0) := (blk_cell BK488.out 0).trans rfl; have hcz19_1 : w17.cell? ⟨gb488, 1, none⟩ = some (.int .i64 0) := (blk_cell BK488.out 1).trans rfl; have hfz19_0 := blk_frozen BK488.out 0; have hfz19_1 := blk_frozen BK488.out 1))
   refine bodyPost_ret (results_ct rfl _ _ gb488 25 #[.slice Ao18 t491.length co18, .int .i64 t494] (0, 0) _ rfl (by (with_reducible repeat (first | refine blk_drewN ?_ _ | refine blk_drew ?_ | refine blk_alloc ?_ _)); refine blk_put (cs := #[.slice Ao18 t491.length co18, .int .i64 0]) ?_ 1 _ rfl; (with_reducible repeat (first | refine blk_drewN ?_ _ | refine blk_drew ?_ | refine blk_alloc ?_ _)); refine blk_put (cs := #[.slice none 0 0, .int .i64 0]) ?_ 0 _ rfl; exact zk BK488) Try.underlying25 rfl (by kernel_rfl)) rfl ?_
   exact ⟨_, ze, by (with_reducible repeat (first | apply Kd.R_alloc | apply Kd.R_drewN | apply Kd.R_drew)); exact Kd.R_mono (Kd.R_far (p := ⟨gb488, 1, none⟩) (Kd.R_far (p := ⟨gb488, 0, none⟩) (Kd.R_types HO493.out BK488.out (by decide)) (fun _ hk => hk.2) (.slice Ao18 t491.length co18)) (fun _ hk => hk.2) (.int .i64 t494)) (fun _ hk => trivial), zb HB⟩
  ·replace c13 := Bool.eq_false_iff.mpr c13
   subst c13
   have H1 : (some (([] : List (S36)), 0, (⟨#[]⟩ : ByteArray))) = some (r1, r2, r3) := by rw [if_neg (show ¬ (false = true) by decide)] at H; exact H
   clear H
   have H := H1
   clear H1
   simp only [Option.some.injEq, Prod.mk.injEq] at H
   obtain ⟨rfl, rfl, rfl⟩ := H
   have hnb20 := NB488_487.out
   have hnc20 := NB487_488.out
   have hcz21_0 : w12.cell? ⟨gb488, 0, none⟩ = some (.slice none 0 0) := (blk_cell BK488.out 0).trans rfl
   have hcz21_1 : w12.cell? ⟨gb488, 1, none⟩ = some (.int .i64 0) := (blk_cell BK488.out 1).trans rfl
   have hfz21_0 := blk_frozen BK488.out 0
   have hfz21_1 := blk_frozen BK488.out 1
   go_wp2
   refine bodyPost_ret (results_ct rfl _ _ gb488 25 #[.slice none 0 0, .int .i64 0] (0, 0) _ rfl (by (with_reducible repeat (first | refine blk_drewN ?_ _ | refine blk_drew ?_ | refine blk_alloc ?_ _)); refine blk_put (cs := #[.slice none 0 0, .int .i64 0]) ?_ 1 _ rfl; (with_reducible repeat (first | refine blk_drewN ?_ _ | refine blk_drew ?_ | refine blk_alloc ?_ _)); refine blk_put (cs := #[.slice none 0 0, .int .i64 0]) ?_ 0 _ rfl; exact zk BK488) Try.underlying25 rfl (by kernel_rfl)) rfl ?_
   exact ⟨_, ze, by first | exact Kd.R_nil _ _ _ _ _ | exact Kd.N_nil _ _ _ _ _ | exact Kd.V_nil _ _ _ _ _ | exact Kd.Q_nil _ _ _ _ _ | exact Kd.S_nil _ _ _ _ _, zb HB⟩
 ·replace c4 := Bool.eq_false_iff.mpr c4
  subst c4
  have H1 : (some (([] : List (S36)), 0, (⟨#[]⟩ : ByteArray))) = some (r1, r2, r3) := by rw [if_neg (show ¬ (false = true) by decide)] at H; exact H
  clear H
  have H := H1
  clear H1
  simp only [Option.some.injEq, Prod.mk.injEq] at H
  obtain ⟨rfl, rfl, rfl⟩ := H
  go_enter Try.func39, Try.ntmps39
  go_wp2_with (first | ((with_reducible refine gd 2 rfl ?_); refine bx (N := 2) (cs := #[.slice A0_0 l0_0.length c0_0, .int .i64 a0_1]) (t := 25) ?_; intro gb487 hg w22 hbox hb; have BK487 := Aside0.mk (hbox); have GW487 := Aside0.mk ((by rw [hg]; exact (below_size (zb HB)) : w.heap.size ≤ gb487)); have GE487 := Aside0.mk ((by rw [hg]; exact (below_size (zb HB)) : w.heap.size ≤ gb487)); replace HB := Aside0.mk (below_step (zb HB) hb); clear hb hbox hg) | ((with_reducible refine gd 4 rfl ?_); refine bx (N := 4) (cs := #[.slice none 0 0, .int .i64 0]) (t := 25) ?_; intro gb488 hg w23 hbox hb; have BK488 := Aside0.mk (hbox); have GW488 := Aside0.mk ((by rw [hg]; exact (below_size (zb HB)) : w.heap.size ≤ gb488)); have GE488 := Aside0.mk ((by rw [hg]; exact (below_size (zb HB)) : w.heap.size ≤ gb488)); replace HB := Aside0.mk (below_step (zb HB) hb); have NB487_488 := Aside0.mk ((by rw [hg]; exact Nat.ne_of_lt (blk_lt (g := gb487) (o := .cells #[.slice A0_0 l0_0.length c0_0, .int .i64 a0_1] 25 (0, 0)) (zk BK487)) : gb487 ≠ gb488)); have NB488_487 := Aside0.mk ((by rw [hg]; exact Nat.ne_of_gt (blk_lt (g := gb487) (o := .cells #[.slice A0_0 l0_0.length c0_0, .int .i64 a0_1] 25 (0, 0)) (zk BK487)) : gb488 ≠ gb487)); replace BK487 := Aside0.mk (blk_below (g := gb487) (o := .cells #[.slice A0_0 l0_0.length c0_0, .int .i64 a0_1] 25 (0, 0)) (zk BK487) hb); clear hb hbox hg; have hnb24 := NB487_488.out; have hnc24 := NB488_487.out; have hcz25_0 : w23.cell? ⟨gb487, 0, none⟩ = some (.slice A0_0 l0_0.length c0_0) := (blk_cell BK487.out 0).trans rfl; have hcz25_1 : w23.cell? ⟨gb487, 1, none⟩ = some (.int .i64 a0_1) := (blk_cell BK487.out 1).trans rfl; have hfz25_0 := blk_frozen BK487.out 0; have hfz25_1 := blk_frozen BK487.out 1) | ((with_reducible refine gq 21 rfl ?_); refine gl (some 7) Try.func21 #[.agg #[.slice A0_0 l0_0.length c0_0, .int .i64 a0_1]] ?_; (with_reducible refine (impl_TableOk.calls k _ _ l0_0 a0_1 false _ ?side1 ?side2 A3.out).mono ?_); (case side1 => exact zc (Kd.C_below HR0_0.out HB.out)); (case side2 => exact HC0_0.out); rintro e w26 ⟨rfl, hb⟩; refine ⟨_, rfl, ?_⟩; replace BK487 := Aside0.mk (blk_below (g := gb487) (o := .cells #[.slice A0_0 l0_0.length c0_0, .int .i64 a0_1] 25 (0, 0)) (zk BK487) hb); replace BK488 := Aside0.mk (blk_below (g := gb488) (o := .cells #[.slice none 0 0, .int .i64 0] 25 (0, 0)) (zk BK488) hb); replace HB := Aside0.mk (below_step (zb HB) hb); (try clear hb); have hcz27_0 : w26.cell? ⟨gb488, 0, none⟩ = some (.slice none 0 0) := (blk_cell BK488.out 0).trans rfl; have hcz27_1 : w26.cell? ⟨gb488, 1, none⟩ = some (.int .i64 0) := (blk_cell BK488.out 1).trans rfl; have hfz27_0 := blk_frozen BK488.out 0; have hfz27_1 := blk_frozen BK488.out 1))
  refine bodyPost_ret (results_ct rfl _ _ gb488 25 #[.slice none 0 0, .int .i64 0] (0, 0) _ rfl (by (with_reducible repeat (first | refine blk_drewN ?_ _ | refine blk_drew ?_ | refine blk_alloc ?_ _)); refine blk_put (cs := #[.slice none 0 0, .int .i64 0]) ?_ 1 _ rfl; (with_reducible repeat (first | refine blk_drewN ?_ _ | refine blk_drew ?_ | refine blk_alloc ?_ _)); refine blk_put (cs := #[.slice none 0 0, .int .i64 0]) ?_ 0 _ rfl; exact zk BK488) Try.underlying25 rfl (by kernel_rfl)) rfl ?_
  exact ⟨_, ze, by first | exact Kd.R_nil _ _ _ _ _ | exact Kd.N_nil _ _ _ _ _ | exact Kd.V_nil _ _ _ _ _ | exact Kd.Q_nil _ _ _ _ _ | exact Kd.S_nil _ _ _ _ _, zb HB⟩

end Go.Proofs.Ytdhahifdcoinhaa.PFnHeadAgain
