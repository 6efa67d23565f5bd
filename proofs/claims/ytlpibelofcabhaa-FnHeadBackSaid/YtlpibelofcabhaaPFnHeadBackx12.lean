-- WRITTEN BY a turned print (wip/tools of the prover's repo)
import Derived.Test.YtlpibelofcabhaaPFnHeadBackx0
import Derived.Test.YtlpibelofcabhaaPFnHeadBackx7
import Derived.Test.YtlpibelofcabhaaPFnHeadBackx9
import Derived.Test.YtlpibelofcabhaaPFnHeadBackx11
namespace Go.Proofs.Ytlpibelofcabhaa.PFnHeadBack
open Go.RowKit Go.Proofs.YtlpibelofcabhaaW.PrintWords Go.Proofs.YtlpibelofcabhaaW.PrintLast Go.Proofs.YtlpibelofcabhaaW.PrintMore Go.Proofs.Ytlpibelofcabhaa.Lm
attribute [local go_sem] max2_int min2_int max_two min_two max_three min_three max_four min_four   -- for this text's walks alone
set_option linter.unusedVariables false
set_option linter.unusedSimpArgs false

/-! ### impl_WordUnpack: function 151 -/
-- by hand
def impl_WordUnpack.f (k : Nat) (a0 : ByteArray) : Option (ByteArray × Bool) :=
  if a0.size > 16 then some (⟨#[]⟩, false) else
  (impl_WordOk.f k (upW a0)).bind fun ok => if ok = true then (impl_WordPack.f k (upW a0)).bind fun p => if p = a0 then some (upW a0, true) else some (⟨#[]⟩, false) else some (⟨#[]⟩, false)
theorem impl_WordUnpack.mono : ∀ a0 k, LeO (impl_WordUnpack.f k a0) (impl_WordUnpack.f (k + 1) a0) := by
  intro a0 k
  unfold impl_WordUnpack.f
  refine LeO.ite (LeO.refl _) (LeO.bind (impl_WordOk.mono _ _) (fun _ => LeO.ite (LeO.bind (impl_WordPack.mono _ _) (fun _ => LeO.refl _)) (LeO.refl _)))
set_option maxHeartbeats 8000000 in
set_option maxRecDepth 100000 in
theorem impl_WordUnpack.calls (k : Nat) (a0 : ByteArray) (r1 : ByteArray) (r2 : Bool) (w : World) (h : impl_WordUnpack.f k a0 = some (r1, r2)) :
    Calls Try.prog 151 #[.string a0] w fun e w' => e = .returned (.tuple #[.string r1, .bool r2]) ∧ Below w.heap.size w w' := by
  unfold impl_WordUnpack.f at h
  by_cases hs : a0.size > 16
  · rw [if_pos hs] at h
    simp only [Option.some.injEq, Prod.mk.injEq] at h
    obtain ⟨rfl, rfl⟩ := h
    go_enter Try.func151, Try.ntmps151
    go_wp2
    go_ret2
    exact ⟨by first | rfl | (simp; done), Below.refl _ _⟩
  · rw [if_neg hs] at h
    have HF := Aside0.mk h
    have hs16 : a0.size ≤ 16 := by omega
    clear h hs
    go_enter Try.func151, Try.ntmps151
    go_wp2
    go_loopg [17] (a0.size) (fun kq v17 w' => ∃ (x : Int) (v' : Value), v17 = .int .i64 x ∧ Aside0 (kq + x.toNat = a0.size ∧ 0 ≤ x) ∧ Aside0 (w'.heap[w.heap.size]? = some (.cells #[v'] 196 (0, 0))) ∧ Aside0 (Kd.R (Kd.int .u8) 5 w' w.heap.size (fun _ => True) v' (bitsB a0 x.toNat)) ∧ Aside0 (Below w.heap.size w w'))
    case atStart => exact ⟨0, .slice none 0 0, rfl, ⟨by omega, by omega⟩, ⟨by simpa using heap_alloc_new w _⟩, ⟨Kd.R_nil _ _ _ _ _⟩, ⟨below_alloc (Below.refl _ _) _⟩⟩
    case round =>
      obtain ⟨x, v', rfl, HK, HG, HO, HB⟩ := hrel
      obtain ⟨hk, h0⟩ := HK.out
      by_cases hj : x < a0.size
      · cases gk with
        | zero => omega
        | succ k1 =>
        have hle : (bitsB a0 x.toNat).length ≤ 1000 := by rw [bitsB_len]; omega
        have hb := bt_byte a0 x
        have hx := bt_at a0 x
        have q0 := eq_true h0
        have q1 := eq_true hj
        clear h0 hj hk
        generalize hbb : bt a0 x = b at hb hx
        have HBB := Aside0.mk hbb
        obtain ⟨hb0, hb1⟩ := hb
        clear hbb
        go_wp2_with (go_at_call 165; refine (add_calls w.heap.size b 8 (bitsB a0 x.toNat) v' w _ HB.out HG.out (Nat.le_refl _) HO.out (by omega) (by omega) (by omega) (by omega) (by omega)).mono ?_; rintro e w2 ⟨rfl, hb2, v2, hg2, ho2⟩; have N1 := Aside0.mk hb2; have N2 := Aside0.mk hg2; have N3 := Aside0.mk ho2; clear hb2 hg2 ho2)
        go_roundg k1
        case measure => have := HK.out.1; omega
        case rel =>
          have h0 := of_eq_true q0
          have hj := of_eq_true q1
          have h64 : wrap64 (x + 1) = x + 1 := by unfold wrap64; omega
          refine ⟨x + 1, v2, by rw [h64], ⟨by have := HK.out.1; omega, by omega⟩, N2, ⟨?_⟩, N1⟩
          have h9 := N3.out
          rw [show (x + 1).toNat = x.toNat + 1 by omega, bitsB, show ((x.toNat : Nat) : Int) = x by omega, HBB.out]
          exact h9
      · have e : x.toNat = a0.size := by omega
        have HO1 := HO.out
        rw [e] at HO1
        obtain ⟨A, c, hv, hlc, hC⟩ := Kd.R_reads HO1
        have hLlen := bitsB_len a0 a0.size
        have hLb : Bits (bitsB a0 a0.size) := bitsB_bits a0 _
        have HD := Aside0.mk (show (decF 30 (bitsB a0 a0.size)).1 = (decF 30 (bitsB a0 a0.size)).1 from rfl)
        have HU := Aside0.mk (show upW a0 = strOfNums ((decF 30 (bitsB a0 a0.size)).1.map signAt) from rfl)
        generalize hL : bitsB a0 a0.size = L at *
        clear hL HO HO1 HD
        subst hv
        have HC := Aside0.mk hC
        have HLB := Aside0.mk hLb
        have HLZ : Aside0 (∀ z ∈ L, z = 0 ∨ z = 1) := ⟨hLb⟩
        have hc : wr.cell? ⟨w.heap.size, 0, none⟩ = some (.slice A L.length c) := (blk_cell HG.out 0).trans rfl
        have hLl : L.length ≤ 128 := by omega
        clear hC hLb hk e hLlen
        go_wp2
        obtain ⟨wl, hwl⟩ : ∃ wl : World, wl = wr := ⟨_, rfl⟩
        subst hwl
        go_loopg [6, 7] (30) (fun kq v6 v7 w' => ∃ (x : Int) (o : List Int), v7 = .int .i64 x ∧ Aside0 (0 ≤ x ∧ x ≤ L.length ∧ 5 * (30 - (kq : Int)) ≤ x ∧ kq ≤ 30) ∧ Aside0 (o ++ ((decF kq (L.drop x.toNat)).1.map signAt) = (decF 30 L).1.map signAt) ∧ Aside0 (o.length ≤ x.toNat) ∧ Aside0 (Kd.R (Kd.int .u8) 5 w' wl.heap.size (fun _ => True) v6 o) ∧ Aside0 (Below wl.heap.size wl w'))
        case atStart => exact ⟨0, [], rfl, ⟨by omega, by omega, by omega, by omega⟩, ⟨by simp⟩, ⟨by simp⟩, ⟨Kd.R_nil _ _ _ _ _⟩, ⟨Below.refl _ _⟩⟩
        case round =>
          clear hc
          obtain ⟨x, o, rfl, HK3, HOO, HOL, HO6, HB3⟩ := hrel
          obtain ⟨g0, g1, g2, g3⟩ := HK3.out
          obtain ⟨Ao, co, hv6, _, _⟩ := Kd.R_reads HO6.out
          subst hv6
          have hol := HOL.out
          have hb9 := HB3.out.size
          have hcw : wr.cell? ⟨w.heap.size, 0, none⟩ = some (.slice A L.length c) := (blk_cell (blk_below HG.out HB3.out) 0).trans rfl
          cases gk with
          | zero => omega
          | succ k1 =>
          by_cases h3 : x < (L.length : Int)
          · have hRl : (L.drop x.toNat).length = L.length - x.toNat := List.length_drop
            have hRb := HLB.out.drop x.toNat
            have hm2 : numL (List.take (2 : Int).toNat (List.drop x.toNat L)) = numL ((L.drop x.toNat).take 2) := rfl
            by_cases hA : 2 ≤ (L.drop x.toNat).length ∧ numL ((L.drop x.toNat).take 2) = 3
            · obtain ⟨s1, s2, s3, s4⟩ := dec_step7 k1 _ hRb hA
              have a1 : x + 2 ≤ (L.length : Int) := by omega
              have a2 : decide (x + 2 ≤ (L.length : Int)) = true := decide_eq_true a1
              have HM2 := Aside0.mk (hm2.trans hA.2)
              clear hm2
              by_cases h7 : 7 ≤ (L.drop x.toNat).length
              · have s5 := s4 h7
                have b1 : x + 7 ≤ (L.length : Int) := by omega
                have b2 : decide ((L.length : Int) < x + 7) = false := decide_eq_false (by omega)
                have hm7 : numL (List.take (7 : Int).toNat (List.drop x.toNat L)) = numL ((L.drop x.toNat).take 7) := rfl
                have hr7 := numL_lt _ (hRb.take 7)
                have hp7 := pow8 ((L.drop x.toNat).take 7).length (by rw [List.length_take]; omega)
                by_cases h39 : 39 ≤ numL ((L.drop x.toNat).take 7) - 72
                · have HS := Aside0.mk (s2 h7 h39)
                  clear s1 s2 s3 s4 hA
                  generalize numL ((L.drop x.toNat).take 7) = m7 at *
                  have HM7 := Aside0.mk hm7
                  have c0 : 0 ≤ m7 := hr7.1
                  have c1 : m7 ≤ 256 := by omega
                  have c2 : decide (39 ≤ m7 - 72) = true := decide_eq_true h39
                  clear hm7 hr7 hp7 hRl hRb h7
                  have ho : o = (decF 30 L).1.map signAt := by have h9 := HOO.out; rw [HS.out] at h9; simpa using h9
                  have HW := Aside0.mk (show strOfNums o = upW a0 by rw [HU.out, ho])
                  have hcv := own_string (P := Try.prog) Try.underlying22 Try.underlying5 Try.underlying9 (Kd.own_of_R HO6.out)
                  have hcv1 := fun nd : Nat => own_string (P := Try.prog) Try.underlying22 Try.underlying5 Try.underlying9 (Kd.own_of_R (Kd.R_drewN HO6.out nd))
                  rw [HW.out] at hcv
                  simp only [HW.out] at hcv1
                  clear ho
                  obtain ⟨ok, hok, HF2⟩ := Option.bind_eq_some_iff.mp HF.out
                  generalize hu : upW a0 = u at *
                  have HUU := Aside0.mk hu
                  have HOK := Aside0.mk hok
                  clear hok hu
                  cases ok with
                  | false =>
                    simp only [if_neg (show ¬ (false = true) by decide), Option.some.injEq, Prod.mk.injEq] at HF2
                    obtain ⟨rfl, rfl⟩ := HF2
                    go_wp2_with (first | (go_at_call 166; (with_reducible refine (number_calls A c L x 2 _ (Kd.C_below HC.out (by repeat (first | exact HB3.out | refine pw_below_drewN ?_ _))) hlc (by omega) (by omega) (by omega) (by omega) (by omega) HLZ.out).mono ?_); rw [HM2.out]; rintro e w' ⟨rfl, ⟨nd, rfl⟩⟩) | (go_at_call 166; (with_reducible refine (number_calls A c L x 7 _ (Kd.C_below HC.out (by repeat (first | exact HB3.out | refine pw_below_drewN ?_ _))) hlc (by omega) (by omega) (by omega) (by omega) (by omega) HLZ.out).mono ?_); rw [HM7.out]; rintro e w' ⟨rfl, ⟨nd, rfl⟩⟩) | (go_at_call 122; (with_reducible refine (impl_WordOk.calls k u _ _ HOK.out).mono ?_); rintro e w8 ⟨rfl, hd8⟩; have BB : Aside0 (Below w.heap.size w w8) := ⟨by refine below_then ?_ ?_ (Drawn0.below hd8) <;> (first | exact (below_then HB.out HB.out.size HB3.out).size | (repeat (first | exact below_then HB.out HB.out.size HB3.out | refine pw_below_drewN ?_ _)))⟩; clear hd8) | (go_at_call 164; (with_reducible refine (impl_WordPack.calls k u _ _ HPB.out).mono ?_); rintro e w9 ⟨rfl, hb9⟩; have BB2 := Aside0.mk (below_then BB.out BB.out.size hb9); clear hb9))
                    go_ret2
                    exact ⟨by first | rfl | (simp; done), BB.out⟩
                  | true =>
                    rw [if_pos rfl] at HF2
                    obtain ⟨pb, hpb, HF3⟩ := Option.bind_eq_some_iff.mp HF2
                    have HPB := Aside0.mk hpb
                    clear hpb HF2
                    by_cases hpe : pb = a0
                    · rw [if_pos hpe] at HF3
                      simp only [Option.some.injEq, Prod.mk.injEq] at HF3
                      obtain ⟨rfl, rfl⟩ := HF3
                      subst hpe
                      go_wp2_with (first | (go_at_call 166; (with_reducible refine (number_calls A c L x 2 _ (Kd.C_below HC.out (by repeat (first | exact HB3.out | refine pw_below_drewN ?_ _))) hlc (by omega) (by omega) (by omega) (by omega) (by omega) HLZ.out).mono ?_); rw [HM2.out]; rintro e w' ⟨rfl, ⟨nd, rfl⟩⟩) | (go_at_call 166; (with_reducible refine (number_calls A c L x 7 _ (Kd.C_below HC.out (by repeat (first | exact HB3.out | refine pw_below_drewN ?_ _))) hlc (by omega) (by omega) (by omega) (by omega) (by omega) HLZ.out).mono ?_); rw [HM7.out]; rintro e w' ⟨rfl, ⟨nd, rfl⟩⟩) | (go_at_call 122; (with_reducible refine (impl_WordOk.calls k u _ _ HOK.out).mono ?_); rintro e w8 ⟨rfl, hd8⟩; have BB : Aside0 (Below w.heap.size w w8) := ⟨by refine below_then ?_ ?_ (Drawn0.below hd8) <;> (first | exact (below_then HB.out HB.out.size HB3.out).size | (repeat (first | exact below_then HB.out HB.out.size HB3.out | refine pw_below_drewN ?_ _)))⟩; clear hd8) | (go_at_call 164; (with_reducible refine (impl_WordPack.calls k u _ _ HPB.out).mono ?_); rintro e w9 ⟨rfl, hb9⟩; have BB2 := Aside0.mk (below_then BB.out BB.out.size hb9); clear hb9))
                      go_ret2
                      exact ⟨by first | rfl | (simp; done), BB2.out⟩
                    · rw [if_neg hpe] at HF3
                      simp only [Option.some.injEq, Prod.mk.injEq] at HF3
                      obtain ⟨rfl, rfl⟩ := HF3
                      have hne1 : (pb.toList == a0.toList) = false := by rw [beq_eq_false_iff_ne]; intro h9; exact hpe (toList_inj.1 h9)
                      have hne2 : (pb.toList != a0.toList) = true := by rw [bne_iff_ne]; intro h9; exact hpe (toList_inj.1 h9)
                      go_wp2_with (first | (go_at_call 166; (with_reducible refine (number_calls A c L x 2 _ (Kd.C_below HC.out (by repeat (first | exact HB3.out | refine pw_below_drewN ?_ _))) hlc (by omega) (by omega) (by omega) (by omega) (by omega) HLZ.out).mono ?_); rw [HM2.out]; rintro e w' ⟨rfl, ⟨nd, rfl⟩⟩) | (go_at_call 166; (with_reducible refine (number_calls A c L x 7 _ (Kd.C_below HC.out (by repeat (first | exact HB3.out | refine pw_below_drewN ?_ _))) hlc (by omega) (by omega) (by omega) (by omega) (by omega) HLZ.out).mono ?_); rw [HM7.out]; rintro e w' ⟨rfl, ⟨nd, rfl⟩⟩) | (go_at_call 122; (with_reducible refine (impl_WordOk.calls k u _ _ HOK.out).mono ?_); rintro e w8 ⟨rfl, hd8⟩; have BB : Aside0 (Below w.heap.size w w8) := ⟨by refine below_then ?_ ?_ (Drawn0.below hd8) <;> (first | exact (below_then HB.out HB.out.size HB3.out).size | (repeat (first | exact below_then HB.out HB.out.size HB3.out | refine pw_below_drewN ?_ _)))⟩; clear hd8) | (go_at_call 164; (with_reducible refine (impl_WordPack.calls k u _ _ HPB.out).mono ?_); rintro e w9 ⟨rfl, hb9⟩; have BB2 := Aside0.mk (below_then BB.out BB.out.size hb9); clear hb9))
                      go_ret2
                      exact ⟨by first | rfl | (simp; done), BB2.out⟩
                · have HS := Aside0.mk (s3 h7 (by omega))
                  clear s1 s2 s3 s4 hA
                  generalize numL ((L.drop x.toNat).take 7) = m7 at *
                  have HM7 := Aside0.mk hm7
                  have c0 : 0 ≤ m7 := hr7.1
                  have c1 : m7 ≤ 256 := by omega
                  obtain ⟨q, hq⟩ : ∃ q, q = m7 - 72 := ⟨_, rfl⟩
                  have c3 : 0 ≤ q := by omega
                  have c4 : q < 39 := by omega
                  have hx := bt_at (⟨#[101, 116, 97, 111, 105, 110, 115, 114, 104, 108, 48, 49, 50, 51, 52, 53, 54, 55, 56, 57, 100, 99, 117, 109, 102, 112, 103, 119, 121, 98, 118, 107, 120, 106, 113, 122, 58, 47, 45]⟩ : ByteArray) (m7 - 72)
                  generalize hsp : signAt (m7 - 72) = sp at *
                  have HSP := Aside0.mk hsp
                  have hx2 : bt (⟨#[101, 116, 97, 111, 105, 110, 115, 114, 104, 108, 48, 49, 50, 51, 52, 53, 54, 55, 56, 57, 100, 99, 117, 109, 102, 112, 103, 119, 121, 98, 118, 107, 120, 106, 113, 122, 58, 47, 45]⟩ : ByteArray) (m7 - 72) = sp := hsp
                  rw [hx2] at hx
                  have c5 := eq_true (show 0 ≤ m7 - 72 by omega)
                  have c6 := eq_true (show m7 - 72 < 39 by omega)
                  have c7 : decide (39 ≤ m7 - 72) = false := decide_eq_false h39
                  clear hm7 hr7 hp7 hRl hRb h7 hsp hx2 hq c3 c4 q
                  go_wp2_with (first | (go_at_call 166; (with_reducible refine (number_calls A c L x 2 _ (Kd.C_below HC.out (by repeat (first | exact HB3.out | refine pw_below_drewN ?_ _))) hlc (by omega) (by omega) (by omega) (by omega) (by omega) HLZ.out).mono ?_); rw [HM2.out]; rintro e w' ⟨rfl, ⟨nd, rfl⟩⟩) | (go_at_call 166; (with_reducible refine (number_calls A c L x 7 _ (Kd.C_below HC.out (by repeat (first | exact HB3.out | refine pw_below_drewN ?_ _))) hlc (by omega) (by omega) (by omega) (by omega) (by omega) HLZ.out).mono ?_); rw [HM7.out]; rintro e w' ⟨rfl, ⟨nd, rfl⟩⟩) | (at_builtin; refine Kd.R_append (Kd.int .u8) (w0 := wl) wl.heap.size rfl (.tmp 55) (.tmp 58) 22 5 (.int .u8 0) 1 rfl Try.underlying22 info5 rfl (by decide) (by omega) (.slice Ao o.length co) o sp [.int .u8 sp] (fun _ => True) (fun _ => False) rfl rfl ?aP (fun _ hk => hk.elim) ?aF ?aO ?aB ?aS ?aL ?_; (case aP => exact rfl); (case aB => repeat (first | exact HB3.out | refine pw_below_drewN ?_ _)); (case aF => exact (fun _ _ => trivial)); (case aO => repeat (first | exact HO6.out | refine Kd.R_drewN ?_ _)); (case aS => exact hb9); (case aL => omega); intro v138 w22 ho hb hg hat; have N1 := Aside0.mk hb; have N2 := Aside0.mk ho; clear ho hb hg hat))
                  go_roundg k1
                  case measure => have := HK3.out; omega
                  case rel =>
                    refine ⟨x + 7, o ++ [sp], rfl, ⟨by omega, by omega, by have := HK3.out; omega, by have := HK3.out; omega⟩, ⟨?_⟩, ⟨by simp; omega⟩, N2, N1⟩
                    have h9 := HOO.out
                    rw [HS.out, List.map_cons, HSP.out] at h9
                    rw [List.append_assoc, List.singleton_append, show (x + 7).toNat = x.toNat + 7 by omega, ← List.drop_drop]
                    exact h9
              · have HS := Aside0.mk (s1 (by omega))
                clear s1 s2 s3 s4 hA
                have b2 : decide ((L.length : Int) < x + 7) = true := decide_eq_true (by omega)
                have b3 : (L.length : Int) < x + 7 := by omega
                clear hRl hRb h7
                have ho : o = (decF 30 L).1.map signAt := by have h9 := HOO.out; rw [HS.out] at h9; simpa using h9
                have HW := Aside0.mk (show strOfNums o = upW a0 by rw [HU.out, ho])
                have hcv := own_string (P := Try.prog) Try.underlying22 Try.underlying5 Try.underlying9 (Kd.own_of_R HO6.out)
                have hcv1 := fun nd : Nat => own_string (P := Try.prog) Try.underlying22 Try.underlying5 Try.underlying9 (Kd.own_of_R (Kd.R_drewN HO6.out nd))
                rw [HW.out] at hcv
                simp only [HW.out] at hcv1
                clear ho
                obtain ⟨ok, hok, HF2⟩ := Option.bind_eq_some_iff.mp HF.out
                generalize hu : upW a0 = u at *
                have HUU := Aside0.mk hu
                have HOK := Aside0.mk hok
                clear hok hu
                cases ok with
                | false =>
                  simp only [if_neg (show ¬ (false = true) by decide), Option.some.injEq, Prod.mk.injEq] at HF2
                  obtain ⟨rfl, rfl⟩ := HF2
                  go_wp2_with (first | (go_at_call 166; (with_reducible refine (number_calls A c L x 2 _ (Kd.C_below HC.out (by repeat (first | exact HB3.out | refine pw_below_drewN ?_ _))) hlc (by omega) (by omega) (by omega) (by omega) (by omega) HLZ.out).mono ?_); rw [HM2.out]; rintro e w' ⟨rfl, ⟨nd, rfl⟩⟩) | (go_at_call 122; (with_reducible refine (impl_WordOk.calls k u _ _ HOK.out).mono ?_); rintro e w8 ⟨rfl, hd8⟩; have BB : Aside0 (Below w.heap.size w w8) := ⟨by refine below_then ?_ ?_ (Drawn0.below hd8) <;> (first | exact (below_then HB.out HB.out.size HB3.out).size | (repeat (first | exact below_then HB.out HB.out.size HB3.out | refine pw_below_drewN ?_ _)))⟩; clear hd8) | (go_at_call 164; (with_reducible refine (impl_WordPack.calls k u _ _ HPB.out).mono ?_); rintro e w9 ⟨rfl, hb9⟩; have BB2 := Aside0.mk (below_then BB.out BB.out.size hb9); clear hb9))
                  go_ret2
                  exact ⟨by first | rfl | (simp; done), BB.out⟩
                | true =>
                  rw [if_pos rfl] at HF2
                  obtain ⟨pb, hpb, HF3⟩ := Option.bind_eq_some_iff.mp HF2
                  have HPB := Aside0.mk hpb
                  clear hpb HF2
                  by_cases hpe : pb = a0
                  · rw [if_pos hpe] at HF3
                    simp only [Option.some.injEq, Prod.mk.injEq] at HF3
                    obtain ⟨rfl, rfl⟩ := HF3
                    subst hpe
                    go_wp2_with (first | (go_at_call 166; (with_reducible refine (number_calls A c L x 2 _ (Kd.C_below HC.out (by repeat (first | exact HB3.out | refine pw_below_drewN ?_ _))) hlc (by omega) (by omega) (by omega) (by omega) (by omega) HLZ.out).mono ?_); rw [HM2.out]; rintro e w' ⟨rfl, ⟨nd, rfl⟩⟩) | (go_at_call 122; (with_reducible refine (impl_WordOk.calls k u _ _ HOK.out).mono ?_); rintro e w8 ⟨rfl, hd8⟩; have BB : Aside0 (Below w.heap.size w w8) := ⟨by refine below_then ?_ ?_ (Drawn0.below hd8) <;> (first | exact (below_then HB.out HB.out.size HB3.out).size | (repeat (first | exact below_then HB.out HB.out.size HB3.out | refine pw_below_drewN ?_ _)))⟩; clear hd8) | (go_at_call 164; (with_reducible refine (impl_WordPack.calls k u _ _ HPB.out).mono ?_); rintro e w9 ⟨rfl, hb9⟩; have BB2 := Aside0.mk (below_then BB.out BB.out.size hb9); clear hb9))
                    go_ret2
                    exact ⟨by first | rfl | (simp; done), BB2.out⟩
                  · rw [if_neg hpe] at HF3
                    simp only [Option.some.injEq, Prod.mk.injEq] at HF3
                    obtain ⟨rfl, rfl⟩ := HF3
                    have hne1 : (pb.toList == a0.toList) = false := by rw [beq_eq_false_iff_ne]; intro h9; exact hpe (toList_inj.1 h9)
                    have hne2 : (pb.toList != a0.toList) = true := by rw [bne_iff_ne]; intro h9; exact hpe (toList_inj.1 h9)
                    go_wp2_with (first | (go_at_call 166; (with_reducible refine (number_calls A c L x 2 _ (Kd.C_below HC.out (by repeat (first | exact HB3.out | refine pw_below_drewN ?_ _))) hlc (by omega) (by omega) (by omega) (by omega) (by omega) HLZ.out).mono ?_); rw [HM2.out]; rintro e w' ⟨rfl, ⟨nd, rfl⟩⟩) | (go_at_call 122; (with_reducible refine (impl_WordOk.calls k u _ _ HOK.out).mono ?_); rintro e w8 ⟨rfl, hd8⟩; have BB : Aside0 (Below w.heap.size w w8) := ⟨by refine below_then ?_ ?_ (Drawn0.below hd8) <;> (first | exact (below_then HB.out HB.out.size HB3.out).size | (repeat (first | exact below_then HB.out HB.out.size HB3.out | refine pw_below_drewN ?_ _)))⟩; clear hd8) | (go_at_call 164; (with_reducible refine (impl_WordPack.calls k u _ _ HPB.out).mono ?_); rintro e w9 ⟨rfl, hb9⟩; have BB2 := Aside0.mk (below_then BB.out BB.out.size hb9); clear hb9))
                    go_ret2
                    exact ⟨by first | rfl | (simp; done), BB2.out⟩
            · obtain ⟨s1, s2, s3⟩ := dec_step5 k1 _ hRb hA
              by_cases g : 2 ≤ (L.drop x.toNat).length
              · have a1 : x + 2 ≤ (L.length : Int) := by omega
                have a2 : decide (x + 2 ≤ (L.length : Int)) = true := decide_eq_true a1
                have hne : numL ((L.drop x.toNat).take 2) ≠ 3 := fun e => hA ⟨g, e⟩
                generalize numL ((L.drop x.toNat).take 2) = m2 at *
                have HM2 := Aside0.mk hm2
                have t1 : (m2 == 3) = false := beq_eq_false_iff_ne.2 hne
                clear hm2 hA
                by_cases h5 : 5 ≤ (L.drop x.toNat).length
                · have s5 := s3 h5
                  have HS := Aside0.mk (s2 h5)
                  have b1 : x + 5 ≤ (L.length : Int) := by omega
                  have b2 : decide ((L.length : Int) < x + 5) = false := decide_eq_false (by omega)
                  have hm5 : numL (List.take (5 : Int).toNat (List.drop x.toNat L)) = numL ((L.drop x.toNat).take 5) := rfl
                  have hr5 := numL_lt _ (hRb.take 5)
                  clear s1 s2 s3
                  generalize numL ((L.drop x.toNat).take 5) = m5 at *
                  have HM5 := Aside0.mk hm5
                  have c0 : 0 ≤ m5 := hr5.1
                  have hx := bt_at (⟨#[101, 116, 97, 111, 105, 110, 115, 114, 104, 108, 48, 49, 50, 51, 52, 53, 54, 55, 56, 57, 100, 99, 117, 109, 102, 112, 103, 119, 121, 98, 118, 107, 120, 106, 113, 122, 58, 47, 45]⟩ : ByteArray) m5
                  generalize hsp : signAt m5 = sp at *
                  have HSP := Aside0.mk hsp
                  have hx2 : bt (⟨#[101, 116, 97, 111, 105, 110, 115, 114, 104, 108, 48, 49, 50, 51, 52, 53, 54, 55, 56, 57, 100, 99, 117, 109, 102, 112, 103, 119, 121, 98, 118, 107, 120, 106, 113, 122, 58, 47, 45]⟩ : ByteArray) m5 = sp := hsp
                  rw [hx2] at hx
                  have c5 := eq_true (show 0 ≤ m5 by omega)
                  have c6 := eq_true (show m5 < 39 by omega)
                  have c7 : decide (39 ≤ m5) = false := decide_eq_false (by omega)
                  have c8 : m5 < 39 := by omega
                  clear hm5 hr5 hRl hRb h5 hsp hx2
                  go_wp2_with (first | (go_at_call 166; (with_reducible refine (number_calls A c L x 2 _ (Kd.C_below HC.out (by repeat (first | exact HB3.out | refine pw_below_drewN ?_ _))) hlc (by omega) (by omega) (by omega) (by omega) (by omega) HLZ.out).mono ?_); rw [HM2.out]; rintro e w' ⟨rfl, ⟨nd, rfl⟩⟩) | (go_at_call 166; (with_reducible refine (number_calls A c L x 5 _ (Kd.C_below HC.out (by repeat (first | exact HB3.out | refine pw_below_drewN ?_ _))) hlc (by omega) (by omega) (by omega) (by omega) (by omega) HLZ.out).mono ?_); rw [HM5.out]; rintro e w' ⟨rfl, ⟨nd, rfl⟩⟩) | (at_builtin; refine Kd.R_append (Kd.int .u8) (w0 := wl) wl.heap.size rfl (.tmp 55) (.tmp 58) 22 5 (.int .u8 0) 1 rfl Try.underlying22 info5 rfl (by decide) (by omega) (.slice Ao o.length co) o sp [.int .u8 sp] (fun _ => True) (fun _ => False) rfl rfl ?aP (fun _ hk => hk.elim) ?aF ?aO ?aB ?aS ?aL ?_; (case aP => exact rfl); (case aB => repeat (first | exact HB3.out | refine pw_below_drewN ?_ _)); (case aF => exact (fun _ _ => trivial)); (case aO => repeat (first | exact HO6.out | refine Kd.R_drewN ?_ _)); (case aS => exact hb9); (case aL => omega); intro v138 w22 ho hb hg hat; have N1 := Aside0.mk hb; have N2 := Aside0.mk ho; clear ho hb hg hat))
                  go_roundg k1
                  case measure => have := HK3.out; omega
                  case rel =>
                    refine ⟨x + 5, o ++ [sp], rfl, ⟨by omega, by omega, by have := HK3.out; omega, by have := HK3.out; omega⟩, ⟨?_⟩, ⟨by simp; omega⟩, N2, N1⟩
                    have h9 := HOO.out
                    rw [HS.out, List.map_cons, HSP.out] at h9
                    rw [List.append_assoc, List.singleton_append, show (x + 5).toNat = x.toNat + 5 by omega, ← List.drop_drop]
                    exact h9
                · have HS := Aside0.mk (s1 (by omega))
                  clear s1 s2 s3
                  have b2 : decide ((L.length : Int) < x + 5) = true := decide_eq_true (by omega)
                  have b3 : (L.length : Int) < x + 5 := by omega
                  clear hRl hRb h5
                  have ho : o = (decF 30 L).1.map signAt := by have h9 := HOO.out; rw [HS.out] at h9; simpa using h9
                  have HW := Aside0.mk (show strOfNums o = upW a0 by rw [HU.out, ho])
                  have hcv := own_string (P := Try.prog) Try.underlying22 Try.underlying5 Try.underlying9 (Kd.own_of_R HO6.out)
                  have hcv1 := fun nd : Nat => own_string (P := Try.prog) Try.underlying22 Try.underlying5 Try.underlying9 (Kd.own_of_R (Kd.R_drewN HO6.out nd))
                  rw [HW.out] at hcv
                  simp only [HW.out] at hcv1
                  clear ho
                  obtain ⟨ok, hok, HF2⟩ := Option.bind_eq_some_iff.mp HF.out
                  generalize hu : upW a0 = u at *
                  have HUU := Aside0.mk hu
                  have HOK := Aside0.mk hok
                  clear hok hu
                  cases ok with
                  | false =>
                    simp only [if_neg (show ¬ (false = true) by decide), Option.some.injEq, Prod.mk.injEq] at HF2
                    obtain ⟨rfl, rfl⟩ := HF2
                    go_wp2_with (first | (go_at_call 166; (with_reducible refine (number_calls A c L x 2 _ (Kd.C_below HC.out (by repeat (first | exact HB3.out | refine pw_below_drewN ?_ _))) hlc (by omega) (by omega) (by omega) (by omega) (by omega) HLZ.out).mono ?_); rw [HM2.out]; rintro e w' ⟨rfl, ⟨nd, rfl⟩⟩) | (go_at_call 122; (with_reducible refine (impl_WordOk.calls k u _ _ HOK.out).mono ?_); rintro e w8 ⟨rfl, hd8⟩; have BB : Aside0 (Below w.heap.size w w8) := ⟨by refine below_then ?_ ?_ (Drawn0.below hd8) <;> (first | exact (below_then HB.out HB.out.size HB3.out).size | (repeat (first | exact below_then HB.out HB.out.size HB3.out | refine pw_below_drewN ?_ _)))⟩; clear hd8) | (go_at_call 164; (with_reducible refine (impl_WordPack.calls k u _ _ HPB.out).mono ?_); rintro e w9 ⟨rfl, hb9⟩; have BB2 := Aside0.mk (below_then BB.out BB.out.size hb9); clear hb9))
                    go_ret2
                    exact ⟨by first | rfl | (simp; done), BB.out⟩
                  | true =>
                    rw [if_pos rfl] at HF2
                    obtain ⟨pb, hpb, HF3⟩ := Option.bind_eq_some_iff.mp HF2
                    have HPB := Aside0.mk hpb
                    clear hpb HF2
                    by_cases hpe : pb = a0
                    · rw [if_pos hpe] at HF3
                      simp only [Option.some.injEq, Prod.mk.injEq] at HF3
                      obtain ⟨rfl, rfl⟩ := HF3
                      subst hpe
                      go_wp2_with (first | (go_at_call 166; (with_reducible refine (number_calls A c L x 2 _ (Kd.C_below HC.out (by repeat (first | exact HB3.out | refine pw_below_drewN ?_ _))) hlc (by omega) (by omega) (by omega) (by omega) (by omega) HLZ.out).mono ?_); rw [HM2.out]; rintro e w' ⟨rfl, ⟨nd, rfl⟩⟩) | (go_at_call 122; (with_reducible refine (impl_WordOk.calls k u _ _ HOK.out).mono ?_); rintro e w8 ⟨rfl, hd8⟩; have BB : Aside0 (Below w.heap.size w w8) := ⟨by refine below_then ?_ ?_ (Drawn0.below hd8) <;> (first | exact (below_then HB.out HB.out.size HB3.out).size | (repeat (first | exact below_then HB.out HB.out.size HB3.out | refine pw_below_drewN ?_ _)))⟩; clear hd8) | (go_at_call 164; (with_reducible refine (impl_WordPack.calls k u _ _ HPB.out).mono ?_); rintro e w9 ⟨rfl, hb9⟩; have BB2 := Aside0.mk (below_then BB.out BB.out.size hb9); clear hb9))
                      go_ret2
                      exact ⟨by first | rfl | (simp; done), BB2.out⟩
                    · rw [if_neg hpe] at HF3
                      simp only [Option.some.injEq, Prod.mk.injEq] at HF3
                      obtain ⟨rfl, rfl⟩ := HF3
                      have hne1 : (pb.toList == a0.toList) = false := by rw [beq_eq_false_iff_ne]; intro h9; exact hpe (toList_inj.1 h9)
                      have hne2 : (pb.toList != a0.toList) = true := by rw [bne_iff_ne]; intro h9; exact hpe (toList_inj.1 h9)
                      go_wp2_with (first | (go_at_call 166; (with_reducible refine (number_calls A c L x 2 _ (Kd.C_below HC.out (by repeat (first | exact HB3.out | refine pw_below_drewN ?_ _))) hlc (by omega) (by omega) (by omega) (by omega) (by omega) HLZ.out).mono ?_); rw [HM2.out]; rintro e w' ⟨rfl, ⟨nd, rfl⟩⟩) | (go_at_call 122; (with_reducible refine (impl_WordOk.calls k u _ _ HOK.out).mono ?_); rintro e w8 ⟨rfl, hd8⟩; have BB : Aside0 (Below w.heap.size w w8) := ⟨by refine below_then ?_ ?_ (Drawn0.below hd8) <;> (first | exact (below_then HB.out HB.out.size HB3.out).size | (repeat (first | exact below_then HB.out HB.out.size HB3.out | refine pw_below_drewN ?_ _)))⟩; clear hd8) | (go_at_call 164; (with_reducible refine (impl_WordPack.calls k u _ _ HPB.out).mono ?_); rintro e w9 ⟨rfl, hb9⟩; have BB2 := Aside0.mk (below_then BB.out BB.out.size hb9); clear hb9))
                      go_ret2
                      exact ⟨by first | rfl | (simp; done), BB2.out⟩
              · have HS := Aside0.mk (s1 (by omega))
                clear s1 s2 s3 hm2 hA
                have a1 : ¬ (x + 2 ≤ (L.length : Int)) := by omega
                have a2 : decide (x + 2 ≤ (L.length : Int)) = false := decide_eq_false a1
                have b2 : decide ((L.length : Int) < x + 5) = true := decide_eq_true (by omega)
                have b3 : (L.length : Int) < x + 5 := by omega
                clear hRl hRb g
                have ho : o = (decF 30 L).1.map signAt := by have h9 := HOO.out; rw [HS.out] at h9; simpa using h9
                have HW := Aside0.mk (show strOfNums o = upW a0 by rw [HU.out, ho])
                have hcv := own_string (P := Try.prog) Try.underlying22 Try.underlying5 Try.underlying9 (Kd.own_of_R HO6.out)
                have hcv1 := fun nd : Nat => own_string (P := Try.prog) Try.underlying22 Try.underlying5 Try.underlying9 (Kd.own_of_R (Kd.R_drewN HO6.out nd))
                rw [HW.out] at hcv
                simp only [HW.out] at hcv1
                clear ho
                obtain ⟨ok, hok, HF2⟩ := Option.bind_eq_some_iff.mp HF.out
                generalize hu : upW a0 = u at *
                have HUU := Aside0.mk hu
                have HOK := Aside0.mk hok
                clear hok hu
                cases ok with
                | false =>
                  simp only [if_neg (show ¬ (false = true) by decide), Option.some.injEq, Prod.mk.injEq] at HF2
                  obtain ⟨rfl, rfl⟩ := HF2
                  go_wp2_with (first | (go_at_call 122; (with_reducible refine (impl_WordOk.calls k u _ _ HOK.out).mono ?_); rintro e w8 ⟨rfl, hd8⟩; have BB : Aside0 (Below w.heap.size w w8) := ⟨by refine below_then ?_ ?_ (Drawn0.below hd8) <;> (first | exact (below_then HB.out HB.out.size HB3.out).size | (repeat (first | exact below_then HB.out HB.out.size HB3.out | refine pw_below_drewN ?_ _)))⟩; clear hd8) | (go_at_call 164; (with_reducible refine (impl_WordPack.calls k u _ _ HPB.out).mono ?_); rintro e w9 ⟨rfl, hb9⟩; have BB2 := Aside0.mk (below_then BB.out BB.out.size hb9); clear hb9))
                  go_ret2
                  exact ⟨by first | rfl | (simp; done), BB.out⟩
                | true =>
                  rw [if_pos rfl] at HF2
                  obtain ⟨pb, hpb, HF3⟩ := Option.bind_eq_some_iff.mp HF2
                  have HPB := Aside0.mk hpb
                  clear hpb HF2
                  by_cases hpe : pb = a0
                  · rw [if_pos hpe] at HF3
                    simp only [Option.some.injEq, Prod.mk.injEq] at HF3
                    obtain ⟨rfl, rfl⟩ := HF3
                    subst hpe
                    go_wp2_with (first | (go_at_call 122; (with_reducible refine (impl_WordOk.calls k u _ _ HOK.out).mono ?_); rintro e w8 ⟨rfl, hd8⟩; have BB : Aside0 (Below w.heap.size w w8) := ⟨by refine below_then ?_ ?_ (Drawn0.below hd8) <;> (first | exact (below_then HB.out HB.out.size HB3.out).size | (repeat (first | exact below_then HB.out HB.out.size HB3.out | refine pw_below_drewN ?_ _)))⟩; clear hd8) | (go_at_call 164; (with_reducible refine (impl_WordPack.calls k u _ _ HPB.out).mono ?_); rintro e w9 ⟨rfl, hb9⟩; have BB2 := Aside0.mk (below_then BB.out BB.out.size hb9); clear hb9))
                    go_ret2
                    exact ⟨by first | rfl | (simp; done), BB2.out⟩
                  · rw [if_neg hpe] at HF3
                    simp only [Option.some.injEq, Prod.mk.injEq] at HF3
                    obtain ⟨rfl, rfl⟩ := HF3
                    have hne1 : (pb.toList == a0.toList) = false := by rw [beq_eq_false_iff_ne]; intro h9; exact hpe (toList_inj.1 h9)
                    have hne2 : (pb.toList != a0.toList) = true := by rw [bne_iff_ne]; intro h9; exact hpe (toList_inj.1 h9)
                    go_wp2_with (first | (go_at_call 122; (with_reducible refine (impl_WordOk.calls k u _ _ HOK.out).mono ?_); rintro e w8 ⟨rfl, hd8⟩; have BB : Aside0 (Below w.heap.size w w8) := ⟨by refine below_then ?_ ?_ (Drawn0.below hd8) <;> (first | exact (below_then HB.out HB.out.size HB3.out).size | (repeat (first | exact below_then HB.out HB.out.size HB3.out | refine pw_below_drewN ?_ _)))⟩; clear hd8) | (go_at_call 164; (with_reducible refine (impl_WordPack.calls k u _ _ HPB.out).mono ?_); rintro e w9 ⟨rfl, hb9⟩; have BB2 := Aside0.mk (below_then BB.out BB.out.size hb9); clear hb9))
                    go_ret2
                    exact ⟨by first | rfl | (simp; done), BB2.out⟩
          · have HS : Aside0 ((decF (k1 + 1) (L.drop x.toNat)).1 = []) := ⟨by rw [List.drop_of_length_le (by omega)]; rfl⟩
            have ho : o = (decF 30 L).1.map signAt := by have h9 := HOO.out; rw [HS.out] at h9; simpa using h9
            have HW := Aside0.mk (show strOfNums o = upW a0 by rw [HU.out, ho])
            have hcv := own_string (P := Try.prog) Try.underlying22 Try.underlying5 Try.underlying9 (Kd.own_of_R HO6.out)
            have hcv1 := fun nd : Nat => own_string (P := Try.prog) Try.underlying22 Try.underlying5 Try.underlying9 (Kd.own_of_R (Kd.R_drewN HO6.out nd))
            rw [HW.out] at hcv
            simp only [HW.out] at hcv1
            clear ho
            obtain ⟨ok, hok, HF2⟩ := Option.bind_eq_some_iff.mp HF.out
            generalize hu : upW a0 = u at *
            have HUU := Aside0.mk hu
            have HOK := Aside0.mk hok
            clear hok hu
            cases ok with
            | false =>
              simp only [if_neg (show ¬ (false = true) by decide), Option.some.injEq, Prod.mk.injEq] at HF2
              obtain ⟨rfl, rfl⟩ := HF2
              go_wp2_with (first | (go_at_call 122; (with_reducible refine (impl_WordOk.calls k u _ _ HOK.out).mono ?_); rintro e w8 ⟨rfl, hd8⟩; have BB : Aside0 (Below w.heap.size w w8) := ⟨by refine below_then ?_ ?_ (Drawn0.below hd8) <;> (first | exact (below_then HB.out HB.out.size HB3.out).size | (repeat (first | exact below_then HB.out HB.out.size HB3.out | refine pw_below_drewN ?_ _)))⟩; clear hd8) | (go_at_call 164; (with_reducible refine (impl_WordPack.calls k u _ _ HPB.out).mono ?_); rintro e w9 ⟨rfl, hb9⟩; have BB2 := Aside0.mk (below_then BB.out BB.out.size hb9); clear hb9))
              go_ret2
              exact ⟨by first | rfl | (simp; done), BB.out⟩
            | true =>
              rw [if_pos rfl] at HF2
              obtain ⟨pb, hpb, HF3⟩ := Option.bind_eq_some_iff.mp HF2
              have HPB := Aside0.mk hpb
              clear hpb HF2
              by_cases hpe : pb = a0
              · rw [if_pos hpe] at HF3
                simp only [Option.some.injEq, Prod.mk.injEq] at HF3
                obtain ⟨rfl, rfl⟩ := HF3
                subst hpe
                go_wp2_with (first | (go_at_call 122; (with_reducible refine (impl_WordOk.calls k u _ _ HOK.out).mono ?_); rintro e w8 ⟨rfl, hd8⟩; have BB : Aside0 (Below w.heap.size w w8) := ⟨by refine below_then ?_ ?_ (Drawn0.below hd8) <;> (first | exact (below_then HB.out HB.out.size HB3.out).size | (repeat (first | exact below_then HB.out HB.out.size HB3.out | refine pw_below_drewN ?_ _)))⟩; clear hd8) | (go_at_call 164; (with_reducible refine (impl_WordPack.calls k u _ _ HPB.out).mono ?_); rintro e w9 ⟨rfl, hb9⟩; have BB2 := Aside0.mk (below_then BB.out BB.out.size hb9); clear hb9))
                go_ret2
                exact ⟨by first | rfl | (simp; done), BB2.out⟩
              · rw [if_neg hpe] at HF3
                simp only [Option.some.injEq, Prod.mk.injEq] at HF3
                obtain ⟨rfl, rfl⟩ := HF3
                have hne1 : (pb.toList == a0.toList) = false := by rw [beq_eq_false_iff_ne]; intro h9; exact hpe (toList_inj.1 h9)
                have hne2 : (pb.toList != a0.toList) = true := by rw [bne_iff_ne]; intro h9; exact hpe (toList_inj.1 h9)
                go_wp2_with (first | (go_at_call 122; (with_reducible refine (impl_WordOk.calls k u _ _ HOK.out).mono ?_); rintro e w8 ⟨rfl, hd8⟩; have BB : Aside0 (Below w.heap.size w w8) := ⟨by refine below_then ?_ ?_ (Drawn0.below hd8) <;> (first | exact (below_then HB.out HB.out.size HB3.out).size | (repeat (first | exact below_then HB.out HB.out.size HB3.out | refine pw_below_drewN ?_ _)))⟩; clear hd8) | (go_at_call 164; (with_reducible refine (impl_WordPack.calls k u _ _ HPB.out).mono ?_); rintro e w9 ⟨rfl, hb9⟩; have BB2 := Aside0.mk (below_then BB.out BB.out.size hb9); clear hb9))
                go_ret2
                exact ⟨by first | rfl | (simp; done), BB2.out⟩
    

/-! ### impl_WordRead: function 117 -/
-- thin
def impl_WordRead.j0 : Nat → ByteArray → Int → Int → Bool → Bool → Option (ByteArray × Int × Bool)
 | 0, _, _, _, _, _ => none
 | k + 1, x0, x5, x6, x7, x28 => if x28 = true then (some ((⟨#[]⟩ : ByteArray), 0, false)) else (if 0 ≤ x6 then (if x6 ≤ (wrap64 (x6 + x5)) then (if (wrap64 (x6 + x5)) ≤ (x0.size : Int) then (if 0 < (x0.size : Int) then (if (bt x0 0) ≥ 128 then ((impl_WordUnpack.f k (x0.extract (x6 : Int).toNat ((wrap64 (x6 + x5)) : Int).toNat)).bind fun bt503 => (if bt503.2 = true then ((impl_WordOk.f k bt503.1).bind fun t505 => (if t505 = true then (some (bt503.1, wrap64 (x6 + x5), true)) else (some ((⟨#[]⟩ : ByteArray), 0, false)))) else (some ((⟨#[]⟩ : ByteArray), 0, false)))) else (if x7 = true then ((impl_WordOk.f k (x0.extract (x6 : Int).toNat ((wrap64 (x6 + x5)) : Int).toNat)).bind fun t506 => (if t506 = true then (some (x0.extract (x6 : Int).toNat ((wrap64 (x6 + x5)) : Int).toNat, wrap64 (x6 + x5), true)) else (some ((⟨#[]⟩ : ByteArray), 0, false)))) else (some ((⟨#[]⟩ : ByteArray), 0, false)))) else (none)) else (none)) else (none)) else (none))
def impl_WordRead.f (k : Nat) (a0 : ByteArray) : Option (ByteArray × Int × Bool) := (impl_NumRead.f k a0 7).bind fun bt500 => (if bt500.2.2 = true then (if bt500.1 > 16 then (impl_WordRead.j0 k a0 bt500.1 bt500.2.1 bt500.2.2 true) else (impl_WordRead.j0 k a0 bt500.1 bt500.2.1 bt500.2.2 (decide ((wrap64 (bt500.2.1 + bt500.1)) > (a0.size : Int))))) else (impl_WordRead.j0 k a0 bt500.1 bt500.2.1 bt500.2.2 true))
theorem impl_WordRead.mono_l : ∀ k, (∀ y0 y1 y2 y3 y4, LeO (impl_WordRead.j0 k y0 y1 y2 y3 y4) (impl_WordRead.j0 (k + 1) y0 y1 y2 y3 y4))
 | 0 => fun _ _ _ _ _ r h => by simp [impl_WordRead.j0] at h
 | k + 1 => by
  have ih0 := impl_WordRead.mono_l k
  ·intro y0 y1 y2 y3 y4
   unfold impl_WordRead.j0
   have m0 := @impl_NumRead.mono
   have m1 := @impl_WordOk.mono
   have m2 := @impl_WordUnpack.mono
   exact zm
theorem impl_WordRead.mono : ∀ a0 k, LeO (impl_WordRead.f k a0) (impl_WordRead.f (k + 1) a0) := by
 intro a0 k
 have ih0 := impl_WordRead.mono_l k
 unfold impl_WordRead.f
 have m0 := @impl_NumRead.mono
 have m1 := @impl_WordOk.mono
 have m2 := @impl_WordUnpack.mono
 exact zm
set_option maxHeartbeats 8000000 in
set_option maxRecDepth 100000 in
theorem impl_WordRead.calls (k : Nat) (a0 : ByteArray) (r1 : ByteArray) (r2 : Int) (r3 : Bool) (w : World) (h : impl_WordRead.f k a0 = some (r1, r2, r3)) :
  Calls Try.prog 117 #[.string a0] w fun e w' => e = .returned (.tuple #[.string r1, .int .i64 r2, .bool r3]) ∧ Below w.heap.size w w' := by
 have HB := Aside0.mk (Below.refl w.heap.size w)
 have H : ((impl_NumRead.f k a0 7).bind fun bt500 => (if bt500.2.2 = true then (if bt500.1 > 16 then (impl_WordRead.j0 k a0 bt500.1 bt500.2.1 bt500.2.2 true) else (impl_WordRead.j0 k a0 bt500.1 bt500.2.1 bt500.2.2 (decide ((wrap64 (bt500.2.1 + bt500.1)) > (a0.size : Int))))) else (impl_WordRead.j0 k a0 bt500.1 bt500.2.1 bt500.2.2 true))) = some (r1, r2, r3) := h
 clear h
 obtain ⟨⟨t500, t501, t502⟩, A2, H⟩ := ob H
 (try dsimp only at H)
 have HC3 := Aside0.mk H
 clear H
 go_enter Try.func117, Try.ntmps117
 go_upto_region 2 with (first | ((with_reducible refine gq 115 rfl ?_); refine gl (some 11) Try.func115 #[.string a0, .int .i64 7] ?_; (with_reducible refine (impl_NumRead.calls k a0 7 t500 t501 t502 _ A2.out).mono ?_); rintro e w4 ⟨rfl, hb⟩; refine ⟨_, rfl, ?_⟩; replace HB := Aside0.mk (below_step (zb HB) hb); (try clear hb)))
 (try simp only [Act.put, s1, s2, s3])
 go_cut [28] (fun v28 wc => ∃ (kq : Nat) (x28_2 : Bool), v28 = .bool x28_2 ∧ Aside0 (impl_WordRead.j0 kq a0 t500 t501 t502 x28_2 = some (r1, r2, r3)) ∧ Aside0 (kq ≤ k) ∧ Aside0 (Below w.heap.size w wc))
 case first =>
  have H := HC3.out
  clear HC3
  by_cases c5 : t502 = true
  ·subst c5
   rw [if_pos rfl] at H
   replace H := sp H
   rcases H with ⟨c6, H⟩ | ⟨c6, H⟩
   ·skip
    have c6b0 := decide_eq_true c6
    clear c6
    (first | rw [c6b0] | rw [c6b1] | (simp only [i64_w, i32_w]; rw [c6b0]) | skip)
    have H' := Aside0.mk H
    clear H
    go_wp2
    go_meet
    case rel => exact ⟨_, (true), zs, H', ⟨by first | omega | exact Nat.le_refl _⟩, ⟨zb HB⟩⟩
   ·skip
    have c6b0 := decide_eq_false c6
    clear c6
    (first | rw [c6b0] | rw [c6b1] | (simp only [i64_w, i32_w]; rw [c6b0]) | skip)
    have H' := Aside0.mk H
    clear H
    go_wp2
    go_meet
    case rel => exact ⟨_, (decide ((wrap64 (t501 + t500)) > (a0.size : Int))), zs, H', ⟨by first | omega | exact Nat.le_refl _⟩, ⟨zb HB⟩⟩
  ·replace c5 := Bool.eq_false_iff.mpr c5
   subst c5
   rw [if_neg (show ¬ (false = true) by decide)] at H
   have H' := Aside0.mk H
   clear H
   go_wp2
   go_meet
   case rel => exact ⟨_, (true), zs, H', ⟨by first | omega | exact Nat.le_refl _⟩, ⟨zb HB⟩⟩
 case rest =>
  clear HC3
  try clear c1
  try clear p2
  try clear c5
  try clear c6
  try clear c6b0
  try clear c6b1
  try clear p6
  obtain ⟨kq, x28_2, rfl, HA, HJ2, HB⟩ := hcut
  cases kq with
  | zero => exact absurd HA.out (by simp [impl_WordRead.j0])
  | succ kj2 =>
   have H := HA.out
   clear HA
   simp only [impl_WordRead.j0] at H
   by_cases c7 : x28_2 = true
   ·subst c7
    rw [if_pos rfl] at H
    simp only [Option.some.injEq, Prod.mk.injEq] at H
    obtain ⟨rfl, rfl, rfl⟩ := H
    go_wp2
    go_ret3
    exact ⟨ze, zb HB⟩
   ·replace c7 := Bool.eq_false_iff.mpr c7
    subst c7
    rw [if_neg (show ¬ (false = true) by decide)] at H
    replace H := sp H
    rcases H with ⟨c8, H⟩ | ⟨c8, H⟩
    ·skip
     have c8b0 := eq_true c8
     have c8b1 := decide_eq_true c8
     clear c8
     by_cases c9 : t501 ≤ (wrap64 (t501 + t500))
     ·rw [if_pos c9] at H
      have c9b0 := eq_true c9
      have c9b1 := decide_eq_true c9
      by_cases c10 : (wrap64 (t501 + t500)) ≤ (a0.size : Int)
      ·rw [if_pos c10] at H
       have c10b0 := eq_true c10
       have c10b1 := decide_eq_true c10
       by_cases c11 : 0 < (a0.size : Int)
       ·rw [if_pos c11] at H
        have c11b0 := decide_eq_true c11
        have c11b1 := decide_eq_true (by omega)
        clear c11
        by_cases c13 : (bt a0 0) ≥ 128
        ·rw [if_pos c13] at H
         have c13b0 := decide_eq_true c13
         clear c13
         obtain ⟨⟨t503, t504⟩, A14, H⟩ := ob H
         (try dsimp only at H)
         by_cases c15 : t504 = true
         ·subst c15
          rw [if_pos rfl] at H
          obtain ⟨t505, A16, H⟩ := ob H
          (try dsimp only at H)
          have HC17 := Aside0.mk H
          clear H
          have p12 : 0 ≤ (0 : Int) := (by omega)
          have q12 : 0 < a0.size := (by have : (0 : Int) < (a0.size : Int) := of_decide_eq_true za; omega)
          have hx12 : ∀ h : 0 < a0.size, ((a0[0]'h).toNat : Int) = bt a0 0 := bt_at a0 0
          clear p12
          have qi12 : (0 < (a0.size : Int)) = True := eq_true (of_decide_eq_true za)
          replace q12 := eq_true q12
          go_upto_if 49 with (first | ((with_reducible refine gq 151 rfl ?_); refine gl (some 40) Try.func151 #[.string (a0.extract (t501 : Int).toNat ((wrap64 (t501 + t500)) : Int).toNat)] ?_; (with_reducible refine (impl_WordUnpack.calls kj2 (a0.extract (t501 : Int).toNat ((wrap64 (t501 + t500)) : Int).toNat) t503 true _ A14.out).mono ?_); rintro e w18 ⟨rfl, hb⟩; refine ⟨_, rfl, ?_⟩; replace HB := Aside0.mk (below_step (zb HB) hb); (try clear hb)) | (go_at_call 122; (with_reducible refine (impl_WordOk.calls kj2 t503 t505 _ A16.out).mono ?_); rintro e w' ⟨rfl, ⟨nd, rfl⟩⟩))
          (try simp only [Act.put, s1, s2, s3])
          have H := HC17.out
          clear HC17
          by_cases c19 : t505 = true
          ·subst c19
           rw [if_pos rfl] at H
           simp only [Option.some.injEq, Prod.mk.injEq] at H
           obtain ⟨rfl, rfl, rfl⟩ := H
           go_wp2
           go_ret3
           exact ⟨ze, zb HB⟩
          ·replace c19 := Bool.eq_false_iff.mpr c19
           subst c19
           rw [if_neg (show ¬ (false = true) by decide)] at H
           simp only [Option.some.injEq, Prod.mk.injEq] at H
           obtain ⟨rfl, rfl, rfl⟩ := H
           go_wp2
           go_ret3
           exact ⟨ze, zb HB⟩
         ·replace c15 := Bool.eq_false_iff.mpr c15
          subst c15
          rw [if_neg (show ¬ (false = true) by decide)] at H
          simp only [Option.some.injEq, Prod.mk.injEq] at H
          obtain ⟨rfl, rfl, rfl⟩ := H
          have p12 : 0 ≤ (0 : Int) := (by omega)
          have q12 : 0 < a0.size := (by have : (0 : Int) < (a0.size : Int) := of_decide_eq_true za; omega)
          have hx12 : ∀ h : 0 < a0.size, ((a0[0]'h).toNat : Int) = bt a0 0 := bt_at a0 0
          clear p12
          have qi12 : (0 < (a0.size : Int)) = True := eq_true (of_decide_eq_true za)
          replace q12 := eq_true q12
          go_wp2_with (first | ((with_reducible refine gq 151 rfl ?_); refine gl (some 40) Try.func151 #[.string (a0.extract (t501 : Int).toNat ((wrap64 (t501 + t500)) : Int).toNat)] ?_; (with_reducible refine (impl_WordUnpack.calls kj2 (a0.extract (t501 : Int).toNat ((wrap64 (t501 + t500)) : Int).toNat) t503 false _ A14.out).mono ?_); rintro e w20 ⟨rfl, hb⟩; refine ⟨_, rfl, ?_⟩; replace HB := Aside0.mk (below_step (zb HB) hb); (try clear hb)))
          go_ret3
          exact ⟨ze, zb HB⟩
        ·rw [if_neg c13] at H
         have c13b0 := decide_eq_false c13
         clear c13
         by_cases c21 : t502 = true
         ·subst c21
          rw [if_pos rfl] at H
          obtain ⟨t506, A22, H⟩ := ob H
          (try dsimp only at H)
          by_cases c23 : t506 = true
          ·subst c23
           rw [if_pos rfl] at H
           simp only [Option.some.injEq, Prod.mk.injEq] at H
           obtain ⟨rfl, rfl, rfl⟩ := H
           have p12 : 0 ≤ (0 : Int) := (by omega)
           have q12 : 0 < a0.size := (by have : (0 : Int) < (a0.size : Int) := of_decide_eq_true za; omega)
           have hx12 : ∀ h : 0 < a0.size, ((a0[0]'h).toNat : Int) = bt a0 0 := bt_at a0 0
           clear p12
           have qi12 : (0 < (a0.size : Int)) = True := eq_true (of_decide_eq_true za)
           replace q12 := eq_true q12
           go_wp2_with (first | (go_at_call 122; (with_reducible refine (impl_WordOk.calls kj2 (a0.extract (t501 : Int).toNat ((wrap64 (t501 + t500)) : Int).toNat) true _ A22.out).mono ?_); rintro e w' ⟨rfl, ⟨nd, rfl⟩⟩))
           go_ret3
           exact ⟨ze, zb HB⟩
          ·replace c23 := Bool.eq_false_iff.mpr c23
           subst c23
           rw [if_neg (show ¬ (false = true) by decide)] at H
           simp only [Option.some.injEq, Prod.mk.injEq] at H
           obtain ⟨rfl, rfl, rfl⟩ := H
           have p12 : 0 ≤ (0 : Int) := (by omega)
           have q12 : 0 < a0.size := (by have : (0 : Int) < (a0.size : Int) := of_decide_eq_true za; omega)
           have hx12 : ∀ h : 0 < a0.size, ((a0[0]'h).toNat : Int) = bt a0 0 := bt_at a0 0
           clear p12
           have qi12 : (0 < (a0.size : Int)) = True := eq_true (of_decide_eq_true za)
           replace q12 := eq_true q12
           go_wp2_with (first | (go_at_call 122; (with_reducible refine (impl_WordOk.calls kj2 (a0.extract (t501 : Int).toNat ((wrap64 (t501 + t500)) : Int).toNat) false _ A22.out).mono ?_); rintro e w' ⟨rfl, ⟨nd, rfl⟩⟩))
           go_ret3
           exact ⟨ze, zb HB⟩
         ·replace c21 := Bool.eq_false_iff.mpr c21
          subst c21
          rw [if_neg (show ¬ (false = true) by decide)] at H
          simp only [Option.some.injEq, Prod.mk.injEq] at H
          obtain ⟨rfl, rfl, rfl⟩ := H
          have p12 : 0 ≤ (0 : Int) := (by omega)
          have q12 : 0 < a0.size := (by have : (0 : Int) < (a0.size : Int) := of_decide_eq_true za; omega)
          have hx12 : ∀ h : 0 < a0.size, ((a0[0]'h).toNat : Int) = bt a0 0 := bt_at a0 0
          clear p12
          have qi12 : (0 < (a0.size : Int)) = True := eq_true (of_decide_eq_true za)
          replace q12 := eq_true q12
          go_wp2
          go_ret3
          exact ⟨ze, zb HB⟩
       ·rw [if_neg c11] at H
        exact absurd H (by simp)
      ·rw [if_neg c10] at H
       exact absurd H (by simp)
     ·rw [if_neg c9] at H
      exact absurd H (by simp)
    ·skip
     exact absurd H (by simp)

end Go.Proofs.Ytlpibelofcabhaa.PFnHeadBack
