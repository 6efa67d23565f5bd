-- WRITTEN BY a turned print (wip/tools of the prover's repo)
import Derived.Test.YtiafobkkngngoaaPFnPackStrictx0
import Derived.Test.YtiafobkkngngoaaPFnPackStrictx1
namespace Go.Proofs.Ytiafobkkngngoaa.PFnPackStrict
open Go.RowKit Go.Proofs.YtiafobkkngngoaaW.PrintWords Go.Proofs.YtiafobkkngngoaaW.PrintLast Go.Proofs.YtiafobkkngngoaaW.PrintMore Go.Proofs.Ytiafobkkngngoaa.Lm
attribute [local go_sem] max2_int min2_int max_two min_two max_three min_three max_four min_four   -- for this text's walks alone
set_option linter.unusedVariables false
set_option linter.unusedSimpArgs false

/-! ### impl_WordUnpack: function 27 -/
def impl_WordUnpack.f (k : Nat) (a0 : ByteArray) : Option (ByteArray × Bool) :=
  if a0.size > 16 then some (⟨#[]⟩, false) else
  (impl_WordOk.f k (upW a0)).bind fun ok => if ok = true then (impl_WordPack.f k (upW a0)).bind fun p => if p = a0 then some (upW a0, true) else some (⟨#[]⟩, false) else some (⟨#[]⟩, false)
theorem impl_WordUnpack.mono : ∀ a0 k, LeO (impl_WordUnpack.f k a0) (impl_WordUnpack.f (k + 1) a0) := by
  intro a0 k
  unfold impl_WordUnpack.f
  refine LeO.ite (LeO.refl _) (LeO.bind (impl_WordOk.mono _ _) (fun _ => LeO.ite (LeO.bind (impl_WordPack.mono _ _) (fun _ => LeO.refl _)) (LeO.refl _)))
set_option maxHeartbeats 8000000 in
set_option maxRecDepth 100000 in
theorem impl_WordUnpack.calls (k : Nat) (a0 : ByteArray) (r1 : ByteArray) (r2 : Bool) (w : World) (h : impl_WordUnpack.f k a0 = some (r1, r2)) :
    Calls Try.prog 27 #[.string a0] w fun e w' => e = .returned (.tuple #[.string r1, .bool r2]) ∧ Below w.heap.size w w' := by
  unfold impl_WordUnpack.f at h
  by_cases hs : a0.size > 16
  · rw [if_pos hs] at h
    simp only [Option.some.injEq, Prod.mk.injEq] at h
    obtain ⟨rfl, rfl⟩ := h
    go_enter Try.func27, Try.ntmps27
    go_wp2
    go_ret2
    exact ⟨by first | rfl | (simp; done), Below.refl _ _⟩
  · rw [if_neg hs] at h
    have HF := Aside0.mk h
    have hs16 : a0.size ≤ 16 := by omega
    clear h hs
    go_enter Try.func27, Try.ntmps27
    go_wp2
    go_loopg [17] (a0.size) (fun kq v17 w' => ∃ (x : Int) (v' : Value), v17 = .int .i64 x ∧ Aside0 (kq + x.toNat = a0.size ∧ 0 ≤ x) ∧ Aside0 (w'.heap[w.heap.size]? = some (.cells #[v'] 43 (0, 0))) ∧ Aside0 (Kd.R (Kd.int .u8) 5 w' w.heap.size (fun _ => True) v' (bitsB a0 x.toNat)) ∧ Aside0 (Below w.heap.size w w'))
    case atStart => exact ⟨0, .slice none 0 0, rfl, ⟨by omega, by omega⟩, ⟨by simpa using heap_alloc_new w _⟩, ⟨Kd.R_nil _ _ _ _ _⟩, ⟨below_alloc (Below.refl _ _) _⟩⟩
    case round =>
      obtain ⟨x, v', rfl, HK, HG, HO, HB⟩ := hrel
      obtain ⟨hk, h0⟩ := HK.out
      by_cases hj : x < a0.size
      · cases gk with
        | zero => omega
        | succ k1 =>
        have hle : (bitsB a0 x.toNat).length ≤ 1000 := by rw [bitsB_len]; omega
        have hb := bt_byte a0 x
        have hx := bt_at a0 x
        have q0 := eq_true h0
        have q1 := eq_true hj
        clear h0 hj hk
        generalize hbb : bt a0 x = b at hb hx
        have HBB := Aside0.mk hbb
        obtain ⟨hb0, hb1⟩ := hb
        clear hbb
        go_wp2_with (go_at_call 43; refine (add_calls w.heap.size b 8 (bitsB a0 x.toNat) v' w _ HB.out HG.out (Nat.le_refl _) HO.out (by omega) (by omega) (by omega) (by omega) (by omega)).mono ?_; rintro e w2 ⟨rfl, hb2, v2, hg2, ho2⟩; have N1 := Aside0.mk hb2; have N2 := Aside0.mk hg2; have N3 := Aside0.mk ho2; clear hb2 hg2 ho2)
        go_roundg k1
        case measure => have := HK.out.1; omega
        case rel =>
          have h0 := of_eq_true q0
          have hj := of_eq_true q1
          have h64 : wrap64 (x + 1) = x + 1 := by unfold wrap64; omega
          refine ⟨x + 1, v2, by rw [h64], ⟨by have := HK.out.1; omega, by omega⟩, N2, ⟨?_⟩, N1⟩
          have h9 := N3.out
          rw [show (x + 1).toNat = x.toNat + 1 by omega, bitsB, show ((x.toNat : Nat) : Int) = x by omega, HBB.out]
          exact h9
      · have e : x.toNat = a0.size := by omega
        have HO1 := HO.out
        rw [e] at HO1
        obtain ⟨A, c, hv, hlc, hC⟩ := Kd.R_reads HO1
        have hLlen := bitsB_len a0 a0.size
        have hLb : Bits (bitsB a0 a0.size) := bitsB_bits a0 _
        have HD := Aside0.mk (show (decF 30 (bitsB a0 a0.size)).1 = (decF 30 (bitsB a0 a0.size)).1 from rfl)
        have HU := Aside0.mk (show upW a0 = strOfNums ((decF 30 (bitsB a0 a0.size)).1.map signAt) from rfl)
        generalize hL : bitsB a0 a0.size = L at *
        clear hL HO HO1 HD
        subst hv
        have HC := Aside0.mk hC
        have HLB := Aside0.mk hLb
        have HLZ : Aside0 (∀ z ∈ L, z = 0 ∨ z = 1) := ⟨hLb⟩
        have hc : wr.cell? ⟨w.heap.size, 0, none⟩ = some (.slice A L.length c) := (blk_cell HG.out 0).trans rfl
        have hLl : L.length ≤ 128 := by omega
        clear hC hLb hk e hLlen
        go_wp2
        obtain ⟨wl, hwl⟩ : ∃ wl : World, wl = wr := ⟨_, rfl⟩
        subst hwl
        go_loopg [6, 7] (30) (fun kq v6 v7 w' => ∃ (x : Int) (o : List Int), v7 = .int .i64 x ∧ Aside0 (0 ≤ x ∧ x ≤ L.length ∧ 5 * (30 - (kq : Int)) ≤ x ∧ kq ≤ 30) ∧ Aside0 (o ++ ((decF kq (L.drop x.toNat)).1.map signAt) = (decF 30 L).1.map signAt) ∧ Aside0 (o.length ≤ x.toNat) ∧ Aside0 (Kd.R (Kd.int .u8) 5 w' wl.heap.size (fun _ => True) v6 o) ∧ Aside0 (Below wl.heap.size wl w'))
        case atStart => exact ⟨0, [], rfl, ⟨by omega, by omega, by omega, by omega⟩, ⟨by simp⟩, ⟨by simp⟩, ⟨Kd.R_nil _ _ _ _ _⟩, ⟨Below.refl _ _⟩⟩
        case round =>
          clear hc
          obtain ⟨x, o, rfl, HK3, HOO, HOL, HO6, HB3⟩ := hrel
          obtain ⟨g0, g1, g2, g3⟩ := HK3.out
          obtain ⟨Ao, co, hv6, _, _⟩ := Kd.R_reads HO6.out
          subst hv6
          have hol := HOL.out
          have hb9 := HB3.out.size
          have hcw : wr.cell? ⟨w.heap.size, 0, none⟩ = some (.slice A L.length c) := (blk_cell (blk_below HG.out HB3.out) 0).trans rfl
          cases gk with
          | zero => omega
          | succ k1 =>
          by_cases h3 : x < (L.length : Int)
          · have hRl : (L.drop x.toNat).length = L.length - x.toNat := List.length_drop
            have hRb := HLB.out.drop x.toNat
            have hm2 : numL (List.take (2 : Int).toNat (List.drop x.toNat L)) = numL ((L.drop x.toNat).take 2) := rfl
            by_cases hA : 2 ≤ (L.drop x.toNat).length ∧ numL ((L.drop x.toNat).take 2) = 3
            · obtain ⟨s1, s2, s3, s4⟩ := dec_step7 k1 _ hRb hA
              have a1 : x + 2 ≤ (L.length : Int) := by omega
              have a2 : decide (x + 2 ≤ (L.length : Int)) = true := decide_eq_true a1
              have HM2 := Aside0.mk (hm2.trans hA.2)
              clear hm2
              by_cases h7 : 7 ≤ (L.drop x.toNat).length
              · have s5 := s4 h7
                have b1 : x + 7 ≤ (L.length : Int) := by omega
                have b2 : decide ((L.length : Int) < x + 7) = false := decide_eq_false (by omega)
                have hm7 : numL (List.take (7 : Int).toNat (List.drop x.toNat L)) = numL ((L.drop x.toNat).take 7) := rfl
                have hr7 := numL_lt _ (hRb.take 7)
                have hp7 := pow8 ((L.drop x.toNat).take 7).length (by rw [List.length_take]; omega)
                by_cases h39 : 39 ≤ numL ((L.drop x.toNat).take 7) - 72
                · have HS := Aside0.mk (s2 h7 h39)
                  clear s1 s2 s3 s4 hA
                  generalize numL ((L.drop x.toNat).take 7) = m7 at *
                  have HM7 := Aside0.mk hm7
                  have c0 : 0 ≤ m7 := hr7.1
                  have c1 : m7 ≤ 256 := by omega
                  have c2 : decide (39 ≤ m7 - 72) = true := decide_eq_true h39
                  clear hm7 hr7 hp7 hRl hRb h7
                  have ho : o = (decF 30 L).1.map signAt := by have h9 := HOO.out; rw [HS.out] at h9; simpa using h9
                  have HW := Aside0.mk (show strOfNums o = upW a0 by rw [HU.out, ho])
                  have hcv := own_string (P := Try.prog) Try.underlying22 Try.underlying5 Try.underlying9 (Kd.own_of_R HO6.out)
                  have hcv1 := fun nd : Nat => own_string (P := Try.prog) Try.underlying22 Try.underlying5 Try.underlying9 (Kd.own_of_R (Kd.R_drewN HO6.out nd))
                  rw [HW.out] at hcv
                  simp only [HW.out] at hcv1
                  clear ho
                  obtain ⟨ok, hok, HF2⟩ := Option.bind_eq_some_iff.mp HF.out
                  generalize hu : upW a0 = u at *
                  have HUU := Aside0.mk hu
                  have HOK := Aside0.mk hok
                  clear hok hu
                  cases ok with
                  | false =>
                    simp only [if_neg (show ¬ (false = true) by decide), Option.some.injEq, Prod.mk.injEq] at HF2
                    obtain ⟨rfl, rfl⟩ := HF2
                    go_wp2_with (first | (go_at_call 44; (with_reducible refine (number_calls A c L x 2 _ (Kd.C_below HC.out (by repeat (first | exact HB3.out | refine pw_below_drewN ?_ _))) hlc (by omega) (by omega) (by omega) (by omega) (by omega) HLZ.out).mono ?_); rw [HM2.out]; rintro e w' ⟨rfl, ⟨nd, rfl⟩⟩) | (go_at_call 44; (with_reducible refine (number_calls A c L x 7 _ (Kd.C_below HC.out (by repeat (first | exact HB3.out | refine pw_below_drewN ?_ _))) hlc (by omega) (by omega) (by omega) (by omega) (by omega) HLZ.out).mono ?_); rw [HM7.out]; rintro e w' ⟨rfl, ⟨nd, rfl⟩⟩) | (go_at_call 34; (with_reducible refine (impl_WordOk.calls k u _ _ HOK.out).mono ?_); rintro e w8 ⟨rfl, hd8⟩; have BB : Aside0 (Below w.heap.size w w8) := ⟨by refine below_then ?_ ?_ (Drawn0.below hd8) <;> (first | exact (below_then HB.out HB.out.size HB3.out).size | (repeat (first | exact below_then HB.out HB.out.size HB3.out | refine pw_below_drewN ?_ _)))⟩; clear hd8) | (go_at_call 25; (with_reducible refine (impl_WordPack.calls k u _ _ HPB.out).mono ?_); rintro e w9 ⟨rfl, hb9⟩; have BB2 := Aside0.mk (below_then BB.out BB.out.size hb9); clear hb9))
                    go_ret2
                    exact ⟨by first | rfl | (simp; done), BB.out⟩
                  | true =>
                    rw [if_pos rfl] at HF2
                    obtain ⟨pb, hpb, HF3⟩ := Option.bind_eq_some_iff.mp HF2
                    have HPB := Aside0.mk hpb
                    clear hpb HF2
                    by_cases hpe : pb = a0
                    · rw [if_pos hpe] at HF3
                      simp only [Option.some.injEq, Prod.mk.injEq] at HF3
                      obtain ⟨rfl, rfl⟩ := HF3
                      subst hpe
                      go_wp2_with (first | (go_at_call 44; (with_reducible refine (number_calls A c L x 2 _ (Kd.C_below HC.out (by repeat (first | exact HB3.out | refine pw_below_drewN ?_ _))) hlc (by omega) (by omega) (by omega) (by omega) (by omega) HLZ.out).mono ?_); rw [HM2.out]; rintro e w' ⟨rfl, ⟨nd, rfl⟩⟩) | (go_at_call 44; (with_reducible refine (number_calls A c L x 7 _ (Kd.C_below HC.out (by repeat (first | exact HB3.out | refine pw_below_drewN ?_ _))) hlc (by omega) (by omega) (by omega) (by omega) (by omega) HLZ.out).mono ?_); rw [HM7.out]; rintro e w' ⟨rfl, ⟨nd, rfl⟩⟩) | (go_at_call 34; (with_reducible refine (impl_WordOk.calls k u _ _ HOK.out).mono ?_); rintro e w8 ⟨rfl, hd8⟩; have BB : Aside0 (Below w.heap.size w w8) := ⟨by refine below_then ?_ ?_ (Drawn0.below hd8) <;> (first | exact (below_then HB.out HB.out.size HB3.out).size | (repeat (first | exact below_then HB.out HB.out.size HB3.out | refine pw_below_drewN ?_ _)))⟩; clear hd8) | (go_at_call 25; (with_reducible refine (impl_WordPack.calls k u _ _ HPB.out).mono ?_); rintro e w9 ⟨rfl, hb9⟩; have BB2 := Aside0.mk (below_then BB.out BB.out.size hb9); clear hb9))
                      go_ret2
                      exact ⟨by first | rfl | (simp; done), BB2.out⟩
                    · rw [if_neg hpe] at HF3
                      simp only [Option.some.injEq, Prod.mk.injEq] at HF3
                      obtain ⟨rfl, rfl⟩ := HF3
                      have hne1 : (pb.toList == a0.toList) = false := by rw [beq_eq_false_iff_ne]; intro h9; exact hpe (toList_inj.1 h9)
                      have hne2 : (pb.toList != a0.toList) = true := by rw [bne_iff_ne]; intro h9; exact hpe (toList_inj.1 h9)
                      go_wp2_with (first | (go_at_call 44; (with_reducible refine (number_calls A c L x 2 _ (Kd.C_below HC.out (by repeat (first | exact HB3.out | refine pw_below_drewN ?_ _))) hlc (by omega) (by omega) (by omega) (by omega) (by omega) HLZ.out).mono ?_); rw [HM2.out]; rintro e w' ⟨rfl, ⟨nd, rfl⟩⟩) | (go_at_call 44; (with_reducible refine (number_calls A c L x 7 _ (Kd.C_below HC.out (by repeat (first | exact HB3.out | refine pw_below_drewN ?_ _))) hlc (by omega) (by omega) (by omega) (by omega) (by omega) HLZ.out).mono ?_); rw [HM7.out]; rintro e w' ⟨rfl, ⟨nd, rfl⟩⟩) | (go_at_call 34; (with_reducible refine (impl_WordOk.calls k u _ _ HOK.out).mono ?_); rintro e w8 ⟨rfl, hd8⟩; have BB : Aside0 (Below w.heap.size w w8) := ⟨by refine below_then ?_ ?_ (Drawn0.below hd8) <;> (first | exact (below_then HB.out HB.out.size HB3.out).size | (repeat (first | exact below_then HB.out HB.out.size HB3.out | refine pw_below_drewN ?_ _)))⟩; clear hd8) | (go_at_call 25; (with_reducible refine (impl_WordPack.calls k u _ _ HPB.out).mono ?_); rintro e w9 ⟨rfl, hb9⟩; have BB2 := Aside0.mk (below_then BB.out BB.out.size hb9); clear hb9))
                      go_ret2
                      exact ⟨by first | rfl | (simp; done), BB2.out⟩
                · have HS := Aside0.mk (s3 h7 (by omega))
                  clear s1 s2 s3 s4 hA
                  generalize numL ((L.drop x.toNat).take 7) = m7 at *
                  have HM7 := Aside0.mk hm7
                  have c0 : 0 ≤ m7 := hr7.1
                  have c1 : m7 ≤ 256 := by omega
                  obtain ⟨q, hq⟩ : ∃ q, q = m7 - 72 := ⟨_, rfl⟩
                  have c3 : 0 ≤ q := by omega
                  have c4 : q < 39 := by omega
                  have hx := bt_at (⟨#[101, 116, 97, 111, 105, 110, 115, 114, 104, 108, 48, 49, 50, 51, 52, 53, 54, 55, 56, 57, 100, 99, 117, 109, 102, 112, 103, 119, 121, 98, 118, 107, 120, 106, 113, 122, 58, 47, 45]⟩ : ByteArray) (m7 - 72)
                  generalize hsp : signAt (m7 - 72) = sp at *
                  have HSP := Aside0.mk hsp
                  have hx2 : bt (⟨#[101, 116, 97, 111, 105, 110, 115, 114, 104, 108, 48, 49, 50, 51, 52, 53, 54, 55, 56, 57, 100, 99, 117, 109, 102, 112, 103, 119, 121, 98, 118, 107, 120, 106, 113, 122, 58, 47, 45]⟩ : ByteArray) (m7 - 72) = sp := hsp
                  rw [hx2] at hx
                  have c5 := eq_true (show 0 ≤ m7 - 72 by omega)
                  have c6 := eq_true (show m7 - 72 < 39 by omega)
                  have c7 : decide (39 ≤ m7 - 72) = false := decide_eq_false h39
                  clear hm7 hr7 hp7 hRl hRb h7 hsp hx2 hq c3 c4 q
                  go_wp2_with (first | (go_at_call 44; (with_reducible refine (number_calls A c L x 2 _ (Kd.C_below HC.out (by repeat (first | exact HB3.out | refine pw_below_drewN ?_ _))) hlc (by omega) (by omega) (by omega) (by omega) (by omega) HLZ.out).mono ?_); rw [HM2.out]; rintro e w' ⟨rfl, ⟨nd, rfl⟩⟩) | (go_at_call 44; (with_reducible refine (number_calls A c L x 7 _ (Kd.C_below HC.out (by repeat (first | exact HB3.out | refine pw_below_drewN ?_ _))) hlc (by omega) (by omega) (by omega) (by omega) (by omega) HLZ.out).mono ?_); rw [HM7.out]; rintro e w' ⟨rfl, ⟨nd, rfl⟩⟩) | (at_builtin; refine Kd.R_append (Kd.int .u8) (w0 := wl) wl.heap.size rfl (.tmp 55) (.tmp 58) 22 5 (.int .u8 0) 1 rfl Try.underlying22 info5 rfl (by decide) (by omega) (.slice Ao o.length co) o sp [.int .u8 sp] (fun _ => True) (fun _ => False) rfl rfl ?aP (fun _ hk => hk.elim) ?aF ?aO ?aB ?aS ?aL ?_; (case aP => exact rfl); (case aB => repeat (first | exact HB3.out | refine pw_below_drewN ?_ _)); (case aF => exact (fun _ _ => trivial)); (case aO => repeat (first | exact HO6.out | refine Kd.R_drewN ?_ _)); (case aS => exact hb9); (case aL => omega); intro v138 w22 ho hb hg hat; have N1 := Aside0.mk hb; have N2 := Aside0.mk ho; clear ho hb hg hat))
                  go_roundg k1
                  case measure => have := HK3.out; omega
                  case rel =>
                    refine ⟨x + 7, o ++ [sp], rfl, ⟨by omega, by omega, by have := HK3.out; omega, by have := HK3.out; omega⟩, ⟨?_⟩, ⟨by simp; omega⟩, N2, N1⟩
                    have h9 := HOO.out
                    rw [HS.out, List.map_cons, HSP.out] at h9
                    rw [List.append_assoc, List.singleton_append, show (x + 7).toNat = x.toNat + 7 by omega, ← List.drop_drop]
                    exact h9
              · have HS := Aside0.mk (s1 (by omega))
                clear s1 s2 s3 s4 hA
                have b2 : decide ((L.length : Int) < x + 7) = true := decide_eq_true (by omega)
                have b3 : (L.length : Int) < x + 7 := by omega
                clear hRl hRb h7
                have ho : o = (decF 30 L).1.map signAt := by have h9 := HOO.out; rw [HS.out] at h9; simpa using h9
                have HW := Aside0.mk (show strOfNums o = upW a0 by rw [HU.out, ho])
                have hcv := own_string (P := Try.prog) Try.underlying22 Try.underlying5 Try.underlying9 (Kd.own_of_R HO6.out)
                have hcv1 := fun nd : Nat => own_string (P := Try.prog) Try.underlying22 Try.underlying5 Try.underlying9 (Kd.own_of_R (Kd.R_drewN HO6.out nd))
                rw [HW.out] at hcv
                simp only [HW.out] at hcv1
                clear ho
                obtain ⟨ok, hok, HF2⟩ := Option.bind_eq_some_iff.mp HF.out
                generalize hu : upW a0 = u at *
                have HUU := Aside0.mk hu
                have HOK := Aside0.mk hok
                clear hok hu
                cases ok with
                | false =>
                  simp only [if_neg (show ¬ (false = true) by decide), Option.some.injEq, Prod.mk.injEq] at HF2
                  obtain ⟨rfl, rfl⟩ := HF2
                  go_wp2_with (first | (go_at_call 44; (with_reducible refine (number_calls A c L x 2 _ (Kd.C_below HC.out (by repeat (first | exact HB3.out | refine pw_below_drewN ?_ _))) hlc (by omega) (by omega) (by omega) (by omega) (by omega) HLZ.out).mono ?_); rw [HM2.out]; rintro e w' ⟨rfl, ⟨nd, rfl⟩⟩) | (go_at_call 34; (with_reducible refine (impl_WordOk.calls k u _ _ HOK.out).mono ?_); rintro e w8 ⟨rfl, hd8⟩; have BB : Aside0 (Below w.heap.size w w8) := ⟨by refine below_then ?_ ?_ (Drawn0.below hd8) <;> (first | exact (below_then HB.out HB.out.size HB3.out).size | (repeat (first | exact below_then HB.out HB.out.size HB3.out | refine pw_below_drewN ?_ _)))⟩; clear hd8) | (go_at_call 25; (with_reducible refine (impl_WordPack.calls k u _ _ HPB.out).mono ?_); rintro e w9 ⟨rfl, hb9⟩; have BB2 := Aside0.mk (below_then BB.out BB.out.size hb9); clear hb9))
                  go_ret2
                  exact ⟨by first | rfl | (simp; done), BB.out⟩
                | true =>
                  rw [if_pos rfl] at HF2
                  obtain ⟨pb, hpb, HF3⟩ := Option.bind_eq_some_iff.mp HF2
                  have HPB := Aside0.mk hpb
                  clear hpb HF2
                  by_cases hpe : pb = a0
                  · rw [if_pos hpe] at HF3
                    simp only [Option.some.injEq, Prod.mk.injEq] at HF3
                    obtain ⟨rfl, rfl⟩ := HF3
                    subst hpe
                    go_wp2_with (first | (go_at_call 44; (with_reducible refine (number_calls A c L x 2 _ (Kd.C_below HC.out (by repeat (first | exact HB3.out | refine pw_below_drewN ?_ _))) hlc (by omega) (by omega) (by omega) (by omega) (by omega) HLZ.out).mono ?_); rw [HM2.out]; rintro e w' ⟨rfl, ⟨nd, rfl⟩⟩) | (go_at_call 34; (with_reducible refine (impl_WordOk.calls k u _ _ HOK.out).mono ?_); rintro e w8 ⟨rfl, hd8⟩; have BB : Aside0 (Below w.heap.size w w8) := ⟨by refine below_then ?_ ?_ (Drawn0.below hd8) <;> (first | exact (below_then HB.out HB.out.size HB3.out).size | (repeat (first | exact below_then HB.out HB.out.size HB3.out | refine pw_below_drewN ?_ _)))⟩; clear hd8) | (go_at_call 25; (with_reducible refine (impl_WordPack.calls k u _ _ HPB.out).mono ?_); rintro e w9 ⟨rfl, hb9⟩; have BB2 := Aside0.mk (below_then BB.out BB.out.size hb9); clear hb9))
                    go_ret2
                    exact ⟨by first | rfl | (simp; done), BB2.out⟩
                  · rw [if_neg hpe] at HF3
                    simp only [Option.some.injEq, Prod.mk.injEq] at HF3
                    obtain ⟨rfl, rfl⟩ := HF3
                    have hne1 : (pb.toList == a0.toList) = false := by rw [beq_eq_false_iff_ne]; intro h9; exact hpe (toList_inj.1 h9)
                    have hne2 : (pb.toList != a0.toList) = true := by rw [bne_iff_ne]; intro h9; exact hpe (toList_inj.1 h9)
                    go_wp2_with (first | (go_at_call 44; (with_reducible refine (number_calls A c L x 2 _ (Kd.C_below HC.out (by repeat (first | exact HB3.out | refine pw_below_drewN ?_ _))) hlc (by omega) (by omega) (by omega) (by omega) (by omega) HLZ.out).mono ?_); rw [HM2.out]; rintro e w' ⟨rfl, ⟨nd, rfl⟩⟩) | (go_at_call 34; (with_reducible refine (impl_WordOk.calls k u _ _ HOK.out).mono ?_); rintro e w8 ⟨rfl, hd8⟩; have BB : Aside0 (Below w.heap.size w w8) := ⟨by refine below_then ?_ ?_ (Drawn0.below hd8) <;> (first | exact (below_then HB.out HB.out.size HB3.out).size | (repeat (first | exact below_then HB.out HB.out.size HB3.out | refine pw_below_drewN ?_ _)))⟩; clear hd8) | (go_at_call 25; (with_reducible refine (impl_WordPack.calls k u _ _ HPB.out).mono ?_); rintro e w9 ⟨rfl, hb9⟩; have BB2 := Aside0.mk (below_then BB.out BB.out.size hb9); clear hb9))
                    go_ret2
                    exact ⟨by first | rfl | (simp; done), BB2.out⟩
            · obtain ⟨s1, s2, s3⟩ := dec_step5 k1 _ hRb hA
              by_cases g : 2 ≤ (L.drop x.toNat).length
              · have a1 : x + 2 ≤ (L.length : Int) := by omega
                have a2 : decide (x + 2 ≤ (L.length : Int)) = true := decide_eq_true a1
                have hne : numL ((L.drop x.toNat).take 2) ≠ 3 := fun e => hA ⟨g, e⟩
                generalize numL ((L.drop x.toNat).take 2) = m2 at *
                have HM2 := Aside0.mk hm2
                have t1 : (m2 == 3) = false := beq_eq_false_iff_ne.2 hne
                clear hm2 hA
                by_cases h5 : 5 ≤ (L.drop x.toNat).length
                · have s5 := s3 h5
                  have HS := Aside0.mk (s2 h5)
                  have b1 : x + 5 ≤ (L.length : Int) := by omega
                  have b2 : decide ((L.length : Int) < x + 5) = false := decide_eq_false (by omega)
                  have hm5 : numL (List.take (5 : Int).toNat (List.drop x.toNat L)) = numL ((L.drop x.toNat).take 5) := rfl
                  have hr5 := numL_lt _ (hRb.take 5)
                  clear s1 s2 s3
                  generalize numL ((L.drop x.toNat).take 5) = m5 at *
                  have HM5 := Aside0.mk hm5
                  have c0 : 0 ≤ m5 := hr5.1
                  have hx := bt_at (⟨#[101, 116, 97, 111, 105, 110, 115, 114, 104, 108, 48, 49, 50, 51, 52, 53, 54, 55, 56, 57, 100, 99, 117, 109, 102, 112, 103, 119, 121, 98, 118, 107, 120, 106, 113, 122, 58, 47, 45]⟩ : ByteArray) m5
                  generalize hsp : signAt m5 = sp at *
                  have HSP := Aside0.mk hsp
                  have hx2 : bt (⟨#[101, 116, 97, 111, 105, 110, 115, 114, 104, 108, 48, 49, 50, 51, 52, 53, 54, 55, 56, 57, 100, 99, 117, 109, 102, 112, 103, 119, 121, 98, 118, 107, 120, 106, 113, 122, 58, 47, 45]⟩ : ByteArray) m5 = sp := hsp
                  rw [hx2] at hx
                  have c5 := eq_true (show 0 ≤ m5 by omega)
                  have c6 := eq_true (show m5 < 39 by omega)
                  have c7 : decide (39 ≤ m5) = false := decide_eq_false (by omega)
                  have c8 : m5 < 39 := by omega
                  clear hm5 hr5 hRl hRb h5 hsp hx2
                  go_wp2_with (first | (go_at_call 44; (with_reducible refine (number_calls A c L x 2 _ (Kd.C_below HC.out (by repeat (first | exact HB3.out | refine pw_below_drewN ?_ _))) hlc (by omega) (by omega) (by omega) (by omega) (by omega) HLZ.out).mono ?_); rw [HM2.out]; rintro e w' ⟨rfl, ⟨nd, rfl⟩⟩) | (go_at_call 44; (with_reducible refine (number_calls A c L x 5 _ (Kd.C_below HC.out (by repeat (first | exact HB3.out | refine pw_below_drewN ?_ _))) hlc (by omega) (by omega) (by omega) (by omega) (by omega) HLZ.out).mono ?_); rw [HM5.out]; rintro e w' ⟨rfl, ⟨nd, rfl⟩⟩) | (at_builtin; refine Kd.R_append (Kd.int .u8) (w0 := wl) wl.heap.size rfl (.tmp 55) (.tmp 58) 22 5 (.int .u8 0) 1 rfl Try.underlying22 info5 rfl (by decide) (by omega) (.slice Ao o.length co) o sp [.int .u8 sp] (fun _ => True) (fun _ => False) rfl rfl ?aP (fun _ hk => hk.elim) ?aF ?aO ?aB ?aS ?aL ?_; (case aP => exact rfl); (case aB => repeat (first | exact HB3.out | refine pw_below_drewN ?_ _)); (case aF => exact (fun _ _ => trivial)); (case aO => repeat (first | exact HO6.out | refine Kd.R_drewN ?_ _)); (case aS => exact hb9); (case aL => omega); intro v138 w22 ho hb hg hat; have N1 := Aside0.mk hb; have N2 := Aside0.mk ho; clear ho hb hg hat))
                  go_roundg k1
                  case measure => have := HK3.out; omega
                  case rel =>
                    refine ⟨x + 5, o ++ [sp], rfl, ⟨by omega, by omega, by have := HK3.out; omega, by have := HK3.out; omega⟩, ⟨?_⟩, ⟨by simp; omega⟩, N2, N1⟩
                    have h9 := HOO.out
                    rw [HS.out, List.map_cons, HSP.out] at h9
                    rw [List.append_assoc, List.singleton_append, show (x + 5).toNat = x.toNat + 5 by omega, ← List.drop_drop]
                    exact h9
                · have HS := Aside0.mk (s1 (by omega))
                  clear s1 s2 s3
                  have b2 : decide ((L.length : Int) < x + 5) = true := decide_eq_true (by omega)
                  have b3 : (L.length : Int) < x + 5 := by omega
                  clear hRl hRb h5
                  have ho : o = (decF 30 L).1.map signAt := by have h9 := HOO.out; rw [HS.out] at h9; simpa using h9
                  have HW := Aside0.mk (show strOfNums o = upW a0 by rw [HU.out, ho])
                  have hcv := own_string (P := Try.prog) Try.underlying22 Try.underlying5 Try.underlying9 (Kd.own_of_R HO6.out)
                  have hcv1 := fun nd : Nat => own_string (P := Try.prog) Try.underlying22 Try.underlying5 Try.underlying9 (Kd.own_of_R (Kd.R_drewN HO6.out nd))
                  rw [HW.out] at hcv
                  simp only [HW.out] at hcv1
                  clear ho
                  obtain ⟨ok, hok, HF2⟩ := Option.bind_eq_some_iff.mp HF.out
                  generalize hu : upW a0 = u at *
                  have HUU := Aside0.mk hu
                  have HOK := Aside0.mk hok
                  clear hok hu
                  cases ok with
                  | false =>
                    simp only [if_neg (show ¬ (false = true) by decide), Option.some.injEq, Prod.mk.injEq] at HF2
                    obtain ⟨rfl, rfl⟩ := HF2
                    go_wp2_with (first | (go_at_call 44; (with_reducible refine (number_calls A c L x 2 _ (Kd.C_below HC.out (by repeat (first | exact HB3.out | refine pw_below_drewN ?_ _))) hlc (by omega) (by omega) (by omega) (by omega) (by omega) HLZ.out).mono ?_); rw [HM2.out]; rintro e w' ⟨rfl, ⟨nd, rfl⟩⟩) | (go_at_call 34; (with_reducible refine (impl_WordOk.calls k u _ _ HOK.out).mono ?_); rintro e w8 ⟨rfl, hd8⟩; have BB : Aside0 (Below w.heap.size w w8) := ⟨by refine below_then ?_ ?_ (Drawn0.below hd8) <;> (first | exact (below_then HB.out HB.out.size HB3.out).size | (repeat (first | exact below_then HB.out HB.out.size HB3.out | refine pw_below_drewN ?_ _)))⟩; clear hd8) | (go_at_call 25; (with_reducible refine (impl_WordPack.calls k u _ _ HPB.out).mono ?_); rintro e w9 ⟨rfl, hb9⟩; have BB2 := Aside0.mk (below_then BB.out BB.out.size hb9); clear hb9))
                    go_ret2
                    exact ⟨by first | rfl | (simp; done), BB.out⟩
                  | true =>
                    rw [if_pos rfl] at HF2
                    obtain ⟨pb, hpb, HF3⟩ := Option.bind_eq_some_iff.mp HF2
                    have HPB := Aside0.mk hpb
                    clear hpb HF2
                    by_cases hpe : pb = a0
                    · rw [if_pos hpe] at HF3
                      simp only [Option.some.injEq, Prod.mk.injEq] at HF3
                      obtain ⟨rfl, rfl⟩ := HF3
                      subst hpe
                      go_wp2_with (first | (go_at_call 44; (with_reducible refine (number_calls A c L x 2 _ (Kd.C_below HC.out (by repeat (first | exact HB3.out | refine pw_below_drewN ?_ _))) hlc (by omega) (by omega) (by omega) (by omega) (by omega) HLZ.out).mono ?_); rw [HM2.out]; rintro e w' ⟨rfl, ⟨nd, rfl⟩⟩) | (go_at_call 34; (with_reducible refine (impl_WordOk.calls k u _ _ HOK.out).mono ?_); rintro e w8 ⟨rfl, hd8⟩; have BB : Aside0 (Below w.heap.size w w8) := ⟨by refine below_then ?_ ?_ (Drawn0.below hd8) <;> (first | exact (below_then HB.out HB.out.size HB3.out).size | (repeat (first | exact below_then HB.out HB.out.size HB3.out | refine pw_below_drewN ?_ _)))⟩; clear hd8) | (go_at_call 25; (with_reducible refine (impl_WordPack.calls k u _ _ HPB.out).mono ?_); rintro e w9 ⟨rfl, hb9⟩; have BB2 := Aside0.mk (below_then BB.out BB.out.size hb9); clear hb9))
                      go_ret2
                      exact ⟨by first | rfl | (simp; done), BB2.out⟩
                    · rw [if_neg hpe] at HF3
                      simp only [Option.some.injEq, Prod.mk.injEq] at HF3
                      obtain ⟨rfl, rfl⟩ := HF3
                      have hne1 : (pb.toList == a0.toList) = false := by rw [beq_eq_false_iff_ne]; intro h9; exact hpe (toList_inj.1 h9)
                      have hne2 : (pb.toList != a0.toList) = true := by rw [bne_iff_ne]; intro h9; exact hpe (toList_inj.1 h9)
                      go_wp2_with (first | (go_at_call 44; (with_reducible refine (number_calls A c L x 2 _ (Kd.C_below HC.out (by repeat (first | exact HB3.out | refine pw_below_drewN ?_ _))) hlc (by omega) (by omega) (by omega) (by omega) (by omega) HLZ.out).mono ?_); rw [HM2.out]; rintro e w' ⟨rfl, ⟨nd, rfl⟩⟩) | (go_at_call 34; (with_reducible refine (impl_WordOk.calls k u _ _ HOK.out).mono ?_); rintro e w8 ⟨rfl, hd8⟩; have BB : Aside0 (Below w.heap.size w w8) := ⟨by refine below_then ?_ ?_ (Drawn0.below hd8) <;> (first | exact (below_then HB.out HB.out.size HB3.out).size | (repeat (first | exact below_then HB.out HB.out.size HB3.out | refine pw_below_drewN ?_ _)))⟩; clear hd8) | (go_at_call 25; (with_reducible refine (impl_WordPack.calls k u _ _ HPB.out).mono ?_); rintro e w9 ⟨rfl, hb9⟩; have BB2 := Aside0.mk (below_then BB.out BB.out.size hb9); clear hb9))
                      go_ret2
                      exact ⟨by first | rfl | (simp; done), BB2.out⟩
              · have HS := Aside0.mk (s1 (by omega))
                clear s1 s2 s3 hm2 hA
                have a1 : ¬ (x + 2 ≤ (L.length : Int)) := by omega
                have a2 : decide (x + 2 ≤ (L.length : Int)) = false := decide_eq_false a1
                have b2 : decide ((L.length : Int) < x + 5) = true := decide_eq_true (by omega)
                have b3 : (L.length : Int) < x + 5 := by omega
                clear hRl hRb g
                have ho : o = (decF 30 L).1.map signAt := by have h9 := HOO.out; rw [HS.out] at h9; simpa using h9
                have HW := Aside0.mk (show strOfNums o = upW a0 by rw [HU.out, ho])
                have hcv := own_string (P := Try.prog) Try.underlying22 Try.underlying5 Try.underlying9 (Kd.own_of_R HO6.out)
                have hcv1 := fun nd : Nat => own_string (P := Try.prog) Try.underlying22 Try.underlying5 Try.underlying9 (Kd.own_of_R (Kd.R_drewN HO6.out nd))
                rw [HW.out] at hcv
                simp only [HW.out] at hcv1
                clear ho
                obtain ⟨ok, hok, HF2⟩ := Option.bind_eq_some_iff.mp HF.out
                generalize hu : upW a0 = u at *
                have HUU := Aside0.mk hu
                have HOK := Aside0.mk hok
                clear hok hu
                cases ok with
                | false =>
                  simp only [if_neg (show ¬ (false = true) by decide), Option.some.injEq, Prod.mk.injEq] at HF2
                  obtain ⟨rfl, rfl⟩ := HF2
                  go_wp2_with (first | (go_at_call 34; (with_reducible refine (impl_WordOk.calls k u _ _ HOK.out).mono ?_); rintro e w8 ⟨rfl, hd8⟩; have BB : Aside0 (Below w.heap.size w w8) := ⟨by refine below_then ?_ ?_ (Drawn0.below hd8) <;> (first | exact (below_then HB.out HB.out.size HB3.out).size | (repeat (first | exact below_then HB.out HB.out.size HB3.out | refine pw_below_drewN ?_ _)))⟩; clear hd8) | (go_at_call 25; (with_reducible refine (impl_WordPack.calls k u _ _ HPB.out).mono ?_); rintro e w9 ⟨rfl, hb9⟩; have BB2 := Aside0.mk (below_then BB.out BB.out.size hb9); clear hb9))
                  go_ret2
                  exact ⟨by first | rfl | (simp; done), BB.out⟩
                | true =>
                  rw [if_pos rfl] at HF2
                  obtain ⟨pb, hpb, HF3⟩ := Option.bind_eq_some_iff.mp HF2
                  have HPB := Aside0.mk hpb
                  clear hpb HF2
                  by_cases hpe : pb = a0
                  · rw [if_pos hpe] at HF3
                    simp only [Option.some.injEq, Prod.mk.injEq] at HF3
                    obtain ⟨rfl, rfl⟩ := HF3
                    subst hpe
                    go_wp2_with (first | (go_at_call 34; (with_reducible refine (impl_WordOk.calls k u _ _ HOK.out).mono ?_); rintro e w8 ⟨rfl, hd8⟩; have BB : Aside0 (Below w.heap.size w w8) := ⟨by refine below_then ?_ ?_ (Drawn0.below hd8) <;> (first | exact (below_then HB.out HB.out.size HB3.out).size | (repeat (first | exact below_then HB.out HB.out.size HB3.out | refine pw_below_drewN ?_ _)))⟩; clear hd8) | (go_at_call 25; (with_reducible refine (impl_WordPack.calls k u _ _ HPB.out).mono ?_); rintro e w9 ⟨rfl, hb9⟩; have BB2 := Aside0.mk (below_then BB.out BB.out.size hb9); clear hb9))
                    go_ret2
                    exact ⟨by first | rfl | (simp; done), BB2.out⟩
                  · rw [if_neg hpe] at HF3
                    simp only [Option.some.injEq, Prod.mk.injEq] at HF3
                    obtain ⟨rfl, rfl⟩ := HF3
                    have hne1 : (pb.toList == a0.toList) = false := by rw [beq_eq_false_iff_ne]; intro h9; exact hpe (toList_inj.1 h9)
                    have hne2 : (pb.toList != a0.toList) = true := by rw [bne_iff_ne]; intro h9; exact hpe (toList_inj.1 h9)
                    go_wp2_with (first | (go_at_call 34; (with_reducible refine (impl_WordOk.calls k u _ _ HOK.out).mono ?_); rintro e w8 ⟨rfl, hd8⟩; have BB : Aside0 (Below w.heap.size w w8) := ⟨by refine below_then ?_ ?_ (Drawn0.below hd8) <;> (first | exact (below_then HB.out HB.out.size HB3.out).size | (repeat (first | exact below_then HB.out HB.out.size HB3.out | refine pw_below_drewN ?_ _)))⟩; clear hd8) | (go_at_call 25; (with_reducible refine (impl_WordPack.calls k u _ _ HPB.out).mono ?_); rintro e w9 ⟨rfl, hb9⟩; have BB2 := Aside0.mk (below_then BB.out BB.out.size hb9); clear hb9))
                    go_ret2
                    exact ⟨by first | rfl | (simp; done), BB2.out⟩
          · have HS : Aside0 ((decF (k1 + 1) (L.drop x.toNat)).1 = []) := ⟨by rw [List.drop_of_length_le (by omega)]; rfl⟩
            have ho : o = (decF 30 L).1.map signAt := by have h9 := HOO.out; rw [HS.out] at h9; simpa using h9
            have HW := Aside0.mk (show strOfNums o = upW a0 by rw [HU.out, ho])
            have hcv := own_string (P := Try.prog) Try.underlying22 Try.underlying5 Try.underlying9 (Kd.own_of_R HO6.out)
            have hcv1 := fun nd : Nat => own_string (P := Try.prog) Try.underlying22 Try.underlying5 Try.underlying9 (Kd.own_of_R (Kd.R_drewN HO6.out nd))
            rw [HW.out] at hcv
            simp only [HW.out] at hcv1
            clear ho
            obtain ⟨ok, hok, HF2⟩ := Option.bind_eq_some_iff.mp HF.out
            generalize hu : upW a0 = u at *
            have HUU := Aside0.mk hu
            have HOK := Aside0.mk hok
            clear hok hu
            cases ok with
            | false =>
              simp only [if_neg (show ¬ (false = true) by decide), Option.some.injEq, Prod.mk.injEq] at HF2
              obtain ⟨rfl, rfl⟩ := HF2
              go_wp2_with (first | (go_at_call 34; (with_reducible refine (impl_WordOk.calls k u _ _ HOK.out).mono ?_); rintro e w8 ⟨rfl, hd8⟩; have BB : Aside0 (Below w.heap.size w w8) := ⟨by refine below_then ?_ ?_ (Drawn0.below hd8) <;> (first | exact (below_then HB.out HB.out.size HB3.out).size | (repeat (first | exact below_then HB.out HB.out.size HB3.out | refine pw_below_drewN ?_ _)))⟩; clear hd8) | (go_at_call 25; (with_reducible refine (impl_WordPack.calls k u _ _ HPB.out).mono ?_); rintro e w9 ⟨rfl, hb9⟩; have BB2 := Aside0.mk (below_then BB.out BB.out.size hb9); clear hb9))
              go_ret2
              exact ⟨by first | rfl | (simp; done), BB.out⟩
            | true =>
              rw [if_pos rfl] at HF2
              obtain ⟨pb, hpb, HF3⟩ := Option.bind_eq_some_iff.mp HF2
              have HPB := Aside0.mk hpb
              clear hpb HF2
              by_cases hpe : pb = a0
              · rw [if_pos hpe] at HF3
                simp only [Option.some.injEq, Prod.mk.injEq] at HF3
                obtain ⟨rfl, rfl⟩ := HF3
                subst hpe
                go_wp2_with (first | (go_at_call 34; (with_reducible refine (impl_WordOk.calls k u _ _ HOK.out).mono ?_); rintro e w8 ⟨rfl, hd8⟩; have BB : Aside0 (Below w.heap.size w w8) := ⟨by refine below_then ?_ ?_ (Drawn0.below hd8) <;> (first | exact (below_then HB.out HB.out.size HB3.out).size | (repeat (first | exact below_then HB.out HB.out.size HB3.out | refine pw_below_drewN ?_ _)))⟩; clear hd8) | (go_at_call 25; (with_reducible refine (impl_WordPack.calls k u _ _ HPB.out).mono ?_); rintro e w9 ⟨rfl, hb9⟩; have BB2 := Aside0.mk (below_then BB.out BB.out.size hb9); clear hb9))
                go_ret2
                exact ⟨by first | rfl | (simp; done), BB2.out⟩
              · rw [if_neg hpe] at HF3
                simp only [Option.some.injEq, Prod.mk.injEq] at HF3
                obtain ⟨rfl, rfl⟩ := HF3
                have hne1 : (pb.toList == a0.toList) = false := by rw [beq_eq_false_iff_ne]; intro h9; exact hpe (toList_inj.1 h9)
                have hne2 : (pb.toList != a0.toList) = true := by rw [bne_iff_ne]; intro h9; exact hpe (toList_inj.1 h9)
                go_wp2_with (first | (go_at_call 34; (with_reducible refine (impl_WordOk.calls k u _ _ HOK.out).mono ?_); rintro e w8 ⟨rfl, hd8⟩; have BB : Aside0 (Below w.heap.size w w8) := ⟨by refine below_then ?_ ?_ (Drawn0.below hd8) <;> (first | exact (below_then HB.out HB.out.size HB3.out).size | (repeat (first | exact below_then HB.out HB.out.size HB3.out | refine pw_below_drewN ?_ _)))⟩; clear hd8) | (go_at_call 25; (with_reducible refine (impl_WordPack.calls k u _ _ HPB.out).mono ?_); rintro e w9 ⟨rfl, hb9⟩; have BB2 := Aside0.mk (below_then BB.out BB.out.size hb9); clear hb9))
                go_ret2
                exact ⟨by first | rfl | (simp; done), BB2.out⟩
    

/-! ### spec_l2Sign: function 47 -/
def spec_l2Sign.l0 : Nat → Int → Int → Option (Int)
  | 0, _, _ => none
  | k + 1, x0, x3 => if x3 < 39 then (if 0 ≤ x3 then (if (bt (⟨#[101, 116, 97, 111, 105, 110, 115, 114, 104, 108, 48, 49, 50, 51, 52, 53, 54, 55, 56, 57, 100, 99, 117, 109, 102, 112, 103, 119, 121, 98, 118, 107, 120, 106, 113, 122, 58, 47, 45]⟩ : ByteArray) x3) = x0 then (some x3) else (spec_l2Sign.l0 k x0 (wrap64 (x3 + 1)))) else (none)) else (some (-1))
def spec_l2Sign.f (k : Nat) (a0 : Int) : Option (Int) := spec_l2Sign.l0 k a0 0
theorem spec_l2Sign.mono_l : ∀ k, (∀ y0 y1, LeO (spec_l2Sign.l0 k y0 y1) (spec_l2Sign.l0 (k + 1) y0 y1))
  | 0 => fun _ _ r h => by simp [spec_l2Sign.l0] at h
  | k + 1 => by
    have ih0 := spec_l2Sign.mono_l k
    · intro y0 y1
      unfold spec_l2Sign.l0
      repeat' first
      | (with_reducible exact ih0 _ _)
      | (with_reducible exact LeO.refl _)
      | (with_reducible exact LeO.none _)
      | (with_reducible refine LeO.ite ?_ ?_)
      | (with_reducible refine LeO.bind ?_ (fun _ => ?_))
      | exact ih0 _ _
      | exact LeO.none _
      | refine LeO.ite ?_ ?_
      | refine LeO.bind ?_ (fun _ => ?_)
theorem spec_l2Sign.mono : ∀ a0 k, LeO (spec_l2Sign.f k a0) (spec_l2Sign.f (k + 1) a0) := by
  intro a0 k
  have ih0 := spec_l2Sign.mono_l k
  unfold spec_l2Sign.f
  repeat' first
      | (with_reducible exact ih0 _ _)
      | (with_reducible exact LeO.refl _)
      | (with_reducible exact LeO.none _)
      | (with_reducible refine LeO.ite ?_ ?_)
      | (with_reducible refine LeO.bind ?_ (fun _ => ?_))
      | exact ih0 _ _
      | exact LeO.none _
      | refine LeO.ite ?_ ?_
      | refine LeO.bind ?_ (fun _ => ?_)
set_option maxHeartbeats 8000000 in
set_option maxRecDepth 100000 in
theorem spec_l2Sign.calls (k : Nat) (a0 : Int) (r : Int) (w : World) (h : spec_l2Sign.f k a0 = some r) :
    Calls Try.prog 47 #[.int .u8 a0] w fun e w' => e = .returned (.int .i64 r) ∧ Drawn0 w w' := by
  have H : (spec_l2Sign.l0 k a0 0) = some r := h
  clear h
  have H' := Aside0.mk H
  clear H
  go_enter Try.func47, Try.ntmps47
  go_wp2
  go_loopg [3] k (fun kq v3 w' => ∃ (x3_1 : Int), v3 = .int .i64 x3_1 ∧ Aside0 (spec_l2Sign.l0 kq a0 x3_1 = some r) ∧ Aside0 (kq ≤ k) ∧ Drawn0 w w')
  case atStart => exact ⟨(0), (by first | rfl | (simp; done) | (simp [*]; done)), H', ⟨Nat.le_refl _⟩, by repeat (first | exact Drawn0.refl _ | apply Drawn0.step)⟩
  case round =>
    clear H'
    obtain ⟨x3_1, rfl, HA, HK1, ⟨m1, rfl⟩⟩ := hrel
    cases gk with
    | zero => exact absurd HA.out (by simp [spec_l2Sign.l0])
    | succ k1 =>
      have H := HA.out
      clear HA
      simp only [spec_l2Sign.l0] at H
      by_cases c2 : x3_1 < 39
      · rw [if_pos c2] at H
        have c2b0 : decide (x3_1 < 39) = true := decide_eq_true c2
        clear c2
        by_cases c3 : 0 ≤ x3_1
        · rw [if_pos c3] at H
          have c3b0 : decide (0 ≤ x3_1) = true := decide_eq_true c3
          clear c3
          by_cases c5 : (bt (⟨#[101, 116, 97, 111, 105, 110, 115, 114, 104, 108, 48, 49, 50, 51, 52, 53, 54, 55, 56, 57, 100, 99, 117, 109, 102, 112, 103, 119, 121, 98, 118, 107, 120, 106, 113, 122, 58, 47, 45]⟩ : ByteArray) x3_1) = a0
          · rw [if_pos c5] at H
            have c5b0 : ((bt (⟨#[101, 116, 97, 111, 105, 110, 115, 114, 104, 108, 48, 49, 50, 51, 52, 53, 54, 55, 56, 57, 100, 99, 117, 109, 102, 112, 103, 119, 121, 98, 118, 107, 120, 106, 113, 122, 58, 47, 45]⟩ : ByteArray) x3_1) == a0) = true := beq_iff_eq.mpr c5
            have c5b1 : ((bt (⟨#[101, 116, 97, 111, 105, 110, 115, 114, 104, 108, 48, 49, 50, 51, 52, 53, 54, 55, 56, 57, 100, 99, 117, 109, 102, 112, 103, 119, 121, 98, 118, 107, 120, 106, 113, 122, 58, 47, 45]⟩ : ByteArray) x3_1) != a0) = false := bne_eq_false_iff_eq.mpr c5
            clear c5
            obtain rfl := Option.some.inj H
            have p4 : 0 ≤ (x3_1 : Int) := of_decide_eq_true (by first | (with_reducible assumption) | assumption)
            have q4 : x3_1 < (39 : Int) := of_decide_eq_true (by first | (with_reducible assumption) | assumption)
            have hx4 := bt_at (⟨#[101, 116, 97, 111, 105, 110, 115, 114, 104, 108, 48, 49, 50, 51, 52, 53, 54, 55, 56, 57, 100, 99, 117, 109, 102, 112, 103, 119, 121, 98, 118, 107, 120, 106, 113, 122, 58, 47, 45]⟩ : ByteArray) x3_1
            replace p4 := eq_true p4
            replace q4 := eq_true q4
            go_wp2
            go_ret
            exact ⟨by first | rfl | (simp; done) | (simp [*]; done), by repeat (first | exact Drawn0.refl _ | apply Drawn0.step)⟩
          · rw [if_neg c5] at H
            have c5b0 : ((bt (⟨#[101, 116, 97, 111, 105, 110, 115, 114, 104, 108, 48, 49, 50, 51, 52, 53, 54, 55, 56, 57, 100, 99, 117, 109, 102, 112, 103, 119, 121, 98, 118, 107, 120, 106, 113, 122, 58, 47, 45]⟩ : ByteArray) x3_1) == a0) = false := beq_eq_false_iff_ne.mpr c5
            have c5b1 : ((bt (⟨#[101, 116, 97, 111, 105, 110, 115, 114, 104, 108, 48, 49, 50, 51, 52, 53, 54, 55, 56, 57, 100, 99, 117, 109, 102, 112, 103, 119, 121, 98, 118, 107, 120, 106, 113, 122, 58, 47, 45]⟩ : ByteArray) x3_1) != a0) = true := bne_iff_ne.mpr c5
            have H' := Aside0.mk H
            clear H
            have p4 : 0 ≤ (x3_1 : Int) := of_decide_eq_true (by first | (with_reducible assumption) | assumption)
            have q4 : x3_1 < (39 : Int) := of_decide_eq_true (by first | (with_reducible assumption) | assumption)
            have hx4 := bt_at (⟨#[101, 116, 97, 111, 105, 110, 115, 114, 104, 108, 48, 49, 50, 51, 52, 53, 54, 55, 56, 57, 100, 99, 117, 109, 102, 112, 103, 119, 121, 98, 118, 107, 120, 106, 113, 122, 58, 47, 45]⟩ : ByteArray) x3_1
            replace p4 := eq_true p4
            replace q4 := eq_true q4
            go_wp2
            go_roundg k1
            case measure => have := HK1.out; omega
            case rel => exact ⟨(wrap64 (x3_1 + 1)), (by first | rfl | (simp; done) | (simp [*]; done)), H', ⟨by have := HK1.out; omega⟩, by repeat (first | exact Drawn0.refl _ | apply Drawn0.step)⟩
        · rw [if_neg c3] at H
          exact absurd H (by simp)
      · rw [if_neg c2] at H
        have c2b0 : decide (x3_1 < 39) = false := decide_eq_false c2
        clear c2
        obtain rfl := Option.some.inj H
        go_wp2
        go_ret
        exact ⟨by first | rfl | (simp; done) | (simp [*]; done), by repeat (first | exact Drawn0.refl _ | apply Drawn0.step)⟩

/-! ### spec_WordOk: function 29 -/
def spec_WordOk.l0 : Nat → ByteArray → Int → Option (Bool)
  | 0, _, _ => none
  | k + 1, x0, x3 => if x3 < (x0.size : Int) then (if 0 ≤ x3 then ((spec_l2Sign.f k (bt x0 x3)).bind fun t140 => (if t140 < 0 then (some false) else (spec_WordOk.l0 k x0 (wrap64 (x3 + 1))))) else (none)) else (some (decide ((x0.size : Int) ≤ 16)))
def spec_WordOk.f (k : Nat) (a0 : ByteArray) : Option (Bool) := spec_WordOk.l0 k a0 0
theorem spec_WordOk.mono_l : ∀ k, (∀ y0 y1, LeO (spec_WordOk.l0 k y0 y1) (spec_WordOk.l0 (k + 1) y0 y1))
  | 0 => fun _ _ r h => by simp [spec_WordOk.l0] at h
  | k + 1 => by
    have ih0 := spec_WordOk.mono_l k
    · intro y0 y1
      unfold spec_WordOk.l0
      repeat' first
      | (with_reducible exact ih0 _ _)
      | (with_reducible exact spec_l2Sign.mono _ _)
      | (with_reducible exact LeO.refl _)
      | (with_reducible exact LeO.none _)
      | (with_reducible refine LeO.ite ?_ ?_)
      | (with_reducible refine LeO.bind ?_ (fun _ => ?_))
      | exact ih0 _ _
      | exact spec_l2Sign.mono _ _
      | exact LeO.none _
      | refine LeO.ite ?_ ?_
      | refine LeO.bind ?_ (fun _ => ?_)
theorem spec_WordOk.mono : ∀ a0 k, LeO (spec_WordOk.f k a0) (spec_WordOk.f (k + 1) a0) := by
  intro a0 k
  have ih0 := spec_WordOk.mono_l k
  unfold spec_WordOk.f
  repeat' first
      | (with_reducible exact ih0 _ _)
      | (with_reducible exact spec_l2Sign.mono _ _)
      | (with_reducible exact LeO.refl _)
      | (with_reducible exact LeO.none _)
      | (with_reducible refine LeO.ite ?_ ?_)
      | (with_reducible refine LeO.bind ?_ (fun _ => ?_))
      | exact ih0 _ _
      | exact spec_l2Sign.mono _ _
      | exact LeO.none _
      | refine LeO.ite ?_ ?_
      | refine LeO.bind ?_ (fun _ => ?_)
set_option maxHeartbeats 8000000 in
set_option maxRecDepth 100000 in
theorem spec_WordOk.calls (k : Nat) (a0 : ByteArray) (r : Bool) (w : World) (h : spec_WordOk.f k a0 = some r) :
    Calls Try.prog 29 #[.string a0] w fun e w' => e = .returned (.bool r) ∧ Drawn0 w w' := by
  have H : (spec_WordOk.l0 k a0 0) = some r := h
  clear h
  have H' := Aside0.mk H
  clear H
  go_enter Try.func29, Try.ntmps29
  go_wp2
  go_loopg [3] k (fun kq v3 w' => ∃ (x3_1 : Int), v3 = .int .i64 x3_1 ∧ Aside0 (spec_WordOk.l0 kq a0 x3_1 = some r) ∧ Aside0 (kq ≤ k) ∧ Drawn0 w w')
  case atStart => exact ⟨(0), (by first | rfl | (simp; done) | (simp [*]; done)), H', ⟨Nat.le_refl _⟩, by repeat (first | exact Drawn0.refl _ | apply Drawn0.step)⟩
  case round =>
    clear H'
    obtain ⟨x3_1, rfl, HA, HK1, ⟨m1, rfl⟩⟩ := hrel
    cases gk with
    | zero => exact absurd HA.out (by simp [spec_WordOk.l0])
    | succ k1 =>
      have H := HA.out
      clear HA
      simp only [spec_WordOk.l0] at H
      by_cases c2 : x3_1 < (a0.size : Int)
      · rw [if_pos c2] at H
        have c2b0 : decide (x3_1 < (a0.size : Int)) = true := decide_eq_true c2
        clear c2
        by_cases c3 : 0 ≤ x3_1
        · rw [if_pos c3] at H
          have c3b0 : decide (0 ≤ x3_1) = true := decide_eq_true c3
          clear c3
          replace H := Option.bind_eq_some_iff.mp H
          obtain ⟨t140, A50, H⟩ := H
          replace H : (if t140 < 0 then (some false) else (spec_WordOk.l0 k1 a0 (wrap64 (x3_1 + 1)))) = some r := H
          have A5 := Aside0.mk A50
          clear A50
          by_cases c6 : t140 < 0
          · rw [if_pos c6] at H
            have c6b0 : decide (t140 < 0) = true := decide_eq_true c6
            clear c6
            obtain rfl := Option.some.inj H
            have p4 : 0 ≤ (x3_1 : Int) := of_decide_eq_true (by first | (with_reducible assumption) | assumption)
            have q4 : x3_1 < (a0.size : Int) := of_decide_eq_true (by first | (with_reducible assumption) | assumption)
            have hx4 := bt_at a0 x3_1
            replace p4 := eq_true p4
            replace q4 := eq_true q4
            go_wp2_with (first | ((with_reducible refine gate_callee (f := 47) rfl ?_); refine goesL_ (some 13) rfl rfl Try.func47 (by kernel_rfl) rfl #[.int .u8 (bt a0 x3_1)] rfl (by (try simp only [List.map_toArray, List.map_cons, List.map_nil]); first | done | rfl | (simp only [List.length_drop, List.length_take]; rfl)) ?_; (with_reducible refine (spec_l2Sign.calls k1 (bt a0 x3_1) t140 _ A5.out).mono ?_); rintro e w' ⟨rfl, ⟨nd, rfl⟩⟩; refine ⟨_, rfl, ?_⟩))
            go_ret
            exact ⟨by first | rfl | (simp; done) | (simp [*]; done), by repeat (first | exact Drawn0.refl _ | apply Drawn0.step)⟩
          · rw [if_neg c6] at H
            have c6b0 : decide (t140 < 0) = false := decide_eq_false c6
            clear c6
            have H' := Aside0.mk H
            clear H
            have p4 : 0 ≤ (x3_1 : Int) := of_decide_eq_true (by first | (with_reducible assumption) | assumption)
            have q4 : x3_1 < (a0.size : Int) := of_decide_eq_true (by first | (with_reducible assumption) | assumption)
            have hx4 := bt_at a0 x3_1
            replace p4 := eq_true p4
            replace q4 := eq_true q4
            go_wp2_with (first | ((with_reducible refine gate_callee (f := 47) rfl ?_); refine goesL_ (some 13) rfl rfl Try.func47 (by kernel_rfl) rfl #[.int .u8 (bt a0 x3_1)] rfl (by (try simp only [List.map_toArray, List.map_cons, List.map_nil]); first | done | rfl | (simp only [List.length_drop, List.length_take]; rfl)) ?_; (with_reducible refine (spec_l2Sign.calls k1 (bt a0 x3_1) t140 _ A5.out).mono ?_); rintro e w' ⟨rfl, ⟨nd, rfl⟩⟩; refine ⟨_, rfl, ?_⟩))
            go_roundg k1
            case measure => have := HK1.out; omega
            case rel => exact ⟨(wrap64 (x3_1 + 1)), (by first | rfl | (simp; done) | (simp [*]; done)), H', ⟨by have := HK1.out; omega⟩, by repeat (first | exact Drawn0.refl _ | apply Drawn0.step)⟩
        · rw [if_neg c3] at H
          exact absurd H (by simp)
      · rw [if_neg c2] at H
        have c2b0 : decide (x3_1 < (a0.size : Int)) = false := decide_eq_false c2
        clear c2
        obtain rfl := Option.some.inj H
        go_wp2
        go_ret
        exact ⟨by first | rfl | (simp; done) | (simp [*]; done), by repeat (first | exact Drawn0.refl _ | apply Drawn0.step)⟩

end Go.Proofs.Ytiafobkkngngoaa.PFnPackStrict
