-- WRITTEN BY a turned print (wip/tools of the prover's repo)
import Derived.Test.YtdhahifdcoinhaaPFnExactHeadWritex0
import Derived.Test.YtdhahifdcoinhaaPFnExactHeadWritex2
import Derived.Test.YtdhahifdcoinhaaPFnExactHeadWritex4
namespace Go.Proofs.Ytdhahifdcoinhaa.PFnExactHeadWrite
open Go.RowKit Go.Proofs.YtdhahifdcoinhaaW.PrintWords Go.Proofs.YtdhahifdcoinhaaW.PrintLast Go.Proofs.YtdhahifdcoinhaaW.PrintMore Go.Proofs.Ytdhahifdcoinhaa.Lm
attribute [local go_sem] max2_int min2_int max_two min_two max_three min_three max_four min_four   -- for this text's walks alone
set_option linter.unusedVariables false
set_option linter.unusedSimpArgs false

/-! ### spec_l2Pack: function 96 -/
-- thin
mutual
def spec_l2Pack.l0 : Nat → ByteArray → List Int → Int → Option (ByteArray)
 | 0, _, _, _ => none
 | k + 1, x0, x3, x4 => if x4 < (x0.size : Int) then (if 0 ≤ x4 then ((spec_l2Sign.f k (bt x0 x4)).bind fun t223 => (if t223 < 24 then ((spec_l2Bits.f k t223 5).bind fun t224 => (if x3.length + t224.length < 17592186044416 then (spec_l2Pack.l0 k x0 (x3 ++ t224) (wrap64 (x4 + 1))) else (none))) else ((spec_l2Bits.f k (wrap64 ((wrap64 (96 + t223)) - 24)) 7).bind fun t230 => (if x3.length + t230.length < 17592186044416 then (spec_l2Pack.l0 k x0 (x3 ++ t230) (wrap64 (x4 + 1))) else (none))))) else (none)) else (spec_l2Pack.l1 k x3)
def spec_l2Pack.l1 : Nat → List Int → Option (ByteArray)
 | 0, _ => none
 | k + 1, x3 => if ((x3.length : Int) % 8) > 0 then (if x3.length < 17592186044416 then (spec_l2Pack.l1 k (x3 ++ [1])) else (none)) else (spec_l2Pack.l2 k x3 (⟨#[]⟩ : ByteArray) 0)
def spec_l2Pack.l2 : Nat → List Int → ByteArray → Int → Option (ByteArray)
 | 0, _, _, _ => none
 | k + 1, x3, x6, x7 => if x7 < (x3.length : Int) then (if 0 ≤ x7 then (if x7 ≤ (wrap64 (x7 + 8)) then (if (wrap64 (x7 + 8)) ≤ (x3.length : Int) then ((spec_l2Num.f k ((x3.take ((wrap64 (x7 + 8)) : Int).toNat).drop (x7 : Int).toNat)).bind fun t243 => ((spec_l1Byte.f t243).bind fun t244 => (if x6.size + t244.size ≤ 9223372036854775807 then (spec_l2Pack.l2 k x3 (x6 ++ t244) (wrap64 (x7 + 8))) else (none)))) else (none)) else (none)) else (none)) else (some x6)
end
def spec_l2Pack.f (k : Nat) (a0 : ByteArray) : Option (ByteArray) := spec_l2Pack.l0 k a0 (([] : List Int)) 0
theorem spec_l2Pack.mono_l : ∀ k, (∀ y0 y1 y2, LeO (spec_l2Pack.l0 k y0 y1 y2) (spec_l2Pack.l0 (k + 1) y0 y1 y2)) ∧ (∀ y0, LeO (spec_l2Pack.l1 k y0) (spec_l2Pack.l1 (k + 1) y0)) ∧ (∀ y0 y1 y2, LeO (spec_l2Pack.l2 k y0 y1 y2) (spec_l2Pack.l2 (k + 1) y0 y1 y2))
 | 0 => ⟨fun _ _ _ r h => by simp [spec_l2Pack.l0] at h, fun _ r h => by simp [spec_l2Pack.l1] at h, fun _ _ _ r h => by simp [spec_l2Pack.l2] at h⟩
 | k + 1 => by
  obtain ⟨ih0, ih1, ih2⟩ := spec_l2Pack.mono_l k
  refine ⟨?_, ?_, ?_⟩
  ·intro y0 y1 y2
   unfold spec_l2Pack.l0
   repeat' first
   | (with_reducible exact ih0 _ _ _)
   | (with_reducible exact ih1 _)
   | (with_reducible exact ih2 _ _ _)
   | (with_reducible exact spec_l2Bits.mono _ _ _)
   | (with_reducible exact spec_l2Num.mono _ _)
   | (with_reducible exact spec_l2Sign.mono _ _)
   | (with_reducible exact LeO.refl _)
   | (with_reducible exact LeO.none _)
   | (with_reducible refine LeO.ite ?_ ?_)
   | (with_reducible refine LeO.bind ?_ (fun _ => ?_))
   | exact ih0 _ _ _
   | exact ih1 _
   | exact ih2 _ _ _
   | exact spec_l2Bits.mono _ _ _
   | exact spec_l2Num.mono _ _
   | exact spec_l2Sign.mono _ _
   | exact LeO.none _
   | refine LeO.ite ?_ ?_
   | refine LeO.bind ?_ (fun _ => ?_)
  ·intro y0
   unfold spec_l2Pack.l1
   repeat' first
   | (with_reducible exact ih0 _ _ _)
   | (with_reducible exact ih1 _)
   | (with_reducible exact ih2 _ _ _)
   | (with_reducible exact spec_l2Bits.mono _ _ _)
   | (with_reducible exact spec_l2Num.mono _ _)
   | (with_reducible exact spec_l2Sign.mono _ _)
   | (with_reducible exact LeO.refl _)
   | (with_reducible exact LeO.none _)
   | (with_reducible refine LeO.ite ?_ ?_)
   | (with_reducible refine LeO.bind ?_ (fun _ => ?_))
   | exact ih0 _ _ _
   | exact ih1 _
   | exact ih2 _ _ _
   | exact spec_l2Bits.mono _ _ _
   | exact spec_l2Num.mono _ _
   | exact spec_l2Sign.mono _ _
   | exact LeO.none _
   | refine LeO.ite ?_ ?_
   | refine LeO.bind ?_ (fun _ => ?_)
  ·intro y0 y1 y2
   unfold spec_l2Pack.l2
   repeat' first
   | (with_reducible exact ih0 _ _ _)
   | (with_reducible exact ih1 _)
   | (with_reducible exact ih2 _ _ _)
   | (with_reducible exact spec_l2Bits.mono _ _ _)
   | (with_reducible exact spec_l2Num.mono _ _)
   | (with_reducible exact spec_l2Sign.mono _ _)
   | (with_reducible exact LeO.refl _)
   | (with_reducible exact LeO.none _)
   | (with_reducible refine LeO.ite ?_ ?_)
   | (with_reducible refine LeO.bind ?_ (fun _ => ?_))
   | exact ih0 _ _ _
   | exact ih1 _
   | exact ih2 _ _ _
   | exact spec_l2Bits.mono _ _ _
   | exact spec_l2Num.mono _ _
   | exact spec_l2Sign.mono _ _
   | exact LeO.none _
   | refine LeO.ite ?_ ?_
   | refine LeO.bind ?_ (fun _ => ?_)
theorem spec_l2Pack.mono : ∀ a0 k, LeO (spec_l2Pack.f k a0) (spec_l2Pack.f (k + 1) a0) := by
 intro a0 k
 obtain ⟨ih0, ih1, ih2⟩ := spec_l2Pack.mono_l k
 unfold spec_l2Pack.f
 repeat' first
   | (with_reducible exact ih0 _ _ _)
   | (with_reducible exact ih1 _)
   | (with_reducible exact ih2 _ _ _)
   | (with_reducible exact spec_l2Bits.mono _ _ _)
   | (with_reducible exact spec_l2Num.mono _ _)
   | (with_reducible exact spec_l2Sign.mono _ _)
   | (with_reducible exact LeO.refl _)
   | (with_reducible exact LeO.none _)
   | (with_reducible refine LeO.ite ?_ ?_)
   | (with_reducible refine LeO.bind ?_ (fun _ => ?_))
   | exact ih0 _ _ _
   | exact ih1 _
   | exact ih2 _ _ _
   | exact spec_l2Bits.mono _ _ _
   | exact spec_l2Num.mono _ _
   | exact spec_l2Sign.mono _ _
   | exact LeO.none _
   | refine LeO.ite ?_ ?_
   | refine LeO.bind ?_ (fun _ => ?_)
set_option maxHeartbeats 8000000 in
set_option maxRecDepth 100000 in
theorem spec_l2Pack.calls (k : Nat) (a0 : ByteArray) (r : ByteArray) (w : World) (h : spec_l2Pack.f k a0 = some r) :
  Calls Try.prog 96 #[.string a0] w fun e w' => e = .returned (.string r) ∧ Below w.heap.size w w' := by
 have HB := Aside0.mk (Below.refl w.heap.size w)
 have H : (spec_l2Pack.l0 k a0 (([] : List Int)) 0) = some r := h
 clear h
 obtain ⟨y220, hy220⟩ : ∃ y_ : List Int, y_ = (([] : List Int)) := ⟨_, rfl⟩
 replace H : (spec_l2Pack.l0 k a0 y220 0) = some r := by first | (rw [hy220]; with_reducible exact H) | (have H2_ := (Option.bind_some _ _).symm.trans H; rw [hy220]; with_reducible exact H2_) | (have H2_ := (Option.bind_some _ _).symm.trans H; with_reducible exact H2_) | with_reducible exact H | (rw [hy220]; exact H) | exact H
 have Ny220 := Aside0.mk hy220
 clear hy220
 have H' := Aside0.mk H
 clear H
 go_enter Try.func96, Try.ntmps96
 go_wp2_with (first | ((with_reducible refine gd 8 rfl ?_); refine Kd.R_lit (Kd.int .i64) _ 3 ?hg (N := 8) ?hd (xs := ([] : List Int)) (inner := []) (ok := fun _ => True) (okp := fun _ => True) ?hr ?hp (fun _ hk => hk) trivial (Below.refl _ _) (Nat.le_refl _) (by simp) ?_; (case hd => rfl); (case hg => rfl); (case hr => first | (go_simp; done) | (go_simp; rfl)); (case hp => exact (Reps.none _ _)); intro v221 w2 ho3 hb hg_ hnew_; clear hg_ hnew_; (first | rw [← Ny220.out] at ho3 | (simp only [Int.reduceToNat] at ho3; rw [← Ny220.out] at ho3)); have HO222 := Aside0.mk (Kd.R_lower ho3 (below_size (zb HB))); replace HB := Aside0.mk (below_step (zb HB) hb); clear hb ho3))
 go_loopg [3, 4] k (fun kq v3 v4 w' => ∃ (x3_1 : List Int) (x4_1 : Int), v4 = .int .i64 x4_1 ∧ Aside0 (spec_l2Pack.l0 kq a0 x3_1 x4_1 = some r) ∧ Aside0 (kq ≤ k) ∧ Aside0 (Kd.R (Kd.int .i64) 3 w' w.heap.size (fun _ => True) v3 x3_1) ∧ Aside0 (Below w.heap.size w w'))
 case atStart => exact ⟨(y220), (0), zs, H', ⟨Nat.le_refl _⟩, ⟨by exact zr HO222⟩, ⟨zb HB⟩⟩
 case round =>
  clear H'
  try clear p2
  obtain ⟨x3_1, x4_1, rfl, HA, HK1, HO_3, HB⟩ := hrel
  cases gk with
  | zero => exact absurd HA.out (by simp [spec_l2Pack.l0])
  | succ k1 =>
   have H := HA.out
   clear HA
   simp only [spec_l2Pack.l0] at H
   by_cases c4 : x4_1 < (a0.size : Int)
   ·rw [if_pos c4] at H
    have c4b0 : decide (x4_1 < (a0.size : Int)) = true := decide_eq_true c4
    clear c4
    by_cases c5 : 0 ≤ x4_1
    ·rw [if_pos c5] at H
     have c5b0 : decide (0 ≤ x4_1) = true := decide_eq_true c5
     clear c5
     replace H := Option.bind_eq_some_iff.mp H
     obtain ⟨t223, A70, H⟩ := H
     replace H : (if t223 < 24 then ((spec_l2Bits.f k1 t223 5).bind fun t224 => (if x3_1.length + t224.length < 17592186044416 then (spec_l2Pack.l0 k1 a0 (x3_1 ++ t224) (wrap64 (x4_1 + 1))) else (none))) else ((spec_l2Bits.f k1 (wrap64 ((wrap64 (96 + t223)) - 24)) 7).bind fun t230 => (if x3_1.length + t230.length < 17592186044416 then (spec_l2Pack.l0 k1 a0 (x3_1 ++ t230) (wrap64 (x4_1 + 1))) else (none)))) = some r := H
     have A7 := Aside0.mk A70
     clear A70
     by_cases c8 : t223 < 24
     ·rw [if_pos c8] at H
      have c8b0 : decide (t223 < 24) = true := decide_eq_true c8
      clear c8
      replace H := Option.bind_eq_some_iff.mp H
      obtain ⟨t224, A90, H⟩ := H
      replace H : (if x3_1.length + t224.length < 17592186044416 then (spec_l2Pack.l0 k1 a0 (x3_1 ++ t224) (wrap64 (x4_1 + 1))) else (none)) = some r := H
      have A9 := Aside0.mk A90
      clear A90
      by_cases c10 : x3_1.length + t224.length < 17592186044416
      ·rw [if_pos c10] at H
       have LMc10 := Aside0.mk c10
       clear c10
       obtain ⟨y227, hy227⟩ : ∃ y_ : List Int, y_ = (x3_1 ++ t224) := ⟨_, rfl⟩
       replace H : (spec_l2Pack.l0 k1 a0 y227 (wrap64 (x4_1 + 1))) = some r := by first | (rw [hy227]; with_reducible exact H) | (have H2_ := (Option.bind_some _ _).symm.trans H; rw [hy227]; with_reducible exact H2_) | (have H2_ := (Option.bind_some _ _).symm.trans H; with_reducible exact H2_) | with_reducible exact H | (rw [hy227]; exact H) | exact H
       have Ny227 := Aside0.mk hy227
       clear hy227
       have H' := Aside0.mk H
       clear H
       have p6 : 0 ≤ (x4_1 : Int) := of_decide_eq_true za
       have q6 : x4_1 < (a0.size : Int) := of_decide_eq_true za
       have hx6 := bt_at a0 x4_1
       replace p6 := eq_true p6
       replace q6 := eq_true q6
       go_wp2_with (first | ((with_reducible refine gq 76 rfl ?_); refine gl (some 18) Try.func76 #[.int .u8 (bt a0 x4_1)] ?_; (with_reducible refine (spec_l2Sign.calls k1 (bt a0 x4_1) t223 _ A7.out).mono ?_); rintro e w' ⟨rfl, ⟨nd, rfl⟩⟩; refine ⟨_, rfl, ?_⟩) | ((with_reducible refine gq 101 rfl ?_); refine gl (some 23) Try.func101 #[.int .i64 t223, .int .i64 5] ?_; (with_reducible refine (spec_l2Bits.calls k1 t223 5 t224 _ A9.out).mono ?_); rintro e w11 ⟨v225, rfl, ho0, hb⟩; refine ⟨_, rfl, ?_⟩; have HO226 := Aside0.mk (Kd.R_lower (Kd.R_new' ho0 (Kd.R_lt (zr HO_3))) (below_size (zb HB))); replace HO_3 := Aside0.mk (Kd.R_elder' (zr HO_3) (Kd.R_base ho0) hb); replace HB := Aside0.mk (below_step (zb HB) hb); (try clear hb); (try clear ho0); obtain ⟨Ao13, co13, eo13⟩ := Kd.R_slice HO226.out; subst eo13) | ((with_reducible refine gate_builtin (b := .append) (xs := #[.tmp 21, .tmp 23]) rfl ?_); at_builtin; refine Kd.R_append_rows (Kd.int .i64) (w0 := w) w.heap.size rfl (.tmp 21) (.tmp 23) 86 3 (.int .i64 0) 8 rfl Try.underlying86 info3 rfl (by decide) (by omega) u3 x3_1 t224 _ _ _ (fun k_ => some k_ ≠ (.slice Ao13 t224.length co13 : Value).ownBlock) (fun _ => False) rfl rfl ?aO ?aR (fun _ _ h => h) (fun _ h => h.elim) ?aF ?aB ?aS ?aL ?_; (case aR => exact zc (Kd.R_reads' HO226.out).2.2); (case aB => exact (zb HB)); (case aF => exact (fun k_ hk => Kd.fresh' (Kd.R_lt (zr HO226)) k_ hk)); (case aO => exact (by (with_reducible repeat (first | apply Kd.R_alloc | apply Kd.R_drewN | apply Kd.R_drew)); exact Kd.R_mono HO_3.out (fun _ hk => hk.2))); (case aS => exact (below_size (zb HB))); (case aL => have := LMc10.out; omega); intro v228 w12 ho hb hg hat; rw [← Ny227.out] at ho; replace HO226 := Aside0.mk (Kd.R_after (ok := (fun _ => True)) (zr HO226) hg hat); replace HB := Aside0.mk (hb); have HO229 := Aside0.mk (ho); clear HO_3; clear ho hb hg hat))
       go_roundg k1
       case measure => have := HK1.out; omega
       case rel => exact ⟨(y227), (wrap64 (x4_1 + 1)), zs, H', ⟨by have := HK1.out; omega⟩, ⟨by (with_reducible repeat (first | apply Kd.R_alloc | apply Kd.R_drewN | apply Kd.R_drew)); exact Kd.R_mono HO229.out (fun _ hk => trivial)⟩, ⟨zb HB⟩⟩
      ·rw [if_neg c10] at H
       exact absurd H (by simp)
     ·rw [if_neg c8] at H
      have c8b0 : decide (t223 < 24) = false := decide_eq_false c8
      clear c8
      replace H := Option.bind_eq_some_iff.mp H
      obtain ⟨t230, A140, H⟩ := H
      replace H : (if x3_1.length + t230.length < 17592186044416 then (spec_l2Pack.l0 k1 a0 (x3_1 ++ t230) (wrap64 (x4_1 + 1))) else (none)) = some r := H
      have A14 := Aside0.mk A140
      clear A140
      by_cases c15 : x3_1.length + t230.length < 17592186044416
      ·rw [if_pos c15] at H
       have LMc15 := Aside0.mk c15
       clear c15
       obtain ⟨y233, hy233⟩ : ∃ y_ : List Int, y_ = (x3_1 ++ t230) := ⟨_, rfl⟩
       replace H : (spec_l2Pack.l0 k1 a0 y233 (wrap64 (x4_1 + 1))) = some r := by first | (rw [hy233]; with_reducible exact H) | (have H2_ := (Option.bind_some _ _).symm.trans H; rw [hy233]; with_reducible exact H2_) | (have H2_ := (Option.bind_some _ _).symm.trans H; with_reducible exact H2_) | with_reducible exact H | (rw [hy233]; exact H) | exact H
       have Ny233 := Aside0.mk hy233
       clear hy233
       have H' := Aside0.mk H
       clear H
       have p6 : 0 ≤ (x4_1 : Int) := of_decide_eq_true za
       have q6 : x4_1 < (a0.size : Int) := of_decide_eq_true za
       have hx6 := bt_at a0 x4_1
       replace p6 := eq_true p6
       replace q6 := eq_true q6
       go_wp2_with (first | ((with_reducible refine gq 76 rfl ?_); refine gl (some 18) Try.func76 #[.int .u8 (bt a0 x4_1)] ?_; (with_reducible refine (spec_l2Sign.calls k1 (bt a0 x4_1) t223 _ A7.out).mono ?_); rintro e w' ⟨rfl, ⟨nd, rfl⟩⟩; refine ⟨_, rfl, ?_⟩) | ((with_reducible refine gq 101 rfl ?_); refine gl (some 29) Try.func101 #[.int .i64 (wrap64 ((wrap64 (96 + t223)) - 24)), .int .i64 7] ?_; (with_reducible refine (spec_l2Bits.calls k1 (wrap64 ((wrap64 (96 + t223)) - 24)) 7 t230 _ A14.out).mono ?_); rintro e w16 ⟨v231, rfl, ho0, hb⟩; refine ⟨_, rfl, ?_⟩; have HO232 := Aside0.mk (Kd.R_lower (Kd.R_new' ho0 (Kd.R_lt (zr HO_3))) (below_size (zb HB))); replace HO_3 := Aside0.mk (Kd.R_elder' (zr HO_3) (Kd.R_base ho0) hb); replace HB := Aside0.mk (below_step (zb HB) hb); (try clear hb); (try clear ho0); obtain ⟨Ao18, co18, eo18⟩ := Kd.R_slice HO232.out; subst eo18) | ((with_reducible refine gate_builtin (b := .append) (xs := #[.tmp 25, .tmp 29]) rfl ?_); at_builtin; refine Kd.R_append_rows (Kd.int .i64) (w0 := w) w.heap.size rfl (.tmp 25) (.tmp 29) 86 3 (.int .i64 0) 8 rfl Try.underlying86 info3 rfl (by decide) (by omega) u3 x3_1 t230 _ _ _ (fun k_ => some k_ ≠ (.slice Ao18 t230.length co18 : Value).ownBlock) (fun _ => False) rfl rfl ?aO ?aR (fun _ _ h => h) (fun _ h => h.elim) ?aF ?aB ?aS ?aL ?_; (case aR => exact zc (Kd.R_reads' HO232.out).2.2); (case aB => exact (zb HB)); (case aF => exact (fun k_ hk => Kd.fresh' (Kd.R_lt (zr HO232)) k_ hk)); (case aO => exact (by (with_reducible repeat (first | apply Kd.R_alloc | apply Kd.R_drewN | apply Kd.R_drew)); exact Kd.R_mono HO_3.out (fun _ hk => hk.2))); (case aS => exact (below_size (zb HB))); (case aL => have := LMc15.out; omega); intro v234 w17 ho hb hg hat; rw [← Ny233.out] at ho; replace HO232 := Aside0.mk (Kd.R_after (ok := (fun _ => True)) (zr HO232) hg hat); replace HB := Aside0.mk (hb); have HO235 := Aside0.mk (ho); clear HO_3; clear ho hb hg hat))
       go_roundg k1
       case measure => have := HK1.out; omega
       case rel => exact ⟨(y233), (wrap64 (x4_1 + 1)), zs, H', ⟨by have := HK1.out; omega⟩, ⟨by (with_reducible repeat (first | apply Kd.R_alloc | apply Kd.R_drewN | apply Kd.R_drew)); exact Kd.R_mono HO235.out (fun _ hk => trivial)⟩, ⟨zb HB⟩⟩
      ·rw [if_neg c15] at H
       exact absurd H (by simp)
    ·rw [if_neg c5] at H
     exact absurd H (by simp)
   ·rw [if_neg c4] at H
    have c4b0 : decide (x4_1 < (a0.size : Int)) = false := decide_eq_false c4
    clear c4
    have H' := Aside0.mk H
    clear H
    go_wp2
    go_loopg [3] k1 (fun kq v3 w' => ∃ (x3_2 : List Int), Aside0 (spec_l2Pack.l1 kq x3_2 = some r) ∧ Aside0 (kq ≤ k1) ∧ Aside0 (Kd.R (Kd.int .i64) 3 w' w.heap.size (fun _ => True) v3 x3_2) ∧ Aside0 (Below w.heap.size w w'))
    case atStart => exact ⟨(x3_1), H', ⟨Nat.le_refl _⟩, ⟨by exact zr HO_3⟩, ⟨zb HB⟩⟩
    case round =>
     clear H'
     try clear c1
     try clear p2
     try clear c4
     try clear c4b0
     try clear c5
     try clear c5b0
     try clear p6
     try clear q6
     try clear hx6
     try clear c7
     try clear c8
     try clear c8b0
     try clear c9
     try clear c10
     try clear c15
     try clear p2
     try clear p6
     try clear q6
     obtain ⟨x3_2, HA, HK2, HO_3, HB⟩ := hrel
     cases gk with
     | zero => exact absurd HA.out (by simp [spec_l2Pack.l1])
     | succ k2 =>
      have H := HA.out
      clear HA
      simp only [spec_l2Pack.l1] at H
      by_cases c19 : ((x3_2.length : Int) % 8) > 0
      ·rw [if_pos c19] at H
       have c19b0 : decide (0 < ((x3_2.length : Int) % 8)) = true := decide_eq_true c19
       clear c19
       by_cases c20 : x3_2.length < 17592186044416
       ·rw [if_pos c20] at H
        have LMc20 := Aside0.mk c20
        clear c20
        obtain ⟨y236, hy236⟩ : ∃ y_ : List Int, y_ = (x3_2 ++ [1]) := ⟨_, rfl⟩
        replace H : (spec_l2Pack.l1 k2 y236) = some r := by first | (rw [hy236]; with_reducible exact H) | (have H2_ := (Option.bind_some _ _).symm.trans H; rw [hy236]; with_reducible exact H2_) | (have H2_ := (Option.bind_some _ _).symm.trans H; with_reducible exact H2_) | with_reducible exact H | (rw [hy236]; exact H) | exact H
        have Ny236 := Aside0.mk hy236
        clear hy236
        have H' := Aside0.mk H
        clear H
        obtain ⟨Ao21, co21, eo21⟩ := Kd.R_slice HO_3.out
        subst eo21
        go_wp2_with (first | ((with_reducible refine gate_builtin (b := .append) (xs := #[.tmp 35, .tmp 36]) rfl ?_); at_builtin; refine Kd.R_append (Kd.int .i64) (w0 := w) w.heap.size rfl (.tmp 35) (.tmp 36) 86 3 (.int .i64 0) 8 rfl Try.underlying86 info3 rfl (by decide) (by omega) (.slice Ao21 x3_2.length co21) x3_2 1 [.int .i64 1] (fun _ => True) (fun _ => False) rfl rfl ?aP (fun _ hk => hk.elim) ?aF ?aO ?aB ?aS ?aL ?_; (case aP => exact rfl); (case aB => exact (zb HB)); (case aF => exact (fun _ _ => trivial)); (case aO => exact (zr HO_3)); (case aS => exact (below_size (zb HB))); (case aL => have := LMc20.out; omega); intro v237 w22 ho hb hg hat; rw [← Ny236.out] at ho; replace HB := Aside0.mk (hb); have HO238 := Aside0.mk (ho); clear HO_3; clear ho hb hg hat))
        go_roundg k2
        case measure => have := HK1.out; have := HK2.out; omega
        case rel => exact ⟨(y236), H', ⟨by have := HK1.out; have := HK2.out; omega⟩, ⟨by exact zr HO238⟩, ⟨zb HB⟩⟩
       ·rw [if_neg c20] at H
        exact absurd H (by simp)
      ·rw [if_neg c19] at H
       have c19b0 : decide (0 < ((x3_2.length : Int) % 8)) = false := decide_eq_false c19
       clear c19
       have H' := Aside0.mk H
       clear H
       obtain ⟨Ao23, co23, eo23⟩ := Kd.R_slice HO_3.out
       subst eo23
       go_wp2
       go_loopg [6, 7] k2 (fun kq v6 v7 w' => ∃ (x6_3 : ByteArray) (x7_3 : Int), v6 = .string x6_3 ∧ v7 = .int .i64 x7_3 ∧ Aside0 (spec_l2Pack.l2 kq x3_2 x6_3 x7_3 = some r) ∧ Aside0 (kq ≤ k2) ∧ Aside0 (Kd.R (Kd.int .i64) 3 w' w.heap.size (fun _ => True) (.slice Ao23 x3_2.length co23) x3_2) ∧ Aside0 (Below w.heap.size w w'))
       case atStart => exact ⟨((⟨#[]⟩ : ByteArray)), (0), zs, zs, H', ⟨Nat.le_refl _⟩, ⟨by exact zr HO_3⟩, ⟨zb HB⟩⟩
       case round =>
        clear H'
        try clear c1
        try clear c2
        try clear p2
        try clear c4
        try clear c4b0
        try clear c5
        try clear c5b0
        try clear p6
        try clear q6
        try clear hx6
        try clear c7
        try clear c8
        try clear c8b0
        try clear c9
        try clear c10
        try clear c15
        try clear c19
        try clear c19b0
        try clear c20
        try clear p2
        try clear p6
        try clear q6
        obtain ⟨x6_3, x7_3, rfl, rfl, HA, HK3, HO_3, HB⟩ := hrel
        cases gk with
        | zero => exact absurd HA.out (by simp [spec_l2Pack.l2])
        | succ k3 =>
         have H := HA.out
         clear HA
         simp only [spec_l2Pack.l2] at H
         by_cases c24 : x7_3 < (x3_2.length : Int)
         ·rw [if_pos c24] at H
          have c24b0 : decide (x7_3 < (x3_2.length : Int)) = true := decide_eq_true c24
          clear c24
          by_cases c25 : 0 ≤ x7_3
          ·rw [if_pos c25] at H
           have c25b0 := eq_true c25
           have c25b1 : decide (0 ≤ x7_3) = true := decide_eq_true c25
           clear c25
           by_cases c26 : x7_3 ≤ (wrap64 (x7_3 + 8))
           ·rw [if_pos c26] at H
            have c26b0 := eq_true c26
            have c26b1 : decide (x7_3 ≤ (wrap64 (x7_3 + 8))) = true := decide_eq_true c26
            by_cases c27 : (wrap64 (x7_3 + 8)) ≤ (x3_2.length : Int)
            ·rw [if_pos c27] at H
             have c27b0 := eq_true c27
             have c27b1 : decide ((wrap64 (x7_3 + 8)) ≤ (x3_2.length : Int)) = true := decide_eq_true c27
             obtain ⟨y239, hy239⟩ : ∃ y_ : List Int, y_ = ((x3_2.take ((wrap64 (x7_3 + 8)) : Int).toNat).drop (x7_3 : Int).toNat) := ⟨_, rfl⟩
             replace H : ((spec_l2Num.f k3 y239).bind fun t243 => ((spec_l1Byte.f t243).bind fun t244 => (if x6_3.size + t244.size ≤ 9223372036854775807 then (spec_l2Pack.l2 k3 x3_2 (x6_3 ++ t244) (wrap64 (x7_3 + 8))) else (none)))) = some r := by first | (rw [hy239]; with_reducible exact H) | (have H2_ := (Option.bind_some _ _).symm.trans H; rw [hy239]; with_reducible exact H2_) | (have H2_ := (Option.bind_some _ _).symm.trans H; with_reducible exact H2_) | with_reducible exact H | (rw [hy239]; exact H) | exact H
             have Ny239 := Aside0.mk hy239
             clear hy239
             replace H := Option.bind_eq_some_iff.mp H
             obtain ⟨t243, A280, H⟩ := H
             replace H : ((spec_l1Byte.f t243).bind fun t244 => (if x6_3.size + t244.size ≤ 9223372036854775807 then (spec_l2Pack.l2 k3 x3_2 (x6_3 ++ t244) (wrap64 (x7_3 + 8))) else (none))) = some r := H
             have A28 := Aside0.mk A280
             clear A280
             replace H := Option.bind_eq_some_iff.mp H
             obtain ⟨t244, A290, H⟩ := H
             replace H : (if x6_3.size + t244.size ≤ 9223372036854775807 then (spec_l2Pack.l2 k3 x3_2 (x6_3 ++ t244) (wrap64 (x7_3 + 8))) else (none)) = some r := H
             have A29 := Aside0.mk A290
             clear A290
             by_cases c30 : x6_3.size + t244.size ≤ 9223372036854775807
             ·rw [if_pos c30] at H
              have c30b0 := eq_true c30
              have c30b1 : decide (x6_3.size + t244.size ≤ 9223372036854775807) = true := decide_eq_true c30
              try have c30b2 : (9223372036854775807 < x6_3.size + t244.size) = False := eq_false (Nat.not_lt.2 c30)
              have H' := Aside0.mk H
              clear H
              have q31 : ((wrap64 (x7_3 + 8)) : Int) ≤ ((x3_2.length : Int) : Int) := of_decide_eq_true za
              obtain ⟨i031, hi031, _, hsz31, _⟩ := info_parts info3
              have hroom31 : x3_2.length ≤ co23 := (Kd.R_reads' HO_3.out).2.1
              have hC31 : Kd.C (Kd.int .i64) _ Ao23 x3_2.length x3_2 := (Kd.R_reads' HO_3.out).2.2
              have ql31 : (x7_3 : Int) ≤ ((wrap64 (x7_3 + 8)) : Int) := of_decide_eq_true za
              have q031 : (0 : Int) ≤ (x7_3 : Int) := of_decide_eq_true za
              have hcut31 := cut_mid (P := Try.prog) 86 3 .i64 .i64 Try.underlying86 hi031 1 hsz31 Ao23 x3_2.length co23 x7_3 (wrap64 (x7_3 + 8)) q031 ql31 q31 hroom31
              have hr31 := Kd.C_mid (lo := (x7_3 : Int).toNat) (hi := ((wrap64 (x7_3 + 8)) : Int).toNat) (c := co23) hC31 (by omega) (by omega) hroom31
              obtain ⟨A31, hA31⟩ : ∃ A1, A1 = (if co23 = (x7_3 : Int).toNat then Ao23 else (Ao23 : Option Addr).map (·.add ((x7_3 : Int).toNat * 1))) := ⟨_, rfl⟩
              obtain ⟨c31, hc31⟩ : ∃ c1, c1 = co23 - (x7_3 : Int).toNat := ⟨_, rfl⟩
              have hy31 : y239.length = ((wrap64 (x7_3 + 8)) : Int).toNat - (x7_3 : Int).toNat := (by rw [Ny239.out, List.length_drop, List.length_take] <;> omega)
              rw [show ((x3_2).take ((wrap64 (x7_3 + 8)) : Int).toNat).drop (x7_3 : Int).toNat = y239 from Ny239.out.symm] at hr31
              replace hr31 : Kd.C (Kd.int .i64) _ A31 y239.length y239 := (by rw [hA31]; exact hr31)
              rw [← hy31, ← hA31, ← hc31] at hcut31
              have HR242 := Aside0.mk hr31
              have HC242 := Aside0.mk (show y239.length ≤ c31 from by rw [hy31, hc31]; exact Nat.sub_le_sub_right (Nat.le_trans (by omega) hroom31) _)
              clear hr31 hC31 hroom31 hi031 hsz31 hc31
              have KY31 := Aside0.mk hy31
              have KA31 := Aside0.mk hA31
              clear hy31 hA31
              have KL31 := Aside0.mk (show ((wrap64 (x7_3 + 8)) : Int).toNat ≤ x3_2.length from by omega)
              have KM31 := Aside0.mk (show (x7_3 : Int).toNat ≤ ((wrap64 (x7_3 + 8)) : Int).toNat from by omega)
              replace q31 := eq_true q31
              go_wp2_with (first | ((with_reducible refine gq 102 rfl ?_); refine gl (some 50) Try.func102 #[.slice A31 y239.length c31] ?_; (with_reducible refine (spec_l2Num.calls k3 _ _ y239 t243 _ ?side1 ?side2 A28.out).mono ?_); (case side1 => exact zc HR242.out); (case side2 => exact HC242.out); rintro e w' ⟨rfl, ⟨nd, rfl⟩⟩; refine ⟨_, rfl, ?_⟩) | ((with_reducible refine gq 86 rfl ?_); refine gl (some 51) Try.func86 #[.int .i64 t243] ?_; (with_reducible refine (spec_l1Byte.calls t243 t244 _ A29.out).mono ?_); rintro e w32 ⟨rfl, hb⟩; refine ⟨_, rfl, ?_⟩; replace HO_3 := Aside0.mk (Kd.R_below (zr HO_3) hb); replace HR242 := Aside0.mk (Kd.C_below (zc HR242.out) hb); replace HB := Aside0.mk (below_step (zb HB) hb); (try clear hb)))
              go_roundg k3
              case measure => have := HK1.out; have := HK2.out; have := HK3.out; omega
              case rel => exact ⟨(x6_3 ++ t244), (wrap64 (x7_3 + 8)), zs, zs, H', ⟨by have := HK1.out; have := HK2.out; have := HK3.out; omega⟩, ⟨by exact zr HO_3⟩, ⟨zb HB⟩⟩
             ·rw [if_neg c30] at H
              exact absurd H (by simp)
            ·rw [if_neg c27] at H
             exact absurd H (by simp)
           ·rw [if_neg c26] at H
            exact absurd H (by simp)
          ·rw [if_neg c25] at H
           exact absurd H (by simp)
         ·rw [if_neg c24] at H
          have c24b0 : decide (x7_3 < (x3_2.length : Int)) = false := decide_eq_false c24
          clear c24
          obtain rfl := Option.some.inj H
          go_wp2
          go_ret
          exact ⟨ze, zb HB⟩

/-! ### spec_l2Write: function 91 -/
-- thin
def spec_l2Write.f (k : Nat) (a0 : ByteArray) : Option (ByteArray) := (spec_l2Pack.f k a0).bind fun t245 => (if (t245.size : Int) < (a0.size : Int) then ((spec_l1Write.f k (t245.size : Int) 7 1).bind fun t246 => (if t246.size + t245.size ≤ 9223372036854775807 then (some (t246 ++ t245)) else (none))) else ((spec_l1Write.f k (a0.size : Int) 7 0).bind fun t247 => (if t247.size + a0.size ≤ 9223372036854775807 then (some (t247 ++ a0)) else (none))))
theorem spec_l2Write.mono : ∀ a0 k, LeO (spec_l2Write.f k a0) (spec_l2Write.f (k + 1) a0) := by
 intro a0 k
 unfold spec_l2Write.f
 repeat' first
   | (with_reducible exact spec_l1Write.mono _ _ _ _)
   | (with_reducible exact spec_l2Pack.mono _ _)
   | (with_reducible exact LeO.refl _)
   | (with_reducible exact LeO.none _)
   | (with_reducible refine LeO.ite ?_ ?_)
   | (with_reducible refine LeO.bind ?_ (fun _ => ?_))
   | exact spec_l1Write.mono _ _ _ _
   | exact spec_l2Pack.mono _ _
   | exact LeO.none _
   | refine LeO.ite ?_ ?_
   | refine LeO.bind ?_ (fun _ => ?_)
set_option maxHeartbeats 8000000 in
set_option maxRecDepth 100000 in
theorem spec_l2Write.calls (k : Nat) (a0 : ByteArray) (r : ByteArray) (w : World) (h : spec_l2Write.f k a0 = some r) :
  Calls Try.prog 91 #[.string a0] w fun e w' => e = .returned (.string r) ∧ Below w.heap.size w w' := by
 have HB := Aside0.mk (Below.refl w.heap.size w)
 have H : ((spec_l2Pack.f k a0).bind fun t245 => (if (t245.size : Int) < (a0.size : Int) then ((spec_l1Write.f k (t245.size : Int) 7 1).bind fun t246 => (if t246.size + t245.size ≤ 9223372036854775807 then (some (t246 ++ t245)) else (none))) else ((spec_l1Write.f k (a0.size : Int) 7 0).bind fun t247 => (if t247.size + a0.size ≤ 9223372036854775807 then (some (t247 ++ a0)) else (none))))) = some r := h
 clear h
 replace H := Option.bind_eq_some_iff.mp H
 obtain ⟨t245, A20, H⟩ := H
 replace H : (if (t245.size : Int) < (a0.size : Int) then ((spec_l1Write.f k (t245.size : Int) 7 1).bind fun t246 => (if t246.size + t245.size ≤ 9223372036854775807 then (some (t246 ++ t245)) else (none))) else ((spec_l1Write.f k (a0.size : Int) 7 0).bind fun t247 => (if t247.size + a0.size ≤ 9223372036854775807 then (some (t247 ++ a0)) else (none)))) = some r := H
 have A2 := Aside0.mk A20
 clear A20
 by_cases c3 : (t245.size : Int) < (a0.size : Int)
 ·rw [if_pos c3] at H
  have c3b0 : decide ((t245.size : Int) < (a0.size : Int)) = true := decide_eq_true c3
  have c3b1 : decide (t245.size < a0.size) = true := decide_eq_true (Int.ofNat_lt.mp c3)
  clear c3
  replace H := Option.bind_eq_some_iff.mp H
  obtain ⟨t246, A40, H⟩ := H
  replace H : (if t246.size + t245.size ≤ 9223372036854775807 then (some (t246 ++ t245)) else (none)) = some r := H
  have A4 := Aside0.mk A40
  clear A40
  by_cases c5 : t246.size + t245.size ≤ 9223372036854775807
  ·rw [if_pos c5] at H
   have c5b0 := eq_true c5
   have c5b1 : decide (t246.size + t245.size ≤ 9223372036854775807) = true := decide_eq_true c5
   try have c5b2 : (9223372036854775807 < t246.size + t245.size) = False := eq_false (Nat.not_lt.2 c5)
   obtain rfl := Option.some.inj H
   go_enter Try.func91, Try.ntmps91
   go_wp2_with (first | ((with_reducible refine gq 96 rfl ?_); refine gl (some 5) Try.func96 #[.string a0] ?_; (with_reducible refine (spec_l2Pack.calls k a0 t245 _ A2.out).mono ?_); rintro e w6 ⟨rfl, hb⟩; refine ⟨_, rfl, ?_⟩; replace HB := Aside0.mk (below_step (zb HB) hb); (try clear hb)) | ((with_reducible refine gq 92 rfl ?_); refine gl (some 13) Try.func92 #[.int .i64 (t245.size : Int), .int .i64 7, .int .i64 1] ?_; (with_reducible refine (spec_l1Write.calls k (t245.size : Int) 7 1 t246 _ A4.out).mono ?_); rintro e w7 ⟨rfl, hb⟩; refine ⟨_, rfl, ?_⟩; replace HB := Aside0.mk (below_step (zb HB) hb); (try clear hb)))
   go_ret
   exact ⟨ze, zb HB⟩
  ·rw [if_neg c5] at H
   exact absurd H (by simp)
 ·rw [if_neg c3] at H
  have c3b0 : decide ((t245.size : Int) < (a0.size : Int)) = false := decide_eq_false c3
  have c3b1 : decide (t245.size < a0.size) = false := decide_eq_false (fun h => c3 (Int.ofNat_lt.mpr h))
  clear c3
  replace H := Option.bind_eq_some_iff.mp H
  obtain ⟨t247, A80, H⟩ := H
  replace H : (if t247.size + a0.size ≤ 9223372036854775807 then (some (t247 ++ a0)) else (none)) = some r := H
  have A8 := Aside0.mk A80
  clear A80
  by_cases c9 : t247.size + a0.size ≤ 9223372036854775807
  ·rw [if_pos c9] at H
   have c9b0 := eq_true c9
   have c9b1 : decide (t247.size + a0.size ≤ 9223372036854775807) = true := decide_eq_true c9
   try have c9b2 : (9223372036854775807 < t247.size + a0.size) = False := eq_false (Nat.not_lt.2 c9)
   obtain rfl := Option.some.inj H
   go_enter Try.func91, Try.ntmps91
   go_wp2_with (first | ((with_reducible refine gq 96 rfl ?_); refine gl (some 5) Try.func96 #[.string a0] ?_; (with_reducible refine (spec_l2Pack.calls k a0 t245 _ A2.out).mono ?_); rintro e w10 ⟨rfl, hb⟩; refine ⟨_, rfl, ?_⟩; replace HB := Aside0.mk (below_step (zb HB) hb); (try clear hb)) | ((with_reducible refine gq 92 rfl ?_); refine gl (some 18) Try.func92 #[.int .i64 (a0.size : Int), .int .i64 7, .int .i64 0] ?_; (with_reducible refine (spec_l1Write.calls k (a0.size : Int) 7 0 t247 _ A8.out).mono ?_); rintro e w11 ⟨rfl, hb⟩; refine ⟨_, rfl, ?_⟩; replace HB := Aside0.mk (below_step (zb HB) hb); (try clear hb)))
   go_ret
   exact ⟨ze, zb HB⟩
  ·rw [if_neg c9] at H
   exact absurd H (by simp)

/-! ### spec_l11Name: function 90 -/
-- thin
def spec_l11Name.f (k : Nat) (a0 : Int) (a1 : Int) (a2 : Int) (a3_0 : ByteArray) (a3_1 : ByteArray) (a3_2 : Bool) : Option (ByteArray) := if a0 > 0 then ((spec_l1Write.f k a0 a1 a2).bind fun t249 => (some t249)) else ((spec_l1Write.f k 0 a1 a2).bind fun t250 => ((spec_l2Write.f k a3_0).bind fun t251 => (if t250.size + t251.size ≤ 9223372036854775807 then (some (t250 ++ t251)) else (none))))
theorem spec_l11Name.mono : ∀ a0 a1 a2 a3 a4 a5 k, LeO (spec_l11Name.f k a0 a1 a2 a3 a4 a5) (spec_l11Name.f (k + 1) a0 a1 a2 a3 a4 a5) := by
 intro a0 a1 a2 a3 a4 a5 k
 unfold spec_l11Name.f
 repeat' first
   | (with_reducible exact spec_l1Write.mono _ _ _ _)
   | (with_reducible exact spec_l2Write.mono _ _)
   | (with_reducible exact LeO.refl _)
   | (with_reducible exact LeO.none _)
   | (with_reducible refine LeO.ite ?_ ?_)
   | (with_reducible refine LeO.bind ?_ (fun _ => ?_))
   | exact spec_l1Write.mono _ _ _ _
   | exact spec_l2Write.mono _ _
   | exact LeO.none _
   | refine LeO.ite ?_ ?_
   | refine LeO.bind ?_ (fun _ => ?_)
def spec_l11Name.T3 : Bool × List (List Nat × List Nat) := (true, [([], []), ([], []), ([0, 1], [0, 1]), ([], []), ([3], [3]), ([4, 2], [4]), ([2, 5], [2, 5]), ([6, 5, 0, 1, 2, 3, 4, 5, 6], [6])])
def spec_l11Name.B3 : List Nat := [0, 0, 3, 0, 8, 31, 63, 127]
theorem spec_l11Name.tab3 : rtab .any (opsOf Try.f90 3) = spec_l11Name.T3 := by kernel_rfl
theorem spec_l11Name.bits3 : waitsOk spec_l11Name.T3.2 spec_l11Name.B3 = true := by kernel_rfl
set_option maxHeartbeats 8000000 in
set_option maxRecDepth 100000 in
theorem spec_l11Name.calls (k : Nat) (a0 : Int) (a1 : Int) (a2 : Int) (a3_0 : ByteArray) (a3_1 : ByteArray) (a3_2 : Bool) (r : ByteArray) (w : World) (h : spec_l11Name.f k a0 a1 a2 a3_0 a3_1 a3_2 = some r) :
  Calls Try.prog 90 #[.int .i64 a0, .int .i64 a1, .int .i64 a2, .agg #[.string a3_0, .string a3_1, .bool a3_2]] w fun e w' => e = .returned (.string r) ∧ Below w.heap.size w w' := by
 have hu36 := Try.underlying36
 have HB := Aside0.mk (Below.refl w.heap.size w)
 have H : (if a0 > 0 then ((spec_l1Write.f k a0 a1 a2).bind fun t249 => (some t249)) else ((spec_l1Write.f k 0 a1 a2).bind fun t250 => ((spec_l2Write.f k a3_0).bind fun t251 => (if t250.size + t251.size ≤ 9223372036854775807 then (some (t250 ++ t251)) else (none))))) = some r := h
 clear h
 by_cases c5 : a0 > 0
 ·rw [if_pos c5] at H
  have c5b0 : decide (0 < a0) = true := decide_eq_true c5
  clear c5
  replace H := Option.bind_eq_some_iff.mp H
  obtain ⟨t249, A60, H⟩ := H
  replace H : (some t249) = some r := H
  have A6 := Aside0.mk A60
  clear A60
  obtain rfl := Option.some.inj H
  go_enter Try.func90, Try.ntmps90
  go_wp2_with (first | ((with_reducible refine gd 7 rfl ?_); refine bx (N := 7) (cs := #[.string a3_0, .string a3_1, .bool a3_2]) (t := 36) ?_; intro gb248 hg w7 hbox hb; have BK248 := Aside0.mk (hbox); have GW248 := Aside0.mk ((by rw [hg]; exact (below_size (zb HB)) : w.heap.size ≤ gb248)); have GE248 := Aside0.mk ((by rw [hg]; exact (below_size (zb HB)) : w.heap.size ≤ gb248)); replace HB := Aside0.mk (below_step (zb HB) hb); clear hb hbox hg) | ((with_reducible refine gq 92 rfl ?_); refine gl (some 14) Try.func92 #[.int .i64 a0, .int .i64 a1, .int .i64 a2] ?_; (with_reducible refine (spec_l1Write.calls k a0 a1 a2 t249 _ A6.out).mono ?_); rintro e w8 ⟨rfl, hb⟩; refine ⟨_, rfl, ?_⟩; replace BK248 := Aside0.mk (blk_below (g := gb248) (o := .cells #[.string a3_0, .string a3_1, .bool a3_2] 36 (0, 0)) (zk BK248) hb); replace HB := Aside0.mk (below_step (zb HB) hb); (try clear hb)))
  go_ret
  exact ⟨ze, zb HB⟩
 ·rw [if_neg c5] at H
  have c5b0 : decide (0 < a0) = false := decide_eq_false c5
  clear c5
  replace H := Option.bind_eq_some_iff.mp H
  obtain ⟨t250, A90, H⟩ := H
  replace H : ((spec_l2Write.f k a3_0).bind fun t251 => (if t250.size + t251.size ≤ 9223372036854775807 then (some (t250 ++ t251)) else (none))) = some r := H
  have A9 := Aside0.mk A90
  clear A90
  replace H := Option.bind_eq_some_iff.mp H
  obtain ⟨t251, A100, H⟩ := H
  replace H : (if t250.size + t251.size ≤ 9223372036854775807 then (some (t250 ++ t251)) else (none)) = some r := H
  have A10 := Aside0.mk A100
  clear A100
  by_cases c11 : t250.size + t251.size ≤ 9223372036854775807
  ·rw [if_pos c11] at H
   have c11b0 := eq_true c11
   have c11b1 : decide (t250.size + t251.size ≤ 9223372036854775807) = true := decide_eq_true c11
   try have c11b2 : (9223372036854775807 < t250.size + t251.size) = False := eq_false (Nat.not_lt.2 c11)
   obtain rfl := Option.some.inj H
   go_enter Try.func90, Try.ntmps90
   try go_wp2_with (first | ((with_reducible refine gd 7 rfl ?_); refine bx (N := 7) (cs := #[.string a3_0, .string a3_1, .bool a3_2]) (t := 36) ?_; intro gb248 hg w12 hbox hb; have BK248 := Aside0.mk (hbox); have GW248 := Aside0.mk ((by rw [hg]; exact (below_size (zb HB)) : w.heap.size ≤ gb248)); have GE248 := Aside0.mk ((by rw [hg]; exact (below_size (zb HB)) : w.heap.size ≤ gb248)); replace HB := Aside0.mk (below_step (zb HB) hb); clear hb hbox hg))
   replace BK248 := Aside0.mk (blk_drew BK248.out)
   replace HB := Aside0.mk (below_drew1 HB.out)
   refine start_ (n := 8) (S := fun w' => w'.cell? ⟨gb248, 0, none⟩ = some (.string a3_0) ∧ w'.cell? ⟨gb248, 1, none⟩ = some (.string a3_1) ∧ w'.cell? ⟨gb248, 2, none⟩ = some (.bool a3_2)) (ds := []) #[false, false, false, false, false, false, false, false] (by kernel_rfl) rfl rfl ⟨(blk_cell BK248.out 0).trans rfl, (blk_cell BK248.out 1).trans rfl, (blk_cell BK248.out 2).trans rfl⟩ (fun hHeld => ?_); refine with_tabW spec_l11Name.tab3 spec_l11Name.bits3 (fun HT_ HW_ => ?_)
   generalize w12.drew = w13 at BK248 HB hHeld ⊢
   refine pu 0 (some 15) (bm 8 1) rfl rfl ?_
   refine pu 1 (some 16) (bm 8 3) rfl rfl ?_
   refine pu 3 (some 18) (bm 8 11) rfl rfl ?_
   refine tk3 4 (some 19) (bm 8 27) rfl rfl hHeld ?_
   refine one_ (i := 2) (N := some 17) (bm 8 31) rfl rfl (one_of HT_.out (by kernel_rfl)) (by decide) (fun K hK => ?_)
   refine gs Try.func92 #[.int .i64 0, .int .i64 a1, .int .i64 a2] ?_
   with_reducible refine (spec_l1Write.calls k 0 a1 a2 t250 _ A9.out).mono ?_
   rintro e w14 ⟨rfl, hb⟩
   refine ⟨_, rfl, ?_⟩
   replace BK248 := Aside0.mk (blk_below (g := gb248) (o := .cells #[.string a3_0, .string a3_1, .bool a3_2] 36 (0, 0)) (zk BK248) hb)
   replace HB := Aside0.mk (below_step (zb HB) hb)
   (try clear hb)
   refine hK.out _ _ ⟨(blk_cell BK248.out 0).trans rfl, (blk_cell BK248.out 1).trans rfl, (blk_cell BK248.out 2).trans rfl⟩ (fun hHeld => ?_)
   clear hK K
   refine nm ?_
   refine one_ (i := 5) (N := some 20) (bm 8 63) rfl rfl (one_of HT_.out (by kernel_rfl)) (by decide) (fun K hK => ?_)
   refine gs Try.func91 #[.string a3_0] ?_
   with_reducible refine (spec_l2Write.calls k a3_0 t251 _ A10.out).mono ?_
   rintro e w15 ⟨rfl, hb⟩
   refine ⟨_, rfl, ?_⟩
   replace BK248 := Aside0.mk (blk_below (g := gb248) (o := .cells #[.string a3_0, .string a3_1, .bool a3_2] 36 (0, 0)) (zk BK248) hb)
   replace HB := Aside0.mk (below_step (zb HB) hb)
   (try clear hb)
   refine hK.out _ _ ⟨(blk_cell BK248.out 0).trans rfl, (blk_cell BK248.out 1).trans rfl, (blk_cell BK248.out 2).trans rfl⟩ (fun hHeld => ?_)
   clear hK K
   refine nm ?_
   refine pu 6 (some 21) (bm 8 127) rfl rfl ?_
   refine pu 7 (some 8) (bm 8 255) rfl rfl ?_
   refine done_ (done_of HT_.out (by kernel_rfl)) ?_
   try go_wp2
   go_ret
   exact ⟨ze, zb HB⟩
  ·rw [if_neg c11] at H
   exact absurd H (by simp)

end Go.Proofs.Ytdhahifdcoinhaa.PFnExactHeadWrite
