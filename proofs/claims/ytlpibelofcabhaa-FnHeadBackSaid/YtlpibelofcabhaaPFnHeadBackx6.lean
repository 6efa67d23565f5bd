-- WRITTEN BY a turned print (wip/tools of the prover's repo)
import Derived.Test.YtlpibelofcabhaaPFnHeadBackx0
import Derived.Test.YtlpibelofcabhaaPFnHeadBackx2
import Derived.Test.YtlpibelofcabhaaPFnHeadBackx3
import Derived.Test.YtlpibelofcabhaaPFnHeadBackx5
namespace Go.Proofs.Ytlpibelofcabhaa.PFnHeadBack
open Go.RowKit Go.Proofs.YtlpibelofcabhaaW.PrintWords Go.Proofs.YtlpibelofcabhaaW.PrintLast Go.Proofs.YtlpibelofcabhaaW.PrintMore Go.Proofs.Ytlpibelofcabhaa.Lm
attribute [local go_sem] max2_int min2_int max_two min_two max_three min_three max_four min_four   -- for this text's walks alone
set_option linter.unusedVariables false
set_option linter.unusedSimpArgs false

/-! ### spec_l2Pack: function 161 -/
-- thin
mutual
def spec_l2Pack.l0 : Nat → ByteArray → List Int → Int → Option (ByteArray)
 | 0, _, _, _ => none
 | k + 1, x0, x3, x4 => if x4 < (x0.size : Int) then (if 0 ≤ x4 then ((spec_l2Sign.f k (bt x0 x4)).bind fun t303 => (if t303 < 24 then ((spec_l2Bits.f k t303 5).bind fun t304 => (if x3.length + t304.length < 17592186044416 then (spec_l2Pack.l0 k x0 (x3 ++ t304) (wrap64 (x4 + 1))) else (none))) else ((spec_l2Bits.f k (wrap64 ((wrap64 (96 + t303)) - 24)) 7).bind fun t310 => (if x3.length + t310.length < 17592186044416 then (spec_l2Pack.l0 k x0 (x3 ++ t310) (wrap64 (x4 + 1))) else (none))))) else (none)) else (spec_l2Pack.l1 k x3)
def spec_l2Pack.l1 : Nat → List Int → Option (ByteArray)
 | 0, _ => none
 | k + 1, x3 => if ((x3.length : Int) % 8) > 0 then (if x3.length < 17592186044416 then (spec_l2Pack.l1 k (x3 ++ [1])) else (none)) else (spec_l2Pack.l2 k x3 (⟨#[]⟩ : ByteArray) 0)
def spec_l2Pack.l2 : Nat → List Int → ByteArray → Int → Option (ByteArray)
 | 0, _, _, _ => none
 | k + 1, x3, x6, x7 => if x7 < (x3.length : Int) then (if 0 ≤ x7 then (if x7 ≤ (wrap64 (x7 + 8)) then (if (wrap64 (x7 + 8)) ≤ (x3.length : Int) then ((spec_l2Num.f k ((x3.take ((wrap64 (x7 + 8)) : Int).toNat).drop (x7 : Int).toNat)).bind fun t323 => ((spec_l1Byte.f t323).bind fun t324 => (if x6.size + t324.size ≤ 9223372036854775807 then (spec_l2Pack.l2 k x3 (x6 ++ t324) (wrap64 (x7 + 8))) else (none)))) else (none)) else (none)) else (none)) else (some x6)
end
def spec_l2Pack.f (k : Nat) (a0 : ByteArray) : Option (ByteArray) := spec_l2Pack.l0 k a0 (([] : List Int)) 0
theorem spec_l2Pack.mono_l : ∀ k, (∀ y0 y1 y2, LeO (spec_l2Pack.l0 k y0 y1 y2) (spec_l2Pack.l0 (k + 1) y0 y1 y2)) ∧ (∀ y0, LeO (spec_l2Pack.l1 k y0) (spec_l2Pack.l1 (k + 1) y0)) ∧ (∀ y0 y1 y2, LeO (spec_l2Pack.l2 k y0 y1 y2) (spec_l2Pack.l2 (k + 1) y0 y1 y2))
 | 0 => ⟨fun _ _ _ r h => by simp [spec_l2Pack.l0] at h, fun _ r h => by simp [spec_l2Pack.l1] at h, fun _ _ _ r h => by simp [spec_l2Pack.l2] at h⟩
 | k + 1 => by
  obtain ⟨ih0, ih1, ih2⟩ := spec_l2Pack.mono_l k
  refine ⟨?_, ?_, ?_⟩
  ·intro y0 y1 y2
   unfold spec_l2Pack.l0
   have m0 := @spec_l2Bits.mono
   have m1 := @spec_l2Num.mono
   have m2 := @spec_l2Sign.mono
   exact zm
  ·intro y0
   unfold spec_l2Pack.l1
   have m0 := @spec_l2Bits.mono
   have m1 := @spec_l2Num.mono
   have m2 := @spec_l2Sign.mono
   exact zm
  ·intro y0 y1 y2
   unfold spec_l2Pack.l2
   have m0 := @spec_l2Bits.mono
   have m1 := @spec_l2Num.mono
   have m2 := @spec_l2Sign.mono
   exact zm
theorem spec_l2Pack.mono : ∀ a0 k, LeO (spec_l2Pack.f k a0) (spec_l2Pack.f (k + 1) a0) := by
 intro a0 k
 obtain ⟨ih0, ih1, ih2⟩ := spec_l2Pack.mono_l k
 unfold spec_l2Pack.f
 have m0 := @spec_l2Bits.mono
 have m1 := @spec_l2Num.mono
 have m2 := @spec_l2Sign.mono
 exact zm
set_option maxHeartbeats 8000000 in
set_option maxRecDepth 100000 in
theorem spec_l2Pack.calls (k : Nat) (a0 : ByteArray) (r : ByteArray) (w : World) (h : spec_l2Pack.f k a0 = some r) :
  Calls Try.prog 161 #[.string a0] w fun e w' => e = .returned (.string r) ∧ Below w.heap.size w w' := by
 have HB := Aside0.mk (Below.refl w.heap.size w)
 have H : (spec_l2Pack.l0 k a0 (([] : List Int)) 0) = some r := h
 clear h
 obtain ⟨y300, hy300⟩ : ∃ y_ : List Int, y_ = (([] : List Int)) := ⟨_, rfl⟩
 replace H : (spec_l2Pack.l0 k a0 y300 0) = some r := by first | (rw [hy300]; with_reducible exact H) | (have H2_ := (Option.bind_some _ _).symm.trans H; rw [hy300]; with_reducible exact H2_) | (have H2_ := (Option.bind_some _ _).symm.trans H; with_reducible exact H2_) | with_reducible exact H | (rw [hy300]; exact H) | exact H
 have Ny300 := Aside0.mk hy300
 clear hy300
 have H' := Aside0.mk H
 clear H
 go_enter Try.func161, Try.ntmps161
 go_wp2_with (first | ((with_reducible refine gd 8 rfl ?_); refine Kd.R_lit (Kd.int .i64) _ 3 ?hg (N := 8) ?hd (xs := ([] : List Int)) (inner := []) (ok := fun _ => True) (okp := fun _ => True) ?hr ?hp (fun _ hk => hk) trivial (Below.refl _ _) (Nat.le_refl _) (by simp) ?_; (case hd => rfl); (case hg => rfl); (case hr => first | (go_simp; done) | (go_simp; rfl)); (case hp => exact (Reps.none _ _)); intro v301 w2 ho3 hb hg_ hnew_; clear hg_ hnew_; (first | rw [← Ny300.out] at ho3 | (simp only [Int.reduceToNat] at ho3; rw [← Ny300.out] at ho3)); have HO302 := Aside0.mk (Kd.R_lower ho3 (below_size (zb HB))); replace HB := Aside0.mk (below_step (zb HB) hb); clear hb ho3))
 go_loopg [3, 4] k (fun kq v3 v4 w' => ∃ (x3_1 : List Int) (x4_1 : Int), v4 = .int .i64 x4_1 ∧ Aside0 (spec_l2Pack.l0 kq a0 x3_1 x4_1 = some r) ∧ Aside0 (kq ≤ k) ∧ Aside0 (Kd.R (Kd.int .i64) 3 w' w.heap.size (fun _ => True) v3 x3_1) ∧ Aside0 (Below w.heap.size w w'))
 case atStart => exact ⟨(y300), (0), zs, H', ⟨Nat.le_refl _⟩, ⟨by exact zr HO302⟩, ⟨zb HB⟩⟩
 case round =>
  clear H'
  try clear c1
  try clear p2
  obtain ⟨x3_1, x4_1, rfl, HA, HK1, HO_3, HB⟩ := hrel
  cases gk with
  | zero => exact absurd HA.out (by simp [spec_l2Pack.l0])
  | succ k1 =>
   have H := HA.out
   clear HA
   simp only [spec_l2Pack.l0] at H
   replace H := sp H
   rcases H with ⟨c4, H⟩ | ⟨c4, H⟩
   ·skip
    have c4b0 := decide_eq_true c4
    clear c4
    by_cases c5 : 0 ≤ x4_1
    ·rw [if_pos c5] at H
     have c5b0 := decide_eq_true c5
     clear c5
     obtain ⟨t303, A7, H⟩ := ob H
     (try dsimp only at H)
     by_cases c8 : t303 < 24
     ·rw [if_pos c8] at H
      have c8b0 := decide_eq_true c8
      clear c8
      obtain ⟨t304, A9, H⟩ := ob H
      (try dsimp only at H)
      by_cases c10 : x3_1.length + t304.length < 17592186044416
      ·rw [if_pos c10] at H
       have LMc10 := Aside0.mk c10
       clear c10
       obtain ⟨y307, hy307⟩ : ∃ y_ : List Int, y_ = (x3_1 ++ t304) := ⟨_, rfl⟩
       replace H : (spec_l2Pack.l0 k1 a0 y307 (wrap64 (x4_1 + 1))) = some r := by first | (rw [hy307]; with_reducible exact H) | (have H2_ := (Option.bind_some _ _).symm.trans H; rw [hy307]; with_reducible exact H2_) | (have H2_ := (Option.bind_some _ _).symm.trans H; with_reducible exact H2_) | with_reducible exact H | (rw [hy307]; exact H) | exact H
       have Ny307 := Aside0.mk hy307
       clear hy307
       have H' := Aside0.mk H
       clear H
       have p6 : 0 ≤ (x4_1 : Int) := of_decide_eq_true za
       have q6 : x4_1 < (a0.size : Int) := of_decide_eq_true za
       have hx6 := bt_at a0 x4_1
       replace p6 := eq_true p6
       replace q6 := eq_true q6
       go_wp2_with (first | ((with_reducible refine gq 150 rfl ?_); refine gl (some 18) Try.func150 #[.int .u8 (bt a0 x4_1)] ?_; (with_reducible refine (spec_l2Sign.calls k1 (bt a0 x4_1) t303 _ A7.out).mono ?_); rintro e w' ⟨rfl, ⟨nd, rfl⟩⟩; refine ⟨_, rfl, ?_⟩) | ((with_reducible refine gq 169 rfl ?_); refine gl (some 23) Try.func169 #[.int .i64 t303, .int .i64 5] ?_; (with_reducible refine (spec_l2Bits.calls k1 t303 5 t304 _ A9.out).mono ?_); rintro e w11 ⟨v305, rfl, ho0, hb⟩; refine ⟨_, rfl, ?_⟩; have HO306 := Aside0.mk (Kd.R_lower (Kd.R_new' ho0 (Kd.R_lt (zr HO_3))) (below_size (zb HB))); replace HO_3 := Aside0.mk (Kd.R_elder' (zr HO_3) (Kd.R_base ho0) hb); replace HB := Aside0.mk (below_step (zb HB) hb); (try clear hb); (try clear ho0); obtain ⟨Ao13, co13, eo13⟩ := Kd.R_slice HO306.out; subst eo13) | ((with_reducible refine gate_builtin (b := .append) (xs := #[.tmp 21, .tmp 23]) rfl ?_); at_builtin; refine Kd.R_append_rows (Kd.int .i64) (w0 := w) w.heap.size rfl (.tmp 21) (.tmp 23) 140 3 (.int .i64 0) 8 rfl Try.underlying140 info3 rfl (by decide) (by omega) u3 x3_1 t304 _ _ _ (fun k_ => some k_ ≠ (.slice Ao13 t304.length co13 : Value).ownBlock) (fun _ => False) rfl rfl ?aO ?aR (fun _ _ h => h) (fun _ h => h.elim) ?aF ?aB ?aS ?aL ?_; (case aR => exact zc (Kd.R_reads' HO306.out).2.2); (case aB => exact (zb HB)); (case aF => exact (fun k_ hk => Kd.fresh' (Kd.R_lt (zr HO306)) k_ hk)); (case aO => exact (by (with_reducible repeat (first | apply Kd.R_alloc | apply Kd.R_drewN | apply Kd.R_drew)); exact Kd.R_mono HO_3.out (fun _ hk => hk.2))); (case aS => exact (below_size (zb HB))); (case aL => have := LMc10.out; omega); intro v308 w12 ho hb hg hat; rw [← Ny307.out] at ho; replace HO306 := Aside0.mk (Kd.R_after (ok := (fun _ => True)) (zr HO306) hg hat); replace HB := Aside0.mk (hb); have HO309 := Aside0.mk (ho); clear HO_3; clear ho hb hg hat))
       go_roundg k1
       case measure => have := HK1.out; omega
       case rel => exact ⟨(y307), (wrap64 (x4_1 + 1)), zs, H', ⟨by have := HK1.out; omega⟩, ⟨by (with_reducible repeat (first | apply Kd.R_alloc | apply Kd.R_drewN | apply Kd.R_drew)); exact Kd.R_mono HO309.out (fun _ hk => trivial)⟩, ⟨zb HB⟩⟩
      ·rw [if_neg c10] at H
       exact absurd H (by simp)
     ·rw [if_neg c8] at H
      have c8b0 := decide_eq_false c8
      clear c8
      obtain ⟨t310, A14, H⟩ := ob H
      (try dsimp only at H)
      by_cases c15 : x3_1.length + t310.length < 17592186044416
      ·rw [if_pos c15] at H
       have LMc15 := Aside0.mk c15
       clear c15
       obtain ⟨y313, hy313⟩ : ∃ y_ : List Int, y_ = (x3_1 ++ t310) := ⟨_, rfl⟩
       replace H : (spec_l2Pack.l0 k1 a0 y313 (wrap64 (x4_1 + 1))) = some r := by first | (rw [hy313]; with_reducible exact H) | (have H2_ := (Option.bind_some _ _).symm.trans H; rw [hy313]; with_reducible exact H2_) | (have H2_ := (Option.bind_some _ _).symm.trans H; with_reducible exact H2_) | with_reducible exact H | (rw [hy313]; exact H) | exact H
       have Ny313 := Aside0.mk hy313
       clear hy313
       have H' := Aside0.mk H
       clear H
       have p6 : 0 ≤ (x4_1 : Int) := of_decide_eq_true za
       have q6 : x4_1 < (a0.size : Int) := of_decide_eq_true za
       have hx6 := bt_at a0 x4_1
       replace p6 := eq_true p6
       replace q6 := eq_true q6
       go_wp2_with (first | ((with_reducible refine gq 150 rfl ?_); refine gl (some 18) Try.func150 #[.int .u8 (bt a0 x4_1)] ?_; (with_reducible refine (spec_l2Sign.calls k1 (bt a0 x4_1) t303 _ A7.out).mono ?_); rintro e w' ⟨rfl, ⟨nd, rfl⟩⟩; refine ⟨_, rfl, ?_⟩) | ((with_reducible refine gq 169 rfl ?_); refine gl (some 29) Try.func169 #[.int .i64 (wrap64 ((wrap64 (96 + t303)) - 24)), .int .i64 7] ?_; (with_reducible refine (spec_l2Bits.calls k1 (wrap64 ((wrap64 (96 + t303)) - 24)) 7 t310 _ A14.out).mono ?_); rintro e w16 ⟨v311, rfl, ho0, hb⟩; refine ⟨_, rfl, ?_⟩; have HO312 := Aside0.mk (Kd.R_lower (Kd.R_new' ho0 (Kd.R_lt (zr HO_3))) (below_size (zb HB))); replace HO_3 := Aside0.mk (Kd.R_elder' (zr HO_3) (Kd.R_base ho0) hb); replace HB := Aside0.mk (below_step (zb HB) hb); (try clear hb); (try clear ho0); obtain ⟨Ao18, co18, eo18⟩ := Kd.R_slice HO312.out; subst eo18) | ((with_reducible refine gate_builtin (b := .append) (xs := #[.tmp 25, .tmp 29]) rfl ?_); at_builtin; refine Kd.R_append_rows (Kd.int .i64) (w0 := w) w.heap.size rfl (.tmp 25) (.tmp 29) 140 3 (.int .i64 0) 8 rfl Try.underlying140 info3 rfl (by decide) (by omega) u3 x3_1 t310 _ _ _ (fun k_ => some k_ ≠ (.slice Ao18 t310.length co18 : Value).ownBlock) (fun _ => False) rfl rfl ?aO ?aR (fun _ _ h => h) (fun _ h => h.elim) ?aF ?aB ?aS ?aL ?_; (case aR => exact zc (Kd.R_reads' HO312.out).2.2); (case aB => exact (zb HB)); (case aF => exact (fun k_ hk => Kd.fresh' (Kd.R_lt (zr HO312)) k_ hk)); (case aO => exact (by (with_reducible repeat (first | apply Kd.R_alloc | apply Kd.R_drewN | apply Kd.R_drew)); exact Kd.R_mono HO_3.out (fun _ hk => hk.2))); (case aS => exact (below_size (zb HB))); (case aL => have := LMc15.out; omega); intro v314 w17 ho hb hg hat; rw [← Ny313.out] at ho; replace HO312 := Aside0.mk (Kd.R_after (ok := (fun _ => True)) (zr HO312) hg hat); replace HB := Aside0.mk (hb); have HO315 := Aside0.mk (ho); clear HO_3; clear ho hb hg hat))
       go_roundg k1
       case measure => have := HK1.out; omega
       case rel => exact ⟨(y313), (wrap64 (x4_1 + 1)), zs, H', ⟨by have := HK1.out; omega⟩, ⟨by (with_reducible repeat (first | apply Kd.R_alloc | apply Kd.R_drewN | apply Kd.R_drew)); exact Kd.R_mono HO315.out (fun _ hk => trivial)⟩, ⟨zb HB⟩⟩
      ·rw [if_neg c15] at H
       exact absurd H (by simp)
    ·rw [if_neg c5] at H
     exact absurd H (by simp)
   ·skip
    have c4b0 := decide_eq_false c4
    clear c4
    have H' := Aside0.mk H
    clear H
    go_wp2
    go_loopg [3] k1 (fun kq v3 w' => ∃ (x3_2 : List Int), Aside0 (spec_l2Pack.l1 kq x3_2 = some r) ∧ Aside0 (kq ≤ k1) ∧ Aside0 (Kd.R (Kd.int .i64) 3 w' w.heap.size (fun _ => True) v3 x3_2) ∧ Aside0 (Below w.heap.size w w'))
    case atStart => exact ⟨(x3_1), H', ⟨Nat.le_refl _⟩, ⟨by exact zr HO_3⟩, ⟨zb HB⟩⟩
    case round =>
     clear H'
     try clear c1
     try clear p2
     try clear c4
     try clear c4b0
     try clear c5
     try clear c5b0
     try clear p6
     try clear q6
     try clear hx6
     try clear c8
     try clear c8b0
     try clear c10
     try clear c15
     try clear c16
     try clear p2
     try clear p6
     try clear q6
     obtain ⟨x3_2, HA, HK2, HO_3, HB⟩ := hrel
     cases gk with
     | zero => exact absurd HA.out (by simp [spec_l2Pack.l1])
     | succ k2 =>
      have H := HA.out
      clear HA
      simp only [spec_l2Pack.l1] at H
      replace H := sp H
      rcases H with ⟨c19, H⟩ | ⟨c19, H⟩
      ·skip
       have c19b0 := decide_eq_true c19
       clear c19
       by_cases c20 : x3_2.length < 17592186044416
       ·rw [if_pos c20] at H
        have LMc20 := Aside0.mk c20
        clear c20
        obtain ⟨y316, hy316⟩ : ∃ y_ : List Int, y_ = (x3_2 ++ [1]) := ⟨_, rfl⟩
        replace H : (spec_l2Pack.l1 k2 y316) = some r := by first | (rw [hy316]; with_reducible exact H) | (have H2_ := (Option.bind_some _ _).symm.trans H; rw [hy316]; with_reducible exact H2_) | (have H2_ := (Option.bind_some _ _).symm.trans H; with_reducible exact H2_) | with_reducible exact H | (rw [hy316]; exact H) | exact H
        have Ny316 := Aside0.mk hy316
        clear hy316
        have H' := Aside0.mk H
        clear H
        obtain ⟨Ao21, co21, eo21⟩ := Kd.R_slice HO_3.out
        subst eo21
        go_wp2_with (first | ((with_reducible refine gate_builtin (b := .append) (xs := #[.tmp 35, .tmp 36]) rfl ?_); at_builtin; refine Kd.R_append (Kd.int .i64) (w0 := w) w.heap.size rfl (.tmp 35) (.tmp 36) 140 3 (.int .i64 0) 8 rfl Try.underlying140 info3 rfl (by decide) (by omega) (.slice Ao21 x3_2.length co21) x3_2 1 [.int .i64 1] (fun _ => True) (fun _ => False) rfl rfl ?aP (fun _ hk => hk.elim) ?aF ?aO ?aB ?aS ?aL ?_; (case aP => exact rfl); (case aB => exact (zb HB)); (case aF => exact (fun _ _ => trivial)); (case aO => exact (zr HO_3)); (case aS => exact (below_size (zb HB))); (case aL => have := LMc20.out; omega); intro v317 w22 ho hb hg hat; rw [← Ny316.out] at ho; replace HB := Aside0.mk (hb); have HO318 := Aside0.mk (ho); clear HO_3; clear ho hb hg hat))
        go_roundg k2
        case measure => have := HK1.out; have := HK2.out; omega
        case rel => exact ⟨(y316), H', ⟨by have := HK1.out; have := HK2.out; omega⟩, ⟨by exact zr HO318⟩, ⟨zb HB⟩⟩
       ·rw [if_neg c20] at H
        exact absurd H (by simp)
      ·skip
       have c19b0 := decide_eq_false c19
       clear c19
       have H' := Aside0.mk H
       clear H
       obtain ⟨Ao23, co23, eo23⟩ := Kd.R_slice HO_3.out
       subst eo23
       go_wp2
       go_loopg [6, 7] k2 (fun kq v6 v7 w' => ∃ (x6_3 : ByteArray) (x7_3 : Int), v6 = .string x6_3 ∧ v7 = .int .i64 x7_3 ∧ Aside0 (spec_l2Pack.l2 kq x3_2 x6_3 x7_3 = some r) ∧ Aside0 (kq ≤ k2) ∧ Aside0 (Kd.R (Kd.int .i64) 3 w' w.heap.size (fun _ => True) (.slice Ao23 x3_2.length co23) x3_2) ∧ Aside0 (Below w.heap.size w w'))
       case atStart => exact ⟨((⟨#[]⟩ : ByteArray)), (0), zs, zs, H', ⟨Nat.le_refl _⟩, ⟨by exact zr HO_3⟩, ⟨zb HB⟩⟩
       case round =>
        clear H'
        try clear c1
        try clear c2
        try clear p2
        try clear c4
        try clear c4b0
        try clear c5
        try clear c5b0
        try clear p6
        try clear q6
        try clear hx6
        try clear c8
        try clear c8b0
        try clear c10
        try clear c15
        try clear c16
        try clear c19
        try clear c19b0
        try clear c20
        try clear p2
        try clear p6
        try clear q6
        obtain ⟨x6_3, x7_3, rfl, rfl, HA, HK3, HO_3, HB⟩ := hrel
        cases gk with
        | zero => exact absurd HA.out (by simp [spec_l2Pack.l2])
        | succ k3 =>
         have H := HA.out
         clear HA
         simp only [spec_l2Pack.l2] at H
         replace H := sp H
         rcases H with ⟨c24, H⟩ | ⟨c24, H⟩
         ·skip
          have c24b0 := decide_eq_true c24
          clear c24
          by_cases c25 : 0 ≤ x7_3
          ·rw [if_pos c25] at H
           have c25b0 := eq_true c25
           have c25b1 := decide_eq_true c25
           clear c25
           by_cases c26 : x7_3 ≤ (wrap64 (x7_3 + 8))
           ·rw [if_pos c26] at H
            have c26b0 := eq_true c26
            have c26b1 := decide_eq_true c26
            by_cases c27 : (wrap64 (x7_3 + 8)) ≤ (x3_2.length : Int)
            ·rw [if_pos c27] at H
             have c27b0 := eq_true c27
             have c27b1 := decide_eq_true c27
             obtain ⟨y319, hy319⟩ : ∃ y_ : List Int, y_ = ((x3_2.take ((wrap64 (x7_3 + 8)) : Int).toNat).drop (x7_3 : Int).toNat) := ⟨_, rfl⟩
             replace H : ((spec_l2Num.f k3 y319).bind fun t323 => ((spec_l1Byte.f t323).bind fun t324 => (if x6_3.size + t324.size ≤ 9223372036854775807 then (spec_l2Pack.l2 k3 x3_2 (x6_3 ++ t324) (wrap64 (x7_3 + 8))) else (none)))) = some r := by first | (rw [hy319]; with_reducible exact H) | (have H2_ := (Option.bind_some _ _).symm.trans H; rw [hy319]; with_reducible exact H2_) | (have H2_ := (Option.bind_some _ _).symm.trans H; with_reducible exact H2_) | with_reducible exact H | (rw [hy319]; exact H) | exact H
             have Ny319 := Aside0.mk hy319
             clear hy319
             obtain ⟨t323, A28, H⟩ := ob H
             (try dsimp only at H)
             obtain ⟨t324, A29, H⟩ := ob H
             (try dsimp only at H)
             by_cases c30 : x6_3.size + t324.size ≤ 9223372036854775807
             ·rw [if_pos c30] at H
              have c30b0 := eq_true c30
              have c30b1 := decide_eq_true c30
              try have c30b2 : (9223372036854775807 < x6_3.size + t324.size) = False := eq_false (Nat.not_lt.2 c30)
              have H' := Aside0.mk H
              clear H
              have q31 : ((wrap64 (x7_3 + 8)) : Int) ≤ ((x3_2.length : Int) : Int) := of_decide_eq_true za
              obtain ⟨i031, hi031, _, hsz31, _⟩ := info_parts info3
              have hroom31 : x3_2.length ≤ co23 := (Kd.R_reads' HO_3.out).2.1
              have hC31 : Kd.C (Kd.int .i64) _ Ao23 x3_2.length x3_2 := (Kd.R_reads' HO_3.out).2.2
              have ql31 : (x7_3 : Int) ≤ ((wrap64 (x7_3 + 8)) : Int) := of_decide_eq_true za
              have q031 : (0 : Int) ≤ (x7_3 : Int) := of_decide_eq_true za
              have hcut31 := cut_mid (P := Try.prog) 140 3 .i64 .i64 Try.underlying140 hi031 1 hsz31 Ao23 x3_2.length co23 x7_3 (wrap64 (x7_3 + 8)) q031 ql31 q31 hroom31
              have hr31 := Kd.C_mid (lo := (x7_3 : Int).toNat) (hi := ((wrap64 (x7_3 + 8)) : Int).toNat) (c := co23) hC31 (by omega) (by omega) hroom31
              obtain ⟨A31, hA31⟩ : ∃ A1, A1 = (if co23 = (x7_3 : Int).toNat then Ao23 else (Ao23 : Option Addr).map (·.add ((x7_3 : Int).toNat * 1))) := ⟨_, rfl⟩
              obtain ⟨c31, hc31⟩ : ∃ c1, c1 = co23 - (x7_3 : Int).toNat := ⟨_, rfl⟩
              have hy31 : y319.length = ((wrap64 (x7_3 + 8)) : Int).toNat - (x7_3 : Int).toNat := (by rw [Ny319.out, List.length_drop, List.length_take] <;> omega)
              rw [show ((x3_2).take ((wrap64 (x7_3 + 8)) : Int).toNat).drop (x7_3 : Int).toNat = y319 from Ny319.out.symm] at hr31
              replace hr31 : Kd.C (Kd.int .i64) _ A31 y319.length y319 := (by rw [hA31]; exact hr31)
              rw [← hy31, ← hA31, ← hc31] at hcut31
              have HR322 := Aside0.mk hr31
              have HC322 := Aside0.mk (show y319.length ≤ c31 from by rw [hy31, hc31]; exact Nat.sub_le_sub_right (Nat.le_trans (by omega) hroom31) _)
              clear hr31 hC31 hroom31 hi031 hsz31 hc31
              have KY31 := Aside0.mk hy31
              have KA31 := Aside0.mk hA31
              clear hy31 hA31
              have KL31 := Aside0.mk (show ((wrap64 (x7_3 + 8)) : Int).toNat ≤ x3_2.length from by omega)
              have KM31 := Aside0.mk (show (x7_3 : Int).toNat ≤ ((wrap64 (x7_3 + 8)) : Int).toNat from by omega)
              replace q31 := eq_true q31
              go_wp2_with (first | ((with_reducible refine gq 170 rfl ?_); refine gl (some 50) Try.func170 #[.slice A31 y319.length c31] ?_; (with_reducible refine (spec_l2Num.calls k3 _ _ y319 t323 _ ?side1 ?side2 A28.out).mono ?_); (case side1 => exact zc HR322.out); (case side2 => exact HC322.out); rintro e w' ⟨rfl, ⟨nd, rfl⟩⟩; refine ⟨_, rfl, ?_⟩) | ((with_reducible refine gq 158 rfl ?_); refine gl (some 51) Try.func158 #[.int .i64 t323] ?_; (with_reducible refine (spec_l1Byte.calls t323 t324 _ A29.out).mono ?_); rintro e w32 ⟨rfl, hb⟩; refine ⟨_, rfl, ?_⟩; replace HO_3 := Aside0.mk (Kd.R_below (zr HO_3) hb); replace HR322 := Aside0.mk (Kd.C_below (zc HR322.out) hb); replace HB := Aside0.mk (below_step (zb HB) hb); (try clear hb)))
              go_roundg k3
              case measure => have := HK1.out; have := HK2.out; have := HK3.out; omega
              case rel => exact ⟨(x6_3 ++ t324), (wrap64 (x7_3 + 8)), zs, zs, H', ⟨by have := HK1.out; have := HK2.out; have := HK3.out; omega⟩, ⟨by exact zr HO_3⟩, ⟨zb HB⟩⟩
             ·rw [if_neg c30] at H
              exact absurd H (by simp)
            ·rw [if_neg c27] at H
             exact absurd H (by simp)
           ·rw [if_neg c26] at H
            exact absurd H (by simp)
          ·rw [if_neg c25] at H
           exact absurd H (by simp)
         ·skip
          have c24b0 := decide_eq_false c24
          clear c24
          obtain rfl := Option.some.inj H
          go_wp2
          go_ret
          exact ⟨ze, zb HB⟩

/-! ### spec_l2Write: function 144 -/
-- thin
def spec_l2Write.f (k : Nat) (a0 : ByteArray) : Option (ByteArray) := (spec_l2Pack.f k a0).bind fun t325 => (if (t325.size : Int) < (a0.size : Int) then ((spec_l1Write.f k (t325.size : Int) 7 1).bind fun t326 => (if t326.size + t325.size ≤ 9223372036854775807 then (some (t326 ++ t325)) else (none))) else ((spec_l1Write.f k (a0.size : Int) 7 0).bind fun t327 => (if t327.size + a0.size ≤ 9223372036854775807 then (some (t327 ++ a0)) else (none))))
theorem spec_l2Write.mono : ∀ a0 k, LeO (spec_l2Write.f k a0) (spec_l2Write.f (k + 1) a0) := by
 intro a0 k
 unfold spec_l2Write.f
 have m0 := @spec_l1Write.mono
 have m1 := @spec_l2Pack.mono
 exact zm
set_option maxHeartbeats 8000000 in
set_option maxRecDepth 100000 in
theorem spec_l2Write.calls (k : Nat) (a0 : ByteArray) (r : ByteArray) (w : World) (h : spec_l2Write.f k a0 = some r) :
  Calls Try.prog 144 #[.string a0] w fun e w' => e = .returned (.string r) ∧ Below w.heap.size w w' := by
 have HB := Aside0.mk (Below.refl w.heap.size w)
 have H : ((spec_l2Pack.f k a0).bind fun t325 => (if (t325.size : Int) < (a0.size : Int) then ((spec_l1Write.f k (t325.size : Int) 7 1).bind fun t326 => (if t326.size + t325.size ≤ 9223372036854775807 then (some (t326 ++ t325)) else (none))) else ((spec_l1Write.f k (a0.size : Int) 7 0).bind fun t327 => (if t327.size + a0.size ≤ 9223372036854775807 then (some (t327 ++ a0)) else (none))))) = some r := h
 clear h
 obtain ⟨t325, A2, H⟩ := ob H
 (try dsimp only at H)
 replace H := sp H
 rcases H with ⟨c3, H⟩ | ⟨c3, H⟩
 ·skip
  have c3b0 := decide_eq_true c3
  have c3b1 := decide_eq_true (Int.ofNat_lt.mp c3)
  clear c3
  obtain ⟨t326, A4, H⟩ := ob H
  (try dsimp only at H)
  by_cases c5 : t326.size + t325.size ≤ 9223372036854775807
  ·rw [if_pos c5] at H
   have c5b0 := eq_true c5
   have c5b1 := decide_eq_true c5
   try have c5b2 : (9223372036854775807 < t326.size + t325.size) = False := eq_false (Nat.not_lt.2 c5)
   obtain rfl := Option.some.inj H
   go_enter Try.func144, Try.ntmps144
   go_wp2_with (first | ((with_reducible refine gq 161 rfl ?_); refine gl (some 5) Try.func161 #[.string a0] ?_; (with_reducible refine (spec_l2Pack.calls k a0 t325 _ A2.out).mono ?_); rintro e w6 ⟨rfl, hb⟩; refine ⟨_, rfl, ?_⟩; replace HB := Aside0.mk (below_step (zb HB) hb); (try clear hb)) | ((with_reducible refine gq 145 rfl ?_); refine gl (some 13) Try.func145 #[.int .i64 (t325.size : Int), .int .i64 7, .int .i64 1] ?_; (with_reducible refine (spec_l1Write.calls k (t325.size : Int) 7 1 t326 _ A4.out).mono ?_); rintro e w7 ⟨rfl, hb⟩; refine ⟨_, rfl, ?_⟩; replace HB := Aside0.mk (below_step (zb HB) hb); (try clear hb)))
   go_ret
   exact ⟨ze, zb HB⟩
  ·rw [if_neg c5] at H
   exact absurd H (by simp)
 ·skip
  have c3b0 := decide_eq_false c3
  have c3b1 := decide_eq_false (fun h => c3 (Int.ofNat_lt.mpr h))
  clear c3
  obtain ⟨t327, A8, H⟩ := ob H
  (try dsimp only at H)
  replace H := sp H
  rcases H with ⟨c9, H⟩ | ⟨c9, H⟩
  ·skip
   have c9b0 := eq_true c9
   have c9b1 := decide_eq_true c9
   try have c9b2 : (9223372036854775807 < t327.size + a0.size) = False := eq_false (Nat.not_lt.2 c9)
   obtain rfl := Option.some.inj H
   go_enter Try.func144, Try.ntmps144
   go_wp2_with (first | ((with_reducible refine gq 161 rfl ?_); refine gl (some 5) Try.func161 #[.string a0] ?_; (with_reducible refine (spec_l2Pack.calls k a0 t325 _ A2.out).mono ?_); rintro e w10 ⟨rfl, hb⟩; refine ⟨_, rfl, ?_⟩; replace HB := Aside0.mk (below_step (zb HB) hb); (try clear hb)) | ((with_reducible refine gq 145 rfl ?_); refine gl (some 18) Try.func145 #[.int .i64 (a0.size : Int), .int .i64 7, .int .i64 0] ?_; (with_reducible refine (spec_l1Write.calls k (a0.size : Int) 7 0 t327 _ A8.out).mono ?_); rintro e w11 ⟨rfl, hb⟩; refine ⟨_, rfl, ?_⟩; replace HB := Aside0.mk (below_step (zb HB) hb); (try clear hb)))
   go_ret
   exact ⟨ze, zb HB⟩
  ·skip
   exact absurd H (by simp)

/-! ### spec_l11Name: function 143 -/
-- thin
def spec_l11Name.f (k : Nat) (a0 : Int) (a1 : Int) (a2 : Int) (a3_0 : ByteArray) (a3_1 : ByteArray) (a3_2 : Bool) : Option (ByteArray) := if a0 > 0 then ((spec_l1Write.f k a0 a1 a2).bind fun t329 => (some t329)) else ((spec_l1Write.f k 0 a1 a2).bind fun t330 => ((spec_l2Write.f k a3_0).bind fun t331 => (if t330.size + t331.size ≤ 9223372036854775807 then (some (t330 ++ t331)) else (none))))
theorem spec_l11Name.mono : ∀ a0 a1 a2 a3 a4 a5 k, LeO (spec_l11Name.f k a0 a1 a2 a3 a4 a5) (spec_l11Name.f (k + 1) a0 a1 a2 a3 a4 a5) := by
 intro a0 a1 a2 a3 a4 a5 k
 unfold spec_l11Name.f
 have m0 := @spec_l1Write.mono
 have m1 := @spec_l2Write.mono
 exact zm
def spec_l11Name.T3 : Bool × List (List Nat × List Nat) := (true, [([], []), ([], []), ([0, 1], [0, 1]), ([], []), ([3], [3]), ([4, 2], [4]), ([2, 5], [2, 5]), ([6, 5, 0, 1, 2, 3, 4, 5, 6], [6])])
def spec_l11Name.B3 : List Nat := [0, 0, 3, 0, 8, 31, 63, 127]
theorem spec_l11Name.tab3 : rtab .any (opsOf Try.f143 3) = spec_l11Name.T3 := by kernel_rfl
theorem spec_l11Name.bits3 : waitsOk spec_l11Name.T3.2 spec_l11Name.B3 = true := by kernel_rfl
set_option maxHeartbeats 8000000 in
set_option maxRecDepth 100000 in
theorem spec_l11Name.calls (k : Nat) (a0 : Int) (a1 : Int) (a2 : Int) (a3_0 : ByteArray) (a3_1 : ByteArray) (a3_2 : Bool) (r : ByteArray) (w : World) (h : spec_l11Name.f k a0 a1 a2 a3_0 a3_1 a3_2 = some r) :
  Calls Try.prog 143 #[.int .i64 a0, .int .i64 a1, .int .i64 a2, .agg #[.string a3_0, .string a3_1, .bool a3_2]] w fun e w' => e = .returned (.string r) ∧ Below w.heap.size w w' := by
 have hu88 := Try.underlying88
 have HB := Aside0.mk (Below.refl w.heap.size w)
 have H : (if a0 > 0 then ((spec_l1Write.f k a0 a1 a2).bind fun t329 => (some t329)) else ((spec_l1Write.f k 0 a1 a2).bind fun t330 => ((spec_l2Write.f k a3_0).bind fun t331 => (if t330.size + t331.size ≤ 9223372036854775807 then (some (t330 ++ t331)) else (none))))) = some r := h
 clear h
 replace H := sp H
 rcases H with ⟨c5, H⟩ | ⟨c5, H⟩
 ·skip
  have c5b0 := decide_eq_true c5
  clear c5
  obtain ⟨t329, A6, H⟩ := ob H
  (try dsimp only at H)
  obtain rfl := Option.some.inj H
  go_enter Try.func143, Try.ntmps143
  go_wp2_with (first | ((with_reducible refine gd 7 rfl ?_); refine bx (N := 7) (cs := #[.string a3_0, .string a3_1, .bool a3_2]) (t := 88) ?_; intro gb328 hg w7 hbox hb; have BK328 := Aside0.mk (hbox); have GW328 := gw HB hg; have GE328 := GW328; replace HB := Aside0.mk (below_step (zb HB) hb); clear hb hbox hg) | ((with_reducible refine gq 145 rfl ?_); refine gl (some 14) Try.func145 #[.int .i64 a0, .int .i64 a1, .int .i64 a2] ?_; (with_reducible refine (spec_l1Write.calls k a0 a1 a2 t329 _ A6.out).mono ?_); rintro e w8 ⟨rfl, hb⟩; refine ⟨_, rfl, ?_⟩; replace BK328 := kb BK328 hb; replace HB := Aside0.mk (below_step (zb HB) hb); (try clear hb)))
  go_ret
  exact ⟨ze, zb HB⟩
 ·skip
  have c5b0 := decide_eq_false c5
  clear c5
  obtain ⟨t330, A9, H⟩ := ob H
  (try dsimp only at H)
  obtain ⟨t331, A10, H⟩ := ob H
  (try dsimp only at H)
  replace H := sp H
  rcases H with ⟨c11, H⟩ | ⟨c11, H⟩
  ·skip
   have c11b0 := eq_true c11
   have c11b1 := decide_eq_true c11
   try have c11b2 : (9223372036854775807 < t330.size + t331.size) = False := eq_false (Nat.not_lt.2 c11)
   obtain rfl := Option.some.inj H
   go_enter Try.func143, Try.ntmps143
   try go_wp2_with (first | ((with_reducible refine gd 7 rfl ?_); refine bx (N := 7) (cs := #[.string a3_0, .string a3_1, .bool a3_2]) (t := 88) ?_; intro gb328 hg w12 hbox hb; have BK328 := Aside0.mk (hbox); have GW328 := gw HB hg; have GE328 := GW328; replace HB := Aside0.mk (below_step (zb HB) hb); clear hb hbox hg))
   replace BK328 := Aside0.mk (blk_drew BK328.out)
   replace HB := Aside0.mk (below_drew1 HB.out)
   refine start_ (n := 8) (S := fun w' => w'.cell? ⟨gb328, 0, none⟩ = some (.string a3_0) ∧ w'.cell? ⟨gb328, 1, none⟩ = some (.string a3_1) ∧ w'.cell? ⟨gb328, 2, none⟩ = some (.bool a3_2)) (ds := []) #[false, false, false, false, false, false, false, false] (by kernel_rfl) rfl rfl ⟨(blk_cell BK328.out 0).trans rfl, (blk_cell BK328.out 1).trans rfl, (blk_cell BK328.out 2).trans rfl⟩ (fun hHeld => ?_); refine with_tabW spec_l11Name.tab3 spec_l11Name.bits3 (fun HT_ HW_ => ?_)
   generalize w12.drew = w13 at BK328 HB hHeld ⊢
   refine pu 0 (some 15) (bm 8 1) rfl rfl ?_
   refine pu 1 (some 16) (bm 8 3) rfl rfl ?_
   refine pu 3 (some 18) (bm 8 11) rfl rfl ?_
   refine tk 4 (some 19) (bm 8 27) rfl rfl hHeld ?_
   refine one_ (i := 2) (N := some 17) (bm 8 31) rfl rfl (one_of HT_.out (by kernel_rfl)) (by decide) (fun K hK => ?_)
   refine gs Try.func145 #[.int .i64 0, .int .i64 a1, .int .i64 a2] ?_
   with_reducible refine (spec_l1Write.calls k 0 a1 a2 t330 _ A9.out).mono ?_
   rintro e w14 ⟨rfl, hb⟩
   refine ⟨_, rfl, ?_⟩
   replace BK328 := kb BK328 hb
   replace HB := Aside0.mk (below_step (zb HB) hb)
   (try clear hb)
   refine hK.out _ _ ⟨(blk_cell BK328.out 0).trans rfl, (blk_cell BK328.out 1).trans rfl, (blk_cell BK328.out 2).trans rfl⟩ (fun hHeld => ?_)
   clear hK K
   refine nm ?_
   refine one_ (i := 5) (N := some 20) (bm 8 63) rfl rfl (one_of HT_.out (by kernel_rfl)) (by decide) (fun K hK => ?_)
   refine gs Try.func144 #[.string a3_0] ?_
   with_reducible refine (spec_l2Write.calls k a3_0 t331 _ A10.out).mono ?_
   rintro e w15 ⟨rfl, hb⟩
   refine ⟨_, rfl, ?_⟩
   replace BK328 := kb BK328 hb
   replace HB := Aside0.mk (below_step (zb HB) hb)
   (try clear hb)
   refine hK.out _ _ ⟨(blk_cell BK328.out 0).trans rfl, (blk_cell BK328.out 1).trans rfl, (blk_cell BK328.out 2).trans rfl⟩ (fun hHeld => ?_)
   clear hK K
   refine nm ?_
   refine pu 6 (some 21) (bm 8 127) rfl rfl ?_
   refine pu 7 (some 8) (bm 8 255) rfl rfl ?_
   refine done_ (done_of HT_.out (by kernel_rfl)) ?_
   try go_wp2
   go_ret
   exact ⟨ze, zb HB⟩
  ·skip
   exact absurd H (by simp)

/-! ### spec_l11Write: function 108 -/
-- thin
def spec_l11Write.f (k : Nat) (l0_0 : List (S88)) (a0_1 : Int) (a1_0 : ByteArray) (a1_1 : ByteArray) (a1_2 : Bool) : Option ((List (S88)) × Int × ByteArray) := (spec_l3Find.f k l0_0 a0_1 a1_0 a1_1 a1_2).bind fun bt335 => (if a1_2 = true then ((spec_l11Name.f k bt335.1 4 1 a1_0 a1_1 a1_2).bind fun t337 => ((spec_l2Write.f k a1_1).bind fun t338 => (if t337.size + t338.size ≤ 9223372036854775807 then (some (l0_0, a0_1, t337 ++ t338)) else (none)))) else (if bt335.2 = true then ((spec_l1Write.f k bt335.1 7 1).bind fun t339 => (some (l0_0, a0_1, t339))) else ((spec_l3Add.f k l0_0 a0_1 a1_0 a1_1 a1_2).bind fun bt340 => ((spec_l11Name.f k bt335.1 6 1 a1_0 a1_1 a1_2).bind fun t344 => ((spec_l2Write.f k a1_1).bind fun t345 => (if t344.size + t345.size ≤ 9223372036854775807 then (some (bt340.1, bt340.2, t344 ++ t345)) else (none)))))))
theorem spec_l11Write.mono : ∀ a0 a1 a2 a3 a4 k, LeO (spec_l11Write.f k a0 a1 a2 a3 a4) (spec_l11Write.f (k + 1) a0 a1 a2 a3 a4) := by
 intro a0 a1 a2 a3 a4 k
 unfold spec_l11Write.f
 have m0 := @spec_l11Name.mono
 have m1 := @spec_l1Write.mono
 have m2 := @spec_l2Write.mono
 have m3 := @spec_l3Add.mono
 have m4 := @spec_l3Find.mono
 exact zm
def spec_l11Write.T3 : Bool × List (List Nat × List Nat) := (true, [([], []), ([], []), ([], []), ([1, 2], [1, 2]), ([], []), ([4], [4]), ([5, 3], [5]), ([3, 6], [3, 6]), ([0, 6, 0], [0]), ([7, 8, 0, 1, 2, 3, 4, 5, 6, 7, 8], [7])])
def spec_l11Write.B3 : List Nat := [0, 0, 0, 6, 0, 16, 62, 126, 127, 511]
theorem spec_l11Write.tab3 : rtab .any (opsOf Try.f108 3) = spec_l11Write.T3 := by kernel_rfl
theorem spec_l11Write.bits3 : waitsOk spec_l11Write.T3.2 spec_l11Write.B3 = true := by kernel_rfl
def spec_l11Write.T6 : Bool × List (List Nat × List Nat) := (true, [([], []), ([], []), ([0, 1], [0, 1]), ([], []), ([], []), ([3, 4, 2], [3, 4]), ([], []), ([6], [6]), ([7, 5], [7]), ([5, 8], [5, 8]), ([2, 8, 0, 1, 2], [2]), ([9, 10, 0, 1, 2, 3, 4, 5, 6, 7, 8, 9, 10], [9])])
def spec_l11Write.B6 : List Nat := [0, 0, 3, 0, 0, 31, 0, 64, 255, 511, 511, 2047]
theorem spec_l11Write.tab6 : rtab .any (opsOf Try.f108 6) = spec_l11Write.T6 := by kernel_rfl
theorem spec_l11Write.bits6 : waitsOk spec_l11Write.T6.2 spec_l11Write.B6 = true := by kernel_rfl
set_option maxHeartbeats 8000000 in
set_option maxRecDepth 100000 in
theorem spec_l11Write.calls (k : Nat) (P0_0_ : Nat → Prop) (u9000_ : Value) (l0_0 : List (S88)) (a0_1 : Int) (a1_0 : ByteArray) (a1_1 : ByteArray) (a1_2 : Bool) (r1 : List (S88)) (r2 : Int) (r3 : ByteArray) (w0 w : World) (hB : Below w0.heap.size w0 w) (ho0_0 : Kd.R k88 88 w w0.heap.size P0_0_ u9000_ l0_0) (h : spec_l11Write.f k l0_0 a0_1 a1_0 a1_1 a1_2 = some (r1, r2, r3)) :
  Calls Try.prog 108 #[.agg #[u9000_, .int .i64 a0_1], .agg #[.string a1_0, .string a1_1, .bool a1_2]] w fun e w' => ∃ v0_ : Value, e = .returned (.tuple #[.agg #[v0_, .int .i64 r2], .string r3]) ∧ Kd.R k88 88 w' w0.heap.size (fun k_ => (P0_0_ k_ ∨ w.heap.size ≤ k_)) v0_ r1 ∧ Below w0.heap.size w0 w' ∧ Kept w w' (fun k_ => P0_0_ k_) := by
 have hu25 := Try.underlying25
 have hu88 := Try.underlying88
 have HO0_0 := Aside0.mk (show Kd.R k88 88 w w0.heap.size (fun k_ => (P0_0_ k_ ∨ w.heap.size ≤ k_)) u9000_ l0_0 from Kd.R_mono ho0_0 (fun k_ hk => (.inl hk)))
 have HK := Aside0.mk (Kept.refl w (fun k_ => P0_0_ k_))
 have HW0 := Aside0.mk hB.size
 have HB := Aside0.mk hB
 clear hB
 have H : ((spec_l3Find.f k l0_0 a0_1 a1_0 a1_1 a1_2).bind fun bt335 => (if a1_2 = true then ((spec_l11Name.f k bt335.1 4 1 a1_0 a1_1 a1_2).bind fun t337 => ((spec_l2Write.f k a1_1).bind fun t338 => (if t337.size + t338.size ≤ 9223372036854775807 then (some (l0_0, a0_1, t337 ++ t338)) else (none)))) else (if bt335.2 = true then ((spec_l1Write.f k bt335.1 7 1).bind fun t339 => (some (l0_0, a0_1, t339))) else ((spec_l3Add.f k l0_0 a0_1 a1_0 a1_1 a1_2).bind fun bt340 => ((spec_l11Name.f k bt335.1 6 1 a1_0 a1_1 a1_2).bind fun t344 => ((spec_l2Write.f k a1_1).bind fun t345 => (if t344.size + t345.size ≤ 9223372036854775807 then (some (bt340.1, bt340.2, t344 ++ t345)) else (none)))))))) = some (r1, r2, r3) := h
 clear h
 obtain ⟨⟨t335, t336⟩, A3, H⟩ := ob H
 (try dsimp only at H)
 have HC4 := Aside0.mk H
 clear H
 obtain ⟨Ao5, co5, eo5⟩ := Kd.R_slice HO0_0.out
 subst eo5
 go_enter Try.func108, Try.ntmps108
 go_upto_if 14 with (first | ((with_reducible refine gd 2 rfl ?_); refine bx (N := 2) (cs := #[.slice Ao5 l0_0.length co5, .int .i64 a0_1]) (t := 25) ?_; intro gb332 hg w6 hbox hb; replace HO0_0 := Aside0.mk (Kd.R_below (zr HO0_0) hb); have BK332 := Aside0.mk (hbox); have GW332 := Aside0.mk ((by rw [hg]; exact (by first | exact HK.out.1 | exact (show Kept w _ (fun k_ => P0_0_ k_) from by repeat (first | (with_reducible first | exact HK.out | apply Kept.alloc | apply Kept.drewN | apply Kept.drew) | exact HK.out)).1) : w.heap.size ≤ gb332)); replace HK := Aside0.mk (Kept.below (S := (fun k_ => P0_0_ k_)) (by repeat (first | (with_reducible first | exact HK.out | apply Kept.alloc | apply Kept.drewN | apply Kept.drew) | exact HK.out)) hb); have GE332 := Aside0.mk ((by rw [hg]; exact (below_size (zb HB)) : w0.heap.size ≤ gb332)); replace HB := Aside0.mk (below_step (zb HB) hb); clear hb hbox hg) | ((with_reducible refine gd 3 rfl ?_); refine bx (N := 3) (cs := #[.string a1_0, .string a1_1, .bool a1_2]) (t := 88) ?_; intro gb333 hg w7 hbox hb; replace HO0_0 := Aside0.mk (Kd.R_below (Kd.R_elderB (zr HO0_0) gb333 (Nat.le_of_eq hg.symm)) hb); have BK333 := Aside0.mk (hbox); have GW333 := Aside0.mk ((by rw [hg]; exact (by first | exact HK.out.1 | exact (show Kept w _ (fun k_ => P0_0_ k_) from by repeat (first | (with_reducible first | exact HK.out | apply Kept.alloc | apply Kept.drewN | apply Kept.drew | refine Kept.setCell ?_ (.inr GW332.out) _) | exact HK.out)).1) : w.heap.size ≤ gb333)); replace HK := Aside0.mk (Kept.below (S := (fun k_ => P0_0_ k_)) (by repeat (first | (with_reducible first | exact HK.out | apply Kept.alloc | apply Kept.drewN | apply Kept.drew | refine Kept.setCell ?_ (.inr GW332.out) _) | exact HK.out)) hb); have GE333 := Aside0.mk ((by rw [hg]; exact (below_size (zb HB)) : w0.heap.size ≤ gb333)); replace HB := Aside0.mk (below_step (zb HB) hb); obtain ⟨NB332_333, NB333_332⟩ := nb BK332 hg; replace BK332 := kb BK332 hb; clear hb hbox hg) | ((with_reducible refine gd 4 rfl ?_); refine bx (N := 4) (cs := #[.slice none 0 0, .int .i64 0]) (t := 25) ?_; intro gb334 hg w8 hbox hb; replace HO0_0 := Aside0.mk (Kd.R_below (zr HO0_0) hb); have BK334 := Aside0.mk (hbox); have GW334 := Aside0.mk ((by rw [hg]; exact (by first | exact HK.out.1 | exact (show Kept w _ (fun k_ => P0_0_ k_) from by repeat (first | (with_reducible first | exact HK.out | apply Kept.alloc | apply Kept.drewN | apply Kept.drew | refine Kept.setCell ?_ (.inr GW332.out) _ | refine Kept.setCell ?_ (.inr GW333.out) _) | exact HK.out)).1) : w.heap.size ≤ gb334)); replace HK := Aside0.mk (Kept.below (S := (fun k_ => P0_0_ k_)) (by repeat (first | (with_reducible first | exact HK.out | apply Kept.alloc | apply Kept.drewN | apply Kept.drew | refine Kept.setCell ?_ (.inr GW332.out) _ | refine Kept.setCell ?_ (.inr GW333.out) _) | exact HK.out)) hb); have GE334 := Aside0.mk ((by rw [hg]; exact (below_size (zb HB)) : w0.heap.size ≤ gb334)); replace HB := Aside0.mk (below_step (zb HB) hb); obtain ⟨NB332_334, NB334_332⟩ := nb BK332 hg; replace BK332 := kb BK332 hb; obtain ⟨NB333_334, NB334_333⟩ := nb BK333 hg; replace BK333 := kb BK333 hb; clear hb hbox hg; have hnb9 := NB332_333.out; have hnc9 := NB333_332.out; have hnb10 := NB332_334.out; have hnc10 := NB334_332.out; obtain ⟨hcz11_0, hcz11_1, hfz11_0, hfz11_1⟩ := c2 BK332; have hnb12 := NB333_334.out; have hnc12 := NB334_333.out; obtain ⟨hcz13_0, hcz13_1, hcz13_2, hfz13_0, hfz13_1, hfz13_2⟩ := c3 BK333) | ((with_reducible refine gq 142 rfl ?_); refine gl (some 11) Try.func142 #[.agg #[.slice Ao5 l0_0.length co5, .int .i64 a0_1], .agg #[.string a1_0, .string a1_1, .bool a1_2]] ?_; (with_reducible refine (spec_l3Find.calls k _ _ l0_0 a0_1 a1_0 a1_1 a1_2 t335 t336 _ ?side1 ?side2 A3.out).mono ?_); (case side1 => exact zc (Kd.R_reads' HO0_0.out).2.2); (case side2 => exact (Kd.R_reads' HO0_0.out).2.1); rintro e w14 ⟨rfl, hb⟩; refine ⟨_, rfl, ?_⟩; replace HO0_0 := Aside0.mk (Kd.R_below (zr HO0_0) hb); replace BK332 := kb BK332 hb; replace BK333 := kb BK333 hb; replace BK334 := kb BK334 hb; replace HK := Aside0.mk (Kept.below (S := (fun k_ => P0_0_ k_)) (by repeat (first | (with_reducible first | exact HK.out | apply Kept.alloc | apply Kept.drewN | apply Kept.drew | refine Kept.setCell ?_ (.inr GW332.out) _ | refine Kept.setCell ?_ (.inr GW333.out) _ | refine Kept.setCell ?_ (.inr GW334.out) _) | exact HK.out)) hb); replace HB := Aside0.mk (below_step (zb HB) hb); (try clear hb); obtain ⟨hcz15_0, hcz15_1, hcz15_2, hfz15_0, hfz15_1, hfz15_2⟩ := c3 BK333))
 (try simp only [Act.put, s1, s2, s3])
 have H := HC4.out
 clear HC4
 by_cases c16 : a1_2 = true
 ·subst c16
  rw [if_pos rfl] at H
  obtain ⟨t337, A17, H⟩ := ob H
  (try dsimp only at H)
  obtain ⟨t338, A18, H⟩ := ob H
  (try dsimp only at H)
  replace H := sp H
  rcases H with ⟨c19, H⟩ | ⟨c19, H⟩
  ·skip
   have c19b0 := eq_true c19
   have c19b1 := decide_eq_true c19
   try have c19b2 : (9223372036854775807 < t337.size + t338.size) = False := eq_false (Nat.not_lt.2 c19)
   simp only [Option.some.injEq, Prod.mk.injEq] at H
   obtain ⟨rfl, rfl, rfl⟩ := H
   try go_wp2
   replace HO0_0 := Aside0.mk (Kd.R_drew HO0_0.out)
   replace BK332 := Aside0.mk (blk_drew BK332.out)
   replace BK333 := Aside0.mk (blk_drew BK333.out)
   replace BK334 := Aside0.mk (blk_drew BK334.out)
   replace HK := Aside0.mk (Kept.drew HK.out)
   replace HB := Aside0.mk (below_drew1 HB.out)
   refine start_ (n := 10) (S := fun w' => w'.cell? ⟨gb332, 0, none⟩ = some (.slice Ao5 l0_0.length co5) ∧ w'.cell? ⟨gb332, 1, none⟩ = some (.int .i64 a0_1) ∧ w'.cell? ⟨gb333, 0, none⟩ = some (.string a1_0) ∧ w'.cell? ⟨gb333, 1, none⟩ = some (.string a1_1) ∧ w'.cell? ⟨gb333, 2, none⟩ = some (.bool true)) (ds := []) #[false, false, false, false, false, false, false, false, false, false] (by kernel_rfl) rfl rfl ⟨(blk_cell BK332.out 0).trans rfl, (blk_cell BK332.out 1).trans rfl, (blk_cell BK333.out 0).trans rfl, (blk_cell BK333.out 1).trans rfl, (blk_cell BK333.out 2).trans rfl⟩ (fun hHeld => ?_); refine with_tabW spec_l11Write.tab3 spec_l11Write.bits3 (fun HT_ HW_ => ?_)
   generalize w14.drew = w20 at HO0_0 BK332 BK333 BK334 HK HB hHeld ⊢
   refine pu 1 (some 18) (bm 10 2) rfl rfl ?_
   refine pu 4 (some 21) (bm 10 18) rfl rfl ?_
   refine tk 0 (some 17) (bm 10 19) rfl rfl hHeld ?_
   refine tk 2 (some 19) (bm 10 23) rfl rfl hHeld ?_
   refine tk 5 (some 22) (bm 10 55) rfl rfl hHeld ?_
   refine one_ (i := 3) (N := some 20) (bm 10 63) rfl rfl (one_of HT_.out (by kernel_rfl)) (by decide) (fun K hK => ?_)
   refine gs Try.func143 #[.int .i64 t335, .int .i64 4, .int .i64 1, .agg #[.string a1_0, .string a1_1, .bool true]] ?_
   with_reducible refine (spec_l11Name.calls k t335 4 1 a1_0 a1_1 true t337 _ A17.out).mono ?_
   rintro e w21 ⟨rfl, hb⟩
   refine ⟨_, rfl, ?_⟩
   replace HO0_0 := Aside0.mk (Kd.R_below (zr HO0_0) hb)
   replace BK332 := kb BK332 hb
   replace BK333 := kb BK333 hb
   replace BK334 := kb BK334 hb
   replace HK := Aside0.mk (Kept.below (S := (fun k_ => P0_0_ k_)) (by repeat (first | (with_reducible first | exact HK.out | apply Kept.alloc | apply Kept.drewN | apply Kept.drew | refine Kept.setCell ?_ (.inr GW332.out) _ | refine Kept.setCell ?_ (.inr GW333.out) _ | refine Kept.setCell ?_ (.inr GW334.out) _) | exact HK.out)) hb)
   replace HB := Aside0.mk (below_step (zb HB) hb)
   (try clear hb)
   refine hK.out _ _ ⟨(blk_cell BK332.out 0).trans rfl, (blk_cell BK332.out 1).trans rfl, (blk_cell BK333.out 0).trans rfl, (blk_cell BK333.out 1).trans rfl, (blk_cell BK333.out 2).trans rfl⟩ (fun hHeld => ?_)
   clear hK K
   refine nm ?_
   refine one_ (i := 6) (N := some 23) (bm 10 127) rfl rfl (one_of HT_.out (by kernel_rfl)) (by decide) (fun K hK => ?_)
   refine gs Try.func144 #[.string a1_1] ?_
   with_reducible refine (spec_l2Write.calls k a1_1 t338 _ A18.out).mono ?_
   rintro e w22 ⟨rfl, hb⟩
   refine ⟨_, rfl, ?_⟩
   replace HO0_0 := Aside0.mk (Kd.R_below (zr HO0_0) hb)
   replace BK332 := kb BK332 hb
   replace BK333 := kb BK333 hb
   replace BK334 := kb BK334 hb
   replace HK := Aside0.mk (Kept.below (S := (fun k_ => P0_0_ k_)) (by repeat (first | (with_reducible first | exact HK.out | apply Kept.alloc | apply Kept.drewN | apply Kept.drew | refine Kept.setCell ?_ (.inr GW332.out) _ | refine Kept.setCell ?_ (.inr GW333.out) _ | refine Kept.setCell ?_ (.inr GW334.out) _) | exact HK.out)) hb)
   replace HB := Aside0.mk (below_step (zb HB) hb)
   (try clear hb)
   refine hK.out _ _ ⟨(blk_cell BK332.out 0).trans rfl, (blk_cell BK332.out 1).trans rfl, (blk_cell BK333.out 0).trans rfl, (blk_cell BK333.out 1).trans rfl, (blk_cell BK333.out 2).trans rfl⟩ (fun hHeld => ?_)
   clear hK K
   refine nm ?_
   refine pu 7 (some 24) (bm 10 255) rfl rfl ?_
   refine one_ (i := 8) (N := none) (bm 10 511) rfl rfl (one_of HT_.out (by kernel_rfl)) (by decide) (fun K hK => ?_)
   have hs23 : w22.cell? ⟨gb334, 0, none⟩ = some (.slice none 0 0) := (blk_cell BK334.out 0).trans rfl
   have hfs23 := blk_frozen BK334.out 0
   have hns23_0 := NB332_334.out
   have hns23_1 := NB333_334.out
   have hms23_0 := NB334_332.out
   have hms23_1 := NB334_333.out
   have hs24 : w22.cell? ⟨gb334, 1, none⟩ = some (.int .i64 0) := (blk_cell BK334.out 1).trans rfl
   have hfs24 := blk_frozen BK334.out 1
   have hns24_0 := NB332_334.out
   have hns24_1 := NB333_334.out
   have hms24_0 := NB334_332.out
   have hms24_1 := NB334_333.out
   refine skip_ (w1 := ?_) (by rfl) rfl ?_ ?_
   rotate_left
   ·go_simp
    rfl
   refine hK.out _ _ ⟨((cell_far (p := ⟨gb334, _, none⟩) NB332_334.out _).trans (((cell_far (p := ⟨gb334, _, none⟩) NB332_334.out _).trans (hHeld.1)))), ((cell_far (p := ⟨gb334, _, none⟩) NB332_334.out _).trans (((cell_far (p := ⟨gb334, _, none⟩) NB332_334.out _).trans (hHeld.2.1)))), ((cell_far (p := ⟨gb334, _, none⟩) NB333_334.out _).trans (((cell_far (p := ⟨gb334, _, none⟩) NB333_334.out _).trans (hHeld.2.2.1)))), ((cell_far (p := ⟨gb334, _, none⟩) NB333_334.out _).trans (((cell_far (p := ⟨gb334, _, none⟩) NB333_334.out _).trans (hHeld.2.2.2.1)))), ((cell_far (p := ⟨gb334, _, none⟩) NB333_334.out _).trans (((cell_far (p := ⟨gb334, _, none⟩) NB333_334.out _).trans (hHeld.2.2.2.2))))⟩ (fun hHeld => ?_)
   clear hK K
   refine pu 9 (some 5) (bm 10 1023) rfl rfl ?_
   refine done_ (done_of HT_.out (by kernel_rfl)) ?_
   try go_wp2
   refine bodyPost_ret (results_ct rfl _ _ gb334 25 #[.slice Ao5 l0_0.length co5, .int .i64 a0_1] (0, 0) _ rfl (by (with_reducible repeat (first | refine blk_drewN ?_ _ | refine blk_drew ?_ | refine blk_alloc ?_ _)); refine blk_put (cs := #[.slice Ao5 l0_0.length co5, .int .i64 0]) ?_ 1 _ rfl; (with_reducible repeat (first | refine blk_drewN ?_ _ | refine blk_drew ?_ | refine blk_alloc ?_ _)); refine blk_put (cs := #[.slice none 0 0, .int .i64 0]) ?_ 0 _ rfl; exact zk BK334) Try.underlying25 rfl (by kernel_rfl)) rfl ?_
   exact ⟨_, ze, by (with_reducible repeat (first | apply Kd.R_alloc | apply Kd.R_drewN | apply Kd.R_drew)); exact Kd.R_mono (Kd.R_far (p := ⟨gb334, 1, none⟩) (Kd.R_far (p := ⟨gb334, 0, none⟩) (Kd.R_types HO0_0.out BK334.out (by decide)) (fun _ hk => hk.2) (.slice Ao5 l0_0.length co5)) (fun _ hk => hk.2) (.int .i64 a0_1)) (fun _ hk => hk.1.1), zb HB, by repeat (first | (with_reducible first | exact HK.out | apply Kept.alloc | apply Kept.drewN | apply Kept.drew | refine Kept.setCell ?_ (.inr GW332.out) _ | refine Kept.setCell ?_ (.inr GW333.out) _ | refine Kept.setCell ?_ (.inr GW334.out) _) | exact HK.out)⟩
  ·skip
   exact absurd H (by simp)
 ·replace c16 := Bool.eq_false_iff.mpr c16
  subst c16
  rw [if_neg (show ¬ (false = true) by decide)] at H
  by_cases c25 : t336 = true
  ·subst c25
   rw [if_pos rfl] at H
   obtain ⟨t339, A26, H⟩ := ob H
   (try dsimp only at H)
   simp only [Option.some.injEq, Prod.mk.injEq] at H
   obtain ⟨rfl, rfl, rfl⟩ := H
   try go_wp2
   replace HO0_0 := Aside0.mk (Kd.R_drew HO0_0.out)
   replace BK332 := Aside0.mk (blk_drew BK332.out)
   replace BK333 := Aside0.mk (blk_drew BK333.out)
   replace BK334 := Aside0.mk (blk_drew BK334.out)
   replace HK := Aside0.mk (Kept.drew HK.out)
   replace HB := Aside0.mk (below_drew1 HB.out)
   refine start_ (n := 5) (S := fun w' => w'.cell? ⟨gb332, 0, none⟩ = some (.slice Ao5 l0_0.length co5) ∧ w'.cell? ⟨gb332, 1, none⟩ = some (.int .i64 a0_1)) (ds := []) #[false, false, false, false, false] (by kernel_rfl) rfl rfl ⟨(blk_cell BK332.out 0).trans rfl, (blk_cell BK332.out 1).trans rfl⟩ (fun hHeld => ?_)
   generalize w14.drew = w27 at HO0_0 BK332 BK333 BK334 HK HB hHeld ⊢
   refine pu 1 (some 28) (bm 5 2) rfl rfl ?_
   refine tk 0 (some 27) (bm 5 3) rfl rfl hHeld ?_
   refine one_ (i := 2) (N := some 29) (bm 5 7) rfl rfl (by kernel_rfl) (by decide) (fun K hK => ?_)
   refine gs Try.func145 #[.int .i64 t335, .int .i64 7, .int .i64 1] ?_
   with_reducible refine (spec_l1Write.calls k t335 7 1 t339 _ A26.out).mono ?_
   rintro e w28 ⟨rfl, hb⟩
   refine ⟨_, rfl, ?_⟩
   replace HO0_0 := Aside0.mk (Kd.R_below (zr HO0_0) hb)
   replace BK332 := kb BK332 hb
   replace BK333 := kb BK333 hb
   replace BK334 := kb BK334 hb
   replace HK := Aside0.mk (Kept.below (S := (fun k_ => P0_0_ k_)) (by repeat (first | (with_reducible first | exact HK.out | apply Kept.alloc | apply Kept.drewN | apply Kept.drew | refine Kept.setCell ?_ (.inr GW332.out) _ | refine Kept.setCell ?_ (.inr GW333.out) _ | refine Kept.setCell ?_ (.inr GW334.out) _) | exact HK.out)) hb)
   replace HB := Aside0.mk (below_step (zb HB) hb)
   (try clear hb)
   refine hK.out _ _ ⟨(blk_cell BK332.out 0).trans rfl, (blk_cell BK332.out 1).trans rfl⟩ (fun hHeld => ?_)
   clear hK K
   refine nm ?_
   refine one_ (i := 3) (N := none) (bm 5 15) rfl rfl (by kernel_rfl) (by decide) (fun K hK => ?_)
   have hs29 : w28.cell? ⟨gb334, 0, none⟩ = some (.slice none 0 0) := (blk_cell BK334.out 0).trans rfl
   have hfs29 := blk_frozen BK334.out 0
   have hns29_0 := NB332_334.out
   have hns29_1 := NB333_334.out
   have hms29_0 := NB334_332.out
   have hms29_1 := NB334_333.out
   have hs30 : w28.cell? ⟨gb334, 1, none⟩ = some (.int .i64 0) := (blk_cell BK334.out 1).trans rfl
   have hfs30 := blk_frozen BK334.out 1
   have hns30_0 := NB332_334.out
   have hns30_1 := NB333_334.out
   have hms30_0 := NB334_332.out
   have hms30_1 := NB334_333.out
   refine skip_ (w1 := ?_) (by rfl) rfl ?_ ?_
   rotate_left
   ·go_simp
    rfl
   refine hK.out _ _ ⟨((cell_far (p := ⟨gb334, _, none⟩) NB332_334.out _).trans (((cell_far (p := ⟨gb334, _, none⟩) NB332_334.out _).trans (hHeld.1)))), ((cell_far (p := ⟨gb334, _, none⟩) NB332_334.out _).trans (((cell_far (p := ⟨gb334, _, none⟩) NB332_334.out _).trans (hHeld.2))))⟩ (fun hHeld => ?_)
   clear hK K
   refine pu 4 (some 5) (bm 5 31) rfl rfl ?_
   refine done_ (by kernel_rfl) ?_
   try go_wp2
   refine bodyPost_ret (results_ct rfl _ _ gb334 25 #[.slice Ao5 l0_0.length co5, .int .i64 a0_1] (0, 0) _ rfl (by (with_reducible repeat (first | refine blk_drewN ?_ _ | refine blk_drew ?_ | refine blk_alloc ?_ _)); refine blk_put (cs := #[.slice Ao5 l0_0.length co5, .int .i64 0]) ?_ 1 _ rfl; (with_reducible repeat (first | refine blk_drewN ?_ _ | refine blk_drew ?_ | refine blk_alloc ?_ _)); refine blk_put (cs := #[.slice none 0 0, .int .i64 0]) ?_ 0 _ rfl; exact zk BK334) Try.underlying25 rfl (by kernel_rfl)) rfl ?_
   exact ⟨_, ze, by (with_reducible repeat (first | apply Kd.R_alloc | apply Kd.R_drewN | apply Kd.R_drew)); exact Kd.R_mono (Kd.R_far (p := ⟨gb334, 1, none⟩) (Kd.R_far (p := ⟨gb334, 0, none⟩) (Kd.R_types HO0_0.out BK334.out (by decide)) (fun _ hk => hk.2) (.slice Ao5 l0_0.length co5)) (fun _ hk => hk.2) (.int .i64 a0_1)) (fun _ hk => hk.1.1), zb HB, by repeat (first | (with_reducible first | exact HK.out | apply Kept.alloc | apply Kept.drewN | apply Kept.drew | refine Kept.setCell ?_ (.inr GW332.out) _ | refine Kept.setCell ?_ (.inr GW333.out) _ | refine Kept.setCell ?_ (.inr GW334.out) _) | exact HK.out)⟩
  ·replace c25 := Bool.eq_false_iff.mpr c25
   subst c25
   rw [if_neg (show ¬ (false = true) by decide)] at H
   obtain ⟨⟨t340, t343⟩, A31, H⟩ := ob H
   (try dsimp only at H)
   obtain ⟨t344, A32, H⟩ := ob H
   (try dsimp only at H)
   obtain ⟨t345, A33, H⟩ := ob H
   (try dsimp only at H)
   replace H := sp H
   rcases H with ⟨c34, H⟩ | ⟨c34, H⟩
   ·skip
    have c34b0 := eq_true c34
    have c34b1 := decide_eq_true c34
    try have c34b2 : (9223372036854775807 < t344.size + t345.size) = False := eq_false (Nat.not_lt.2 c34)
    simp only [Option.some.injEq, Prod.mk.injEq] at H
    obtain ⟨rfl, rfl, rfl⟩ := H
    try go_wp2
    replace HO0_0 := Aside0.mk (Kd.R_drew HO0_0.out)
    replace BK332 := Aside0.mk (blk_drew BK332.out)
    replace BK333 := Aside0.mk (blk_drew BK333.out)
    replace BK334 := Aside0.mk (blk_drew BK334.out)
    replace HK := Aside0.mk (Kept.drew HK.out)
    replace HB := Aside0.mk (below_drew1 HB.out)
    refine start_ (n := 12) (S := fun w' => w'.cell? ⟨gb332, 0, none⟩ = some (.slice Ao5 l0_0.length co5) ∧ w'.cell? ⟨gb332, 1, none⟩ = some (.int .i64 a0_1) ∧ w'.cell? ⟨gb333, 0, none⟩ = some (.string a1_0) ∧ w'.cell? ⟨gb333, 1, none⟩ = some (.string a1_1) ∧ w'.cell? ⟨gb333, 2, none⟩ = some (.bool false)) (ds := []) #[false, false, false, false, false, false, false, false, false, false, false, false] (by kernel_rfl) rfl rfl ⟨(blk_cell BK332.out 0).trans rfl, (blk_cell BK332.out 1).trans rfl, (blk_cell BK333.out 0).trans rfl, (blk_cell BK333.out 1).trans rfl, (blk_cell BK333.out 2).trans rfl⟩ (fun hHeld => ?_); refine with_tabW spec_l11Write.tab6 spec_l11Write.bits6 (fun HT_ HW_ => ?_)
    generalize w14.drew = w35 at HO0_0 BK332 BK333 BK334 HK HB hHeld ⊢
    refine pu 3 (some 33) (bm 12 8) rfl rfl ?_
    refine pu 6 (some 36) (bm 12 72) rfl rfl ?_
    refine tk 0 (some 30) (bm 12 73) rfl rfl hHeld ?_
    refine tk 1 (some 31) (bm 12 75) rfl rfl hHeld ?_
    refine tk 4 (some 34) (bm 12 91) rfl rfl hHeld ?_
    refine tk 7 (some 37) (bm 12 219) rfl rfl hHeld ?_
    refine one_ (i := 2) (N := some 32) (bm 12 223) rfl rfl (one_of HT_.out (by kernel_rfl)) (by decide) (fun K hK => ?_)
    refine gs Try.func107 #[.agg #[.slice Ao5 l0_0.length co5, .int .i64 a0_1], .agg #[.string a1_0, .string a1_1, .bool false]] ?_
    with_reducible refine (spec_l3Add.calls k _ _ l0_0 a0_1 a1_0 a1_1 false t340 t343 _ ?side1 ?side2 A31.out).mono ?_
    (case side1 => exact zc (Kd.R_reads' HO0_0.out).2.2)
    (case side2 => exact (Kd.R_reads' HO0_0.out).2.1)
    rintro e w36 ⟨v341, rfl, ho0, hb⟩
    refine ⟨_, rfl, ?_⟩
    have HO342 := Aside0.mk (Kd.R_lower (Kd.R_newB (Kd.R_new' (Kd.R_newM (M := fun k_ => (P0_0_ k_ ∨ w.heap.size ≤ k_)) ho0 (by first | exact HK.out.1 | exact (show Kept w _ (fun k_ => P0_0_ k_) from by repeat (first | (with_reducible first | exact HK.out | apply Kept.alloc | apply Kept.drewN | apply Kept.drew | refine Kept.setCell ?_ (.inr GW332.out) _ | refine Kept.setCell ?_ (.inr GW333.out) _ | refine Kept.setCell ?_ (.inr GW334.out) _) | exact HK.out)).1) (fun k_ h_ => .inr h_)) (Kd.R_lt (zr HO0_0))) (zk BK333)) (below_size (zb HB)))
    replace HO0_0 := Aside0.mk (Kd.R_elder' (zr HO0_0) (Kd.R_base ho0) hb)
    replace BK332 := kb BK332 hb
    replace BK333 := kb BK333 hb
    replace BK334 := kb BK334 hb
    replace HK := Aside0.mk (Kept.below (S := (fun k_ => P0_0_ k_)) (by repeat (first | (with_reducible first | exact HK.out | apply Kept.alloc | apply Kept.drewN | apply Kept.drew | refine Kept.setCell ?_ (.inr GW332.out) _ | refine Kept.setCell ?_ (.inr GW333.out) _ | refine Kept.setCell ?_ (.inr GW334.out) _) | exact HK.out)) hb)
    replace HB := Aside0.mk (below_step (zb HB) hb)
    (try clear hb)
    (try clear ho0)
    refine hK.out _ _ ⟨(blk_cell BK332.out 0).trans rfl, (blk_cell BK332.out 1).trans rfl, (blk_cell BK333.out 0).trans rfl, (blk_cell BK333.out 1).trans rfl, (blk_cell BK333.out 2).trans rfl⟩ (fun hHeld => ?_)
    clear hK K
    refine nm ?_
    refine one_ (i := 5) (N := some 35) (bm 12 255) rfl rfl (one_of HT_.out (by kernel_rfl)) (by decide) (fun K hK => ?_)
    refine gs Try.func143 #[.int .i64 t335, .int .i64 6, .int .i64 1, .agg #[.string a1_0, .string a1_1, .bool false]] ?_
    with_reducible refine (spec_l11Name.calls k t335 6 1 a1_0 a1_1 false t344 _ A32.out).mono ?_
    rintro e w37 ⟨rfl, hb⟩
    refine ⟨_, rfl, ?_⟩
    replace HO0_0 := Aside0.mk (Kd.R_below (zr HO0_0) hb)
    replace HO342 := Aside0.mk (Kd.R_below (zr HO342) hb)
    replace BK332 := kb BK332 hb
    replace BK333 := kb BK333 hb
    replace BK334 := kb BK334 hb
    replace HK := Aside0.mk (Kept.below (S := (fun k_ => P0_0_ k_)) (by repeat (first | (with_reducible first | exact HK.out | apply Kept.alloc | apply Kept.drewN | apply Kept.drew | refine Kept.setCell ?_ (.inr GW332.out) _ | refine Kept.setCell ?_ (.inr GW333.out) _ | refine Kept.setCell ?_ (.inr GW334.out) _) | exact HK.out)) hb)
    replace HB := Aside0.mk (below_step (zb HB) hb)
    (try clear hb)
    refine hK.out _ _ ⟨(blk_cell BK332.out 0).trans rfl, (blk_cell BK332.out 1).trans rfl, (blk_cell BK333.out 0).trans rfl, (blk_cell BK333.out 1).trans rfl, (blk_cell BK333.out 2).trans rfl⟩ (fun hHeld => ?_)
    clear hK K
    refine nm ?_
    refine one_ (i := 8) (N := some 38) (bm 12 511) rfl rfl (one_of HT_.out (by kernel_rfl)) (by decide) (fun K hK => ?_)
    refine gs Try.func144 #[.string a1_1] ?_
    with_reducible refine (spec_l2Write.calls k a1_1 t345 _ A33.out).mono ?_
    rintro e w38 ⟨rfl, hb⟩
    refine ⟨_, rfl, ?_⟩
    replace HO0_0 := Aside0.mk (Kd.R_below (zr HO0_0) hb)
    replace HO342 := Aside0.mk (Kd.R_below (zr HO342) hb)
    replace BK332 := kb BK332 hb
    replace BK333 := kb BK333 hb
    replace BK334 := kb BK334 hb
    replace HK := Aside0.mk (Kept.below (S := (fun k_ => P0_0_ k_)) (by repeat (first | (with_reducible first | exact HK.out | apply Kept.alloc | apply Kept.drewN | apply Kept.drew | refine Kept.setCell ?_ (.inr GW332.out) _ | refine Kept.setCell ?_ (.inr GW333.out) _ | refine Kept.setCell ?_ (.inr GW334.out) _) | exact HK.out)) hb)
    replace HB := Aside0.mk (below_step (zb HB) hb)
    (try clear hb)
    obtain ⟨Ao39, co39, eo39⟩ := Kd.R_slice HO342.out
    (first | subst eo39 | (injection eo39 with f1_ f2_ f3_; have f4_ := f1_.symm; have f5_ := f3_.symm; clear f1_ f2_ f3_; subst f4_; subst f5_))
    refine hK.out _ _ ⟨(blk_cell BK332.out 0).trans rfl, (blk_cell BK332.out 1).trans rfl, (blk_cell BK333.out 0).trans rfl, (blk_cell BK333.out 1).trans rfl, (blk_cell BK333.out 2).trans rfl⟩ (fun hHeld => ?_)
    clear hK K
    refine nm ?_
    refine pu 9 (some 39) (bm 12 1023) rfl rfl ?_
    refine one_ (i := 10) (N := none) (bm 12 2047) rfl rfl (one_of HT_.out (by kernel_rfl)) (by decide) (fun K hK => ?_)
    have hs40 : w38.cell? ⟨gb334, 0, none⟩ = some (.slice none 0 0) := (blk_cell BK334.out 0).trans rfl
    have hfs40 := blk_frozen BK334.out 0
    have hns40_0 := NB332_334.out
    have hns40_1 := NB333_334.out
    have hms40_0 := NB334_332.out
    have hms40_1 := NB334_333.out
    have hs41 : w38.cell? ⟨gb334, 1, none⟩ = some (.int .i64 0) := (blk_cell BK334.out 1).trans rfl
    have hfs41 := blk_frozen BK334.out 1
    have hns41_0 := NB332_334.out
    have hns41_1 := NB333_334.out
    have hms41_0 := NB334_332.out
    have hms41_1 := NB334_333.out
    refine skip_ (w1 := ?_) (by rfl) rfl ?_ ?_
    rotate_left
    ·go_simp
     rfl
    refine hK.out _ _ ⟨((cell_far (p := ⟨gb334, _, none⟩) NB332_334.out _).trans (((cell_far (p := ⟨gb334, _, none⟩) NB332_334.out _).trans (hHeld.1)))), ((cell_far (p := ⟨gb334, _, none⟩) NB332_334.out _).trans (((cell_far (p := ⟨gb334, _, none⟩) NB332_334.out _).trans (hHeld.2.1)))), ((cell_far (p := ⟨gb334, _, none⟩) NB333_334.out _).trans (((cell_far (p := ⟨gb334, _, none⟩) NB333_334.out _).trans (hHeld.2.2.1)))), ((cell_far (p := ⟨gb334, _, none⟩) NB333_334.out _).trans (((cell_far (p := ⟨gb334, _, none⟩) NB333_334.out _).trans (hHeld.2.2.2.1)))), ((cell_far (p := ⟨gb334, _, none⟩) NB333_334.out _).trans (((cell_far (p := ⟨gb334, _, none⟩) NB333_334.out _).trans (hHeld.2.2.2.2))))⟩ (fun hHeld => ?_)
    clear hK K
    refine pu 11 (some 5) (bm 12 4095) rfl rfl ?_
    refine done_ (done_of HT_.out (by kernel_rfl)) ?_
    try go_wp2
    refine bodyPost_ret (results_ct rfl _ _ gb334 25 #[.slice Ao39 t340.length co39, .int .i64 t343] (0, 0) _ rfl (by (with_reducible repeat (first | refine blk_drewN ?_ _ | refine blk_drew ?_ | refine blk_alloc ?_ _)); refine blk_put (cs := #[.slice Ao39 t340.length co39, .int .i64 0]) ?_ 1 _ rfl; (with_reducible repeat (first | refine blk_drewN ?_ _ | refine blk_drew ?_ | refine blk_alloc ?_ _)); refine blk_put (cs := #[.slice none 0 0, .int .i64 0]) ?_ 0 _ rfl; exact zk BK334) Try.underlying25 rfl (by kernel_rfl)) rfl ?_
    exact ⟨_, ze, by (with_reducible repeat (first | apply Kd.R_alloc | apply Kd.R_drewN | apply Kd.R_drew)); exact Kd.R_mono (Kd.R_far (p := ⟨gb334, 1, none⟩) (Kd.R_far (p := ⟨gb334, 0, none⟩) (Kd.R_types HO342.out BK334.out (by decide)) (fun _ hk => hk.2) (.slice Ao39 t340.length co39)) (fun _ hk => hk.2) (.int .i64 t343)) (fun _ hk => hk.1.1.1.1), zb HB, by repeat (first | (with_reducible first | exact HK.out | apply Kept.alloc | apply Kept.drewN | apply Kept.drew | refine Kept.setCell ?_ (.inr GW332.out) _ | refine Kept.setCell ?_ (.inr GW333.out) _ | refine Kept.setCell ?_ (.inr GW334.out) _) | exact HK.out)⟩
   ·skip
    exact absurd H (by simp)

end Go.Proofs.Ytlpibelofcabhaa.PFnHeadBack
