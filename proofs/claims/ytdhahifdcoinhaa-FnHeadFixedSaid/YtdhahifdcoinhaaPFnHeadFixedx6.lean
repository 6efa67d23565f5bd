-- WRITTEN BY a turned print (wip/tools of the prover's repo)
import Derived.Test.YtdhahifdcoinhaaPFnHeadFixedx0
import Derived.Test.YtdhahifdcoinhaaPFnHeadFixedx2
import Derived.Test.YtdhahifdcoinhaaPFnHeadFixedx3
import Derived.Test.YtdhahifdcoinhaaPFnHeadFixedx4
import Derived.Test.YtdhahifdcoinhaaPFnHeadFixedx5
namespace Go.Proofs.Ytdhahifdcoinhaa.PFnHeadFixed
open Go.RowKit Go.Proofs.YtdhahifdcoinhaaW.PrintWords Go.Proofs.YtdhahifdcoinhaaW.PrintLast Go.Proofs.YtdhahifdcoinhaaW.PrintMore Go.Proofs.Ytdhahifdcoinhaa.Lm
attribute [local go_sem] max2_int min2_int max_two min_two max_three min_three max_four min_four   -- for this text's walks alone
set_option linter.unusedVariables false
set_option linter.unusedSimpArgs false

/-! ### spec_l2Pack: function 96 -/
-- thin
mutual
def spec_l2Pack.l0 : Nat → ByteArray → List Int → Int → Option (ByteArray)
 | 0, _, _, _ => none
 | k + 1, x0, x3, x4 => if x4 < (x0.size : Int) then (if 0 ≤ x4 then ((spec_l2Sign.f k (bt x0 x4)).bind fun t311 => (if t311 < 24 then ((spec_l2Bits.f k t311 5).bind fun t312 => (if x3.length + t312.length < 17592186044416 then (spec_l2Pack.l0 k x0 (x3 ++ t312) (wrap64 (x4 + 1))) else (none))) else ((spec_l2Bits.f k (wrap64 ((wrap64 (96 + t311)) - 24)) 7).bind fun t318 => (if x3.length + t318.length < 17592186044416 then (spec_l2Pack.l0 k x0 (x3 ++ t318) (wrap64 (x4 + 1))) else (none))))) else (none)) else (spec_l2Pack.l1 k x3)
def spec_l2Pack.l1 : Nat → List Int → Option (ByteArray)
 | 0, _ => none
 | k + 1, x3 => if ((x3.length : Int) % 8) > 0 then (if x3.length < 17592186044416 then (spec_l2Pack.l1 k (x3 ++ [1])) else (none)) else (spec_l2Pack.l2 k x3 (⟨#[]⟩ : ByteArray) 0)
def spec_l2Pack.l2 : Nat → List Int → ByteArray → Int → Option (ByteArray)
 | 0, _, _, _ => none
 | k + 1, x3, x6, x7 => if x7 < (x3.length : Int) then (if 0 ≤ x7 then (if x7 ≤ (wrap64 (x7 + 8)) then (if (wrap64 (x7 + 8)) ≤ (x3.length : Int) then ((spec_l2Num.f k ((x3.take ((wrap64 (x7 + 8)) : Int).toNat).drop (x7 : Int).toNat)).bind fun t331 => ((spec_l1Byte.f t331).bind fun t332 => (if x6.size + t332.size ≤ 9223372036854775807 then (spec_l2Pack.l2 k x3 (x6 ++ t332) (wrap64 (x7 + 8))) else (none)))) else (none)) else (none)) else (none)) else (some x6)
end
def spec_l2Pack.f (k : Nat) (a0 : ByteArray) : Option (ByteArray) := spec_l2Pack.l0 k a0 (([] : List Int)) 0
theorem spec_l2Pack.mono_l : ∀ k, (∀ y0 y1 y2, LeO (spec_l2Pack.l0 k y0 y1 y2) (spec_l2Pack.l0 (k + 1) y0 y1 y2)) ∧ (∀ y0, LeO (spec_l2Pack.l1 k y0) (spec_l2Pack.l1 (k + 1) y0)) ∧ (∀ y0 y1 y2, LeO (spec_l2Pack.l2 k y0 y1 y2) (spec_l2Pack.l2 (k + 1) y0 y1 y2))
 | 0 => ⟨fun _ _ _ r h => by simp [spec_l2Pack.l0] at h, fun _ r h => by simp [spec_l2Pack.l1] at h, fun _ _ _ r h => by simp [spec_l2Pack.l2] at h⟩
 | k + 1 => by
  obtain ⟨ih0, ih1, ih2⟩ := spec_l2Pack.mono_l k
  refine ⟨?_, ?_, ?_⟩
  ·intro y0 y1 y2
   unfold spec_l2Pack.l0
   have m0 := @spec_l2Bits.mono
   have m1 := @spec_l2Num.mono
   have m2 := @spec_l2Sign.mono
   exact zm
  ·intro y0
   unfold spec_l2Pack.l1
   have m0 := @spec_l2Bits.mono
   have m1 := @spec_l2Num.mono
   have m2 := @spec_l2Sign.mono
   exact zm
  ·intro y0 y1 y2
   unfold spec_l2Pack.l2
   have m0 := @spec_l2Bits.mono
   have m1 := @spec_l2Num.mono
   have m2 := @spec_l2Sign.mono
   exact zm
theorem spec_l2Pack.mono : ∀ a0 k, LeO (spec_l2Pack.f k a0) (spec_l2Pack.f (k + 1) a0) := by
 intro a0 k
 obtain ⟨ih0, ih1, ih2⟩ := spec_l2Pack.mono_l k
 unfold spec_l2Pack.f
 have m0 := @spec_l2Bits.mono
 have m1 := @spec_l2Num.mono
 have m2 := @spec_l2Sign.mono
 exact zm
set_option maxHeartbeats 8000000 in
set_option maxRecDepth 100000 in
theorem spec_l2Pack.calls (k : Nat) (a0 : ByteArray) (r : ByteArray) (w : World) (h : spec_l2Pack.f k a0 = some r) :
  Calls Try.prog 96 #[.string a0] w fun e w' => e = .returned (.string r) ∧ Below w.heap.size w w' := by
 have HB := Aside0.mk (Below.refl w.heap.size w)
 have H : (spec_l2Pack.l0 k a0 (([] : List Int)) 0) = some r := h
 clear h
 obtain ⟨y308, hy308⟩ : ∃ y_ : List Int, y_ = (([] : List Int)) := ⟨_, rfl⟩
 replace H : (spec_l2Pack.l0 k a0 y308 0) = some r := by first | (rw [hy308]; with_reducible exact H) | (have H2_ := (Option.bind_some _ _).symm.trans H; rw [hy308]; with_reducible exact H2_) | (have H2_ := (Option.bind_some _ _).symm.trans H; with_reducible exact H2_) | with_reducible exact H | (rw [hy308]; exact H) | exact H
 have Ny308 := Aside0.mk hy308
 clear hy308
 have H' := Aside0.mk H
 clear H
 go_enter Try.func96, Try.ntmps96
 go_wp2_with (first | ((with_reducible refine gd 8 rfl ?_); refine Kd.R_lit (Kd.int .i64) _ 3 ?hg (N := 8) ?hd (xs := ([] : List Int)) (inner := []) (ok := fun _ => True) (okp := fun _ => True) ?hr ?hp (fun _ hk => hk) trivial (Below.refl _ _) (Nat.le_refl _) (by simp) ?_; (case hd => rfl); (case hg => rfl); (case hr => first | (go_simp; done) | (go_simp; rfl)); (case hp => exact (Reps.none _ _)); intro v309 w2 ho3 hb hg_ hnew_; clear hg_ hnew_; (first | rw [← Ny308.out] at ho3 | (simp only [Int.reduceToNat] at ho3; rw [← Ny308.out] at ho3)); have HO310 := Aside0.mk (Kd.R_lower ho3 (below_size (zb HB))); replace HB := Aside0.mk (below_step (zb HB) hb); clear hb ho3))
 go_loopg [3, 4] k (fun kq v3 v4 w' => ∃ (x3_1 : List Int) (x4_1 : Int), v4 = .int .i64 x4_1 ∧ Aside0 (spec_l2Pack.l0 kq a0 x3_1 x4_1 = some r) ∧ Aside0 (kq ≤ k) ∧ Aside0 (Kd.R (Kd.int .i64) 3 w' w.heap.size (fun _ => True) v3 x3_1) ∧ Aside0 (Below w.heap.size w w'))
 case atStart => exact ⟨(y308), (0), zs, H', ⟨Nat.le_refl _⟩, ⟨by exact zr HO310⟩, ⟨zb HB⟩⟩
 case round =>
  clear H'
  try clear p2
  obtain ⟨x3_1, x4_1, rfl, HA, HK1, HO_3, HB⟩ := hrel
  cases gk with
  | zero => exact absurd HA.out (by simp [spec_l2Pack.l0])
  | succ k1 =>
   have H := HA.out
   clear HA
   simp only [spec_l2Pack.l0] at H
   replace H := sp H
   rcases H with ⟨c4, H⟩ | ⟨c4, H⟩
   ·skip
    have c4b0 := decide_eq_true c4
    clear c4
    by_cases c5 : 0 ≤ x4_1
    ·rw [if_pos c5] at H
     have c5b0 := decide_eq_true c5
     clear c5
     obtain ⟨t311, A7, H⟩ := ob H
     (try dsimp only at H)
     by_cases c8 : t311 < 24
     ·rw [if_pos c8] at H
      have c8b0 := decide_eq_true c8
      clear c8
      obtain ⟨t312, A9, H⟩ := ob H
      (try dsimp only at H)
      by_cases c10 : x3_1.length + t312.length < 17592186044416
      ·rw [if_pos c10] at H
       have LMc10 := Aside0.mk c10
       clear c10
       obtain ⟨y315, hy315⟩ : ∃ y_ : List Int, y_ = (x3_1 ++ t312) := ⟨_, rfl⟩
       replace H : (spec_l2Pack.l0 k1 a0 y315 (wrap64 (x4_1 + 1))) = some r := by first | (rw [hy315]; with_reducible exact H) | (have H2_ := (Option.bind_some _ _).symm.trans H; rw [hy315]; with_reducible exact H2_) | (have H2_ := (Option.bind_some _ _).symm.trans H; with_reducible exact H2_) | with_reducible exact H | (rw [hy315]; exact H) | exact H
       have Ny315 := Aside0.mk hy315
       clear hy315
       have H' := Aside0.mk H
       clear H
       have p6 : 0 ≤ (x4_1 : Int) := of_decide_eq_true za
       have q6 : x4_1 < (a0.size : Int) := of_decide_eq_true za
       have hx6 := bt_at a0 x4_1
       replace p6 := eq_true p6
       replace q6 := eq_true q6
       go_wp2_with (first | ((with_reducible refine gq 76 rfl ?_); refine gl (some 18) Try.func76 #[.int .u8 (bt a0 x4_1)] ?_; (with_reducible refine (spec_l2Sign.calls k1 (bt a0 x4_1) t311 _ A7.out).mono ?_); rintro e w' ⟨rfl, ⟨nd, rfl⟩⟩; refine ⟨_, rfl, ?_⟩) | ((with_reducible refine gq 101 rfl ?_); refine gl (some 23) Try.func101 #[.int .i64 t311, .int .i64 5] ?_; (with_reducible refine (spec_l2Bits.calls k1 t311 5 t312 _ A9.out).mono ?_); rintro e w11 ⟨v313, rfl, ho0, hb⟩; refine ⟨_, rfl, ?_⟩; have HO314 := Aside0.mk (Kd.R_lower (Kd.R_new' ho0 (Kd.R_lt (zr HO_3))) (below_size (zb HB))); replace HO_3 := Aside0.mk (Kd.R_elder' (zr HO_3) (Kd.R_base ho0) hb); replace HB := Aside0.mk (below_step (zb HB) hb); (try clear hb); (try clear ho0); obtain ⟨Ao13, co13, eo13⟩ := Kd.R_slice HO314.out; subst eo13) | ((with_reducible refine gate_builtin (b := .append) (xs := #[.tmp 21, .tmp 23]) rfl ?_); at_builtin; refine Kd.R_append_rows (Kd.int .i64) (w0 := w) w.heap.size rfl (.tmp 21) (.tmp 23) 86 3 (.int .i64 0) 8 rfl Try.underlying86 info3 rfl (by decide) (by omega) u3 x3_1 t312 _ _ _ (fun k_ => some k_ ≠ (.slice Ao13 t312.length co13 : Value).ownBlock) (fun _ => False) rfl rfl ?aO ?aR (fun _ _ h => h) (fun _ h => h.elim) ?aF ?aB ?aS ?aL ?_; (case aR => exact zc (Kd.R_reads' HO314.out).2.2); (case aB => exact (zb HB)); (case aF => exact (fun k_ hk => Kd.fresh' (Kd.R_lt (zr HO314)) k_ hk)); (case aO => exact (zq (Kd.R_mono HO_3.out (fun _ hk => hk.2)))); (case aS => exact (below_size (zb HB))); (case aL => have := LMc10.out; omega); intro v316 w12 ho hb hg hat; rw [← Ny315.out] at ho; replace HO314 := Aside0.mk (Kd.R_after (ok := (fun _ => True)) (zr HO314) hg hat); replace HB := Aside0.mk (hb); have HO317 := Aside0.mk (ho); clear HO_3; clear ho hb hg hat))
       go_roundg k1
       case measure => have := HK1.out; omega
       case rel => exact ⟨(y315), (wrap64 (x4_1 + 1)), zs, H', ⟨by have := HK1.out; omega⟩, ⟨zq (Kd.R_mono HO317.out (fun _ hk => trivial))⟩, ⟨zb HB⟩⟩
      ·rw [if_neg c10] at H
       exact absurd H (by simp)
     ·rw [if_neg c8] at H
      have c8b0 := decide_eq_false c8
      clear c8
      obtain ⟨t318, A14, H⟩ := ob H
      (try dsimp only at H)
      by_cases c15 : x3_1.length + t318.length < 17592186044416
      ·rw [if_pos c15] at H
       have LMc15 := Aside0.mk c15
       clear c15
       obtain ⟨y321, hy321⟩ : ∃ y_ : List Int, y_ = (x3_1 ++ t318) := ⟨_, rfl⟩
       replace H : (spec_l2Pack.l0 k1 a0 y321 (wrap64 (x4_1 + 1))) = some r := by first | (rw [hy321]; with_reducible exact H) | (have H2_ := (Option.bind_some _ _).symm.trans H; rw [hy321]; with_reducible exact H2_) | (have H2_ := (Option.bind_some _ _).symm.trans H; with_reducible exact H2_) | with_reducible exact H | (rw [hy321]; exact H) | exact H
       have Ny321 := Aside0.mk hy321
       clear hy321
       have H' := Aside0.mk H
       clear H
       have p6 : 0 ≤ (x4_1 : Int) := of_decide_eq_true za
       have q6 : x4_1 < (a0.size : Int) := of_decide_eq_true za
       have hx6 := bt_at a0 x4_1
       replace p6 := eq_true p6
       replace q6 := eq_true q6
       go_wp2_with (first | ((with_reducible refine gq 76 rfl ?_); refine gl (some 18) Try.func76 #[.int .u8 (bt a0 x4_1)] ?_; (with_reducible refine (spec_l2Sign.calls k1 (bt a0 x4_1) t311 _ A7.out).mono ?_); rintro e w' ⟨rfl, ⟨nd, rfl⟩⟩; refine ⟨_, rfl, ?_⟩) | ((with_reducible refine gq 101 rfl ?_); refine gl (some 29) Try.func101 #[.int .i64 (wrap64 ((wrap64 (96 + t311)) - 24)), .int .i64 7] ?_; (with_reducible refine (spec_l2Bits.calls k1 (wrap64 ((wrap64 (96 + t311)) - 24)) 7 t318 _ A14.out).mono ?_); rintro e w16 ⟨v319, rfl, ho0, hb⟩; refine ⟨_, rfl, ?_⟩; have HO320 := Aside0.mk (Kd.R_lower (Kd.R_new' ho0 (Kd.R_lt (zr HO_3))) (below_size (zb HB))); replace HO_3 := Aside0.mk (Kd.R_elder' (zr HO_3) (Kd.R_base ho0) hb); replace HB := Aside0.mk (below_step (zb HB) hb); (try clear hb); (try clear ho0); obtain ⟨Ao18, co18, eo18⟩ := Kd.R_slice HO320.out; subst eo18) | ((with_reducible refine gate_builtin (b := .append) (xs := #[.tmp 25, .tmp 29]) rfl ?_); at_builtin; refine Kd.R_append_rows (Kd.int .i64) (w0 := w) w.heap.size rfl (.tmp 25) (.tmp 29) 86 3 (.int .i64 0) 8 rfl Try.underlying86 info3 rfl (by decide) (by omega) u3 x3_1 t318 _ _ _ (fun k_ => some k_ ≠ (.slice Ao18 t318.length co18 : Value).ownBlock) (fun _ => False) rfl rfl ?aO ?aR (fun _ _ h => h) (fun _ h => h.elim) ?aF ?aB ?aS ?aL ?_; (case aR => exact zc (Kd.R_reads' HO320.out).2.2); (case aB => exact (zb HB)); (case aF => exact (fun k_ hk => Kd.fresh' (Kd.R_lt (zr HO320)) k_ hk)); (case aO => exact (zq (Kd.R_mono HO_3.out (fun _ hk => hk.2)))); (case aS => exact (below_size (zb HB))); (case aL => have := LMc15.out; omega); intro v322 w17 ho hb hg hat; rw [← Ny321.out] at ho; replace HO320 := Aside0.mk (Kd.R_after (ok := (fun _ => True)) (zr HO320) hg hat); replace HB := Aside0.mk (hb); have HO323 := Aside0.mk (ho); clear HO_3; clear ho hb hg hat))
       go_roundg k1
       case measure => have := HK1.out; omega
       case rel => exact ⟨(y321), (wrap64 (x4_1 + 1)), zs, H', ⟨by have := HK1.out; omega⟩, ⟨zq (Kd.R_mono HO323.out (fun _ hk => trivial))⟩, ⟨zb HB⟩⟩
      ·rw [if_neg c15] at H
       exact absurd H (by simp)
    ·rw [if_neg c5] at H
     exact absurd H (by simp)
   ·skip
    have c4b0 := decide_eq_false c4
    clear c4
    have H' := Aside0.mk H
    clear H
    go_wp2
    go_loopg [3] k1 (fun kq v3 w' => ∃ (x3_2 : List Int), Aside0 (spec_l2Pack.l1 kq x3_2 = some r) ∧ Aside0 (kq ≤ k1) ∧ Aside0 (Kd.R (Kd.int .i64) 3 w' w.heap.size (fun _ => True) v3 x3_2) ∧ Aside0 (Below w.heap.size w w'))
    case atStart => exact ⟨(x3_1), H', ⟨Nat.le_refl _⟩, ⟨by exact zr HO_3⟩, ⟨zb HB⟩⟩
    case round =>
     clear H'
     try clear c1
     try clear p2
     try clear c4
     try clear c4b0
     try clear c5
     try clear c5b0
     try clear p6
     try clear q6
     try clear hx6
     try clear c7
     try clear c8
     try clear c8b0
     try clear c9
     try clear c10
     try clear c15
     try clear p2
     try clear p6
     try clear q6
     obtain ⟨x3_2, HA, HK2, HO_3, HB⟩ := hrel
     cases gk with
     | zero => exact absurd HA.out (by simp [spec_l2Pack.l1])
     | succ k2 =>
      have H := HA.out
      clear HA
      simp only [spec_l2Pack.l1] at H
      replace H := sp H
      rcases H with ⟨c19, H⟩ | ⟨c19, H⟩
      ·skip
       have c19b0 := decide_eq_true c19
       clear c19
       by_cases c20 : x3_2.length < 17592186044416
       ·rw [if_pos c20] at H
        have LMc20 := Aside0.mk c20
        clear c20
        obtain ⟨y324, hy324⟩ : ∃ y_ : List Int, y_ = (x3_2 ++ [1]) := ⟨_, rfl⟩
        replace H : (spec_l2Pack.l1 k2 y324) = some r := by first | (rw [hy324]; with_reducible exact H) | (have H2_ := (Option.bind_some _ _).symm.trans H; rw [hy324]; with_reducible exact H2_) | (have H2_ := (Option.bind_some _ _).symm.trans H; with_reducible exact H2_) | with_reducible exact H | (rw [hy324]; exact H) | exact H
        have Ny324 := Aside0.mk hy324
        clear hy324
        have H' := Aside0.mk H
        clear H
        obtain ⟨Ao21, co21, eo21⟩ := Kd.R_slice HO_3.out
        subst eo21
        go_wp2_with (first | ((with_reducible refine gate_builtin (b := .append) (xs := #[.tmp 35, .tmp 36]) rfl ?_); at_builtin; refine Kd.R_append (Kd.int .i64) (w0 := w) w.heap.size rfl (.tmp 35) (.tmp 36) 86 3 (.int .i64 0) 8 rfl Try.underlying86 info3 rfl (by decide) (by omega) (.slice Ao21 x3_2.length co21) x3_2 1 [.int .i64 1] (fun _ => True) (fun _ => False) rfl rfl ?aP (fun _ hk => hk.elim) ?aF ?aO ?aB ?aS ?aL ?_; (case aP => exact rfl); (case aB => exact (zb HB)); (case aF => exact (fun _ _ => trivial)); (case aO => exact (zr HO_3)); (case aS => exact (below_size (zb HB))); (case aL => have := LMc20.out; omega); intro v325 w22 ho hb hg hat; rw [← Ny324.out] at ho; replace HB := Aside0.mk (hb); have HO326 := Aside0.mk (ho); clear HO_3; clear ho hb hg hat))
        go_roundg k2
        case measure => have := HK1.out; have := HK2.out; omega
        case rel => exact ⟨(y324), H', ⟨by have := HK1.out; have := HK2.out; omega⟩, ⟨by exact zr HO326⟩, ⟨zb HB⟩⟩
       ·rw [if_neg c20] at H
        exact absurd H (by simp)
      ·skip
       have c19b0 := decide_eq_false c19
       clear c19
       have H' := Aside0.mk H
       clear H
       obtain ⟨Ao23, co23, eo23⟩ := Kd.R_slice HO_3.out
       subst eo23
       go_wp2
       go_loopg [6, 7] k2 (fun kq v6 v7 w' => ∃ (x6_3 : ByteArray) (x7_3 : Int), v6 = .string x6_3 ∧ v7 = .int .i64 x7_3 ∧ Aside0 (spec_l2Pack.l2 kq x3_2 x6_3 x7_3 = some r) ∧ Aside0 (kq ≤ k2) ∧ Aside0 (Kd.R (Kd.int .i64) 3 w' w.heap.size (fun _ => True) (.slice Ao23 x3_2.length co23) x3_2) ∧ Aside0 (Below w.heap.size w w'))
       case atStart => exact ⟨((⟨#[]⟩ : ByteArray)), (0), zs, zs, H', ⟨Nat.le_refl _⟩, ⟨by exact zr HO_3⟩, ⟨zb HB⟩⟩
       case round =>
        clear H'
        try clear c1
        try clear c2
        try clear p2
        try clear c4
        try clear c4b0
        try clear c5
        try clear c5b0
        try clear p6
        try clear q6
        try clear hx6
        try clear c7
        try clear c8
        try clear c8b0
        try clear c9
        try clear c10
        try clear c15
        try clear c19
        try clear c19b0
        try clear c20
        try clear p2
        try clear p6
        try clear q6
        obtain ⟨x6_3, x7_3, rfl, rfl, HA, HK3, HO_3, HB⟩ := hrel
        cases gk with
        | zero => exact absurd HA.out (by simp [spec_l2Pack.l2])
        | succ k3 =>
         have H := HA.out
         clear HA
         simp only [spec_l2Pack.l2] at H
         replace H := sp H
         rcases H with ⟨c24, H⟩ | ⟨c24, H⟩
         ·skip
          have c24b0 := decide_eq_true c24
          clear c24
          by_cases c25 : 0 ≤ x7_3
          ·rw [if_pos c25] at H
           have c25b0 := eq_true c25
           have c25b1 := decide_eq_true c25
           clear c25
           by_cases c26 : x7_3 ≤ (wrap64 (x7_3 + 8))
           ·rw [if_pos c26] at H
            have c26b0 := eq_true c26
            have c26b1 := decide_eq_true c26
            by_cases c27 : (wrap64 (x7_3 + 8)) ≤ (x3_2.length : Int)
            ·rw [if_pos c27] at H
             have c27b0 := eq_true c27
             have c27b1 := decide_eq_true c27
             obtain ⟨y327, hy327⟩ : ∃ y_ : List Int, y_ = ((x3_2.take ((wrap64 (x7_3 + 8)) : Int).toNat).drop (x7_3 : Int).toNat) := ⟨_, rfl⟩
             replace H : ((spec_l2Num.f k3 y327).bind fun t331 => ((spec_l1Byte.f t331).bind fun t332 => (if x6_3.size + t332.size ≤ 9223372036854775807 then (spec_l2Pack.l2 k3 x3_2 (x6_3 ++ t332) (wrap64 (x7_3 + 8))) else (none)))) = some r := by first | (rw [hy327]; with_reducible exact H) | (have H2_ := (Option.bind_some _ _).symm.trans H; rw [hy327]; with_reducible exact H2_) | (have H2_ := (Option.bind_some _ _).symm.trans H; with_reducible exact H2_) | with_reducible exact H | (rw [hy327]; exact H) | exact H
             have Ny327 := Aside0.mk hy327
             clear hy327
             obtain ⟨t331, A28, H⟩ := ob H
             (try dsimp only at H)
             obtain ⟨t332, A29, H⟩ := ob H
             (try dsimp only at H)
             by_cases c30 : x6_3.size + t332.size ≤ 9223372036854775807
             ·rw [if_pos c30] at H
              have c30b0 := eq_true c30
              have c30b1 := decide_eq_true c30
              try have c30b2 : (9223372036854775807 < x6_3.size + t332.size) = False := eq_false (Nat.not_lt.2 c30)
              have H' := Aside0.mk H
              clear H
              have q31 : ((wrap64 (x7_3 + 8)) : Int) ≤ ((x3_2.length : Int) : Int) := of_decide_eq_true za
              obtain ⟨i031, hi031, _, hsz31, _⟩ := info_parts info3
              have hroom31 : x3_2.length ≤ co23 := (Kd.R_reads' HO_3.out).2.1
              have hC31 : Kd.C (Kd.int .i64) _ Ao23 x3_2.length x3_2 := (Kd.R_reads' HO_3.out).2.2
              have ql31 : (x7_3 : Int) ≤ ((wrap64 (x7_3 + 8)) : Int) := of_decide_eq_true za
              have q031 : (0 : Int) ≤ (x7_3 : Int) := of_decide_eq_true za
              have hcut31 := cut_mid (P := Try.prog) 86 3 .i64 .i64 Try.underlying86 hi031 1 hsz31 Ao23 x3_2.length co23 x7_3 (wrap64 (x7_3 + 8)) q031 ql31 q31 hroom31
              have hr31 := Kd.C_mid (lo := (x7_3 : Int).toNat) (hi := ((wrap64 (x7_3 + 8)) : Int).toNat) (c := co23) hC31 (by omega) (by omega) hroom31
              obtain ⟨A31, hA31⟩ : ∃ A1, A1 = (if co23 = (x7_3 : Int).toNat then Ao23 else (Ao23 : Option Addr).map (·.add ((x7_3 : Int).toNat * 1))) := ⟨_, rfl⟩
              obtain ⟨c31, hc31⟩ : ∃ c1, c1 = co23 - (x7_3 : Int).toNat := ⟨_, rfl⟩
              have hy31 : y327.length = ((wrap64 (x7_3 + 8)) : Int).toNat - (x7_3 : Int).toNat := (by rw [Ny327.out, List.length_drop, List.length_take] <;> omega)
              rw [show ((x3_2).take ((wrap64 (x7_3 + 8)) : Int).toNat).drop (x7_3 : Int).toNat = y327 from Ny327.out.symm] at hr31
              replace hr31 : Kd.C (Kd.int .i64) _ A31 y327.length y327 := (by rw [hA31]; exact hr31)
              rw [← hy31, ← hA31, ← hc31] at hcut31
              have HR330 := Aside0.mk hr31
              have HC330 := Aside0.mk (show y327.length ≤ c31 from by rw [hy31, hc31]; exact Nat.sub_le_sub_right (Nat.le_trans (by omega) hroom31) _)
              clear hr31 hC31 hroom31 hi031 hsz31 hc31
              have KY31 := Aside0.mk hy31
              have KA31 := Aside0.mk hA31
              clear hy31 hA31
              have KL31 := Aside0.mk (show ((wrap64 (x7_3 + 8)) : Int).toNat ≤ x3_2.length from by omega)
              have KM31 := Aside0.mk (show (x7_3 : Int).toNat ≤ ((wrap64 (x7_3 + 8)) : Int).toNat from by omega)
              replace q31 := eq_true q31
              go_wp2_with (first | ((with_reducible refine gq 102 rfl ?_); refine gl (some 50) Try.func102 #[.slice A31 y327.length c31] ?_; (with_reducible refine (spec_l2Num.calls k3 _ _ y327 t331 _ ?side1 ?side2 A28.out).mono ?_); (case side1 => exact zc HR330.out); (case side2 => exact HC330.out); rintro e w' ⟨rfl, ⟨nd, rfl⟩⟩; refine ⟨_, rfl, ?_⟩) | ((with_reducible refine gq 86 rfl ?_); refine gl (some 51) Try.func86 #[.int .i64 t331] ?_; (with_reducible refine (spec_l1Byte.calls t331 t332 _ A29.out).mono ?_); rintro e w32 ⟨rfl, hb⟩; refine ⟨_, rfl, ?_⟩; replace HO_3 := Aside0.mk (Kd.R_below (zr HO_3) hb); replace HR330 := Aside0.mk (Kd.C_below (zc HR330.out) hb); replace HB := Aside0.mk (below_step (zb HB) hb); (try clear hb)))
              go_roundg k3
              case measure => have := HK1.out; have := HK2.out; have := HK3.out; omega
              case rel => exact ⟨(x6_3 ++ t332), (wrap64 (x7_3 + 8)), zs, zs, H', ⟨by have := HK1.out; have := HK2.out; have := HK3.out; omega⟩, ⟨by exact zr HO_3⟩, ⟨zb HB⟩⟩
             ·rw [if_neg c30] at H
              exact absurd H (by simp)
            ·rw [if_neg c27] at H
             exact absurd H (by simp)
           ·rw [if_neg c26] at H
            exact absurd H (by simp)
          ·rw [if_neg c25] at H
           exact absurd H (by simp)
         ·skip
          have c24b0 := decide_eq_false c24
          clear c24
          obtain rfl := Option.some.inj H
          go_wp2
          go_ret
          exact ⟨ze, zb HB⟩

/-! ### spec_l2Write: function 91 -/
-- thin
def spec_l2Write.f (k : Nat) (a0 : ByteArray) : Option (ByteArray) := (spec_l2Pack.f k a0).bind fun t333 => (if (t333.size : Int) < (a0.size : Int) then ((spec_l1Write.f k (t333.size : Int) 7 1).bind fun t334 => (if t334.size + t333.size ≤ 9223372036854775807 then (some (t334 ++ t333)) else (none))) else ((spec_l1Write.f k (a0.size : Int) 7 0).bind fun t335 => (if t335.size + a0.size ≤ 9223372036854775807 then (some (t335 ++ a0)) else (none))))
theorem spec_l2Write.mono : ∀ a0 k, LeO (spec_l2Write.f k a0) (spec_l2Write.f (k + 1) a0) := by
 intro a0 k
 unfold spec_l2Write.f
 have m0 := @spec_l1Write.mono
 have m1 := @spec_l2Pack.mono
 exact zm
set_option maxHeartbeats 8000000 in
set_option maxRecDepth 100000 in
theorem spec_l2Write.calls (k : Nat) (a0 : ByteArray) (r : ByteArray) (w : World) (h : spec_l2Write.f k a0 = some r) :
  Calls Try.prog 91 #[.string a0] w fun e w' => e = .returned (.string r) ∧ Below w.heap.size w w' := by
 have HB := Aside0.mk (Below.refl w.heap.size w)
 have H : ((spec_l2Pack.f k a0).bind fun t333 => (if (t333.size : Int) < (a0.size : Int) then ((spec_l1Write.f k (t333.size : Int) 7 1).bind fun t334 => (if t334.size + t333.size ≤ 9223372036854775807 then (some (t334 ++ t333)) else (none))) else ((spec_l1Write.f k (a0.size : Int) 7 0).bind fun t335 => (if t335.size + a0.size ≤ 9223372036854775807 then (some (t335 ++ a0)) else (none))))) = some r := h
 clear h
 obtain ⟨t333, A2, H⟩ := ob H
 (try dsimp only at H)
 replace H := sp H
 rcases H with ⟨c3, H⟩ | ⟨c3, H⟩
 ·skip
  have c3b0 := decide_eq_true c3
  have c3b1 := decide_eq_true (Int.ofNat_lt.mp c3)
  clear c3
  obtain ⟨t334, A4, H⟩ := ob H
  (try dsimp only at H)
  by_cases c5 : t334.size + t333.size ≤ 9223372036854775807
  ·rw [if_pos c5] at H
   have c5b0 := eq_true c5
   have c5b1 := decide_eq_true c5
   try have c5b2 : (9223372036854775807 < t334.size + t333.size) = False := eq_false (Nat.not_lt.2 c5)
   obtain rfl := Option.some.inj H
   go_enter Try.func91, Try.ntmps91
   go_wp2_with (first | ((with_reducible refine gq 96 rfl ?_); refine gl (some 5) Try.func96 #[.string a0] ?_; (with_reducible refine (spec_l2Pack.calls k a0 t333 _ A2.out).mono ?_); rintro e w6 ⟨rfl, hb⟩; refine ⟨_, rfl, ?_⟩; replace HB := Aside0.mk (below_step (zb HB) hb); (try clear hb)) | ((with_reducible refine gq 92 rfl ?_); refine gl (some 13) Try.func92 #[.int .i64 (t333.size : Int), .int .i64 7, .int .i64 1] ?_; (with_reducible refine (spec_l1Write.calls k (t333.size : Int) 7 1 t334 _ A4.out).mono ?_); rintro e w7 ⟨rfl, hb⟩; refine ⟨_, rfl, ?_⟩; replace HB := Aside0.mk (below_step (zb HB) hb); (try clear hb)))
   go_ret
   exact ⟨ze, zb HB⟩
  ·rw [if_neg c5] at H
   exact absurd H (by simp)
 ·skip
  have c3b0 := decide_eq_false c3
  have c3b1 := decide_eq_false (fun h => c3 (Int.ofNat_lt.mpr h))
  clear c3
  obtain ⟨t335, A8, H⟩ := ob H
  (try dsimp only at H)
  replace H := sp H
  rcases H with ⟨c9, H⟩ | ⟨c9, H⟩
  ·skip
   have c9b0 := eq_true c9
   have c9b1 := decide_eq_true c9
   try have c9b2 : (9223372036854775807 < t335.size + a0.size) = False := eq_false (Nat.not_lt.2 c9)
   obtain rfl := Option.some.inj H
   go_enter Try.func91, Try.ntmps91
   go_wp2_with (first | ((with_reducible refine gq 96 rfl ?_); refine gl (some 5) Try.func96 #[.string a0] ?_; (with_reducible refine (spec_l2Pack.calls k a0 t333 _ A2.out).mono ?_); rintro e w10 ⟨rfl, hb⟩; refine ⟨_, rfl, ?_⟩; replace HB := Aside0.mk (below_step (zb HB) hb); (try clear hb)) | ((with_reducible refine gq 92 rfl ?_); refine gl (some 18) Try.func92 #[.int .i64 (a0.size : Int), .int .i64 7, .int .i64 0] ?_; (with_reducible refine (spec_l1Write.calls k (a0.size : Int) 7 0 t335 _ A8.out).mono ?_); rintro e w11 ⟨rfl, hb⟩; refine ⟨_, rfl, ?_⟩; replace HB := Aside0.mk (below_step (zb HB) hb); (try clear hb)))
   go_ret
   exact ⟨ze, zb HB⟩
  ·skip
   exact absurd H (by simp)

/-! ### spec_l11Name: function 90 -/
-- thin
def spec_l11Name.f (k : Nat) (a0 : Int) (a1 : Int) (a2 : Int) (a3_0 : ByteArray) (a3_1 : ByteArray) (a3_2 : Bool) : Option (ByteArray) := if a0 > 0 then ((spec_l1Write.f k a0 a1 a2).bind fun t337 => (some t337)) else ((spec_l1Write.f k 0 a1 a2).bind fun t338 => ((spec_l2Write.f k a3_0).bind fun t339 => (if t338.size + t339.size ≤ 9223372036854775807 then (some (t338 ++ t339)) else (none))))
theorem spec_l11Name.mono : ∀ a0 a1 a2 a3 a4 a5 k, LeO (spec_l11Name.f k a0 a1 a2 a3 a4 a5) (spec_l11Name.f (k + 1) a0 a1 a2 a3 a4 a5) := by
 intro a0 a1 a2 a3 a4 a5 k
 unfold spec_l11Name.f
 have m0 := @spec_l1Write.mono
 have m1 := @spec_l2Write.mono
 exact zm
def spec_l11Name.T3 : Bool × List (List Nat × List Nat) := (true, [([], []), ([], []), ([0, 1], [0, 1]), ([], []), ([3], [3]), ([4, 2], [4]), ([2, 5], [2, 5]), ([6, 5, 0, 1, 2, 3, 4, 5, 6], [6])])
def spec_l11Name.B3 : List Nat := [0, 0, 3, 0, 8, 31, 63, 127]
theorem spec_l11Name.tab3 : rtab .any (opsOf Try.f90 3) = spec_l11Name.T3 := by kernel_rfl
theorem spec_l11Name.bits3 : waitsOk spec_l11Name.T3.2 spec_l11Name.B3 = true := by kernel_rfl
set_option maxHeartbeats 8000000 in
set_option maxRecDepth 100000 in
theorem spec_l11Name.calls (k : Nat) (a0 : Int) (a1 : Int) (a2 : Int) (a3_0 : ByteArray) (a3_1 : ByteArray) (a3_2 : Bool) (r : ByteArray) (w : World) (h : spec_l11Name.f k a0 a1 a2 a3_0 a3_1 a3_2 = some r) :
  Calls Try.prog 90 #[.int .i64 a0, .int .i64 a1, .int .i64 a2, .agg #[.string a3_0, .string a3_1, .bool a3_2]] w fun e w' => e = .returned (.string r) ∧ Below w.heap.size w w' := by
 have hu36 := Try.underlying36
 have HB := Aside0.mk (Below.refl w.heap.size w)
 have H : (if a0 > 0 then ((spec_l1Write.f k a0 a1 a2).bind fun t337 => (some t337)) else ((spec_l1Write.f k 0 a1 a2).bind fun t338 => ((spec_l2Write.f k a3_0).bind fun t339 => (if t338.size + t339.size ≤ 9223372036854775807 then (some (t338 ++ t339)) else (none))))) = some r := h
 clear h
 replace H := sp H
 rcases H with ⟨c5, H⟩ | ⟨c5, H⟩
 ·skip
  have c5b0 := decide_eq_true c5
  clear c5
  obtain ⟨t337, A6, H⟩ := ob H
  (try dsimp only at H)
  obtain rfl := Option.some.inj H
  go_enter Try.func90, Try.ntmps90
  go_wp2_with (first | ((with_reducible refine gd 7 rfl ?_); refine bx (N := 7) (cs := #[.string a3_0, .string a3_1, .bool a3_2]) (t := 36) ?_; intro gb336 hg w7 hbox hb; have BK336 := Aside0.mk (hbox); have GW336 := gw HB hg; have GE336 := GW336; replace HB := Aside0.mk (below_step (zb HB) hb); clear hb hbox hg) | ((with_reducible refine gq 92 rfl ?_); refine gl (some 14) Try.func92 #[.int .i64 a0, .int .i64 a1, .int .i64 a2] ?_; (with_reducible refine (spec_l1Write.calls k a0 a1 a2 t337 _ A6.out).mono ?_); rintro e w8 ⟨rfl, hb⟩; refine ⟨_, rfl, ?_⟩; replace BK336 := kb BK336 hb; replace HB := Aside0.mk (below_step (zb HB) hb); (try clear hb)))
  go_ret
  exact ⟨ze, zb HB⟩
 ·skip
  have c5b0 := decide_eq_false c5
  clear c5
  obtain ⟨t338, A9, H⟩ := ob H
  (try dsimp only at H)
  obtain ⟨t339, A10, H⟩ := ob H
  (try dsimp only at H)
  replace H := sp H
  rcases H with ⟨c11, H⟩ | ⟨c11, H⟩
  ·skip
   have c11b0 := eq_true c11
   have c11b1 := decide_eq_true c11
   try have c11b2 : (9223372036854775807 < t338.size + t339.size) = False := eq_false (Nat.not_lt.2 c11)
   obtain rfl := Option.some.inj H
   go_enter Try.func90, Try.ntmps90
   try go_wp2_with (first | ((with_reducible refine gd 7 rfl ?_); refine bx (N := 7) (cs := #[.string a3_0, .string a3_1, .bool a3_2]) (t := 36) ?_; intro gb336 hg w12 hbox hb; have BK336 := Aside0.mk (hbox); have GW336 := gw HB hg; have GE336 := GW336; replace HB := Aside0.mk (below_step (zb HB) hb); clear hb hbox hg))
   replace BK336 := Aside0.mk (blk_drew BK336.out)
   replace HB := Aside0.mk (below_drew1 HB.out)
   refine st 8 (b3 BK336) (fun hHeld => ?_); refine with_tabW spec_l11Name.tab3 spec_l11Name.bits3 (fun HT_ HW_ => ?_)
   generalize w12.drew = w13 at BK336 HB hHeld ⊢
   refine pu 0 (some 15) (bm 8 1) rfl rfl ?_
   refine pu 1 (some 16) (bm 8 3) rfl rfl ?_
   refine pu 3 (some 18) (bm 8 11) rfl rfl ?_
   refine tk 4 (some 19) (bm 8 27) rfl rfl hHeld ?_
   refine one_ (i := 2) (N := some 17) (bm 8 31) rfl rfl (one_of HT_.out (by kernel_rfl)) (by decide) (fun K hK => ?_)
   refine gs Try.func92 #[.int .i64 0, .int .i64 a1, .int .i64 a2] ?_
   with_reducible refine (spec_l1Write.calls k 0 a1 a2 t338 _ A9.out).mono ?_
   rintro e w14 ⟨rfl, hb⟩
   refine ⟨_, rfl, ?_⟩
   replace BK336 := kb BK336 hb
   replace HB := Aside0.mk (below_step (zb HB) hb)
   (try clear hb)
   refine hK.out _ _ (b3 BK336) (fun hHeld => ?_)
   clear hK K
   refine nm ?_
   refine one_ (i := 5) (N := some 20) (bm 8 63) rfl rfl (one_of HT_.out (by kernel_rfl)) (by decide) (fun K hK => ?_)
   refine gs Try.func91 #[.string a3_0] ?_
   with_reducible refine (spec_l2Write.calls k a3_0 t339 _ A10.out).mono ?_
   rintro e w15 ⟨rfl, hb⟩
   refine ⟨_, rfl, ?_⟩
   replace BK336 := kb BK336 hb
   replace HB := Aside0.mk (below_step (zb HB) hb)
   (try clear hb)
   refine hK.out _ _ (b3 BK336) (fun hHeld => ?_)
   clear hK K
   refine nm ?_
   refine pu 6 (some 21) (bm 8 127) rfl rfl ?_
   refine pu 7 (some 8) (bm 8 255) rfl rfl ?_
   refine done_ (done_of HT_.out (by kernel_rfl)) ?_
   try go_wp2
   go_ret
   exact ⟨ze, zb HB⟩
  ·skip
   exact absurd H (by simp)

/-! ### spec_l11Write: function 80 -/
-- thin
def spec_l11Write.f (k : Nat) (l0_0 : List (S36)) (a0_1 : Int) (a1_0 : ByteArray) (a1_1 : ByteArray) (a1_2 : Bool) : Option ((List (S36)) × Int × ByteArray) := (spec_l3Find.f k l0_0 a0_1 a1_0 a1_1 a1_2).bind fun bt343 => (if a1_2 = true then ((spec_l11Name.f k bt343.1 4 1 a1_0 a1_1 a1_2).bind fun t345 => ((spec_l2Write.f k a1_1).bind fun t346 => (if t345.size + t346.size ≤ 9223372036854775807 then (some (l0_0, a0_1, t345 ++ t346)) else (none)))) else (if bt343.2 = true then ((spec_l1Write.f k bt343.1 7 1).bind fun t347 => (some (l0_0, a0_1, t347))) else ((spec_l3Add.f k l0_0 a0_1 a1_0 a1_1 a1_2).bind fun bt348 => ((spec_l11Name.f k bt343.1 6 1 a1_0 a1_1 a1_2).bind fun t352 => ((spec_l2Write.f k a1_1).bind fun t353 => (if t352.size + t353.size ≤ 9223372036854775807 then (some (bt348.1, bt348.2, t352 ++ t353)) else (none)))))))
theorem spec_l11Write.mono : ∀ a0 a1 a2 a3 a4 k, LeO (spec_l11Write.f k a0 a1 a2 a3 a4) (spec_l11Write.f (k + 1) a0 a1 a2 a3 a4) := by
 intro a0 a1 a2 a3 a4 k
 unfold spec_l11Write.f
 have m0 := @spec_l11Name.mono
 have m1 := @spec_l1Write.mono
 have m2 := @spec_l2Write.mono
 have m3 := @spec_l3Add.mono
 have m4 := @spec_l3Find.mono
 exact zm
def spec_l11Write.T3 : Bool × List (List Nat × List Nat) := (true, [([], []), ([], []), ([], []), ([1, 2], [1, 2]), ([], []), ([4], [4]), ([5, 3], [5]), ([3, 6], [3, 6]), ([0, 6, 0], [0]), ([7, 8, 0, 1, 2, 3, 4, 5, 6, 7, 8], [7])])
def spec_l11Write.B3 : List Nat := [0, 0, 0, 6, 0, 16, 62, 126, 127, 511]
theorem spec_l11Write.tab3 : rtab .any (opsOf Try.f80 3) = spec_l11Write.T3 := by kernel_rfl
theorem spec_l11Write.bits3 : waitsOk spec_l11Write.T3.2 spec_l11Write.B3 = true := by kernel_rfl
def spec_l11Write.T6 : Bool × List (List Nat × List Nat) := (true, [([], []), ([], []), ([0, 1], [0, 1]), ([], []), ([], []), ([3, 4, 2], [3, 4]), ([], []), ([6], [6]), ([7, 5], [7]), ([5, 8], [5, 8]), ([2, 8, 0, 1, 2], [2]), ([9, 10, 0, 1, 2, 3, 4, 5, 6, 7, 8, 9, 10], [9])])
def spec_l11Write.B6 : List Nat := [0, 0, 3, 0, 0, 31, 0, 64, 255, 511, 511, 2047]
theorem spec_l11Write.tab6 : rtab .any (opsOf Try.f80 6) = spec_l11Write.T6 := by kernel_rfl
theorem spec_l11Write.bits6 : waitsOk spec_l11Write.T6.2 spec_l11Write.B6 = true := by kernel_rfl
set_option maxHeartbeats 8000000 in
set_option maxRecDepth 100000 in
theorem spec_l11Write.calls (k : Nat) (P0_0_ : Nat → Prop) (u9000_ : Value) (l0_0 : List (S36)) (a0_1 : Int) (a1_0 : ByteArray) (a1_1 : ByteArray) (a1_2 : Bool) (r1 : List (S36)) (r2 : Int) (r3 : ByteArray) (w0 w : World) (hB : Below w0.heap.size w0 w) (ho0_0 : Kd.R k36 36 w w0.heap.size P0_0_ u9000_ l0_0) (h : spec_l11Write.f k l0_0 a0_1 a1_0 a1_1 a1_2 = some (r1, r2, r3)) :
  Calls Try.prog 80 #[.agg #[u9000_, .int .i64 a0_1], .agg #[.string a1_0, .string a1_1, .bool a1_2]] w fun e w' => ∃ v0_ : Value, e = .returned (.tuple #[.agg #[v0_, .int .i64 r2], .string r3]) ∧ Kd.R k36 36 w' w0.heap.size (fun k_ => (P0_0_ k_ ∨ w.heap.size ≤ k_)) v0_ r1 ∧ Below w0.heap.size w0 w' ∧ Kept w w' (fun k_ => P0_0_ k_) := by
 have hu25 := Try.underlying25
 have hu36 := Try.underlying36
 have HO0_0 := Aside0.mk (show Kd.R k36 36 w w0.heap.size (fun k_ => (P0_0_ k_ ∨ w.heap.size ≤ k_)) u9000_ l0_0 from Kd.R_mono ho0_0 (fun k_ hk => (.inl hk)))
 have HK := Aside0.mk (Kept.refl w (fun k_ => P0_0_ k_))
 have HW0 := Aside0.mk hB.size
 have HB := Aside0.mk hB
 clear hB
 have H : ((spec_l3Find.f k l0_0 a0_1 a1_0 a1_1 a1_2).bind fun bt343 => (if a1_2 = true then ((spec_l11Name.f k bt343.1 4 1 a1_0 a1_1 a1_2).bind fun t345 => ((spec_l2Write.f k a1_1).bind fun t346 => (if t345.size + t346.size ≤ 9223372036854775807 then (some (l0_0, a0_1, t345 ++ t346)) else (none)))) else (if bt343.2 = true then ((spec_l1Write.f k bt343.1 7 1).bind fun t347 => (some (l0_0, a0_1, t347))) else ((spec_l3Add.f k l0_0 a0_1 a1_0 a1_1 a1_2).bind fun bt348 => ((spec_l11Name.f k bt343.1 6 1 a1_0 a1_1 a1_2).bind fun t352 => ((spec_l2Write.f k a1_1).bind fun t353 => (if t352.size + t353.size ≤ 9223372036854775807 then (some (bt348.1, bt348.2, t352 ++ t353)) else (none)))))))) = some (r1, r2, r3) := h
 clear h
 obtain ⟨⟨t343, t344⟩, A3, H⟩ := ob H
 (try dsimp only at H)
 have HC4 := Aside0.mk H
 clear H
 obtain ⟨Ao5, co5, eo5⟩ := Kd.R_slice HO0_0.out
 subst eo5
 go_enter Try.func80, Try.ntmps80
 go_upto_if 14 with (first | ((with_reducible refine gd 2 rfl ?_); refine bx (N := 2) (cs := #[.slice Ao5 l0_0.length co5, .int .i64 a0_1]) (t := 25) ?_; intro gb340 hg w6 hbox hb; replace HO0_0 := Aside0.mk (Kd.R_below (zr HO0_0) hb); have BK340 := Aside0.mk (hbox); have GW340 := Aside0.mk ((by rw [hg]; exact (by first | exact HK.out.1 | exact (show Kept w _ (fun k_ => P0_0_ k_) from by repeat (first | (with_reducible first | exact HK.out | apply Kept.alloc | apply Kept.drewN | apply Kept.drew) | exact HK.out)).1) : w.heap.size ≤ gb340)); replace HK := Aside0.mk (Kept.below (S := (fun k_ => P0_0_ k_)) (by repeat (first | (with_reducible first | exact HK.out | apply Kept.alloc | apply Kept.drewN | apply Kept.drew) | exact HK.out)) hb); have GE340 := Aside0.mk ((by rw [hg]; exact (below_size (zb HB)) : w0.heap.size ≤ gb340)); replace HB := Aside0.mk (below_step (zb HB) hb); clear hb hbox hg) | ((with_reducible refine gd 3 rfl ?_); refine bx (N := 3) (cs := #[.string a1_0, .string a1_1, .bool a1_2]) (t := 36) ?_; intro gb341 hg w7 hbox hb; replace HO0_0 := Aside0.mk (Kd.R_below (Kd.R_elderB (zr HO0_0) gb341 (Nat.le_of_eq hg.symm)) hb); have BK341 := Aside0.mk (hbox); have GW341 := Aside0.mk ((by rw [hg]; exact (by first | exact HK.out.1 | exact (show Kept w _ (fun k_ => P0_0_ k_) from by repeat (first | (with_reducible first | exact HK.out | apply Kept.alloc | apply Kept.drewN | apply Kept.drew | refine Kept.setCell ?_ (.inr GW340.out) _) | exact HK.out)).1) : w.heap.size ≤ gb341)); replace HK := Aside0.mk (Kept.below (S := (fun k_ => P0_0_ k_)) (by repeat (first | (with_reducible first | exact HK.out | apply Kept.alloc | apply Kept.drewN | apply Kept.drew | refine Kept.setCell ?_ (.inr GW340.out) _) | exact HK.out)) hb); have GE341 := Aside0.mk ((by rw [hg]; exact (below_size (zb HB)) : w0.heap.size ≤ gb341)); replace HB := Aside0.mk (below_step (zb HB) hb); obtain ⟨NB340_341, NB341_340⟩ := nb BK340 hg; replace BK340 := kb BK340 hb; clear hb hbox hg) | ((with_reducible refine gd 4 rfl ?_); refine bx (N := 4) (cs := #[.slice none 0 0, .int .i64 0]) (t := 25) ?_; intro gb342 hg w8 hbox hb; replace HO0_0 := Aside0.mk (Kd.R_below (zr HO0_0) hb); have BK342 := Aside0.mk (hbox); have GW342 := Aside0.mk ((by rw [hg]; exact (by first | exact HK.out.1 | exact (show Kept w _ (fun k_ => P0_0_ k_) from by repeat (first | (with_reducible first | exact HK.out | apply Kept.alloc | apply Kept.drewN | apply Kept.drew | refine Kept.setCell ?_ (.inr GW340.out) _ | refine Kept.setCell ?_ (.inr GW341.out) _) | exact HK.out)).1) : w.heap.size ≤ gb342)); replace HK := Aside0.mk (Kept.below (S := (fun k_ => P0_0_ k_)) (by repeat (first | (with_reducible first | exact HK.out | apply Kept.alloc | apply Kept.drewN | apply Kept.drew | refine Kept.setCell ?_ (.inr GW340.out) _ | refine Kept.setCell ?_ (.inr GW341.out) _) | exact HK.out)) hb); have GE342 := Aside0.mk ((by rw [hg]; exact (below_size (zb HB)) : w0.heap.size ≤ gb342)); replace HB := Aside0.mk (below_step (zb HB) hb); obtain ⟨NB340_342, NB342_340⟩ := nb BK340 hg; replace BK340 := kb BK340 hb; obtain ⟨NB341_342, NB342_341⟩ := nb BK341 hg; replace BK341 := kb BK341 hb; clear hb hbox hg; have hnb9 := NB340_341.out; have hnc9 := NB341_340.out; have hnb10 := NB340_342.out; have hnc10 := NB342_340.out; obtain ⟨hcz11_0, hcz11_1, hfz11_0, hfz11_1⟩ := c2 BK340; have hnb12 := NB341_342.out; have hnc12 := NB342_341.out; obtain ⟨hcz13_0, hcz13_1, hcz13_2, hfz13_0, hfz13_1, hfz13_2⟩ := c3 BK341) | ((with_reducible refine gq 89 rfl ?_); refine gl (some 11) Try.func89 #[.agg #[.slice Ao5 l0_0.length co5, .int .i64 a0_1], .agg #[.string a1_0, .string a1_1, .bool a1_2]] ?_; (with_reducible refine (spec_l3Find.calls k _ _ l0_0 a0_1 a1_0 a1_1 a1_2 t343 t344 _ ?side1 ?side2 A3.out).mono ?_); (case side1 => exact zc (Kd.R_reads' HO0_0.out).2.2); (case side2 => exact (Kd.R_reads' HO0_0.out).2.1); rintro e w14 ⟨rfl, hb⟩; refine ⟨_, rfl, ?_⟩; replace HO0_0 := Aside0.mk (Kd.R_below (zr HO0_0) hb); replace BK340 := kb BK340 hb; replace BK341 := kb BK341 hb; replace BK342 := kb BK342 hb; replace HK := Aside0.mk (Kept.below (S := (fun k_ => P0_0_ k_)) (by repeat (first | (with_reducible first | exact HK.out | apply Kept.alloc | apply Kept.drewN | apply Kept.drew | refine Kept.setCell ?_ (.inr GW340.out) _ | refine Kept.setCell ?_ (.inr GW341.out) _ | refine Kept.setCell ?_ (.inr GW342.out) _) | exact HK.out)) hb); replace HB := Aside0.mk (below_step (zb HB) hb); (try clear hb); obtain ⟨hcz15_0, hcz15_1, hcz15_2, hfz15_0, hfz15_1, hfz15_2⟩ := c3 BK341))
 (try simp only [Act.put, s1, s2, s3])
 have H := HC4.out
 clear HC4
 by_cases c16 : a1_2 = true
 ·subst c16
  rw [if_pos rfl] at H
  obtain ⟨t345, A17, H⟩ := ob H
  (try dsimp only at H)
  obtain ⟨t346, A18, H⟩ := ob H
  (try dsimp only at H)
  replace H := sp H
  rcases H with ⟨c19, H⟩ | ⟨c19, H⟩
  ·skip
   have c19b0 := eq_true c19
   have c19b1 := decide_eq_true c19
   try have c19b2 : (9223372036854775807 < t345.size + t346.size) = False := eq_false (Nat.not_lt.2 c19)
   simp only [Option.some.injEq, Prod.mk.injEq] at H
   obtain ⟨rfl, rfl, rfl⟩ := H
   try go_wp2
   replace HO0_0 := Aside0.mk (Kd.R_drew HO0_0.out)
   replace BK340 := Aside0.mk (blk_drew BK340.out)
   replace BK341 := Aside0.mk (blk_drew BK341.out)
   replace BK342 := Aside0.mk (blk_drew BK342.out)
   replace HK := Aside0.mk (Kept.drew HK.out)
   replace HB := Aside0.mk (below_drew1 HB.out)
   refine st 10 (an (b2 BK340) (b3 BK341)) (fun hHeld => ?_); refine with_tabW spec_l11Write.tab3 spec_l11Write.bits3 (fun HT_ HW_ => ?_)
   generalize w14.drew = w20 at HO0_0 BK340 BK341 BK342 HK HB hHeld ⊢
   refine pu 1 (some 18) (bm 10 2) rfl rfl ?_
   refine pu 4 (some 21) (bm 10 18) rfl rfl ?_
   refine tk 0 (some 17) (bm 10 19) rfl rfl hHeld ?_
   refine tk 2 (some 19) (bm 10 23) rfl rfl hHeld ?_
   refine tk 5 (some 22) (bm 10 55) rfl rfl hHeld ?_
   refine one_ (i := 3) (N := some 20) (bm 10 63) rfl rfl (one_of HT_.out (by kernel_rfl)) (by decide) (fun K hK => ?_)
   refine gs Try.func90 #[.int .i64 t343, .int .i64 4, .int .i64 1, .agg #[.string a1_0, .string a1_1, .bool true]] ?_
   with_reducible refine (spec_l11Name.calls k t343 4 1 a1_0 a1_1 true t345 _ A17.out).mono ?_
   rintro e w21 ⟨rfl, hb⟩
   refine ⟨_, rfl, ?_⟩
   replace HO0_0 := Aside0.mk (Kd.R_below (zr HO0_0) hb)
   replace BK340 := kb BK340 hb
   replace BK341 := kb BK341 hb
   replace BK342 := kb BK342 hb
   replace HK := Aside0.mk (Kept.below (S := (fun k_ => P0_0_ k_)) (by repeat (first | (with_reducible first | exact HK.out | apply Kept.alloc | apply Kept.drewN | apply Kept.drew | refine Kept.setCell ?_ (.inr GW340.out) _ | refine Kept.setCell ?_ (.inr GW341.out) _ | refine Kept.setCell ?_ (.inr GW342.out) _) | exact HK.out)) hb)
   replace HB := Aside0.mk (below_step (zb HB) hb)
   (try clear hb)
   refine hK.out _ _ (an (b2 BK340) (b3 BK341)) (fun hHeld => ?_)
   clear hK K
   refine nm ?_
   refine one_ (i := 6) (N := some 23) (bm 10 127) rfl rfl (one_of HT_.out (by kernel_rfl)) (by decide) (fun K hK => ?_)
   refine gs Try.func91 #[.string a1_1] ?_
   with_reducible refine (spec_l2Write.calls k a1_1 t346 _ A18.out).mono ?_
   rintro e w22 ⟨rfl, hb⟩
   refine ⟨_, rfl, ?_⟩
   replace HO0_0 := Aside0.mk (Kd.R_below (zr HO0_0) hb)
   replace BK340 := kb BK340 hb
   replace BK341 := kb BK341 hb
   replace BK342 := kb BK342 hb
   replace HK := Aside0.mk (Kept.below (S := (fun k_ => P0_0_ k_)) (by repeat (first | (with_reducible first | exact HK.out | apply Kept.alloc | apply Kept.drewN | apply Kept.drew | refine Kept.setCell ?_ (.inr GW340.out) _ | refine Kept.setCell ?_ (.inr GW341.out) _ | refine Kept.setCell ?_ (.inr GW342.out) _) | exact HK.out)) hb)
   replace HB := Aside0.mk (below_step (zb HB) hb)
   (try clear hb)
   refine hK.out _ _ (an (b2 BK340) (b3 BK341)) (fun hHeld => ?_)
   clear hK K
   refine nm ?_
   refine pu 7 (some 24) (bm 10 255) rfl rfl ?_
   refine one_ (i := 8) (N := none) (bm 10 511) rfl rfl (one_of HT_.out (by kernel_rfl)) (by decide) (fun K hK => ?_)
   have hs23 : w22.cell? ⟨gb342, 0, none⟩ = some (.slice none 0 0) := (blk_cell BK342.out 0).trans rfl
   have hfs23 := blk_frozen BK342.out 0
   have hns23_0 := NB340_342.out
   have hns23_1 := NB341_342.out
   have hms23_0 := NB342_340.out
   have hms23_1 := NB342_341.out
   have hs24 : w22.cell? ⟨gb342, 1, none⟩ = some (.int .i64 0) := (blk_cell BK342.out 1).trans rfl
   have hfs24 := blk_frozen BK342.out 1
   have hns24_0 := NB340_342.out
   have hns24_1 := NB341_342.out
   have hms24_0 := NB342_340.out
   have hms24_1 := NB342_341.out
   refine skip_ (w1 := ?_) (by rfl) rfl ?_ ?_
   rotate_left
   ·go_simp
    rfl
   refine hK.out _ _ (an ⟨((cell_far (p := ⟨gb342, _, none⟩) NB340_342.out _).trans (((cell_far (p := ⟨gb342, _, none⟩) NB340_342.out _).trans (hHeld.1.1)))), ((cell_far (p := ⟨gb342, _, none⟩) NB340_342.out _).trans (((cell_far (p := ⟨gb342, _, none⟩) NB340_342.out _).trans (hHeld.1.2))))⟩ ⟨((cell_far (p := ⟨gb342, _, none⟩) NB341_342.out _).trans (((cell_far (p := ⟨gb342, _, none⟩) NB341_342.out _).trans (hHeld.2.1)))), ((cell_far (p := ⟨gb342, _, none⟩) NB341_342.out _).trans (((cell_far (p := ⟨gb342, _, none⟩) NB341_342.out _).trans (hHeld.2.2.1)))), ((cell_far (p := ⟨gb342, _, none⟩) NB341_342.out _).trans (((cell_far (p := ⟨gb342, _, none⟩) NB341_342.out _).trans (hHeld.2.2.2))))⟩) (fun hHeld => ?_)
   clear hK K
   refine pu 9 (some 5) (bm 10 1023) rfl rfl ?_
   refine done_ (done_of HT_.out (by kernel_rfl)) ?_
   try go_wp2
   refine bodyPost_ret (results_ct rfl _ _ gb342 25 #[.slice Ao5 l0_0.length co5, .int .i64 a0_1] (0, 0) _ rfl (zp BK342) Try.underlying25 rfl (by kernel_rfl)) rfl ?_
   exact ⟨_, ze, (Kd.R_mono (ztR (Kd.R_types HO0_0.out BK342.out (by decide))) (fun _ hk => hk.1.1)), zb HB, by repeat (first | (with_reducible first | exact HK.out | apply Kept.alloc | apply Kept.drewN | apply Kept.drew | refine Kept.setCell ?_ (.inr GW340.out) _ | refine Kept.setCell ?_ (.inr GW341.out) _ | refine Kept.setCell ?_ (.inr GW342.out) _) | exact HK.out)⟩
  ·skip
   exact absurd H (by simp)
 ·replace c16 := Bool.eq_false_iff.mpr c16
  subst c16
  rw [if_neg (show ¬ (false = true) by decide)] at H
  by_cases c25 : t344 = true
  ·subst c25
   rw [if_pos rfl] at H
   obtain ⟨t347, A26, H⟩ := ob H
   (try dsimp only at H)
   simp only [Option.some.injEq, Prod.mk.injEq] at H
   obtain ⟨rfl, rfl, rfl⟩ := H
   try go_wp2
   replace HO0_0 := Aside0.mk (Kd.R_drew HO0_0.out)
   replace BK340 := Aside0.mk (blk_drew BK340.out)
   replace BK341 := Aside0.mk (blk_drew BK341.out)
   replace BK342 := Aside0.mk (blk_drew BK342.out)
   replace HK := Aside0.mk (Kept.drew HK.out)
   replace HB := Aside0.mk (below_drew1 HB.out)
   refine st 5 (b2 BK340) (fun hHeld => ?_)
   generalize w14.drew = w27 at HO0_0 BK340 BK341 BK342 HK HB hHeld ⊢
   refine pu 1 (some 28) (bm 5 2) rfl rfl ?_
   refine tk 0 (some 27) (bm 5 3) rfl rfl hHeld ?_
   refine one_ (i := 2) (N := some 29) (bm 5 7) rfl rfl (by kernel_rfl) (by decide) (fun K hK => ?_)
   refine gs Try.func92 #[.int .i64 t343, .int .i64 7, .int .i64 1] ?_
   with_reducible refine (spec_l1Write.calls k t343 7 1 t347 _ A26.out).mono ?_
   rintro e w28 ⟨rfl, hb⟩
   refine ⟨_, rfl, ?_⟩
   replace HO0_0 := Aside0.mk (Kd.R_below (zr HO0_0) hb)
   replace BK340 := kb BK340 hb
   replace BK341 := kb BK341 hb
   replace BK342 := kb BK342 hb
   replace HK := Aside0.mk (Kept.below (S := (fun k_ => P0_0_ k_)) (by repeat (first | (with_reducible first | exact HK.out | apply Kept.alloc | apply Kept.drewN | apply Kept.drew | refine Kept.setCell ?_ (.inr GW340.out) _ | refine Kept.setCell ?_ (.inr GW341.out) _ | refine Kept.setCell ?_ (.inr GW342.out) _) | exact HK.out)) hb)
   replace HB := Aside0.mk (below_step (zb HB) hb)
   (try clear hb)
   refine hK.out _ _ (b2 BK340) (fun hHeld => ?_)
   clear hK K
   refine nm ?_
   refine one_ (i := 3) (N := none) (bm 5 15) rfl rfl (by kernel_rfl) (by decide) (fun K hK => ?_)
   have hs29 : w28.cell? ⟨gb342, 0, none⟩ = some (.slice none 0 0) := (blk_cell BK342.out 0).trans rfl
   have hfs29 := blk_frozen BK342.out 0
   have hns29_0 := NB340_342.out
   have hns29_1 := NB341_342.out
   have hms29_0 := NB342_340.out
   have hms29_1 := NB342_341.out
   have hs30 : w28.cell? ⟨gb342, 1, none⟩ = some (.int .i64 0) := (blk_cell BK342.out 1).trans rfl
   have hfs30 := blk_frozen BK342.out 1
   have hns30_0 := NB340_342.out
   have hns30_1 := NB341_342.out
   have hms30_0 := NB342_340.out
   have hms30_1 := NB342_341.out
   refine skip_ (w1 := ?_) (by rfl) rfl ?_ ?_
   rotate_left
   ·go_simp
    rfl
   refine hK.out _ _ ⟨((cell_far (p := ⟨gb342, _, none⟩) NB340_342.out _).trans (((cell_far (p := ⟨gb342, _, none⟩) NB340_342.out _).trans (hHeld.1)))), ((cell_far (p := ⟨gb342, _, none⟩) NB340_342.out _).trans (((cell_far (p := ⟨gb342, _, none⟩) NB340_342.out _).trans (hHeld.2))))⟩ (fun hHeld => ?_)
   clear hK K
   refine pu 4 (some 5) (bm 5 31) rfl rfl ?_
   refine done_ (by kernel_rfl) ?_
   try go_wp2
   refine bodyPost_ret (results_ct rfl _ _ gb342 25 #[.slice Ao5 l0_0.length co5, .int .i64 a0_1] (0, 0) _ rfl (zp BK342) Try.underlying25 rfl (by kernel_rfl)) rfl ?_
   exact ⟨_, ze, (Kd.R_mono (ztR (Kd.R_types HO0_0.out BK342.out (by decide))) (fun _ hk => hk.1.1)), zb HB, by repeat (first | (with_reducible first | exact HK.out | apply Kept.alloc | apply Kept.drewN | apply Kept.drew | refine Kept.setCell ?_ (.inr GW340.out) _ | refine Kept.setCell ?_ (.inr GW341.out) _ | refine Kept.setCell ?_ (.inr GW342.out) _) | exact HK.out)⟩
  ·replace c25 := Bool.eq_false_iff.mpr c25
   subst c25
   rw [if_neg (show ¬ (false = true) by decide)] at H
   obtain ⟨⟨t348, t351⟩, A31, H⟩ := ob H
   (try dsimp only at H)
   obtain ⟨t352, A32, H⟩ := ob H
   (try dsimp only at H)
   obtain ⟨t353, A33, H⟩ := ob H
   (try dsimp only at H)
   replace H := sp H
   rcases H with ⟨c34, H⟩ | ⟨c34, H⟩
   ·skip
    have c34b0 := eq_true c34
    have c34b1 := decide_eq_true c34
    try have c34b2 : (9223372036854775807 < t352.size + t353.size) = False := eq_false (Nat.not_lt.2 c34)
    simp only [Option.some.injEq, Prod.mk.injEq] at H
    obtain ⟨rfl, rfl, rfl⟩ := H
    try go_wp2
    replace HO0_0 := Aside0.mk (Kd.R_drew HO0_0.out)
    replace BK340 := Aside0.mk (blk_drew BK340.out)
    replace BK341 := Aside0.mk (blk_drew BK341.out)
    replace BK342 := Aside0.mk (blk_drew BK342.out)
    replace HK := Aside0.mk (Kept.drew HK.out)
    replace HB := Aside0.mk (below_drew1 HB.out)
    refine st 12 (an (b2 BK340) (b3 BK341)) (fun hHeld => ?_); refine with_tabW spec_l11Write.tab6 spec_l11Write.bits6 (fun HT_ HW_ => ?_)
    generalize w14.drew = w35 at HO0_0 BK340 BK341 BK342 HK HB hHeld ⊢
    refine pu 3 (some 33) (bm 12 8) rfl rfl ?_
    refine pu 6 (some 36) (bm 12 72) rfl rfl ?_
    refine tk 0 (some 30) (bm 12 73) rfl rfl hHeld ?_
    refine tk 1 (some 31) (bm 12 75) rfl rfl hHeld ?_
    refine tk 4 (some 34) (bm 12 91) rfl rfl hHeld ?_
    refine tk 7 (some 37) (bm 12 219) rfl rfl hHeld ?_
    refine one_ (i := 2) (N := some 32) (bm 12 223) rfl rfl (one_of HT_.out (by kernel_rfl)) (by decide) (fun K hK => ?_)
    refine gs Try.func60 #[.agg #[.slice Ao5 l0_0.length co5, .int .i64 a0_1], .agg #[.string a1_0, .string a1_1, .bool false]] ?_
    with_reducible refine (spec_l3Add.calls k _ _ l0_0 a0_1 a1_0 a1_1 false t348 t351 _ ?side1 ?side2 A31.out).mono ?_
    (case side1 => exact zc (Kd.R_reads' HO0_0.out).2.2)
    (case side2 => exact (Kd.R_reads' HO0_0.out).2.1)
    rintro e w36 ⟨v349, rfl, ho0, hb⟩
    refine ⟨_, rfl, ?_⟩
    have HO350 := Aside0.mk (Kd.R_lower (Kd.R_newB (Kd.R_new' (Kd.R_newM (M := fun k_ => (P0_0_ k_ ∨ w.heap.size ≤ k_)) ho0 (by first | exact HK.out.1 | exact (show Kept w _ (fun k_ => P0_0_ k_) from by repeat (first | (with_reducible first | exact HK.out | apply Kept.alloc | apply Kept.drewN | apply Kept.drew | refine Kept.setCell ?_ (.inr GW340.out) _ | refine Kept.setCell ?_ (.inr GW341.out) _ | refine Kept.setCell ?_ (.inr GW342.out) _) | exact HK.out)).1) (fun k_ h_ => .inr h_)) (Kd.R_lt (zr HO0_0))) (zk BK341)) (below_size (zb HB)))
    replace HO0_0 := Aside0.mk (Kd.R_elder' (zr HO0_0) (Kd.R_base ho0) hb)
    replace BK340 := kb BK340 hb
    replace BK341 := kb BK341 hb
    replace BK342 := kb BK342 hb
    replace HK := Aside0.mk (Kept.below (S := (fun k_ => P0_0_ k_)) (by repeat (first | (with_reducible first | exact HK.out | apply Kept.alloc | apply Kept.drewN | apply Kept.drew | refine Kept.setCell ?_ (.inr GW340.out) _ | refine Kept.setCell ?_ (.inr GW341.out) _ | refine Kept.setCell ?_ (.inr GW342.out) _) | exact HK.out)) hb)
    replace HB := Aside0.mk (below_step (zb HB) hb)
    (try clear hb)
    (try clear ho0)
    refine hK.out _ _ (an (b2 BK340) (b3 BK341)) (fun hHeld => ?_)
    clear hK K
    refine nm ?_
    refine one_ (i := 5) (N := some 35) (bm 12 255) rfl rfl (one_of HT_.out (by kernel_rfl)) (by decide) (fun K hK => ?_)
    refine gs Try.func90 #[.int .i64 t343, .int .i64 6, .int .i64 1, .agg #[.string a1_0, .string a1_1, .bool false]] ?_
    with_reducible refine (spec_l11Name.calls k t343 6 1 a1_0 a1_1 false t352 _ A32.out).mono ?_
    rintro e w37 ⟨rfl, hb⟩
    refine ⟨_, rfl, ?_⟩
    replace HO0_0 := Aside0.mk (Kd.R_below (zr HO0_0) hb)
    replace HO350 := Aside0.mk (Kd.R_below (zr HO350) hb)
    replace BK340 := kb BK340 hb
    replace BK341 := kb BK341 hb
    replace BK342 := kb BK342 hb
    replace HK := Aside0.mk (Kept.below (S := (fun k_ => P0_0_ k_)) (by repeat (first | (with_reducible first | exact HK.out | apply Kept.alloc | apply Kept.drewN | apply Kept.drew | refine Kept.setCell ?_ (.inr GW340.out) _ | refine Kept.setCell ?_ (.inr GW341.out) _ | refine Kept.setCell ?_ (.inr GW342.out) _) | exact HK.out)) hb)
    replace HB := Aside0.mk (below_step (zb HB) hb)
    (try clear hb)
    refine hK.out _ _ (an (b2 BK340) (b3 BK341)) (fun hHeld => ?_)
    clear hK K
    refine nm ?_
    refine one_ (i := 8) (N := some 38) (bm 12 511) rfl rfl (one_of HT_.out (by kernel_rfl)) (by decide) (fun K hK => ?_)
    refine gs Try.func91 #[.string a1_1] ?_
    with_reducible refine (spec_l2Write.calls k a1_1 t353 _ A33.out).mono ?_
    rintro e w38 ⟨rfl, hb⟩
    refine ⟨_, rfl, ?_⟩
    replace HO0_0 := Aside0.mk (Kd.R_below (zr HO0_0) hb)
    replace HO350 := Aside0.mk (Kd.R_below (zr HO350) hb)
    replace BK340 := kb BK340 hb
    replace BK341 := kb BK341 hb
    replace BK342 := kb BK342 hb
    replace HK := Aside0.mk (Kept.below (S := (fun k_ => P0_0_ k_)) (by repeat (first | (with_reducible first | exact HK.out | apply Kept.alloc | apply Kept.drewN | apply Kept.drew | refine Kept.setCell ?_ (.inr GW340.out) _ | refine Kept.setCell ?_ (.inr GW341.out) _ | refine Kept.setCell ?_ (.inr GW342.out) _) | exact HK.out)) hb)
    replace HB := Aside0.mk (below_step (zb HB) hb)
    (try clear hb)
    obtain ⟨Ao39, co39, eo39⟩ := Kd.R_slice HO350.out
    (first | subst eo39 | (injection eo39 with f1_ f2_ f3_; have f4_ := f1_.symm; have f5_ := f3_.symm; clear f1_ f2_ f3_; subst f4_; subst f5_))
    refine hK.out _ _ (an (b2 BK340) (b3 BK341)) (fun hHeld => ?_)
    clear hK K
    refine nm ?_
    refine pu 9 (some 39) (bm 12 1023) rfl rfl ?_
    refine one_ (i := 10) (N := none) (bm 12 2047) rfl rfl (one_of HT_.out (by kernel_rfl)) (by decide) (fun K hK => ?_)
    have hs40 : w38.cell? ⟨gb342, 0, none⟩ = some (.slice none 0 0) := (blk_cell BK342.out 0).trans rfl
    have hfs40 := blk_frozen BK342.out 0
    have hns40_0 := NB340_342.out
    have hns40_1 := NB341_342.out
    have hms40_0 := NB342_340.out
    have hms40_1 := NB342_341.out
    have hs41 : w38.cell? ⟨gb342, 1, none⟩ = some (.int .i64 0) := (blk_cell BK342.out 1).trans rfl
    have hfs41 := blk_frozen BK342.out 1
    have hns41_0 := NB340_342.out
    have hns41_1 := NB341_342.out
    have hms41_0 := NB342_340.out
    have hms41_1 := NB342_341.out
    refine skip_ (w1 := ?_) (by rfl) rfl ?_ ?_
    rotate_left
    ·go_simp
     rfl
    refine hK.out _ _ (an ⟨((cell_far (p := ⟨gb342, _, none⟩) NB340_342.out _).trans (((cell_far (p := ⟨gb342, _, none⟩) NB340_342.out _).trans (hHeld.1.1)))), ((cell_far (p := ⟨gb342, _, none⟩) NB340_342.out _).trans (((cell_far (p := ⟨gb342, _, none⟩) NB340_342.out _).trans (hHeld.1.2))))⟩ ⟨((cell_far (p := ⟨gb342, _, none⟩) NB341_342.out _).trans (((cell_far (p := ⟨gb342, _, none⟩) NB341_342.out _).trans (hHeld.2.1)))), ((cell_far (p := ⟨gb342, _, none⟩) NB341_342.out _).trans (((cell_far (p := ⟨gb342, _, none⟩) NB341_342.out _).trans (hHeld.2.2.1)))), ((cell_far (p := ⟨gb342, _, none⟩) NB341_342.out _).trans (((cell_far (p := ⟨gb342, _, none⟩) NB341_342.out _).trans (hHeld.2.2.2))))⟩) (fun hHeld => ?_)
    clear hK K
    refine pu 11 (some 5) (bm 12 4095) rfl rfl ?_
    refine done_ (done_of HT_.out (by kernel_rfl)) ?_
    try go_wp2
    refine bodyPost_ret (results_ct rfl _ _ gb342 25 #[.slice Ao39 t348.length co39, .int .i64 t351] (0, 0) _ rfl (zp BK342) Try.underlying25 rfl (by kernel_rfl)) rfl ?_
    exact ⟨_, ze, (Kd.R_mono (ztR (Kd.R_types HO350.out BK342.out (by decide))) (fun _ hk => hk.1.1.1.1)), zb HB, by repeat (first | (with_reducible first | exact HK.out | apply Kept.alloc | apply Kept.drewN | apply Kept.drew | refine Kept.setCell ?_ (.inr GW340.out) _ | refine Kept.setCell ?_ (.inr GW341.out) _ | refine Kept.setCell ?_ (.inr GW342.out) _) | exact HK.out)⟩
   ·skip
    exact absurd H (by simp)

end Go.Proofs.Ytdhahifdcoinhaa.PFnHeadFixed
