-- WRITTEN BY a turned print (wip/tools of the prover's repo)
import Derived.Test.YtlpibelofcabhaaDoorPFnExactEndCallx0
import Derived.Test.YtlpibelofcabhaaDoorPFnExactEndCallx5
namespace Go.Proofs.YtlpibelofcabhaaDoor.PFnExactEndCall
open Go.RowKit Go.Proofs.YtlpibelofcabhaaDoorW.PrintWords Go.Proofs.YtlpibelofcabhaaDoorW.PrintLast Go.Proofs.YtlpibelofcabhaaDoorW.PrintMore Go.Proofs.YtlpibelofcabhaaDoor.Lm
attribute [local go_sem] max2_int min2_int max_two min_two max_three min_three max_four min_four   -- for this text's walks alone
set_option linter.unusedVariables false
set_option linter.unusedSimpArgs false

/-! ### laws_toFrameS: function 20 -/
-- thin
def laws_toFrameS.l0 : Nat → List (S76) → List (S79) → Int → Option ((List (S79)))
 | 0, _, _, _ => none
 | k + 1, x0, x3, x4 => if x4 < (x0.length : Int) then (if 0 ≤ x4 then ((laws_toFrame.f ((rd_T76 x0 x4).f0) ((rd_T76 x0 x4).f1) ((rd_T76 x0 x4).f2) ((rd_T76 x0 x4).f3)).bind fun bt320 => (if x4 < (x3.length : Int) then (laws_toFrameS.l0 k x0 (x3.set (x4 : Int).toNat (⟨bt320.1, bt320.2.1, bt320.2.2.1, bt320.2.2.2⟩ : S79)) (wrap64 (x4 + 1))) else (none))) else (none)) else (some x3)
def laws_toFrameS.f (k : Nat) (l0 : List (S76)) : Option ((List (S79))) := if 0 ≤ (l0.length : Int) then (if ((l0.length : Int) : Int).toNat ≤ 7036874417766 then (laws_toFrameS.l0 k l0 (List.replicate ((l0.length : Int) : Int).toNat z79) 0) else (none)) else (none)
theorem laws_toFrameS.mono_l : ∀ k, (∀ y0 y1 y2, LeO (laws_toFrameS.l0 k y0 y1 y2) (laws_toFrameS.l0 (k + 1) y0 y1 y2))
 | 0 => fun _ _ _ r h => by simp [laws_toFrameS.l0] at h
 | k + 1 => by
  have ih0 := laws_toFrameS.mono_l k
  ·intro y0 y1 y2
   unfold laws_toFrameS.l0
   exact zm
theorem laws_toFrameS.mono : ∀ a0 k, LeO (laws_toFrameS.f k a0) (laws_toFrameS.f (k + 1) a0) := by
 intro a0 k
 have ih0 := laws_toFrameS.mono_l k
 unfold laws_toFrameS.f
 exact zm
set_option maxHeartbeats 8000000 in
set_option maxRecDepth 100000 in
theorem laws_toFrameS.calls (k : Nat) (A0 : Option Addr) (c0 : Nat) (l0 : List (S76)) (r : List (S79)) (w : World) (hr0 : Kd.C k76 w A0 l0.length l0) (hc0 : l0.length ≤ c0) (h : laws_toFrameS.f k l0 = some r) :
  Calls Tryd.prog 20 #[.slice A0 l0.length c0] w fun e w' => ∃ v0_ : Value, e = .returned (v0_) ∧ Kd.R k79 79 w' w.heap.size (fun _ => True) v0_ r ∧ Below w.heap.size w w' := by
 have hu76 := Tryd.underlying76
 have hu79 := Tryd.underlying79
 have HR0 := Aside0.mk hr0
 have HC0 := Aside0.mk hc0
 clear hr0 hc0
 have HB := Aside0.mk (Below.refl w.heap.size w)
 have H : (if 0 ≤ (l0.length : Int) then (if ((l0.length : Int) : Int).toNat ≤ 7036874417766 then (laws_toFrameS.l0 k l0 (List.replicate ((l0.length : Int) : Int).toNat z79) 0) else (none)) else (none)) = some r := h
 clear h
 replace H := sp H
 rcases H with ⟨c2, H⟩ | ⟨c2, H⟩
 ·skip
  have c2b0 := eq_true c2
  have c2b1 := decide_eq_true c2
  clear c2
  by_cases c3 : ((l0.length : Int) : Int).toNat ≤ 7036874417766
  ·rw [if_pos c3] at H
   have c3b0 := eq_true c3
   have c3b1 := decide_eq_true c3
   clear c3
   obtain ⟨y316, hy316⟩ : ∃ y_ : List (S79), y_ = (List.replicate ((l0.length : Int) : Int).toNat z79) := ⟨_, rfl⟩
   replace H : (laws_toFrameS.l0 k l0 y316 0) = some r := by first | (rw [hy316]; with_reducible exact H) | (have H2_ := (Option.bind_some _ _).symm.trans H; rw [hy316]; with_reducible exact H2_) | (have H2_ := (Option.bind_some _ _).symm.trans H; with_reducible exact H2_) | with_reducible exact H | (rw [hy316]; exact H) | exact H
   have Ny316 := Aside0.mk hy316
   clear hy316
   have H' := Aside0.mk H
   clear H
   go_enter Tryd.func20, Tryd.ntmps20
   go_wp2_with (first | ((with_reducible refine gd 7 rfl ?_); refine Kd.R_make k79 _ 79 rfl (N := 7) rfl 37 _ _ rfl (l0.length : Int) rfl rfl Tryd.underlying37 (.agg #[(.int .i64 0), (.bool false), (.int .i64 0), (.string ⟨#[]⟩)]) 40 info79 rfl (by decide) (by omega) z79 (ok := fun _ => True) (okp := fun _ => True) (k79_mkM _ _ _ z79 ) (fun _ hk => hk) trivial (of_decide_eq_true za) (Nat.le_trans (Nat.mul_le_mul_right _ (of_decide_eq_true za : (l0.length : Int).toNat ≤ 7036874417766)) (by omega)) (Below.refl _ _) (Nat.le_refl _) ?_; intro v317 w4 ho5 hb hg_ hnew_; clear hg_ hnew_; (first | rw [← Ny316.out] at ho5 | (simp only [Int.reduceToNat] at ho5; rw [← Ny316.out] at ho5)); have HO318 := Aside0.mk (Kd.R_lower ho5 (below_size (zb HB))); replace HB := Aside0.mk (below_step (zb HB) hb); clear hb ho5))
   go_loopg [4] k (fun kq v4 w' => ∃ (x3_1 : List (S79)) (x4_1 : Int), v4 = .int .i64 x4_1 ∧ Aside0 (laws_toFrameS.l0 kq l0 x3_1 x4_1 = some r) ∧ Aside0 (kq ≤ k) ∧ Aside0 (Kd.R k79 79 w' w.heap.size (fun _ => True) v317 x3_1) ∧ Aside0 (Below w.heap.size w w'))
   case atStart => exact ⟨(y316), (0), zs, H', ⟨Nat.le_refl _⟩, ⟨by exact zr HO318⟩, ⟨zb HB⟩⟩
   case round =>
    clear H'
    try clear c2
    try clear c2b0
    try clear c2b1
    try clear p2
    try clear c3
    try clear c3b0
    try clear c3b1
    obtain ⟨x3_1, x4_1, rfl, HA, HK1, HO_3, HB⟩ := hrel
    cases gk with
    | zero => exact absurd HA.out (by simp [laws_toFrameS.l0])
    | succ k1 =>
     have H := HA.out
     clear HA
     simp only [laws_toFrameS.l0] at H
     by_cases c6 : x4_1 < (l0.length : Int)
     ·rw [if_pos c6] at H
      have c6b0 := decide_eq_true c6
      clear c6
      by_cases c7 : 0 ≤ x4_1
      ·rw [if_pos c7] at H
       have c7b0 := decide_eq_true c7
       clear c7
       obtain ⟨⟨t320, t321, t322, t323⟩, A8, H⟩ := ob H
       (try dsimp only at H)
       by_cases c9 : x4_1 < (x3_1.length : Int)
       ·rw [if_pos c9] at H
        have c9b0 := decide_eq_true c9
        clear c9
        obtain ⟨y324, hy324⟩ : ∃ y_ : List (S79), y_ = (x3_1.set (x4_1 : Int).toNat (⟨t320, t321, t322, t323⟩ : S79)) := ⟨_, rfl⟩
        replace H : (laws_toFrameS.l0 k1 l0 y324 (wrap64 (x4_1 + 1))) = some r := by first | (rw [hy324]; with_reducible exact H) | (have H2_ := (Option.bind_some _ _).symm.trans H; rw [hy324]; with_reducible exact H2_) | (have H2_ := (Option.bind_some _ _).symm.trans H; with_reducible exact H2_) | with_reducible exact H | (rw [hy324]; exact H) | exact H
        have Ny324 := Aside0.mk hy324
        clear hy324
        have H' := Aside0.mk H
        clear H
        have p319 : 0 ≤ (x4_1 : Int) := of_decide_eq_true za
        have q319 : x4_1 < (l0.length : Int) := of_decide_eq_true za
        obtain ⟨ad319, e319, hx319_0, hx319_1, hx319_2, hx319_3⟩ := at_T76 HR0.out x4_1 p319 q319
        cases e319
        replace hx319_0 := cb0 hx319_0 HB
        replace hx319_1 := cb0 hx319_1 HB
        replace hx319_2 := cb0 hx319_2 HB
        replace hx319_3 := cb0 hx319_3 HB
        replace p319 := eq_true p319
        replace q319 := eq_true q319
        go_wp2_with (first | ((with_reducible refine gq 50 rfl ?_); refine gl (some 20) Tryd.func50 #[.agg #[.int .i64 ((rd_T76 l0 x4_1).f0), .bool ((rd_T76 l0 x4_1).f1), .int .i64 ((rd_T76 l0 x4_1).f2), .string ((rd_T76 l0 x4_1).f3)]] ?_; (with_reducible refine (laws_toFrame.calls ((rd_T76 l0 x4_1).f0) ((rd_T76 l0 x4_1).f1) ((rd_T76 l0 x4_1).f2) ((rd_T76 l0 x4_1).f3) t320 t321 t322 t323 _ A8.out).mono ?_); rintro e w11 ⟨rfl, hb⟩; refine ⟨_, rfl, ?_⟩; replace HO_3 := Aside0.mk (Kd.R_below (zr HO_3) hb); replace HB := Aside0.mk (below_step (zb HB) hb); (try clear hb); have p10 : 0 ≤ (x4_1 : Int) := of_decide_eq_true za; have q10 : (x4_1 : Int) < ((x3_1.length : Int) : Int) := of_decide_eq_true za; obtain ⟨go10, co10, eo10, gb10, gl10, cl10, HG10⟩ := Kd.R_form HO_3.out (by omega); (first | cases eo10 | (injection eo10 with ea_ en_ ec_; (first | subst ea_ | (injection ea_ with ea_; subst ea_)); subst ec_; clear en_)); have GB10 := Aside0.mk gb10; have GG10 := Aside0.mk HG10; clear gb10 gl10 HG10; obtain ⟨ce10, hcl10, hM10, hcc10, hfr10⟩ := Kd.R_elem HO_3.out z79 (x4_1 : Int) p10 q10; obtain rfl := k79_openM hM10; have hx10_0 : w11.cell? ⟨go10, (x4_1 : Int).toNat * 4, none⟩ = some (.int .i64 ((rd_T79 x3_1 x4_1).f0)) := hcc10 0 _ rfl; have hx10_1 : w11.cell? ⟨go10, (x4_1 : Int).toNat * 4 + 1, none⟩ = some (.bool ((rd_T79 x3_1 x4_1).f1)) := hcc10 1 _ rfl; have hx10_2 : w11.cell? ⟨go10, (x4_1 : Int).toNat * 4 + 2, none⟩ = some (.int .i64 ((rd_T79 x3_1 x4_1).f2)) := hcc10 2 _ rfl; have hx10_3 : w11.cell? ⟨go10, (x4_1 : Int).toNat * 4 + 3, none⟩ = some (.string ((rd_T79 x3_1 x4_1).f3)) := hcc10 3 _ rfl; have hf10_0 : w11.frozen? ⟨go10, (x4_1 : Int).toNat * 4, none⟩ = false := hfr10 0; have hf10_1 : w11.frozen? ⟨go10, (x4_1 : Int).toNat * 4 + 1, none⟩ = false := hfr10 1; have hf10_2 : w11.frozen? ⟨go10, (x4_1 : Int).toNat * 4 + 2, none⟩ = false := hfr10 2; have hf10_3 : w11.frozen? ⟨go10, (x4_1 : Int).toNat * 4 + 3, none⟩ = false := hfr10 3; clear hcl10 hcc10 hfr10 hM10; replace p10 := eq_true p10; replace q10 := eq_true q10; have HX12 := Aside0.mk (show Kd.R k79 79 w11 w.heap.size (fun _ => True) (.slice (some ⟨go10, 0, none⟩) x3_1.length co10) x3_1 from (zr HO_3)); obtain ⟨ce12, hcl12, hM12, hcc12, hfr12⟩ := Kd.R_elem HX12.out z79 (x4_1 : Int) (of_decide_eq_true za) (by have h_ : (x4_1 : Int) < ((x3_1.length : Int) : Int) := of_decide_eq_true za; first | exact h_ | (have e_ := (Kd.R_reads' HO_3.out).1; omega) | simpa using h_); obtain rfl := k79_openM hM12; have HP12 := Kd.R_seg HX12.out (x4_1 : Int) (of_decide_eq_true za) (by have h_ : (x4_1 : Int) < ((x3_1.length : Int) : Int) := of_decide_eq_true za; first | exact h_ | (have e_ := (Kd.R_reads' HO_3.out).1; omega) | simpa using h_) (seg := [.int .i64 t320, .bool t321, .int .i64 t322, .string t323]) (j := 0) hcl12 hcc12 (show 4 ≤ 4 from by decide) (x' := (⟨t320, t321, t322, t323⟩ : S79)) (k79_mkM _ _ _ (⟨t320, t321, t322, t323⟩ : S79) ) (fun _ hk => hk); have hx12_0 := hcc12 0 _ rfl; (try simp only [show (k79).sz = 4 from rfl, Nat.mul_one, Nat.add_zero] at hx12_0); have hf12_0 := hfr12 0; (try simp only [show (k79).sz = 4 from rfl, Nat.mul_one, Nat.add_zero] at hf12_0); have hx12_1 := hcc12 1 _ rfl; (try simp only [show (k79).sz = 4 from rfl, Nat.mul_one, Nat.add_zero] at hx12_1); have hf12_1 := hfr12 1; (try simp only [show (k79).sz = 4 from rfl, Nat.mul_one, Nat.add_zero] at hf12_1); have hx12_2 := hcc12 2 _ rfl; (try simp only [show (k79).sz = 4 from rfl, Nat.mul_one, Nat.add_zero] at hx12_2); have hf12_2 := hfr12 2; (try simp only [show (k79).sz = 4 from rfl, Nat.mul_one, Nat.add_zero] at hf12_2); have hx12_3 := hcc12 3 _ rfl; (try simp only [show (k79).sz = 4 from rfl, Nat.mul_one, Nat.add_zero] at hx12_3); have hf12_3 := hfr12 3; (try simp only [show (k79).sz = 4 from rfl, Nat.mul_one, Nat.add_zero] at hf12_3); clear hcl12 hcc12 hfr12 hM12) | ((with_reducible refine gate_store (t := 79) (p := 21) rfl ?_); refine store_event (t := 79) (p := 21) (v := ?vo_w13) (w1 := ((((w11.setCell ⟨go10, (x4_1 : Int).toNat * 4, none⟩ (.int .i64 t320)).setCell ⟨go10, (x4_1 : Int).toNat * 4 + 1, none⟩ (.bool t321)).setCell ⟨go10, (x4_1 : Int).toNat * 4 + 2, none⟩ (.int .i64 t322)).setCell ⟨go10, (x4_1 : Int).toNat * 4 + 3, none⟩ (.string t323))) ?hg ?ho ?hn ?hr ?_; (case ho => rfl); (case hg => rfl); (case hn => rfl); (case hr => first | (go_simp; done) | (go_simp; rfl)); intro w13 hw; have hg : w11.grownBy w13 (some go10) := (by rw [hw]; exact HP12.2); have hp_ : Kd.R k79 79 w13 w.heap.size (fun _ => True) (.slice (some ⟨go10, 0, none⟩) x3_1.length co10) y324 := (by rw [hw, Ny324.out]; exact HP12.1); clear HP12; replace HO_3 := Aside0.mk (hp_); replace HB := Aside0.mk ((by rw [hw]; exact below_set (below_set (below_set (below_set (HB.out) GB10.out) GB10.out) GB10.out) GB10.out : Below w.heap.size w w13)); clear hg hw hp_))
        go_roundg k1
        case measure => have := HK1.out; omega
        case rel => exact ⟨(y324), (wrap64 (x4_1 + 1)), zs, H', ⟨by have := HK1.out; omega⟩, ⟨by exact zr HO_3⟩, ⟨zb HB⟩⟩
       ·rw [if_neg c9] at H
        exact absurd H (by simp)
      ·rw [if_neg c7] at H
       exact absurd H (by simp)
     ·rw [if_neg c6] at H
      have c6b0 := decide_eq_false c6
      clear c6
      obtain rfl := Option.some.inj H
      go_wp2
      go_ret
      exact ⟨_, ze, zq (HO_3.out), zb HB⟩
  ·rw [if_neg c3] at H
   exact absurd H (by simp)
 ·skip
  exact absurd H (by simp)

/-! ### laws_toEnd: function 6 -/
-- thin
def laws_toEnd.f (k : Nat) (a0_0 : Bool) (l0_1 : List (S96)) (a0_2 : Int) (l0_3 : List (S96)) (a0_4 : Int) (a0_5 : ByteArray) (l0_6 : List (S73)) (a0_7 : Int) (a0_8 : Int) (l0_9 : List (S76)) (a0_10 : Bool) : Option (Bool × (List (S61)) × Int × (List (S61)) × Int × ByteArray × (List (S58)) × Int × Int × (List (S79)) × Bool) := (laws_toTable.f k l0_1 a0_2).bind fun bt328 => ((laws_toTable.f k l0_3 a0_4).bind fun bt332 => ((laws_toStreamS.f k l0_6).bind fun t336 => ((laws_toFlow.f a0_7 a0_8).bind fun bt339 => ((laws_toFrameS.f k l0_9).bind fun t341 => (some (a0_0, bt328.1, bt328.2, bt332.1, bt332.2, a0_5, t336, bt339.1, bt339.2, t341, a0_10))))))
theorem laws_toEnd.mono : ∀ a0 a1 a2 a3 a4 a5 a6 a7 a8 a9 a10 k, LeO (laws_toEnd.f k a0 a1 a2 a3 a4 a5 a6 a7 a8 a9 a10) (laws_toEnd.f (k + 1) a0 a1 a2 a3 a4 a5 a6 a7 a8 a9 a10) := by
 intro a0 a1 a2 a3 a4 a5 a6 a7 a8 a9 a10 k
 unfold laws_toEnd.f
 have m0 := @laws_toFrameS.mono
 have m1 := @laws_toStreamS.mono
 have m2 := @laws_toTable.mono
 exact zm
set_option maxHeartbeats 8000000 in
set_option maxRecDepth 100000 in
theorem laws_toEnd.calls (k : Nat) (a0_0 : Bool) (A0_1 : Option Addr) (c0_1 : Nat) (l0_1 : List (S96)) (a0_2 : Int) (A0_3 : Option Addr) (c0_3 : Nat) (l0_3 : List (S96)) (a0_4 : Int) (a0_5 : ByteArray) (A0_6 : Option Addr) (c0_6 : Nat) (l0_6 : List (S73)) (a0_7 : Int) (a0_8 : Int) (A0_9 : Option Addr) (c0_9 : Nat) (l0_9 : List (S76)) (a0_10 : Bool) (r1 : Bool) (r2 : List (S61)) (r3 : Int) (r4 : List (S61)) (r5 : Int) (r6 : ByteArray) (r7 : List (S58)) (r8 : Int) (r9 : Int) (r10 : List (S79)) (r11 : Bool) (w : World) (hr0_1 : Kd.C k96 w A0_1 l0_1.length l0_1) (hc0_1 : l0_1.length ≤ c0_1) (hr0_3 : Kd.C k96 w A0_3 l0_3.length l0_3) (hc0_3 : l0_3.length ≤ c0_3) (hr0_6 : Kd.C k73 w A0_6 l0_6.length l0_6) (hc0_6 : l0_6.length ≤ c0_6) (hr0_9 : Kd.C k76 w A0_9 l0_9.length l0_9) (hc0_9 : l0_9.length ≤ c0_9) (h : laws_toEnd.f k a0_0 l0_1 a0_2 l0_3 a0_4 a0_5 l0_6 a0_7 a0_8 l0_9 a0_10 = some (r1, r2, r3, r4, r5, r6, r7, r8, r9, r10, r11)) :
  Calls Tryd.prog 6 #[.agg #[.bool a0_0, .slice A0_1 l0_1.length c0_1, .int .i64 a0_2, .slice A0_3 l0_3.length c0_3, .int .i64 a0_4, .string a0_5, .slice A0_6 l0_6.length c0_6, .int .i64 a0_7, .int .i64 a0_8, .slice A0_9 l0_9.length c0_9, .bool a0_10]] w fun e w' => ∃ v1_ v3_ v6_ v9_ : Value, e = .returned (.agg #[.bool r1, v1_, .int .i64 r3, v3_, .int .i64 r5, .string r6, v6_, .int .i64 r8, .int .i64 r9, v9_, .bool r11]) ∧ Kd.R k61 61 w' w.heap.size (fun k_ => some k_ ≠ (v3_ : Value).ownBlock) v1_ r2 ∧ Kd.R k61 61 w' w.heap.size (fun k_ => some k_ ≠ (v1_ : Value).ownBlock) v3_ r4 ∧ Kd.S k58 58 w' w.heap.size (fun k_ => some k_ ≠ (v1_ : Value).ownBlock ∧ some k_ ≠ (v3_ : Value).ownBlock) v6_ r7 ∧ Kd.R k79 79 w' w.heap.size (fun _ => True) v9_ r10 ∧ Below w.heap.size w w' := by
 have hu30 := Tryd.underlying30
 have hu39 := Tryd.underlying39
 have hu24 := Tryd.underlying24
 have hu34 := Tryd.underlying34
 have hu27 := Tryd.underlying27
 have hu36 := Tryd.underlying36
 have HR0_1 := Aside0.mk hr0_1
 have HC0_1 := Aside0.mk hc0_1
 clear hr0_1 hc0_1
 have HR0_3 := Aside0.mk hr0_3
 have HC0_3 := Aside0.mk hc0_3
 clear hr0_3 hc0_3
 have HR0_6 := Aside0.mk hr0_6
 have HC0_6 := Aside0.mk hc0_6
 clear hr0_6 hc0_6
 have HR0_9 := Aside0.mk hr0_9
 have HC0_9 := Aside0.mk hc0_9
 clear hr0_9 hc0_9
 have HB := Aside0.mk (Below.refl w.heap.size w)
 have H : ((laws_toTable.f k l0_1 a0_2).bind fun bt328 => ((laws_toTable.f k l0_3 a0_4).bind fun bt332 => ((laws_toStreamS.f k l0_6).bind fun t336 => ((laws_toFlow.f a0_7 a0_8).bind fun bt339 => ((laws_toFrameS.f k l0_9).bind fun t341 => (some (a0_0, bt328.1, bt328.2, bt332.1, bt332.2, a0_5, t336, bt339.1, bt339.2, t341, a0_10))))))) = some (r1, r2, r3, r4, r5, r6, r7, r8, r9, r10, r11) := h
 clear h
 obtain ⟨⟨t328, t331⟩, A2, H⟩ := ob H
 (try dsimp only at H)
 obtain ⟨⟨t332, t335⟩, A3, H⟩ := ob H
 (try dsimp only at H)
 obtain ⟨t336, A4, H⟩ := ob H
 (try dsimp only at H)
 obtain ⟨⟨t339, t340⟩, A5, H⟩ := ob H
 (try dsimp only at H)
 obtain ⟨t341, A6, H⟩ := ob H
 (try dsimp only at H)
 simp only [Option.some.injEq, Prod.mk.injEq] at H
 obtain ⟨rfl, rfl, rfl, rfl, rfl, rfl, rfl, rfl, rfl, rfl, rfl⟩ := H
 go_enter Tryd.func6, Tryd.ntmps6
 go_wp2_with (first | ((with_reducible refine gd 1 rfl ?_); refine bx (N := 1) (cs := #[.bool a0_0, .slice A0_1 l0_1.length c0_1, .int .i64 a0_2, .slice A0_3 l0_3.length c0_3, .int .i64 a0_4, .string a0_5, .slice A0_6 l0_6.length c0_6, .int .i64 a0_7, .int .i64 a0_8, .slice A0_9 l0_9.length c0_9, .bool a0_10]) (t := 30) ?_; intro gb325 hg w7 hbox hb; have BK325 := Aside0.mk (hbox); have GW325 := gw HB hg; have GE325 := GW325; replace HB := Aside0.mk (below_step (zb HB) hb); clear hb hbox hg) | ((with_reducible refine gd 2 rfl ?_); refine bx (N := 2) (cs := #[.bool false, .slice none 0 0, .int .i64 0, .slice none 0 0, .int .i64 0, .string (⟨#[]⟩ : ByteArray), .slice none 0 0, .int .i64 0, .int .i64 0, .slice none 0 0, .bool false]) (t := 39) ?_; intro gb326 hg w8 hbox hb; have BK326 := Aside0.mk (hbox); have GW326 := gw HB hg; have GE326 := GW326; replace HB := Aside0.mk (below_step (zb HB) hb); obtain ⟨NB325_326, NB326_325⟩ := nb BK325 hg; replace BK325 := kb BK325 hb; clear hb hbox hg) | ((with_reducible refine gd 3 rfl ?_); refine bx (N := 3) (cs := #[.bool false, .slice none 0 0, .int .i64 0, .slice none 0 0, .int .i64 0, .string (⟨#[]⟩ : ByteArray), .slice none 0 0, .int .i64 0, .int .i64 0, .slice none 0 0, .bool false]) (t := 39) ?_; intro gb327 hg w9 hbox hb; have BK327 := Aside0.mk (hbox); have GW327 := gw HB hg; have GE327 := GW327; replace HB := Aside0.mk (below_step (zb HB) hb); obtain ⟨NB325_327, NB327_325⟩ := nb BK325 hg; replace BK325 := kb BK325 hb; obtain ⟨NB326_327, NB327_326⟩ := nb BK326 hg; replace BK326 := kb BK326 hb; clear hb hbox hg; have hnb10 := NB325_326.out; have hnc10 := NB326_325.out; have hnb11 := NB325_327.out; have hnc11 := NB327_325.out; obtain ⟨hcz12_0, hcz12_1, hcz12_2, hcz12_3, hcz12_4, hcz12_5, hcz12_6, hcz12_7, hcz12_8, hcz12_9, hcz12_10, hfz12_0, hfz12_1, hfz12_2, hfz12_3, hfz12_4, hfz12_5, hfz12_6, hfz12_7, hfz12_8, hfz12_9, hfz12_10⟩ := c11 BK325; have hnb13 := NB327_326.out; have hnc13 := NB326_327.out; obtain ⟨hcz14_0, hcz14_1, hcz14_2, hcz14_3, hcz14_4, hcz14_5, hcz14_6, hcz14_7, hcz14_8, hcz14_9, hcz14_10, hfz14_0, hfz14_1, hfz14_2, hfz14_3, hfz14_4, hfz14_5, hfz14_6, hfz14_7, hfz14_8, hfz14_9, hfz14_10⟩ := c11 BK327) | ((with_reducible refine gq 17 rfl ?_); refine gl (some 9) Tryd.func17 #[.agg #[.slice A0_1 l0_1.length c0_1, .int .i64 a0_2]] ?_; (with_reducible refine (laws_toTable.calls k _ _ l0_1 a0_2 t328 t331 _ ?side1 ?side2 A2.out).mono ?_); (case side1 => exact Kd.C_below HR0_1.out (zb HB)); (case side2 => exact HC0_1.out); rintro e w15 ⟨v329, rfl, ho0, hb⟩; refine ⟨_, rfl, ?_⟩; have HO330 := Aside0.mk (Kd.R_lower ho0 (below_size (zb HB))); replace BK325 := Aside0.mk (blk_below (g := gb325) (o := .cells #[.bool a0_0, .slice A0_1 l0_1.length c0_1, .int .i64 a0_2, .slice A0_3 l0_3.length c0_3, .int .i64 a0_4, .string a0_5, .slice A0_6 l0_6.length c0_6, .int .i64 a0_7, .int .i64 a0_8, .slice A0_9 l0_9.length c0_9, .bool a0_10] 30 (0, 0)) (zp BK325) hb); replace BK326 := Aside0.mk (blk_below (g := gb326) (o := .cells #[.bool false, .slice none 0 0, .int .i64 0, .slice none 0 0, .int .i64 0, .string (⟨#[]⟩ : ByteArray), .slice none 0 0, .int .i64 0, .int .i64 0, .slice none 0 0, .bool false] 39 (0, 0)) (zp BK326) hb); replace BK327 := Aside0.mk (blk_below (g := gb327) (o := .cells #[.bool a0_0, .slice none 0 0, .int .i64 0, .slice none 0 0, .int .i64 0, .string (⟨#[]⟩ : ByteArray), .slice none 0 0, .int .i64 0, .int .i64 0, .slice none 0 0, .bool false] 39 (0, 0)) (zp BK327) hb); replace HB := Aside0.mk (below_step (zb HB) hb); (try clear hb); (try clear ho0); obtain ⟨Ao16, co16, eo16⟩ := Kd.R_slice HO330.out; subst eo16; obtain ⟨hcz17_0, hcz17_1, hcz17_2, hcz17_3, hcz17_4, hcz17_5, hcz17_6, hcz17_7, hcz17_8, hcz17_9, hcz17_10, hfz17_0, hfz17_1, hfz17_2, hfz17_3, hfz17_4, hfz17_5, hfz17_6, hfz17_7, hfz17_8, hfz17_9, hfz17_10⟩ := c11 BK327; obtain ⟨hcz18_0, hcz18_1, hcz18_2, hcz18_3, hcz18_4, hcz18_5, hcz18_6, hcz18_7, hcz18_8, hcz18_9, hcz18_10, hfz18_0, hfz18_1, hfz18_2, hfz18_3, hfz18_4, hfz18_5, hfz18_6, hfz18_7, hfz18_8, hfz18_9, hfz18_10⟩ := c11 BK325) | ((with_reducible refine gq 17 rfl ?_); refine gl (some 13) Tryd.func17 #[.agg #[.slice A0_3 l0_3.length c0_3, .int .i64 a0_4]] ?_; (with_reducible refine (laws_toTable.calls k _ _ l0_3 a0_4 t332 t335 _ ?side1 ?side2 A3.out).mono ?_); (case side1 => exact Kd.C_below HR0_3.out (zb HB)); (case side2 => exact HC0_3.out); rintro e w19 ⟨v333, rfl, ho0, hb⟩; refine ⟨_, rfl, ?_⟩; have HO334 := Aside0.mk (Kd.R_lower (Kd.R_new' ho0 (Kd.R_lt (((Kd.R_mono (ztR (Kd.R_types HO330.out BK327.out (by decide))) (fun _ h_ => h_.1)))))) (below_size (zb HB))); replace HO330 := Aside0.mk (Kd.R_elder' (((Kd.R_mono (ztR (Kd.R_types HO330.out BK327.out (by decide))) (fun _ h_ => h_.1)))) (Kd.R_base ho0) hb); replace BK325 := Aside0.mk (blk_below (g := gb325) (o := .cells #[.bool a0_0, .slice A0_1 l0_1.length c0_1, .int .i64 a0_2, .slice A0_3 l0_3.length c0_3, .int .i64 a0_4, .string a0_5, .slice A0_6 l0_6.length c0_6, .int .i64 a0_7, .int .i64 a0_8, .slice A0_9 l0_9.length c0_9, .bool a0_10] 30 (0, 0)) (zp BK325) hb); replace BK326 := Aside0.mk (blk_below (g := gb326) (o := .cells #[.bool false, .slice none 0 0, .int .i64 0, .slice none 0 0, .int .i64 0, .string (⟨#[]⟩ : ByteArray), .slice none 0 0, .int .i64 0, .int .i64 0, .slice none 0 0, .bool false] 39 (0, 0)) (zp BK326) hb); replace BK327 := Aside0.mk (blk_below (g := gb327) (o := .cells #[.bool a0_0, .slice Ao16 t328.length co16, .int .i64 t331, .slice none 0 0, .int .i64 0, .string (⟨#[]⟩ : ByteArray), .slice none 0 0, .int .i64 0, .int .i64 0, .slice none 0 0, .bool false] 39 (0, 0)) (zp BK327) hb); replace HB := Aside0.mk (below_step (zb HB) hb); (try clear hb); (try clear ho0); obtain ⟨Ao20, co20, eo20⟩ := Kd.R_slice HO334.out; subst eo20; obtain ⟨hcz21_0, hcz21_1, hcz21_2, hcz21_3, hcz21_4, hcz21_5, hcz21_6, hcz21_7, hcz21_8, hcz21_9, hcz21_10, hfz21_0, hfz21_1, hfz21_2, hfz21_3, hfz21_4, hfz21_5, hfz21_6, hfz21_7, hfz21_8, hfz21_9, hfz21_10⟩ := c11 BK327; obtain ⟨hcz22_0, hcz22_1, hcz22_2, hcz22_3, hcz22_4, hcz22_5, hcz22_6, hcz22_7, hcz22_8, hcz22_9, hcz22_10, hfz22_0, hfz22_1, hfz22_2, hfz22_3, hfz22_4, hfz22_5, hfz22_6, hfz22_7, hfz22_8, hfz22_9, hfz22_10⟩ := c11 BK325) | ((with_reducible refine gq 18 rfl ?_); refine gl (some 20) Tryd.func18 #[.slice A0_6 l0_6.length c0_6] ?_; (with_reducible refine (laws_toStreamS.calls k _ _ l0_6 t336 _ ?side1 ?side2 A4.out).mono ?_); (case side1 => exact Kd.C_below HR0_6.out (zb HB)); (case side2 => exact HC0_6.out); rintro e w23 ⟨v337, rfl, ho0, hb⟩; refine ⟨_, rfl, ?_⟩; have HO338 := Aside0.mk (Kd.S_lower (Kd.S_new' (Kd.S_new' ho0 (Kd.R_lt (((Kd.R_mono (ztR (Kd.R_types HO330.out BK327.out (by decide))) (fun _ h_ => h_.1)))))) (Kd.R_lt (((Kd.R_mono (ztR (Kd.R_types HO334.out BK327.out (by decide))) (fun _ h_ => h_.1)))))) (below_size (zb HB))); replace HO330 := Aside0.mk (Kd.R_below (((Kd.R_mono (ztR (Kd.R_types HO330.out BK327.out (by decide))) (fun _ h_ => h_.1)))) hb); replace HO334 := Aside0.mk (Kd.R_below (((Kd.R_mono (ztR (Kd.R_types HO334.out BK327.out (by decide))) (fun _ h_ => h_.1)))) hb); replace BK325 := Aside0.mk (blk_below (g := gb325) (o := .cells #[.bool a0_0, .slice A0_1 l0_1.length c0_1, .int .i64 a0_2, .slice A0_3 l0_3.length c0_3, .int .i64 a0_4, .string a0_5, .slice A0_6 l0_6.length c0_6, .int .i64 a0_7, .int .i64 a0_8, .slice A0_9 l0_9.length c0_9, .bool a0_10] 30 (0, 0)) (zp BK325) hb); replace BK326 := Aside0.mk (blk_below (g := gb326) (o := .cells #[.bool false, .slice none 0 0, .int .i64 0, .slice none 0 0, .int .i64 0, .string (⟨#[]⟩ : ByteArray), .slice none 0 0, .int .i64 0, .int .i64 0, .slice none 0 0, .bool false] 39 (0, 0)) (zp BK326) hb); replace BK327 := Aside0.mk (blk_below (g := gb327) (o := .cells #[.bool a0_0, .slice Ao16 t328.length co16, .int .i64 t331, .slice Ao20 t332.length co20, .int .i64 t335, .string a0_5, .slice none 0 0, .int .i64 0, .int .i64 0, .slice none 0 0, .bool false] 39 (0, 0)) (zp BK327) hb); replace HB := Aside0.mk (below_step (zb HB) hb); (try clear hb); (try clear ho0); obtain ⟨Ao24, co24, eo24⟩ := Kd.S_slice HO338.out; subst eo24; obtain ⟨hcz25_0, hcz25_1, hcz25_2, hcz25_3, hcz25_4, hcz25_5, hcz25_6, hcz25_7, hcz25_8, hcz25_9, hcz25_10, hfz25_0, hfz25_1, hfz25_2, hfz25_3, hfz25_4, hfz25_5, hfz25_6, hfz25_7, hfz25_8, hfz25_9, hfz25_10⟩ := c11 BK327; obtain ⟨hcz26_0, hcz26_1, hcz26_2, hcz26_3, hcz26_4, hcz26_5, hcz26_6, hcz26_7, hcz26_8, hcz26_9, hcz26_10, hfz26_0, hfz26_1, hfz26_2, hfz26_3, hfz26_4, hfz26_5, hfz26_6, hfz26_7, hfz26_8, hfz26_9, hfz26_10⟩ := c11 BK325) | ((with_reducible refine gq 19 rfl ?_); refine gl (some 24) Tryd.func19 #[.agg #[.int .i64 a0_7, .int .i64 a0_8]] ?_; (with_reducible refine (laws_toFlow.calls a0_7 a0_8 t339 t340 _ A5.out).mono ?_); rintro e w27 ⟨rfl, hb⟩; refine ⟨_, rfl, ?_⟩; replace HO330 := Aside0.mk (Kd.R_below (((Kd.R_mono (ztR (Kd.R_types HO330.out BK327.out (by decide))) (fun _ h_ => h_.1)))) hb); replace HO334 := Aside0.mk (Kd.R_below (((Kd.R_mono (ztR (Kd.R_types HO334.out BK327.out (by decide))) (fun _ h_ => h_.1)))) hb); replace HO338 := Aside0.mk (Kd.S_below (by (with_reducible repeat (first | apply Kd.S_alloc | apply Kd.S_drewN | apply Kd.S_drew)); exact (Kd.S_mono (ztS (Kd.S_types HO338.out BK327.out (by decide))) (fun _ h_ => h_.1))) hb); replace BK325 := Aside0.mk (blk_below (g := gb325) (o := .cells #[.bool a0_0, .slice A0_1 l0_1.length c0_1, .int .i64 a0_2, .slice A0_3 l0_3.length c0_3, .int .i64 a0_4, .string a0_5, .slice A0_6 l0_6.length c0_6, .int .i64 a0_7, .int .i64 a0_8, .slice A0_9 l0_9.length c0_9, .bool a0_10] 30 (0, 0)) (zp BK325) hb); replace BK326 := Aside0.mk (blk_below (g := gb326) (o := .cells #[.bool false, .slice none 0 0, .int .i64 0, .slice none 0 0, .int .i64 0, .string (⟨#[]⟩ : ByteArray), .slice none 0 0, .int .i64 0, .int .i64 0, .slice none 0 0, .bool false] 39 (0, 0)) (zp BK326) hb); replace BK327 := Aside0.mk (blk_below (g := gb327) (o := .cells #[.bool a0_0, .slice Ao16 t328.length co16, .int .i64 t331, .slice Ao20 t332.length co20, .int .i64 t335, .string a0_5, .slice Ao24 t336.length co24, .int .i64 0, .int .i64 0, .slice none 0 0, .bool false] 39 (0, 0)) (zp BK327) hb); replace HB := Aside0.mk (below_step (zb HB) hb); (try clear hb); obtain ⟨hcz28_0, hcz28_1, hcz28_2, hcz28_3, hcz28_4, hcz28_5, hcz28_6, hcz28_7, hcz28_8, hcz28_9, hcz28_10, hfz28_0, hfz28_1, hfz28_2, hfz28_3, hfz28_4, hfz28_5, hfz28_6, hfz28_7, hfz28_8, hfz28_9, hfz28_10⟩ := c11 BK327; obtain ⟨hcz29_0, hcz29_1, hcz29_2, hcz29_3, hcz29_4, hcz29_5, hcz29_6, hcz29_7, hcz29_8, hcz29_9, hcz29_10, hfz29_0, hfz29_1, hfz29_2, hfz29_3, hfz29_4, hfz29_5, hfz29_6, hfz29_7, hfz29_8, hfz29_9, hfz29_10⟩ := c11 BK325) | ((with_reducible refine gq 20 rfl ?_); refine gl (some 28) Tryd.func20 #[.slice A0_9 l0_9.length c0_9] ?_; (with_reducible refine (laws_toFrameS.calls k _ _ l0_9 t341 _ ?side1 ?side2 A6.out).mono ?_); (case side1 => exact Kd.C_below HR0_9.out (zb HB)); (case side2 => exact HC0_9.out); rintro e w30 ⟨v342, rfl, ho0, hb⟩; refine ⟨_, rfl, ?_⟩; replace HO330 := Aside0.mk (Kd.R_below (((Kd.R_mono (ztR (Kd.R_types HO330.out BK327.out (by decide))) (fun _ h_ => h_.1)))) hb); replace HO334 := Aside0.mk (Kd.R_below (((Kd.R_mono (ztR (Kd.R_types HO334.out BK327.out (by decide))) (fun _ h_ => h_.1)))) hb); replace HO338 := Aside0.mk (Kd.S_below (by (with_reducible repeat (first | apply Kd.S_alloc | apply Kd.S_drewN | apply Kd.S_drew)); exact (Kd.S_mono (ztS (Kd.S_types HO338.out BK327.out (by decide))) (fun _ h_ => h_.1))) hb); have HO343 := Aside0.mk (Kd.R_lower ho0 (below_size (zb HB))); replace BK325 := Aside0.mk (blk_below (g := gb325) (o := .cells #[.bool a0_0, .slice A0_1 l0_1.length c0_1, .int .i64 a0_2, .slice A0_3 l0_3.length c0_3, .int .i64 a0_4, .string a0_5, .slice A0_6 l0_6.length c0_6, .int .i64 a0_7, .int .i64 a0_8, .slice A0_9 l0_9.length c0_9, .bool a0_10] 30 (0, 0)) (zp BK325) hb); replace BK326 := Aside0.mk (blk_below (g := gb326) (o := .cells #[.bool false, .slice none 0 0, .int .i64 0, .slice none 0 0, .int .i64 0, .string (⟨#[]⟩ : ByteArray), .slice none 0 0, .int .i64 0, .int .i64 0, .slice none 0 0, .bool false] 39 (0, 0)) (zp BK326) hb); replace BK327 := Aside0.mk (blk_below (g := gb327) (o := .cells #[.bool a0_0, .slice Ao16 t328.length co16, .int .i64 t331, .slice Ao20 t332.length co20, .int .i64 t335, .string a0_5, .slice Ao24 t336.length co24, .int .i64 t339, .int .i64 t340, .slice none 0 0, .bool false] 39 (0, 0)) (zp BK327) hb); replace HB := Aside0.mk (below_step (zb HB) hb); (try clear hb); (try clear ho0); obtain ⟨Ao31, co31, eo31⟩ := Kd.R_slice HO343.out; subst eo31; obtain ⟨hcz32_0, hcz32_1, hcz32_2, hcz32_3, hcz32_4, hcz32_5, hcz32_6, hcz32_7, hcz32_8, hcz32_9, hcz32_10, hfz32_0, hfz32_1, hfz32_2, hfz32_3, hfz32_4, hfz32_5, hfz32_6, hfz32_7, hfz32_8, hfz32_9, hfz32_10⟩ := c11 BK327; obtain ⟨hcz33_0, hcz33_1, hcz33_2, hcz33_3, hcz33_4, hcz33_5, hcz33_6, hcz33_7, hcz33_8, hcz33_9, hcz33_10, hfz33_0, hfz33_1, hfz33_2, hfz33_3, hfz33_4, hfz33_5, hfz33_6, hfz33_7, hfz33_8, hfz33_9, hfz33_10⟩ := c11 BK325; obtain ⟨hcz34_0, hcz34_1, hcz34_2, hcz34_3, hcz34_4, hcz34_5, hcz34_6, hcz34_7, hcz34_8, hcz34_9, hcz34_10, hfz34_0, hfz34_1, hfz34_2, hfz34_3, hfz34_4, hfz34_5, hfz34_6, hfz34_7, hfz34_8, hfz34_9, hfz34_10⟩ := c11 BK326))
 refine bodyPost_ret (results_cell_row rfl _ _ gb326 39 #[.bool a0_0, .slice Ao16 t328.length co16, .int .i64 t331, .slice Ao20 t332.length co20, .int .i64 t335, .string a0_5, .slice Ao24 t336.length co24, .int .i64 t339, .int .i64 t340, .slice Ao31 t341.length co31, .bool a0_10] (0, 0) _ rfl (zp BK326) Tryd.underlying39 rfl (by kernel_rfl)) rfl ?_
 exact ⟨_, _, _, _, ze, (Kd.R_mono (ztR (Kd.R_types (Kd.R_types HO330.out BK327.out (by decide)) BK326.out (by decide))) (fun _ hk => hk.1.1.2)), (Kd.R_mono (ztR (Kd.R_types (Kd.R_types HO334.out BK327.out (by decide)) BK326.out (by decide))) (fun _ hk => hk.1.1.2)), by (with_reducible repeat (first | apply Kd.S_alloc | apply Kd.S_drewN | apply Kd.S_drew)); exact Kd.S_mono (ztS (Kd.S_types (Kd.S_types HO338.out BK327.out (by decide)) BK326.out (by decide))) (fun _ hk => ⟨hk.1.1.1.2, hk.1.1.2⟩), (Kd.R_mono (ztR (Kd.R_types (Kd.R_types HO343.out BK327.out (by decide)) BK326.out (by decide))) (fun _ hk => trivial)), zb HB⟩

/-! ### impl_in: function 75 -/
-- thin
def impl_in.f (a0 : Int) (a1 : Int) (a2 : Int) : Option (Bool) := if a1 ≤ a0 then (some (decide (a0 ≤ a2))) else (some false)
set_option maxHeartbeats 8000000 in
set_option maxRecDepth 100000 in
theorem impl_in.calls (a0 : Int) (a1 : Int) (a2 : Int) (r : Bool) (w : World) (h : impl_in.f a0 a1 a2 = some r) :
  Calls Tryd.prog 75 #[.int .i64 a0, .int .i64 a1, .int .i64 a2] w fun e w' => e = .returned (.bool r) ∧ Drawn0 w w' := by
 have H : (if a1 ≤ a0 then (some (decide (a0 ≤ a2))) else (some false)) = some r := h
 clear h
 replace H := sp H
 rcases H with ⟨c4, H⟩ | ⟨c4, H⟩
 ·skip
  have c4b0 := decide_eq_true c4
  clear c4
  obtain rfl := Option.some.inj H
  go_enter Tryd.func75, Tryd.ntmps75
  go_wp2
  go_ret
  exact ⟨zs, by repeat (first | exact Drawn0.refl _ | apply Drawn0.step)⟩
 ·skip
  have c4b0 := decide_eq_false c4
  clear c4
  obtain rfl := Option.some.inj H
  go_enter Tryd.func75, Tryd.ntmps75
  go_wp2
  go_ret
  exact ⟨zs, by repeat (first | exact Drawn0.refl _ | apply Drawn0.step)⟩

/-! ### impl_isStream: function 51 -/
-- thin
def impl_isStream.f (a0 : Int) : Option (Bool) := (impl_in.f a0 1 7).bind fun t344 => (if t344 = true then (some ((Int.tmod a0 2) == 1)) else (some false))
set_option maxHeartbeats 8000000 in
set_option maxRecDepth 100000 in
theorem impl_isStream.calls (a0 : Int) (r : Bool) (w : World) (h : impl_isStream.f a0 = some r) :
  Calls Tryd.prog 51 #[.int .i64 a0] w fun e w' => e = .returned (.bool r) ∧ Drawn0 w w' := by
 have H : ((impl_in.f a0 1 7).bind fun t344 => (if t344 = true then (some ((Int.tmod a0 2) == 1)) else (some false))) = some r := h
 clear h
 obtain ⟨t344, A2, H⟩ := ob H
 (try dsimp only at H)
 by_cases c3 : t344 = true
 ·subst c3
  rw [if_pos rfl] at H
  obtain rfl := Option.some.inj H
  go_enter Tryd.func51, Tryd.ntmps51
  go_wp2_with (first | ((with_reducible refine gq 75 rfl ?_); refine gl (some 4) Tryd.func75 #[.int .i64 a0, .int .i64 1, .int .i64 7] ?_; (with_reducible refine (impl_in.calls a0 1 7 true _ A2.out).mono ?_); rintro e w' ⟨rfl, ⟨nd, rfl⟩⟩; refine ⟨_, rfl, ?_⟩))
  go_ret
  exact ⟨zs, by repeat (first | exact Drawn0.refl _ | apply Drawn0.step)⟩
 ·replace c3 := Bool.eq_false_iff.mpr c3
  subst c3
  rw [if_neg (show ¬ (false = true) by decide)] at H
  obtain rfl := Option.some.inj H
  go_enter Tryd.func51, Tryd.ntmps51
  go_wp2_with (first | ((with_reducible refine gq 75 rfl ?_); refine gl (some 4) Tryd.func75 #[.int .i64 a0, .int .i64 1, .int .i64 7] ?_; (with_reducible refine (impl_in.calls a0 1 7 false _ A2.out).mono ?_); rintro e w' ⟨rfl, ⟨nd, rfl⟩⟩; refine ⟨_, rfl, ?_⟩))
  go_ret
  exact ⟨zs, by repeat (first | exact Drawn0.refl _ | apply Drawn0.step)⟩

-- NOT PRINTED: function 88 (bytealg_IndexByteString)

-- NOT PRINTED: function 82 (stringslite_IndexByte)

/-! ### strings_IndexByte: function 60 -/
-- by hand
def TrydL.lays137_ren : Go.Shelf.Ren := ⟨fun | 137 => 60 | 217 => 82 | 266 => 88 | n => n, fun | 9 => 9 | 5 => 5 | 3 => 3 | n => n, fun | n => n⟩
theorem TrydL.lays137 : Go.Proofs.Lays.n137 Tryd.prog TrydL.lays137_ren := {
  mixed := by kernel_rfl
  f137 := Tryd.func60.trans (congrArg some (by kernel_rfl))
  f217 := Tryd.func82.trans (congrArg some (by kernel_rfl))
  f266 := Tryd.func88.trans (congrArg some (by kernel_rfl))
  t3 := Tryd.underlying3
  a3 := Tryd.isAgg3
  z3 := Tryd.sizeOf3
  v3 := Tryd.zeroValue3
  t5 := Tryd.underlying5
  a5 := Tryd.isAgg5
  z5 := Tryd.sizeOf5
  v5 := Tryd.zeroValue5
  t9 := Tryd.underlying9
  a9 := Tryd.isAgg9
  z9 := Tryd.sizeOf9
  v9 := Tryd.zeroValue9 }
/-- The place of the first byte that is a1; -1, if there is none. -/
def strings_IndexByte.f (a0 : ByteArray) (a1 : Int) : Option (Int) := some (Lib.indexByte a0.data.toList a1.toNat.toUInt8)
theorem strings_IndexByte.calls (a0 : ByteArray) (a1 : Int) (r : Int) (w : World) (h : strings_IndexByte.f a0 a1 = some r) :
    Calls Tryd.prog 60 #[.string a0, .int .u8 a1] w fun e w' => e = .returned (.int .i64 r) ∧ Drawn0 w w' := by
  simp only [strings_IndexByte.f, Option.some.injEq] at h
  subst h
  refine (Go.Proofs.Any.strings_IndexByte TrydL.lays137 a0 a1 w).mono ?_
  rintro e w' ⟨rfl, rfl⟩
  exact ⟨rfl, Drawn0.refl _⟩

/-! ### impl_WordOk: function 23 -/
-- thin
def impl_WordOk.l0 : Nat → ByteArray → Int → Int → Option (Bool)
 | 0, _, _, _ => none
 | k + 1, x0, x5, x6 => if x6 < x5 then (if 0 ≤ x6 then (if x6 < (x0.size : Int) then ((strings_IndexByte.f (⟨#[101, 116, 97, 111, 105, 110, 115, 114, 104, 108, 48, 49, 50, 51, 52, 53, 54, 55, 56, 57, 100, 99, 117, 109, 102, 112, 103, 119, 121, 98, 118, 107, 120, 106, 113, 122, 58, 47, 45]⟩ : ByteArray) (bt x0 x6)).bind fun t345 => (if t345 < 0 then (some false) else (impl_WordOk.l0 k x0 x5 (wrap64 (x6 + 1))))) else (none)) else (none)) else (some (decide ((x0.size : Int) ≤ 16)))
def impl_WordOk.f (k : Nat) (a0 : ByteArray) : Option (Bool) := impl_WordOk.l0 k a0 (a0.size : Int) 0
theorem impl_WordOk.mono_l : ∀ k, (∀ y0 y1 y2, LeO (impl_WordOk.l0 k y0 y1 y2) (impl_WordOk.l0 (k + 1) y0 y1 y2))
 | 0 => fun _ _ _ r h => by simp [impl_WordOk.l0] at h
 | k + 1 => by
  have ih0 := impl_WordOk.mono_l k
  ·intro y0 y1 y2
   unfold impl_WordOk.l0
   exact zm
theorem impl_WordOk.mono : ∀ a0 k, LeO (impl_WordOk.f k a0) (impl_WordOk.f (k + 1) a0) := by
 intro a0 k
 have ih0 := impl_WordOk.mono_l k
 unfold impl_WordOk.f
 exact zm
set_option maxHeartbeats 8000000 in
set_option maxRecDepth 100000 in
theorem impl_WordOk.calls (k : Nat) (a0 : ByteArray) (r : Bool) (w : World) (h : impl_WordOk.f k a0 = some r) :
  Calls Tryd.prog 23 #[.string a0] w fun e w' => e = .returned (.bool r) ∧ Drawn0 w w' := by
 have H : (impl_WordOk.l0 k a0 (a0.size : Int) 0) = some r := h
 clear h
 have H' := Aside0.mk H
 clear H
 go_enter Tryd.func23, Tryd.ntmps23
 go_wp2
 go_loopg [6] k (fun kq v6 w' => ∃ (x6_1 : Int), v6 = .int .i64 x6_1 ∧ Aside0 (impl_WordOk.l0 kq a0 (a0.size : Int) x6_1 = some r) ∧ Aside0 (kq ≤ k) ∧ Drawn0 w w')
 case atStart => exact ⟨(0), zs, H', ⟨Nat.le_refl _⟩, by repeat (first | exact Drawn0.refl _ | apply Drawn0.step)⟩
 case round =>
  clear H'
  obtain ⟨x6_1, rfl, HA, HK1, ⟨m1, rfl⟩⟩ := hrel
  cases gk with
  | zero => exact absurd HA.out (by simp [impl_WordOk.l0])
  | succ k1 =>
   have H := HA.out
   clear HA
   simp only [impl_WordOk.l0] at H
   replace H := sp H
   rcases H with ⟨c2, H⟩ | ⟨c2, H⟩
   ·skip
    have c2b0 := decide_eq_true c2
    clear c2
    by_cases c3 : 0 ≤ x6_1
    ·rw [if_pos c3] at H
     have c3b0 := decide_eq_true c3
     clear c3
     by_cases c4 : x6_1 < (a0.size : Int)
     ·rw [if_pos c4] at H
      have c4b0 := decide_eq_true c4
      clear c4
      obtain ⟨t345, A6, H⟩ := ob H
      (try dsimp only at H)
      by_cases c7 : t345 < 0
      ·rw [if_pos c7] at H
       have c7b0 := decide_eq_true c7
       clear c7
       obtain rfl := Option.some.inj H
       have p5 : 0 ≤ (x6_1 : Int) := of_decide_eq_true za
       have q5 : x6_1 < (a0.size : Int) := of_decide_eq_true za
       have hx5 := bt_at a0 x6_1
       replace p5 := eq_true p5
       replace q5 := eq_true q5
       go_wp2_with (first | ((with_reducible refine gq 60 rfl ?_); refine gl (some 12) Tryd.func60 #[.string (⟨#[101, 116, 97, 111, 105, 110, 115, 114, 104, 108, 48, 49, 50, 51, 52, 53, 54, 55, 56, 57, 100, 99, 117, 109, 102, 112, 103, 119, 121, 98, 118, 107, 120, 106, 113, 122, 58, 47, 45]⟩ : ByteArray), .int .u8 (bt a0 x6_1)] ?_; (with_reducible refine (strings_IndexByte.calls (⟨#[101, 116, 97, 111, 105, 110, 115, 114, 104, 108, 48, 49, 50, 51, 52, 53, 54, 55, 56, 57, 100, 99, 117, 109, 102, 112, 103, 119, 121, 98, 118, 107, 120, 106, 113, 122, 58, 47, 45]⟩ : ByteArray) (bt a0 x6_1) t345 _ A6.out).mono ?_); rintro e w' ⟨rfl, ⟨nd, rfl⟩⟩; refine ⟨_, rfl, ?_⟩))
       go_ret
       exact ⟨zs, by repeat (first | exact Drawn0.refl _ | apply Drawn0.step)⟩
      ·rw [if_neg c7] at H
       have c7b0 := decide_eq_false c7
       clear c7
       have H' := Aside0.mk H
       clear H
       have p5 : 0 ≤ (x6_1 : Int) := of_decide_eq_true za
       have q5 : x6_1 < (a0.size : Int) := of_decide_eq_true za
       have hx5 := bt_at a0 x6_1
       replace p5 := eq_true p5
       replace q5 := eq_true q5
       go_wp2_with (first | ((with_reducible refine gq 60 rfl ?_); refine gl (some 12) Tryd.func60 #[.string (⟨#[101, 116, 97, 111, 105, 110, 115, 114, 104, 108, 48, 49, 50, 51, 52, 53, 54, 55, 56, 57, 100, 99, 117, 109, 102, 112, 103, 119, 121, 98, 118, 107, 120, 106, 113, 122, 58, 47, 45]⟩ : ByteArray), .int .u8 (bt a0 x6_1)] ?_; (with_reducible refine (strings_IndexByte.calls (⟨#[101, 116, 97, 111, 105, 110, 115, 114, 104, 108, 48, 49, 50, 51, 52, 53, 54, 55, 56, 57, 100, 99, 117, 109, 102, 112, 103, 119, 121, 98, 118, 107, 120, 106, 113, 122, 58, 47, 45]⟩ : ByteArray) (bt a0 x6_1) t345 _ A6.out).mono ?_); rintro e w' ⟨rfl, ⟨nd, rfl⟩⟩; refine ⟨_, rfl, ?_⟩))
       go_roundg k1
       case measure => have := HK1.out; omega
       case rel => exact ⟨(wrap64 (x6_1 + 1)), zs, H', ⟨by have := HK1.out; omega⟩, by repeat (first | exact Drawn0.refl _ | apply Drawn0.step)⟩
     ·rw [if_neg c4] at H
      exact absurd H (by simp)
    ·rw [if_neg c3] at H
     exact absurd H (by simp)
   ·skip
    have c2b0 := decide_eq_false c2
    clear c2
    obtain rfl := Option.some.inj H
    go_wp2
    go_ret
    exact ⟨zs, by repeat (first | exact Drawn0.refl _ | apply Drawn0.step)⟩

/-! ### impl_FlowOk: function 57 -/
-- thin
def impl_FlowOk.f (a0_0 : Int) (a0_1 : Int) : Option (Bool) := (impl_in.f a0_0 0 31).bind fun t347 => (if t347 = true then ((impl_in.f a0_1 0 31).bind fun t348 => (some t348)) else (some false))
set_option maxHeartbeats 8000000 in
set_option maxRecDepth 100000 in
theorem impl_FlowOk.calls (a0_0 : Int) (a0_1 : Int) (r : Bool) (w : World) (h : impl_FlowOk.f a0_0 a0_1 = some r) :
  Calls Tryd.prog 57 #[.agg #[.int .i64 a0_0, .int .i64 a0_1]] w fun e w' => e = .returned (.bool r) ∧ Below w.heap.size w w' := by
 have hu36 := Tryd.underlying36
 have HB := Aside0.mk (Below.refl w.heap.size w)
 have H : ((impl_in.f a0_0 0 31).bind fun t347 => (if t347 = true then ((impl_in.f a0_1 0 31).bind fun t348 => (some t348)) else (some false))) = some r := h
 clear h
 obtain ⟨t347, A2, H⟩ := ob H
 (try dsimp only at H)
 by_cases c3 : t347 = true
 ·subst c3
  rw [if_pos rfl] at H
  obtain ⟨t348, A4, H⟩ := ob H
  (try dsimp only at H)
  obtain rfl := Option.some.inj H
  go_enter Tryd.func57, Tryd.ntmps57
  go_wp2_with (first | ((with_reducible refine gd 1 rfl ?_); refine bx (N := 1) (cs := #[.int .i64 a0_0, .int .i64 a0_1]) (t := 36) ?_; intro gb346 hg w5 hbox hb; have BK346 := Aside0.mk (hbox); have GW346 := gw HB hg; have GE346 := GW346; replace HB := Aside0.mk (below_step (zb HB) hb); clear hb hbox hg; obtain ⟨hcz6_0, hcz6_1, hfz6_0, hfz6_1⟩ := c2 BK346) | ((with_reducible refine gq 75 rfl ?_); refine gl (some 5) Tryd.func75 #[.int .i64 a0_0, .int .i64 0, .int .i64 31] ?_; (with_reducible refine (impl_in.calls a0_0 0 31 true _ A2.out).mono ?_); rintro e w' ⟨rfl, ⟨nd, rfl⟩⟩; refine ⟨_, rfl, ?_⟩) | (go_at_call 75; (with_reducible refine (impl_in.calls a0_1 0 31 t348 _ A4.out).mono ?_); rintro e w' ⟨rfl, ⟨nd, rfl⟩⟩))
  go_ret
  exact ⟨ze, zb HB⟩
 ·replace c3 := Bool.eq_false_iff.mpr c3
  subst c3
  rw [if_neg (show ¬ (false = true) by decide)] at H
  obtain rfl := Option.some.inj H
  go_enter Tryd.func57, Tryd.ntmps57
  go_wp2_with (first | ((with_reducible refine gd 1 rfl ?_); refine bx (N := 1) (cs := #[.int .i64 a0_0, .int .i64 a0_1]) (t := 36) ?_; intro gb346 hg w7 hbox hb; have BK346 := Aside0.mk (hbox); have GW346 := gw HB hg; have GE346 := GW346; replace HB := Aside0.mk (below_step (zb HB) hb); clear hb hbox hg; obtain ⟨hcz8_0, hcz8_1, hfz8_0, hfz8_1⟩ := c2 BK346) | ((with_reducible refine gq 75 rfl ?_); refine gl (some 5) Tryd.func75 #[.int .i64 a0_0, .int .i64 0, .int .i64 31] ?_; (with_reducible refine (impl_in.calls a0_0 0 31 false _ A2.out).mono ?_); rintro e w' ⟨rfl, ⟨nd, rfl⟩⟩; refine ⟨_, rfl, ?_⟩))
  go_ret
  exact ⟨ze, zb HB⟩

/-! ### impl_FieldOk: function 80 -/
-- thin
def impl_FieldOk.f (k : Nat) (a0_0 : ByteArray) (a0_1 : ByteArray) (a0_2 : Bool) : Option (Bool) := (impl_WordOk.f k a0_0).bind fun t350 => (if t350 = true then ((impl_WordOk.f k a0_1).bind fun t351 => (if t351 = true then (some (a0_0.toList != ([] : List UInt8))) else (some false))) else (some false))
theorem impl_FieldOk.mono : ∀ a0 a1 a2 k, LeO (impl_FieldOk.f k a0 a1 a2) (impl_FieldOk.f (k + 1) a0 a1 a2) := by
 intro a0 a1 a2 k
 unfold impl_FieldOk.f
 have m0 := @impl_WordOk.mono
 exact zm
set_option maxHeartbeats 8000000 in
set_option maxRecDepth 100000 in
theorem impl_FieldOk.calls (k : Nat) (a0_0 : ByteArray) (a0_1 : ByteArray) (a0_2 : Bool) (r : Bool) (w : World) (h : impl_FieldOk.f k a0_0 a0_1 a0_2 = some r) :
  Calls Tryd.prog 80 #[.agg #[.string a0_0, .string a0_1, .bool a0_2]] w fun e w' => e = .returned (.bool r) ∧ Below w.heap.size w w' := by
 have hu61 := Tryd.underlying61
 have HB := Aside0.mk (Below.refl w.heap.size w)
 have H : ((impl_WordOk.f k a0_0).bind fun t350 => (if t350 = true then ((impl_WordOk.f k a0_1).bind fun t351 => (if t351 = true then (some (a0_0.toList != ([] : List UInt8))) else (some false))) else (some false))) = some r := h
 clear h
 obtain ⟨t350, A2, H⟩ := ob H
 (try dsimp only at H)
 by_cases c3 : t350 = true
 ·subst c3
  rw [if_pos rfl] at H
  obtain ⟨t351, A4, H⟩ := ob H
  (try dsimp only at H)
  by_cases c5 : t351 = true
  ·subst c5
   rw [if_pos rfl] at H
   obtain rfl := Option.some.inj H
   go_enter Tryd.func80, Tryd.ntmps80
   go_wp2_with (first | ((with_reducible refine gd 1 rfl ?_); refine bx (N := 1) (cs := #[.string a0_0, .string a0_1, .bool a0_2]) (t := 61) ?_; intro gb349 hg w6 hbox hb; have BK349 := Aside0.mk (hbox); have GW349 := gw HB hg; have GE349 := GW349; replace HB := Aside0.mk (below_step (zb HB) hb); clear hb hbox hg; obtain ⟨hcz7_0, hcz7_1, hcz7_2, hfz7_0, hfz7_1, hfz7_2⟩ := c3 BK349) | ((with_reducible refine gq 23 rfl ?_); refine gl (some 5) Tryd.func23 #[.string a0_0] ?_; (with_reducible refine (impl_WordOk.calls k a0_0 true _ A2.out).mono ?_); rintro e w' ⟨rfl, ⟨nd, rfl⟩⟩; refine ⟨_, rfl, ?_⟩) | (go_at_call 23; (with_reducible refine (impl_WordOk.calls k a0_1 true _ A4.out).mono ?_); rintro e w' ⟨rfl, ⟨nd, rfl⟩⟩))
   go_ret
   exact ⟨ze, zb HB⟩
  ·replace c5 := Bool.eq_false_iff.mpr c5
   subst c5
   rw [if_neg (show ¬ (false = true) by decide)] at H
   obtain rfl := Option.some.inj H
   go_enter Tryd.func80, Tryd.ntmps80
   go_wp2_with (first | ((with_reducible refine gd 1 rfl ?_); refine bx (N := 1) (cs := #[.string a0_0, .string a0_1, .bool a0_2]) (t := 61) ?_; intro gb349 hg w8 hbox hb; have BK349 := Aside0.mk (hbox); have GW349 := gw HB hg; have GE349 := GW349; replace HB := Aside0.mk (below_step (zb HB) hb); clear hb hbox hg; obtain ⟨hcz9_0, hcz9_1, hcz9_2, hfz9_0, hfz9_1, hfz9_2⟩ := c3 BK349) | ((with_reducible refine gq 23 rfl ?_); refine gl (some 5) Tryd.func23 #[.string a0_0] ?_; (with_reducible refine (impl_WordOk.calls k a0_0 true _ A2.out).mono ?_); rintro e w' ⟨rfl, ⟨nd, rfl⟩⟩; refine ⟨_, rfl, ?_⟩) | (go_at_call 23; (with_reducible refine (impl_WordOk.calls k a0_1 false _ A4.out).mono ?_); rintro e w' ⟨rfl, ⟨nd, rfl⟩⟩))
   go_ret
   exact ⟨ze, zb HB⟩
 ·replace c3 := Bool.eq_false_iff.mpr c3
  subst c3
  rw [if_neg (show ¬ (false = true) by decide)] at H
  obtain rfl := Option.some.inj H
  go_enter Tryd.func80, Tryd.ntmps80
  go_wp2_with (first | ((with_reducible refine gd 1 rfl ?_); refine bx (N := 1) (cs := #[.string a0_0, .string a0_1, .bool a0_2]) (t := 61) ?_; intro gb349 hg w10 hbox hb; have BK349 := Aside0.mk (hbox); have GW349 := gw HB hg; have GE349 := GW349; replace HB := Aside0.mk (below_step (zb HB) hb); clear hb hbox hg; obtain ⟨hcz11_0, hcz11_1, hcz11_2, hfz11_0, hfz11_1, hfz11_2⟩ := c3 BK349) | ((with_reducible refine gq 23 rfl ?_); refine gl (some 5) Tryd.func23 #[.string a0_0] ?_; (with_reducible refine (impl_WordOk.calls k a0_0 false _ A2.out).mono ?_); rintro e w' ⟨rfl, ⟨nd, rfl⟩⟩; refine ⟨_, rfl, ?_⟩))
  go_ret
  exact ⟨ze, zb HB⟩

/-! ### impl_TableOk_1: function 79 -/
-- thin
def impl_TableOk_1.f (k : Nat) (a0_0 : ByteArray) (a0_1 : ByteArray) (a0_2 : Bool) : Option (Bool) := (impl_FieldOk.f k a0_0 a0_1 a0_2).bind fun t353 => (if t353 = true then (some a0_2) else (some true))
theorem impl_TableOk_1.mono : ∀ a0 a1 a2 k, LeO (impl_TableOk_1.f k a0 a1 a2) (impl_TableOk_1.f (k + 1) a0 a1 a2) := by
 intro a0 a1 a2 k
 unfold impl_TableOk_1.f
 have m0 := @impl_FieldOk.mono
 exact zm
set_option maxHeartbeats 8000000 in
set_option maxRecDepth 100000 in
theorem impl_TableOk_1.calls (k : Nat) (a0_0 : ByteArray) (a0_1 : ByteArray) (a0_2 : Bool) (r : Bool) (w : World) (h : impl_TableOk_1.f k a0_0 a0_1 a0_2 = some r) :
  Calls Tryd.prog 79 #[.agg #[.string a0_0, .string a0_1, .bool a0_2]] w fun e w' => e = .returned (.bool r) ∧ Below w.heap.size w w' := by
 have hu61 := Tryd.underlying61
 have HB := Aside0.mk (Below.refl w.heap.size w)
 have H : ((impl_FieldOk.f k a0_0 a0_1 a0_2).bind fun t353 => (if t353 = true then (some a0_2) else (some true))) = some r := h
 clear h
 obtain ⟨t353, A2, H⟩ := ob H
 (try dsimp only at H)
 by_cases c3 : t353 = true
 ·subst c3
  rw [if_pos rfl] at H
  obtain rfl := Option.some.inj H
  go_enter Tryd.func79, Tryd.ntmps79
  go_wp2_with (first | ((with_reducible refine gd 1 rfl ?_); refine bx (N := 1) (cs := #[.string a0_0, .string a0_1, .bool a0_2]) (t := 61) ?_; intro gb352 hg w4 hbox hb; have BK352 := Aside0.mk (hbox); have GW352 := gw HB hg; have GE352 := GW352; replace HB := Aside0.mk (below_step (zb HB) hb); clear hb hbox hg; obtain ⟨hcz5_0, hcz5_1, hcz5_2, hfz5_0, hfz5_1, hfz5_2⟩ := c3 BK352) | ((with_reducible refine gq 80 rfl ?_); refine gl (some 4) Tryd.func80 #[.agg #[.string a0_0, .string a0_1, .bool a0_2]] ?_; (with_reducible refine (impl_FieldOk.calls k a0_0 a0_1 a0_2 true _ A2.out).mono ?_); rintro e w6 ⟨rfl, hb⟩; refine ⟨_, rfl, ?_⟩; replace BK352 := kb BK352 hb; replace HB := Aside0.mk (below_step (zb HB) hb); (try clear hb); obtain ⟨hcz7_0, hcz7_1, hcz7_2, hfz7_0, hfz7_1, hfz7_2⟩ := c3 BK352))
  go_ret
  exact ⟨ze, zb HB⟩
 ·replace c3 := Bool.eq_false_iff.mpr c3
  subst c3
  rw [if_neg (show ¬ (false = true) by decide)] at H
  obtain rfl := Option.some.inj H
  go_enter Tryd.func79, Tryd.ntmps79
  go_wp2_with (first | ((with_reducible refine gd 1 rfl ?_); refine bx (N := 1) (cs := #[.string a0_0, .string a0_1, .bool a0_2]) (t := 61) ?_; intro gb352 hg w8 hbox hb; have BK352 := Aside0.mk (hbox); have GW352 := gw HB hg; have GE352 := GW352; replace HB := Aside0.mk (below_step (zb HB) hb); clear hb hbox hg; obtain ⟨hcz9_0, hcz9_1, hcz9_2, hfz9_0, hfz9_1, hfz9_2⟩ := c3 BK352) | ((with_reducible refine gq 80 rfl ?_); refine gl (some 4) Tryd.func80 #[.agg #[.string a0_0, .string a0_1, .bool a0_2]] ?_; (with_reducible refine (impl_FieldOk.calls k a0_0 a0_1 a0_2 false _ A2.out).mono ?_); rintro e w10 ⟨rfl, hb⟩; refine ⟨_, rfl, ?_⟩; replace BK352 := kb BK352 hb; replace HB := Aside0.mk (below_step (zb HB) hb); (try clear hb)))
  go_ret
  exact ⟨ze, zb HB⟩

/-! ### impl_HeadOk_1: function 86 -/
-- thin
def impl_HeadOk_1.f (k : Nat) (a0_0 : ByteArray) (a0_1 : ByteArray) (a0_2 : Bool) : Option (Bool) := (impl_FieldOk.f k a0_0 a0_1 a0_2).bind fun t355 => (some (!t355))
theorem impl_HeadOk_1.mono : ∀ a0 a1 a2 k, LeO (impl_HeadOk_1.f k a0 a1 a2) (impl_HeadOk_1.f (k + 1) a0 a1 a2) := by
 intro a0 a1 a2 k
 unfold impl_HeadOk_1.f
 have m0 := @impl_FieldOk.mono
 exact zm
set_option maxHeartbeats 8000000 in
set_option maxRecDepth 100000 in
theorem impl_HeadOk_1.calls (k : Nat) (a0_0 : ByteArray) (a0_1 : ByteArray) (a0_2 : Bool) (r : Bool) (w : World) (h : impl_HeadOk_1.f k a0_0 a0_1 a0_2 = some r) :
  Calls Tryd.prog 86 #[.agg #[.string a0_0, .string a0_1, .bool a0_2]] w fun e w' => e = .returned (.bool r) ∧ Below w.heap.size w w' := by
 have hu61 := Tryd.underlying61
 have HB := Aside0.mk (Below.refl w.heap.size w)
 have H : ((impl_FieldOk.f k a0_0 a0_1 a0_2).bind fun t355 => (some (!t355))) = some r := h
 clear h
 obtain ⟨t355, A2, H⟩ := ob H
 (try dsimp only at H)
 obtain rfl := Option.some.inj H
 go_enter Tryd.func86, Tryd.ntmps86
 go_wp2_with (first | ((with_reducible refine gd 1 rfl ?_); refine bx (N := 1) (cs := #[.string a0_0, .string a0_1, .bool a0_2]) (t := 61) ?_; intro gb354 hg w3 hbox hb; have BK354 := Aside0.mk (hbox); have GW354 := gw HB hg; have GE354 := GW354; replace HB := Aside0.mk (below_step (zb HB) hb); clear hb hbox hg; obtain ⟨hcz4_0, hcz4_1, hcz4_2, hfz4_0, hfz4_1, hfz4_2⟩ := c3 BK354) | ((with_reducible refine gq 80 rfl ?_); refine gl (some 4) Tryd.func80 #[.agg #[.string a0_0, .string a0_1, .bool a0_2]] ?_; (with_reducible refine (impl_FieldOk.calls k a0_0 a0_1 a0_2 t355 _ A2.out).mono ?_); rintro e w5 ⟨rfl, hb⟩; refine ⟨_, rfl, ?_⟩; replace BK354 := kb BK354 hb; replace HB := Aside0.mk (below_step (zb HB) hb); (try clear hb)))
 go_ret
 exact ⟨ze, zb HB⟩

/-! ### IndexFunc_Field: function 87 -/
-- by hand
theorem load_list (P : Program) (W : World) (a : Addr) (cs : List Value) (k : Nat) (hk : cs.length = k) (h : ∀ j v, cs[j]? = some v → W.cell? (a.add j) = some v) :
    Sem.run P (loadCellsFrom a 0 k #[]) W = .ok cs.toArray W := by
  have := run_loadCells_list (P := P) (w := W) a cs h
  rw [hk] at this
  exact this
/-- The first place, from i on, at which p says yes; -1, if there is none. -/
def idxFrom (p : S61 → Option Bool) : List (S61) → Int → Option Int
  | [], _ => some (-1)
  | x :: l, i => (p x).bind fun b => if b then some i else idxFrom p l (i + 1)
/-- What a predicate's value does when it is called. -/
def PredIs (P : Program) (g : Nat) (lb : Array Value) (p : S61 → Option Bool) (w : World) : Prop :=
  ∀ (W : World) (x : S61) (b : Bool), Below w.heap.size w W → p x = some b → Calls P g (#[.agg #[.string x.f0, .string x.f1, .bool x.f2]] ++ lb) W fun e w' => e = .returned (.bool b) ∧ Below w.heap.size w w'
set_option maxHeartbeats 4000000 in
set_option maxRecDepth 100000 in
theorem IndexFunc_calls (g : Nat) (lb : Array Value) (p : S61 → Option Bool) (eg : ∀ args w, (callFunc g args).run Tryd.prog w = .ok (.enter g args) w) (A0 : Option Addr) (c0 : Nat) (l0 : List (S61)) (r : Int) (w : World) (hr0 : Kd.C k61 w A0 l0.length l0) (hc0 : l0.length ≤ c0)
    (hp : PredIs Tryd.prog g lb p w) (h : idxFrom p l0 0 = some r) (hl : l0.length ≤ 1000000000) :
    Calls Tryd.prog 87 #[.slice A0 l0.length c0, .func (.func g) #[] lb] w fun e w' => e = .returned (.int .i64 r) ∧ Below w.heap.size w w' := by
  have HR0 := Aside0.mk hr0
  have HP := Aside0.mk hp
  have H := Aside0.mk h
  clear hr0 hp h
  go_enter Tryd.func87, Tryd.ntmps87
  go_wp2
  go_loopg [5, 8] (l0.length) (fun kq v5 v8 w' => ∃ i : Nat, v8 = .int .i64 i ∧ Aside0 (kq + i = l0.length) ∧ Aside0 (idxFrom p (l0.drop i) i = some r) ∧ Aside0 (Below w.heap.size w w'))
  case atStart => exact ⟨0, rfl, ⟨by omega⟩, ⟨by simpa using H.out⟩, ⟨Below.refl _ _⟩⟩
  case round =>
    obtain ⟨i, rfl, HK, HX, HB⟩ := hrel
    have hk := HK.out
    by_cases hj : i < l0.length
    · have h0 : (0 : Int) ≤ (i : Int) := by omega
      have h1 : (i : Int) < (l0.length : Int) := by omega
      obtain ⟨x, hx⟩ : ∃ x, l0[i]? = some x := ⟨_, List.getElem?_eq_getElem hj⟩
      have hdrop : l0.drop i = x :: l0.drop (i + 1) := by
        rw [List.drop_eq_getElem_cons hj]
        rw [List.getElem?_eq_getElem hj] at hx
        rw [Option.some.inj hx]
      obtain ⟨_, _, hrd⟩ := Kd.C_below HR0.out HB.out
      obtain ⟨ad, e1, hcell⟩ := hrd (by omega)
      obtain ⟨c, hc1, hc2, hc3⟩ := hcell i x hx
      have hc4 := k61_open hc2
      subst hc4
      subst e1
      have q0 : wr.cell? (ad.add (i * 3)) = some (.string x.f0) := by have h9 := hc3 0 _ rfl; exact h9
      have q1 : wr.cell? ⟨(ad.add (i * 3)).block, (ad.add (i * 3)).off + 1, none⟩ = some (.string x.f1) := by have h9 := hc3 1 _ rfl; rw [← Go.Addr.add_add] at h9; exact h9
      have q2 : wr.cell? ⟨(ad.add (i * 3)).block, (ad.add (i * 3)).off + 2, none⟩ = some (.bool x.f2) := by have h9 := hc3 2 _ rfl; rw [← Go.Addr.add_add] at h9; exact h9
      have hX := HX.out
      rw [hdrop, idxFrom] at hX
      obtain ⟨b, hb1, hb2⟩ := Option.bind_eq_some_iff.1 hX
      have hcall := HP.out wr x b HB.out hb1
      have HX2 := Aside0.mk hb2
      cases gk with
      | zero => omega
      | succ k1 =>
      clear hk hX hb2 hrd hcell hc1 hc2 hc3 hdrop
      cases b with
      | true =>
        go_wp2_with (go_at_fn g; refine hcall.mono ?_; rintro e w' ⟨rfl, hb'⟩)
        go_ret
        have h9 : some (i : Int) = some r := by simpa using HX2.out
        exact ⟨by rw [← Option.some.inj h9]; rfl, hb'⟩
      | false =>
        go_wp2_with (go_at_fn g; refine hcall.mono ?_; rintro e w' ⟨rfl, hb'⟩)
        go_roundg k1
        case measure => have := HK.out; omega
        case rel =>
          refine ⟨i + 1, by go_num, ⟨by have := HK.out; omega⟩, ⟨?_⟩, ⟨hb'⟩⟩
          have h9 := HX2.out
          rw [if_neg (by decide)] at h9
          rw [show ((i + 1 : Nat) : Int) = (i : Int) + 1 by omega]
          exact h9
    · have e : i = l0.length := by omega
      have hltz : ¬ (i : Int) < (l0.length : Int) := by omega
      clear hk hj
      have HE := Aside0.mk e
      clear e
      go_wp2
      go_ret
      have e := HE.out
      subst e
      have hX := HX.out
      rw [List.drop_length, idxFrom] at hX
      exact ⟨by rw [← Option.some.inj hX]; rfl, HB.out⟩

/-! ### ContainsFunc_Field: function 78 -/
-- by hand
set_option maxHeartbeats 4000000 in
set_option maxRecDepth 100000 in
theorem ContainsFunc_calls (g : Nat) (lb : Array Value) (p : S61 → Option Bool) (eg : ∀ args w, (callFunc g args).run Tryd.prog w = .ok (.enter g args) w) (A0 : Option Addr) (c0 : Nat) (l0 : List (S61)) (r : Int) (w : World) (hr0 : Kd.C k61 w A0 l0.length l0) (hc0 : l0.length ≤ c0)
    (hp : PredIs Tryd.prog g lb p w) (h : idxFrom p l0 0 = some r) (hl : l0.length ≤ 1000000000) :
    Calls Tryd.prog 78 #[.slice A0 l0.length c0, .func (.func g) #[] lb] w fun e w' => e = .returned (.bool (decide (0 ≤ r))) ∧ Below w.heap.size w w' := by
  go_enter Tryd.func78, Tryd.ntmps78
  go_wp2_with (go_at_call 87; refine (IndexFunc_calls g lb p eg A0 c0 l0 r _ hr0 hc0 hp h hl).mono ?_; rintro e w' ⟨rfl, hb'⟩)
  go_ret
  exact ⟨rfl, hb'⟩
/-- What function g says of a field. -/
def ContainsFunc_Field.p (k : Nat) (g : Nat) (x : S61) : Option Bool := if g = 79 then impl_TableOk_1.f k x.f0 x.f1 x.f2 else if g = 86 then impl_HeadOk_1.f k x.f0 x.f1 x.f2 else none
def ContainsFunc_Field.known (g : Nat) : Prop := g = 79 ∨ g = 86 ∨ False
instance (g : Nat) : Decidable (ContainsFunc_Field.known g) := by unfold ContainsFunc_Field.known; infer_instance
def ContainsFunc_Field.f (k : Nat) (l0 : List (S61)) (a1 : Nat) : Option Bool :=
  if l0.length ≤ 1000000000 ∧ ContainsFunc_Field.known a1 then (idxFrom (ContainsFunc_Field.p k a1) l0 0).bind fun r => some (decide (0 ≤ r)) else none
theorem idxFrom_mono {p q : S61 → Option Bool} (hpq : ∀ x, LeO (p x) (q x)) : ∀ (l : List (S61)) (i : Int), LeO (idxFrom p l i) (idxFrom q l i)
  | [], _ => fun r h => h
  | x :: l, i => by
    intro r h
    unfold idxFrom at h ⊢
    obtain ⟨b, hb, hr⟩ := Option.bind_eq_some_iff.1 h
    rw [hpq x b hb]
    simp only [Option.bind_some]
    cases b with
    | true => exact hr
    | false => exact idxFrom_mono hpq l (i + 1) r hr
theorem ContainsFunc_Field.p_mono (k g : Nat) (x : S61) : LeO (ContainsFunc_Field.p k g x) (ContainsFunc_Field.p (k + 1) g x) := by
  unfold ContainsFunc_Field.p
  refine LeO.ite (impl_TableOk_1.mono _ _ _ _) ?_
  refine LeO.ite (impl_HeadOk_1.mono _ _ _ _) ?_
  exact LeO.refl _
theorem ContainsFunc_Field.mono : ∀ a0 a1 k, LeO (ContainsFunc_Field.f k a0 a1) (ContainsFunc_Field.f (k + 1) a0 a1) := by
  intro a0 a1 k
  unfold ContainsFunc_Field.f
  refine LeO.ite ?_ (LeO.refl _)
  exact LeO.bind (idxFrom_mono (fun x => ContainsFunc_Field.p_mono k a1 x) a0 0) (fun _ => LeO.refl _)
theorem ContainsFunc_Field.enters (a1 : Nat) (h : ContainsFunc_Field.known a1) : ∀ args w, (callFunc a1 args).run Tryd.prog w = .ok (.enter a1 args) w := by
  unfold ContainsFunc_Field.known at h
  rcases h with e | h
  · subst e; exact enters_of Tryd.func79 (by kernel_rfl) rfl
  rcases h with e | h
  · subst e; exact enters_of Tryd.func86 (by kernel_rfl) rfl
  cases h
theorem ContainsFunc_Field.pred (k a1 : Nat) (w : World) : PredIs Tryd.prog a1 #[] (ContainsFunc_Field.p k a1) w := by
  intro W x b hW h
  unfold ContainsFunc_Field.p at h
  split at h
  · rename_i e; subst e; rw [Array.append_empty]; exact (impl_TableOk_1.calls k x.f0 x.f1 x.f2 b W h).mono fun e w2 h2 => ⟨h2.1, below_step hW h2.2⟩
  split at h
  · rename_i e; subst e; rw [Array.append_empty]; exact (impl_HeadOk_1.calls k x.f0 x.f1 x.f2 b W h).mono fun e w2 h2 => ⟨h2.1, below_step hW h2.2⟩
  cases h
set_option maxHeartbeats 4000000 in
set_option maxRecDepth 100000 in
theorem ContainsFunc_Field.calls (k : Nat) (A0 : Option Addr) (c0 : Nat) (l0 : List (S61)) (a1 : Nat) (r : Bool) (w : World) (hr0 : Kd.C k61 w A0 l0.length l0) (hc0 : l0.length ≤ c0) (h : ContainsFunc_Field.f k l0 a1 = some r) :
    Calls Tryd.prog 78 #[.slice A0 l0.length c0, .func (.func a1) #[] #[]] w fun e w' => e = .returned (.bool r) ∧ Below w.heap.size w w' := by
  unfold ContainsFunc_Field.f at h
  split at h
  case isFalse => cases h
  rename_i hl
  obtain ⟨i, hi, hr⟩ := Option.bind_eq_some_iff.1 h
  obtain rfl := Option.some.inj hr
  exact ContainsFunc_calls a1 #[] _ (ContainsFunc_Field.enters a1 hl.2) A0 c0 _ i w hr0 hc0 (ContainsFunc_Field.pred k a1 w) hi hl.1

/-! ### impl_HeadOk: function 76 -/
-- thin
def impl_HeadOk.f (k : Nat) (l0 : List (S61)) : Option (Bool) := if (l0.length : Int) ≤ 6 then ((ContainsFunc_Field.f k l0 86).bind fun t356 => (some (!t356))) else (some false)
theorem impl_HeadOk.mono : ∀ a0 k, LeO (impl_HeadOk.f k a0) (impl_HeadOk.f (k + 1) a0) := by
 intro a0 k
 unfold impl_HeadOk.f
 have m0 := @ContainsFunc_Field.mono
 exact zm
set_option maxHeartbeats 8000000 in
set_option maxRecDepth 100000 in
theorem impl_HeadOk.calls (k : Nat) (A0 : Option Addr) (c0 : Nat) (l0 : List (S61)) (r : Bool) (w : World) (hr0 : Kd.C k61 w A0 l0.length l0) (hc0 : l0.length ≤ c0) (h : impl_HeadOk.f k l0 = some r) :
  Calls Tryd.prog 76 #[.slice A0 l0.length c0] w fun e w' => e = .returned (.bool r) ∧ Below w.heap.size w w' := by
 have HR0 := Aside0.mk hr0
 have HC0 := Aside0.mk hc0
 clear hr0 hc0
 have HB := Aside0.mk (Below.refl w.heap.size w)
 have H : (if (l0.length : Int) ≤ 6 then ((ContainsFunc_Field.f k l0 86).bind fun t356 => (some (!t356))) else (some false)) = some r := h
 clear h
 replace H := sp H
 rcases H with ⟨c2, H⟩ | ⟨c2, H⟩
 ·skip
  have c2b0 := decide_eq_true c2
  have c2b1 := decide_eq_true (by omega)
  clear c2
  obtain ⟨t356, A3, H⟩ := ob H
  (try dsimp only at H)
  obtain rfl := Option.some.inj H
  go_enter Tryd.func76, Tryd.ntmps76
  go_wp2_with (first | (go_at_call 78; (with_reducible refine (ContainsFunc_Field.calls k _ _ l0 86 t356 _ ?side1 ?side2 A3.out).mono ?_); (case side1 => exact zc HR0.out); (case side2 => exact HC0.out); rintro e w4 ⟨rfl, hb⟩; replace HB := Aside0.mk (below_step (zb HB) hb); (try clear hb)))
  go_ret
  exact ⟨ze, zb HB⟩
 ·skip
  have c2b0 := decide_eq_false c2
  have c2b1 := decide_eq_false (by omega)
  clear c2
  obtain rfl := Option.some.inj H
  go_enter Tryd.func76, Tryd.ntmps76
  go_wp2
  go_ret
  exact ⟨ze, zb HB⟩

/-! ### impl_streamOk: function 52 -/
-- thin
def impl_streamOk.f (k : Nat) (a0_0 : Int) (a0_1 : Int) (l0_2 : List (S61)) (a0_3 : ByteArray) (a0_4 : Bool) (a0_5 : Bool) (a0_6 : Int) (l0_7 : List (S61)) (a0_8 : ByteArray) (a0_9 : Bool) (a0_10 : Int) (a0_11 : Int) : Option (Bool) := (impl_in.f a0_1 1 3).bind fun t358 => (if t358 = true then ((impl_HeadOk.f k l0_2).bind fun t359 => (if t359 = true then ((impl_HeadOk.f k l0_7).bind fun t360 => (if t360 = true then ((impl_WordOk.f k a0_3).bind fun t361 => (if t361 = true then ((impl_WordOk.f k a0_8).bind fun t362 => (if t362 = true then ((impl_in.f a0_6 0 (a0_3.size : Int)).bind fun t363 => (if t363 = true then ((impl_FlowOk.f a0_10 a0_11).bind fun t364 => (some t364)) else (some false))) else (some false))) else (some false))) else (some false))) else (some false))) else (some false))
theorem impl_streamOk.mono : ∀ a0 a1 a2 a3 a4 a5 a6 a7 a8 a9 a10 a11 k, LeO (impl_streamOk.f k a0 a1 a2 a3 a4 a5 a6 a7 a8 a9 a10 a11) (impl_streamOk.f (k + 1) a0 a1 a2 a3 a4 a5 a6 a7 a8 a9 a10 a11) := by
 intro a0 a1 a2 a3 a4 a5 a6 a7 a8 a9 a10 a11 k
 unfold impl_streamOk.f
 have m0 := @impl_HeadOk.mono
 have m1 := @impl_WordOk.mono
 exact zm
set_option maxHeartbeats 8000000 in
set_option maxRecDepth 100000 in
theorem impl_streamOk.calls (k : Nat) (a0_0 : Int) (a0_1 : Int) (A0_2 : Option Addr) (c0_2 : Nat) (l0_2 : List (S61)) (a0_3 : ByteArray) (a0_4 : Bool) (a0_5 : Bool) (a0_6 : Int) (A0_7 : Option Addr) (c0_7 : Nat) (l0_7 : List (S61)) (a0_8 : ByteArray) (a0_9 : Bool) (a0_10 : Int) (a0_11 : Int) (r : Bool) (w : World) (hr0_2 : Kd.C k61 w A0_2 l0_2.length l0_2) (hc0_2 : l0_2.length ≤ c0_2) (hr0_7 : Kd.C k61 w A0_7 l0_7.length l0_7) (hc0_7 : l0_7.length ≤ c0_7) (h : impl_streamOk.f k a0_0 a0_1 l0_2 a0_3 a0_4 a0_5 a0_6 l0_7 a0_8 a0_9 a0_10 a0_11 = some r) :
  Calls Tryd.prog 52 #[.agg #[.int .i64 a0_0, .int .i64 a0_1, .slice A0_2 l0_2.length c0_2, .string a0_3, .bool a0_4, .bool a0_5, .int .i64 a0_6, .slice A0_7 l0_7.length c0_7, .string a0_8, .bool a0_9, .int .i64 a0_10, .int .i64 a0_11]] w fun e w' => e = .returned (.bool r) ∧ Below w.heap.size w w' := by
 have hu58 := Tryd.underlying58
 have hu36 := Tryd.underlying36
 have HR0_2 := Aside0.mk hr0_2
 have HC0_2 := Aside0.mk hc0_2
 clear hr0_2 hc0_2
 have HR0_7 := Aside0.mk hr0_7
 have HC0_7 := Aside0.mk hc0_7
 clear hr0_7 hc0_7
 have HB := Aside0.mk (Below.refl w.heap.size w)
 have H : ((impl_in.f a0_1 1 3).bind fun t358 => (if t358 = true then ((impl_HeadOk.f k l0_2).bind fun t359 => (if t359 = true then ((impl_HeadOk.f k l0_7).bind fun t360 => (if t360 = true then ((impl_WordOk.f k a0_3).bind fun t361 => (if t361 = true then ((impl_WordOk.f k a0_8).bind fun t362 => (if t362 = true then ((impl_in.f a0_6 0 (a0_3.size : Int)).bind fun t363 => (if t363 = true then ((impl_FlowOk.f a0_10 a0_11).bind fun t364 => (some t364)) else (some false))) else (some false))) else (some false))) else (some false))) else (some false))) else (some false))) = some r := h
 clear h
 obtain ⟨t358, A2, H⟩ := ob H
 (try dsimp only at H)
 by_cases c3 : t358 = true
 ·subst c3
  rw [if_pos rfl] at H
  obtain ⟨t359, A4, H⟩ := ob H
  (try dsimp only at H)
  by_cases c5 : t359 = true
  ·subst c5
   rw [if_pos rfl] at H
   obtain ⟨t360, A6, H⟩ := ob H
   (try dsimp only at H)
   by_cases c7 : t360 = true
   ·subst c7
    rw [if_pos rfl] at H
    obtain ⟨t361, A8, H⟩ := ob H
    (try dsimp only at H)
    by_cases c9 : t361 = true
    ·subst c9
     rw [if_pos rfl] at H
     obtain ⟨t362, A10, H⟩ := ob H
     (try dsimp only at H)
     by_cases c11 : t362 = true
     ·subst c11
      rw [if_pos rfl] at H
      obtain ⟨t363, A12, H⟩ := ob H
      (try dsimp only at H)
      by_cases c13 : t363 = true
      ·subst c13
       rw [if_pos rfl] at H
       obtain ⟨t364, A14, H⟩ := ob H
       (try dsimp only at H)
       obtain rfl := Option.some.inj H
       go_enter Tryd.func52, Tryd.ntmps52
       go_wp2_with (first | ((with_reducible refine gd 1 rfl ?_); (try (refine gate_guard (by rfl) ?_; dsimp only)); refine bx (N := 1) (cs := #[.int .i64 a0_0, .int .i64 a0_1, .slice A0_2 l0_2.length c0_2, .string a0_3, .bool a0_4, .bool a0_5, .int .i64 a0_6, .slice A0_7 l0_7.length c0_7, .string a0_8, .bool a0_9, .int .i64 a0_10, .int .i64 a0_11]) (t := 58) ?_; intro gb357 hg w15 hbox hb; have BK357 := Aside0.mk (hbox); have GW357 := gw HB hg; have GE357 := GW357; replace HB := Aside0.mk (below_step (zb HB) hb); clear hb hbox hg; obtain ⟨hcz16_0, hcz16_1, hcz16_2, hcz16_3, hcz16_4, hcz16_5, hcz16_6, hcz16_7, hcz16_8, hcz16_9, hcz16_10, hcz16_11, hfz16_0, hfz16_1, hfz16_2, hfz16_3, hfz16_4, hfz16_5, hfz16_6, hfz16_7, hfz16_8, hfz16_9, hfz16_10, hfz16_11⟩ := c12 BK357) | ((with_reducible refine gq 75 rfl ?_); refine gl (some 5) Tryd.func75 #[.int .i64 a0_1, .int .i64 1, .int .i64 3] ?_; (with_reducible refine (impl_in.calls a0_1 1 3 true _ A2.out).mono ?_); rintro e w' ⟨rfl, ⟨nd, rfl⟩⟩; refine ⟨_, rfl, ?_⟩) | (go_at_call 76; (with_reducible refine (impl_HeadOk.calls k _ _ l0_2 true _ ?side1 ?side2 A4.out).mono ?_); (case side1 => exact (Kd.C_below HR0_2.out (zb HB))); (case side2 => exact HC0_2.out); rintro e w17 ⟨rfl, hb⟩; replace BK357 := kb BK357 hb; replace HB := Aside0.mk (below_step (zb HB) hb); (try clear hb); obtain ⟨hcz18_0, hcz18_1, hcz18_2, hcz18_3, hcz18_4, hcz18_5, hcz18_6, hcz18_7, hcz18_8, hcz18_9, hcz18_10, hcz18_11, hfz18_0, hfz18_1, hfz18_2, hfz18_3, hfz18_4, hfz18_5, hfz18_6, hfz18_7, hfz18_8, hfz18_9, hfz18_10, hfz18_11⟩ := c12 BK357) | (go_at_call 76; (with_reducible refine (impl_HeadOk.calls k _ _ l0_7 true _ ?side1 ?side2 A6.out).mono ?_); (case side1 => exact zc (Kd.C_below HR0_7.out HB.out)); (case side2 => exact HC0_7.out); rintro e w19 ⟨rfl, hb⟩; replace BK357 := kb BK357 hb; replace HB := Aside0.mk (below_step (zb HB) hb); (try clear hb); obtain ⟨hcz20_0, hcz20_1, hcz20_2, hcz20_3, hcz20_4, hcz20_5, hcz20_6, hcz20_7, hcz20_8, hcz20_9, hcz20_10, hcz20_11, hfz20_0, hfz20_1, hfz20_2, hfz20_3, hfz20_4, hfz20_5, hfz20_6, hfz20_7, hfz20_8, hfz20_9, hfz20_10, hfz20_11⟩ := c12 BK357) | (go_at_call 23; (with_reducible refine (impl_WordOk.calls k a0_3 true _ A8.out).mono ?_); rintro e w' ⟨rfl, ⟨nd, rfl⟩⟩) | (go_at_call 23; (with_reducible refine (impl_WordOk.calls k a0_8 true _ A10.out).mono ?_); rintro e w' ⟨rfl, ⟨nd, rfl⟩⟩) | (go_at_call 75; (with_reducible refine (impl_in.calls a0_6 0 (a0_3.size : Int) true _ A12.out).mono ?_); rintro e w' ⟨rfl, ⟨nd, rfl⟩⟩) | (go_at_call 57; (with_reducible refine (impl_FlowOk.calls a0_10 a0_11 t364 _ A14.out).mono ?_); rintro e w21 ⟨rfl, hb⟩; replace BK357 := kb BK357 hb; replace HB := Aside0.mk (below_step (zb HB) hb); (try clear hb)))
       go_ret
       exact ⟨ze, zb HB⟩
      ·replace c13 := Bool.eq_false_iff.mpr c13
       subst c13
       rw [if_neg (show ¬ (false = true) by decide)] at H
       obtain rfl := Option.some.inj H
       go_enter Tryd.func52, Tryd.ntmps52
       go_wp2_with (first | ((with_reducible refine gd 1 rfl ?_); (try (refine gate_guard (by rfl) ?_; dsimp only)); refine bx (N := 1) (cs := #[.int .i64 a0_0, .int .i64 a0_1, .slice A0_2 l0_2.length c0_2, .string a0_3, .bool a0_4, .bool a0_5, .int .i64 a0_6, .slice A0_7 l0_7.length c0_7, .string a0_8, .bool a0_9, .int .i64 a0_10, .int .i64 a0_11]) (t := 58) ?_; intro gb357 hg w22 hbox hb; have BK357 := Aside0.mk (hbox); have GW357 := gw HB hg; have GE357 := GW357; replace HB := Aside0.mk (below_step (zb HB) hb); clear hb hbox hg; obtain ⟨hcz23_0, hcz23_1, hcz23_2, hcz23_3, hcz23_4, hcz23_5, hcz23_6, hcz23_7, hcz23_8, hcz23_9, hcz23_10, hcz23_11, hfz23_0, hfz23_1, hfz23_2, hfz23_3, hfz23_4, hfz23_5, hfz23_6, hfz23_7, hfz23_8, hfz23_9, hfz23_10, hfz23_11⟩ := c12 BK357) | ((with_reducible refine gq 75 rfl ?_); refine gl (some 5) Tryd.func75 #[.int .i64 a0_1, .int .i64 1, .int .i64 3] ?_; (with_reducible refine (impl_in.calls a0_1 1 3 true _ A2.out).mono ?_); rintro e w' ⟨rfl, ⟨nd, rfl⟩⟩; refine ⟨_, rfl, ?_⟩) | (go_at_call 76; (with_reducible refine (impl_HeadOk.calls k _ _ l0_2 true _ ?side1 ?side2 A4.out).mono ?_); (case side1 => exact (Kd.C_below HR0_2.out (zb HB))); (case side2 => exact HC0_2.out); rintro e w24 ⟨rfl, hb⟩; replace BK357 := kb BK357 hb; replace HB := Aside0.mk (below_step (zb HB) hb); (try clear hb); obtain ⟨hcz25_0, hcz25_1, hcz25_2, hcz25_3, hcz25_4, hcz25_5, hcz25_6, hcz25_7, hcz25_8, hcz25_9, hcz25_10, hcz25_11, hfz25_0, hfz25_1, hfz25_2, hfz25_3, hfz25_4, hfz25_5, hfz25_6, hfz25_7, hfz25_8, hfz25_9, hfz25_10, hfz25_11⟩ := c12 BK357) | (go_at_call 76; (with_reducible refine (impl_HeadOk.calls k _ _ l0_7 true _ ?side1 ?side2 A6.out).mono ?_); (case side1 => exact zc (Kd.C_below HR0_7.out HB.out)); (case side2 => exact HC0_7.out); rintro e w26 ⟨rfl, hb⟩; replace BK357 := kb BK357 hb; replace HB := Aside0.mk (below_step (zb HB) hb); (try clear hb); obtain ⟨hcz27_0, hcz27_1, hcz27_2, hcz27_3, hcz27_4, hcz27_5, hcz27_6, hcz27_7, hcz27_8, hcz27_9, hcz27_10, hcz27_11, hfz27_0, hfz27_1, hfz27_2, hfz27_3, hfz27_4, hfz27_5, hfz27_6, hfz27_7, hfz27_8, hfz27_9, hfz27_10, hfz27_11⟩ := c12 BK357) | (go_at_call 23; (with_reducible refine (impl_WordOk.calls k a0_3 true _ A8.out).mono ?_); rintro e w' ⟨rfl, ⟨nd, rfl⟩⟩) | (go_at_call 23; (with_reducible refine (impl_WordOk.calls k a0_8 true _ A10.out).mono ?_); rintro e w' ⟨rfl, ⟨nd, rfl⟩⟩) | (go_at_call 75; (with_reducible refine (impl_in.calls a0_6 0 (a0_3.size : Int) false _ A12.out).mono ?_); rintro e w' ⟨rfl, ⟨nd, rfl⟩⟩))
       go_ret
       exact ⟨ze, zb HB⟩
     ·replace c11 := Bool.eq_false_iff.mpr c11
      subst c11
      rw [if_neg (show ¬ (false = true) by decide)] at H
      obtain rfl := Option.some.inj H
      go_enter Tryd.func52, Tryd.ntmps52
      go_wp2_with (first | ((with_reducible refine gd 1 rfl ?_); (try (refine gate_guard (by rfl) ?_; dsimp only)); refine bx (N := 1) (cs := #[.int .i64 a0_0, .int .i64 a0_1, .slice A0_2 l0_2.length c0_2, .string a0_3, .bool a0_4, .bool a0_5, .int .i64 a0_6, .slice A0_7 l0_7.length c0_7, .string a0_8, .bool a0_9, .int .i64 a0_10, .int .i64 a0_11]) (t := 58) ?_; intro gb357 hg w28 hbox hb; have BK357 := Aside0.mk (hbox); have GW357 := gw HB hg; have GE357 := GW357; replace HB := Aside0.mk (below_step (zb HB) hb); clear hb hbox hg; obtain ⟨hcz29_0, hcz29_1, hcz29_2, hcz29_3, hcz29_4, hcz29_5, hcz29_6, hcz29_7, hcz29_8, hcz29_9, hcz29_10, hcz29_11, hfz29_0, hfz29_1, hfz29_2, hfz29_3, hfz29_4, hfz29_5, hfz29_6, hfz29_7, hfz29_8, hfz29_9, hfz29_10, hfz29_11⟩ := c12 BK357) | ((with_reducible refine gq 75 rfl ?_); refine gl (some 5) Tryd.func75 #[.int .i64 a0_1, .int .i64 1, .int .i64 3] ?_; (with_reducible refine (impl_in.calls a0_1 1 3 true _ A2.out).mono ?_); rintro e w' ⟨rfl, ⟨nd, rfl⟩⟩; refine ⟨_, rfl, ?_⟩) | (go_at_call 76; (with_reducible refine (impl_HeadOk.calls k _ _ l0_2 true _ ?side1 ?side2 A4.out).mono ?_); (case side1 => exact (Kd.C_below HR0_2.out (zb HB))); (case side2 => exact HC0_2.out); rintro e w30 ⟨rfl, hb⟩; replace BK357 := kb BK357 hb; replace HB := Aside0.mk (below_step (zb HB) hb); (try clear hb); obtain ⟨hcz31_0, hcz31_1, hcz31_2, hcz31_3, hcz31_4, hcz31_5, hcz31_6, hcz31_7, hcz31_8, hcz31_9, hcz31_10, hcz31_11, hfz31_0, hfz31_1, hfz31_2, hfz31_3, hfz31_4, hfz31_5, hfz31_6, hfz31_7, hfz31_8, hfz31_9, hfz31_10, hfz31_11⟩ := c12 BK357) | (go_at_call 76; (with_reducible refine (impl_HeadOk.calls k _ _ l0_7 true _ ?side1 ?side2 A6.out).mono ?_); (case side1 => exact zc (Kd.C_below HR0_7.out HB.out)); (case side2 => exact HC0_7.out); rintro e w32 ⟨rfl, hb⟩; replace BK357 := kb BK357 hb; replace HB := Aside0.mk (below_step (zb HB) hb); (try clear hb); obtain ⟨hcz33_0, hcz33_1, hcz33_2, hcz33_3, hcz33_4, hcz33_5, hcz33_6, hcz33_7, hcz33_8, hcz33_9, hcz33_10, hcz33_11, hfz33_0, hfz33_1, hfz33_2, hfz33_3, hfz33_4, hfz33_5, hfz33_6, hfz33_7, hfz33_8, hfz33_9, hfz33_10, hfz33_11⟩ := c12 BK357) | (go_at_call 23; (with_reducible refine (impl_WordOk.calls k a0_3 true _ A8.out).mono ?_); rintro e w' ⟨rfl, ⟨nd, rfl⟩⟩) | (go_at_call 23; (with_reducible refine (impl_WordOk.calls k a0_8 false _ A10.out).mono ?_); rintro e w' ⟨rfl, ⟨nd, rfl⟩⟩))
      go_ret
      exact ⟨ze, zb HB⟩
    ·replace c9 := Bool.eq_false_iff.mpr c9
     subst c9
     rw [if_neg (show ¬ (false = true) by decide)] at H
     obtain rfl := Option.some.inj H
     go_enter Tryd.func52, Tryd.ntmps52
     go_wp2_with (first | ((with_reducible refine gd 1 rfl ?_); (try (refine gate_guard (by rfl) ?_; dsimp only)); refine bx (N := 1) (cs := #[.int .i64 a0_0, .int .i64 a0_1, .slice A0_2 l0_2.length c0_2, .string a0_3, .bool a0_4, .bool a0_5, .int .i64 a0_6, .slice A0_7 l0_7.length c0_7, .string a0_8, .bool a0_9, .int .i64 a0_10, .int .i64 a0_11]) (t := 58) ?_; intro gb357 hg w34 hbox hb; have BK357 := Aside0.mk (hbox); have GW357 := gw HB hg; have GE357 := GW357; replace HB := Aside0.mk (below_step (zb HB) hb); clear hb hbox hg; obtain ⟨hcz35_0, hcz35_1, hcz35_2, hcz35_3, hcz35_4, hcz35_5, hcz35_6, hcz35_7, hcz35_8, hcz35_9, hcz35_10, hcz35_11, hfz35_0, hfz35_1, hfz35_2, hfz35_3, hfz35_4, hfz35_5, hfz35_6, hfz35_7, hfz35_8, hfz35_9, hfz35_10, hfz35_11⟩ := c12 BK357) | ((with_reducible refine gq 75 rfl ?_); refine gl (some 5) Tryd.func75 #[.int .i64 a0_1, .int .i64 1, .int .i64 3] ?_; (with_reducible refine (impl_in.calls a0_1 1 3 true _ A2.out).mono ?_); rintro e w' ⟨rfl, ⟨nd, rfl⟩⟩; refine ⟨_, rfl, ?_⟩) | (go_at_call 76; (with_reducible refine (impl_HeadOk.calls k _ _ l0_2 true _ ?side1 ?side2 A4.out).mono ?_); (case side1 => exact (Kd.C_below HR0_2.out (zb HB))); (case side2 => exact HC0_2.out); rintro e w36 ⟨rfl, hb⟩; replace BK357 := kb BK357 hb; replace HB := Aside0.mk (below_step (zb HB) hb); (try clear hb); obtain ⟨hcz37_0, hcz37_1, hcz37_2, hcz37_3, hcz37_4, hcz37_5, hcz37_6, hcz37_7, hcz37_8, hcz37_9, hcz37_10, hcz37_11, hfz37_0, hfz37_1, hfz37_2, hfz37_3, hfz37_4, hfz37_5, hfz37_6, hfz37_7, hfz37_8, hfz37_9, hfz37_10, hfz37_11⟩ := c12 BK357) | (go_at_call 76; (with_reducible refine (impl_HeadOk.calls k _ _ l0_7 true _ ?side1 ?side2 A6.out).mono ?_); (case side1 => exact zc (Kd.C_below HR0_7.out HB.out)); (case side2 => exact HC0_7.out); rintro e w38 ⟨rfl, hb⟩; replace BK357 := kb BK357 hb; replace HB := Aside0.mk (below_step (zb HB) hb); (try clear hb); obtain ⟨hcz39_0, hcz39_1, hcz39_2, hcz39_3, hcz39_4, hcz39_5, hcz39_6, hcz39_7, hcz39_8, hcz39_9, hcz39_10, hcz39_11, hfz39_0, hfz39_1, hfz39_2, hfz39_3, hfz39_4, hfz39_5, hfz39_6, hfz39_7, hfz39_8, hfz39_9, hfz39_10, hfz39_11⟩ := c12 BK357) | (go_at_call 23; (with_reducible refine (impl_WordOk.calls k a0_3 false _ A8.out).mono ?_); rintro e w' ⟨rfl, ⟨nd, rfl⟩⟩))
     go_ret
     exact ⟨ze, zb HB⟩
   ·replace c7 := Bool.eq_false_iff.mpr c7
    subst c7
    rw [if_neg (show ¬ (false = true) by decide)] at H
    obtain rfl := Option.some.inj H
    go_enter Tryd.func52, Tryd.ntmps52
    go_wp2_with (first | ((with_reducible refine gd 1 rfl ?_); (try (refine gate_guard (by rfl) ?_; dsimp only)); refine bx (N := 1) (cs := #[.int .i64 a0_0, .int .i64 a0_1, .slice A0_2 l0_2.length c0_2, .string a0_3, .bool a0_4, .bool a0_5, .int .i64 a0_6, .slice A0_7 l0_7.length c0_7, .string a0_8, .bool a0_9, .int .i64 a0_10, .int .i64 a0_11]) (t := 58) ?_; intro gb357 hg w40 hbox hb; have BK357 := Aside0.mk (hbox); have GW357 := gw HB hg; have GE357 := GW357; replace HB := Aside0.mk (below_step (zb HB) hb); clear hb hbox hg; obtain ⟨hcz41_0, hcz41_1, hcz41_2, hcz41_3, hcz41_4, hcz41_5, hcz41_6, hcz41_7, hcz41_8, hcz41_9, hcz41_10, hcz41_11, hfz41_0, hfz41_1, hfz41_2, hfz41_3, hfz41_4, hfz41_5, hfz41_6, hfz41_7, hfz41_8, hfz41_9, hfz41_10, hfz41_11⟩ := c12 BK357) | ((with_reducible refine gq 75 rfl ?_); refine gl (some 5) Tryd.func75 #[.int .i64 a0_1, .int .i64 1, .int .i64 3] ?_; (with_reducible refine (impl_in.calls a0_1 1 3 true _ A2.out).mono ?_); rintro e w' ⟨rfl, ⟨nd, rfl⟩⟩; refine ⟨_, rfl, ?_⟩) | (go_at_call 76; (with_reducible refine (impl_HeadOk.calls k _ _ l0_2 true _ ?side1 ?side2 A4.out).mono ?_); (case side1 => exact (Kd.C_below HR0_2.out (zb HB))); (case side2 => exact HC0_2.out); rintro e w42 ⟨rfl, hb⟩; replace BK357 := kb BK357 hb; replace HB := Aside0.mk (below_step (zb HB) hb); (try clear hb); obtain ⟨hcz43_0, hcz43_1, hcz43_2, hcz43_3, hcz43_4, hcz43_5, hcz43_6, hcz43_7, hcz43_8, hcz43_9, hcz43_10, hcz43_11, hfz43_0, hfz43_1, hfz43_2, hfz43_3, hfz43_4, hfz43_5, hfz43_6, hfz43_7, hfz43_8, hfz43_9, hfz43_10, hfz43_11⟩ := c12 BK357) | (go_at_call 76; (with_reducible refine (impl_HeadOk.calls k _ _ l0_7 false _ ?side1 ?side2 A6.out).mono ?_); (case side1 => exact zc (Kd.C_below HR0_7.out HB.out)); (case side2 => exact HC0_7.out); rintro e w44 ⟨rfl, hb⟩; replace BK357 := kb BK357 hb; replace HB := Aside0.mk (below_step (zb HB) hb); (try clear hb)))
    go_ret
    exact ⟨ze, zb HB⟩
  ·replace c5 := Bool.eq_false_iff.mpr c5
   subst c5
   rw [if_neg (show ¬ (false = true) by decide)] at H
   obtain rfl := Option.some.inj H
   go_enter Tryd.func52, Tryd.ntmps52
   go_wp2_with (first | ((with_reducible refine gd 1 rfl ?_); (try (refine gate_guard (by rfl) ?_; dsimp only)); refine bx (N := 1) (cs := #[.int .i64 a0_0, .int .i64 a0_1, .slice A0_2 l0_2.length c0_2, .string a0_3, .bool a0_4, .bool a0_5, .int .i64 a0_6, .slice A0_7 l0_7.length c0_7, .string a0_8, .bool a0_9, .int .i64 a0_10, .int .i64 a0_11]) (t := 58) ?_; intro gb357 hg w45 hbox hb; have BK357 := Aside0.mk (hbox); have GW357 := gw HB hg; have GE357 := GW357; replace HB := Aside0.mk (below_step (zb HB) hb); clear hb hbox hg; obtain ⟨hcz46_0, hcz46_1, hcz46_2, hcz46_3, hcz46_4, hcz46_5, hcz46_6, hcz46_7, hcz46_8, hcz46_9, hcz46_10, hcz46_11, hfz46_0, hfz46_1, hfz46_2, hfz46_3, hfz46_4, hfz46_5, hfz46_6, hfz46_7, hfz46_8, hfz46_9, hfz46_10, hfz46_11⟩ := c12 BK357) | ((with_reducible refine gq 75 rfl ?_); refine gl (some 5) Tryd.func75 #[.int .i64 a0_1, .int .i64 1, .int .i64 3] ?_; (with_reducible refine (impl_in.calls a0_1 1 3 true _ A2.out).mono ?_); rintro e w' ⟨rfl, ⟨nd, rfl⟩⟩; refine ⟨_, rfl, ?_⟩) | (go_at_call 76; (with_reducible refine (impl_HeadOk.calls k _ _ l0_2 false _ ?side1 ?side2 A4.out).mono ?_); (case side1 => exact (Kd.C_below HR0_2.out (zb HB))); (case side2 => exact HC0_2.out); rintro e w47 ⟨rfl, hb⟩; replace BK357 := kb BK357 hb; replace HB := Aside0.mk (below_step (zb HB) hb); (try clear hb)))
   go_ret
   exact ⟨ze, zb HB⟩
 ·replace c3 := Bool.eq_false_iff.mpr c3
  subst c3
  rw [if_neg (show ¬ (false = true) by decide)] at H
  obtain rfl := Option.some.inj H
  go_enter Tryd.func52, Tryd.ntmps52
  go_wp2_with (first | ((with_reducible refine gd 1 rfl ?_); (try (refine gate_guard (by rfl) ?_; dsimp only)); refine bx (N := 1) (cs := #[.int .i64 a0_0, .int .i64 a0_1, .slice A0_2 l0_2.length c0_2, .string a0_3, .bool a0_4, .bool a0_5, .int .i64 a0_6, .slice A0_7 l0_7.length c0_7, .string a0_8, .bool a0_9, .int .i64 a0_10, .int .i64 a0_11]) (t := 58) ?_; intro gb357 hg w48 hbox hb; have BK357 := Aside0.mk (hbox); have GW357 := gw HB hg; have GE357 := GW357; replace HB := Aside0.mk (below_step (zb HB) hb); clear hb hbox hg; obtain ⟨hcz49_0, hcz49_1, hcz49_2, hcz49_3, hcz49_4, hcz49_5, hcz49_6, hcz49_7, hcz49_8, hcz49_9, hcz49_10, hcz49_11, hfz49_0, hfz49_1, hfz49_2, hfz49_3, hfz49_4, hfz49_5, hfz49_6, hfz49_7, hfz49_8, hfz49_9, hfz49_10, hfz49_11⟩ := c12 BK357) | ((with_reducible refine gq 75 rfl ?_); refine gl (some 5) Tryd.func75 #[.int .i64 a0_1, .int .i64 1, .int .i64 3] ?_; (with_reducible refine (impl_in.calls a0_1 1 3 false _ A2.out).mono ?_); rintro e w' ⟨rfl, ⟨nd, rfl⟩⟩; refine ⟨_, rfl, ?_⟩))
  go_ret
  exact ⟨ze, zb HB⟩

end Go.Proofs.YtlpibelofcabhaaDoor.PFnExactEndCall
