-- WRITTEN BY a turned print (wip/tools of the prover's repo)
import Derived.Test.YtlpibelofcabhaaPFnExactWorldNewx0
namespace Go.Proofs.Ytlpibelofcabhaa.PFnExactWorldNew
open Go.RowKit Go.Proofs.YtlpibelofcabhaaW.PrintWords Go.Proofs.YtlpibelofcabhaaW.PrintLast Go.Proofs.YtlpibelofcabhaaW.PrintMore Go.Proofs.Ytlpibelofcabhaa.Lm
attribute [local go_sem] max2_int min2_int max_two min_two max_three min_three max_four min_four   -- for this text's walks alone
set_option linter.unusedVariables false
set_option linter.unusedSimpArgs false

/-! ### laws_markText: function 102 -/
-- thin
def laws_markText.l0 : Nat → Int → ByteArray → Option (ByteArray)
 | 0, _, _ => none
 | k + 1, x0, x3 => if x0 > 0 then ((some (([(wrap64 (48 + (Int.tmod x0 10))) % 256] : List Int) : List Int)).bind fun y155 => (if (strOfNums y155).size + x3.size ≤ 9223372036854775807 then (laws_markText.l0 k (wrap64 (Int.tdiv x0 10)) ((strOfNums y155) ++ x3)) else (none))) else (if 1 + x3.size ≤ 9223372036854775807 then (some ((⟨#[109]⟩ : ByteArray) ++ x3)) else (none))
def laws_markText.f (k : Nat) (a0 : Int) : Option (ByteArray) := if a0 ≤ 0 then (some (⟨#[109, 48]⟩ : ByteArray)) else (laws_markText.l0 k a0 (⟨#[]⟩ : ByteArray))
theorem laws_markText.mono_l : ∀ k, (∀ y0 y1, LeO (laws_markText.l0 k y0 y1) (laws_markText.l0 (k + 1) y0 y1))
 | 0 => fun _ _ r h => by simp [laws_markText.l0] at h
 | k + 1 => by
  have ih0 := laws_markText.mono_l k
  ·intro y0 y1
   unfold laws_markText.l0
   exact zm
theorem laws_markText.mono : ∀ a0 k, LeO (laws_markText.f k a0) (laws_markText.f (k + 1) a0) := by
 intro a0 k
 have ih0 := laws_markText.mono_l k
 unfold laws_markText.f
 exact zm
set_option maxHeartbeats 8000000 in
set_option maxRecDepth 100000 in
theorem laws_markText.calls (k : Nat) (a0 : Int) (r : ByteArray) (w : World) (h : laws_markText.f k a0 = some r) :
  Calls Try.prog 102 #[.int .i64 a0] w fun e w' => e = .returned (.string r) ∧ Below w.heap.size w w' := by
 have HB := Aside0.mk (Below.refl w.heap.size w)
 have H : (if a0 ≤ 0 then (some (⟨#[109, 48]⟩ : ByteArray)) else (laws_markText.l0 k a0 (⟨#[]⟩ : ByteArray))) = some r := h
 clear h
 replace H := sp H
 rcases H with ⟨c2, H⟩ | ⟨c2, H⟩
 ·skip
  have c2b0 := decide_eq_true c2
  clear c2
  obtain rfl := Option.some.inj H
  go_enter Try.func102, Try.ntmps102
  go_wp2
  go_ret
  exact ⟨ze, zb HB⟩
 ·skip
  have c2b0 := decide_eq_false c2
  clear c2
  have H' := Aside0.mk H
  clear H
  go_enter Try.func102, Try.ntmps102
  go_wp2
  go_loopg [0, 3] k (fun kq v0 v3 w' => ∃ (x0_1 : Int) (x3_1 : ByteArray), v0 = .int .i64 x0_1 ∧ v3 = .string x3_1 ∧ Aside0 (laws_markText.l0 kq x0_1 x3_1 = some r) ∧ Aside0 (kq ≤ k) ∧ Aside0 (Below w.heap.size w w'))
  case atStart => exact ⟨(a0), ((⟨#[]⟩ : ByteArray)), zs, zs, H', ⟨Nat.le_refl _⟩, ⟨zb HB⟩⟩
  case round =>
   clear H'
   try clear c1
   try clear c2
   try clear c2b0
   try clear p2
   obtain ⟨x0_1, x3_1, rfl, rfl, HA, HK1, HB⟩ := hrel
   cases gk with
   | zero => exact absurd HA.out (by simp [laws_markText.l0])
   | succ k1 =>
    have H := HA.out
    clear HA
    simp only [laws_markText.l0] at H
    replace H := sp H
    rcases H with ⟨c3, H⟩ | ⟨c3, H⟩
    ·skip
     have c3b0 := decide_eq_true c3
     clear c3
     obtain ⟨y155, hy155⟩ : ∃ y_ : List Int, y_ = (([(wrap64 (48 + (Int.tmod x0_1 10))) % 256] : List Int)) := ⟨_, rfl⟩
     replace H : (if (strOfNums y155).size + x3_1.size ≤ 9223372036854775807 then (laws_markText.l0 k1 (wrap64 (Int.tdiv x0_1 10)) ((strOfNums y155) ++ x3_1)) else (none)) = some r := by first | (rw [hy155]; with_reducible exact H) | (have H2_ := (Option.bind_some _ _).symm.trans H; rw [hy155]; with_reducible exact H2_) | (have H2_ := (Option.bind_some _ _).symm.trans H; with_reducible exact H2_) | with_reducible exact H | (rw [hy155]; exact H) | exact H
     have Ny155 := Aside0.mk hy155
     clear hy155
     by_cases c4 : (strOfNums y155).size + x3_1.size ≤ 9223372036854775807
     ·rw [if_pos c4] at H
      have c4b0 := eq_true c4
      have c4b1 := decide_eq_true c4
      try have c4b2 : (9223372036854775807 < (strOfNums y155).size + x3_1.size) = False := eq_false (Nat.not_lt.2 c4)
      have H' := Aside0.mk H
      clear H
      go_wp2_with (first | ((with_reducible refine gd 12 rfl ?_); refine Kd.R_lit (Kd.int .u8) _ 5 ?hg (N := 12) ?hd (xs := ([(wrap64 (48 + (Int.tmod x0_1 10))) % 256] : List Int)) (inner := [.int .u8 ((wrap64 (48 + (Int.tmod x0_1 10))) % 256)]) (ok := fun _ => True) (okp := fun _ => True) ?hr ?hp (fun _ hk => hk) trivial (Below.refl _ _) (Nat.le_refl _) (by simp) ?_; (case hd => rfl); (case hg => rfl); (case hr => first | (go_simp; done) | (go_simp; rfl)); (case hp => exact (Reps.one (show Kd.M (Kd.int .u8) _ _ _ ((wrap64 (48 + (Int.tmod x0_1 10))) % 256) [.int .u8 ((wrap64 (48 + (Int.tmod x0_1 10))) % 256)] from rfl) (Reps.none _ _))); intro v156 w5 ho6 hb hg_ hnew_; clear hg_ hnew_; (first | rw [← Ny155.out] at ho6 | (simp only [Int.reduceToNat] at ho6; rw [← Ny155.out] at ho6)); have HO157 := Aside0.mk (Kd.R_lower ho6 (below_size (zb HB))); replace HB := Aside0.mk (below_step (zb HB) hb); clear hb ho6; have hcv7 := own_string (P := Try.prog) Try.underlying22 Try.underlying5 Try.underlying9 (Kd.own_of_R HO157.out)))
      go_roundg k1
      case measure => have := HK1.out; omega
      case rel => exact ⟨(wrap64 (Int.tdiv x0_1 10)), ((strOfNums y155) ++ x3_1), zs, zs, H', ⟨by have := HK1.out; omega⟩, ⟨zb HB⟩⟩
     ·rw [if_neg c4] at H
      exact absurd H (by simp)
    ·skip
     have c3b0 := decide_eq_false c3
     clear c3
     replace H := sp H
     rcases H with ⟨c8, H⟩ | ⟨c8, H⟩
     ·skip
      have c8b0 := eq_true c8
      have c8b1 := decide_eq_true c8
      try have c8b2 : (9223372036854775807 < 1 + x3_1.size) = False := eq_false (Nat.not_lt.2 c8)
      obtain rfl := Option.some.inj H
      go_wp2
      go_ret
      exact ⟨ze, zb HB⟩
     ·skip
      exact absurd H (by simp)

/-! ### laws_markFrameS: function 45 -/
-- thin
def laws_markFrameS.l0 : Nat → List (S110) → Int → Int → Option (Int × (List (S110)))
 | 0, _, _, _ => none
 | k + 1, x0, x1, x5 => if x5 < (x0.length : Int) then (if 0 ≤ x5 then ((some (x0.set (x5 : Int).toNat (⟨x1, (rd_T110 x0 x5).f1, (rd_T110 x0 x5).f2, (rd_T110 x0 x5).f3⟩ : S110) : List (S110))).bind fun y158 => ((some (y158.set (x5 : Int).toNat (⟨(rd_T110 y158 x5).f0, ((Int.tmod (wrap64 (x1 + 1)) 3) == 0), (rd_T110 y158 x5).f2, (rd_T110 y158 x5).f3⟩ : S110) : List (S110))).bind fun y159 => ((some (y159.set (x5 : Int).toNat (⟨(rd_T110 y159 x5).f0, (rd_T110 y159 x5).f1, wrap64 ((wrap64 (x1 + 1)) + 1), (rd_T110 y159 x5).f3⟩ : S110) : List (S110))).bind fun y160 => ((laws_markText.f k (wrap64 ((wrap64 ((wrap64 (x1 + 1)) + 1)) + 1))).bind fun t161 => (laws_markFrameS.l0 k (y160.set (x5 : Int).toNat (⟨(rd_T110 y160 x5).f0, (rd_T110 y160 x5).f1, (rd_T110 y160 x5).f2, t161⟩ : S110)) (wrap64 ((wrap64 ((wrap64 ((wrap64 (x1 + 1)) + 1)) + 1)) + 1)) (wrap64 (x5 + 1))))))) else (none)) else (some (x1, x0))
def laws_markFrameS.f (k : Nat) (l0 : List (S110)) (a1 : Int) : Option (Int × (List (S110))) := laws_markFrameS.l0 k l0 a1 0
theorem laws_markFrameS.mono_l : ∀ k, (∀ y0 y1 y2, LeO (laws_markFrameS.l0 k y0 y1 y2) (laws_markFrameS.l0 (k + 1) y0 y1 y2))
 | 0 => fun _ _ _ r h => by simp [laws_markFrameS.l0] at h
 | k + 1 => by
  have ih0 := laws_markFrameS.mono_l k
  ·intro y0 y1 y2
   unfold laws_markFrameS.l0
   have m0 := @laws_markText.mono
   exact zm
theorem laws_markFrameS.mono : ∀ a0 a1 k, LeO (laws_markFrameS.f k a0 a1) (laws_markFrameS.f (k + 1) a0 a1) := by
 intro a0 a1 k
 have ih0 := laws_markFrameS.mono_l k
 unfold laws_markFrameS.f
 have m0 := @laws_markText.mono
 exact zm
set_option maxHeartbeats 8000000 in
set_option maxRecDepth 100000 in
theorem laws_markFrameS.calls (k : Nat) (P0_ : Nat → Prop) (u9000_ : Value) (l0 : List (S110)) (a1 : Int) (r1 : Int) (r2 : List (S110)) (w0 w : World) (hB : Below w0.heap.size w0 w) (ho0 : Kd.R k110 110 w w0.heap.size P0_ u9000_ l0) (h : laws_markFrameS.f k l0 a1 = some (r1, r2)) :
  Calls Try.prog 45 #[u9000_, .int .i64 a1] w fun e w' => e = .returned (.int .i64 r1) ∧ Kd.R k110 110 w' w0.heap.size (fun k_ => (P0_ k_ ∨ w.heap.size ≤ k_)) u9000_ r2 ∧ Below w0.heap.size w0 w' ∧ Kept w w' (fun k_ => P0_ k_) := by
 have HO0 := Aside0.mk (show Kd.R k110 110 w w0.heap.size (fun k_ => (P0_ k_ ∨ w.heap.size ≤ k_)) u9000_ l0 from Kd.R_mono ho0 (fun k_ hk => (.inl hk)))
 have HK := Aside0.mk (Kept.refl w (fun k_ => P0_ k_))
 have HW0 := Aside0.mk hB.size
 have HB := Aside0.mk hB
 clear hB
 have H : (laws_markFrameS.l0 k l0 a1 0) = some (r1, r2) := h
 clear h
 have H' := Aside0.mk H
 clear H
 go_enter Try.func45, Try.ntmps45
 go_wp2
 go_loopg [1, 5] k (fun kq v1 v5 w' => ∃ (x0_1 : List (S110)) (x1_1 : Int) (x5_1 : Int), v1 = .int .i64 x1_1 ∧ v5 = .int .i64 x5_1 ∧ Aside0 (laws_markFrameS.l0 kq x0_1 x1_1 x5_1 = some (r1, r2)) ∧ Aside0 (kq ≤ k) ∧ Aside0 (Kd.R k110 110 w' w0.heap.size (fun k_ => (P0_ k_ ∨ w.heap.size ≤ k_)) u9000_ x0_1) ∧ Aside0 (Kept w w' (fun k_ => P0_ k_)) ∧ Aside0 (Below w0.heap.size w0 w'))
 case atStart => exact ⟨(l0), (a1), (0), zs, zs, H', ⟨Nat.le_refl _⟩, ⟨by exact zr HO0⟩, ⟨by repeat (first | (with_reducible first | exact HK.out | apply Kept.alloc | apply Kept.drewN | apply Kept.drew) | exact HK.out)⟩, ⟨zb HB⟩⟩
 case round =>
  clear H'
  try clear p2
  obtain ⟨x0_1, x1_1, x5_1, rfl, rfl, HA, HK1, HO_0, HK, HB⟩ := hrel
  cases gk with
  | zero => exact absurd HA.out (by simp [laws_markFrameS.l0])
  | succ k1 =>
   have H := HA.out
   clear HA
   simp only [laws_markFrameS.l0] at H
   replace H := sp H
   rcases H with ⟨c3, H⟩ | ⟨c3, H⟩
   ·skip
    have c3b0 := decide_eq_true c3
    clear c3
    by_cases c4 : 0 ≤ x5_1
    ·rw [if_pos c4] at H
     have c4b0 := decide_eq_true c4
     clear c4
     obtain ⟨y158, hy158⟩ : ∃ y_ : List (S110), y_ = (x0_1.set (x5_1 : Int).toNat (⟨x1_1, (rd_T110 x0_1 x5_1).f1, (rd_T110 x0_1 x5_1).f2, (rd_T110 x0_1 x5_1).f3⟩ : S110)) := ⟨_, rfl⟩
     replace H : ((some (y158.set (x5_1 : Int).toNat (⟨(rd_T110 y158 x5_1).f0, ((Int.tmod (wrap64 (x1_1 + 1)) 3) == 0), (rd_T110 y158 x5_1).f2, (rd_T110 y158 x5_1).f3⟩ : S110) : List (S110))).bind fun y159 => ((some (y159.set (x5_1 : Int).toNat (⟨(rd_T110 y159 x5_1).f0, (rd_T110 y159 x5_1).f1, wrap64 ((wrap64 (x1_1 + 1)) + 1), (rd_T110 y159 x5_1).f3⟩ : S110) : List (S110))).bind fun y160 => ((laws_markText.f k1 (wrap64 ((wrap64 ((wrap64 (x1_1 + 1)) + 1)) + 1))).bind fun t161 => (laws_markFrameS.l0 k1 (y160.set (x5_1 : Int).toNat (⟨(rd_T110 y160 x5_1).f0, (rd_T110 y160 x5_1).f1, (rd_T110 y160 x5_1).f2, t161⟩ : S110)) (wrap64 ((wrap64 ((wrap64 ((wrap64 (x1_1 + 1)) + 1)) + 1)) + 1)) (wrap64 (x5_1 + 1)))))) = some (r1, r2) := by first | (rw [hy158]; with_reducible exact H) | (have H2_ := (Option.bind_some _ _).symm.trans H; rw [hy158]; with_reducible exact H2_) | (have H2_ := (Option.bind_some _ _).symm.trans H; with_reducible exact H2_) | with_reducible exact H | (rw [hy158]; exact H) | exact H
     have Ny158 := Aside0.mk hy158
     clear hy158
     obtain ⟨y159, hy159⟩ : ∃ y_ : List (S110), y_ = (y158.set (x5_1 : Int).toNat (⟨(rd_T110 y158 x5_1).f0, ((Int.tmod (wrap64 (x1_1 + 1)) 3) == 0), (rd_T110 y158 x5_1).f2, (rd_T110 y158 x5_1).f3⟩ : S110)) := ⟨_, rfl⟩
     replace H : ((some (y159.set (x5_1 : Int).toNat (⟨(rd_T110 y159 x5_1).f0, (rd_T110 y159 x5_1).f1, wrap64 ((wrap64 (x1_1 + 1)) + 1), (rd_T110 y159 x5_1).f3⟩ : S110) : List (S110))).bind fun y160 => ((laws_markText.f k1 (wrap64 ((wrap64 ((wrap64 (x1_1 + 1)) + 1)) + 1))).bind fun t161 => (laws_markFrameS.l0 k1 (y160.set (x5_1 : Int).toNat (⟨(rd_T110 y160 x5_1).f0, (rd_T110 y160 x5_1).f1, (rd_T110 y160 x5_1).f2, t161⟩ : S110)) (wrap64 ((wrap64 ((wrap64 ((wrap64 (x1_1 + 1)) + 1)) + 1)) + 1)) (wrap64 (x5_1 + 1))))) = some (r1, r2) := by first | (rw [hy159]; with_reducible exact H) | (have H2_ := (Option.bind_some _ _).symm.trans H; rw [hy159]; with_reducible exact H2_) | (have H2_ := (Option.bind_some _ _).symm.trans H; with_reducible exact H2_) | with_reducible exact H | (rw [hy159]; exact H) | exact H
     have Ny159 := Aside0.mk hy159
     clear hy159
     obtain ⟨y160, hy160⟩ : ∃ y_ : List (S110), y_ = (y159.set (x5_1 : Int).toNat (⟨(rd_T110 y159 x5_1).f0, (rd_T110 y159 x5_1).f1, wrap64 ((wrap64 (x1_1 + 1)) + 1), (rd_T110 y159 x5_1).f3⟩ : S110)) := ⟨_, rfl⟩
     replace H : ((laws_markText.f k1 (wrap64 ((wrap64 ((wrap64 (x1_1 + 1)) + 1)) + 1))).bind fun t161 => (laws_markFrameS.l0 k1 (y160.set (x5_1 : Int).toNat (⟨(rd_T110 y160 x5_1).f0, (rd_T110 y160 x5_1).f1, (rd_T110 y160 x5_1).f2, t161⟩ : S110)) (wrap64 ((wrap64 ((wrap64 ((wrap64 (x1_1 + 1)) + 1)) + 1)) + 1)) (wrap64 (x5_1 + 1)))) = some (r1, r2) := by first | (rw [hy160]; with_reducible exact H) | (have H2_ := (Option.bind_some _ _).symm.trans H; rw [hy160]; with_reducible exact H2_) | (have H2_ := (Option.bind_some _ _).symm.trans H; with_reducible exact H2_) | with_reducible exact H | (rw [hy160]; exact H) | exact H
     have Ny160 := Aside0.mk hy160
     clear hy160
     obtain ⟨t161, A8, H⟩ := ob H
     (try dsimp only at H)
     obtain ⟨y162, hy162⟩ : ∃ y_ : List (S110), y_ = (y160.set (x5_1 : Int).toNat (⟨(rd_T110 y160 x5_1).f0, (rd_T110 y160 x5_1).f1, (rd_T110 y160 x5_1).f2, t161⟩ : S110)) := ⟨_, rfl⟩
     replace H : (laws_markFrameS.l0 k1 y162 (wrap64 ((wrap64 ((wrap64 ((wrap64 (x1_1 + 1)) + 1)) + 1)) + 1)) (wrap64 (x5_1 + 1))) = some (r1, r2) := by first | (rw [hy162]; with_reducible exact H) | (have H2_ := (Option.bind_some _ _).symm.trans H; rw [hy162]; with_reducible exact H2_) | (have H2_ := (Option.bind_some _ _).symm.trans H; with_reducible exact H2_) | with_reducible exact H | (rw [hy162]; exact H) | exact H
     have Ny162 := Aside0.mk hy162
     clear hy162
     have H' := Aside0.mk H
     clear H
     obtain ⟨Ao10, co10, eo10⟩ := Kd.R_slice HO_0.out
     subst eo10
     have p5 : 0 ≤ (x5_1 : Int) := of_decide_eq_true za
     have q5 : (x5_1 : Int) < ((x0_1.length : Int) : Int) := of_decide_eq_true za
     obtain ⟨go5, co5, eo5, gb5, gl5, cl5, HG5⟩ := Kd.R_form HO_0.out (by omega)
     (first | cases eo5 | (injection eo5 with ea_ en_ ec_; (first | subst ea_ | (injection ea_ with ea_; subst ea_)); subst ec_; clear en_))
     have GB5 := Aside0.mk gb5
     have GG5 := Aside0.mk HG5
     clear gb5 gl5 HG5
     have HMgo5 := Aside0.mk (show (P0_ go5 ∨ w.heap.size ≤ go5) from (HO_0.out.1 _ rfl))
     obtain ⟨ce5, hcl5, hM5, hcc5, hfr5⟩ := Kd.R_elem HO_0.out z110 (x5_1 : Int) p5 q5
     obtain rfl := k110_openM hM5
     have hx5_0 : wr.cell? ⟨go5, (x5_1 : Int).toNat * 4, none⟩ = some (.int .i64 ((rd_T110 x0_1 x5_1).f0)) := hcc5 0 _ rfl
     have hx5_1 : wr.cell? ⟨go5, (x5_1 : Int).toNat * 4 + 1, none⟩ = some (.bool ((rd_T110 x0_1 x5_1).f1)) := hcc5 1 _ rfl
     have hx5_2 : wr.cell? ⟨go5, (x5_1 : Int).toNat * 4 + 2, none⟩ = some (.int .i64 ((rd_T110 x0_1 x5_1).f2)) := hcc5 2 _ rfl
     have hx5_3 : wr.cell? ⟨go5, (x5_1 : Int).toNat * 4 + 3, none⟩ = some (.string ((rd_T110 x0_1 x5_1).f3)) := hcc5 3 _ rfl
     have hf5_0 : wr.frozen? ⟨go5, (x5_1 : Int).toNat * 4, none⟩ = false := hfr5 0
     have hf5_1 : wr.frozen? ⟨go5, (x5_1 : Int).toNat * 4 + 1, none⟩ = false := hfr5 1
     have hf5_2 : wr.frozen? ⟨go5, (x5_1 : Int).toNat * 4 + 2, none⟩ = false := hfr5 2
     have hf5_3 : wr.frozen? ⟨go5, (x5_1 : Int).toNat * 4 + 3, none⟩ = false := hfr5 3
     clear hcl5 hcc5 hfr5 hM5
     replace p5 := eq_true p5
     replace q5 := eq_true q5
     have HX11 := Aside0.mk (show Kd.R k110 110 wr w0.heap.size (fun k_ => (P0_ k_ ∨ w.heap.size ≤ k_)) (.slice (some ⟨go5, 0, none⟩) x0_1.length co10) x0_1 from (zr HO_0))
     obtain ⟨ce11, hcl11, hM11, hcc11, hfr11⟩ := Kd.R_elem HX11.out z110 (x5_1 : Int) (of_decide_eq_true za) (by have h_ : (x5_1 : Int) < ((x0_1.length : Int) : Int) := of_decide_eq_true za; first | exact h_ | (have e_ := (Kd.R_reads' HO_0.out).1; omega) | simpa using h_)
     obtain rfl := k110_openM hM11
     have HP11 := Kd.R_seg HX11.out (x5_1 : Int) (of_decide_eq_true za) (by have h_ : (x5_1 : Int) < ((x0_1.length : Int) : Int) := of_decide_eq_true za; first | exact h_ | (have e_ := (Kd.R_reads' HO_0.out).1; omega) | simpa using h_) (seg := [.int .i64 x1_1]) (j := 0) hcl11 hcc11 (show 1 ≤ 4 from by decide) (x' := (⟨x1_1, (rd_T110 x0_1 x5_1).f1, (rd_T110 x0_1 x5_1).f2, (rd_T110 x0_1 x5_1).f3⟩ : S110)) (k110_mkM _ _ _ (⟨x1_1, (rd_T110 x0_1 x5_1).f1, (rd_T110 x0_1 x5_1).f2, (rd_T110 x0_1 x5_1).f3⟩ : S110) ) (fun _ hk => hk)
     have hx11_0 := hcc11 0 _ rfl
     (try simp only [show (k110).sz = 4 from rfl, Nat.mul_one, Nat.add_zero] at hx11_0)
     have hf11_0 := hfr11 0
     (try simp only [show (k110).sz = 4 from rfl, Nat.mul_one, Nat.add_zero] at hf11_0)
     clear hcl11 hcc11 hfr11 hM11
     go_wp2_with (first | ((with_reducible refine gate_store (t := 3) (p := 16) rfl ?_); refine store_event (t := 3) (p := 16) (v := ?vo_w12) (w1 := (wr.setCell ⟨go5, (x5_1 : Int).toNat * 4, none⟩ (.int .i64 x1_1))) ?hg ?ho ?hn ?hr ?_; (case ho => rfl); (case hg => rfl); (case hn => rfl); (case hr => first | (go_simp; done) | (go_simp; rfl)); intro w12 hw; have hg : wr.grownBy w12 (some go5) := (by rw [hw]; exact HP11.2); have hp_ : Kd.R k110 110 w12 w0.heap.size (fun k_ => (P0_ k_ ∨ w.heap.size ≤ k_)) (.slice (some ⟨go5, 0, none⟩) x0_1.length co10) y158 := (by rw [hw, Ny158.out]; exact HP11.1); clear HP11; replace HB := Aside0.mk ((by rw [hw]; exact below_set (HB.out) GB5.out : Below w0.heap.size w0 w12)); replace HK := Aside0.mk (Kept.of_grown (S := (fun k_ => P0_ k_)) hg (by repeat (first | (with_reducible first | exact HK.out | apply Kept.alloc | apply Kept.drewN | apply Kept.drew) | exact HK.out)) (fun k_ e_ => (HO_0.out.1 k_ e_))); replace HO_0 := Aside0.mk (hp_); clear hg hw hp_; have p6 : 0 ≤ (x5_1 : Int) := of_decide_eq_true za; have q6 : (x5_1 : Int) < ((x0_1.length : Int) : Int) := of_decide_eq_true za; obtain ⟨ce6, hcl6, hM6, hcc6, hfr6⟩ := Kd.R_elem HO_0.out z110 (x5_1 : Int) p6 q6; obtain rfl := k110_openM hM6; have hx6_0 : w12.cell? ⟨go5, (x5_1 : Int).toNat * 4, none⟩ = some (.int .i64 ((rd_T110 y158 x5_1).f0)) := hcc6 0 _ rfl; have hx6_1 : w12.cell? ⟨go5, (x5_1 : Int).toNat * 4 + 1, none⟩ = some (.bool ((rd_T110 y158 x5_1).f1)) := hcc6 1 _ rfl; have hx6_2 : w12.cell? ⟨go5, (x5_1 : Int).toNat * 4 + 2, none⟩ = some (.int .i64 ((rd_T110 y158 x5_1).f2)) := hcc6 2 _ rfl; have hx6_3 : w12.cell? ⟨go5, (x5_1 : Int).toNat * 4 + 3, none⟩ = some (.string ((rd_T110 y158 x5_1).f3)) := hcc6 3 _ rfl; have hf6_0 : w12.frozen? ⟨go5, (x5_1 : Int).toNat * 4, none⟩ = false := hfr6 0; have hf6_1 : w12.frozen? ⟨go5, (x5_1 : Int).toNat * 4 + 1, none⟩ = false := hfr6 1; have hf6_2 : w12.frozen? ⟨go5, (x5_1 : Int).toNat * 4 + 2, none⟩ = false := hfr6 2; have hf6_3 : w12.frozen? ⟨go5, (x5_1 : Int).toNat * 4 + 3, none⟩ = false := hfr6 3; clear hcl6 hcc6 hfr6 hM6; replace p6 := eq_true p6; replace q6 := eq_true q6; have HX13 := Aside0.mk (show Kd.R k110 110 w12 w0.heap.size (fun k_ => (P0_ k_ ∨ w.heap.size ≤ k_)) (.slice (some ⟨go5, 0, none⟩) x0_1.length co10) y158 from (zr HO_0)); obtain ⟨ce13, hcl13, hM13, hcc13, hfr13⟩ := Kd.R_elem HX13.out z110 (x5_1 : Int) (of_decide_eq_true za) (by have h_ : (x5_1 : Int) < ((x0_1.length : Int) : Int) := of_decide_eq_true za; first | exact h_ | (have e_ := (Kd.R_reads' HO_0.out).1; omega) | simpa using h_); obtain rfl := k110_openM hM13; have HP13 := Kd.R_seg HX13.out (x5_1 : Int) (of_decide_eq_true za) (by have h_ : (x5_1 : Int) < ((x0_1.length : Int) : Int) := of_decide_eq_true za; first | exact h_ | (have e_ := (Kd.R_reads' HO_0.out).1; omega) | simpa using h_) (seg := [.bool ((Int.tmod (wrap64 (x1_1 + 1)) 3) == 0)]) (j := 1) hcl13 hcc13 (show 2 ≤ 4 from by decide) (x' := (⟨(rd_T110 y158 x5_1).f0, ((Int.tmod (wrap64 (x1_1 + 1)) 3) == 0), (rd_T110 y158 x5_1).f2, (rd_T110 y158 x5_1).f3⟩ : S110)) (k110_mkM _ _ _ (⟨(rd_T110 y158 x5_1).f0, ((Int.tmod (wrap64 (x1_1 + 1)) 3) == 0), (rd_T110 y158 x5_1).f2, (rd_T110 y158 x5_1).f3⟩ : S110) ) (fun _ hk => hk); have hx13_1 := hcc13 1 _ rfl; (try simp only [show (k110).sz = 4 from rfl, Nat.mul_one, Nat.add_zero] at hx13_1); have hf13_1 := hfr13 1; (try simp only [show (k110).sz = 4 from rfl, Nat.mul_one, Nat.add_zero] at hf13_1); clear hcl13 hcc13 hfr13 hM13) | ((with_reducible refine gate_store (t := 4) (p := 25) rfl ?_); refine store_event (t := 4) (p := 25) (v := ?vo_w14) (w1 := (w12.setCell ⟨go5, (x5_1 : Int).toNat * 4 + 1, none⟩ (.bool ((Int.tmod (wrap64 (x1_1 + 1)) 3) == 0)))) ?hg ?ho ?hn ?hr ?_; (case ho => rfl); (case hg => rfl); (case hn => rfl); (case hr => first | (go_simp; done) | (go_simp; rfl)); intro w14 hw; have hg : w12.grownBy w14 (some go5) := (by rw [hw]; exact HP13.2); have hp_ : Kd.R k110 110 w14 w0.heap.size (fun k_ => (P0_ k_ ∨ w.heap.size ≤ k_)) (.slice (some ⟨go5, 0, none⟩) x0_1.length co10) y159 := (by rw [hw, Ny159.out]; exact HP13.1); clear HP13; replace HB := Aside0.mk ((by rw [hw]; exact below_set (HB.out) GB5.out : Below w0.heap.size w0 w14)); replace HK := Aside0.mk (Kept.of_grown (S := (fun k_ => P0_ k_)) hg (by repeat (first | (with_reducible first | exact HK.out | apply Kept.alloc | apply Kept.drewN | apply Kept.drew) | exact HK.out)) (fun k_ e_ => (HO_0.out.1 k_ e_))); replace HO_0 := Aside0.mk (hp_); clear hg hw hp_; have p7 : 0 ≤ (x5_1 : Int) := of_decide_eq_true za; have q7 : (x5_1 : Int) < ((x0_1.length : Int) : Int) := of_decide_eq_true za; obtain ⟨ce7, hcl7, hM7, hcc7, hfr7⟩ := Kd.R_elem HO_0.out z110 (x5_1 : Int) p7 q7; obtain rfl := k110_openM hM7; have hx7_0 : w14.cell? ⟨go5, (x5_1 : Int).toNat * 4, none⟩ = some (.int .i64 ((rd_T110 y159 x5_1).f0)) := hcc7 0 _ rfl; have hx7_1 : w14.cell? ⟨go5, (x5_1 : Int).toNat * 4 + 1, none⟩ = some (.bool ((rd_T110 y159 x5_1).f1)) := hcc7 1 _ rfl; have hx7_2 : w14.cell? ⟨go5, (x5_1 : Int).toNat * 4 + 2, none⟩ = some (.int .i64 ((rd_T110 y159 x5_1).f2)) := hcc7 2 _ rfl; have hx7_3 : w14.cell? ⟨go5, (x5_1 : Int).toNat * 4 + 3, none⟩ = some (.string ((rd_T110 y159 x5_1).f3)) := hcc7 3 _ rfl; have hf7_0 : w14.frozen? ⟨go5, (x5_1 : Int).toNat * 4, none⟩ = false := hfr7 0; have hf7_1 : w14.frozen? ⟨go5, (x5_1 : Int).toNat * 4 + 1, none⟩ = false := hfr7 1; have hf7_2 : w14.frozen? ⟨go5, (x5_1 : Int).toNat * 4 + 2, none⟩ = false := hfr7 2; have hf7_3 : w14.frozen? ⟨go5, (x5_1 : Int).toNat * 4 + 3, none⟩ = false := hfr7 3; clear hcl7 hcc7 hfr7 hM7; replace p7 := eq_true p7; replace q7 := eq_true q7; have HX15 := Aside0.mk (show Kd.R k110 110 w14 w0.heap.size (fun k_ => (P0_ k_ ∨ w.heap.size ≤ k_)) (.slice (some ⟨go5, 0, none⟩) x0_1.length co10) y159 from (zr HO_0)); obtain ⟨ce15, hcl15, hM15, hcc15, hfr15⟩ := Kd.R_elem HX15.out z110 (x5_1 : Int) (of_decide_eq_true za) (by have h_ : (x5_1 : Int) < ((x0_1.length : Int) : Int) := of_decide_eq_true za; first | exact h_ | (have e_ := (Kd.R_reads' HO_0.out).1; omega) | simpa using h_); obtain rfl := k110_openM hM15; have HP15 := Kd.R_seg HX15.out (x5_1 : Int) (of_decide_eq_true za) (by have h_ : (x5_1 : Int) < ((x0_1.length : Int) : Int) := of_decide_eq_true za; first | exact h_ | (have e_ := (Kd.R_reads' HO_0.out).1; omega) | simpa using h_) (seg := [.int .i64 (wrap64 ((wrap64 (x1_1 + 1)) + 1))]) (j := 2) hcl15 hcc15 (show 3 ≤ 4 from by decide) (x' := (⟨(rd_T110 y159 x5_1).f0, (rd_T110 y159 x5_1).f1, wrap64 ((wrap64 (x1_1 + 1)) + 1), (rd_T110 y159 x5_1).f3⟩ : S110)) (k110_mkM _ _ _ (⟨(rd_T110 y159 x5_1).f0, (rd_T110 y159 x5_1).f1, wrap64 ((wrap64 (x1_1 + 1)) + 1), (rd_T110 y159 x5_1).f3⟩ : S110) ) (fun _ hk => hk); have hx15_2 := hcc15 2 _ rfl; (try simp only [show (k110).sz = 4 from rfl, Nat.mul_one, Nat.add_zero] at hx15_2); have hf15_2 := hfr15 2; (try simp only [show (k110).sz = 4 from rfl, Nat.mul_one, Nat.add_zero] at hf15_2); clear hcl15 hcc15 hfr15 hM15) | ((with_reducible refine gate_store (t := 3) (p := 32) rfl ?_); refine store_event (t := 3) (p := 32) (v := ?vo_w16) (w1 := (w14.setCell ⟨go5, (x5_1 : Int).toNat * 4 + 2, none⟩ (.int .i64 (wrap64 ((wrap64 (x1_1 + 1)) + 1))))) ?hg ?ho ?hn ?hr ?_; (case ho => rfl); (case hg => rfl); (case hn => rfl); (case hr => first | (go_simp; done) | (go_simp; rfl)); intro w16 hw; have hg : w14.grownBy w16 (some go5) := (by rw [hw]; exact HP15.2); have hp_ : Kd.R k110 110 w16 w0.heap.size (fun k_ => (P0_ k_ ∨ w.heap.size ≤ k_)) (.slice (some ⟨go5, 0, none⟩) x0_1.length co10) y160 := (by rw [hw, Ny160.out]; exact HP15.1); clear HP15; replace HB := Aside0.mk ((by rw [hw]; exact below_set (HB.out) GB5.out : Below w0.heap.size w0 w16)); replace HK := Aside0.mk (Kept.of_grown (S := (fun k_ => P0_ k_)) hg (by repeat (first | (with_reducible first | exact HK.out | apply Kept.alloc | apply Kept.drewN | apply Kept.drew) | exact HK.out)) (fun k_ e_ => (HO_0.out.1 k_ e_))); replace HO_0 := Aside0.mk (hp_); clear hg hw hp_) | ((with_reducible refine gq 102 rfl ?_); refine gl (some 38) Try.func102 #[.int .i64 (wrap64 ((wrap64 ((wrap64 (x1_1 + 1)) + 1)) + 1))] ?_; (with_reducible refine (laws_markText.calls k1 (wrap64 ((wrap64 ((wrap64 (x1_1 + 1)) + 1)) + 1)) t161 _ A8.out).mono ?_); rintro e w17 ⟨rfl, hb⟩; refine ⟨_, rfl, ?_⟩; replace HO_0 := Aside0.mk (Kd.R_below (zr HO_0) hb); replace HK := Aside0.mk (Kept.below (S := (fun k_ => P0_ k_)) (by repeat (first | (with_reducible first | exact HK.out | apply Kept.alloc | apply Kept.drewN | apply Kept.drew) | exact HK.out)) hb); replace HB := Aside0.mk (below_step (zb HB) hb); (try clear hb); have p9 : 0 ≤ (x5_1 : Int) := of_decide_eq_true za; have q9 : (x5_1 : Int) < ((x0_1.length : Int) : Int) := of_decide_eq_true za; obtain ⟨ce9, hcl9, hM9, hcc9, hfr9⟩ := Kd.R_elem HO_0.out z110 (x5_1 : Int) p9 q9; obtain rfl := k110_openM hM9; have hx9_0 : w17.cell? ⟨go5, (x5_1 : Int).toNat * 4, none⟩ = some (.int .i64 ((rd_T110 y160 x5_1).f0)) := hcc9 0 _ rfl; have hx9_1 : w17.cell? ⟨go5, (x5_1 : Int).toNat * 4 + 1, none⟩ = some (.bool ((rd_T110 y160 x5_1).f1)) := hcc9 1 _ rfl; have hx9_2 : w17.cell? ⟨go5, (x5_1 : Int).toNat * 4 + 2, none⟩ = some (.int .i64 ((rd_T110 y160 x5_1).f2)) := hcc9 2 _ rfl; have hx9_3 : w17.cell? ⟨go5, (x5_1 : Int).toNat * 4 + 3, none⟩ = some (.string ((rd_T110 y160 x5_1).f3)) := hcc9 3 _ rfl; have hf9_0 : w17.frozen? ⟨go5, (x5_1 : Int).toNat * 4, none⟩ = false := hfr9 0; have hf9_1 : w17.frozen? ⟨go5, (x5_1 : Int).toNat * 4 + 1, none⟩ = false := hfr9 1; have hf9_2 : w17.frozen? ⟨go5, (x5_1 : Int).toNat * 4 + 2, none⟩ = false := hfr9 2; have hf9_3 : w17.frozen? ⟨go5, (x5_1 : Int).toNat * 4 + 3, none⟩ = false := hfr9 3; clear hcl9 hcc9 hfr9 hM9; replace p9 := eq_true p9; replace q9 := eq_true q9; have HX18 := Aside0.mk (show Kd.R k110 110 w17 w0.heap.size (fun k_ => (P0_ k_ ∨ w.heap.size ≤ k_)) (.slice (some ⟨go5, 0, none⟩) x0_1.length co10) y160 from (zr HO_0)); obtain ⟨ce18, hcl18, hM18, hcc18, hfr18⟩ := Kd.R_elem HX18.out z110 (x5_1 : Int) (of_decide_eq_true za) (by have h_ : (x5_1 : Int) < ((x0_1.length : Int) : Int) := of_decide_eq_true za; first | exact h_ | (have e_ := (Kd.R_reads' HO_0.out).1; omega) | simpa using h_); obtain rfl := k110_openM hM18; have HP18 := Kd.R_seg HX18.out (x5_1 : Int) (of_decide_eq_true za) (by have h_ : (x5_1 : Int) < ((x0_1.length : Int) : Int) := of_decide_eq_true za; first | exact h_ | (have e_ := (Kd.R_reads' HO_0.out).1; omega) | simpa using h_) (seg := [.string t161]) (j := 3) hcl18 hcc18 (show 4 ≤ 4 from by decide) (x' := (⟨(rd_T110 y160 x5_1).f0, (rd_T110 y160 x5_1).f1, (rd_T110 y160 x5_1).f2, t161⟩ : S110)) (k110_mkM _ _ _ (⟨(rd_T110 y160 x5_1).f0, (rd_T110 y160 x5_1).f1, (rd_T110 y160 x5_1).f2, t161⟩ : S110) ) (fun _ hk => hk); have hx18_3 := hcc18 3 _ rfl; (try simp only [show (k110).sz = 4 from rfl, Nat.mul_one, Nat.add_zero] at hx18_3); have hf18_3 := hfr18 3; (try simp only [show (k110).sz = 4 from rfl, Nat.mul_one, Nat.add_zero] at hf18_3); clear hcl18 hcc18 hfr18 hM18) | ((with_reducible refine gate_store (t := 9) (p := 40) rfl ?_); refine store_event (t := 9) (p := 40) (v := ?vo_w19) (w1 := (w17.setCell ⟨go5, (x5_1 : Int).toNat * 4 + 3, none⟩ (.string t161))) ?hg ?ho ?hn ?hr ?_; (case ho => rfl); (case hg => rfl); (case hn => rfl); (case hr => first | (go_simp; done) | (go_simp; rfl)); intro w19 hw; have hg : w17.grownBy w19 (some go5) := (by rw [hw]; exact HP18.2); have hp_ : Kd.R k110 110 w19 w0.heap.size (fun k_ => (P0_ k_ ∨ w.heap.size ≤ k_)) (.slice (some ⟨go5, 0, none⟩) x0_1.length co10) y162 := (by rw [hw, Ny162.out]; exact HP18.1); clear HP18; replace HB := Aside0.mk ((by rw [hw]; exact below_set (HB.out) GB5.out : Below w0.heap.size w0 w19)); replace HK := Aside0.mk (Kept.of_grown (S := (fun k_ => P0_ k_)) hg (by repeat (first | (with_reducible first | exact HK.out | apply Kept.alloc | apply Kept.drewN | apply Kept.drew) | exact HK.out)) (fun k_ e_ => (HO_0.out.1 k_ e_))); replace HO_0 := Aside0.mk (hp_); clear hg hw hp_))
     go_roundg k1
     case measure => have := HK1.out; omega
     case rel => exact ⟨(y162), (wrap64 ((wrap64 ((wrap64 ((wrap64 (x1_1 + 1)) + 1)) + 1)) + 1)), (wrap64 (x5_1 + 1)), zs, zs, H', ⟨by have := HK1.out; omega⟩, ⟨by exact zr HO_0⟩, ⟨by repeat (first | (with_reducible first | exact HK.out | apply Kept.alloc | apply Kept.drewN | apply Kept.drew) | exact HK.out)⟩, ⟨zb HB⟩⟩
    ·rw [if_neg c4] at H
     exact absurd H (by simp)
   ·skip
    have c3b0 := decide_eq_false c3
    clear c3
    simp only [Option.some.injEq, Prod.mk.injEq] at H
    obtain ⟨rfl, rfl⟩ := H
    obtain ⟨Ao20, co20, eo20⟩ := Kd.R_slice HO_0.out
    subst eo20
    go_wp2
    go_ret
    exact ⟨ze, zq (HO_0.out), zb HB, by repeat (first | (with_reducible first | exact HK.out | apply Kept.alloc | apply Kept.drewN | apply Kept.drew) | exact HK.out)⟩

/-! ### laws_markFieldS: function 125 -/
-- thin
def laws_markFieldS.l0 : Nat → List (S88) → Int → Int → Option (Int × (List (S88)))
 | 0, _, _, _ => none
 | k + 1, x0, x1, x5 => if x5 < (x0.length : Int) then ((laws_markText.f k x1).bind fun t163 => (if 0 ≤ x5 then ((some (x0.set (x5 : Int).toNat (⟨t163, (rd_T88 x0 x5).f1, (rd_T88 x0 x5).f2⟩ : S88) : List (S88))).bind fun y164 => ((laws_markText.f k (wrap64 (x1 + 1))).bind fun t165 => ((some (y164.set (x5 : Int).toNat (⟨(rd_T88 y164 x5).f0, t165, (rd_T88 y164 x5).f2⟩ : S88) : List (S88))).bind fun y166 => (laws_markFieldS.l0 k (y166.set (x5 : Int).toNat (⟨(rd_T88 y166 x5).f0, (rd_T88 y166 x5).f1, ((Int.tmod (wrap64 ((wrap64 (x1 + 1)) + 1)) 3) == 0)⟩ : S88)) (wrap64 ((wrap64 ((wrap64 (x1 + 1)) + 1)) + 1)) (wrap64 (x5 + 1)))))) else (none))) else (some (x1, x0))
def laws_markFieldS.f (k : Nat) (l0 : List (S88)) (a1 : Int) : Option (Int × (List (S88))) := laws_markFieldS.l0 k l0 a1 0
theorem laws_markFieldS.mono_l : ∀ k, (∀ y0 y1 y2, LeO (laws_markFieldS.l0 k y0 y1 y2) (laws_markFieldS.l0 (k + 1) y0 y1 y2))
 | 0 => fun _ _ _ r h => by simp [laws_markFieldS.l0] at h
 | k + 1 => by
  have ih0 := laws_markFieldS.mono_l k
  ·intro y0 y1 y2
   unfold laws_markFieldS.l0
   have m0 := @laws_markText.mono
   exact zm
theorem laws_markFieldS.mono : ∀ a0 a1 k, LeO (laws_markFieldS.f k a0 a1) (laws_markFieldS.f (k + 1) a0 a1) := by
 intro a0 a1 k
 have ih0 := laws_markFieldS.mono_l k
 unfold laws_markFieldS.f
 have m0 := @laws_markText.mono
 exact zm
set_option maxHeartbeats 8000000 in
set_option maxRecDepth 100000 in
theorem laws_markFieldS.calls (k : Nat) (P0_ : Nat → Prop) (u9000_ : Value) (l0 : List (S88)) (a1 : Int) (r1 : Int) (r2 : List (S88)) (w0 w : World) (hB : Below w0.heap.size w0 w) (ho0 : Kd.R k88 88 w w0.heap.size P0_ u9000_ l0) (h : laws_markFieldS.f k l0 a1 = some (r1, r2)) :
  Calls Try.prog 125 #[u9000_, .int .i64 a1] w fun e w' => e = .returned (.int .i64 r1) ∧ Kd.R k88 88 w' w0.heap.size (fun k_ => (P0_ k_ ∨ w.heap.size ≤ k_)) u9000_ r2 ∧ Below w0.heap.size w0 w' ∧ Kept w w' (fun k_ => P0_ k_) := by
 have HO0 := Aside0.mk (show Kd.R k88 88 w w0.heap.size (fun k_ => (P0_ k_ ∨ w.heap.size ≤ k_)) u9000_ l0 from Kd.R_mono ho0 (fun k_ hk => (.inl hk)))
 have HK := Aside0.mk (Kept.refl w (fun k_ => P0_ k_))
 have HW0 := Aside0.mk hB.size
 have HB := Aside0.mk hB
 clear hB
 have H : (laws_markFieldS.l0 k l0 a1 0) = some (r1, r2) := h
 clear h
 have H' := Aside0.mk H
 clear H
 go_enter Try.func125, Try.ntmps125
 go_wp2
 go_loopg [1, 5] k (fun kq v1 v5 w' => ∃ (x0_1 : List (S88)) (x1_1 : Int) (x5_1 : Int), v1 = .int .i64 x1_1 ∧ v5 = .int .i64 x5_1 ∧ Aside0 (laws_markFieldS.l0 kq x0_1 x1_1 x5_1 = some (r1, r2)) ∧ Aside0 (kq ≤ k) ∧ Aside0 (Kd.R k88 88 w' w0.heap.size (fun k_ => (P0_ k_ ∨ w.heap.size ≤ k_)) u9000_ x0_1) ∧ Aside0 (Kept w w' (fun k_ => P0_ k_)) ∧ Aside0 (Below w0.heap.size w0 w'))
 case atStart => exact ⟨(l0), (a1), (0), zs, zs, H', ⟨Nat.le_refl _⟩, ⟨by exact zr HO0⟩, ⟨by repeat (first | (with_reducible first | exact HK.out | apply Kept.alloc | apply Kept.drewN | apply Kept.drew) | exact HK.out)⟩, ⟨zb HB⟩⟩
 case round =>
  clear H'
  try clear c1
  try clear p2
  obtain ⟨x0_1, x1_1, x5_1, rfl, rfl, HA, HK1, HO_0, HK, HB⟩ := hrel
  cases gk with
  | zero => exact absurd HA.out (by simp [laws_markFieldS.l0])
  | succ k1 =>
   have H := HA.out
   clear HA
   simp only [laws_markFieldS.l0] at H
   replace H := sp H
   rcases H with ⟨c3, H⟩ | ⟨c3, H⟩
   ·skip
    have c3b0 := decide_eq_true c3
    clear c3
    obtain ⟨t163, A4, H⟩ := ob H
    (try dsimp only at H)
    by_cases c5 : 0 ≤ x5_1
    ·rw [if_pos c5] at H
     have c5b0 := decide_eq_true c5
     clear c5
     obtain ⟨y164, hy164⟩ : ∃ y_ : List (S88), y_ = (x0_1.set (x5_1 : Int).toNat (⟨t163, (rd_T88 x0_1 x5_1).f1, (rd_T88 x0_1 x5_1).f2⟩ : S88)) := ⟨_, rfl⟩
     replace H : ((laws_markText.f k1 (wrap64 (x1_1 + 1))).bind fun t165 => ((some (y164.set (x5_1 : Int).toNat (⟨(rd_T88 y164 x5_1).f0, t165, (rd_T88 y164 x5_1).f2⟩ : S88) : List (S88))).bind fun y166 => (laws_markFieldS.l0 k1 (y166.set (x5_1 : Int).toNat (⟨(rd_T88 y166 x5_1).f0, (rd_T88 y166 x5_1).f1, ((Int.tmod (wrap64 ((wrap64 (x1_1 + 1)) + 1)) 3) == 0)⟩ : S88)) (wrap64 ((wrap64 ((wrap64 (x1_1 + 1)) + 1)) + 1)) (wrap64 (x5_1 + 1))))) = some (r1, r2) := by first | (rw [hy164]; with_reducible exact H) | (have H2_ := (Option.bind_some _ _).symm.trans H; rw [hy164]; with_reducible exact H2_) | (have H2_ := (Option.bind_some _ _).symm.trans H; with_reducible exact H2_) | with_reducible exact H | (rw [hy164]; exact H) | exact H
     have Ny164 := Aside0.mk hy164
     clear hy164
     obtain ⟨t165, A7, H⟩ := ob H
     (try dsimp only at H)
     obtain ⟨y166, hy166⟩ : ∃ y_ : List (S88), y_ = (y164.set (x5_1 : Int).toNat (⟨(rd_T88 y164 x5_1).f0, t165, (rd_T88 y164 x5_1).f2⟩ : S88)) := ⟨_, rfl⟩
     replace H : (laws_markFieldS.l0 k1 (y166.set (x5_1 : Int).toNat (⟨(rd_T88 y166 x5_1).f0, (rd_T88 y166 x5_1).f1, ((Int.tmod (wrap64 ((wrap64 (x1_1 + 1)) + 1)) 3) == 0)⟩ : S88)) (wrap64 ((wrap64 ((wrap64 (x1_1 + 1)) + 1)) + 1)) (wrap64 (x5_1 + 1))) = some (r1, r2) := by first | (rw [hy166]; with_reducible exact H) | (have H2_ := (Option.bind_some _ _).symm.trans H; rw [hy166]; with_reducible exact H2_) | (have H2_ := (Option.bind_some _ _).symm.trans H; with_reducible exact H2_) | with_reducible exact H | (rw [hy166]; exact H) | exact H
     have Ny166 := Aside0.mk hy166
     clear hy166
     obtain ⟨y167, hy167⟩ : ∃ y_ : List (S88), y_ = (y166.set (x5_1 : Int).toNat (⟨(rd_T88 y166 x5_1).f0, (rd_T88 y166 x5_1).f1, ((Int.tmod (wrap64 ((wrap64 (x1_1 + 1)) + 1)) 3) == 0)⟩ : S88)) := ⟨_, rfl⟩
     replace H : (laws_markFieldS.l0 k1 y167 (wrap64 ((wrap64 ((wrap64 (x1_1 + 1)) + 1)) + 1)) (wrap64 (x5_1 + 1))) = some (r1, r2) := by first | (rw [hy167]; with_reducible exact H) | (have H2_ := (Option.bind_some _ _).symm.trans H; rw [hy167]; with_reducible exact H2_) | (have H2_ := (Option.bind_some _ _).symm.trans H; with_reducible exact H2_) | with_reducible exact H | (rw [hy167]; exact H) | exact H
     have Ny167 := Aside0.mk hy167
     clear hy167
     have H' := Aside0.mk H
     clear H
     obtain ⟨Ao10, co10, eo10⟩ := Kd.R_slice HO_0.out
     subst eo10
     go_wp2_with (first | ((with_reducible refine gq 102 rfl ?_); refine gl (some 15) Try.func102 #[.int .i64 x1_1] ?_; (with_reducible refine (laws_markText.calls k1 x1_1 t163 _ A4.out).mono ?_); rintro e w11 ⟨rfl, hb⟩; refine ⟨_, rfl, ?_⟩; replace HO_0 := Aside0.mk (Kd.R_below (zr HO_0) hb); replace HK := Aside0.mk (Kept.below (S := (fun k_ => P0_ k_)) (by repeat (first | (with_reducible first | exact HK.out | apply Kept.alloc | apply Kept.drewN | apply Kept.drew) | exact HK.out)) hb); replace HB := Aside0.mk (below_step (zb HB) hb); (try clear hb); have p6 : 0 ≤ (x5_1 : Int) := of_decide_eq_true za; have q6 : (x5_1 : Int) < ((x0_1.length : Int) : Int) := of_decide_eq_true za; obtain ⟨go6, co6, eo6, gb6, gl6, cl6, HG6⟩ := Kd.R_form HO_0.out (by omega); (first | cases eo6 | (injection eo6 with ea_ en_ ec_; (first | subst ea_ | (injection ea_ with ea_; subst ea_)); subst ec_; clear en_)); have GB6 := Aside0.mk gb6; have GG6 := Aside0.mk HG6; clear gb6 gl6 HG6; have HMgo6 := Aside0.mk (show (P0_ go6 ∨ w.heap.size ≤ go6) from (HO_0.out.1 _ rfl)); obtain ⟨ce6, hcl6, hM6, hcc6, hfr6⟩ := Kd.R_elem HO_0.out z88 (x5_1 : Int) p6 q6; obtain rfl := k88_openM hM6; have hx6_0 : w11.cell? ⟨go6, (x5_1 : Int).toNat * 3, none⟩ = some (.string ((rd_T88 x0_1 x5_1).f0)) := hcc6 0 _ rfl; have hx6_1 : w11.cell? ⟨go6, (x5_1 : Int).toNat * 3 + 1, none⟩ = some (.string ((rd_T88 x0_1 x5_1).f1)) := hcc6 1 _ rfl; have hx6_2 : w11.cell? ⟨go6, (x5_1 : Int).toNat * 3 + 2, none⟩ = some (.bool ((rd_T88 x0_1 x5_1).f2)) := hcc6 2 _ rfl; have hf6_0 : w11.frozen? ⟨go6, (x5_1 : Int).toNat * 3, none⟩ = false := hfr6 0; have hf6_1 : w11.frozen? ⟨go6, (x5_1 : Int).toNat * 3 + 1, none⟩ = false := hfr6 1; have hf6_2 : w11.frozen? ⟨go6, (x5_1 : Int).toNat * 3 + 2, none⟩ = false := hfr6 2; clear hcl6 hcc6 hfr6 hM6; replace p6 := eq_true p6; replace q6 := eq_true q6; have HX12 := Aside0.mk (show Kd.R k88 88 w11 w0.heap.size (fun k_ => (P0_ k_ ∨ w.heap.size ≤ k_)) (.slice (some ⟨go6, 0, none⟩) x0_1.length co10) x0_1 from (zr HO_0)); obtain ⟨ce12, hcl12, hM12, hcc12, hfr12⟩ := Kd.R_elem HX12.out z88 (x5_1 : Int) (of_decide_eq_true za) (by have h_ : (x5_1 : Int) < ((x0_1.length : Int) : Int) := of_decide_eq_true za; first | exact h_ | (have e_ := (Kd.R_reads' HO_0.out).1; omega) | simpa using h_); obtain rfl := k88_openM hM12; have HP12 := Kd.R_seg HX12.out (x5_1 : Int) (of_decide_eq_true za) (by have h_ : (x5_1 : Int) < ((x0_1.length : Int) : Int) := of_decide_eq_true za; first | exact h_ | (have e_ := (Kd.R_reads' HO_0.out).1; omega) | simpa using h_) (seg := [.string t163]) (j := 0) hcl12 hcc12 (show 1 ≤ 3 from by decide) (x' := (⟨t163, (rd_T88 x0_1 x5_1).f1, (rd_T88 x0_1 x5_1).f2⟩ : S88)) (k88_mkM _ _ _ (⟨t163, (rd_T88 x0_1 x5_1).f1, (rd_T88 x0_1 x5_1).f2⟩ : S88) ) (fun _ hk => hk); have hx12_0 := hcc12 0 _ rfl; (try simp only [show (k88).sz = 3 from rfl, Nat.mul_one, Nat.add_zero] at hx12_0); have hf12_0 := hfr12 0; (try simp only [show (k88).sz = 3 from rfl, Nat.mul_one, Nat.add_zero] at hf12_0); clear hcl12 hcc12 hfr12 hM12) | ((with_reducible refine gate_store (t := 9) (p := 17) rfl ?_); refine store_event (t := 9) (p := 17) (v := ?vo_w13) (w1 := (w11.setCell ⟨go6, (x5_1 : Int).toNat * 3, none⟩ (.string t163))) ?hg ?ho ?hn ?hr ?_; (case ho => rfl); (case hg => rfl); (case hn => rfl); (case hr => first | (go_simp; done) | (go_simp; rfl)); intro w13 hw; have hg : w11.grownBy w13 (some go6) := (by rw [hw]; exact HP12.2); have hp_ : Kd.R k88 88 w13 w0.heap.size (fun k_ => (P0_ k_ ∨ w.heap.size ≤ k_)) (.slice (some ⟨go6, 0, none⟩) x0_1.length co10) y164 := (by rw [hw, Ny164.out]; exact HP12.1); clear HP12; replace HB := Aside0.mk ((by rw [hw]; exact below_set (HB.out) GB6.out : Below w0.heap.size w0 w13)); replace HK := Aside0.mk (Kept.of_grown (S := (fun k_ => P0_ k_)) hg (by repeat (first | (with_reducible first | exact HK.out | apply Kept.alloc | apply Kept.drewN | apply Kept.drew) | exact HK.out)) (fun k_ e_ => (HO_0.out.1 k_ e_))); replace HO_0 := Aside0.mk (hp_); clear hg hw hp_) | ((with_reducible refine gq 102 rfl ?_); refine gl (some 23) Try.func102 #[.int .i64 (wrap64 (x1_1 + 1))] ?_; (with_reducible refine (laws_markText.calls k1 (wrap64 (x1_1 + 1)) t165 _ A7.out).mono ?_); rintro e w14 ⟨rfl, hb⟩; refine ⟨_, rfl, ?_⟩; replace HO_0 := Aside0.mk (Kd.R_below (zr HO_0) hb); replace HK := Aside0.mk (Kept.below (S := (fun k_ => P0_ k_)) (by repeat (first | (with_reducible first | exact HK.out | apply Kept.alloc | apply Kept.drewN | apply Kept.drew) | exact HK.out)) hb); replace HB := Aside0.mk (below_step (zb HB) hb); (try clear hb); have p8 : 0 ≤ (x5_1 : Int) := of_decide_eq_true za; have q8 : (x5_1 : Int) < ((x0_1.length : Int) : Int) := of_decide_eq_true za; obtain ⟨ce8, hcl8, hM8, hcc8, hfr8⟩ := Kd.R_elem HO_0.out z88 (x5_1 : Int) p8 q8; obtain rfl := k88_openM hM8; have hx8_0 : w14.cell? ⟨go6, (x5_1 : Int).toNat * 3, none⟩ = some (.string ((rd_T88 y164 x5_1).f0)) := hcc8 0 _ rfl; have hx8_1 : w14.cell? ⟨go6, (x5_1 : Int).toNat * 3 + 1, none⟩ = some (.string ((rd_T88 y164 x5_1).f1)) := hcc8 1 _ rfl; have hx8_2 : w14.cell? ⟨go6, (x5_1 : Int).toNat * 3 + 2, none⟩ = some (.bool ((rd_T88 y164 x5_1).f2)) := hcc8 2 _ rfl; have hf8_0 : w14.frozen? ⟨go6, (x5_1 : Int).toNat * 3, none⟩ = false := hfr8 0; have hf8_1 : w14.frozen? ⟨go6, (x5_1 : Int).toNat * 3 + 1, none⟩ = false := hfr8 1; have hf8_2 : w14.frozen? ⟨go6, (x5_1 : Int).toNat * 3 + 2, none⟩ = false := hfr8 2; clear hcl8 hcc8 hfr8 hM8; replace p8 := eq_true p8; replace q8 := eq_true q8; have HX15 := Aside0.mk (show Kd.R k88 88 w14 w0.heap.size (fun k_ => (P0_ k_ ∨ w.heap.size ≤ k_)) (.slice (some ⟨go6, 0, none⟩) x0_1.length co10) y164 from (zr HO_0)); obtain ⟨ce15, hcl15, hM15, hcc15, hfr15⟩ := Kd.R_elem HX15.out z88 (x5_1 : Int) (of_decide_eq_true za) (by have h_ : (x5_1 : Int) < ((x0_1.length : Int) : Int) := of_decide_eq_true za; first | exact h_ | (have e_ := (Kd.R_reads' HO_0.out).1; omega) | simpa using h_); obtain rfl := k88_openM hM15; have HP15 := Kd.R_seg HX15.out (x5_1 : Int) (of_decide_eq_true za) (by have h_ : (x5_1 : Int) < ((x0_1.length : Int) : Int) := of_decide_eq_true za; first | exact h_ | (have e_ := (Kd.R_reads' HO_0.out).1; omega) | simpa using h_) (seg := [.string t165]) (j := 1) hcl15 hcc15 (show 2 ≤ 3 from by decide) (x' := (⟨(rd_T88 y164 x5_1).f0, t165, (rd_T88 y164 x5_1).f2⟩ : S88)) (k88_mkM _ _ _ (⟨(rd_T88 y164 x5_1).f0, t165, (rd_T88 y164 x5_1).f2⟩ : S88) ) (fun _ hk => hk); have hx15_1 := hcc15 1 _ rfl; (try simp only [show (k88).sz = 3 from rfl, Nat.mul_one, Nat.add_zero] at hx15_1); have hf15_1 := hfr15 1; (try simp only [show (k88).sz = 3 from rfl, Nat.mul_one, Nat.add_zero] at hf15_1); clear hcl15 hcc15 hfr15 hM15) | ((with_reducible refine gate_store (t := 9) (p := 25) rfl ?_); refine store_event (t := 9) (p := 25) (v := ?vo_w16) (w1 := (w14.setCell ⟨go6, (x5_1 : Int).toNat * 3 + 1, none⟩ (.string t165))) ?hg ?ho ?hn ?hr ?_; (case ho => rfl); (case hg => rfl); (case hn => rfl); (case hr => first | (go_simp; done) | (go_simp; rfl)); intro w16 hw; have hg : w14.grownBy w16 (some go6) := (by rw [hw]; exact HP15.2); have hp_ : Kd.R k88 88 w16 w0.heap.size (fun k_ => (P0_ k_ ∨ w.heap.size ≤ k_)) (.slice (some ⟨go6, 0, none⟩) x0_1.length co10) y166 := (by rw [hw, Ny166.out]; exact HP15.1); clear HP15; replace HB := Aside0.mk ((by rw [hw]; exact below_set (HB.out) GB6.out : Below w0.heap.size w0 w16)); replace HK := Aside0.mk (Kept.of_grown (S := (fun k_ => P0_ k_)) hg (by repeat (first | (with_reducible first | exact HK.out | apply Kept.alloc | apply Kept.drewN | apply Kept.drew) | exact HK.out)) (fun k_ e_ => (HO_0.out.1 k_ e_))); replace HO_0 := Aside0.mk (hp_); clear hg hw hp_; have p9 : 0 ≤ (x5_1 : Int) := of_decide_eq_true za; have q9 : (x5_1 : Int) < ((x0_1.length : Int) : Int) := of_decide_eq_true za; obtain ⟨ce9, hcl9, hM9, hcc9, hfr9⟩ := Kd.R_elem HO_0.out z88 (x5_1 : Int) p9 q9; obtain rfl := k88_openM hM9; have hx9_0 : w16.cell? ⟨go6, (x5_1 : Int).toNat * 3, none⟩ = some (.string ((rd_T88 y166 x5_1).f0)) := hcc9 0 _ rfl; have hx9_1 : w16.cell? ⟨go6, (x5_1 : Int).toNat * 3 + 1, none⟩ = some (.string ((rd_T88 y166 x5_1).f1)) := hcc9 1 _ rfl; have hx9_2 : w16.cell? ⟨go6, (x5_1 : Int).toNat * 3 + 2, none⟩ = some (.bool ((rd_T88 y166 x5_1).f2)) := hcc9 2 _ rfl; have hf9_0 : w16.frozen? ⟨go6, (x5_1 : Int).toNat * 3, none⟩ = false := hfr9 0; have hf9_1 : w16.frozen? ⟨go6, (x5_1 : Int).toNat * 3 + 1, none⟩ = false := hfr9 1; have hf9_2 : w16.frozen? ⟨go6, (x5_1 : Int).toNat * 3 + 2, none⟩ = false := hfr9 2; clear hcl9 hcc9 hfr9 hM9; replace p9 := eq_true p9; replace q9 := eq_true q9; have HX17 := Aside0.mk (show Kd.R k88 88 w16 w0.heap.size (fun k_ => (P0_ k_ ∨ w.heap.size ≤ k_)) (.slice (some ⟨go6, 0, none⟩) x0_1.length co10) y166 from (zr HO_0)); obtain ⟨ce17, hcl17, hM17, hcc17, hfr17⟩ := Kd.R_elem HX17.out z88 (x5_1 : Int) (of_decide_eq_true za) (by have h_ : (x5_1 : Int) < ((x0_1.length : Int) : Int) := of_decide_eq_true za; first | exact h_ | (have e_ := (Kd.R_reads' HO_0.out).1; omega) | simpa using h_); obtain rfl := k88_openM hM17; have HP17 := Kd.R_seg HX17.out (x5_1 : Int) (of_decide_eq_true za) (by have h_ : (x5_1 : Int) < ((x0_1.length : Int) : Int) := of_decide_eq_true za; first | exact h_ | (have e_ := (Kd.R_reads' HO_0.out).1; omega) | simpa using h_) (seg := [.bool ((Int.tmod (wrap64 ((wrap64 (x1_1 + 1)) + 1)) 3) == 0)]) (j := 2) hcl17 hcc17 (show 3 ≤ 3 from by decide) (x' := (⟨(rd_T88 y166 x5_1).f0, (rd_T88 y166 x5_1).f1, ((Int.tmod (wrap64 ((wrap64 (x1_1 + 1)) + 1)) 3) == 0)⟩ : S88)) (k88_mkM _ _ _ (⟨(rd_T88 y166 x5_1).f0, (rd_T88 y166 x5_1).f1, ((Int.tmod (wrap64 ((wrap64 (x1_1 + 1)) + 1)) 3) == 0)⟩ : S88) ) (fun _ hk => hk); have hx17_2 := hcc17 2 _ rfl; (try simp only [show (k88).sz = 3 from rfl, Nat.mul_one, Nat.add_zero] at hx17_2); have hf17_2 := hfr17 2; (try simp only [show (k88).sz = 3 from rfl, Nat.mul_one, Nat.add_zero] at hf17_2); clear hcl17 hcc17 hfr17 hM17) | ((with_reducible refine gate_store (t := 4) (p := 34) rfl ?_); refine store_event (t := 4) (p := 34) (v := ?vo_w18) (w1 := (w16.setCell ⟨go6, (x5_1 : Int).toNat * 3 + 2, none⟩ (.bool ((Int.tmod (wrap64 ((wrap64 (x1_1 + 1)) + 1)) 3) == 0)))) ?hg ?ho ?hn ?hr ?_; (case ho => rfl); (case hg => rfl); (case hn => rfl); (case hr => first | (go_simp; done) | (go_simp; rfl)); intro w18 hw; have hg : w16.grownBy w18 (some go6) := (by rw [hw]; exact HP17.2); have hp_ : Kd.R k88 88 w18 w0.heap.size (fun k_ => (P0_ k_ ∨ w.heap.size ≤ k_)) (.slice (some ⟨go6, 0, none⟩) x0_1.length co10) y167 := (by rw [hw, Ny167.out]; exact HP17.1); clear HP17; replace HB := Aside0.mk ((by rw [hw]; exact below_set (HB.out) GB6.out : Below w0.heap.size w0 w18)); replace HK := Aside0.mk (Kept.of_grown (S := (fun k_ => P0_ k_)) hg (by repeat (first | (with_reducible first | exact HK.out | apply Kept.alloc | apply Kept.drewN | apply Kept.drew) | exact HK.out)) (fun k_ e_ => (HO_0.out.1 k_ e_))); replace HO_0 := Aside0.mk (hp_); clear hg hw hp_))
     go_roundg k1
     case measure => have := HK1.out; omega
     case rel => exact ⟨(y167), (wrap64 ((wrap64 ((wrap64 (x1_1 + 1)) + 1)) + 1)), (wrap64 (x5_1 + 1)), zs, zs, H', ⟨by have := HK1.out; omega⟩, ⟨by exact zr HO_0⟩, ⟨by repeat (first | (with_reducible first | exact HK.out | apply Kept.alloc | apply Kept.drewN | apply Kept.drew) | exact HK.out)⟩, ⟨zb HB⟩⟩
    ·rw [if_neg c5] at H
     exact absurd H (by simp)
   ·skip
    have c3b0 := decide_eq_false c3
    clear c3
    simp only [Option.some.injEq, Prod.mk.injEq] at H
    obtain ⟨rfl, rfl⟩ := H
    obtain ⟨Ao19, co19, eo19⟩ := Kd.R_slice HO_0.out
    subst eo19
    go_wp2
    go_ret
    exact ⟨ze, zq (HO_0.out), zb HB, by repeat (first | (with_reducible first | exact HK.out | apply Kept.alloc | apply Kept.drewN | apply Kept.drew) | exact HK.out)⟩

/-! ### laws_markTable: function 70 -/
-- thin
def laws_markTable.f (k : Nat) (l0_0 : List (S88)) (a0_1 : Int) (a1 : Int) : Option (Int × (List (S88))) := (laws_markFieldS.f k l0_0 a1).bind fun bt169 => (some (bt169.1, bt169.2))
theorem laws_markTable.mono : ∀ a0 a1 a2 k, LeO (laws_markTable.f k a0 a1 a2) (laws_markTable.f (k + 1) a0 a1 a2) := by
 intro a0 a1 a2 k
 unfold laws_markTable.f
 have m0 := @laws_markFieldS.mono
 exact zm
set_option maxHeartbeats 8000000 in
set_option maxRecDepth 100000 in
theorem laws_markTable.calls (k : Nat) (P0_0_ : Nat → Prop) (u9000_ : Value) (l0_0 : List (S88)) (a0_1 : Int) (a1 : Int) (r1 : Int) (r2 : List (S88)) (w0 w : World) (hB : Below w0.heap.size w0 w) (ho0_0 : Kd.R k88 88 w w0.heap.size P0_0_ u9000_ l0_0) (h : laws_markTable.f k l0_0 a0_1 a1 = some (r1, r2)) :
  Calls Try.prog 70 #[.agg #[u9000_, .int .i64 a0_1], .int .i64 a1] w fun e w' => e = .returned (.int .i64 r1) ∧ Kd.R k88 88 w' w0.heap.size (fun k_ => (P0_0_ k_ ∨ w.heap.size ≤ k_)) u9000_ r2 ∧ Below w0.heap.size w0 w' ∧ Kept w w' (fun k_ => P0_0_ k_) := by
 have hu25 := Try.underlying25
 have HO0_0 := Aside0.mk (show Kd.R k88 88 w w0.heap.size (fun k_ => (P0_0_ k_ ∨ w.heap.size ≤ k_)) u9000_ l0_0 from Kd.R_mono ho0_0 (fun k_ hk => (.inl hk)))
 have HK := Aside0.mk (Kept.refl w (fun k_ => P0_0_ k_))
 have HW0 := Aside0.mk hB.size
 have HB := Aside0.mk hB
 clear hB
 have H : ((laws_markFieldS.f k l0_0 a1).bind fun bt169 => (some (bt169.1, bt169.2))) = some (r1, r2) := h
 clear h
 obtain ⟨⟨t169, t170⟩, A3, H⟩ := ob H
 (try dsimp only at H)
 simp only [Option.some.injEq, Prod.mk.injEq] at H
 obtain ⟨rfl, rfl⟩ := H
 obtain ⟨Ao4, co4, eo4⟩ := Kd.R_slice HO0_0.out
 subst eo4
 go_enter Try.func70, Try.ntmps70
 go_wp2_with (first | ((with_reducible refine gd 2 rfl ?_); refine bx (N := 2) (cs := #[.slice Ao4 l0_0.length co4, .int .i64 a0_1]) (t := 25) ?_; intro gb168 hg w5 hbox hb; replace HO0_0 := Aside0.mk (Kd.R_below (zr HO0_0) hb); have BK168 := Aside0.mk (hbox); have GW168 := Aside0.mk ((by rw [hg]; exact (by first | exact HK.out.1 | exact (show Kept w _ (fun k_ => P0_0_ k_) from by repeat (first | (with_reducible first | exact HK.out | apply Kept.alloc | apply Kept.drewN | apply Kept.drew) | exact HK.out)).1) : w.heap.size ≤ gb168)); replace HK := Aside0.mk (Kept.below (S := (fun k_ => P0_0_ k_)) (by repeat (first | (with_reducible first | exact HK.out | apply Kept.alloc | apply Kept.drewN | apply Kept.drew) | exact HK.out)) hb); have GE168 := Aside0.mk ((by rw [hg]; exact (below_size (zb HB)) : w0.heap.size ≤ gb168)); replace HB := Aside0.mk (below_step (zb HB) hb); clear hb hbox hg; obtain ⟨hcz6_0, hcz6_1, hfz6_0, hfz6_1⟩ := c2 BK168) | ((with_reducible refine gq 125 rfl ?_); refine gl (some 8) Try.func125 #[.slice Ao4 l0_0.length co4, .int .i64 a1] ?_; (with_reducible refine (laws_markFieldS.calls k (fun k_ => some k_ = (.slice Ao4 l0_0.length co4 : Value).ownBlock) (.slice Ao4 l0_0.length co4) l0_0 a1 t169 t170 w0 _ ?side1 ?side2 A3.out).mono ?_); (case side1 => exact zb HB); (case side2 => exact Kd.R_tight rfl HO0_0.out); rintro e w7 ⟨rfl, hy0, hb, hkp⟩; refine ⟨_, rfl, ?_⟩; replace BK168 := Aside0.mk (blk_kept (zk BK168) hkp (fun hs_ => (fun e_ => (Kd.R_ne HO0_0.out BK168.out (by decide)) e_) hs_)); replace HK := Aside0.mk (Kept.then_ (S := (fun k_ => P0_0_ k_)) (by repeat (first | (with_reducible first | exact HK.out | apply Kept.alloc | apply Kept.drewN | apply Kept.drew | refine Kept.setCell ?_ (.inr GW168.out) _) | exact HK.out)) hkp (fun k_ hs_ => (fun e_ => (HO0_0.out.1 k_ e_.symm)) hs_)); replace HO0_0 := Aside0.mk (Kd.R_reok rfl hy0 (fun k_ e_ => HO0_0.out.1 k_ e_)); replace HB := Aside0.mk (hb); (try clear hb); (try clear hkp); (try clear hy0)))
 go_ret
 exact ⟨ze, zq (HO0_0.out), zb HB, by repeat (first | (with_reducible first | exact HK.out | apply Kept.alloc | apply Kept.drewN | apply Kept.drew | refine Kept.setCell ?_ (.inr GW168.out) _) | exact HK.out)⟩

/-! ### laws_markStreamS: function 71 -/
-- by hand
/-- Nothing to mark: where there are no streams the number stays. -/
def laws_markStreamS.f (l0 : List (S104)) (a1 : Int) : Option (Int) := if l0.length = 0 then some a1 else none
set_option maxHeartbeats 4000000 in
set_option maxRecDepth 100000 in
theorem laws_markStreamS.calls (A0 : Option Addr) (c0 : Nat) (l0 : List (S104)) (a1 : Int) (r : Int) (w : World) (hr0 : Kd.C k104 w A0 l0.length l0) (hc0 : l0.length ≤ c0) (h : laws_markStreamS.f l0 a1 = some r) :
    Calls Try.prog 71 #[.slice A0 l0.length c0, .int .i64 a1] w fun e w' => e = .returned (.int .i64 r) ∧ Drawn0 w w' := by
  unfold laws_markStreamS.f at h
  split at h
  case isFalse => cases h
  rename_i hl
  obtain rfl := Option.some.inj h
  clear h hr0 hc0
  rw [hl]
  clear hl l0
  go_enter Try.func71, Try.ntmps71
  go_wp2
  go_loop [1, 5] (fun v1 v5 => v1 = .int .i64 a1 ∧ v5 = .int .i64 0) (fun _ _ => 0)
  case atStart => exact ⟨rfl, rfl⟩
  case round =>
    obtain ⟨rfl, rfl⟩ := hrel
    go_wp2
    go_ret
    exact ⟨rfl, ⟨0, rfl⟩⟩

/-! ### laws_markEnd: function 23 -/
-- thin
def laws_markEnd.f (k : Nat) (a0_0 : Bool) (l0_1 : List (S88)) (a0_2 : Int) (l0_3 : List (S88)) (a0_4 : Int) (a0_5 : ByteArray) (l0_6 : List (S104)) (a0_7 : Int) (a0_8 : Int) (l0_9 : List (S110)) (a0_10 : Bool) (a1 : Int) : Option (Int × (List (S88)) × (List (S88)) × (List (S110))) := (laws_markTable.f k l0_1 a0_2 a1).bind fun bt172 => ((laws_markTable.f k l0_3 a0_4 bt172.1).bind fun bt174 => ((laws_markStreamS.f l0_6 bt174.1).bind fun t176 => ((laws_markFrameS.f k l0_9 t176).bind fun bt177 => (some (bt177.1, bt172.2, bt174.2, bt177.2)))))
theorem laws_markEnd.mono : ∀ a0 a1 a2 a3 a4 a5 a6 a7 a8 a9 a10 a11 k, LeO (laws_markEnd.f k a0 a1 a2 a3 a4 a5 a6 a7 a8 a9 a10 a11) (laws_markEnd.f (k + 1) a0 a1 a2 a3 a4 a5 a6 a7 a8 a9 a10 a11) := by
 intro a0 a1 a2 a3 a4 a5 a6 a7 a8 a9 a10 a11 k
 unfold laws_markEnd.f
 have m0 := @laws_markFrameS.mono
 have m1 := @laws_markTable.mono
 exact zm
set_option maxHeartbeats 8000000 in
set_option maxRecDepth 100000 in
theorem laws_markEnd.calls (k : Nat) (a0_0 : Bool) (P0_1_ : Nat → Prop) (u9000_ : Value) (l0_1 : List (S88)) (a0_2 : Int) (P0_3_ : Nat → Prop) (u9001_ : Value) (l0_3 : List (S88)) (a0_4 : Int) (a0_5 : ByteArray) (A0_6 : Option Addr) (c0_6 : Nat) (l0_6 : List (S104)) (a0_7 : Int) (a0_8 : Int) (P0_9_ : Nat → Prop) (u9002_ : Value) (l0_9 : List (S110)) (a0_10 : Bool) (a1 : Int) (r1 : Int) (r2 : List (S88)) (r3 : List (S88)) (r4 : List (S110)) (w0 w : World) (hB : Below w0.heap.size w0 w) (ho0_1 : Kd.R k88 88 w w0.heap.size P0_1_ u9000_ l0_1) (hp0_1_0_3 : ∀ k_, P0_1_ k_ → ¬ P0_3_ k_) (ho0_3 : Kd.R k88 88 w w0.heap.size P0_3_ u9001_ l0_3) (hp0_3_0_1 : ∀ k_, P0_3_ k_ → ¬ P0_1_ k_) (hr0_6 : ∀ W_, Kept w W_ (fun k_ => P0_1_ k_ ∨ P0_3_ k_ ∨ P0_9_ k_) → Kd.C k104 W_ A0_6 l0_6.length l0_6) (hc0_6 : l0_6.length ≤ c0_6) (ho0_9 : Kd.R k110 110 w w0.heap.size P0_9_ u9002_ l0_9) (h : laws_markEnd.f k a0_0 l0_1 a0_2 l0_3 a0_4 a0_5 l0_6 a0_7 a0_8 l0_9 a0_10 a1 = some (r1, r2, r3, r4)) :
  Calls Try.prog 23 #[.agg #[.bool a0_0, u9000_, .int .i64 a0_2, u9001_, .int .i64 a0_4, .string a0_5, .slice A0_6 l0_6.length c0_6, .int .i64 a0_7, .int .i64 a0_8, u9002_, .bool a0_10], .int .i64 a1] w fun e w' => e = .returned (.int .i64 r1) ∧ Kd.R k88 88 w' w0.heap.size (fun k_ => ((P0_1_ k_ ∨ P0_3_ k_ ∨ P0_9_ k_) ∨ w.heap.size ≤ k_)) u9000_ r2 ∧ Kd.R k88 88 w' w0.heap.size (fun k_ => ((P0_1_ k_ ∨ P0_3_ k_ ∨ P0_9_ k_) ∨ w.heap.size ≤ k_)) u9001_ r3 ∧ Kd.R k110 110 w' w0.heap.size (fun k_ => ((P0_1_ k_ ∨ P0_3_ k_ ∨ P0_9_ k_) ∨ w.heap.size ≤ k_)) u9002_ r4 ∧ Below w0.heap.size w0 w' ∧ Kept w w' (fun k_ => P0_1_ k_ ∨ P0_3_ k_ ∨ P0_9_ k_) := by
 have hu42 := Try.underlying42
 have hu25 := Try.underlying25
 have HO0_1 := Aside0.mk (show Kd.R k88 88 w w0.heap.size (fun k_ => ((P0_1_ k_ ∨ P0_3_ k_ ∨ P0_9_ k_) ∨ w.heap.size ≤ k_) ∧ some k_ ≠ (u9001_ : Value).ownBlock) u9000_ l0_1 from Kd.R_mono ho0_1 (fun k_ hk => ⟨(.inl (.inl hk)), fun e_ => hp0_1_0_3 k_ hk (ho0_3.1 k_ e_.symm)⟩))
 have HO0_3 := Aside0.mk (show Kd.R k88 88 w w0.heap.size (fun k_ => ((P0_1_ k_ ∨ P0_3_ k_ ∨ P0_9_ k_) ∨ w.heap.size ≤ k_) ∧ some k_ ≠ (u9000_ : Value).ownBlock) u9001_ l0_3 from Kd.R_mono ho0_3 (fun k_ hk => ⟨(.inl (.inr (.inl hk))), fun e_ => hp0_3_0_1 k_ hk (ho0_1.1 k_ e_.symm)⟩))
 have HR0_6 := Aside0.mk hr0_6
 have HC0_6 := Aside0.mk hc0_6
 clear hr0_6 hc0_6
 have HO0_9 := Aside0.mk (show Kd.R k110 110 w w0.heap.size (fun k_ => ((P0_1_ k_ ∨ P0_3_ k_ ∨ P0_9_ k_) ∨ w.heap.size ≤ k_)) u9002_ l0_9 from Kd.R_mono ho0_9 (fun k_ hk => (.inl (.inr (.inr hk)))))
 have HK := Aside0.mk (Kept.refl w (fun k_ => P0_1_ k_ ∨ P0_3_ k_ ∨ P0_9_ k_))
 have HW0 := Aside0.mk hB.size
 have HB := Aside0.mk hB
 clear hB
 have H : ((laws_markTable.f k l0_1 a0_2 a1).bind fun bt172 => ((laws_markTable.f k l0_3 a0_4 bt172.1).bind fun bt174 => ((laws_markStreamS.f l0_6 bt174.1).bind fun t176 => ((laws_markFrameS.f k l0_9 t176).bind fun bt177 => (some (bt177.1, bt172.2, bt174.2, bt177.2)))))) = some (r1, r2, r3, r4) := h
 clear h
 obtain ⟨⟨t172, t173⟩, A3, H⟩ := ob H
 (try dsimp only at H)
 obtain ⟨⟨t174, t175⟩, A4, H⟩ := ob H
 (try dsimp only at H)
 obtain ⟨t176, A5, H⟩ := ob H
 (try dsimp only at H)
 obtain ⟨⟨t177, t178⟩, A6, H⟩ := ob H
 (try dsimp only at H)
 simp only [Option.some.injEq, Prod.mk.injEq] at H
 obtain ⟨rfl, rfl, rfl, rfl⟩ := H
 obtain ⟨Ao7, co7, eo7⟩ := Kd.R_slice HO0_1.out
 subst eo7
 obtain ⟨Ao8, co8, eo8⟩ := Kd.R_slice HO0_3.out
 subst eo8
 obtain ⟨Ao9, co9, eo9⟩ := Kd.R_slice HO0_9.out
 subst eo9
 go_enter Try.func23, Try.ntmps23
 go_wp2_with (first | ((with_reducible refine gd 2 rfl ?_); refine bx (N := 2) (cs := #[.bool a0_0, .slice Ao7 l0_1.length co7, .int .i64 a0_2, .slice Ao8 l0_3.length co8, .int .i64 a0_4, .string a0_5, .slice A0_6 l0_6.length c0_6, .int .i64 a0_7, .int .i64 a0_8, .slice Ao9 l0_9.length co9, .bool a0_10]) (t := 42) ?_; intro gb171 hg w10 hbox hb; replace HO0_1 := Aside0.mk (Kd.R_below (zr HO0_1) hb); replace HO0_3 := Aside0.mk (Kd.R_below (zr HO0_3) hb); replace HO0_9 := Aside0.mk (Kd.R_below (zr HO0_9) hb); have BK171 := Aside0.mk (hbox); have GW171 := Aside0.mk ((by rw [hg]; exact (by first | exact HK.out.1 | exact (show Kept w _ (fun k_ => P0_1_ k_ ∨ P0_3_ k_ ∨ P0_9_ k_) from by repeat (first | (with_reducible first | exact HK.out | apply Kept.alloc | apply Kept.drewN | apply Kept.drew) | exact HK.out)).1) : w.heap.size ≤ gb171)); replace HK := Aside0.mk (Kept.below (S := (fun k_ => P0_1_ k_ ∨ P0_3_ k_ ∨ P0_9_ k_)) (by repeat (first | (with_reducible first | exact HK.out | apply Kept.alloc | apply Kept.drewN | apply Kept.drew) | exact HK.out)) hb); have GE171 := Aside0.mk ((by rw [hg]; exact (below_size (zb HB)) : w0.heap.size ≤ gb171)); replace HB := Aside0.mk (below_step (zb HB) hb); clear hb hbox hg; obtain ⟨hcz11_0, hcz11_1, hcz11_2, hcz11_3, hcz11_4, hcz11_5, hcz11_6, hcz11_7, hcz11_8, hcz11_9, hcz11_10, hfz11_0, hfz11_1, hfz11_2, hfz11_3, hfz11_4, hfz11_5, hfz11_6, hfz11_7, hfz11_8, hfz11_9, hfz11_10⟩ := c11 BK171) | ((with_reducible refine gq 70 rfl ?_); refine gl (some 8) Try.func70 #[.agg #[.slice Ao7 l0_1.length co7, .int .i64 a0_2], .int .i64 a1] ?_; (with_reducible refine (laws_markTable.calls k (fun k_ => some k_ = (.slice Ao7 l0_1.length co7 : Value).ownBlock) (.slice Ao7 l0_1.length co7) l0_1 a0_2 a1 t172 t173 w0 _ ?side1 ?side2 A3.out).mono ?_); (case side1 => exact zb HB); (case side2 => exact Kd.R_tight rfl HO0_1.out); rintro e w12 ⟨rfl, hy0, hb, hkp⟩; refine ⟨_, rfl, ?_⟩; replace HO0_3 := Aside0.mk (Kd.R_mono (ok' := fun k_ => ((P0_1_ k_ ∨ P0_3_ k_ ∨ P0_9_ k_) ∨ w.heap.size ≤ k_) ∧ some k_ ≠ (.slice Ao7 l0_1.length co7 : Value).ownBlock) (Kd.R_keptB (HO0_3.out) hkp (fun k_ hk_ hs_ => (hk_.2) hs_)) (fun k_ hk_ => ⟨hk_.1.1, hk_.1.2⟩)); replace HO0_9 := Aside0.mk (Kd.R_mono (ok' := fun k_ => ((P0_1_ k_ ∨ P0_3_ k_ ∨ P0_9_ k_) ∨ w.heap.size ≤ k_)) (Kd.R_keptB ((Kd.R_apart' HO0_9.out (Kd.R_typed HO0_1.out) (by decide))) hkp (fun k_ hk_ hs_ => (hk_.2) hs_)) (fun k_ hk_ => hk_.1.1)); replace BK171 := Aside0.mk (blk_kept (zk BK171) hkp (fun hs_ => (fun e_ => (Kd.R_ne HO0_1.out BK171.out (by decide)) e_) hs_)); replace HK := Aside0.mk (Kept.then_ (S := (fun k_ => P0_1_ k_ ∨ P0_3_ k_ ∨ P0_9_ k_)) (by repeat (first | (with_reducible first | exact HK.out | apply Kept.alloc | apply Kept.drewN | apply Kept.drew | refine Kept.setCell ?_ (.inr GW171.out) _) | exact HK.out)) hkp (fun k_ hs_ => (fun e_ => (HO0_1.out.1 k_ e_.symm).1) hs_)); replace HO0_1 := Aside0.mk (Kd.R_reok rfl hy0 (fun k_ e_ => HO0_1.out.1 k_ e_)); replace HB := Aside0.mk (hb); (try clear hb); (try clear hkp); (try clear hy0); obtain ⟨hcz13_0, hcz13_1, hcz13_2, hcz13_3, hcz13_4, hcz13_5, hcz13_6, hcz13_7, hcz13_8, hcz13_9, hcz13_10, hfz13_0, hfz13_1, hfz13_2, hfz13_3, hfz13_4, hfz13_5, hfz13_6, hfz13_7, hfz13_8, hfz13_9, hfz13_10⟩ := c11 BK171) | ((with_reducible refine gq 70 rfl ?_); refine gl (some 12) Try.func70 #[.agg #[.slice Ao8 l0_3.length co8, .int .i64 a0_4], .int .i64 t172] ?_; (with_reducible refine (laws_markTable.calls k (fun k_ => some k_ = (.slice Ao8 l0_3.length co8 : Value).ownBlock) (.slice Ao8 l0_3.length co8) l0_3 a0_4 t172 t174 t175 w0 _ ?side1 ?side2 A4.out).mono ?_); (case side1 => exact zb HB); (case side2 => exact Kd.R_tight rfl HO0_3.out); rintro e w14 ⟨rfl, hy0, hb, hkp⟩; refine ⟨_, rfl, ?_⟩; replace HO0_1 := Aside0.mk (Kd.R_mono (ok' := fun k_ => ((P0_1_ k_ ∨ P0_3_ k_ ∨ P0_9_ k_) ∨ w.heap.size ≤ k_) ∧ some k_ ≠ (.slice Ao8 l0_3.length co8 : Value).ownBlock) (Kd.R_keptB (HO0_1.out) hkp (fun k_ hk_ hs_ => (hk_.2) hs_)) (fun k_ hk_ => ⟨hk_.1.1, hk_.1.2⟩)); replace HO0_9 := Aside0.mk (Kd.R_mono (ok' := fun k_ => ((P0_1_ k_ ∨ P0_3_ k_ ∨ P0_9_ k_) ∨ w.heap.size ≤ k_)) (Kd.R_keptB ((Kd.R_apart' HO0_9.out (Kd.R_typed HO0_3.out) (by decide))) hkp (fun k_ hk_ hs_ => (hk_.2) hs_)) (fun k_ hk_ => hk_.1.1)); replace BK171 := Aside0.mk (blk_kept (zk BK171) hkp (fun hs_ => (fun e_ => (Kd.R_ne HO0_3.out BK171.out (by decide)) e_) hs_)); replace HK := Aside0.mk (Kept.then_ (S := (fun k_ => P0_1_ k_ ∨ P0_3_ k_ ∨ P0_9_ k_)) (by repeat (first | (with_reducible first | exact HK.out | apply Kept.alloc | apply Kept.drewN | apply Kept.drew | refine Kept.setCell ?_ (.inr GW171.out) _) | exact HK.out)) hkp (fun k_ hs_ => (fun e_ => (HO0_3.out.1 k_ e_.symm).1) hs_)); replace HO0_3 := Aside0.mk (Kd.R_reok rfl hy0 (fun k_ e_ => HO0_3.out.1 k_ e_)); replace HB := Aside0.mk (hb); (try clear hb); (try clear hkp); (try clear hy0); obtain ⟨hcz15_0, hcz15_1, hcz15_2, hcz15_3, hcz15_4, hcz15_5, hcz15_6, hcz15_7, hcz15_8, hcz15_9, hcz15_10, hfz15_0, hfz15_1, hfz15_2, hfz15_3, hfz15_4, hfz15_5, hfz15_6, hfz15_7, hfz15_8, hfz15_9, hfz15_10⟩ := c11 BK171) | ((with_reducible refine gq 71 rfl ?_); refine gl (some 16) Try.func71 #[.slice A0_6 l0_6.length c0_6, .int .i64 t174] ?_; (with_reducible refine (laws_markStreamS.calls _ _ l0_6 t174 t176 _ ?side1 ?side2 A5.out).mono ?_); (case side1 => exact Kd.C_kept_now HR0_6.out (by repeat (first | (with_reducible first | exact HK.out | apply Kept.alloc | apply Kept.drewN | apply Kept.drew | refine Kept.setCell ?_ (.inr GW171.out) _) | exact HK.out))); (case side2 => exact HC0_6.out); rintro e w' ⟨rfl, ⟨nd, rfl⟩⟩; refine ⟨_, rfl, ?_⟩) | ((with_reducible refine gq 45 rfl ?_); refine gl (some 20) Try.func45 #[.slice Ao9 l0_9.length co9, .int .i64 t176] ?_; (with_reducible refine (laws_markFrameS.calls k (fun k_ => some k_ = (.slice Ao9 l0_9.length co9 : Value).ownBlock) (.slice Ao9 l0_9.length co9) l0_9 t176 t177 t178 w0 _ ?side1 ?side2 A6.out).mono ?_); (case side1 => exact zb HB); (case side2 => exact Kd.R_tight rfl HO0_9.out); rintro e w16 ⟨rfl, hy0, hb, hkp⟩; refine ⟨_, rfl, ?_⟩; replace HO0_1 := Aside0.mk (Kd.R_mono (ok' := fun k_ => ((P0_1_ k_ ∨ P0_3_ k_ ∨ P0_9_ k_) ∨ w.heap.size ≤ k_) ∧ some k_ ≠ (.slice Ao8 l0_3.length co8 : Value).ownBlock) (Kd.R_keptB ((Kd.R_apart' HO0_1.out (Kd.R_typed HO0_9.out) (by decide))) hkp (fun k_ hk_ hs_ => (hk_.2) hs_)) (fun k_ hk_ => ⟨hk_.1.1.1, hk_.1.1.2⟩)); replace HO0_3 := Aside0.mk (Kd.R_mono (ok' := fun k_ => ((P0_1_ k_ ∨ P0_3_ k_ ∨ P0_9_ k_) ∨ w.heap.size ≤ k_) ∧ some k_ ≠ (.slice Ao7 l0_1.length co7 : Value).ownBlock) (Kd.R_keptB ((Kd.R_apart' HO0_3.out (Kd.R_typed HO0_9.out) (by decide))) hkp (fun k_ hk_ hs_ => (hk_.2) hs_)) (fun k_ hk_ => ⟨hk_.1.1.1, hk_.1.1.2⟩)); replace BK171 := Aside0.mk (blk_kept (zk BK171) hkp (fun hs_ => (fun e_ => (Kd.R_ne HO0_9.out BK171.out (by decide)) e_) hs_)); replace HK := Aside0.mk (Kept.then_ (S := (fun k_ => P0_1_ k_ ∨ P0_3_ k_ ∨ P0_9_ k_)) (by repeat (first | (with_reducible first | exact HK.out | apply Kept.alloc | apply Kept.drewN | apply Kept.drew | refine Kept.setCell ?_ (.inr GW171.out) _) | exact HK.out)) hkp (fun k_ hs_ => (fun e_ => (HO0_9.out.1 k_ e_.symm)) hs_)); replace HO0_9 := Aside0.mk (Kd.R_reok rfl hy0 (fun k_ e_ => HO0_9.out.1 k_ e_)); replace HB := Aside0.mk (hb); (try clear hb); (try clear hkp); (try clear hy0)))
 go_ret
 exact ⟨ze, zq (Kd.R_mono HO0_1.out (fun _ hk => hk.1)), zq (Kd.R_mono HO0_3.out (fun _ hk => hk.1)), zq (HO0_9.out), zb HB, by repeat (first | (with_reducible first | exact HK.out | apply Kept.alloc | apply Kept.drewN | apply Kept.drew | refine Kept.setCell ?_ (.inr GW171.out) _) | exact HK.out)⟩

/-! ### laws_markWorld: function 28 -/
-- thin
def laws_markWorld.f (k : Nat) (a0_0 : Bool) (l0_1 : List (S88)) (a0_2 : Int) (l0_3 : List (S88)) (a0_4 : Int) (a0_5 : ByteArray) (l0_6 : List (S104)) (a0_7 : Int) (a0_8 : Int) (l0_9 : List (S110)) (a0_10 : Bool) (a0_11 : Bool) (l0_12 : List (S88)) (a0_13 : Int) (l0_14 : List (S88)) (a0_15 : Int) (a0_16 : ByteArray) (l0_17 : List (S104)) (a0_18 : Int) (a0_19 : Int) (l0_20 : List (S110)) (a0_21 : Bool) (a0_22 : ByteArray) (a0_23 : ByteArray) (a1 : Int) : Option (Int × (List (S88)) × (List (S88)) × (List (S110)) × (List (S88)) × (List (S88)) × (List (S110))) := (laws_markEnd.f k a0_0 l0_1 a0_2 l0_3 a0_4 a0_5 l0_6 a0_7 a0_8 l0_9 a0_10 a1).bind fun bt180 => ((laws_markEnd.f k a0_11 l0_12 a0_13 l0_14 a0_15 a0_16 l0_17 a0_18 a0_19 l0_20 a0_21 bt180.1).bind fun bt184 => (some (bt184.1, bt180.2.1, bt180.2.2.1, bt180.2.2.2, bt184.2.1, bt184.2.2.1, bt184.2.2.2)))
theorem laws_markWorld.mono : ∀ a0 a1 a2 a3 a4 a5 a6 a7 a8 a9 a10 a11 a12 a13 a14 a15 a16 a17 a18 a19 a20 a21 a22 a23 a24 k, LeO (laws_markWorld.f k a0 a1 a2 a3 a4 a5 a6 a7 a8 a9 a10 a11 a12 a13 a14 a15 a16 a17 a18 a19 a20 a21 a22 a23 a24) (laws_markWorld.f (k + 1) a0 a1 a2 a3 a4 a5 a6 a7 a8 a9 a10 a11 a12 a13 a14 a15 a16 a17 a18 a19 a20 a21 a22 a23 a24) := by
 intro a0 a1 a2 a3 a4 a5 a6 a7 a8 a9 a10 a11 a12 a13 a14 a15 a16 a17 a18 a19 a20 a21 a22 a23 a24 k
 unfold laws_markWorld.f
 have m0 := @laws_markEnd.mono
 exact zm
set_option maxHeartbeats 8000000 in
set_option maxRecDepth 100000 in
theorem laws_markWorld.calls (k : Nat) (a0_0 : Bool) (P0_1_ : Nat → Prop) (u9000_ : Value) (l0_1 : List (S88)) (a0_2 : Int) (P0_3_ : Nat → Prop) (u9001_ : Value) (l0_3 : List (S88)) (a0_4 : Int) (a0_5 : ByteArray) (A0_6 : Option Addr) (c0_6 : Nat) (l0_6 : List (S104)) (a0_7 : Int) (a0_8 : Int) (P0_9_ : Nat → Prop) (u9002_ : Value) (l0_9 : List (S110)) (a0_10 : Bool) (a0_11 : Bool) (P0_12_ : Nat → Prop) (u9003_ : Value) (l0_12 : List (S88)) (a0_13 : Int) (P0_14_ : Nat → Prop) (u9004_ : Value) (l0_14 : List (S88)) (a0_15 : Int) (a0_16 : ByteArray) (A0_17 : Option Addr) (c0_17 : Nat) (l0_17 : List (S104)) (a0_18 : Int) (a0_19 : Int) (P0_20_ : Nat → Prop) (u9005_ : Value) (l0_20 : List (S110)) (a0_21 : Bool) (a0_22 : ByteArray) (a0_23 : ByteArray) (a1 : Int) (r1 : Int) (r2 : List (S88)) (r3 : List (S88)) (r4 : List (S110)) (r5 : List (S88)) (r6 : List (S88)) (r7 : List (S110)) (w0 w : World) (hB : Below w0.heap.size w0 w) (ho0_1 : Kd.R k88 88 w w0.heap.size P0_1_ u9000_ l0_1) (hp0_1_0_3 : ∀ k_, P0_1_ k_ → ¬ P0_3_ k_) (hp0_1_0_12 : ∀ k_, P0_1_ k_ → ¬ P0_12_ k_) (hp0_1_0_14 : ∀ k_, P0_1_ k_ → ¬ P0_14_ k_) (ho0_3 : Kd.R k88 88 w w0.heap.size P0_3_ u9001_ l0_3) (hp0_3_0_1 : ∀ k_, P0_3_ k_ → ¬ P0_1_ k_) (hp0_3_0_12 : ∀ k_, P0_3_ k_ → ¬ P0_12_ k_) (hp0_3_0_14 : ∀ k_, P0_3_ k_ → ¬ P0_14_ k_) (hr0_6 : ∀ W_, Kept w W_ (fun k_ => P0_1_ k_ ∨ P0_3_ k_ ∨ P0_9_ k_ ∨ P0_12_ k_ ∨ P0_14_ k_ ∨ P0_20_ k_) → Kd.C k104 W_ A0_6 l0_6.length l0_6) (hc0_6 : l0_6.length ≤ c0_6) (ho0_9 : Kd.R k110 110 w w0.heap.size P0_9_ u9002_ l0_9) (hp0_9_0_20 : ∀ k_, P0_9_ k_ → ¬ P0_20_ k_) (ho0_12 : Kd.R k88 88 w w0.heap.size P0_12_ u9003_ l0_12) (hp0_12_0_1 : ∀ k_, P0_12_ k_ → ¬ P0_1_ k_) (hp0_12_0_3 : ∀ k_, P0_12_ k_ → ¬ P0_3_ k_) (hp0_12_0_14 : ∀ k_, P0_12_ k_ → ¬ P0_14_ k_) (ho0_14 : Kd.R k88 88 w w0.heap.size P0_14_ u9004_ l0_14) (hp0_14_0_1 : ∀ k_, P0_14_ k_ → ¬ P0_1_ k_) (hp0_14_0_3 : ∀ k_, P0_14_ k_ → ¬ P0_3_ k_) (hp0_14_0_12 : ∀ k_, P0_14_ k_ → ¬ P0_12_ k_) (hr0_17 : ∀ W_, Kept w W_ (fun k_ => P0_1_ k_ ∨ P0_3_ k_ ∨ P0_9_ k_ ∨ P0_12_ k_ ∨ P0_14_ k_ ∨ P0_20_ k_) → Kd.C k104 W_ A0_17 l0_17.length l0_17) (hc0_17 : l0_17.length ≤ c0_17) (ho0_20 : Kd.R k110 110 w w0.heap.size P0_20_ u9005_ l0_20) (hp0_20_0_9 : ∀ k_, P0_20_ k_ → ¬ P0_9_ k_) (h : laws_markWorld.f k a0_0 l0_1 a0_2 l0_3 a0_4 a0_5 l0_6 a0_7 a0_8 l0_9 a0_10 a0_11 l0_12 a0_13 l0_14 a0_15 a0_16 l0_17 a0_18 a0_19 l0_20 a0_21 a0_22 a0_23 a1 = some (r1, r2, r3, r4, r5, r6, r7)) :
  Calls Try.prog 28 #[.agg #[.bool a0_0, u9000_, .int .i64 a0_2, u9001_, .int .i64 a0_4, .string a0_5, .slice A0_6 l0_6.length c0_6, .int .i64 a0_7, .int .i64 a0_8, u9002_, .bool a0_10, .bool a0_11, u9003_, .int .i64 a0_13, u9004_, .int .i64 a0_15, .string a0_16, .slice A0_17 l0_17.length c0_17, .int .i64 a0_18, .int .i64 a0_19, u9005_, .bool a0_21, .string a0_22, .string a0_23], .int .i64 a1] w fun e w' => e = .returned (.int .i64 r1) ∧ Kd.R k88 88 w' w0.heap.size (fun k_ => ((P0_1_ k_ ∨ P0_3_ k_ ∨ P0_9_ k_ ∨ P0_12_ k_ ∨ P0_14_ k_ ∨ P0_20_ k_) ∨ w.heap.size ≤ k_)) u9000_ r2 ∧ Kd.R k88 88 w' w0.heap.size (fun k_ => ((P0_1_ k_ ∨ P0_3_ k_ ∨ P0_9_ k_ ∨ P0_12_ k_ ∨ P0_14_ k_ ∨ P0_20_ k_) ∨ w.heap.size ≤ k_)) u9001_ r3 ∧ Kd.R k110 110 w' w0.heap.size (fun k_ => ((P0_1_ k_ ∨ P0_3_ k_ ∨ P0_9_ k_ ∨ P0_12_ k_ ∨ P0_14_ k_ ∨ P0_20_ k_) ∨ w.heap.size ≤ k_)) u9002_ r4 ∧ Kd.R k88 88 w' w0.heap.size (fun k_ => ((P0_1_ k_ ∨ P0_3_ k_ ∨ P0_9_ k_ ∨ P0_12_ k_ ∨ P0_14_ k_ ∨ P0_20_ k_) ∨ w.heap.size ≤ k_)) u9003_ r5 ∧ Kd.R k88 88 w' w0.heap.size (fun k_ => ((P0_1_ k_ ∨ P0_3_ k_ ∨ P0_9_ k_ ∨ P0_12_ k_ ∨ P0_14_ k_ ∨ P0_20_ k_) ∨ w.heap.size ≤ k_)) u9004_ r6 ∧ Kd.R k110 110 w' w0.heap.size (fun k_ => ((P0_1_ k_ ∨ P0_3_ k_ ∨ P0_9_ k_ ∨ P0_12_ k_ ∨ P0_14_ k_ ∨ P0_20_ k_) ∨ w.heap.size ≤ k_)) u9005_ r7 ∧ Below w0.heap.size w0 w' ∧ Kept w w' (fun k_ => P0_1_ k_ ∨ P0_3_ k_ ∨ P0_9_ k_ ∨ P0_12_ k_ ∨ P0_14_ k_ ∨ P0_20_ k_) := by
 have hu48 := Try.underlying48
 have hu42 := Try.underlying42
 have HO0_1 := Aside0.mk (show Kd.R k88 88 w w0.heap.size (fun k_ => ((P0_1_ k_ ∨ P0_3_ k_ ∨ P0_9_ k_ ∨ P0_12_ k_ ∨ P0_14_ k_ ∨ P0_20_ k_) ∨ w.heap.size ≤ k_) ∧ some k_ ≠ (u9001_ : Value).ownBlock ∧ some k_ ≠ (u9003_ : Value).ownBlock ∧ some k_ ≠ (u9004_ : Value).ownBlock) u9000_ l0_1 from Kd.R_mono ho0_1 (fun k_ hk => ⟨(.inl (.inl hk)), fun e_ => hp0_1_0_3 k_ hk (ho0_3.1 k_ e_.symm), fun e_ => hp0_1_0_12 k_ hk (ho0_12.1 k_ e_.symm), fun e_ => hp0_1_0_14 k_ hk (ho0_14.1 k_ e_.symm)⟩))
 have HO0_3 := Aside0.mk (show Kd.R k88 88 w w0.heap.size (fun k_ => ((P0_1_ k_ ∨ P0_3_ k_ ∨ P0_9_ k_ ∨ P0_12_ k_ ∨ P0_14_ k_ ∨ P0_20_ k_) ∨ w.heap.size ≤ k_) ∧ some k_ ≠ (u9000_ : Value).ownBlock ∧ some k_ ≠ (u9003_ : Value).ownBlock ∧ some k_ ≠ (u9004_ : Value).ownBlock) u9001_ l0_3 from Kd.R_mono ho0_3 (fun k_ hk => ⟨(.inl (.inr (.inl hk))), fun e_ => hp0_3_0_1 k_ hk (ho0_1.1 k_ e_.symm), fun e_ => hp0_3_0_12 k_ hk (ho0_12.1 k_ e_.symm), fun e_ => hp0_3_0_14 k_ hk (ho0_14.1 k_ e_.symm)⟩))
 have HR0_6 := Aside0.mk hr0_6
 have HC0_6 := Aside0.mk hc0_6
 clear hr0_6 hc0_6
 have HO0_9 := Aside0.mk (show Kd.R k110 110 w w0.heap.size (fun k_ => ((P0_1_ k_ ∨ P0_3_ k_ ∨ P0_9_ k_ ∨ P0_12_ k_ ∨ P0_14_ k_ ∨ P0_20_ k_) ∨ w.heap.size ≤ k_) ∧ some k_ ≠ (u9005_ : Value).ownBlock) u9002_ l0_9 from Kd.R_mono ho0_9 (fun k_ hk => ⟨(.inl (.inr (.inr (.inl hk)))), fun e_ => hp0_9_0_20 k_ hk (ho0_20.1 k_ e_.symm)⟩))
 have HO0_12 := Aside0.mk (show Kd.R k88 88 w w0.heap.size (fun k_ => ((P0_1_ k_ ∨ P0_3_ k_ ∨ P0_9_ k_ ∨ P0_12_ k_ ∨ P0_14_ k_ ∨ P0_20_ k_) ∨ w.heap.size ≤ k_) ∧ some k_ ≠ (u9000_ : Value).ownBlock ∧ some k_ ≠ (u9001_ : Value).ownBlock ∧ some k_ ≠ (u9004_ : Value).ownBlock) u9003_ l0_12 from Kd.R_mono ho0_12 (fun k_ hk => ⟨(.inl (.inr (.inr (.inr (.inl hk))))), fun e_ => hp0_12_0_1 k_ hk (ho0_1.1 k_ e_.symm), fun e_ => hp0_12_0_3 k_ hk (ho0_3.1 k_ e_.symm), fun e_ => hp0_12_0_14 k_ hk (ho0_14.1 k_ e_.symm)⟩))
 have HO0_14 := Aside0.mk (show Kd.R k88 88 w w0.heap.size (fun k_ => ((P0_1_ k_ ∨ P0_3_ k_ ∨ P0_9_ k_ ∨ P0_12_ k_ ∨ P0_14_ k_ ∨ P0_20_ k_) ∨ w.heap.size ≤ k_) ∧ some k_ ≠ (u9000_ : Value).ownBlock ∧ some k_ ≠ (u9001_ : Value).ownBlock ∧ some k_ ≠ (u9003_ : Value).ownBlock) u9004_ l0_14 from Kd.R_mono ho0_14 (fun k_ hk => ⟨(.inl (.inr (.inr (.inr (.inr (.inl hk)))))), fun e_ => hp0_14_0_1 k_ hk (ho0_1.1 k_ e_.symm), fun e_ => hp0_14_0_3 k_ hk (ho0_3.1 k_ e_.symm), fun e_ => hp0_14_0_12 k_ hk (ho0_12.1 k_ e_.symm)⟩))
 have HR0_17 := Aside0.mk hr0_17
 have HC0_17 := Aside0.mk hc0_17
 clear hr0_17 hc0_17
 have HO0_20 := Aside0.mk (show Kd.R k110 110 w w0.heap.size (fun k_ => ((P0_1_ k_ ∨ P0_3_ k_ ∨ P0_9_ k_ ∨ P0_12_ k_ ∨ P0_14_ k_ ∨ P0_20_ k_) ∨ w.heap.size ≤ k_) ∧ some k_ ≠ (u9002_ : Value).ownBlock) u9005_ l0_20 from Kd.R_mono ho0_20 (fun k_ hk => ⟨(.inl (.inr (.inr (.inr (.inr (.inr hk)))))), fun e_ => hp0_20_0_9 k_ hk (ho0_9.1 k_ e_.symm)⟩))
 have HK := Aside0.mk (Kept.refl w (fun k_ => P0_1_ k_ ∨ P0_3_ k_ ∨ P0_9_ k_ ∨ P0_12_ k_ ∨ P0_14_ k_ ∨ P0_20_ k_))
 have HW0 := Aside0.mk hB.size
 have HB := Aside0.mk hB
 clear hB
 have H : ((laws_markEnd.f k a0_0 l0_1 a0_2 l0_3 a0_4 a0_5 l0_6 a0_7 a0_8 l0_9 a0_10 a1).bind fun bt180 => ((laws_markEnd.f k a0_11 l0_12 a0_13 l0_14 a0_15 a0_16 l0_17 a0_18 a0_19 l0_20 a0_21 bt180.1).bind fun bt184 => (some (bt184.1, bt180.2.1, bt180.2.2.1, bt180.2.2.2, bt184.2.1, bt184.2.2.1, bt184.2.2.2)))) = some (r1, r2, r3, r4, r5, r6, r7) := h
 clear h
 obtain ⟨⟨t180, t181, t182, t183⟩, A3, H⟩ := ob H
 (try dsimp only at H)
 obtain ⟨⟨t184, t185, t186, t187⟩, A4, H⟩ := ob H
 (try dsimp only at H)
 simp only [Option.some.injEq, Prod.mk.injEq] at H
 obtain ⟨rfl, rfl, rfl, rfl, rfl, rfl, rfl⟩ := H
 obtain ⟨Ao5, co5, eo5⟩ := Kd.R_slice HO0_1.out
 subst eo5
 obtain ⟨Ao6, co6, eo6⟩ := Kd.R_slice HO0_3.out
 subst eo6
 obtain ⟨Ao7, co7, eo7⟩ := Kd.R_slice HO0_9.out
 subst eo7
 obtain ⟨Ao8, co8, eo8⟩ := Kd.R_slice HO0_12.out
 subst eo8
 obtain ⟨Ao9, co9, eo9⟩ := Kd.R_slice HO0_14.out
 subst eo9
 obtain ⟨Ao10, co10, eo10⟩ := Kd.R_slice HO0_20.out
 subst eo10
 go_enter Try.func28, Try.ntmps28
 go_wp2_with (first | ((with_reducible refine gd 2 rfl ?_); refine bx (N := 2) (cs := #[.bool a0_0, .slice Ao5 l0_1.length co5, .int .i64 a0_2, .slice Ao6 l0_3.length co6, .int .i64 a0_4, .string a0_5, .slice A0_6 l0_6.length c0_6, .int .i64 a0_7, .int .i64 a0_8, .slice Ao7 l0_9.length co7, .bool a0_10, .bool a0_11, .slice Ao8 l0_12.length co8, .int .i64 a0_13, .slice Ao9 l0_14.length co9, .int .i64 a0_15, .string a0_16, .slice A0_17 l0_17.length c0_17, .int .i64 a0_18, .int .i64 a0_19, .slice Ao10 l0_20.length co10, .bool a0_21, .string a0_22, .string a0_23]) (t := 48) ?_; intro gb179 hg w11 hbox hb; replace HO0_1 := Aside0.mk (Kd.R_below (zr HO0_1) hb); replace HO0_3 := Aside0.mk (Kd.R_below (zr HO0_3) hb); replace HO0_9 := Aside0.mk (Kd.R_below (zr HO0_9) hb); replace HO0_12 := Aside0.mk (Kd.R_below (zr HO0_12) hb); replace HO0_14 := Aside0.mk (Kd.R_below (zr HO0_14) hb); replace HO0_20 := Aside0.mk (Kd.R_below (zr HO0_20) hb); have BK179 := Aside0.mk (hbox); have GW179 := Aside0.mk ((by rw [hg]; exact (by first | exact HK.out.1 | exact (show Kept w _ (fun k_ => P0_1_ k_ ∨ P0_3_ k_ ∨ P0_9_ k_ ∨ P0_12_ k_ ∨ P0_14_ k_ ∨ P0_20_ k_) from by repeat (first | (with_reducible first | exact HK.out | apply Kept.alloc | apply Kept.drewN | apply Kept.drew) | exact HK.out)).1) : w.heap.size ≤ gb179)); replace HK := Aside0.mk (Kept.below (S := (fun k_ => P0_1_ k_ ∨ P0_3_ k_ ∨ P0_9_ k_ ∨ P0_12_ k_ ∨ P0_14_ k_ ∨ P0_20_ k_)) (by repeat (first | (with_reducible first | exact HK.out | apply Kept.alloc | apply Kept.drewN | apply Kept.drew) | exact HK.out)) hb); have GE179 := Aside0.mk ((by rw [hg]; exact (below_size (zb HB)) : w0.heap.size ≤ gb179)); replace HB := Aside0.mk (below_step (zb HB) hb); clear hb hbox hg; obtain ⟨hcz12_0, hcz12_1, hcz12_2, hcz12_3, hcz12_4, hcz12_5, hcz12_6, hcz12_7, hcz12_8, hcz12_9, hcz12_10, hcz12_11, hcz12_12, hcz12_13, hcz12_14, hcz12_15, hcz12_16, hcz12_17, hcz12_18, hcz12_19, hcz12_20, hcz12_21, hcz12_22, hcz12_23, hfz12_0, hfz12_1, hfz12_2, hfz12_3, hfz12_4, hfz12_5, hfz12_6, hfz12_7, hfz12_8, hfz12_9, hfz12_10, hfz12_11, hfz12_12, hfz12_13, hfz12_14, hfz12_15, hfz12_16, hfz12_17, hfz12_18, hfz12_19, hfz12_20, hfz12_21, hfz12_22, hfz12_23⟩ := c24 BK179) | ((with_reducible refine gq 23 rfl ?_); refine gl (some 8) Try.func23 #[.agg #[.bool a0_0, .slice Ao5 l0_1.length co5, .int .i64 a0_2, .slice Ao6 l0_3.length co6, .int .i64 a0_4, .string a0_5, .slice A0_6 l0_6.length c0_6, .int .i64 a0_7, .int .i64 a0_8, .slice Ao7 l0_9.length co7, .bool a0_10], .int .i64 a1] ?_; (with_reducible refine (laws_markEnd.calls k a0_0 (fun k_ => some k_ = (.slice Ao5 l0_1.length co5 : Value).ownBlock) (.slice Ao5 l0_1.length co5) l0_1 a0_2 (fun k_ => some k_ = (.slice Ao6 l0_3.length co6 : Value).ownBlock) (.slice Ao6 l0_3.length co6) l0_3 a0_4 a0_5 _ _ l0_6 a0_7 a0_8 (fun k_ => some k_ = (.slice Ao7 l0_9.length co7 : Value).ownBlock) (.slice Ao7 l0_9.length co7) l0_9 a0_10 a1 t180 t181 t182 t183 w0 _ ?side1 ?side2 ?side3 ?side4 ?side5 ?side6 ?side7 ?side8 A3.out).mono ?_); (case side1 => exact zb HB); (case side2 => exact Kd.R_tight rfl HO0_1.out); (case side3 => exact fun k_ e_ => (HO0_1.out.1 k_ e_.symm).2.1); (case side4 => exact Kd.R_tight rfl HO0_3.out); (case side5 => exact fun k_ e_ => (HO0_3.out.1 k_ e_.symm).2.1); (case side6 => exact Kd.C_kept_call HR0_6.out (by repeat (first | (with_reducible first | exact HK.out | apply Kept.alloc | apply Kept.drewN | apply Kept.drew | refine Kept.setCell ?_ (.inr GW179.out) _) | exact HK.out)) (fun k_ hs_ => Or.elim hs_ (fun e_ => (fun e_ => (HO0_1.out.1 k_ e_.symm).1) e_) (fun e_ => Or.elim e_ (fun e_ => (fun e_ => (HO0_3.out.1 k_ e_.symm).1) e_) (fun e_ => (fun e_ => (HO0_9.out.1 k_ e_.symm).1) e_)))); (case side7 => exact HC0_6.out); (case side8 => exact Kd.R_tight rfl HO0_9.out); rintro e w13 ⟨rfl, hy0, hy1, hy2, hb, hkp⟩; refine ⟨_, rfl, ?_⟩; replace HO0_12 := Aside0.mk (Kd.R_mono (ok' := fun k_ => ((P0_1_ k_ ∨ P0_3_ k_ ∨ P0_9_ k_ ∨ P0_12_ k_ ∨ P0_14_ k_ ∨ P0_20_ k_) ∨ w.heap.size ≤ k_) ∧ some k_ ≠ (.slice Ao5 l0_1.length co5 : Value).ownBlock ∧ some k_ ≠ (.slice Ao6 l0_3.length co6 : Value).ownBlock ∧ some k_ ≠ (.slice Ao9 l0_14.length co9 : Value).ownBlock) (Kd.R_keptB ((Kd.R_apart' HO0_12.out (Kd.R_typed HO0_9.out) (by decide))) hkp (fun k_ hk_ hs_ => Or.elim hs_ (fun e_ => (hk_.1.2.1) e_) (fun e_ => Or.elim e_ (fun e_ => (hk_.1.2.2.1) e_) (fun e_ => (hk_.2) e_)))) (fun k_ hk_ => ⟨hk_.1.1.1, hk_.1.1.2.1, hk_.1.1.2.2.1, hk_.1.1.2.2.2⟩)); replace HO0_14 := Aside0.mk (Kd.R_mono (ok' := fun k_ => ((P0_1_ k_ ∨ P0_3_ k_ ∨ P0_9_ k_ ∨ P0_12_ k_ ∨ P0_14_ k_ ∨ P0_20_ k_) ∨ w.heap.size ≤ k_) ∧ some k_ ≠ (.slice Ao5 l0_1.length co5 : Value).ownBlock ∧ some k_ ≠ (.slice Ao6 l0_3.length co6 : Value).ownBlock ∧ some k_ ≠ (.slice Ao8 l0_12.length co8 : Value).ownBlock) (Kd.R_keptB ((Kd.R_apart' HO0_14.out (Kd.R_typed HO0_9.out) (by decide))) hkp (fun k_ hk_ hs_ => Or.elim hs_ (fun e_ => (hk_.1.2.1) e_) (fun e_ => Or.elim e_ (fun e_ => (hk_.1.2.2.1) e_) (fun e_ => (hk_.2) e_)))) (fun k_ hk_ => ⟨hk_.1.1.1, hk_.1.1.2.1, hk_.1.1.2.2.1, hk_.1.1.2.2.2⟩)); replace HO0_20 := Aside0.mk (Kd.R_mono (ok' := fun k_ => ((P0_1_ k_ ∨ P0_3_ k_ ∨ P0_9_ k_ ∨ P0_12_ k_ ∨ P0_14_ k_ ∨ P0_20_ k_) ∨ w.heap.size ≤ k_) ∧ some k_ ≠ (.slice Ao7 l0_9.length co7 : Value).ownBlock) (Kd.R_keptB ((Kd.R_apart' (Kd.R_apart' HO0_20.out (Kd.R_typed HO0_1.out) (by decide)) (Kd.R_typed HO0_3.out) (by decide))) hkp (fun k_ hk_ hs_ => Or.elim hs_ (fun e_ => (hk_.1.2) e_) (fun e_ => Or.elim e_ (fun e_ => (hk_.2) e_) (fun e_ => (hk_.1.1.2) e_)))) (fun k_ hk_ => ⟨hk_.1.1.1.1, hk_.1.1.1.2⟩)); replace BK179 := Aside0.mk (blk_kept (zk BK179) hkp (fun hs_ => Or.elim hs_ (fun e_ => (fun e_ => (Kd.R_ne HO0_1.out BK179.out (by decide)) e_) e_) (fun e_ => Or.elim e_ (fun e_ => (fun e_ => (Kd.R_ne HO0_3.out BK179.out (by decide)) e_) e_) (fun e_ => (fun e_ => (Kd.R_ne HO0_9.out BK179.out (by decide)) e_) e_)))); replace HK := Aside0.mk (Kept.then_ (S := (fun k_ => P0_1_ k_ ∨ P0_3_ k_ ∨ P0_9_ k_ ∨ P0_12_ k_ ∨ P0_14_ k_ ∨ P0_20_ k_)) (by repeat (first | (with_reducible first | exact HK.out | apply Kept.alloc | apply Kept.drewN | apply Kept.drew | refine Kept.setCell ?_ (.inr GW179.out) _) | exact HK.out)) hkp (fun k_ hs_ => Or.elim hs_ (fun e_ => (fun e_ => (HO0_1.out.1 k_ e_.symm).1) e_) (fun e_ => Or.elim e_ (fun e_ => (fun e_ => (HO0_3.out.1 k_ e_.symm).1) e_) (fun e_ => (fun e_ => (HO0_9.out.1 k_ e_.symm).1) e_)))); replace HO0_1 := Aside0.mk (Kd.R_reok rfl hy0 (fun k_ e_ => HO0_1.out.1 k_ e_)); replace HO0_3 := Aside0.mk (Kd.R_reok rfl hy1 (fun k_ e_ => HO0_3.out.1 k_ e_)); replace HO0_9 := Aside0.mk (Kd.R_reok rfl hy2 (fun k_ e_ => HO0_9.out.1 k_ e_)); replace HB := Aside0.mk (hb); (try clear hb); (try clear hkp); (try clear hy0); (try clear hy1); (try clear hy2); obtain ⟨hcz14_0, hcz14_1, hcz14_2, hcz14_3, hcz14_4, hcz14_5, hcz14_6, hcz14_7, hcz14_8, hcz14_9, hcz14_10, hcz14_11, hcz14_12, hcz14_13, hcz14_14, hcz14_15, hcz14_16, hcz14_17, hcz14_18, hcz14_19, hcz14_20, hcz14_21, hcz14_22, hcz14_23, hfz14_0, hfz14_1, hfz14_2, hfz14_3, hfz14_4, hfz14_5, hfz14_6, hfz14_7, hfz14_8, hfz14_9, hfz14_10, hfz14_11, hfz14_12, hfz14_13, hfz14_14, hfz14_15, hfz14_16, hfz14_17, hfz14_18, hfz14_19, hfz14_20, hfz14_21, hfz14_22, hfz14_23⟩ := c24 BK179) | ((with_reducible refine gq 23 rfl ?_); refine gl (some 12) Try.func23 #[.agg #[.bool a0_11, .slice Ao8 l0_12.length co8, .int .i64 a0_13, .slice Ao9 l0_14.length co9, .int .i64 a0_15, .string a0_16, .slice A0_17 l0_17.length c0_17, .int .i64 a0_18, .int .i64 a0_19, .slice Ao10 l0_20.length co10, .bool a0_21], .int .i64 t180] ?_; (with_reducible refine (laws_markEnd.calls k a0_11 (fun k_ => some k_ = (.slice Ao8 l0_12.length co8 : Value).ownBlock) (.slice Ao8 l0_12.length co8) l0_12 a0_13 (fun k_ => some k_ = (.slice Ao9 l0_14.length co9 : Value).ownBlock) (.slice Ao9 l0_14.length co9) l0_14 a0_15 a0_16 _ _ l0_17 a0_18 a0_19 (fun k_ => some k_ = (.slice Ao10 l0_20.length co10 : Value).ownBlock) (.slice Ao10 l0_20.length co10) l0_20 a0_21 t180 t184 t185 t186 t187 w0 _ ?side1 ?side2 ?side3 ?side4 ?side5 ?side6 ?side7 ?side8 A4.out).mono ?_); (case side1 => exact zb HB); (case side2 => exact Kd.R_tight rfl HO0_12.out); (case side3 => exact fun k_ e_ => (HO0_12.out.1 k_ e_.symm).2.2.2); (case side4 => exact Kd.R_tight rfl HO0_14.out); (case side5 => exact fun k_ e_ => (HO0_14.out.1 k_ e_.symm).2.2.2); (case side6 => exact Kd.C_kept_call HR0_17.out (by repeat (first | (with_reducible first | exact HK.out | apply Kept.alloc | apply Kept.drewN | apply Kept.drew | refine Kept.setCell ?_ (.inr GW179.out) _) | exact HK.out)) (fun k_ hs_ => Or.elim hs_ (fun e_ => (fun e_ => (HO0_12.out.1 k_ e_.symm).1) e_) (fun e_ => Or.elim e_ (fun e_ => (fun e_ => (HO0_14.out.1 k_ e_.symm).1) e_) (fun e_ => (fun e_ => (HO0_20.out.1 k_ e_.symm).1) e_)))); (case side7 => exact HC0_17.out); (case side8 => exact Kd.R_tight rfl HO0_20.out); rintro e w15 ⟨rfl, hy0, hy1, hy2, hb, hkp⟩; refine ⟨_, rfl, ?_⟩; replace HO0_1 := Aside0.mk (Kd.R_mono (ok' := fun k_ => ((P0_1_ k_ ∨ P0_3_ k_ ∨ P0_9_ k_ ∨ P0_12_ k_ ∨ P0_14_ k_ ∨ P0_20_ k_) ∨ w.heap.size ≤ k_) ∧ some k_ ≠ (.slice Ao6 l0_3.length co6 : Value).ownBlock ∧ some k_ ≠ (.slice Ao8 l0_12.length co8 : Value).ownBlock ∧ some k_ ≠ (.slice Ao9 l0_14.length co9 : Value).ownBlock) (Kd.R_keptB ((Kd.R_apart' HO0_1.out (Kd.R_typed HO0_20.out) (by decide))) hkp (fun k_ hk_ hs_ => Or.elim hs_ (fun e_ => (hk_.1.2.2.1) e_) (fun e_ => Or.elim e_ (fun e_ => (hk_.1.2.2.2) e_) (fun e_ => (hk_.2) e_)))) (fun k_ hk_ => ⟨hk_.1.1.1, hk_.1.1.2.1, hk_.1.1.2.2.1, hk_.1.1.2.2.2⟩)); replace HO0_3 := Aside0.mk (Kd.R_mono (ok' := fun k_ => ((P0_1_ k_ ∨ P0_3_ k_ ∨ P0_9_ k_ ∨ P0_12_ k_ ∨ P0_14_ k_ ∨ P0_20_ k_) ∨ w.heap.size ≤ k_) ∧ some k_ ≠ (.slice Ao5 l0_1.length co5 : Value).ownBlock ∧ some k_ ≠ (.slice Ao8 l0_12.length co8 : Value).ownBlock ∧ some k_ ≠ (.slice Ao9 l0_14.length co9 : Value).ownBlock) (Kd.R_keptB ((Kd.R_apart' HO0_3.out (Kd.R_typed HO0_20.out) (by decide))) hkp (fun k_ hk_ hs_ => Or.elim hs_ (fun e_ => (hk_.1.2.2.1) e_) (fun e_ => Or.elim e_ (fun e_ => (hk_.1.2.2.2) e_) (fun e_ => (hk_.2) e_)))) (fun k_ hk_ => ⟨hk_.1.1.1, hk_.1.1.2.1, hk_.1.1.2.2.1, hk_.1.1.2.2.2⟩)); replace HO0_9 := Aside0.mk (Kd.R_mono (ok' := fun k_ => ((P0_1_ k_ ∨ P0_3_ k_ ∨ P0_9_ k_ ∨ P0_12_ k_ ∨ P0_14_ k_ ∨ P0_20_ k_) ∨ w.heap.size ≤ k_) ∧ some k_ ≠ (.slice Ao10 l0_20.length co10 : Value).ownBlock) (Kd.R_keptB ((Kd.R_apart' (Kd.R_apart' HO0_9.out (Kd.R_typed HO0_12.out) (by decide)) (Kd.R_typed HO0_14.out) (by decide))) hkp (fun k_ hk_ hs_ => Or.elim hs_ (fun e_ => (hk_.1.2) e_) (fun e_ => Or.elim e_ (fun e_ => (hk_.2) e_) (fun e_ => (hk_.1.1.2) e_)))) (fun k_ hk_ => ⟨hk_.1.1.1.1, hk_.1.1.1.2⟩)); replace BK179 := Aside0.mk (blk_kept (zk BK179) hkp (fun hs_ => Or.elim hs_ (fun e_ => (fun e_ => (Kd.R_ne HO0_12.out BK179.out (by decide)) e_) e_) (fun e_ => Or.elim e_ (fun e_ => (fun e_ => (Kd.R_ne HO0_14.out BK179.out (by decide)) e_) e_) (fun e_ => (fun e_ => (Kd.R_ne HO0_20.out BK179.out (by decide)) e_) e_)))); replace HK := Aside0.mk (Kept.then_ (S := (fun k_ => P0_1_ k_ ∨ P0_3_ k_ ∨ P0_9_ k_ ∨ P0_12_ k_ ∨ P0_14_ k_ ∨ P0_20_ k_)) (by repeat (first | (with_reducible first | exact HK.out | apply Kept.alloc | apply Kept.drewN | apply Kept.drew | refine Kept.setCell ?_ (.inr GW179.out) _) | exact HK.out)) hkp (fun k_ hs_ => Or.elim hs_ (fun e_ => (fun e_ => (HO0_12.out.1 k_ e_.symm).1) e_) (fun e_ => Or.elim e_ (fun e_ => (fun e_ => (HO0_14.out.1 k_ e_.symm).1) e_) (fun e_ => (fun e_ => (HO0_20.out.1 k_ e_.symm).1) e_)))); replace HO0_12 := Aside0.mk (Kd.R_reok rfl hy0 (fun k_ e_ => HO0_12.out.1 k_ e_)); replace HO0_14 := Aside0.mk (Kd.R_reok rfl hy1 (fun k_ e_ => HO0_14.out.1 k_ e_)); replace HO0_20 := Aside0.mk (Kd.R_reok rfl hy2 (fun k_ e_ => HO0_20.out.1 k_ e_)); replace HB := Aside0.mk (hb); (try clear hb); (try clear hkp); (try clear hy0); (try clear hy1); (try clear hy2)))
 go_ret
 exact ⟨ze, zq (Kd.R_mono HO0_1.out (fun _ hk => hk.1)), zq (Kd.R_mono HO0_3.out (fun _ hk => hk.1)), zq (Kd.R_mono HO0_9.out (fun _ hk => hk.1)), zq (Kd.R_mono HO0_12.out (fun _ hk => hk.1)), zq (Kd.R_mono HO0_14.out (fun _ hk => hk.1)), zq (Kd.R_mono HO0_20.out (fun _ hk => hk.1)), zb HB, by repeat (first | (with_reducible first | exact HK.out | apply Kept.alloc | apply Kept.drewN | apply Kept.drew | refine Kept.setCell ?_ (.inr GW179.out) _) | exact HK.out)⟩

/-! ### laws_heldFrameS: function 46 -/
-- thin
def laws_heldFrameS.l0 : Nat → List (S110) → Int → Int → Option (Int)
 | 0, _, _, _ => none
 | k + 1, x0, x1, x5 => if x5 < (x0.length : Int) then (if 0 ≤ x5 then (if ((rd_T110 x0 x5).f0) = x1 then (if (((rd_T110 x0 x5).f1) != ((Int.tmod (wrap64 (x1 + 1)) 3) == 0)) = true then (some (-1)) else (if ((rd_T110 x0 x5).f2) = (wrap64 ((wrap64 (x1 + 1)) + 1)) then ((laws_markText.f k (wrap64 ((wrap64 ((wrap64 (x1 + 1)) + 1)) + 1))).bind fun t192 => (if ((rd_T110 x0 x5).f3).toList = t192.toList then (laws_heldFrameS.l0 k x0 (wrap64 ((wrap64 ((wrap64 ((wrap64 (x1 + 1)) + 1)) + 1)) + 1)) (wrap64 (x5 + 1))) else (some (-1)))) else (some (-1)))) else (some (-1))) else (none)) else (some x1)
def laws_heldFrameS.f (k : Nat) (l0 : List (S110)) (a1 : Int) : Option (Int) := laws_heldFrameS.l0 k l0 a1 0
theorem laws_heldFrameS.mono_l : ∀ k, (∀ y0 y1 y2, LeO (laws_heldFrameS.l0 k y0 y1 y2) (laws_heldFrameS.l0 (k + 1) y0 y1 y2))
 | 0 => fun _ _ _ r h => by simp [laws_heldFrameS.l0] at h
 | k + 1 => by
  have ih0 := laws_heldFrameS.mono_l k
  ·intro y0 y1 y2
   unfold laws_heldFrameS.l0
   have m0 := @laws_markText.mono
   exact zm
theorem laws_heldFrameS.mono : ∀ a0 a1 k, LeO (laws_heldFrameS.f k a0 a1) (laws_heldFrameS.f (k + 1) a0 a1) := by
 intro a0 a1 k
 have ih0 := laws_heldFrameS.mono_l k
 unfold laws_heldFrameS.f
 have m0 := @laws_markText.mono
 exact zm
def laws_heldFrameS.T13 : Bool × List (List Nat × List Nat) := (true, [([], []), ([], []), ([0, 1], [0, 1]), ([2], [2]), ([3], [3]), ([], []), ([5], [5]), ([4, 6], [4, 6])])
def laws_heldFrameS.B13 : List Nat := [0, 0, 3, 7, 15, 0, 32, 127]
theorem laws_heldFrameS.tab13 : rtab .any (opsOf Try.f46 13) = laws_heldFrameS.T13 := by kernel_rfl
theorem laws_heldFrameS.bits13 : waitsOk laws_heldFrameS.T13.2 laws_heldFrameS.B13 = true := by kernel_rfl
set_option maxHeartbeats 8000000 in
set_option maxRecDepth 100000 in
theorem laws_heldFrameS.calls (k : Nat) (A0 : Option Addr) (c0 : Nat) (l0 : List (S110)) (a1 : Int) (r : Int) (w : World) (hr0 : Kd.C k110 w A0 l0.length l0) (hc0 : l0.length ≤ c0) (h : laws_heldFrameS.f k l0 a1 = some r) :
  Calls Try.prog 46 #[.slice A0 l0.length c0, .int .i64 a1] w fun e w' => e = .returned (.int .i64 r) ∧ Below w.heap.size w w' := by
 have HR0 := Aside0.mk hr0
 have HC0 := Aside0.mk hc0
 clear hr0 hc0
 have HB := Aside0.mk (Below.refl w.heap.size w)
 have H : (laws_heldFrameS.l0 k l0 a1 0) = some r := h
 clear h
 have H' := Aside0.mk H
 clear H
 go_enter Try.func46, Try.ntmps46
 go_wp2
 go_loopg [1, 5] k (fun kq v1 v5 w' => ∃ (x1_1 : Int) (x5_1 : Int), v1 = .int .i64 x1_1 ∧ v5 = .int .i64 x5_1 ∧ Aside0 (laws_heldFrameS.l0 kq l0 x1_1 x5_1 = some r) ∧ Aside0 (kq ≤ k) ∧ Aside0 (Below w.heap.size w w'))
 case atStart => exact ⟨(a1), (0), zs, zs, H', ⟨Nat.le_refl _⟩, ⟨zb HB⟩⟩
 case round =>
  clear H'
  try clear p2
  obtain ⟨x1_1, x5_1, rfl, rfl, HA, HK1, HB⟩ := hrel
  cases gk with
  | zero => exact absurd HA.out (by simp [laws_heldFrameS.l0])
  | succ k1 =>
   have H := HA.out
   clear HA
   simp only [laws_heldFrameS.l0] at H
   replace H := sp H
   rcases H with ⟨c3, H⟩ | ⟨c3, H⟩
   ·skip
    have c3b0 := decide_eq_true c3
    clear c3
    by_cases c4 : 0 ≤ x5_1
    ·rw [if_pos c4] at H
     have c4b0 := decide_eq_true c4
     clear c4
     by_cases c5 : ((rd_T110 l0 x5_1).f0) = x1_1
     ·rw [if_pos c5] at H
      have c5b0 : (((rd_T110 l0 x5_1).f0) == x1_1) = true := beq_iff_eq.mpr c5
      have c5b1 : (((rd_T110 l0 x5_1).f0) != x1_1) = false := bne_eq_false_iff_eq.mpr c5
      clear c5
      have HC6 := Aside0.mk H
      clear H
      have p188 : 0 ≤ (x5_1 : Int) := of_decide_eq_true za
      have q188 : x5_1 < (l0.length : Int) := of_decide_eq_true za
      obtain ⟨ad188, e188, hx188_0, hx188_1, hx188_2, hx188_3⟩ := at_T110 HR0.out x5_1 p188 q188
      cases e188
      replace hx188_0 := cb0 hx188_0 HB
      replace hx188_1 := cb0 hx188_1 HB
      replace hx188_2 := cb0 hx188_2 HB
      replace hx188_3 := cb0 hx188_3 HB
      replace p188 := eq_true p188
      replace q188 := eq_true q188
      have p189 : 0 ≤ (x5_1 : Int) := of_decide_eq_true za
      have q189 : x5_1 < (l0.length : Int) := of_decide_eq_true za
      obtain ⟨ad189, e189, hx189_0, hx189_1, hx189_2, hx189_3⟩ := at_T110 HR0.out x5_1 p189 q189
      obtain rfl : ad188 = ad189 := (by injection e189)
      replace hx189_0 := cb0 hx189_0 HB
      replace hx189_1 := cb0 hx189_1 HB
      replace hx189_2 := cb0 hx189_2 HB
      replace hx189_3 := cb0 hx189_3 HB
      replace p189 := eq_true p189
      replace q189 := eq_true q189
      go_upto_if 29 with (fail)
      have H := HC6.out
      clear HC6
      by_cases c7 : (((rd_T110 l0 x5_1).f1) != ((Int.tmod (wrap64 (x1_1 + 1)) 3) == 0)) = true
      ·rw [if_pos c7] at H
       have c7b0 : (((rd_T110 l0 x5_1).f1) != ((Int.tmod (wrap64 (x1_1 + 1)) 3) == 0)) = true := c7
       (try (have c7b1 : decide (((rd_T110 l0 x5_1).f1) = ((Int.tmod (wrap64 (x1_1 + 1)) 3) == 0)) = false := by simpa using c7))
       (try (have c7b2 : (((rd_T110 l0 x5_1).f1) == ((Int.tmod (wrap64 (x1_1 + 1)) 3) == 0)) = false := by simpa using c7))
       (try (have c7b3 : ¬ (((rd_T110 l0 x5_1).f1) = ((Int.tmod (wrap64 (x1_1 + 1)) 3) == 0)) := by simpa using c7))
       clear c7
       (first | rw [c7b0] | rw [c7b1] | rw [c7b2] | (simp only [i64_w, i32_w]; rw [c7b0]) | skip)
       obtain rfl := Option.some.inj H
       go_wp2
       go_ret
       exact ⟨ze, zb HB⟩
      ·rw [if_neg c7] at H
       have c7b0 : (((rd_T110 l0 x5_1).f1) != ((Int.tmod (wrap64 (x1_1 + 1)) 3) == 0)) = false := by simpa using c7
       (try (have c7b1 : decide (((rd_T110 l0 x5_1).f1) = ((Int.tmod (wrap64 (x1_1 + 1)) 3) == 0)) = true := by simpa using c7))
       (try (have c7b2 : (((rd_T110 l0 x5_1).f1) == ((Int.tmod (wrap64 (x1_1 + 1)) 3) == 0)) = true := by simpa using c7))
       clear c7
       (first | rw [c7b0] | rw [c7b1] | rw [c7b2] | (simp only [i64_w, i32_w]; rw [c7b0]) | skip)
       by_cases c8 : ((rd_T110 l0 x5_1).f2) = (wrap64 ((wrap64 (x1_1 + 1)) + 1))
       ·rw [if_pos c8] at H
        have c8b0 : (((rd_T110 l0 x5_1).f2) == (wrap64 ((wrap64 (x1_1 + 1)) + 1))) = true := beq_iff_eq.mpr c8
        have c8b1 : (((rd_T110 l0 x5_1).f2) != (wrap64 ((wrap64 (x1_1 + 1)) + 1))) = false := bne_eq_false_iff_eq.mpr c8
        clear c8
        obtain ⟨t192, A9, H⟩ := ob H
        (try dsimp only at H)
        have HC10 := Aside0.mk H
        clear H
        have p190 : 0 ≤ (x5_1 : Int) := of_decide_eq_true za
        have q190 : x5_1 < (l0.length : Int) := of_decide_eq_true za
        obtain ⟨ad190, e190, hx190_0, hx190_1, hx190_2, hx190_3⟩ := at_T110 HR0.out x5_1 p190 q190
        obtain rfl : ad188 = ad190 := (by injection e190)
        replace hx190_0 := cb0 hx190_0 HB
        replace hx190_1 := cb0 hx190_1 HB
        replace hx190_2 := cb0 hx190_2 HB
        replace hx190_3 := cb0 hx190_3 HB
        replace p190 := eq_true p190
        replace q190 := eq_true q190
        try go_wp2
        replace HB := Aside0.mk (below_drew1 HB.out)
        have p191 : 0 ≤ (x5_1 : Int) := of_decide_eq_true za
        have q191 : x5_1 < (l0.length : Int) := of_decide_eq_true za
        obtain ⟨ad191, e191, hx191_0, hx191_1, hx191_2, hx191_3⟩ := at_T110 HR0.out x5_1 p191 q191
        have hw191_3 := hx191_3
        have hw191_2 := hx191_2
        have hw191_1 := hx191_1
        have hw191_0 := hx191_0
        obtain rfl : ad188 = ad191 := (by injection e191)
        replace hx191_0 := cb0 hx191_0 HB
        replace hx191_1 := cb0 hx191_1 HB
        replace hx191_2 := cb0 hx191_2 HB
        replace hx191_3 := cb0 hx191_3 HB
        replace p191 := eq_true p191
        replace q191 := eq_true q191
        refine st 8 (an (cb hw191_0 HB) (an (cb hw191_1 HB) (an (cb hw191_2 HB) (cb hw191_3 HB)))) (fun hHeld => ?_); refine with_tabW laws_heldFrameS.tab13 laws_heldFrameS.bits13 (fun HT_ HW_ => ?_)
        generalize wr.drew = w11 at HB hx191_0 hx191_1 hx191_2 hx191_3 hHeld ⊢
        refine pu 0 (some 41) (bm 8 1) rfl rfl ?_
        refine pu 1 (some 42) (bm 8 3) rfl rfl ?_
        refine pu 2 (some 43) (bm 8 7) rfl rfl ?_
        refine pu 3 (some 44) (bm 8 15) rfl rfl ?_
        refine pu 5 (some 46) (bm 8 47) rfl rfl ?_
        refine tk 4 (some 45) (bm 8 63) rfl rfl hHeld ?_
        refine one_ (i := 6) (N := some 47) (bm 8 127) rfl rfl (one_of HT_.out (by kernel_rfl)) (by decide) (fun K hK => ?_)
        refine gs Try.func102 #[.int .i64 (wrap64 ((wrap64 ((wrap64 (x1_1 + 1)) + 1)) + 1))] ?_
        with_reducible refine (laws_markText.calls k1 (wrap64 ((wrap64 ((wrap64 (x1_1 + 1)) + 1)) + 1)) t192 _ A9.out).mono ?_
        rintro e w12 ⟨rfl, hb⟩
        refine ⟨_, rfl, ?_⟩
        replace HB := Aside0.mk (below_step (zb HB) hb)
        (try clear hb)
        refine hK.out _ _ (an (cb hw191_0 HB) (an (cb hw191_1 HB) (an (cb hw191_2 HB) (cb hw191_3 HB)))) (fun hHeld => ?_)
        clear hK K
        refine nm ?_
        refine pu 7 (some 48) (bm 8 255) rfl rfl ?_
        refine done_ (done_of HT_.out (by kernel_rfl)) ?_
        go_upto_if 48 with (fail)
        have H := HC10.out
        clear HC10
        by_cases c13 : ((rd_T110 l0 x5_1).f3).toList = t192.toList
        ·rw [if_pos c13] at H
         have c13b0 : (((rd_T110 l0 x5_1).f3).toList == t192.toList) = true := beq_iff_eq.mpr c13
         have c13b1 : (((rd_T110 l0 x5_1).f3).toList != t192.toList) = false := bne_eq_false_iff_eq.mpr c13
         clear c13
         (first | rw [c13b0] | rw [c13b1] | rw [c13b2] | (simp only [i64_w, i32_w]; rw [c13b0]) | skip)
         have H' := Aside0.mk H
         clear H
         go_wp2
         go_roundg k1
         case measure => have := HK1.out; omega
         case rel => exact ⟨(wrap64 ((wrap64 ((wrap64 ((wrap64 (x1_1 + 1)) + 1)) + 1)) + 1)), (wrap64 (x5_1 + 1)), zs, zs, H', ⟨by have := HK1.out; omega⟩, ⟨zb HB⟩⟩
        ·rw [if_neg c13] at H
         have c13b0 : (((rd_T110 l0 x5_1).f3).toList == t192.toList) = false := beq_eq_false_iff_ne.mpr c13
         have c13b1 : (((rd_T110 l0 x5_1).f3).toList != t192.toList) = true := bne_iff_ne.mpr c13
         (first | rw [c13b0] | rw [c13b1] | rw [c13b2] | (simp only [i64_w, i32_w]; rw [c13b0]) | skip)
         obtain rfl := Option.some.inj H
         go_wp2
         go_ret
         exact ⟨ze, zb HB⟩
       ·rw [if_neg c8] at H
        have c8b0 : (((rd_T110 l0 x5_1).f2) == (wrap64 ((wrap64 (x1_1 + 1)) + 1))) = false := beq_eq_false_iff_ne.mpr c8
        have c8b1 : (((rd_T110 l0 x5_1).f2) != (wrap64 ((wrap64 (x1_1 + 1)) + 1))) = true := bne_iff_ne.mpr c8
        obtain rfl := Option.some.inj H
        have p190 : 0 ≤ (x5_1 : Int) := of_decide_eq_true za
        have q190 : x5_1 < (l0.length : Int) := of_decide_eq_true za
        obtain ⟨ad190, e190, hx190_0, hx190_1, hx190_2, hx190_3⟩ := at_T110 HR0.out x5_1 p190 q190
        obtain rfl : ad188 = ad190 := (by injection e190)
        replace hx190_0 := cb0 hx190_0 HB
        replace hx190_1 := cb0 hx190_1 HB
        replace hx190_2 := cb0 hx190_2 HB
        replace hx190_3 := cb0 hx190_3 HB
        replace p190 := eq_true p190
        replace q190 := eq_true q190
        go_wp2
        go_ret
        exact ⟨ze, zb HB⟩
     ·rw [if_neg c5] at H
      have c5b0 : (((rd_T110 l0 x5_1).f0) == x1_1) = false := beq_eq_false_iff_ne.mpr c5
      have c5b1 : (((rd_T110 l0 x5_1).f0) != x1_1) = true := bne_iff_ne.mpr c5
      obtain rfl := Option.some.inj H
      have p188 : 0 ≤ (x5_1 : Int) := of_decide_eq_true za
      have q188 : x5_1 < (l0.length : Int) := of_decide_eq_true za
      obtain ⟨ad188, e188, hx188_0, hx188_1, hx188_2, hx188_3⟩ := at_T110 HR0.out x5_1 p188 q188
      cases e188
      replace hx188_0 := cb0 hx188_0 HB
      replace hx188_1 := cb0 hx188_1 HB
      replace hx188_2 := cb0 hx188_2 HB
      replace hx188_3 := cb0 hx188_3 HB
      replace p188 := eq_true p188
      replace q188 := eq_true q188
      go_wp2
      go_ret
      exact ⟨ze, zb HB⟩
    ·rw [if_neg c4] at H
     exact absurd H (by simp)
   ·skip
    have c3b0 := decide_eq_false c3
    clear c3
    obtain rfl := Option.some.inj H
    go_wp2
    go_ret
    exact ⟨ze, zb HB⟩

end Go.Proofs.Ytlpibelofcabhaa.PFnExactWorldNew
