-- WRITTEN BY a turned print (wip/tools of the prover's repo)
import Derived.Test.YtlpibelofcabhaaDoorPFnExactEndCallx0
namespace Go.Proofs.YtlpibelofcabhaaDoor.PFnExactEndCall
open Go.RowKit Go.Proofs.YtlpibelofcabhaaDoorW.PrintWords Go.Proofs.YtlpibelofcabhaaDoorW.PrintLast Go.Proofs.YtlpibelofcabhaaDoorW.PrintMore Go.Proofs.YtlpibelofcabhaaDoor.Lm
attribute [local go_sem] max2_int min2_int max_two min_two max_three min_three max_four min_four   -- for this text's walks alone
set_option linter.unusedVariables false
set_option linter.unusedSimpArgs false

/-! ### spec_l6Dec: function 43 -/
-- thin
def spec_l6Dec.f : Nat → Int → Option (ByteArray)
 | 0, _ => none
 | k + 1, a0 => if a0 < (-9223372036854775807) then (some (⟨#[45, 57, 50, 50, 51, 51, 55, 50, 48, 51, 54, 56, 53, 52, 55, 55, 53, 56, 48, 56]⟩ : ByteArray)) else (if a0 < 0 then ((spec_l6Dec.f k (wrap64 (-a0))).bind fun t165 => (if 1 + t165.size ≤ 9223372036854775807 then (some ((⟨#[45]⟩ : ByteArray) ++ t165)) else (none))) else (if a0 < 10 then (some (strOfNums (([(wrap64 (48 + a0)) % 256] : List Int)))) else ((spec_l6Dec.f k (wrap64 (Int.tdiv a0 10))).bind fun t169 => ((some (([(wrap64 (48 + (Int.tmod a0 10))) % 256] : List Int) : List Int)).bind fun y170 => (if t169.size + (strOfNums y170).size ≤ 9223372036854775807 then (some (t169 ++ (strOfNums y170))) else (none))))))
theorem spec_l6Dec.mono_l : ∀ k, (∀ y0, LeO (spec_l6Dec.f k y0) (spec_l6Dec.f (k + 1) y0))
 | 0 => fun _ r h => by simp [spec_l6Dec.f] at h
 | k + 1 => by
  have ih0 := spec_l6Dec.mono_l k
  ·intro y0
   unfold spec_l6Dec.f
   exact zm
theorem spec_l6Dec.mono : ∀ a0 k, LeO (spec_l6Dec.f k a0) (spec_l6Dec.f (k + 1) a0) := by
 intro a0 k
 have ih0 := spec_l6Dec.mono_l k
 exact ih0 a0
def spec_l6Dec.T7 : Bool × List (List Nat × List Nat) := (true, [([], []), ([0], [0]), ([1], [1]), ([], []), ([3], [3]), ([4], [4]), ([5], [5]), ([6], [6]), ([7], [7]), ([2, 8], [2, 8]), ([9, 2, 0, 1, 2, 3, 4, 5, 6, 7, 8, 9], [9])])
def spec_l6Dec.B7 : List Nat := [0, 1, 3, 0, 8, 24, 56, 120, 248, 511, 1023]
theorem spec_l6Dec.tab7 : rtab .any (opsOf Tryd.f43 7) = spec_l6Dec.T7 := by kernel_rfl
theorem spec_l6Dec.bits7 : waitsOk spec_l6Dec.T7.2 spec_l6Dec.B7 = true := by kernel_rfl
set_option maxHeartbeats 8000000 in
set_option maxRecDepth 100000 in
theorem spec_l6Dec.calls (k : Nat) : ∀ (a0 : Int) (r : ByteArray) (w : World) (h : spec_l6Dec.f k a0 = some r),
  Calls Tryd.prog 43 #[.int .i64 a0] w fun e w' => e = .returned (.string r) ∧ Below w.heap.size w w' := by
 induction k using Nat.strongRecOn with
 | _ k ih =>
 intro a0 r w h
 cases k with
 | zero => exact absurd h (by simp [spec_l6Dec.f])
 | succ k =>
 simp only [spec_l6Dec.f] at h
 have HB := Aside0.mk (Below.refl w.heap.size w)
 have H : (if a0 < (-9223372036854775807) then (some (⟨#[45, 57, 50, 50, 51, 51, 55, 50, 48, 51, 54, 56, 53, 52, 55, 55, 53, 56, 48, 56]⟩ : ByteArray)) else (if a0 < 0 then ((spec_l6Dec.f k (wrap64 (-a0))).bind fun t165 => (if 1 + t165.size ≤ 9223372036854775807 then (some ((⟨#[45]⟩ : ByteArray) ++ t165)) else (none))) else (if a0 < 10 then (some (strOfNums (([(wrap64 (48 + a0)) % 256] : List Int)))) else ((spec_l6Dec.f k (wrap64 (Int.tdiv a0 10))).bind fun t169 => ((some (([(wrap64 (48 + (Int.tmod a0 10))) % 256] : List Int) : List Int)).bind fun y170 => (if t169.size + (strOfNums y170).size ≤ 9223372036854775807 then (some (t169 ++ (strOfNums y170))) else (none))))))) = some r := h
 clear h
 replace H := sp H
 rcases H with ⟨c2, H⟩ | ⟨c2, H⟩
 ·skip
  have c2b0 := decide_eq_true c2
  clear c2
  obtain rfl := Option.some.inj H
  go_enter Tryd.func43, Tryd.ntmps43
  go_wp2
  go_ret
  exact ⟨ze, zb HB⟩
 ·skip
  have c2b0 := decide_eq_false c2
  clear c2
  replace H := sp H
  rcases H with ⟨c3, H⟩ | ⟨c3, H⟩
  ·skip
   have c3b0 := decide_eq_true c3
   clear c3
   obtain ⟨t165, A4, H⟩ := ob H
   (try dsimp only at H)
   by_cases c5 : 1 + t165.size ≤ 9223372036854775807
   ·rw [if_pos c5] at H
    have c5b0 := eq_true c5
    have c5b1 := decide_eq_true c5
    try have c5b2 : (9223372036854775807 < 1 + t165.size) = False := eq_false (Nat.not_lt.2 c5)
    obtain rfl := Option.some.inj H
    go_enter Tryd.func43, Tryd.ntmps43
    go_wp2_with (first | ((with_reducible refine gq 43 rfl ?_); refine gl (some 9) Tryd.func43 #[.int .i64 (wrap64 (-a0))] ?_; (with_reducible refine (ih k (by omega) (wrap64 (-a0)) t165 _ A4.out).mono ?_); rintro e w6 ⟨rfl, hb⟩; refine ⟨_, rfl, ?_⟩; replace HB := Aside0.mk (below_step (zb HB) hb); (try clear hb)))
    go_ret
    exact ⟨ze, zb HB⟩
   ·rw [if_neg c5] at H
    exact absurd H (by simp)
  ·skip
   have c3b0 := decide_eq_false c3
   clear c3
   replace H := sp H
   rcases H with ⟨c7, H⟩ | ⟨c7, H⟩
   ·skip
    have c7b0 := decide_eq_true c7
    clear c7
    obtain ⟨y166, hy166⟩ : ∃ y_ : List Int, y_ = (([(wrap64 (48 + a0)) % 256] : List Int)) := ⟨_, rfl⟩
    replace H : (some (strOfNums y166)) = some r := by first | (rw [hy166]; with_reducible exact H) | (have H2_ := (Option.bind_some _ _).symm.trans H; rw [hy166]; with_reducible exact H2_) | (have H2_ := (Option.bind_some _ _).symm.trans H; with_reducible exact H2_) | with_reducible exact H | (rw [hy166]; exact H) | exact H
    have Ny166 := Aside0.mk hy166
    clear hy166
    obtain rfl := Option.some.inj H
    go_enter Tryd.func43, Tryd.ntmps43
    go_wp2_with (first | ((with_reducible refine gd 16 rfl ?_); refine Kd.R_lit (Kd.int .u8) _ 5 ?hg (N := 16) ?hd (xs := ([(wrap64 (48 + a0)) % 256] : List Int)) (inner := [.int .u8 ((wrap64 (48 + a0)) % 256)]) (ok := fun _ => True) (okp := fun _ => True) ?hr ?hp (fun _ hk => hk) trivial (Below.refl _ _) (Nat.le_refl _) (by simp) ?_; (case hd => rfl); (case hg => rfl); (case hr => first | (go_simp; done) | (go_simp; rfl)); (case hp => exact (Reps.one (show Kd.M (Kd.int .u8) _ _ _ ((wrap64 (48 + a0)) % 256) [.int .u8 ((wrap64 (48 + a0)) % 256)] from rfl) (Reps.none _ _))); intro v167 w8 ho9 hb hg_ hnew_; clear hg_ hnew_; (first | rw [← Ny166.out] at ho9 | (simp only [Int.reduceToNat] at ho9; rw [← Ny166.out] at ho9)); have HO168 := Aside0.mk (Kd.R_lower ho9 (below_size (zb HB))); replace HB := Aside0.mk (below_step (zb HB) hb); clear hb ho9; have hcv10 := own_string (P := Tryd.prog) Tryd.underlying100 Tryd.underlying5 Tryd.underlying9 (Kd.own_of_R HO168.out)))
    go_ret
    exact ⟨ze, zb HB⟩
   ·skip
    have c7b0 := decide_eq_false c7
    clear c7
    obtain ⟨t169, A11, H⟩ := ob H
    (try dsimp only at H)
    obtain ⟨y170, hy170⟩ : ∃ y_ : List Int, y_ = (([(wrap64 (48 + (Int.tmod a0 10))) % 256] : List Int)) := ⟨_, rfl⟩
    replace H : (if t169.size + (strOfNums y170).size ≤ 9223372036854775807 then (some (t169 ++ (strOfNums y170))) else (none)) = some r := by first | (rw [hy170]; with_reducible exact H) | (have H2_ := (Option.bind_some _ _).symm.trans H; rw [hy170]; with_reducible exact H2_) | (have H2_ := (Option.bind_some _ _).symm.trans H; with_reducible exact H2_) | with_reducible exact H | (rw [hy170]; exact H) | exact H
    have Ny170 := Aside0.mk hy170
    clear hy170
    replace H := sp H
    rcases H with ⟨c12, H⟩ | ⟨c12, H⟩
    ·skip
     have c12b0 := eq_true c12
     have c12b1 := decide_eq_true c12
     try have c12b2 : (9223372036854775807 < t169.size + (strOfNums y170).size) = False := eq_false (Nat.not_lt.2 c12)
     obtain rfl := Option.some.inj H
     go_enter Tryd.func43, Tryd.ntmps43
     try go_wp2
     replace HB := Aside0.mk (below_drew1 HB.out)
     refine start_ (n := 11) (S := fun w' => True) (ds := []) #[false, false, false, false, false, false, false, false, false, false, false] (by kernel_rfl) rfl rfl trivial (fun hHeld => ?_); refine with_tabW spec_l6Dec.tab7 spec_l6Dec.bits7 (fun HT_ HW_ => ?_)
     generalize w.drew = w13 at HB hHeld ⊢
     refine pu 0 (some 18) (bm 11 1) rfl rfl ?_
     refine pu 1 (some 19) (bm 11 3) rfl rfl ?_
     refine pu 3 (some 21) (bm 11 11) rfl rfl ?_
     refine pu 4 (some 22) (bm 11 27) rfl rfl ?_
     refine pu 5 (some 23) (bm 11 59) rfl rfl ?_
     refine pu 6 (some 24) (bm 11 123) rfl rfl ?_
     refine join_ (σ := Value) 2 #[true, true, true, true, true, true, true, true, true, false, false] (fun s_ => [(20, .string t169), (25, s_), (26, .string (strOfNums y170))]) (fun s_ w' => (Kd.R (Kd.int .u8) 5 w' w.heap.size (fun _ => True) s_ y170) ∧ (Below w.heap.size w w')) ?_ ?_
     rotate_left
     ·intro hCont
      refine two_ (i := 2) (j := 7) (Ni := some 20) (Nj := some 25) #[true, true, true, true, true, true, true, false, false, false, false] #[true, true, false, true, true, true, true, true, false, false, false] rfl rfl rfl rfl (two_of HT_.out (by kernel_rfl)) (by decide) (by decide) (fun K hK => ?_) (fun K hK => ?_)
      ·skip
       refine gs Tryd.func43 #[.int .i64 (wrap64 (Int.tdiv a0 10))] ?_
       with_reducible refine (ih k (by omega) (wrap64 (Int.tdiv a0 10)) t169 _ A11.out).mono ?_
       rintro e w14 ⟨rfl, hb⟩
       refine ⟨_, rfl, ?_⟩
       replace HB := Aside0.mk (below_step (zb HB) hb)
       (try clear hb)
       refine hK.out _ _ trivial (fun hHeld => ?_)
       clear hK K
       refine nm ?_
       refine one_ (i := 7) (N := some 25) (bm 11 255) rfl rfl (one_of HT_.out (by kernel_rfl)) (by decide) (fun K hK => ?_)
       refine Kd.R_lit_step (Kd.int .u8) _ 5 ?hg (N := 25) ?hd (xs := ([(wrap64 (48 + (Int.tmod a0 10))) % 256] : List Int)) (inner := [.int .u8 ((wrap64 (48 + (Int.tmod a0 10))) % 256)]) (ok := fun _ => True) (okp := fun _ => True) ?hr ?hp (fun _ hk => hk) trivial (Below.refl _ _) (Nat.le_refl _) (by simp) ?_; (case hd => rfl); (case hg => rfl); (case hr => first | (go_simp; done) | (go_simp; rfl)); (case hp => exact (Reps.one (show Kd.M (Kd.int .u8) _ _ _ ((wrap64 (48 + (Int.tmod a0 10))) % 256) [.int .u8 ((wrap64 (48 + (Int.tmod a0 10))) % 256)] from rfl) (Reps.none _ _)))
       intro v171 w15 ho16 hb hg_ hnew_
       clear hg_ hnew_
       (first | rw [← Ny170.out] at ho16 | (simp only [Int.reduceToNat] at ho16; rw [← Ny170.out] at ho16))
       have HO172 := Aside0.mk (Kd.R_lower ho16 (below_size (zb HB)))
       replace HB := Aside0.mk (below_step (zb HB) hb)
       clear hb ho16
       refine hK.out _ _ trivial (fun hHeld => ?_)
       clear hK K
       refine nm ?_
       refine one_ (i := 8) (N := some 26) (bm 11 511) rfl rfl (one_of HT_.out (by kernel_rfl)) (by decide) (fun K hK => ?_)
       have hcv17 := own_string (P := Tryd.prog) Tryd.underlying100 Tryd.underlying5 Tryd.underlying9 (Kd.own_of_R HO172.out)
       refine value_ (w1 := ?_) (v := ?_) (by rfl) rfl ?_ ?_
       rotate_left 2
       ·go_simp
        constructor
        ·rfl
        ·rfl
       clear hcv17
       refine hK.out _ _ trivial (fun hHeld => ?_)
       clear hK K
       refine nm ?_
       exact norm_ (by simp only [putAll, Act.put, s1, s2, s3]) (hCont (v171) _ ⟨(zr HO172), (zb HB)⟩)
      ·skip
       refine Kd.R_lit_step (Kd.int .u8) _ 5 ?hg (N := 25) ?hd (xs := ([(wrap64 (48 + (Int.tmod a0 10))) % 256] : List Int)) (inner := [.int .u8 ((wrap64 (48 + (Int.tmod a0 10))) % 256)]) (ok := fun _ => True) (okp := fun _ => True) ?hr ?hp (fun _ hk => hk) trivial (Below.refl _ _) (Nat.le_refl _) (by simp) ?_; (case hd => rfl); (case hg => rfl); (case hr => first | (go_simp; done) | (go_simp; rfl)); (case hp => exact (Reps.one (show Kd.M (Kd.int .u8) _ _ _ ((wrap64 (48 + (Int.tmod a0 10))) % 256) [.int .u8 ((wrap64 (48 + (Int.tmod a0 10))) % 256)] from rfl) (Reps.none _ _)))
       intro v171 w14 ho15 hb hg_ hnew_
       clear hg_ hnew_
       (first | rw [← Ny170.out] at ho15 | (simp only [Int.reduceToNat] at ho15; rw [← Ny170.out] at ho15))
       have HO172 := Aside0.mk (Kd.R_lower ho15 (below_size (zb HB)))
       replace HB := Aside0.mk (below_step (zb HB) hb)
       clear hb ho15
       refine hK.out _ _ trivial (fun hHeld => ?_)
       clear hK K
       refine nm ?_
       refine two_ (i := 2) (j := 8) (Ni := some 20) (Nj := some 26) #[true, true, true, true, true, true, true, true, false, false, false] #[true, true, false, true, true, true, true, true, true, false, false] rfl rfl rfl rfl (two_of HT_.out (by kernel_rfl)) (by decide) (by decide) (fun K hK => ?_) (fun K hK => ?_)
       ·skip
        refine gs Tryd.func43 #[.int .i64 (wrap64 (Int.tdiv a0 10))] ?_
        with_reducible refine (ih k (by omega) (wrap64 (Int.tdiv a0 10)) t169 _ A11.out).mono ?_
        rintro e w16 ⟨rfl, hb⟩
        refine ⟨_, rfl, ?_⟩
        replace HO172 := Aside0.mk (Kd.R_below (zr HO172) hb)
        replace HB := Aside0.mk (below_step (zb HB) hb)
        (try clear hb)
        refine hK.out _ _ trivial (fun hHeld => ?_)
        clear hK K
        refine nm ?_
        refine one_ (i := 8) (N := some 26) (bm 11 511) rfl rfl (one_of HT_.out (by kernel_rfl)) (by decide) (fun K hK => ?_)
        have hcv17 := own_string (P := Tryd.prog) Tryd.underlying100 Tryd.underlying5 Tryd.underlying9 (Kd.own_of_R HO172.out)
        refine value_ (w1 := ?_) (v := ?_) (by rfl) rfl ?_ ?_
        rotate_left 2
        ·go_simp
         constructor
         ·rfl
         ·rfl
        clear hcv17
        refine hK.out _ _ trivial (fun hHeld => ?_)
        clear hK K
        refine nm ?_
        exact norm_ (by simp only [putAll, Act.put, s1, s2, s3]) (hCont (v171) _ ⟨(zr HO172), (zb HB)⟩)
       ·skip
        have hcv16 := own_string (P := Tryd.prog) Tryd.underlying100 Tryd.underlying5 Tryd.underlying9 (Kd.own_of_R HO172.out)
        refine value_ (w1 := ?_) (v := ?_) (by rfl) rfl ?_ ?_
        rotate_left 2
        ·go_simp
         constructor
         ·rfl
         ·rfl
        clear hcv16
        refine hK.out _ _ trivial (fun hHeld => ?_)
        clear hK K
        refine nm ?_
        refine one_ (i := 2) (N := some 20) (bm 11 511) rfl rfl (one_of HT_.out (by kernel_rfl)) (by decide) (fun K hK => ?_)
        refine gs Tryd.func43 #[.int .i64 (wrap64 (Int.tdiv a0 10))] ?_
        with_reducible refine (ih k (by omega) (wrap64 (Int.tdiv a0 10)) t169 _ A11.out).mono ?_
        rintro e w17 ⟨rfl, hb⟩
        refine ⟨_, rfl, ?_⟩
        replace HO172 := Aside0.mk (Kd.R_below (zr HO172) hb)
        replace HB := Aside0.mk (below_step (zb HB) hb)
        (try clear hb)
        refine hK.out _ _ trivial (fun hHeld => ?_)
        clear hK K
        refine nm ?_
        exact norm_ (by simp only [putAll, Act.put, s1, s2, s3]) (hCont (v171) _ ⟨(zr HO172), (zb HB)⟩)
     rintro v171 w18 ⟨h0_, h1_⟩
     have n0_ : Aside0 (Kd.R (Kd.int .u8) 5 w18 w.heap.size (fun _ => True) v171 y170) := ⟨h0_⟩
     have n1_ : Aside0 (Below w.heap.size w w18) := ⟨h1_⟩
     clear HB
     clear h0_ h1_
     have HO172 := n0_
     have HB := n1_
     clear n0_ n1_
     have hHeld := trivial
     refine norm_ (a' := ?_) ?_ ?_
     rotate_left
     ·simp only [putAll, Act.put, s1, s2, s3]
      rfl
     refine pu 9 (some 27) (bm 11 1023) rfl rfl ?_
     refine pu 10 (some 2) (bm 11 2047) rfl rfl ?_
     refine done_ (done_of HT_.out (by kernel_rfl)) ?_
     try go_wp2
     go_ret
     exact ⟨ze, zb HB⟩
    ·skip
     exact absurd H (by simp)

/-! ### spec_l21New: function 46 -/
-- thin
def spec_l21New.f (a0 : Int) : Option (Int × Int × (List (S61)) × ByteArray × Bool × Bool × Int × (List (S61)) × ByteArray × Bool × Int × Int) := some (a0, 1, (([] : List (S61))), (⟨#[]⟩ : ByteArray), false, false, 0, (([] : List (S61))), (⟨#[]⟩ : ByteArray), false, 8, 8)
set_option maxHeartbeats 8000000 in
set_option maxRecDepth 100000 in
theorem spec_l21New.calls (a0 : Int) (r1 : Int) (r2 : Int) (r3 : List (S61)) (r4 : ByteArray) (r5 : Bool) (r6 : Bool) (r7 : Int) (r8 : List (S61)) (r9 : ByteArray) (r10 : Bool) (r11 : Int) (r12 : Int) (w : World) (h : spec_l21New.f a0 = some (r1, r2, r3, r4, r5, r6, r7, r8, r9, r10, r11, r12)) :
  Calls Tryd.prog 46 #[.int .i64 a0] w fun e w' => ∃ v2_ v7_ : Value, e = .returned (.agg #[.int .i64 r1, .int .i64 r2, v2_, .string r4, .bool r5, .bool r6, .int .i64 r7, v7_, .string r9, .bool r10, .int .i64 r11, .int .i64 r12]) ∧ Kd.R k61 61 w' w.heap.size (fun k_ => some k_ ≠ (v7_ : Value).ownBlock) v2_ r3 ∧ Kd.R k61 61 w' w.heap.size (fun k_ => some k_ ≠ (v2_ : Value).ownBlock) v7_ r8 ∧ Below w.heap.size w w' := by
 have hu58 := Tryd.underlying58
 have hu36 := Tryd.underlying36
 have HB := Aside0.mk (Below.refl w.heap.size w)
 have H : (some (a0, 1, (([] : List (S61))), (⟨#[]⟩ : ByteArray), false, false, 0, (([] : List (S61))), (⟨#[]⟩ : ByteArray), false, 8, 8)) = some (r1, r2, r3, r4, r5, r6, r7, r8, r9, r10, r11, r12) := h
 clear h
 obtain ⟨y174, hy174⟩ : ∃ y_ : List (S61), y_ = (([] : List (S61))) := ⟨_, rfl⟩
 replace H : (some (a0, 1, y174, (⟨#[]⟩ : ByteArray), false, false, 0, (([] : List (S61))), (⟨#[]⟩ : ByteArray), false, 8, 8)) = some (r1, r2, r3, r4, r5, r6, r7, r8, r9, r10, r11, r12) := by first | (rw [hy174]; with_reducible exact H) | (have H2_ := (Option.bind_some _ _).symm.trans H; rw [hy174]; with_reducible exact H2_) | (have H2_ := (Option.bind_some _ _).symm.trans H; with_reducible exact H2_) | with_reducible exact H | (rw [hy174]; exact H) | exact H
 have Ny174 := Aside0.mk hy174
 clear hy174
 obtain ⟨y177, hy177⟩ : ∃ y_ : List (S61), y_ = (([] : List (S61))) := ⟨_, rfl⟩
 replace H : (some (a0, 1, y174, (⟨#[]⟩ : ByteArray), false, false, 0, y177, (⟨#[]⟩ : ByteArray), false, 8, 8)) = some (r1, r2, r3, r4, r5, r6, r7, r8, r9, r10, r11, r12) := by first | (rw [hy177]; with_reducible exact H) | (have H2_ := (Option.bind_some _ _).symm.trans H; rw [hy177]; with_reducible exact H2_) | (have H2_ := (Option.bind_some _ _).symm.trans H; with_reducible exact H2_) | with_reducible exact H | (rw [hy177]; exact H) | exact H
 have Ny177 := Aside0.mk hy177
 clear hy177
 simp only [Option.some.injEq, Prod.mk.injEq] at H
 obtain ⟨rfl, rfl, rfl, rfl, rfl, rfl, rfl, rfl, rfl, rfl, rfl, rfl⟩ := H
 go_enter Tryd.func46, Tryd.ntmps46
 go_wp2_with (first | ((with_reducible refine gd 2 rfl ?_); refine bx (N := 2) (cs := #[.int .i64 0, .int .i64 0, .slice none 0 0, .string (⟨#[]⟩ : ByteArray), .bool false, .bool false, .int .i64 0, .slice none 0 0, .string (⟨#[]⟩ : ByteArray), .bool false, .int .i64 0, .int .i64 0]) (t := 58) ?_; intro gb173 hg w2 hbox hb; have BK173 := Aside0.mk (hbox); have GW173 := gw HB hg; have GE173 := GW173; replace HB := Aside0.mk (below_step (zb HB) hb); clear hb hbox hg) | ((with_reducible refine gd 4 rfl ?_); refine Kd.R_lit k61 _ 61 ?hg (N := 4) ?hd (xs := ([] : List (S61))) (inner := []) (ok := fun _ => True) (okp := fun _ => True) ?hr ?hp (fun _ hk => hk) trivial (Below.refl _ _) (Nat.le_refl _) (by simp) ?_; (case hd => rfl); (case hg => rfl); (case hr => first | (go_simp; done) | (go_simp; rfl)); (case hp => exact (Reps.none _ _)); intro v175 w3 ho4 hb hg_ hnew_; clear hg_ hnew_; (first | rw [← Ny174.out] at ho4 | (simp only [Int.reduceToNat] at ho4; rw [← Ny174.out] at ho4)); have HO176 := Aside0.mk (Kd.R_lower ho4 (below_size (zb HB))); replace BK173 := kb BK173 hb; replace HB := Aside0.mk (below_step (zb HB) hb); clear hb ho4) | ((with_reducible refine gd 5 rfl ?_); refine Kd.R_lit k61 _ 61 ?hg (N := 5) ?hd (xs := ([] : List (S61))) (inner := []) (ok := fun _ => True) (okp := fun _ => True) ?hr ?hp (fun _ hk => hk) trivial (Below.refl _ _) (Nat.le_refl _) (by simp) ?_; (case hd => rfl); (case hg => rfl); (case hr => first | (go_simp; done) | (go_simp; rfl)); (case hp => exact (Reps.none _ _)); intro v178 w5 ho6 hb hg_ hnew_; clear hg_ hnew_; (first | rw [← Ny177.out] at ho6 | (simp only [Int.reduceToNat] at ho6; rw [← Ny177.out] at ho6)); have HO179 := Aside0.mk (Kd.R_lower (Kd.R_new' ho6 (Kd.R_lt (zr HO176))) (below_size (zb HB))); replace HO176 := Aside0.mk (Kd.R_elder' (zr HO176) (Kd.R_base ho6) hb); replace BK173 := kb BK173 hb; replace HB := Aside0.mk (below_step (zb HB) hb); clear hb ho6; obtain ⟨Ao7, co7, eo7⟩ := Kd.R_slice HO179.out; subst eo7; obtain ⟨Ao8, co8, eo8⟩ := Kd.R_slice HO176.out; subst eo8; obtain ⟨hcz9_0, hcz9_1, hcz9_2, hcz9_3, hcz9_4, hcz9_5, hcz9_6, hcz9_7, hcz9_8, hcz9_9, hcz9_10, hcz9_11, hfz9_0, hfz9_1, hfz9_2, hfz9_3, hfz9_4, hfz9_5, hfz9_6, hfz9_7, hfz9_8, hfz9_9, hfz9_10, hfz9_11⟩ := c12 BK173))
 refine bodyPost_ret (results_cell_row rfl _ _ gb173 58 #[.int .i64 a0, .int .i64 1, .slice Ao8 y174.length co8, .string (⟨#[]⟩ : ByteArray), .bool false, .bool false, .int .i64 0, .slice Ao7 y177.length co7, .string (⟨#[]⟩ : ByteArray), .bool false, .int .i64 8, .int .i64 8] (0, 0) _ rfl (zp BK173) Tryd.underlying58 rfl (by kernel_rfl)) rfl ?_
 exact ⟨_, _, ze, (Kd.R_mono (ztR (Kd.R_types HO176.out BK173.out (by decide))) (fun _ hk => hk.1.2)), (Kd.R_mono (ztR (Kd.R_types HO179.out BK173.out (by decide))) (fun _ hk => hk.1.2)), zb HB⟩

-- NOT PRINTED: function 15 (spec_l21Call)

/-! ### spec_l21Fields: function 47 -/
-- thin
def spec_l21Fields.f (l0 : List (S61)) : Option ((List (S61))) := (some (([] : List (S61)) : List (S61))).bind fun y205 => (if y205.length + l0.length < 3518437208883 then (some (y205 ++ l0)) else (none))
set_option maxHeartbeats 8000000 in
set_option maxRecDepth 100000 in
theorem spec_l21Fields.calls (A0 : Option Addr) (c0 : Nat) (l0 : List (S61)) (r : List (S61)) (w : World) (hr0 : Kd.C k61 w A0 l0.length l0) (hc0 : l0.length ≤ c0) (h : spec_l21Fields.f l0 = some r) :
  Calls Tryd.prog 47 #[.slice A0 l0.length c0] w fun e w' => ∃ v0_ : Value, e = .returned (v0_) ∧ Kd.R k61 61 w' w.heap.size (fun _ => True) v0_ r ∧ Below w.heap.size w w' := by
 have HR0 := Aside0.mk hr0
 have HC0 := Aside0.mk hc0
 clear hr0 hc0
 have HB := Aside0.mk (Below.refl w.heap.size w)
 have H : ((some (([] : List (S61)) : List (S61))).bind fun y205 => (if y205.length + l0.length < 3518437208883 then (some (y205 ++ l0)) else (none))) = some r := h
 clear h
 obtain ⟨y205, hy205⟩ : ∃ y_ : List (S61), y_ = (([] : List (S61))) := ⟨_, rfl⟩
 replace H : (if y205.length + l0.length < 3518437208883 then (some (y205 ++ l0)) else (none)) = some r := by first | (rw [hy205]; with_reducible exact H) | (have H2_ := (Option.bind_some _ _).symm.trans H; rw [hy205]; with_reducible exact H2_) | (have H2_ := (Option.bind_some _ _).symm.trans H; with_reducible exact H2_) | with_reducible exact H | (rw [hy205]; exact H) | exact H
 have Ny205 := Aside0.mk hy205
 clear hy205
 replace H := sp H
 rcases H with ⟨c2, H⟩ | ⟨c2, H⟩
 ·skip
  have LMc2 := Aside0.mk c2
  clear c2
  obtain ⟨y208, hy208⟩ : ∃ y_ : List (S61), y_ = (y205 ++ l0) := ⟨_, rfl⟩
  replace H : (some y208) = some r := by first | (rw [hy208]; with_reducible exact H) | (have H2_ := (Option.bind_some _ _).symm.trans H; rw [hy208]; with_reducible exact H2_) | (have H2_ := (Option.bind_some _ _).symm.trans H; with_reducible exact H2_) | with_reducible exact H | (rw [hy208]; exact H) | exact H
  have Ny208 := Aside0.mk hy208
  clear hy208
  obtain rfl := Option.some.inj H
  go_enter Tryd.func47, Tryd.ntmps47
  go_wp2_with (first | ((with_reducible refine gd 3 rfl ?_); refine Kd.R_lit k61 _ 61 ?hg (N := 3) ?hd (xs := ([] : List (S61))) (inner := []) (ok := fun _ => True) (okp := fun _ => True) ?hr ?hp (fun _ hk => hk) trivial (Below.refl _ _) (Nat.le_refl _) (by simp) ?_; (case hd => rfl); (case hg => rfl); (case hr => first | (go_simp; done) | (go_simp; rfl)); (case hp => exact (Reps.none _ _)); intro v206 w3 ho4 hb hg_ hnew_; clear hg_ hnew_; (first | rw [← Ny205.out] at ho4 | (simp only [Int.reduceToNat] at ho4; rw [← Ny205.out] at ho4)); have HO207 := Aside0.mk (Kd.R_lower ho4 (below_size (zb HB))); replace HB := Aside0.mk (below_step (zb HB) hb); clear hb ho4) | ((with_reducible refine gate_builtin (b := .append) (xs := #[.tmp 3, .tmp 4]) rfl ?_); at_builtin; refine Kd.R_append_rows k61 (w0 := w) w.heap.size rfl (.tmp 3) (.tmp 4) 32 61 (.agg #[(.string ⟨#[]⟩), (.string ⟨#[]⟩), (.bool false)]) 40 rfl Tryd.underlying32 info61 rfl (by decide) (by omega) v206 y205 l0 _ _ _ (fun _ => True) (fun _ => False) rfl rfl ?aO ?aR (fun _ _ h => h) (fun _ h => h.elim) ?aF ?aB ?aS ?aL ?_; (case aR => exact zc (Kd.C_below HR0.out HB.out)); (case aB => exact (zb HB)); (case aF => exact (fun _ _ => trivial)); (case aO => exact (zr HO207)); (case aS => exact (below_size (zb HB))); (case aL => have := LMc2.out; omega); intro v209 w5 ho hb hg hat; rw [← Ny208.out] at ho; replace HB := Aside0.mk (hb); have HO210 := Aside0.mk (ho); clear HO207; clear ho hb hg hat))
  go_ret
  exact ⟨_, ze, zq (HO210.out), zb HB⟩
 ·skip
  exact absurd H (by simp)

/-! ### spec_l21Copy: function 16 -/
-- thin
def spec_l21Copy.l0 : Nat → List (S58) → Int → Bool → List (S61) → Int → List (S61) → Int → ByteArray → List (S58) → Int → Int → List (S79) → Bool → Option (Bool × (List (S61)) × Int × (List (S61)) × Int × ByteArray × (List (S58)) × Int × Int × (List (S79)) × Bool)
 | 0, _, _, _, _, _, _, _, _, _, _, _, _, _ => none
 | k + 1, x3, x4, x212000, x212001, x212002, x212003, x212004, x212005, x212006, x212007, x212008, x212009, x212010 => if x4 < (x212006.length : Int) then (if 0 ≤ x4 then ((spec_l21Fields.f ((rd_T58 x212006 x4).f2)).bind fun t224 => ((spec_l21Fields.f ((rd_T58 x212006 x4).f7)).bind fun t227 => (if x3.length < 1034834473200 then (spec_l21Copy.l0 k (x3 ++ [(⟨(rd_T58 x212006 x4).f0, (rd_T58 x212006 x4).f1, t224, (rd_T58 x212006 x4).f3, (rd_T58 x212006 x4).f4, (rd_T58 x212006 x4).f5, (rd_T58 x212006 x4).f6, t227, (rd_T58 x212006 x4).f8, (rd_T58 x212006 x4).f9, (⟨(rd_T58 x212006 x4).f10.f0, (rd_T58 x212006 x4).f10.f1⟩ : S36)⟩ : S58)]) (wrap64 (x4 + 1)) x212000 x212001 x212002 x212003 x212004 x212005 x212006 x212007 x212008 x212009 x212010) else (none)))) else (none)) else ((some (([] : List (S79)) : List (S79))).bind fun y233 => (if y233.length + x212009.length < 3518437208883 then (some (x212000, x212001, x212002, x212003, x212004, x212005, x3, x212007, x212008, (y233 ++ x212009), x212010)) else (none)))
def spec_l21Copy.f (k : Nat) (a0_0 : Bool) (l0_1 : List (S61)) (a0_2 : Int) (l0_3 : List (S61)) (a0_4 : Int) (a0_5 : ByteArray) (l0_6 : List (S58)) (a0_7 : Int) (a0_8 : Int) (l0_9 : List (S79)) (a0_10 : Bool) : Option (Bool × (List (S61)) × Int × (List (S61)) × Int × ByteArray × (List (S58)) × Int × Int × (List (S79)) × Bool) := (spec_l21Fields.f l0_1).bind fun t213 => ((spec_l21Fields.f l0_3).bind fun t216 => (spec_l21Copy.l0 k (([] : List (S58))) 0 a0_0 t213 a0_2 t216 a0_4 a0_5 l0_6 a0_7 a0_8 l0_9 a0_10))
theorem spec_l21Copy.mono_l : ∀ k, (∀ y0 y1 y2 y3 y4 y5 y6 y7 y8 y9 y10 y11 y12, LeO (spec_l21Copy.l0 k y0 y1 y2 y3 y4 y5 y6 y7 y8 y9 y10 y11 y12) (spec_l21Copy.l0 (k + 1) y0 y1 y2 y3 y4 y5 y6 y7 y8 y9 y10 y11 y12))
 | 0 => fun _ _ _ _ _ _ _ _ _ _ _ _ _ r h => by simp [spec_l21Copy.l0] at h
 | k + 1 => by
  have ih0 := spec_l21Copy.mono_l k
  ·intro y0 y1 y2 y3 y4 y5 y6 y7 y8 y9 y10 y11 y12
   unfold spec_l21Copy.l0
   exact zm
theorem spec_l21Copy.mono : ∀ a0 a1 a2 a3 a4 a5 a6 a7 a8 a9 a10 k, LeO (spec_l21Copy.f k a0 a1 a2 a3 a4 a5 a6 a7 a8 a9 a10) (spec_l21Copy.f (k + 1) a0 a1 a2 a3 a4 a5 a6 a7 a8 a9 a10) := by
 intro a0 a1 a2 a3 a4 a5 a6 a7 a8 a9 a10 k
 have ih0 := spec_l21Copy.mono_l k
 unfold spec_l21Copy.f
 exact zm
set_option maxHeartbeats 8000000 in
set_option maxRecDepth 100000 in
theorem spec_l21Copy.calls (k : Nat) (a0_0 : Bool) (A0_1 : Option Addr) (c0_1 : Nat) (l0_1 : List (S61)) (a0_2 : Int) (A0_3 : Option Addr) (c0_3 : Nat) (l0_3 : List (S61)) (a0_4 : Int) (a0_5 : ByteArray) (A0_6 : Option Addr) (c0_6 : Nat) (l0_6 : List (S58)) (a0_7 : Int) (a0_8 : Int) (A0_9 : Option Addr) (c0_9 : Nat) (l0_9 : List (S79)) (a0_10 : Bool) (r1 : Bool) (r2 : List (S61)) (r3 : Int) (r4 : List (S61)) (r5 : Int) (r6 : ByteArray) (r7 : List (S58)) (r8 : Int) (r9 : Int) (r10 : List (S79)) (r11 : Bool) (w : World) (hr0_1 : Kd.C k61 w A0_1 l0_1.length l0_1) (hc0_1 : l0_1.length ≤ c0_1) (hr0_3 : Kd.C k61 w A0_3 l0_3.length l0_3) (hc0_3 : l0_3.length ≤ c0_3) (hr0_6 : Kd.C k58 w A0_6 l0_6.length l0_6) (hc0_6 : l0_6.length ≤ c0_6) (hr0_9 : Kd.C k79 w A0_9 l0_9.length l0_9) (hc0_9 : l0_9.length ≤ c0_9) (h : spec_l21Copy.f k a0_0 l0_1 a0_2 l0_3 a0_4 a0_5 l0_6 a0_7 a0_8 l0_9 a0_10 = some (r1, r2, r3, r4, r5, r6, r7, r8, r9, r10, r11)) :
  Calls Tryd.prog 16 #[.agg #[.bool a0_0, .slice A0_1 l0_1.length c0_1, .int .i64 a0_2, .slice A0_3 l0_3.length c0_3, .int .i64 a0_4, .string a0_5, .slice A0_6 l0_6.length c0_6, .int .i64 a0_7, .int .i64 a0_8, .slice A0_9 l0_9.length c0_9, .bool a0_10]] w fun e w' => ∃ v1_ v3_ v6_ v9_ : Value, e = .returned (.agg #[.bool r1, v1_, .int .i64 r3, v3_, .int .i64 r5, .string r6, v6_, .int .i64 r8, .int .i64 r9, v9_, .bool r11]) ∧ Kd.R k61 61 w' w.heap.size (fun k_ => some k_ ≠ (v3_ : Value).ownBlock) v1_ r2 ∧ Kd.R k61 61 w' w.heap.size (fun k_ => some k_ ≠ (v1_ : Value).ownBlock) v3_ r4 ∧ Kd.S k58 58 w' w.heap.size (fun k_ => some k_ ≠ (v1_ : Value).ownBlock ∧ some k_ ≠ (v3_ : Value).ownBlock) v6_ r7 ∧ Kd.R k79 79 w' w.heap.size (fun _ => True) v9_ r10 ∧ Below w.heap.size w w' := by
 have hu39 := Tryd.underlying39
 have hu58 := Tryd.underlying58
 have HR0_1 := Aside0.mk hr0_1
 have HC0_1 := Aside0.mk hc0_1
 clear hr0_1 hc0_1
 have HR0_3 := Aside0.mk hr0_3
 have HC0_3 := Aside0.mk hc0_3
 clear hr0_3 hc0_3
 have HR0_6 := Aside0.mk hr0_6
 have HC0_6 := Aside0.mk hc0_6
 clear hr0_6 hc0_6
 have HR0_9 := Aside0.mk hr0_9
 have HC0_9 := Aside0.mk hc0_9
 clear hr0_9 hc0_9
 have HB := Aside0.mk (Below.refl w.heap.size w)
 have H : ((spec_l21Fields.f l0_1).bind fun t213 => ((spec_l21Fields.f l0_3).bind fun t216 => (spec_l21Copy.l0 k (([] : List (S58))) 0 a0_0 t213 a0_2 t216 a0_4 a0_5 l0_6 a0_7 a0_8 l0_9 a0_10))) = some (r1, r2, r3, r4, r5, r6, r7, r8, r9, r10, r11) := h
 clear h
 obtain ⟨t213, A2, H⟩ := ob H
 (try dsimp only at H)
 obtain ⟨t216, A3, H⟩ := ob H
 (try dsimp only at H)
 obtain ⟨y219, hy219⟩ : ∃ y_ : List (S58), y_ = (([] : List (S58))) := ⟨_, rfl⟩
 replace H : (spec_l21Copy.l0 k y219 0 a0_0 t213 a0_2 t216 a0_4 a0_5 l0_6 a0_7 a0_8 l0_9 a0_10) = some (r1, r2, r3, r4, r5, r6, r7, r8, r9, r10, r11) := by first | (rw [hy219]; with_reducible exact H) | (have H2_ := (Option.bind_some _ _).symm.trans H; rw [hy219]; with_reducible exact H2_) | (have H2_ := (Option.bind_some _ _).symm.trans H; with_reducible exact H2_) | with_reducible exact H | (rw [hy219]; exact H) | exact H
 have Ny219 := Aside0.mk hy219
 clear hy219
 have H' := Aside0.mk H
 clear H
 go_enter Tryd.func16, Tryd.ntmps16
 go_wp2_with (first | ((with_reducible refine gd 1 rfl ?_); refine bx (N := 1) (cs := #[.bool a0_0, .slice A0_1 l0_1.length c0_1, .int .i64 a0_2, .slice A0_3 l0_3.length c0_3, .int .i64 a0_4, .string a0_5, .slice A0_6 l0_6.length c0_6, .int .i64 a0_7, .int .i64 a0_8, .slice A0_9 l0_9.length c0_9, .bool a0_10]) (t := 39) ?_; intro gb211 hg w4 hbox hb; have BK211 := Aside0.mk (hbox); have GW211 := gw HB hg; have GE211 := GW211; replace HB := Aside0.mk (below_step (zb HB) hb); clear hb hbox hg) | ((with_reducible refine gd 2 rfl ?_); refine bx (N := 2) (cs := #[.bool false, .slice none 0 0, .int .i64 0, .slice none 0 0, .int .i64 0, .string (⟨#[]⟩ : ByteArray), .slice none 0 0, .int .i64 0, .int .i64 0, .slice none 0 0, .bool false]) (t := 39) ?_; intro gb212 hg w5 hbox hb; have BK212 := Aside0.mk (hbox); have GW212 := gw HB hg; have GE212 := GW212; replace HB := Aside0.mk (below_step (zb HB) hb); obtain ⟨NB211_212, NB212_211⟩ := nb BK211 hg; replace BK211 := kb BK211 hb; clear hb hbox hg; have hnb6 := NB211_212.out; have hnc6 := NB212_211.out; obtain ⟨hcz7_0, hcz7_1, hcz7_2, hcz7_3, hcz7_4, hcz7_5, hcz7_6, hcz7_7, hcz7_8, hcz7_9, hcz7_10, hfz7_0, hfz7_1, hfz7_2, hfz7_3, hfz7_4, hfz7_5, hfz7_6, hfz7_7, hfz7_8, hfz7_9, hfz7_10⟩ := c11 BK211) | ((with_reducible refine gq 47 rfl ?_); refine gl (some 9) Tryd.func47 #[.slice A0_1 l0_1.length c0_1] ?_; (with_reducible refine (spec_l21Fields.calls _ _ l0_1 t213 _ ?side1 ?side2 A2.out).mono ?_); (case side1 => exact zc (Kd.C_below HR0_1.out HB.out)); (case side2 => exact HC0_1.out); rintro e w8 ⟨v214, rfl, ho0, hb⟩; refine ⟨_, rfl, ?_⟩; have HO215 := Aside0.mk (Kd.R_lower ho0 (below_size (zb HB))); replace BK211 := kb BK211 hb; replace BK212 := kb BK212 hb; replace HB := Aside0.mk (below_step (zb HB) hb); (try clear hb); (try clear ho0); obtain ⟨Ao9, co9, eo9⟩ := Kd.R_slice HO215.out; subst eo9; obtain ⟨hcz10_0, hcz10_1, hcz10_2, hcz10_3, hcz10_4, hcz10_5, hcz10_6, hcz10_7, hcz10_8, hcz10_9, hcz10_10, hfz10_0, hfz10_1, hfz10_2, hfz10_3, hfz10_4, hfz10_5, hfz10_6, hfz10_7, hfz10_8, hfz10_9, hfz10_10⟩ := c11 BK211) | ((with_reducible refine gq 47 rfl ?_); refine gl (some 15) Tryd.func47 #[.slice A0_3 l0_3.length c0_3] ?_; (with_reducible refine (spec_l21Fields.calls _ _ l0_3 t216 _ ?side1 ?side2 A3.out).mono ?_); (case side1 => exact Kd.C_below HR0_3.out (zb HB)); (case side2 => exact HC0_3.out); rintro e w11 ⟨v217, rfl, ho0, hb⟩; refine ⟨_, rfl, ?_⟩; have HO218 := Aside0.mk (Kd.R_lower (Kd.R_new' ho0 (Kd.R_lt (((Kd.R_mono (ztR (Kd.R_types HO215.out BK211.out (by decide))) (fun _ h_ => h_.1)))))) (below_size (zb HB))); replace HO215 := Aside0.mk (Kd.R_elder' (((Kd.R_mono (ztR (Kd.R_types HO215.out BK211.out (by decide))) (fun _ h_ => h_.1)))) (Kd.R_base ho0) hb); replace BK211 := Aside0.mk (blk_below (g := gb211) (o := .cells #[.bool a0_0, .slice Ao9 t213.length co9, .int .i64 a0_2, .slice A0_3 l0_3.length c0_3, .int .i64 a0_4, .string a0_5, .slice A0_6 l0_6.length c0_6, .int .i64 a0_7, .int .i64 a0_8, .slice A0_9 l0_9.length c0_9, .bool a0_10] 39 (0, 0)) (zp BK211) hb); replace BK212 := Aside0.mk (blk_below (g := gb212) (o := .cells #[.bool false, .slice none 0 0, .int .i64 0, .slice none 0 0, .int .i64 0, .string (⟨#[]⟩ : ByteArray), .slice none 0 0, .int .i64 0, .int .i64 0, .slice none 0 0, .bool false] 39 (0, 0)) (zp BK212) hb); replace HB := Aside0.mk (below_step (zb HB) hb); (try clear hb); (try clear ho0); obtain ⟨Ao12, co12, eo12⟩ := Kd.R_slice HO218.out; subst eo12; obtain ⟨hcz13_0, hcz13_1, hcz13_2, hcz13_3, hcz13_4, hcz13_5, hcz13_6, hcz13_7, hcz13_8, hcz13_9, hcz13_10, hfz13_0, hfz13_1, hfz13_2, hfz13_3, hfz13_4, hfz13_5, hfz13_6, hfz13_7, hfz13_8, hfz13_9, hfz13_10⟩ := c11 BK211) | ((with_reducible refine gd 18 rfl ?_); refine Kd.S_lit k58 _ 58 ?hg (N := 18) ?hd (xs := ([] : List (S58))) (inner := []) (ok := fun _ => True) (okp := fun _ => True) ?hr ?hp (fun _ hk => hk) trivial (Below.refl _ _) (Nat.le_refl _) (by simp) ?_; (case hd => rfl); (case hg => rfl); (case hr => first | (go_simp; done) | (go_simp; rfl)); (case hp => exact (Reps.none _ _)); intro v220 w14 ho15 hb hg_ hnew_; clear hg_ hnew_; (first | rw [← Ny219.out] at ho15 | (simp only [Int.reduceToNat] at ho15; rw [← Ny219.out] at ho15)); have HO221 := Aside0.mk (Kd.S_lower (Kd.S_new' (Kd.S_new' ho15 (Kd.R_lt (((Kd.R_mono (ztR (Kd.R_types HO215.out BK211.out (by decide))) (fun _ h_ => h_.1)))))) (Kd.R_lt (((Kd.R_mono (ztR (Kd.R_types HO218.out BK211.out (by decide))) (fun _ h_ => h_.1)))))) (below_size (zb HB))); replace HO215 := Aside0.mk (Kd.R_below (((Kd.R_mono (ztR (Kd.R_types HO215.out BK211.out (by decide))) (fun _ h_ => h_.1)))) hb); replace HO218 := Aside0.mk (Kd.R_below (((Kd.R_mono (ztR (Kd.R_types HO218.out BK211.out (by decide))) (fun _ h_ => h_.1)))) hb); replace BK211 := Aside0.mk (blk_below (g := gb211) (o := .cells #[.bool a0_0, .slice Ao9 t213.length co9, .int .i64 a0_2, .slice Ao12 t216.length co12, .int .i64 a0_4, .string a0_5, .slice A0_6 l0_6.length c0_6, .int .i64 a0_7, .int .i64 a0_8, .slice A0_9 l0_9.length c0_9, .bool a0_10] 39 (0, 0)) (zp BK211) hb); replace BK212 := Aside0.mk (blk_below (g := gb212) (o := .cells #[.bool false, .slice none 0 0, .int .i64 0, .slice none 0 0, .int .i64 0, .string (⟨#[]⟩ : ByteArray), .slice none 0 0, .int .i64 0, .int .i64 0, .slice none 0 0, .bool false] 39 (0, 0)) (zp BK212) hb); replace HB := Aside0.mk (below_step (zb HB) hb); clear hb ho15))
 go_loopg [3, 4] k (fun kq v3 v4 w' => ∃ (x3_1 : List (S58)) (x4_1 : Int), v4 = .int .i64 x4_1 ∧ Aside0 (spec_l21Copy.l0 kq x3_1 x4_1 a0_0 t213 a0_2 t216 a0_4 a0_5 l0_6 a0_7 a0_8 l0_9 a0_10 = some (r1, r2, r3, r4, r5, r6, r7, r8, r9, r10, r11)) ∧ Aside0 (kq ≤ k) ∧ Aside0 (Kd.S k58 58 w' w.heap.size (fun k_ => some k_ ≠ ((.slice Ao9 t213.length co9) : Value).ownBlock ∧ some k_ ≠ ((.slice Ao12 t216.length co12) : Value).ownBlock) v3 x3_1) ∧ Aside0 (Kd.R k61 61 w' w.heap.size (fun k_ => some k_ ≠ ((.slice Ao12 t216.length co12) : Value).ownBlock) (.slice Ao9 t213.length co9) t213) ∧ Aside0 (Kd.R k61 61 w' w.heap.size (fun k_ => some k_ ≠ ((.slice Ao9 t213.length co9) : Value).ownBlock) (.slice Ao12 t216.length co12) t216) ∧ Aside0 (w'.heap[gb211]? = some (.cells #[.bool a0_0, (.slice Ao9 t213.length co9), .int .i64 a0_2, (.slice Ao12 t216.length co12), .int .i64 a0_4, .string a0_5, (.slice A0_6 l0_6.length c0_6), .int .i64 a0_7, .int .i64 a0_8, (.slice A0_9 l0_9.length c0_9), .bool a0_10] 39 (0, 0))) ∧ Aside0 (w'.heap[gb212]? = some (.cells #[.bool false, (.slice none 0 0), .int .i64 0, (.slice none 0 0), .int .i64 0, .string (⟨#[]⟩ : ByteArray), (.slice none 0 0), .int .i64 0, .int .i64 0, (.slice none 0 0), .bool false] 39 (0, 0))) ∧ Aside0 (Below w.heap.size w w'))
 case atStart => exact ⟨(y219), (0), zs, H', ⟨Nat.le_refl _⟩, ⟨by (with_reducible repeat (first | apply Kd.S_alloc | apply Kd.S_drewN | apply Kd.S_drew)); exact Kd.S_mono HO221.out (fun _ hk => ⟨hk.1.2, hk.2⟩)⟩, ⟨zq (Kd.R_mono HO215.out (fun _ hk => hk.2))⟩, ⟨zq (Kd.R_mono HO218.out (fun _ hk => hk.2))⟩, ⟨by exact zk BK211⟩, ⟨by exact zk BK212⟩, ⟨zb HB⟩⟩
 case round =>
  clear H'
  try clear c1
  try clear p2
  try clear c4
  try clear c6
  try clear hcz10_0
  try clear hcz10_1
  try clear hcz10_10
  try clear hcz10_2
  try clear hcz10_3
  try clear hcz10_4
  try clear hcz10_5
  try clear hcz10_6
  try clear hcz10_7
  try clear hcz10_8
  try clear hcz10_9
  try clear hcz13_0
  try clear hcz13_1
  try clear hcz13_10
  try clear hcz13_2
  try clear hcz13_3
  try clear hcz13_4
  try clear hcz13_5
  try clear hcz13_6
  try clear hcz13_7
  try clear hcz13_8
  try clear hcz13_9
  try clear hcz7_0
  try clear hcz7_1
  try clear hcz7_10
  try clear hcz7_2
  try clear hcz7_3
  try clear hcz7_4
  try clear hcz7_5
  try clear hcz7_6
  try clear hcz7_7
  try clear hcz7_8
  try clear hcz7_9
  try clear hfz10_0
  try clear hfz10_1
  try clear hfz10_10
  try clear hfz10_2
  try clear hfz10_3
  try clear hfz10_4
  try clear hfz10_5
  try clear hfz10_6
  try clear hfz10_7
  try clear hfz10_8
  try clear hfz10_9
  try clear hfz13_0
  try clear hfz13_1
  try clear hfz13_10
  try clear hfz13_2
  try clear hfz13_3
  try clear hfz13_4
  try clear hfz13_5
  try clear hfz13_6
  try clear hfz13_7
  try clear hfz13_8
  try clear hfz13_9
  try clear hfz7_0
  try clear hfz7_1
  try clear hfz7_10
  try clear hfz7_2
  try clear hfz7_3
  try clear hfz7_4
  try clear hfz7_5
  try clear hfz7_6
  try clear hfz7_7
  try clear hfz7_8
  try clear hfz7_9
  obtain ⟨x3_1, x4_1, rfl, HA, HK1, HO_3, HO_212001, HO_212003, BK211, BK212, HB⟩ := hrel
  cases gk with
  | zero => exact absurd HA.out (by simp [spec_l21Copy.l0])
  | succ k1 =>
   have H := HA.out
   clear HA
   simp only [spec_l21Copy.l0] at H
   replace H := sp H
   rcases H with ⟨c16, H⟩ | ⟨c16, H⟩
   ·skip
    have c16b0 := decide_eq_true c16
    clear c16
    by_cases c17 : 0 ≤ x4_1
    ·rw [if_pos c17] at H
     have c17b0 := decide_eq_true c17
     clear c17
     obtain ⟨t224, A18, H⟩ := ob H
     (try dsimp only at H)
     obtain ⟨t227, A19, H⟩ := ob H
     (try dsimp only at H)
     by_cases c20 : x3_1.length < 1034834473200
     ·rw [if_pos c20] at H
      have LMc20 := Aside0.mk c20
      clear c20
      obtain ⟨y230, hy230⟩ : ∃ y_ : List (S58), y_ = (x3_1 ++ [(⟨(rd_T58 l0_6 x4_1).f0, (rd_T58 l0_6 x4_1).f1, t224, (rd_T58 l0_6 x4_1).f3, (rd_T58 l0_6 x4_1).f4, (rd_T58 l0_6 x4_1).f5, (rd_T58 l0_6 x4_1).f6, t227, (rd_T58 l0_6 x4_1).f8, (rd_T58 l0_6 x4_1).f9, (⟨(rd_T58 l0_6 x4_1).f10.f0, (rd_T58 l0_6 x4_1).f10.f1⟩ : S36)⟩ : S58)]) := ⟨_, rfl⟩
      replace H : (spec_l21Copy.l0 k1 y230 (wrap64 (x4_1 + 1)) a0_0 t213 a0_2 t216 a0_4 a0_5 l0_6 a0_7 a0_8 l0_9 a0_10) = some (r1, r2, r3, r4, r5, r6, r7, r8, r9, r10, r11) := by first | (rw [hy230]; with_reducible exact H) | (have H2_ := (Option.bind_some _ _).symm.trans H; rw [hy230]; with_reducible exact H2_) | (have H2_ := (Option.bind_some _ _).symm.trans H; with_reducible exact H2_) | with_reducible exact H | (rw [hy230]; exact H) | exact H
      have Ny230 := Aside0.mk hy230
      clear hy230
      have H' := Aside0.mk H
      clear H
      have hnb21 := NB211_212.out
      have hnc21 := NB212_211.out
      obtain ⟨hcz22_0, hcz22_1, hcz22_2, hcz22_3, hcz22_4, hcz22_5, hcz22_6, hcz22_7, hcz22_8, hcz22_9, hcz22_10, hfz22_0, hfz22_1, hfz22_2, hfz22_3, hfz22_4, hfz22_5, hfz22_6, hfz22_7, hfz22_8, hfz22_9, hfz22_10⟩ := c11 BK211
      have p222 : 0 ≤ (x4_1 : Int) := of_decide_eq_true za
      have q222 : x4_1 < (l0_6.length : Int) := of_decide_eq_true za
      obtain ⟨ad222, A222_2, c222_2, A222_7, c222_7, e222, hx222_0, hx222_1, hx222_2, hx222_3, hx222_4, hx222_5, hx222_6, hx222_7, hx222_8, hx222_9, hx222_10, hx222_11, hl222_2, hi222_2, hl222_7, hi222_7⟩ := at_T58 HR0_6.out x4_1 p222 q222
      cases e222
      replace hx222_0 := cb0 hx222_0 HB
      replace hx222_1 := cb0 hx222_1 HB
      replace hx222_2 := cb0 hx222_2 HB
      replace hx222_3 := cb0 hx222_3 HB
      replace hx222_4 := cb0 hx222_4 HB
      replace hx222_5 := cb0 hx222_5 HB
      replace hx222_6 := cb0 hx222_6 HB
      replace hx222_7 := cb0 hx222_7 HB
      replace hx222_8 := cb0 hx222_8 HB
      replace hx222_9 := cb0 hx222_9 HB
      replace hx222_10 := cb0 hx222_10 HB
      replace hx222_11 := cb0 hx222_11 HB
      have HR222_2 := Aside0.mk hi222_2
      have HC222_2 := Aside0.mk hl222_2
      clear hi222_2 hl222_2
      have HR222_7 := Aside0.mk hi222_7
      have HC222_7 := Aside0.mk hl222_7
      clear hi222_7 hl222_7
      replace p222 := eq_true p222
      replace q222 := eq_true q222
      go_wp2_with (first | ((with_reducible refine gd 5 rfl ?_); refine bx (N := 5) (cs := #[.int .i64 0, .int .i64 0, .slice none 0 0, .string (⟨#[]⟩ : ByteArray), .bool false, .bool false, .int .i64 0, .slice none 0 0, .string (⟨#[]⟩ : ByteArray), .bool false, .int .i64 0, .int .i64 0]) (t := 58) ?_; intro gb223 hg w23 hbox hb; replace HO_3 := Aside0.mk (Kd.S_below (Kd.S_elderB (by (with_reducible repeat (first | apply Kd.S_alloc | apply Kd.S_drewN | apply Kd.S_drew)); exact HO_3.out) gb223 (Nat.le_of_eq hg.symm)) hb); replace HO_212001 := Aside0.mk (Kd.R_below (zr HO_212001) hb); replace HO_212003 := Aside0.mk (Kd.R_below (zr HO_212003) hb); have BK223 := Aside0.mk (hbox); have GW223 := gw HB hg; have GE223 := GW223; replace HB := Aside0.mk (below_step (zb HB) hb); obtain ⟨NB211_223, NB223_211⟩ := nb BK211 hg; replace BK211 := kb BK211 hb; obtain ⟨NB212_223, NB223_212⟩ := nb BK212 hg; replace BK212 := kb BK212 hb; clear hb hbox hg; have hnb24 := NB223_211.out; have hnc24 := NB211_223.out; have hnb25 := NB223_212.out; have hnc25 := NB212_223.out; obtain ⟨hcz26_0, hcz26_1, hcz26_2, hcz26_3, hcz26_4, hcz26_5, hcz26_6, hcz26_7, hcz26_8, hcz26_9, hcz26_10, hcz26_11, hfz26_0, hfz26_1, hfz26_2, hfz26_3, hfz26_4, hfz26_5, hfz26_6, hfz26_7, hfz26_8, hfz26_9, hfz26_10, hfz26_11⟩ := c12 BK223) | ((with_reducible refine gq 47 rfl ?_); refine gl (some 33) Tryd.func47 #[.slice A222_2 ((rd_T58 l0_6 x4_1).f2).length c222_2] ?_; (with_reducible refine (spec_l21Fields.calls _ _ ((rd_T58 l0_6 x4_1).f2) t224 _ ?side1 ?side2 A18.out).mono ?_); (case side1 => exact Kd.C_below HR222_2.out (zb HB)); (case side2 => exact HC222_2.out); rintro e w27 ⟨v225, rfl, ho0, hb⟩; refine ⟨_, rfl, ?_⟩; replace HO_3 := Aside0.mk (Kd.S_elder' (by (with_reducible repeat (first | apply Kd.S_alloc | apply Kd.S_drewN | apply Kd.S_drew)); exact (Kd.S_mono (ztS (Kd.S_mono HO_3.out (fun k_ hk => (⟨hk, hk.2⟩ : _ ∧ k_ ≠ gb223)))) (fun _ h_ => h_.1))) (Kd.R_base ho0) hb); have HO226 := Aside0.mk (Kd.R_lower (Kd.R_new' (Kd.R_new' ho0 (Kd.R_lt (((Kd.R_mono (ztR (Kd.R_types HO_212001.out BK223.out (by decide))) (fun _ h_ => h_.1)))))) (Kd.R_lt (((Kd.R_mono (ztR (Kd.R_types HO_212003.out BK223.out (by decide))) (fun _ h_ => h_.1)))))) (below_size (zb HB))); replace HO_212001 := Aside0.mk (Kd.R_elder' (((Kd.R_mono (ztR (Kd.R_types HO_212001.out BK223.out (by decide))) (fun _ h_ => h_.1)))) (Kd.R_base ho0) hb); replace HO_212003 := Aside0.mk (Kd.R_elder' (((Kd.R_mono (ztR (Kd.R_types HO_212003.out BK223.out (by decide))) (fun _ h_ => h_.1)))) (Kd.R_base ho0) hb); replace BK211 := Aside0.mk (blk_below (g := gb211) (o := .cells #[.bool a0_0, .slice Ao9 t213.length co9, .int .i64 a0_2, .slice Ao12 t216.length co12, .int .i64 a0_4, .string a0_5, .slice (some ad222) l0_6.length c0_6, .int .i64 a0_7, .int .i64 a0_8, .slice A0_9 l0_9.length c0_9, .bool a0_10] 39 (0, 0)) (zp BK211) hb); replace BK212 := Aside0.mk (blk_below (g := gb212) (o := .cells #[.bool false, .slice none 0 0, .int .i64 0, .slice none 0 0, .int .i64 0, .string (⟨#[]⟩ : ByteArray), .slice none 0 0, .int .i64 0, .int .i64 0, .slice none 0 0, .bool false] 39 (0, 0)) (zp BK212) hb); replace BK223 := Aside0.mk (blk_below (g := gb223) (o := .cells #[.int .i64 ((rd_T58 l0_6 x4_1).f0), .int .i64 ((rd_T58 l0_6 x4_1).f1), .slice A222_2 ((rd_T58 l0_6 x4_1).f2).length c222_2, .string ((rd_T58 l0_6 x4_1).f3), .bool ((rd_T58 l0_6 x4_1).f4), .bool ((rd_T58 l0_6 x4_1).f5), .int .i64 ((rd_T58 l0_6 x4_1).f6), .slice A222_7 ((rd_T58 l0_6 x4_1).f7).length c222_7, .string ((rd_T58 l0_6 x4_1).f8), .bool ((rd_T58 l0_6 x4_1).f9), .int .i64 ((rd_T58 l0_6 x4_1).f10.f0), .int .i64 ((rd_T58 l0_6 x4_1).f10.f1)] 58 (0, 0)) (zp BK223) hb); replace HB := Aside0.mk (below_step (zb HB) hb); (try clear hb); (try clear ho0); obtain ⟨Ao28, co28, eo28⟩ := Kd.R_slice HO226.out; subst eo28; obtain ⟨hcz29_0, hcz29_1, hcz29_2, hcz29_3, hcz29_4, hcz29_5, hcz29_6, hcz29_7, hcz29_8, hcz29_9, hcz29_10, hcz29_11, hfz29_0, hfz29_1, hfz29_2, hfz29_3, hfz29_4, hfz29_5, hfz29_6, hfz29_7, hfz29_8, hfz29_9, hfz29_10, hfz29_11⟩ := c12 BK223) | ((with_reducible refine gq 47 rfl ?_); refine gl (some 37) Tryd.func47 #[.slice A222_7 ((rd_T58 l0_6 x4_1).f7).length c222_7] ?_; (with_reducible refine (spec_l21Fields.calls _ _ ((rd_T58 l0_6 x4_1).f7) t227 _ ?side1 ?side2 A19.out).mono ?_); (case side1 => exact Kd.C_below HR222_7.out (zb HB)); (case side2 => exact HC222_7.out); rintro e w30 ⟨v228, rfl, ho0, hb⟩; refine ⟨_, rfl, ?_⟩; replace HO_3 := Aside0.mk (Kd.S_elder' (by (with_reducible repeat (first | apply Kd.S_alloc | apply Kd.S_drewN | apply Kd.S_drew)); exact (Kd.S_mono (ztS (Kd.S_mono HO_3.out (fun k_ hk => (⟨hk, hk.1.2⟩ : _ ∧ k_ ≠ gb223)))) (fun _ h_ => h_.1))) (Kd.R_base ho0) hb); have HO229 := Aside0.mk (Kd.R_lower (Kd.R_new' (Kd.R_new' (Kd.R_new' ho0 (Kd.R_lt (((Kd.R_mono (ztR (Kd.R_types HO_212001.out BK223.out (by decide))) (fun _ h_ => h_.1)))))) (Kd.R_lt (((Kd.R_mono (ztR (Kd.R_types HO_212003.out BK223.out (by decide))) (fun _ h_ => h_.1)))))) (Kd.R_lt (((Kd.R_mono (ztR (Kd.R_types HO226.out BK223.out (by decide))) (fun _ h_ => h_.1)))))) (below_size (zb HB))); replace HO_212001 := Aside0.mk (Kd.R_elder' (((Kd.R_mono (ztR (Kd.R_types HO_212001.out BK223.out (by decide))) (fun _ h_ => h_.1)))) (Kd.R_base ho0) hb); replace HO_212003 := Aside0.mk (Kd.R_elder' (((Kd.R_mono (ztR (Kd.R_types HO_212003.out BK223.out (by decide))) (fun _ h_ => h_.1)))) (Kd.R_base ho0) hb); replace HO226 := Aside0.mk (Kd.R_elder' (((Kd.R_mono (ztR (Kd.R_types HO226.out BK223.out (by decide))) (fun _ h_ => h_.1)))) (Kd.R_base ho0) hb); replace BK211 := Aside0.mk (blk_below (g := gb211) (o := .cells #[.bool a0_0, .slice Ao9 t213.length co9, .int .i64 a0_2, .slice Ao12 t216.length co12, .int .i64 a0_4, .string a0_5, .slice (some ad222) l0_6.length c0_6, .int .i64 a0_7, .int .i64 a0_8, .slice A0_9 l0_9.length c0_9, .bool a0_10] 39 (0, 0)) (zp BK211) hb); replace BK212 := Aside0.mk (blk_below (g := gb212) (o := .cells #[.bool false, .slice none 0 0, .int .i64 0, .slice none 0 0, .int .i64 0, .string (⟨#[]⟩ : ByteArray), .slice none 0 0, .int .i64 0, .int .i64 0, .slice none 0 0, .bool false] 39 (0, 0)) (zp BK212) hb); replace BK223 := Aside0.mk (blk_below (g := gb223) (o := .cells #[.int .i64 ((rd_T58 l0_6 x4_1).f0), .int .i64 ((rd_T58 l0_6 x4_1).f1), .slice Ao28 t224.length co28, .string ((rd_T58 l0_6 x4_1).f3), .bool ((rd_T58 l0_6 x4_1).f4), .bool ((rd_T58 l0_6 x4_1).f5), .int .i64 ((rd_T58 l0_6 x4_1).f6), .slice A222_7 ((rd_T58 l0_6 x4_1).f7).length c222_7, .string ((rd_T58 l0_6 x4_1).f8), .bool ((rd_T58 l0_6 x4_1).f9), .int .i64 ((rd_T58 l0_6 x4_1).f10.f0), .int .i64 ((rd_T58 l0_6 x4_1).f10.f1)] 58 (0, 0)) (zp BK223) hb); replace HB := Aside0.mk (below_step (zb HB) hb); (try clear hb); (try clear ho0); obtain ⟨Ao31, co31, eo31⟩ := Kd.R_slice HO229.out; subst eo31; obtain ⟨hcz32_0, hcz32_1, hcz32_2, hcz32_3, hcz32_4, hcz32_5, hcz32_6, hcz32_7, hcz32_8, hcz32_9, hcz32_10, hcz32_11, hfz32_0, hfz32_1, hfz32_2, hfz32_3, hfz32_4, hfz32_5, hfz32_6, hfz32_7, hfz32_8, hfz32_9, hfz32_10, hfz32_11⟩ := c12 BK223) | ((with_reducible refine gate_store (t := 32) (p := 38) rfl ?_); refine store_event (t := 32) (p := 38) (v := ?vo_w33) (w1 := (w30.setCell ⟨gb223, 7, none⟩ (.slice Ao31 t227.length co31))) ?hg ?ho ?hn ?hr ?_; (case ho => rfl); (case hg => rfl); (case hn => rfl); (case hr => first | (go_simp; done) | (go_simp; rfl)); intro w33 hw; replace HO_3 : Aside0 (Kd.S k58 58 w33 w.heap.size (fun k_ => some k_ ≠ (.slice Ao9 t213.length co9 : Value).ownBlock ∧ some k_ ≠ (.slice Ao12 t216.length co12 : Value).ownBlock ∧ some k_ ≠ (.slice Ao28 t224.length co28 : Value).ownBlock ∧ some k_ ≠ (.slice Ao31 t227.length co31 : Value).ownBlock ∧ k_ ≠ gb223) u3 x3_1) := ⟨(by rw [hw]; exact (by (with_reducible repeat (first | apply Kd.S_alloc | apply Kd.S_drewN | apply Kd.S_drew)); exact Kd.S_mono (ztS (Kd.S_mono HO_3.out (fun k_ hk => (⟨hk, hk.1.1.2⟩ : _ ∧ k_ ≠ gb223)))) (fun _ hk => ⟨hk.1.1.1.1.1, ⟨hk.1.1.1.1.2, ⟨hk.1.1.2, ⟨hk.1.2, hk.1.1.1.2⟩⟩⟩⟩)))⟩; replace HO_212001 : Aside0 (Kd.R k61 61 w33 w.heap.size (fun k_ => some k_ ≠ (.slice Ao12 t216.length co12 : Value).ownBlock ∧ some k_ ≠ (.slice Ao28 t224.length co28 : Value).ownBlock ∧ some k_ ≠ (.slice Ao31 t227.length co31 : Value).ownBlock) (.slice Ao9 t213.length co9) t213) := ⟨(by rw [hw]; exact ((Kd.R_mono (ztR (Kd.R_types HO_212001.out BK223.out (by decide))) (fun _ hk => ⟨hk.1.1.1, ⟨hk.1.1.2, hk.1.2⟩⟩))))⟩; replace HO_212003 : Aside0 (Kd.R k61 61 w33 w.heap.size (fun k_ => some k_ ≠ (.slice Ao9 t213.length co9 : Value).ownBlock ∧ some k_ ≠ (.slice Ao28 t224.length co28 : Value).ownBlock ∧ some k_ ≠ (.slice Ao31 t227.length co31 : Value).ownBlock) (.slice Ao12 t216.length co12) t216) := ⟨(by rw [hw]; exact ((Kd.R_mono (ztR (Kd.R_types HO_212003.out BK223.out (by decide))) (fun _ hk => ⟨hk.1.1.1, ⟨hk.1.1.2, hk.1.2⟩⟩))))⟩; replace HO226 : Aside0 (Kd.R k61 61 w33 w.heap.size (fun k_ => some k_ ≠ (.slice Ao9 t213.length co9 : Value).ownBlock ∧ some k_ ≠ (.slice Ao12 t216.length co12 : Value).ownBlock ∧ some k_ ≠ (.slice Ao31 t227.length co31 : Value).ownBlock) (.slice Ao28 t224.length co28) t224) := ⟨(by rw [hw]; exact ((Kd.R_mono (ztR (Kd.R_types HO226.out BK223.out (by decide))) (fun _ hk => ⟨hk.1.1.1.2, ⟨hk.1.1.2, hk.1.2⟩⟩))))⟩; replace HO229 : Aside0 (Kd.R k61 61 w33 w.heap.size (fun k_ => some k_ ≠ (.slice Ao9 t213.length co9 : Value).ownBlock ∧ some k_ ≠ (.slice Ao12 t216.length co12 : Value).ownBlock ∧ some k_ ≠ (.slice Ao28 t224.length co28 : Value).ownBlock) (.slice Ao31 t227.length co31) t227) := ⟨(by rw [hw]; exact ((Kd.R_mono (ztR (Kd.R_types HO229.out BK223.out (by decide))) (fun _ hk => ⟨hk.1.1.1.2, ⟨hk.1.1.2, hk.1.2⟩⟩))))⟩; replace BK211 : Aside0 (w33.heap[gb211]? = some (.cells #[.bool a0_0, .slice Ao9 t213.length co9, .int .i64 a0_2, .slice Ao12 t216.length co12, .int .i64 a0_4, .string a0_5, .slice (some ad222) l0_6.length c0_6, .int .i64 a0_7, .int .i64 a0_8, .slice A0_9 l0_9.length c0_9, .bool a0_10] 39 (0, 0))) := ⟨(by rw [hw]; exact (zp BK211))⟩; replace BK212 : Aside0 (w33.heap[gb212]? = some (.cells #[.bool false, .slice none 0 0, .int .i64 0, .slice none 0 0, .int .i64 0, .string (⟨#[]⟩ : ByteArray), .slice none 0 0, .int .i64 0, .int .i64 0, .slice none 0 0, .bool false] 39 (0, 0))) := ⟨(by rw [hw]; exact (zp BK212))⟩; replace BK223 : Aside0 (w33.heap[gb223]? = some (.cells #[.int .i64 ((rd_T58 l0_6 x4_1).f0), .int .i64 ((rd_T58 l0_6 x4_1).f1), .slice Ao28 t224.length co28, .string ((rd_T58 l0_6 x4_1).f3), .bool ((rd_T58 l0_6 x4_1).f4), .bool ((rd_T58 l0_6 x4_1).f5), .int .i64 ((rd_T58 l0_6 x4_1).f6), .slice Ao31 t227.length co31, .string ((rd_T58 l0_6 x4_1).f8), .bool ((rd_T58 l0_6 x4_1).f9), .int .i64 ((rd_T58 l0_6 x4_1).f10.f0), .int .i64 ((rd_T58 l0_6 x4_1).f10.f1)] 58 (0, 0))) := ⟨(by rw [hw]; exact (zp BK223))⟩; replace HB : Aside0 (Below w.heap.size w w33) := ⟨(by rw [hw]; exact (zb HB))⟩; clear hw; obtain ⟨hcz34_0, hcz34_1, hcz34_2, hcz34_3, hcz34_4, hcz34_5, hcz34_6, hcz34_7, hcz34_8, hcz34_9, hcz34_10, hcz34_11, hfz34_0, hfz34_1, hfz34_2, hfz34_3, hfz34_4, hfz34_5, hfz34_6, hfz34_7, hfz34_8, hfz34_9, hfz34_10, hfz34_11⟩ := c12 BK223) | ((with_reducible refine gate_builtin (b := .append) (xs := #[.tmp 39, .tmp 41]) rfl ?_); at_builtin; refine Kd.S_append k58 (w0 := w) w.heap.size rfl (.tmp 39) (.tmp 41) 35 58 (.agg #[(.int .i64 0), (.int .i64 0), (.slice none 0 0), (.string ⟨#[]⟩), (.bool false), (.bool false), (.int .i64 0), (.slice none 0 0), (.string ⟨#[]⟩), (.bool false), (.int .i64 0), (.int .i64 0)]) 136 rfl Tryd.underlying35 info58 rfl (by decide) (by omega) u3 x3_1 (⟨(rd_T58 l0_6 x4_1).f0, (rd_T58 l0_6 x4_1).f1, t224, (rd_T58 l0_6 x4_1).f3, (rd_T58 l0_6 x4_1).f4, (rd_T58 l0_6 x4_1).f5, (rd_T58 l0_6 x4_1).f6, t227, (rd_T58 l0_6 x4_1).f8, (rd_T58 l0_6 x4_1).f9, (⟨(rd_T58 l0_6 x4_1).f10.f0, (rd_T58 l0_6 x4_1).f10.f1⟩ : S36)⟩ : S58) [.int .i64 ((rd_T58 l0_6 x4_1).f0), .int .i64 ((rd_T58 l0_6 x4_1).f1), .slice Ao28 t224.length co28, .string ((rd_T58 l0_6 x4_1).f3), .bool ((rd_T58 l0_6 x4_1).f4), .bool ((rd_T58 l0_6 x4_1).f5), .int .i64 ((rd_T58 l0_6 x4_1).f6), .slice Ao31 t227.length co31, .string ((rd_T58 l0_6 x4_1).f8), .bool ((rd_T58 l0_6 x4_1).f9), .int .i64 ((rd_T58 l0_6 x4_1).f10.f0), .int .i64 ((rd_T58 l0_6 x4_1).f10.f1)] (fun k_ => some k_ ≠ (.slice Ao9 t213.length co9 : Value).ownBlock ∧ some k_ ≠ (.slice Ao12 t216.length co12 : Value).ownBlock ∧ k_ ≠ gb223) (fun k_ => some k_ = (.slice Ao28 t224.length co28 : Value).ownBlock ∨ some k_ = (.slice Ao31 t227.length co31 : Value).ownBlock) rfl rfl ?aP (fun k_ hk_ => hk_.elim (fun h_ => ((Kd.R_mono (ok' := fun k_ => ((fun k_ => some k_ ≠ (.slice Ao9 t213.length co9 : Value).ownBlock ∧ some k_ ≠ (.slice Ao12 t216.length co12 : Value).ownBlock ∧ k_ ≠ gb223)) k_ ∧ some k_ ≠ (u3 : Value).ownBlock) (Kd.R_types (Kd.R_apart' (HO226.out) (Kd.S_typed HO_3.out) (by decide)) BK223.out (by decide)) (fun k_ hk => ⟨⟨hk.1.1.1, ⟨hk.1.1.2.1, hk.2⟩⟩, hk.1.2⟩))).1 k_ h_.symm) (fun h_ => ((Kd.R_mono (ok' := fun k_ => ((fun k_ => some k_ ≠ (.slice Ao9 t213.length co9 : Value).ownBlock ∧ some k_ ≠ (.slice Ao12 t216.length co12 : Value).ownBlock ∧ k_ ≠ gb223)) k_ ∧ some k_ ≠ (u3 : Value).ownBlock) (Kd.R_types (Kd.R_apart' (HO229.out) (Kd.S_typed HO_3.out) (by decide)) BK223.out (by decide)) (fun k_ hk => ⟨⟨hk.1.1.1, ⟨hk.1.1.2.1, hk.2⟩⟩, hk.1.2⟩))).1 k_ h_.symm)) ?aF ?aO ?aB ?aS ?aL ?_; (case aP => exact k58_mkM _ _ _ (⟨(rd_T58 l0_6 x4_1).f0, (rd_T58 l0_6 x4_1).f1, t224, (rd_T58 l0_6 x4_1).f3, (rd_T58 l0_6 x4_1).f4, (rd_T58 l0_6 x4_1).f5, (rd_T58 l0_6 x4_1).f6, t227, (rd_T58 l0_6 x4_1).f8, (rd_T58 l0_6 x4_1).f9, (⟨(rd_T58 l0_6 x4_1).f10.f0, (rd_T58 l0_6 x4_1).f10.f1⟩ : S36)⟩ : S58) (Kd.R_mono (Kd.R_tight rfl (Kd.R_mono (ok' := fun k_ => ((fun k_ => some k_ ≠ (.slice Ao9 t213.length co9 : Value).ownBlock ∧ some k_ ≠ (.slice Ao12 t216.length co12 : Value).ownBlock ∧ k_ ≠ gb223)) k_ ∧ some k_ ≠ (u3 : Value).ownBlock) (Kd.R_types (Kd.R_apart' (HO226.out) (Kd.S_typed HO_3.out) (by decide)) BK223.out (by decide)) (fun k_ hk => ⟨⟨hk.1.1.1, ⟨hk.1.1.2.1, hk.2⟩⟩, hk.1.2⟩))) (fun _ h_ => Or.inl h_)) (Kd.R_mono (Kd.R_tight rfl (Kd.R_mono (ok' := fun k_ => ((fun k_ => some k_ ≠ (.slice Ao9 t213.length co9 : Value).ownBlock ∧ some k_ ≠ (.slice Ao12 t216.length co12 : Value).ownBlock ∧ k_ ≠ gb223)) k_ ∧ some k_ ≠ (u3 : Value).ownBlock) (Kd.R_types (Kd.R_apart' (HO229.out) (Kd.S_typed HO_3.out) (by decide)) BK223.out (by decide)) (fun k_ hk => ⟨⟨hk.1.1.1, ⟨hk.1.1.2.1, hk.2⟩⟩, hk.1.2⟩))) (fun _ h_ => Or.inr (h_))) (fun k_ h_ h2_ => by have h3_ := HO226.out.1 k_ h_; have h4_ := HO229.out.1 k_ h2_; first | exact h3_ h2_.symm | exact h3_.1 h2_.symm | exact h3_.2 h2_.symm | exact h3_.1.1 h2_.symm | exact h3_.1.2 h2_.symm | exact h3_.2.1 h2_.symm | exact h3_.2.2 h2_.symm | exact h3_.1.1.1 h2_.symm | exact h3_.1.1.2 h2_.symm | exact h3_.1.2.1 h2_.symm | exact h3_.1.2.2 h2_.symm | exact h3_.2.1.1 h2_.symm | exact h3_.2.1.2 h2_.symm | exact h3_.2.2.1 h2_.symm | exact h3_.2.2.2 h2_.symm | exact h3_.1.1.1.1 h2_.symm | exact h3_.1.1.1.2 h2_.symm | exact h3_.1.1.2.1 h2_.symm | exact h3_.1.1.2.2 h2_.symm | exact h3_.1.2.1.1 h2_.symm | exact h3_.1.2.1.2 h2_.symm | exact h3_.1.2.2.1 h2_.symm | exact h3_.1.2.2.2 h2_.symm | exact h3_.2.1.1.1 h2_.symm | exact h3_.2.1.1.2 h2_.symm | exact h3_.2.1.2.1 h2_.symm | exact h3_.2.1.2.2 h2_.symm | exact h3_.2.2.1.1 h2_.symm | exact h3_.2.2.1.2 h2_.symm | exact h3_.2.2.2.1 h2_.symm | exact h3_.2.2.2.2 h2_.symm | exact h4_ h_.symm | exact h4_.1 h_.symm | exact h4_.2 h_.symm | exact h4_.1.1 h_.symm | exact h4_.1.2 h_.symm | exact h4_.2.1 h_.symm | exact h4_.2.2 h_.symm | exact h4_.1.1.1 h_.symm | exact h4_.1.1.2 h_.symm | exact h4_.1.2.1 h_.symm | exact h4_.1.2.2 h_.symm | exact h4_.2.1.1 h_.symm | exact h4_.2.1.2 h_.symm | exact h4_.2.2.1 h_.symm | exact h4_.2.2.2 h_.symm | exact h4_.1.1.1.1 h_.symm | exact h4_.1.1.1.2 h_.symm | exact h4_.1.1.2.1 h_.symm | exact h4_.1.1.2.2 h_.symm | exact h4_.1.2.1.1 h_.symm | exact h4_.1.2.1.2 h_.symm | exact h4_.1.2.2.1 h_.symm | exact h4_.1.2.2.2 h_.symm | exact h4_.2.1.1.1 h_.symm | exact h4_.2.1.1.2 h_.symm | exact h4_.2.1.2.1 h_.symm | exact h4_.2.1.2.2 h_.symm | exact h4_.2.2.1.1 h_.symm | exact h4_.2.2.1.2 h_.symm | exact h4_.2.2.2.1 h_.symm | exact h4_.2.2.2.2 h_.symm)); (case aB => exact (zb HB)); (case aF => exact (fun k_ hk => ⟨Kd.fresh' (Kd.R_lt (zr HO_212001)) k_ hk, Kd.fresh' (Kd.R_lt (zr HO_212003)) k_ hk, Kd.freshB (zk BK223) k_ hk⟩)); (case aO => exact (by (with_reducible repeat (first | apply Kd.S_alloc | apply Kd.S_drewN | apply Kd.S_drew)); exact Kd.S_mono HO_3.out (fun k_ hk => ⟨⟨hk.1, ⟨hk.2.1, hk.2.2.2.2⟩⟩, fun e_ => e_.elim (fun h_ => hk.2.2.1 h_) (fun h_ => hk.2.2.2.1 h_)⟩))); (case aS => exact (below_size (zb HB))); (case aL => have := LMc20.out; omega); intro v231 w35 ho hb hg hat; rw [← Ny230.out] at ho; replace HO_212001 := Aside0.mk (Kd.R_over' (zr HO_212001) (Kd.S_typed (by (with_reducible repeat (first | apply Kd.S_alloc | apply Kd.S_drewN | apply Kd.S_drew)); exact HO_3.out)) (by decide) hg); replace HO_212003 := Aside0.mk (Kd.R_over' (zr HO_212003) (Kd.S_typed (by (with_reducible repeat (first | apply Kd.S_alloc | apply Kd.S_drewN | apply Kd.S_drew)); exact HO_3.out)) (by decide) hg); replace BK211 := Aside0.mk (blk_grown (zk BK211) hg (Kd.S_ne HO_3.out BK211.out (by decide))); replace BK212 := Aside0.mk (blk_grown (zk BK212) hg (Kd.S_ne HO_3.out BK212.out (by decide))); replace BK223 := Aside0.mk (blk_grown (zk BK223) hg (Kd.S_away HO_3.out (fun _ hk => hk.2.2.2.2))); replace HB := Aside0.mk (hb); have HO232 := Aside0.mk (ho); clear HO_3; clear HO226; clear HO229; clear ho hb hg hat))
      go_roundg k1
      case measure => have := HK1.out; omega
      case rel => exact ⟨(y230), (wrap64 (x4_1 + 1)), zs, H', ⟨by have := HK1.out; omega⟩, ⟨by (with_reducible repeat (first | apply Kd.S_alloc | apply Kd.S_drewN | apply Kd.S_drew)); exact Kd.S_mono HO232.out (fun _ hk => ⟨hk.1, hk.2.1⟩)⟩, ⟨zq (Kd.R_mono HO_212001.out (fun _ hk => hk.1))⟩, ⟨zq (Kd.R_mono HO_212003.out (fun _ hk => hk.1))⟩, ⟨by exact zk BK211⟩, ⟨by exact zk BK212⟩, ⟨zb HB⟩⟩
     ·rw [if_neg c20] at H
      exact absurd H (by simp)
    ·rw [if_neg c17] at H
     exact absurd H (by simp)
   ·skip
    have c16b0 := decide_eq_false c16
    clear c16
    obtain ⟨y233, hy233⟩ : ∃ y_ : List (S79), y_ = (([] : List (S79))) := ⟨_, rfl⟩
    replace H : (if y233.length + l0_9.length < 3518437208883 then (some (a0_0, t213, a0_2, t216, a0_4, a0_5, x3_1, a0_7, a0_8, (y233 ++ l0_9), a0_10)) else (none)) = some (r1, r2, r3, r4, r5, r6, r7, r8, r9, r10, r11) := by first | (rw [hy233]; with_reducible exact H) | (have H2_ := (Option.bind_some _ _).symm.trans H; rw [hy233]; with_reducible exact H2_) | (have H2_ := (Option.bind_some _ _).symm.trans H; with_reducible exact H2_) | with_reducible exact H | (rw [hy233]; exact H) | exact H
    have Ny233 := Aside0.mk hy233
    clear hy233
    replace H := sp H
    rcases H with ⟨c36, H⟩ | ⟨c36, H⟩
    ·skip
     have LMc36 := Aside0.mk c36
     clear c36
     obtain ⟨y236, hy236⟩ : ∃ y_ : List (S79), y_ = (y233 ++ l0_9) := ⟨_, rfl⟩
     replace H : (some (a0_0, t213, a0_2, t216, a0_4, a0_5, x3_1, a0_7, a0_8, y236, a0_10)) = some (r1, r2, r3, r4, r5, r6, r7, r8, r9, r10, r11) := by first | (rw [hy236]; with_reducible exact H) | (have H2_ := (Option.bind_some _ _).symm.trans H; rw [hy236]; with_reducible exact H2_) | (have H2_ := (Option.bind_some _ _).symm.trans H; with_reducible exact H2_) | with_reducible exact H | (rw [hy236]; exact H) | exact H
     have Ny236 := Aside0.mk hy236
     clear hy236
     simp only [Option.some.injEq, Prod.mk.injEq] at H
     obtain ⟨rfl, rfl, rfl, rfl, rfl, rfl, rfl, rfl, rfl, rfl, rfl⟩ := H
     have hnb37 := NB211_212.out
     have hnc37 := NB212_211.out
     obtain ⟨hcz38_0, hcz38_1, hcz38_2, hcz38_3, hcz38_4, hcz38_5, hcz38_6, hcz38_7, hcz38_8, hcz38_9, hcz38_10, hfz38_0, hfz38_1, hfz38_2, hfz38_3, hfz38_4, hfz38_5, hfz38_6, hfz38_7, hfz38_8, hfz38_9, hfz38_10⟩ := c11 BK211
     obtain ⟨Ao39, co39, eo39⟩ := Kd.S_slice HO_3.out
     subst eo39
     go_wp2_with (first | ((with_reducible refine gd 45 rfl ?_); refine Kd.R_lit k79 _ 79 ?hg (N := 45) ?hd (xs := ([] : List (S79))) (inner := []) (ok := fun _ => True) (okp := fun _ => True) ?hr ?hp (fun _ hk => hk) trivial (Below.refl _ _) (Nat.le_refl _) (by simp) ?_; (case hd => rfl); (case hg => rfl); (case hr => first | (go_simp; done) | (go_simp; rfl)); (case hp => exact (Reps.none _ _)); intro v234 w40 ho41 hb hg_ hnew_; clear hg_ hnew_; (first | rw [← Ny233.out] at ho41 | (simp only [Int.reduceToNat] at ho41; rw [← Ny233.out] at ho41)); replace HO_3 := Aside0.mk (Kd.S_below (by (with_reducible repeat (first | apply Kd.S_alloc | apply Kd.S_drewN | apply Kd.S_drew)); exact (Kd.S_mono (ztS (Kd.S_types HO_3.out BK211.out (by decide))) (fun _ h_ => h_.1))) hb); replace HO_212001 := Aside0.mk (Kd.R_below (((Kd.R_mono (ztR (Kd.R_types HO_212001.out BK211.out (by decide))) (fun _ h_ => h_.1)))) hb); replace HO_212003 := Aside0.mk (Kd.R_below (((Kd.R_mono (ztR (Kd.R_types HO_212003.out BK211.out (by decide))) (fun _ h_ => h_.1)))) hb); have HO235 := Aside0.mk (Kd.R_lower ho41 (below_size (zb HB))); replace BK211 := Aside0.mk (blk_below (g := gb211) (o := .cells #[.bool a0_0, .slice Ao9 t213.length co9, .int .i64 a0_2, .slice Ao12 t216.length co12, .int .i64 a0_4, .string a0_5, .slice Ao39 x3_1.length co39, .int .i64 a0_7, .int .i64 a0_8, .slice A0_9 l0_9.length c0_9, .bool a0_10] 39 (0, 0)) (zp BK211) hb); replace BK212 := Aside0.mk (blk_below (g := gb212) (o := .cells #[.bool false, .slice none 0 0, .int .i64 0, .slice none 0 0, .int .i64 0, .string (⟨#[]⟩ : ByteArray), .slice none 0 0, .int .i64 0, .int .i64 0, .slice none 0 0, .bool false] 39 (0, 0)) (zp BK212) hb); replace HB := Aside0.mk (below_step (zb HB) hb); clear hb ho41; obtain ⟨hcz42_0, hcz42_1, hcz42_2, hcz42_3, hcz42_4, hcz42_5, hcz42_6, hcz42_7, hcz42_8, hcz42_9, hcz42_10, hfz42_0, hfz42_1, hfz42_2, hfz42_3, hfz42_4, hfz42_5, hfz42_6, hfz42_7, hfz42_8, hfz42_9, hfz42_10⟩ := c11 BK211) | ((with_reducible refine gate_builtin (b := .append) (xs := #[.tmp 45, .tmp 47]) rfl ?_); at_builtin; refine Kd.R_append_rows k79 (w0 := w) w.heap.size rfl (.tmp 45) (.tmp 47) 37 79 (.agg #[(.int .i64 0), (.bool false), (.int .i64 0), (.string ⟨#[]⟩)]) 40 rfl Tryd.underlying37 info79 rfl (by decide) (by omega) v234 y233 l0_9 _ _ _ (fun _ => True) (fun _ => False) rfl rfl ?aO ?aR (fun _ _ h => h) (fun _ h => h.elim) ?aF ?aB ?aS ?aL ?_; (case aR => exact zc (Kd.C_below HR0_9.out HB.out)); (case aB => exact (zb HB)); (case aF => exact (fun _ _ => trivial)); (case aO => exact (zr HO235)); (case aS => exact (below_size (zb HB))); (case aL => have := LMc36.out; omega); intro v237 w43 ho hb hg hat; rw [← Ny236.out] at ho; replace HO_3 := Aside0.mk (Kd.S_over' (by (with_reducible repeat (first | apply Kd.S_alloc | apply Kd.S_drewN | apply Kd.S_drew)); exact HO_3.out) (Kd.R_typed (zr HO235)) (by decide) hg); replace HO_212001 := Aside0.mk (Kd.R_over' (zr HO_212001) (Kd.R_typed (zr HO235)) (by decide) hg); replace HO_212003 := Aside0.mk (Kd.R_over' (zr HO_212003) (Kd.R_typed (zr HO235)) (by decide) hg); replace BK211 := Aside0.mk (blk_grown (zk BK211) hg (Kd.R_ne HO235.out BK211.out (by decide))); replace BK212 := Aside0.mk (blk_grown (zk BK212) hg (Kd.R_ne HO235.out BK212.out (by decide))); replace HB := Aside0.mk (hb); have HO238 := Aside0.mk (ho); clear HO235; clear ho hb hg hat; obtain ⟨Ao44, co44, eo44⟩ := Kd.R_slice HO238.out; subst eo44; obtain ⟨hcz45_0, hcz45_1, hcz45_2, hcz45_3, hcz45_4, hcz45_5, hcz45_6, hcz45_7, hcz45_8, hcz45_9, hcz45_10, hfz45_0, hfz45_1, hfz45_2, hfz45_3, hfz45_4, hfz45_5, hfz45_6, hfz45_7, hfz45_8, hfz45_9, hfz45_10⟩ := c11 BK211; obtain ⟨hcz46_0, hcz46_1, hcz46_2, hcz46_3, hcz46_4, hcz46_5, hcz46_6, hcz46_7, hcz46_8, hcz46_9, hcz46_10, hfz46_0, hfz46_1, hfz46_2, hfz46_3, hfz46_4, hfz46_5, hfz46_6, hfz46_7, hfz46_8, hfz46_9, hfz46_10⟩ := c11 BK212))
     refine bodyPost_ret (results_cell_row rfl _ _ gb212 39 #[.bool a0_0, .slice Ao9 t213.length co9, .int .i64 a0_2, .slice Ao12 t216.length co12, .int .i64 a0_4, .string a0_5, .slice Ao39 x3_1.length co39, .int .i64 a0_7, .int .i64 a0_8, .slice Ao44 y236.length co44, .bool a0_10] (0, 0) _ rfl (zp BK212) Tryd.underlying39 rfl (by kernel_rfl)) rfl ?_
     exact ⟨_, _, _, _, ze, (Kd.R_mono (ztR (Kd.R_types (Kd.R_types HO_212001.out BK211.out (by decide)) BK212.out (by decide))) (fun _ hk => hk.1.1)), (Kd.R_mono (ztR (Kd.R_types (Kd.R_types HO_212003.out BK211.out (by decide)) BK212.out (by decide))) (fun _ hk => hk.1.1)), by (with_reducible repeat (first | apply Kd.S_alloc | apply Kd.S_drewN | apply Kd.S_drew)); exact Kd.S_mono (ztS (Kd.S_types (Kd.S_types HO_3.out BK211.out (by decide)) BK212.out (by decide))) (fun _ hk => ⟨hk.1.1.1, hk.1.1.2⟩), (Kd.R_mono (ztR (Kd.R_types (Kd.R_types HO238.out BK211.out (by decide)) BK212.out (by decide))) (fun _ hk => trivial)), zb HB⟩
    ·skip
     exact absurd H (by simp)

-- NOT PRINTED: function 5 (spec_EndCall)

/-! ### laws_toField: function 74 -/
-- thin
def laws_toField.f (a0_0 : ByteArray) (a0_1 : ByteArray) (a0_2 : Bool) : Option (ByteArray × ByteArray × Bool) := some (a0_0, a0_1, a0_2)
set_option maxHeartbeats 8000000 in
set_option maxRecDepth 100000 in
theorem laws_toField.calls (a0_0 : ByteArray) (a0_1 : ByteArray) (a0_2 : Bool) (r1 : ByteArray) (r2 : ByteArray) (r3 : Bool) (w : World) (h : laws_toField.f a0_0 a0_1 a0_2 = some (r1, r2, r3)) :
  Calls Tryd.prog 74 #[.agg #[.string a0_0, .string a0_1, .bool a0_2]] w fun e w' => e = .returned (.agg #[.string r1, .string r2, .bool r3]) ∧ Below w.heap.size w w' := by
 have hu96 := Tryd.underlying96
 have hu61 := Tryd.underlying61
 have HB := Aside0.mk (Below.refl w.heap.size w)
 have H : (some (a0_0, a0_1, a0_2)) = some (r1, r2, r3) := h
 clear h
 simp only [Option.some.injEq, Prod.mk.injEq] at H
 obtain ⟨rfl, rfl, rfl⟩ := H
 go_enter Tryd.func74, Tryd.ntmps74
 go_wp2_with (first | ((with_reducible refine gd 1 rfl ?_); refine bx (N := 1) (cs := #[.string a0_0, .string a0_1, .bool a0_2]) (t := 96) ?_; intro gb261 hg w2 hbox hb; have BK261 := Aside0.mk (hbox); have GW261 := gw HB hg; have GE261 := GW261; replace HB := Aside0.mk (below_step (zb HB) hb); clear hb hbox hg) | ((with_reducible refine gd 2 rfl ?_); refine bx (N := 2) (cs := #[.string (⟨#[]⟩ : ByteArray), .string (⟨#[]⟩ : ByteArray), .bool false]) (t := 61) ?_; intro gb262 hg w3 hbox hb; have BK262 := Aside0.mk (hbox); have GW262 := gw HB hg; have GE262 := GW262; replace HB := Aside0.mk (below_step (zb HB) hb); obtain ⟨NB261_262, NB262_261⟩ := nb BK261 hg; replace BK261 := kb BK261 hb; clear hb hbox hg) | ((with_reducible refine gd 3 rfl ?_); refine bx (N := 3) (cs := #[.string (⟨#[]⟩ : ByteArray), .string (⟨#[]⟩ : ByteArray), .bool false]) (t := 61) ?_; intro gb263 hg w4 hbox hb; have BK263 := Aside0.mk (hbox); have GW263 := gw HB hg; have GE263 := GW263; replace HB := Aside0.mk (below_step (zb HB) hb); obtain ⟨NB261_263, NB263_261⟩ := nb BK261 hg; replace BK261 := kb BK261 hb; obtain ⟨NB262_263, NB263_262⟩ := nb BK262 hg; replace BK262 := kb BK262 hb; clear hb hbox hg; have hnb5 := NB261_262.out; have hnc5 := NB262_261.out; have hnb6 := NB261_263.out; have hnc6 := NB263_261.out; obtain ⟨hcz7_0, hcz7_1, hcz7_2, hfz7_0, hfz7_1, hfz7_2⟩ := c3 BK261; have hnb8 := NB263_262.out; have hnc8 := NB262_263.out; obtain ⟨hcz9_0, hcz9_1, hcz9_2, hfz9_0, hfz9_1, hfz9_2⟩ := c3 BK263; obtain ⟨hcz10_0, hcz10_1, hcz10_2, hfz10_0, hfz10_1, hfz10_2⟩ := c3 BK262))
 refine bodyPost_ret (results_cell_row rfl _ _ gb262 61 #[.string a0_0, .string a0_1, .bool a0_2] (0, 0) _ rfl (zp BK262) Tryd.underlying61 rfl (by kernel_rfl)) rfl ?_
 exact ⟨ze, zb HB⟩

/-! ### laws_toFieldS: function 48 -/
-- thin
def laws_toFieldS.l0 : Nat → List (S96) → List (S61) → Int → Option ((List (S61)))
 | 0, _, _, _ => none
 | k + 1, x0, x3, x4 => if x4 < (x0.length : Int) then (if 0 ≤ x4 then ((laws_toField.f ((rd_T96 x0 x4).f0) ((rd_T96 x0 x4).f1) ((rd_T96 x0 x4).f2)).bind fun bt268 => (if x4 < (x3.length : Int) then (laws_toFieldS.l0 k x0 (x3.set (x4 : Int).toNat (⟨bt268.1, bt268.2.1, bt268.2.2⟩ : S61)) (wrap64 (x4 + 1))) else (none))) else (none)) else (some x3)
def laws_toFieldS.f (k : Nat) (l0 : List (S96)) : Option ((List (S61))) := if 0 ≤ (l0.length : Int) then (if ((l0.length : Int) : Int).toNat ≤ 7036874417766 then (laws_toFieldS.l0 k l0 (List.replicate ((l0.length : Int) : Int).toNat z61) 0) else (none)) else (none)
theorem laws_toFieldS.mono_l : ∀ k, (∀ y0 y1 y2, LeO (laws_toFieldS.l0 k y0 y1 y2) (laws_toFieldS.l0 (k + 1) y0 y1 y2))
 | 0 => fun _ _ _ r h => by simp [laws_toFieldS.l0] at h
 | k + 1 => by
  have ih0 := laws_toFieldS.mono_l k
  ·intro y0 y1 y2
   unfold laws_toFieldS.l0
   exact zm
theorem laws_toFieldS.mono : ∀ a0 k, LeO (laws_toFieldS.f k a0) (laws_toFieldS.f (k + 1) a0) := by
 intro a0 k
 have ih0 := laws_toFieldS.mono_l k
 unfold laws_toFieldS.f
 exact zm
set_option maxHeartbeats 8000000 in
set_option maxRecDepth 100000 in
theorem laws_toFieldS.calls (k : Nat) (A0 : Option Addr) (c0 : Nat) (l0 : List (S96)) (r : List (S61)) (w : World) (hr0 : Kd.C k96 w A0 l0.length l0) (hc0 : l0.length ≤ c0) (h : laws_toFieldS.f k l0 = some r) :
  Calls Tryd.prog 48 #[.slice A0 l0.length c0] w fun e w' => ∃ v0_ : Value, e = .returned (v0_) ∧ Kd.R k61 61 w' w.heap.size (fun _ => True) v0_ r ∧ Below w.heap.size w w' := by
 have hu96 := Tryd.underlying96
 have hu61 := Tryd.underlying61
 have HR0 := Aside0.mk hr0
 have HC0 := Aside0.mk hc0
 clear hr0 hc0
 have HB := Aside0.mk (Below.refl w.heap.size w)
 have H : (if 0 ≤ (l0.length : Int) then (if ((l0.length : Int) : Int).toNat ≤ 7036874417766 then (laws_toFieldS.l0 k l0 (List.replicate ((l0.length : Int) : Int).toNat z61) 0) else (none)) else (none)) = some r := h
 clear h
 replace H := sp H
 rcases H with ⟨c2, H⟩ | ⟨c2, H⟩
 ·skip
  have c2b0 := eq_true c2
  have c2b1 := decide_eq_true c2
  clear c2
  by_cases c3 : ((l0.length : Int) : Int).toNat ≤ 7036874417766
  ·rw [if_pos c3] at H
   have c3b0 := eq_true c3
   have c3b1 := decide_eq_true c3
   clear c3
   obtain ⟨y264, hy264⟩ : ∃ y_ : List (S61), y_ = (List.replicate ((l0.length : Int) : Int).toNat z61) := ⟨_, rfl⟩
   replace H : (laws_toFieldS.l0 k l0 y264 0) = some r := by first | (rw [hy264]; with_reducible exact H) | (have H2_ := (Option.bind_some _ _).symm.trans H; rw [hy264]; with_reducible exact H2_) | (have H2_ := (Option.bind_some _ _).symm.trans H; with_reducible exact H2_) | with_reducible exact H | (rw [hy264]; exact H) | exact H
   have Ny264 := Aside0.mk hy264
   clear hy264
   have H' := Aside0.mk H
   clear H
   go_enter Tryd.func48, Tryd.ntmps48
   go_wp2_with (first | ((with_reducible refine gd 7 rfl ?_); refine Kd.R_make k61 _ 61 rfl (N := 7) rfl 32 _ _ rfl (l0.length : Int) rfl rfl Tryd.underlying32 (.agg #[(.string ⟨#[]⟩), (.string ⟨#[]⟩), (.bool false)]) 40 info61 rfl (by decide) (by omega) z61 (ok := fun _ => True) (okp := fun _ => True) (k61_mkM _ _ _ z61 ) (fun _ hk => hk) trivial (of_decide_eq_true za) (Nat.le_trans (Nat.mul_le_mul_right _ (of_decide_eq_true za : (l0.length : Int).toNat ≤ 7036874417766)) (by omega)) (Below.refl _ _) (Nat.le_refl _) ?_; intro v265 w4 ho5 hb hg_ hnew_; clear hg_ hnew_; (first | rw [← Ny264.out] at ho5 | (simp only [Int.reduceToNat] at ho5; rw [← Ny264.out] at ho5)); have HO266 := Aside0.mk (Kd.R_lower ho5 (below_size (zb HB))); replace HB := Aside0.mk (below_step (zb HB) hb); clear hb ho5))
   go_loopg [4] k (fun kq v4 w' => ∃ (x3_1 : List (S61)) (x4_1 : Int), v4 = .int .i64 x4_1 ∧ Aside0 (laws_toFieldS.l0 kq l0 x3_1 x4_1 = some r) ∧ Aside0 (kq ≤ k) ∧ Aside0 (Kd.R k61 61 w' w.heap.size (fun _ => True) v265 x3_1) ∧ Aside0 (Below w.heap.size w w'))
   case atStart => exact ⟨(y264), (0), zs, H', ⟨Nat.le_refl _⟩, ⟨by exact zr HO266⟩, ⟨zb HB⟩⟩
   case round =>
    clear H'
    try clear c2
    try clear c2b0
    try clear c2b1
    try clear p2
    try clear c3
    try clear c3b0
    try clear c3b1
    try clear c4
    obtain ⟨x3_1, x4_1, rfl, HA, HK1, HO_3, HB⟩ := hrel
    cases gk with
    | zero => exact absurd HA.out (by simp [laws_toFieldS.l0])
    | succ k1 =>
     have H := HA.out
     clear HA
     simp only [laws_toFieldS.l0] at H
     by_cases c6 : x4_1 < (l0.length : Int)
     ·rw [if_pos c6] at H
      have c6b0 := decide_eq_true c6
      clear c6
      by_cases c7 : 0 ≤ x4_1
      ·rw [if_pos c7] at H
       have c7b0 := decide_eq_true c7
       clear c7
       obtain ⟨⟨t268, t269, t270⟩, A8, H⟩ := ob H
       (try dsimp only at H)
       by_cases c9 : x4_1 < (x3_1.length : Int)
       ·rw [if_pos c9] at H
        have c9b0 := decide_eq_true c9
        clear c9
        obtain ⟨y271, hy271⟩ : ∃ y_ : List (S61), y_ = (x3_1.set (x4_1 : Int).toNat (⟨t268, t269, t270⟩ : S61)) := ⟨_, rfl⟩
        replace H : (laws_toFieldS.l0 k1 l0 y271 (wrap64 (x4_1 + 1))) = some r := by first | (rw [hy271]; with_reducible exact H) | (have H2_ := (Option.bind_some _ _).symm.trans H; rw [hy271]; with_reducible exact H2_) | (have H2_ := (Option.bind_some _ _).symm.trans H; with_reducible exact H2_) | with_reducible exact H | (rw [hy271]; exact H) | exact H
        have Ny271 := Aside0.mk hy271
        clear hy271
        have H' := Aside0.mk H
        clear H
        have p267 : 0 ≤ (x4_1 : Int) := of_decide_eq_true za
        have q267 : x4_1 < (l0.length : Int) := of_decide_eq_true za
        obtain ⟨ad267, e267, hx267_0, hx267_1, hx267_2⟩ := at_T96 HR0.out x4_1 p267 q267
        cases e267
        replace hx267_0 := cb0 hx267_0 HB
        replace hx267_1 := cb0 hx267_1 HB
        replace hx267_2 := cb0 hx267_2 HB
        replace p267 := eq_true p267
        replace q267 := eq_true q267
        go_wp2_with (first | ((with_reducible refine gq 74 rfl ?_); refine gl (some 20) Tryd.func74 #[.agg #[.string ((rd_T96 l0 x4_1).f0), .string ((rd_T96 l0 x4_1).f1), .bool ((rd_T96 l0 x4_1).f2)]] ?_; (with_reducible refine (laws_toField.calls ((rd_T96 l0 x4_1).f0) ((rd_T96 l0 x4_1).f1) ((rd_T96 l0 x4_1).f2) t268 t269 t270 _ A8.out).mono ?_); rintro e w11 ⟨rfl, hb⟩; refine ⟨_, rfl, ?_⟩; replace HO_3 := Aside0.mk (Kd.R_below (zr HO_3) hb); replace HB := Aside0.mk (below_step (zb HB) hb); (try clear hb); have p10 : 0 ≤ (x4_1 : Int) := of_decide_eq_true za; have q10 : (x4_1 : Int) < ((x3_1.length : Int) : Int) := of_decide_eq_true za; obtain ⟨go10, co10, eo10, gb10, gl10, cl10, HG10⟩ := Kd.R_form HO_3.out (by omega); (first | cases eo10 | (injection eo10 with ea_ en_ ec_; (first | subst ea_ | (injection ea_ with ea_; subst ea_)); subst ec_; clear en_)); have GB10 := Aside0.mk gb10; have GG10 := Aside0.mk HG10; clear gb10 gl10 HG10; obtain ⟨ce10, hcl10, hM10, hcc10, hfr10⟩ := Kd.R_elem HO_3.out z61 (x4_1 : Int) p10 q10; obtain rfl := k61_openM hM10; have hx10_0 : w11.cell? ⟨go10, (x4_1 : Int).toNat * 3, none⟩ = some (.string ((rd_T61 x3_1 x4_1).f0)) := hcc10 0 _ rfl; have hx10_1 : w11.cell? ⟨go10, (x4_1 : Int).toNat * 3 + 1, none⟩ = some (.string ((rd_T61 x3_1 x4_1).f1)) := hcc10 1 _ rfl; have hx10_2 : w11.cell? ⟨go10, (x4_1 : Int).toNat * 3 + 2, none⟩ = some (.bool ((rd_T61 x3_1 x4_1).f2)) := hcc10 2 _ rfl; have hf10_0 : w11.frozen? ⟨go10, (x4_1 : Int).toNat * 3, none⟩ = false := hfr10 0; have hf10_1 : w11.frozen? ⟨go10, (x4_1 : Int).toNat * 3 + 1, none⟩ = false := hfr10 1; have hf10_2 : w11.frozen? ⟨go10, (x4_1 : Int).toNat * 3 + 2, none⟩ = false := hfr10 2; clear hcl10 hcc10 hfr10 hM10; replace p10 := eq_true p10; replace q10 := eq_true q10; have HX12 := Aside0.mk (show Kd.R k61 61 w11 w.heap.size (fun _ => True) (.slice (some ⟨go10, 0, none⟩) x3_1.length co10) x3_1 from (zr HO_3)); obtain ⟨ce12, hcl12, hM12, hcc12, hfr12⟩ := Kd.R_elem HX12.out z61 (x4_1 : Int) (of_decide_eq_true za) (by have h_ : (x4_1 : Int) < ((x3_1.length : Int) : Int) := of_decide_eq_true za; first | exact h_ | (have e_ := (Kd.R_reads' HO_3.out).1; omega) | simpa using h_); obtain rfl := k61_openM hM12; have HP12 := Kd.R_seg HX12.out (x4_1 : Int) (of_decide_eq_true za) (by have h_ : (x4_1 : Int) < ((x3_1.length : Int) : Int) := of_decide_eq_true za; first | exact h_ | (have e_ := (Kd.R_reads' HO_3.out).1; omega) | simpa using h_) (seg := [.string t268, .string t269, .bool t270]) (j := 0) hcl12 hcc12 (show 3 ≤ 3 from by decide) (x' := (⟨t268, t269, t270⟩ : S61)) (k61_mkM _ _ _ (⟨t268, t269, t270⟩ : S61) ) (fun _ hk => hk); have hx12_0 := hcc12 0 _ rfl; (try simp only [show (k61).sz = 3 from rfl, Nat.mul_one, Nat.add_zero] at hx12_0); have hf12_0 := hfr12 0; (try simp only [show (k61).sz = 3 from rfl, Nat.mul_one, Nat.add_zero] at hf12_0); have hx12_1 := hcc12 1 _ rfl; (try simp only [show (k61).sz = 3 from rfl, Nat.mul_one, Nat.add_zero] at hx12_1); have hf12_1 := hfr12 1; (try simp only [show (k61).sz = 3 from rfl, Nat.mul_one, Nat.add_zero] at hf12_1); have hx12_2 := hcc12 2 _ rfl; (try simp only [show (k61).sz = 3 from rfl, Nat.mul_one, Nat.add_zero] at hx12_2); have hf12_2 := hfr12 2; (try simp only [show (k61).sz = 3 from rfl, Nat.mul_one, Nat.add_zero] at hf12_2); clear hcl12 hcc12 hfr12 hM12) | ((with_reducible refine gate_store (t := 61) (p := 21) rfl ?_); refine store_event (t := 61) (p := 21) (v := ?vo_w13) (w1 := (((w11.setCell ⟨go10, (x4_1 : Int).toNat * 3, none⟩ (.string t268)).setCell ⟨go10, (x4_1 : Int).toNat * 3 + 1, none⟩ (.string t269)).setCell ⟨go10, (x4_1 : Int).toNat * 3 + 2, none⟩ (.bool t270))) ?hg ?ho ?hn ?hr ?_; (case ho => rfl); (case hg => rfl); (case hn => rfl); (case hr => first | (go_simp; done) | (go_simp; rfl)); intro w13 hw; have hg : w11.grownBy w13 (some go10) := (by rw [hw]; exact HP12.2); have hp_ : Kd.R k61 61 w13 w.heap.size (fun _ => True) (.slice (some ⟨go10, 0, none⟩) x3_1.length co10) y271 := (by rw [hw, Ny271.out]; exact HP12.1); clear HP12; replace HO_3 := Aside0.mk (hp_); replace HB := Aside0.mk ((by rw [hw]; exact below_set (below_set (below_set (HB.out) GB10.out) GB10.out) GB10.out : Below w.heap.size w w13)); clear hg hw hp_))
        go_roundg k1
        case measure => have := HK1.out; omega
        case rel => exact ⟨(y271), (wrap64 (x4_1 + 1)), zs, H', ⟨by have := HK1.out; omega⟩, ⟨by exact zr HO_3⟩, ⟨zb HB⟩⟩
       ·rw [if_neg c9] at H
        exact absurd H (by simp)
      ·rw [if_neg c7] at H
       exact absurd H (by simp)
     ·rw [if_neg c6] at H
      have c6b0 := decide_eq_false c6
      clear c6
      obtain rfl := Option.some.inj H
      go_wp2
      go_ret
      exact ⟨_, ze, zq (HO_3.out), zb HB⟩
  ·rw [if_neg c3] at H
   exact absurd H (by simp)
 ·skip
  exact absurd H (by simp)

/-! ### laws_toTable: function 17 -/
-- thin
def laws_toTable.f (k : Nat) (l0_0 : List (S96)) (a0_1 : Int) : Option ((List (S61)) × Int) := (laws_toFieldS.f k l0_0).bind fun t275 => (some (t275, a0_1))
theorem laws_toTable.mono : ∀ a0 a1 k, LeO (laws_toTable.f k a0 a1) (laws_toTable.f (k + 1) a0 a1) := by
 intro a0 a1 k
 unfold laws_toTable.f
 have m0 := @laws_toFieldS.mono
 exact zm
set_option maxHeartbeats 8000000 in
set_option maxRecDepth 100000 in
theorem laws_toTable.calls (k : Nat) (A0_0 : Option Addr) (c0_0 : Nat) (l0_0 : List (S96)) (a0_1 : Int) (r1 : List (S61)) (r2 : Int) (w : World) (hr0_0 : Kd.C k96 w A0_0 l0_0.length l0_0) (hc0_0 : l0_0.length ≤ c0_0) (h : laws_toTable.f k l0_0 a0_1 = some (r1, r2)) :
  Calls Tryd.prog 17 #[.agg #[.slice A0_0 l0_0.length c0_0, .int .i64 a0_1]] w fun e w' => ∃ v0_ : Value, e = .returned (.agg #[v0_, .int .i64 r2]) ∧ Kd.R k61 61 w' w.heap.size (fun _ => True) v0_ r1 ∧ Below w.heap.size w w' := by
 have hu24 := Tryd.underlying24
 have hu34 := Tryd.underlying34
 have HR0_0 := Aside0.mk hr0_0
 have HC0_0 := Aside0.mk hc0_0
 clear hr0_0 hc0_0
 have HB := Aside0.mk (Below.refl w.heap.size w)
 have H : ((laws_toFieldS.f k l0_0).bind fun t275 => (some (t275, a0_1))) = some (r1, r2) := h
 clear h
 obtain ⟨t275, A2, H⟩ := ob H
 (try dsimp only at H)
 simp only [Option.some.injEq, Prod.mk.injEq] at H
 obtain ⟨rfl, rfl⟩ := H
 go_enter Tryd.func17, Tryd.ntmps17
 go_wp2_with (first | ((with_reducible refine gd 1 rfl ?_); refine bx (N := 1) (cs := #[.slice A0_0 l0_0.length c0_0, .int .i64 a0_1]) (t := 24) ?_; intro gb272 hg w3 hbox hb; have BK272 := Aside0.mk (hbox); have GW272 := gw HB hg; have GE272 := GW272; replace HB := Aside0.mk (below_step (zb HB) hb); clear hb hbox hg) | ((with_reducible refine gd 2 rfl ?_); refine bx (N := 2) (cs := #[.slice none 0 0, .int .i64 0]) (t := 34) ?_; intro gb273 hg w4 hbox hb; have BK273 := Aside0.mk (hbox); have GW273 := gw HB hg; have GE273 := GW273; replace HB := Aside0.mk (below_step (zb HB) hb); obtain ⟨NB272_273, NB273_272⟩ := nb BK272 hg; replace BK272 := kb BK272 hb; clear hb hbox hg) | ((with_reducible refine gd 3 rfl ?_); refine bx (N := 3) (cs := #[.slice none 0 0, .int .i64 0]) (t := 34) ?_; intro gb274 hg w5 hbox hb; have BK274 := Aside0.mk (hbox); have GW274 := gw HB hg; have GE274 := GW274; replace HB := Aside0.mk (below_step (zb HB) hb); obtain ⟨NB272_274, NB274_272⟩ := nb BK272 hg; replace BK272 := kb BK272 hb; obtain ⟨NB273_274, NB274_273⟩ := nb BK273 hg; replace BK273 := kb BK273 hb; clear hb hbox hg; have hnb6 := NB272_273.out; have hnc6 := NB273_272.out; have hnb7 := NB272_274.out; have hnc7 := NB274_272.out; obtain ⟨hcz8_0, hcz8_1, hfz8_0, hfz8_1⟩ := c2 BK272) | ((with_reducible refine gq 48 rfl ?_); refine gl (some 6) Tryd.func48 #[.slice A0_0 l0_0.length c0_0] ?_; (with_reducible refine (laws_toFieldS.calls k _ _ l0_0 t275 _ ?side1 ?side2 A2.out).mono ?_); (case side1 => exact zc (Kd.C_below HR0_0.out HB.out)); (case side2 => exact HC0_0.out); rintro e w9 ⟨v276, rfl, ho0, hb⟩; refine ⟨_, rfl, ?_⟩; have HO277 := Aside0.mk (Kd.R_lower ho0 (below_size (zb HB))); replace BK272 := kb BK272 hb; replace BK273 := kb BK273 hb; replace BK274 := kb BK274 hb; replace HB := Aside0.mk (below_step (zb HB) hb); (try clear hb); (try clear ho0); obtain ⟨Ao10, co10, eo10⟩ := Kd.R_slice HO277.out; subst eo10; have hnb11 := NB274_273.out; have hnc11 := NB273_274.out; obtain ⟨hcz12_0, hcz12_1, hfz12_0, hfz12_1⟩ := c2 BK274; obtain ⟨hcz13_0, hcz13_1, hfz13_0, hfz13_1⟩ := c2 BK272; obtain ⟨hcz14_0, hcz14_1, hfz14_0, hfz14_1⟩ := c2 BK273))
 refine bodyPost_ret (results_cell_row rfl _ _ gb273 34 #[.slice Ao10 t275.length co10, .int .i64 a0_1] (0, 0) _ rfl (zp BK273) Tryd.underlying34 rfl (by kernel_rfl)) rfl ?_
 exact ⟨_, ze, (Kd.R_mono (ztR (Kd.R_types (Kd.R_types HO277.out BK274.out (by decide)) BK273.out (by decide))) (fun _ hk => trivial)), zb HB⟩

/-! ### laws_toFlow: function 19 -/
-- thin
def laws_toFlow.f (a0_0 : Int) (a0_1 : Int) : Option (Int × Int) := some (a0_0, a0_1)
set_option maxHeartbeats 8000000 in
set_option maxRecDepth 100000 in
theorem laws_toFlow.calls (a0_0 : Int) (a0_1 : Int) (r1 : Int) (r2 : Int) (w : World) (h : laws_toFlow.f a0_0 a0_1 = some (r1, r2)) :
  Calls Tryd.prog 19 #[.agg #[.int .i64 a0_0, .int .i64 a0_1]] w fun e w' => e = .returned (.agg #[.int .i64 r1, .int .i64 r2]) ∧ Below w.heap.size w w' := by
 have hu27 := Tryd.underlying27
 have hu36 := Tryd.underlying36
 have HB := Aside0.mk (Below.refl w.heap.size w)
 have H : (some (a0_0, a0_1)) = some (r1, r2) := h
 clear h
 simp only [Option.some.injEq, Prod.mk.injEq] at H
 obtain ⟨rfl, rfl⟩ := H
 go_enter Tryd.func19, Tryd.ntmps19
 go_wp2_with (first | ((with_reducible refine gd 1 rfl ?_); refine bx (N := 1) (cs := #[.int .i64 a0_0, .int .i64 a0_1]) (t := 27) ?_; intro gb278 hg w2 hbox hb; have BK278 := Aside0.mk (hbox); have GW278 := gw HB hg; have GE278 := GW278; replace HB := Aside0.mk (below_step (zb HB) hb); clear hb hbox hg) | ((with_reducible refine gd 2 rfl ?_); refine bx (N := 2) (cs := #[.int .i64 0, .int .i64 0]) (t := 36) ?_; intro gb279 hg w3 hbox hb; have BK279 := Aside0.mk (hbox); have GW279 := gw HB hg; have GE279 := GW279; replace HB := Aside0.mk (below_step (zb HB) hb); obtain ⟨NB278_279, NB279_278⟩ := nb BK278 hg; replace BK278 := kb BK278 hb; clear hb hbox hg) | ((with_reducible refine gd 3 rfl ?_); refine bx (N := 3) (cs := #[.int .i64 0, .int .i64 0]) (t := 36) ?_; intro gb280 hg w4 hbox hb; have BK280 := Aside0.mk (hbox); have GW280 := gw HB hg; have GE280 := GW280; replace HB := Aside0.mk (below_step (zb HB) hb); obtain ⟨NB278_280, NB280_278⟩ := nb BK278 hg; replace BK278 := kb BK278 hb; obtain ⟨NB279_280, NB280_279⟩ := nb BK279 hg; replace BK279 := kb BK279 hb; clear hb hbox hg; have hnb5 := NB278_279.out; have hnc5 := NB279_278.out; have hnb6 := NB278_280.out; have hnc6 := NB280_278.out; obtain ⟨hcz7_0, hcz7_1, hfz7_0, hfz7_1⟩ := c2 BK278; have hnb8 := NB280_279.out; have hnc8 := NB279_280.out; obtain ⟨hcz9_0, hcz9_1, hfz9_0, hfz9_1⟩ := c2 BK280; obtain ⟨hcz10_0, hcz10_1, hfz10_0, hfz10_1⟩ := c2 BK279))
 refine bodyPost_ret (results_cell_row rfl _ _ gb279 36 #[.int .i64 a0_0, .int .i64 a0_1] (0, 0) _ rfl (zp BK279) Tryd.underlying36 rfl (by kernel_rfl)) rfl ?_
 exact ⟨ze, zb HB⟩

/-! ### laws_toStream: function 49 -/
-- thin
def laws_toStream.f (k : Nat) (a0_0 : Int) (a0_1 : Int) (l0_2 : List (S96)) (a0_3 : ByteArray) (a0_4 : Bool) (a0_5 : Bool) (a0_6 : Int) (l0_7 : List (S96)) (a0_8 : ByteArray) (a0_9 : Bool) (a0_10 : Int) (a0_11 : Int) : Option (Int × Int × (List (S61)) × ByteArray × Bool × Bool × Int × (List (S61)) × ByteArray × Bool × Int × Int) := (laws_toFieldS.f k l0_2).bind fun t284 => ((laws_toFieldS.f k l0_7).bind fun t287 => ((laws_toFlow.f a0_10 a0_11).bind fun bt290 => (some (a0_0, a0_1, t284, a0_3, a0_4, a0_5, a0_6, t287, a0_8, a0_9, bt290.1, bt290.2))))
theorem laws_toStream.mono : ∀ a0 a1 a2 a3 a4 a5 a6 a7 a8 a9 a10 a11 k, LeO (laws_toStream.f k a0 a1 a2 a3 a4 a5 a6 a7 a8 a9 a10 a11) (laws_toStream.f (k + 1) a0 a1 a2 a3 a4 a5 a6 a7 a8 a9 a10 a11) := by
 intro a0 a1 a2 a3 a4 a5 a6 a7 a8 a9 a10 a11 k
 unfold laws_toStream.f
 have m0 := @laws_toFieldS.mono
 exact zm
set_option maxHeartbeats 8000000 in
set_option maxRecDepth 100000 in
theorem laws_toStream.calls (k : Nat) (a0_0 : Int) (a0_1 : Int) (A0_2 : Option Addr) (c0_2 : Nat) (l0_2 : List (S96)) (a0_3 : ByteArray) (a0_4 : Bool) (a0_5 : Bool) (a0_6 : Int) (A0_7 : Option Addr) (c0_7 : Nat) (l0_7 : List (S96)) (a0_8 : ByteArray) (a0_9 : Bool) (a0_10 : Int) (a0_11 : Int) (r1 : Int) (r2 : Int) (r3 : List (S61)) (r4 : ByteArray) (r5 : Bool) (r6 : Bool) (r7 : Int) (r8 : List (S61)) (r9 : ByteArray) (r10 : Bool) (r11 : Int) (r12 : Int) (w : World) (hr0_2 : Kd.C k96 w A0_2 l0_2.length l0_2) (hc0_2 : l0_2.length ≤ c0_2) (hr0_7 : Kd.C k96 w A0_7 l0_7.length l0_7) (hc0_7 : l0_7.length ≤ c0_7) (h : laws_toStream.f k a0_0 a0_1 l0_2 a0_3 a0_4 a0_5 a0_6 l0_7 a0_8 a0_9 a0_10 a0_11 = some (r1, r2, r3, r4, r5, r6, r7, r8, r9, r10, r11, r12)) :
  Calls Tryd.prog 49 #[.agg #[.int .i64 a0_0, .int .i64 a0_1, .slice A0_2 l0_2.length c0_2, .string a0_3, .bool a0_4, .bool a0_5, .int .i64 a0_6, .slice A0_7 l0_7.length c0_7, .string a0_8, .bool a0_9, .int .i64 a0_10, .int .i64 a0_11]] w fun e w' => ∃ v2_ v7_ : Value, e = .returned (.agg #[.int .i64 r1, .int .i64 r2, v2_, .string r4, .bool r5, .bool r6, .int .i64 r7, v7_, .string r9, .bool r10, .int .i64 r11, .int .i64 r12]) ∧ Kd.R k61 61 w' w.heap.size (fun k_ => some k_ ≠ (v7_ : Value).ownBlock) v2_ r3 ∧ Kd.R k61 61 w' w.heap.size (fun k_ => some k_ ≠ (v2_ : Value).ownBlock) v7_ r8 ∧ Below w.heap.size w w' := by
 have hu73 := Tryd.underlying73
 have hu58 := Tryd.underlying58
 have hu27 := Tryd.underlying27
 have hu36 := Tryd.underlying36
 have HR0_2 := Aside0.mk hr0_2
 have HC0_2 := Aside0.mk hc0_2
 clear hr0_2 hc0_2
 have HR0_7 := Aside0.mk hr0_7
 have HC0_7 := Aside0.mk hc0_7
 clear hr0_7 hc0_7
 have HB := Aside0.mk (Below.refl w.heap.size w)
 have H : ((laws_toFieldS.f k l0_2).bind fun t284 => ((laws_toFieldS.f k l0_7).bind fun t287 => ((laws_toFlow.f a0_10 a0_11).bind fun bt290 => (some (a0_0, a0_1, t284, a0_3, a0_4, a0_5, a0_6, t287, a0_8, a0_9, bt290.1, bt290.2))))) = some (r1, r2, r3, r4, r5, r6, r7, r8, r9, r10, r11, r12) := h
 clear h
 obtain ⟨t284, A2, H⟩ := ob H
 (try dsimp only at H)
 obtain ⟨t287, A3, H⟩ := ob H
 (try dsimp only at H)
 obtain ⟨⟨t290, t291⟩, A4, H⟩ := ob H
 (try dsimp only at H)
 simp only [Option.some.injEq, Prod.mk.injEq] at H
 obtain ⟨rfl, rfl, rfl, rfl, rfl, rfl, rfl, rfl, rfl, rfl, rfl, rfl⟩ := H
 go_enter Tryd.func49, Tryd.ntmps49
 go_wp2_with (first | ((with_reducible refine gd 1 rfl ?_); refine bx (N := 1) (cs := #[.int .i64 a0_0, .int .i64 a0_1, .slice A0_2 l0_2.length c0_2, .string a0_3, .bool a0_4, .bool a0_5, .int .i64 a0_6, .slice A0_7 l0_7.length c0_7, .string a0_8, .bool a0_9, .int .i64 a0_10, .int .i64 a0_11]) (t := 73) ?_; intro gb281 hg w5 hbox hb; have BK281 := Aside0.mk (hbox); have GW281 := gw HB hg; have GE281 := GW281; replace HB := Aside0.mk (below_step (zb HB) hb); clear hb hbox hg) | ((with_reducible refine gd 2 rfl ?_); refine bx (N := 2) (cs := #[.int .i64 0, .int .i64 0, .slice none 0 0, .string (⟨#[]⟩ : ByteArray), .bool false, .bool false, .int .i64 0, .slice none 0 0, .string (⟨#[]⟩ : ByteArray), .bool false, .int .i64 0, .int .i64 0]) (t := 58) ?_; intro gb282 hg w6 hbox hb; have BK282 := Aside0.mk (hbox); have GW282 := gw HB hg; have GE282 := GW282; replace HB := Aside0.mk (below_step (zb HB) hb); obtain ⟨NB281_282, NB282_281⟩ := nb BK281 hg; replace BK281 := kb BK281 hb; clear hb hbox hg) | ((with_reducible refine gd 3 rfl ?_); refine bx (N := 3) (cs := #[.int .i64 0, .int .i64 0, .slice none 0 0, .string (⟨#[]⟩ : ByteArray), .bool false, .bool false, .int .i64 0, .slice none 0 0, .string (⟨#[]⟩ : ByteArray), .bool false, .int .i64 0, .int .i64 0]) (t := 58) ?_; intro gb283 hg w7 hbox hb; have BK283 := Aside0.mk (hbox); have GW283 := gw HB hg; have GE283 := GW283; replace HB := Aside0.mk (below_step (zb HB) hb); obtain ⟨NB281_283, NB283_281⟩ := nb BK281 hg; replace BK281 := kb BK281 hb; obtain ⟨NB282_283, NB283_282⟩ := nb BK282 hg; replace BK282 := kb BK282 hb; clear hb hbox hg; have hnb8 := NB281_282.out; have hnc8 := NB282_281.out; have hnb9 := NB281_283.out; have hnc9 := NB283_281.out; obtain ⟨hcz10_0, hcz10_1, hcz10_2, hcz10_3, hcz10_4, hcz10_5, hcz10_6, hcz10_7, hcz10_8, hcz10_9, hcz10_10, hcz10_11, hfz10_0, hfz10_1, hfz10_2, hfz10_3, hfz10_4, hfz10_5, hfz10_6, hfz10_7, hfz10_8, hfz10_9, hfz10_10, hfz10_11⟩ := c12 BK281; have hnb11 := NB283_282.out; have hnc11 := NB282_283.out; obtain ⟨hcz12_0, hcz12_1, hcz12_2, hcz12_3, hcz12_4, hcz12_5, hcz12_6, hcz12_7, hcz12_8, hcz12_9, hcz12_10, hcz12_11, hfz12_0, hfz12_1, hfz12_2, hfz12_3, hfz12_4, hfz12_5, hfz12_6, hfz12_7, hfz12_8, hfz12_9, hfz12_10, hfz12_11⟩ := c12 BK283) | ((with_reducible refine gq 48 rfl ?_); refine gl (some 12) Tryd.func48 #[.slice A0_2 l0_2.length c0_2] ?_; (with_reducible refine (laws_toFieldS.calls k _ _ l0_2 t284 _ ?side1 ?side2 A2.out).mono ?_); (case side1 => exact Kd.C_below HR0_2.out (zb HB)); (case side2 => exact HC0_2.out); rintro e w13 ⟨v285, rfl, ho0, hb⟩; refine ⟨_, rfl, ?_⟩; have HO286 := Aside0.mk (Kd.R_lower ho0 (below_size (zb HB))); replace BK281 := Aside0.mk (blk_below (g := gb281) (o := .cells #[.int .i64 a0_0, .int .i64 a0_1, .slice A0_2 l0_2.length c0_2, .string a0_3, .bool a0_4, .bool a0_5, .int .i64 a0_6, .slice A0_7 l0_7.length c0_7, .string a0_8, .bool a0_9, .int .i64 a0_10, .int .i64 a0_11] 73 (0, 0)) (zp BK281) hb); replace BK282 := Aside0.mk (blk_below (g := gb282) (o := .cells #[.int .i64 0, .int .i64 0, .slice none 0 0, .string (⟨#[]⟩ : ByteArray), .bool false, .bool false, .int .i64 0, .slice none 0 0, .string (⟨#[]⟩ : ByteArray), .bool false, .int .i64 0, .int .i64 0] 58 (0, 0)) (zp BK282) hb); replace BK283 := Aside0.mk (blk_below (g := gb283) (o := .cells #[.int .i64 a0_0, .int .i64 a0_1, .slice none 0 0, .string (⟨#[]⟩ : ByteArray), .bool false, .bool false, .int .i64 0, .slice none 0 0, .string (⟨#[]⟩ : ByteArray), .bool false, .int .i64 0, .int .i64 0] 58 (0, 0)) (zp BK283) hb); replace HB := Aside0.mk (below_step (zb HB) hb); (try clear hb); (try clear ho0); obtain ⟨Ao14, co14, eo14⟩ := Kd.R_slice HO286.out; subst eo14; obtain ⟨hcz15_0, hcz15_1, hcz15_2, hcz15_3, hcz15_4, hcz15_5, hcz15_6, hcz15_7, hcz15_8, hcz15_9, hcz15_10, hcz15_11, hfz15_0, hfz15_1, hfz15_2, hfz15_3, hfz15_4, hfz15_5, hfz15_6, hfz15_7, hfz15_8, hfz15_9, hfz15_10, hfz15_11⟩ := c12 BK283; obtain ⟨hcz16_0, hcz16_1, hcz16_2, hcz16_3, hcz16_4, hcz16_5, hcz16_6, hcz16_7, hcz16_8, hcz16_9, hcz16_10, hcz16_11, hfz16_0, hfz16_1, hfz16_2, hfz16_3, hfz16_4, hfz16_5, hfz16_6, hfz16_7, hfz16_8, hfz16_9, hfz16_10, hfz16_11⟩ := c12 BK281) | ((with_reducible refine gq 48 rfl ?_); refine gl (some 28) Tryd.func48 #[.slice A0_7 l0_7.length c0_7] ?_; (with_reducible refine (laws_toFieldS.calls k _ _ l0_7 t287 _ ?side1 ?side2 A3.out).mono ?_); (case side1 => exact Kd.C_below HR0_7.out (zb HB)); (case side2 => exact HC0_7.out); rintro e w17 ⟨v288, rfl, ho0, hb⟩; refine ⟨_, rfl, ?_⟩; have HO289 := Aside0.mk (Kd.R_lower (Kd.R_new' ho0 (Kd.R_lt (((Kd.R_mono (ztR (Kd.R_types HO286.out BK283.out (by decide))) (fun _ h_ => h_.1)))))) (below_size (zb HB))); replace HO286 := Aside0.mk (Kd.R_elder' (((Kd.R_mono (ztR (Kd.R_types HO286.out BK283.out (by decide))) (fun _ h_ => h_.1)))) (Kd.R_base ho0) hb); replace BK281 := Aside0.mk (blk_below (g := gb281) (o := .cells #[.int .i64 a0_0, .int .i64 a0_1, .slice A0_2 l0_2.length c0_2, .string a0_3, .bool a0_4, .bool a0_5, .int .i64 a0_6, .slice A0_7 l0_7.length c0_7, .string a0_8, .bool a0_9, .int .i64 a0_10, .int .i64 a0_11] 73 (0, 0)) (zp BK281) hb); replace BK282 := Aside0.mk (blk_below (g := gb282) (o := .cells #[.int .i64 0, .int .i64 0, .slice none 0 0, .string (⟨#[]⟩ : ByteArray), .bool false, .bool false, .int .i64 0, .slice none 0 0, .string (⟨#[]⟩ : ByteArray), .bool false, .int .i64 0, .int .i64 0] 58 (0, 0)) (zp BK282) hb); replace BK283 := Aside0.mk (blk_below (g := gb283) (o := .cells #[.int .i64 a0_0, .int .i64 a0_1, .slice Ao14 t284.length co14, .string a0_3, .bool a0_4, .bool a0_5, .int .i64 a0_6, .slice none 0 0, .string (⟨#[]⟩ : ByteArray), .bool false, .int .i64 0, .int .i64 0] 58 (0, 0)) (zp BK283) hb); replace HB := Aside0.mk (below_step (zb HB) hb); (try clear hb); (try clear ho0); obtain ⟨Ao18, co18, eo18⟩ := Kd.R_slice HO289.out; subst eo18; obtain ⟨hcz19_0, hcz19_1, hcz19_2, hcz19_3, hcz19_4, hcz19_5, hcz19_6, hcz19_7, hcz19_8, hcz19_9, hcz19_10, hcz19_11, hfz19_0, hfz19_1, hfz19_2, hfz19_3, hfz19_4, hfz19_5, hfz19_6, hfz19_7, hfz19_8, hfz19_9, hfz19_10, hfz19_11⟩ := c12 BK283; obtain ⟨hcz20_0, hcz20_1, hcz20_2, hcz20_3, hcz20_4, hcz20_5, hcz20_6, hcz20_7, hcz20_8, hcz20_9, hcz20_10, hcz20_11, hfz20_0, hfz20_1, hfz20_2, hfz20_3, hfz20_4, hfz20_5, hfz20_6, hfz20_7, hfz20_8, hfz20_9, hfz20_10, hfz20_11⟩ := c12 BK281) | ((with_reducible refine gq 19 rfl ?_); refine gl (some 38) Tryd.func19 #[.agg #[.int .i64 a0_10, .int .i64 a0_11]] ?_; (with_reducible refine (laws_toFlow.calls a0_10 a0_11 t290 t291 _ A4.out).mono ?_); rintro e w21 ⟨rfl, hb⟩; refine ⟨_, rfl, ?_⟩; replace HO286 := Aside0.mk (Kd.R_below (((Kd.R_mono (ztR (Kd.R_types HO286.out BK283.out (by decide))) (fun _ h_ => h_.1)))) hb); replace HO289 := Aside0.mk (Kd.R_below (((Kd.R_mono (ztR (Kd.R_types HO289.out BK283.out (by decide))) (fun _ h_ => h_.1)))) hb); replace BK281 := Aside0.mk (blk_below (g := gb281) (o := .cells #[.int .i64 a0_0, .int .i64 a0_1, .slice A0_2 l0_2.length c0_2, .string a0_3, .bool a0_4, .bool a0_5, .int .i64 a0_6, .slice A0_7 l0_7.length c0_7, .string a0_8, .bool a0_9, .int .i64 a0_10, .int .i64 a0_11] 73 (0, 0)) (zp BK281) hb); replace BK282 := Aside0.mk (blk_below (g := gb282) (o := .cells #[.int .i64 0, .int .i64 0, .slice none 0 0, .string (⟨#[]⟩ : ByteArray), .bool false, .bool false, .int .i64 0, .slice none 0 0, .string (⟨#[]⟩ : ByteArray), .bool false, .int .i64 0, .int .i64 0] 58 (0, 0)) (zp BK282) hb); replace BK283 := Aside0.mk (blk_below (g := gb283) (o := .cells #[.int .i64 a0_0, .int .i64 a0_1, .slice Ao14 t284.length co14, .string a0_3, .bool a0_4, .bool a0_5, .int .i64 a0_6, .slice Ao18 t287.length co18, .string a0_8, .bool a0_9, .int .i64 0, .int .i64 0] 58 (0, 0)) (zp BK283) hb); replace HB := Aside0.mk (below_step (zb HB) hb); (try clear hb); obtain ⟨hcz22_0, hcz22_1, hcz22_2, hcz22_3, hcz22_4, hcz22_5, hcz22_6, hcz22_7, hcz22_8, hcz22_9, hcz22_10, hcz22_11, hfz22_0, hfz22_1, hfz22_2, hfz22_3, hfz22_4, hfz22_5, hfz22_6, hfz22_7, hfz22_8, hfz22_9, hfz22_10, hfz22_11⟩ := c12 BK283; obtain ⟨hcz23_0, hcz23_1, hcz23_2, hcz23_3, hcz23_4, hcz23_5, hcz23_6, hcz23_7, hcz23_8, hcz23_9, hcz23_10, hcz23_11, hfz23_0, hfz23_1, hfz23_2, hfz23_3, hfz23_4, hfz23_5, hfz23_6, hfz23_7, hfz23_8, hfz23_9, hfz23_10, hfz23_11⟩ := c12 BK282))
 refine bodyPost_ret (results_cell_row rfl _ _ gb282 58 #[.int .i64 a0_0, .int .i64 a0_1, .slice Ao14 t284.length co14, .string a0_3, .bool a0_4, .bool a0_5, .int .i64 a0_6, .slice Ao18 t287.length co18, .string a0_8, .bool a0_9, .int .i64 t290, .int .i64 t291] (0, 0) _ rfl (zp BK282) Tryd.underlying58 rfl (by kernel_rfl)) rfl ?_
 exact ⟨_, _, ze, (Kd.R_mono (ztR (Kd.R_types (Kd.R_types HO286.out BK283.out (by decide)) BK282.out (by decide))) (fun _ hk => hk.1.1.2)), (Kd.R_mono (ztR (Kd.R_types (Kd.R_types HO289.out BK283.out (by decide)) BK282.out (by decide))) (fun _ hk => hk.1.1.2)), zb HB⟩

/-! ### laws_toStreamS: function 18 -/
-- thin
def laws_toStreamS.l0 : Nat → List (S73) → List (S58) → Int → Option ((List (S58)))
 | 0, _, _, _ => none
 | k + 1, x0, x3, x4 => if x4 < (x0.length : Int) then (if 0 ≤ x4 then ((laws_toStream.f k ((rd_T73 x0 x4).f0) ((rd_T73 x0 x4).f1) ((rd_T73 x0 x4).f2) ((rd_T73 x0 x4).f3) ((rd_T73 x0 x4).f4) ((rd_T73 x0 x4).f5) ((rd_T73 x0 x4).f6) ((rd_T73 x0 x4).f7) ((rd_T73 x0 x4).f8) ((rd_T73 x0 x4).f9) ((rd_T73 x0 x4).f10.f0) ((rd_T73 x0 x4).f10.f1)).bind fun bt296 => (if x4 < (x3.length : Int) then (laws_toStreamS.l0 k x0 (x3.set (x4 : Int).toNat (⟨bt296.1, bt296.2.1, bt296.2.2.1, bt296.2.2.2.1, bt296.2.2.2.2.1, bt296.2.2.2.2.2.1, bt296.2.2.2.2.2.2.1, bt296.2.2.2.2.2.2.2.1, bt296.2.2.2.2.2.2.2.2.1, bt296.2.2.2.2.2.2.2.2.2.1, (⟨bt296.2.2.2.2.2.2.2.2.2.2.1, bt296.2.2.2.2.2.2.2.2.2.2.2⟩ : S36)⟩ : S58)) (wrap64 (x4 + 1))) else (none))) else (none)) else (some x3)
def laws_toStreamS.f (k : Nat) (l0 : List (S73)) : Option ((List (S58))) := if 0 ≤ (l0.length : Int) then (if ((l0.length : Int) : Int).toNat ≤ 2069668946401 then (laws_toStreamS.l0 k l0 (List.replicate ((l0.length : Int) : Int).toNat z58) 0) else (none)) else (none)
theorem laws_toStreamS.mono_l : ∀ k, (∀ y0 y1 y2, LeO (laws_toStreamS.l0 k y0 y1 y2) (laws_toStreamS.l0 (k + 1) y0 y1 y2))
 | 0 => fun _ _ _ r h => by simp [laws_toStreamS.l0] at h
 | k + 1 => by
  have ih0 := laws_toStreamS.mono_l k
  ·intro y0 y1 y2
   unfold laws_toStreamS.l0
   have m0 := @laws_toStream.mono
   exact zm
theorem laws_toStreamS.mono : ∀ a0 k, LeO (laws_toStreamS.f k a0) (laws_toStreamS.f (k + 1) a0) := by
 intro a0 k
 have ih0 := laws_toStreamS.mono_l k
 unfold laws_toStreamS.f
 have m0 := @laws_toStream.mono
 exact zm
set_option maxHeartbeats 8000000 in
set_option maxRecDepth 100000 in
theorem laws_toStreamS.calls (k : Nat) (A0 : Option Addr) (c0 : Nat) (l0 : List (S73)) (r : List (S58)) (w : World) (hr0 : Kd.C k73 w A0 l0.length l0) (hc0 : l0.length ≤ c0) (h : laws_toStreamS.f k l0 = some r) :
  Calls Tryd.prog 18 #[.slice A0 l0.length c0] w fun e w' => ∃ v0_ : Value, e = .returned (v0_) ∧ Kd.S k58 58 w' w.heap.size (fun _ => True) v0_ r ∧ Below w.heap.size w w' := by
 have hu73 := Tryd.underlying73
 have hu58 := Tryd.underlying58
 have HR0 := Aside0.mk hr0
 have HC0 := Aside0.mk hc0
 clear hr0 hc0
 have HB := Aside0.mk (Below.refl w.heap.size w)
 have H : (if 0 ≤ (l0.length : Int) then (if ((l0.length : Int) : Int).toNat ≤ 2069668946401 then (laws_toStreamS.l0 k l0 (List.replicate ((l0.length : Int) : Int).toNat z58) 0) else (none)) else (none)) = some r := h
 clear h
 replace H := sp H
 rcases H with ⟨c2, H⟩ | ⟨c2, H⟩
 ·skip
  have c2b0 := eq_true c2
  have c2b1 := decide_eq_true c2
  clear c2
  by_cases c3 : ((l0.length : Int) : Int).toNat ≤ 2069668946401
  ·rw [if_pos c3] at H
   have c3b0 := eq_true c3
   have c3b1 := decide_eq_true c3
   clear c3
   obtain ⟨y292, hy292⟩ : ∃ y_ : List (S58), y_ = (List.replicate ((l0.length : Int) : Int).toNat z58) := ⟨_, rfl⟩
   replace H : (laws_toStreamS.l0 k l0 y292 0) = some r := by first | (rw [hy292]; with_reducible exact H) | (have H2_ := (Option.bind_some _ _).symm.trans H; rw [hy292]; with_reducible exact H2_) | (have H2_ := (Option.bind_some _ _).symm.trans H; with_reducible exact H2_) | with_reducible exact H | (rw [hy292]; exact H) | exact H
   have Ny292 := Aside0.mk hy292
   clear hy292
   have H' := Aside0.mk H
   clear H
   go_enter Tryd.func18, Tryd.ntmps18
   go_wp2_with (first | ((with_reducible refine gd 7 rfl ?_); refine Kd.S_make k58 _ 58 rfl (N := 7) rfl 35 _ _ rfl (l0.length : Int) rfl rfl Tryd.underlying35 (.agg #[(.int .i64 0), (.int .i64 0), (.slice none 0 0), (.string ⟨#[]⟩), (.bool false), (.bool false), (.int .i64 0), (.slice none 0 0), (.string ⟨#[]⟩), (.bool false), (.int .i64 0), (.int .i64 0)]) 136 info58 rfl (by decide) (by omega) z58 (ok := fun _ => True) (okp := fun _ => True) (k58_mkM _ _ _ z58 (Kd.R_nil _ _ _ _ _) (Kd.R_nil _ _ _ _ _) (fun k_ h_ => by simp [Value.ownBlock] at h_)) (fun _ hk => hk) trivial (of_decide_eq_true za) (Nat.le_trans (Nat.mul_le_mul_right _ (of_decide_eq_true za : (l0.length : Int).toNat ≤ 2069668946401)) (by omega)) (Below.refl _ _) (Nat.le_refl _) ?_; intro v293 w4 ho5 hb hg_ hnew_; clear hg_ hnew_; (first | rw [← Ny292.out] at ho5 | (simp only [Int.reduceToNat] at ho5; rw [← Ny292.out] at ho5)); have HO294 := Aside0.mk (Kd.S_lower ho5 (below_size (zb HB))); replace HB := Aside0.mk (below_step (zb HB) hb); clear hb ho5))
   go_loopg [4] k (fun kq v4 w' => ∃ (x3_1 : List (S58)) (x4_1 : Int), v4 = .int .i64 x4_1 ∧ Aside0 (laws_toStreamS.l0 kq l0 x3_1 x4_1 = some r) ∧ Aside0 (kq ≤ k) ∧ Aside0 (Kd.S k58 58 w' w.heap.size (fun _ => True) v293 x3_1) ∧ Aside0 (Below w.heap.size w w'))
   case atStart => exact ⟨(y292), (0), zs, H', ⟨Nat.le_refl _⟩, ⟨by (with_reducible repeat (first | apply Kd.S_alloc | apply Kd.S_drewN | apply Kd.S_drew)); exact HO294.out⟩, ⟨zb HB⟩⟩
   case round =>
    clear H'
    try clear c1
    try clear c2
    try clear c2b0
    try clear c2b1
    try clear p2
    try clear c3
    try clear c3b0
    try clear c3b1
    obtain ⟨x3_1, x4_1, rfl, HA, HK1, HO_3, HB⟩ := hrel
    cases gk with
    | zero => exact absurd HA.out (by simp [laws_toStreamS.l0])
    | succ k1 =>
     have H := HA.out
     clear HA
     simp only [laws_toStreamS.l0] at H
     by_cases c6 : x4_1 < (l0.length : Int)
     ·rw [if_pos c6] at H
      have c6b0 := decide_eq_true c6
      clear c6
      by_cases c7 : 0 ≤ x4_1
      ·rw [if_pos c7] at H
       have c7b0 := decide_eq_true c7
       clear c7
       obtain ⟨⟨t296, t297, t298, t301, t302, t303, t304, t305, t308, t309, t310, t311⟩, A8, H⟩ := ob H
       (try dsimp only at H)
       by_cases c9 : x4_1 < (x3_1.length : Int)
       ·rw [if_pos c9] at H
        have c9b0 := decide_eq_true c9
        clear c9
        obtain ⟨y312, hy312⟩ : ∃ y_ : List (S58), y_ = (x3_1.set (x4_1 : Int).toNat (⟨t296, t297, t298, t301, t302, t303, t304, t305, t308, t309, (⟨t310, t311⟩ : S36)⟩ : S58)) := ⟨_, rfl⟩
        replace H : (laws_toStreamS.l0 k1 l0 y312 (wrap64 (x4_1 + 1))) = some r := by first | (rw [hy312]; with_reducible exact H) | (have H2_ := (Option.bind_some _ _).symm.trans H; rw [hy312]; with_reducible exact H2_) | (have H2_ := (Option.bind_some _ _).symm.trans H; with_reducible exact H2_) | with_reducible exact H | (rw [hy312]; exact H) | exact H
        have Ny312 := Aside0.mk hy312
        clear hy312
        have H' := Aside0.mk H
        clear H
        have p295 : 0 ≤ (x4_1 : Int) := of_decide_eq_true za
        have q295 : x4_1 < (l0.length : Int) := of_decide_eq_true za
        obtain ⟨ad295, A295_2, c295_2, A295_7, c295_7, e295, hx295_0, hx295_1, hx295_2, hx295_3, hx295_4, hx295_5, hx295_6, hx295_7, hx295_8, hx295_9, hx295_10, hx295_11, hl295_2, hi295_2, hl295_7, hi295_7⟩ := at_T73 HR0.out x4_1 p295 q295
        cases e295
        replace hx295_0 := cb0 hx295_0 HB
        replace hx295_1 := cb0 hx295_1 HB
        replace hx295_2 := cb0 hx295_2 HB
        replace hx295_3 := cb0 hx295_3 HB
        replace hx295_4 := cb0 hx295_4 HB
        replace hx295_5 := cb0 hx295_5 HB
        replace hx295_6 := cb0 hx295_6 HB
        replace hx295_7 := cb0 hx295_7 HB
        replace hx295_8 := cb0 hx295_8 HB
        replace hx295_9 := cb0 hx295_9 HB
        replace hx295_10 := cb0 hx295_10 HB
        replace hx295_11 := cb0 hx295_11 HB
        have HR295_2 := Aside0.mk hi295_2
        have HC295_2 := Aside0.mk hl295_2
        clear hi295_2 hl295_2
        have HR295_7 := Aside0.mk hi295_7
        have HC295_7 := Aside0.mk hl295_7
        clear hi295_7 hl295_7
        replace p295 := eq_true p295
        replace q295 := eq_true q295
        go_wp2_with (first | ((with_reducible refine gq 49 rfl ?_); refine gl (some 20) Tryd.func49 #[.agg #[.int .i64 ((rd_T73 l0 x4_1).f0), .int .i64 ((rd_T73 l0 x4_1).f1), .slice A295_2 ((rd_T73 l0 x4_1).f2).length c295_2, .string ((rd_T73 l0 x4_1).f3), .bool ((rd_T73 l0 x4_1).f4), .bool ((rd_T73 l0 x4_1).f5), .int .i64 ((rd_T73 l0 x4_1).f6), .slice A295_7 ((rd_T73 l0 x4_1).f7).length c295_7, .string ((rd_T73 l0 x4_1).f8), .bool ((rd_T73 l0 x4_1).f9), .int .i64 ((rd_T73 l0 x4_1).f10.f0), .int .i64 ((rd_T73 l0 x4_1).f10.f1)]] ?_; (with_reducible refine (laws_toStream.calls k1 ((rd_T73 l0 x4_1).f0) ((rd_T73 l0 x4_1).f1) _ _ ((rd_T73 l0 x4_1).f2) ((rd_T73 l0 x4_1).f3) ((rd_T73 l0 x4_1).f4) ((rd_T73 l0 x4_1).f5) ((rd_T73 l0 x4_1).f6) _ _ ((rd_T73 l0 x4_1).f7) ((rd_T73 l0 x4_1).f8) ((rd_T73 l0 x4_1).f9) ((rd_T73 l0 x4_1).f10.f0) ((rd_T73 l0 x4_1).f10.f1) t296 t297 t298 t301 t302 t303 t304 t305 t308 t309 t310 t311 _ ?side1 ?side2 ?side3 ?side4 A8.out).mono ?_); (case side1 => exact zc (Kd.C_below HR295_2.out HB.out)); (case side2 => exact HC295_2.out); (case side3 => exact zc (Kd.C_below HR295_7.out HB.out)); (case side4 => exact HC295_7.out); rintro e w11 ⟨v299, v306, rfl, ho0, ho1, hb⟩; refine ⟨_, rfl, ?_⟩; have hs299 := rs ho0; have hs306 := rs ho1; replace HO_3 := Aside0.mk (Kd.S_mono (Kd.S_told (Kd.S_told (Kd.S_old (by (with_reducible repeat (first | apply Kd.S_alloc | apply Kd.S_drewN | apply Kd.S_drew)); exact HO_3.out) hb) (Kd.R_base ho0)) (Kd.R_base ho1)) (fun _ h_ => h_.1)); have HO300 := Aside0.mk (Kd.R_lower ho0 (below_size (zb HB))); have HO307 := Aside0.mk (Kd.R_lower ho1 (below_size (zb HB))); replace HB := Aside0.mk (below_step (zb HB) hb); (try clear hb); (try clear ho0); (try clear ho1); have p10 : 0 ≤ (x4_1 : Int) := of_decide_eq_true za; have q10 : (x4_1 : Int) < ((x3_1.length : Int) : Int) := of_decide_eq_true za; obtain ⟨go10, co10, eo10, gb10, gl10, cl10, HG10⟩ := Kd.S_form HO_3.out (by omega); (first | cases eo10 | (injection eo10 with ea_ en_ ec_; (first | subst ea_ | (injection ea_ with ea_; subst ea_)); subst ec_; clear en_)); have GB10 := Aside0.mk gb10; have GG10 := Aside0.mk HG10; clear gb10 gl10 HG10; obtain ⟨_, ce10, hcl10, hM10, hcc10, hfr10, _, _⟩ := Kd.S_elem HO_3.out z58 (x4_1 : Int) p10 q10; obtain ⟨ve10_2, ve10_7, rfl, ge10_2, ge10_7⟩ := k58_openM hM10; have hx10_0 : w11.cell? ⟨go10, (x4_1 : Int).toNat * 12, none⟩ = some (.int .i64 ((rd_T58 x3_1 x4_1).f0)) := hcc10 0 _ rfl; have hx10_1 : w11.cell? ⟨go10, (x4_1 : Int).toNat * 12 + 1, none⟩ = some (.int .i64 ((rd_T58 x3_1 x4_1).f1)) := hcc10 1 _ rfl; have hx10_2 : w11.cell? ⟨go10, (x4_1 : Int).toNat * 12 + 2, none⟩ = some (ve10_2) := hcc10 2 _ rfl; have hx10_3 : w11.cell? ⟨go10, (x4_1 : Int).toNat * 12 + 3, none⟩ = some (.string ((rd_T58 x3_1 x4_1).f3)) := hcc10 3 _ rfl; have hx10_4 : w11.cell? ⟨go10, (x4_1 : Int).toNat * 12 + 4, none⟩ = some (.bool ((rd_T58 x3_1 x4_1).f4)) := hcc10 4 _ rfl; have hx10_5 : w11.cell? ⟨go10, (x4_1 : Int).toNat * 12 + 5, none⟩ = some (.bool ((rd_T58 x3_1 x4_1).f5)) := hcc10 5 _ rfl; have hx10_6 : w11.cell? ⟨go10, (x4_1 : Int).toNat * 12 + 6, none⟩ = some (.int .i64 ((rd_T58 x3_1 x4_1).f6)) := hcc10 6 _ rfl; have hx10_7 : w11.cell? ⟨go10, (x4_1 : Int).toNat * 12 + 7, none⟩ = some (ve10_7) := hcc10 7 _ rfl; have hx10_8 : w11.cell? ⟨go10, (x4_1 : Int).toNat * 12 + 8, none⟩ = some (.string ((rd_T58 x3_1 x4_1).f8)) := hcc10 8 _ rfl; have hx10_9 : w11.cell? ⟨go10, (x4_1 : Int).toNat * 12 + 9, none⟩ = some (.bool ((rd_T58 x3_1 x4_1).f9)) := hcc10 9 _ rfl; have hx10_10 : w11.cell? ⟨go10, (x4_1 : Int).toNat * 12 + 10, none⟩ = some (.int .i64 ((rd_T58 x3_1 x4_1).f10.f0)) := hcc10 10 _ rfl; have hx10_11 : w11.cell? ⟨go10, (x4_1 : Int).toNat * 12 + 11, none⟩ = some (.int .i64 ((rd_T58 x3_1 x4_1).f10.f1)) := hcc10 11 _ rfl; have hf10_0 : w11.frozen? ⟨go10, (x4_1 : Int).toNat * 12, none⟩ = false := hfr10 0; have hf10_1 : w11.frozen? ⟨go10, (x4_1 : Int).toNat * 12 + 1, none⟩ = false := hfr10 1; have hf10_2 : w11.frozen? ⟨go10, (x4_1 : Int).toNat * 12 + 2, none⟩ = false := hfr10 2; have hf10_3 : w11.frozen? ⟨go10, (x4_1 : Int).toNat * 12 + 3, none⟩ = false := hfr10 3; have hf10_4 : w11.frozen? ⟨go10, (x4_1 : Int).toNat * 12 + 4, none⟩ = false := hfr10 4; have hf10_5 : w11.frozen? ⟨go10, (x4_1 : Int).toNat * 12 + 5, none⟩ = false := hfr10 5; have hf10_6 : w11.frozen? ⟨go10, (x4_1 : Int).toNat * 12 + 6, none⟩ = false := hfr10 6; have hf10_7 : w11.frozen? ⟨go10, (x4_1 : Int).toNat * 12 + 7, none⟩ = false := hfr10 7; have hf10_8 : w11.frozen? ⟨go10, (x4_1 : Int).toNat * 12 + 8, none⟩ = false := hfr10 8; have hf10_9 : w11.frozen? ⟨go10, (x4_1 : Int).toNat * 12 + 9, none⟩ = false := hfr10 9; have hf10_10 : w11.frozen? ⟨go10, (x4_1 : Int).toNat * 12 + 10, none⟩ = false := hfr10 10; have hf10_11 : w11.frozen? ⟨go10, (x4_1 : Int).toNat * 12 + 11, none⟩ = false := hfr10 11; clear hcl10 hcc10 hfr10 hM10; replace p10 := eq_true p10; replace q10 := eq_true q10; have n_ := Aside0.mk (Kd.S_mono (ok' := (fun k_ => some k_ ≠ (v299 : Value).ownBlock ∧ some k_ ≠ (v306 : Value).ownBlock)) HO_3.out (fun k_ hk => ⟨hk.1.2, hk.2⟩)); clear HO_3; have HO_3 := n_; clear n_; have HX12 := Aside0.mk (show Kd.S k58 58 w11 w.heap.size (fun k_ => ((fun _ => True)) k_ ∧ ¬ ((fun k_ => some k_ = (v299 : Value).ownBlock ∨ some k_ = (v306 : Value).ownBlock)) k_) (.slice (some ⟨go10, 0, none⟩) x3_1.length co10) x3_1 from (by (with_reducible repeat (first | apply Kd.S_alloc | apply Kd.S_drewN | apply Kd.S_drew)); exact Kd.S_mono HO_3.out (fun k_ hk => ⟨trivial, fun e_ => e_.elim (fun h_ => hk.1 h_) (fun h_ => hk.2 h_)⟩))); obtain ⟨oki12, ce12, hcl12, hM12, hcc12, hfr12, hoki12, hH12⟩ := Kd.S_elem HX12.out z58 (x4_1 : Int) (of_decide_eq_true za) (by have h_ : (x4_1 : Int) < ((x3_1.length : Int) : Int) := of_decide_eq_true za; first | exact h_ | (have e_ := (Kd.S_reads' HO_3.out).1; omega) | simpa using h_); obtain ⟨ve12_2, ve12_7, rfl, ge12_2, ge12_7⟩ := k58_openM hM12; have HP12 := Kd.S_seg hH12 (of_decide_eq_true za) (by have h_ : (x4_1 : Int) < ((x3_1.length : Int) : Int) := of_decide_eq_true za; first | exact h_ | (have e_ := (Kd.S_reads' HO_3.out).1; omega) | simpa using h_) (seg := [.int .i64 t296, .int .i64 t297, v299, .string t301, .bool t302, .bool t303, .int .i64 t304, v306, .string t308, .bool t309, .int .i64 t310, .int .i64 t311]) (j := 0) (show 12 ≤ 12 from by decide) (x' := (⟨t296, t297, t298, t301, t302, t303, t304, t305, t308, t309, (⟨t310, t311⟩ : S36)⟩ : S58)) (k58_mkM _ _ _ (⟨t296, t297, t298, t301, t302, t303, t304, t305, t308, t309, (⟨t310, t311⟩ : S36)⟩ : S58) (Kd.R_mono (Kd.R_tight rfl (Kd.R_mono (ok' := fun k_ => ((fun _ => True)) k_ ∧ k_ ≠ go10) (Kd.R_apart' (HO300.out) (Kd.S_typed HO_3.out) (by decide)) (fun k_ hk => ⟨trivial, fun e_ => (hk.2) (by rw [e_]; rfl)⟩))) (fun _ h_ => Or.inr (Or.inl h_))) (Kd.R_mono (Kd.R_tight rfl (Kd.R_mono (ok' := fun k_ => ((fun _ => True)) k_ ∧ k_ ≠ go10) (Kd.R_apart' (HO307.out) (Kd.S_typed HO_3.out) (by decide)) (fun k_ hk => ⟨trivial, fun e_ => (hk.2) (by rw [e_]; rfl)⟩))) (fun _ h_ => Or.inr (Or.inr (h_)))) (fun k_ h_ h2_ => HO300.out.1 k_ h_ h2_.symm)) (fun _ hk => hk) (fun k_ hk_ => hk_.elim (fun h_ => ((Kd.R_mono (ok' := fun k_ => ((fun _ => True)) k_ ∧ k_ ≠ go10) (Kd.R_apart' (HO300.out) (Kd.S_typed HO_3.out) (by decide)) (fun k_ hk => ⟨trivial, fun e_ => (hk.2) (by rw [e_]; rfl)⟩))).1 k_ h_.symm) (fun h_ => ((Kd.R_mono (ok' := fun k_ => ((fun _ => True)) k_ ∧ k_ ≠ go10) (Kd.R_apart' (HO307.out) (Kd.S_typed HO_3.out) (by decide)) (fun k_ hk => ⟨trivial, fun e_ => (hk.2) (by rw [e_]; rfl)⟩))).1 k_ h_.symm)); have hx12_0 := hcc12 0 _ rfl; (try simp only [show (k58).sz = 12 from rfl, Nat.mul_one, Nat.add_zero] at hx12_0); have hf12_0 := hfr12 0; (try simp only [show (k58).sz = 12 from rfl, Nat.mul_one, Nat.add_zero] at hf12_0); have hx12_1 := hcc12 1 _ rfl; (try simp only [show (k58).sz = 12 from rfl, Nat.mul_one, Nat.add_zero] at hx12_1); have hf12_1 := hfr12 1; (try simp only [show (k58).sz = 12 from rfl, Nat.mul_one, Nat.add_zero] at hf12_1); have hx12_2 := hcc12 2 _ rfl; (try simp only [show (k58).sz = 12 from rfl, Nat.mul_one, Nat.add_zero] at hx12_2); have hf12_2 := hfr12 2; (try simp only [show (k58).sz = 12 from rfl, Nat.mul_one, Nat.add_zero] at hf12_2); have hx12_3 := hcc12 3 _ rfl; (try simp only [show (k58).sz = 12 from rfl, Nat.mul_one, Nat.add_zero] at hx12_3); have hf12_3 := hfr12 3; (try simp only [show (k58).sz = 12 from rfl, Nat.mul_one, Nat.add_zero] at hf12_3); have hx12_4 := hcc12 4 _ rfl; (try simp only [show (k58).sz = 12 from rfl, Nat.mul_one, Nat.add_zero] at hx12_4); have hf12_4 := hfr12 4; (try simp only [show (k58).sz = 12 from rfl, Nat.mul_one, Nat.add_zero] at hf12_4); have hx12_5 := hcc12 5 _ rfl; (try simp only [show (k58).sz = 12 from rfl, Nat.mul_one, Nat.add_zero] at hx12_5); have hf12_5 := hfr12 5; (try simp only [show (k58).sz = 12 from rfl, Nat.mul_one, Nat.add_zero] at hf12_5); have hx12_6 := hcc12 6 _ rfl; (try simp only [show (k58).sz = 12 from rfl, Nat.mul_one, Nat.add_zero] at hx12_6); have hf12_6 := hfr12 6; (try simp only [show (k58).sz = 12 from rfl, Nat.mul_one, Nat.add_zero] at hf12_6); have hx12_7 := hcc12 7 _ rfl; (try simp only [show (k58).sz = 12 from rfl, Nat.mul_one, Nat.add_zero] at hx12_7); have hf12_7 := hfr12 7; (try simp only [show (k58).sz = 12 from rfl, Nat.mul_one, Nat.add_zero] at hf12_7); have hx12_8 := hcc12 8 _ rfl; (try simp only [show (k58).sz = 12 from rfl, Nat.mul_one, Nat.add_zero] at hx12_8); have hf12_8 := hfr12 8; (try simp only [show (k58).sz = 12 from rfl, Nat.mul_one, Nat.add_zero] at hf12_8); have hx12_9 := hcc12 9 _ rfl; (try simp only [show (k58).sz = 12 from rfl, Nat.mul_one, Nat.add_zero] at hx12_9); have hf12_9 := hfr12 9; (try simp only [show (k58).sz = 12 from rfl, Nat.mul_one, Nat.add_zero] at hf12_9); have hx12_10 := hcc12 10 _ rfl; (try simp only [show (k58).sz = 12 from rfl, Nat.mul_one, Nat.add_zero] at hx12_10); have hf12_10 := hfr12 10; (try simp only [show (k58).sz = 12 from rfl, Nat.mul_one, Nat.add_zero] at hf12_10); have hx12_11 := hcc12 11 _ rfl; (try simp only [show (k58).sz = 12 from rfl, Nat.mul_one, Nat.add_zero] at hx12_11); have hf12_11 := hfr12 11; (try simp only [show (k58).sz = 12 from rfl, Nat.mul_one, Nat.add_zero] at hf12_11); clear hcl12 hcc12 hfr12 hM12 hoki12 hH12) | ((with_reducible refine gate_store (t := 58) (p := 21) rfl ?_); refine store_event (t := 58) (p := 21) (v := ?vo_w13) (w1 := ((((((((((((w11.setCell ⟨go10, (x4_1 : Int).toNat * 12, none⟩ (.int .i64 t296)).setCell ⟨go10, (x4_1 : Int).toNat * 12 + 1, none⟩ (.int .i64 t297)).setCell ⟨go10, (x4_1 : Int).toNat * 12 + 2, none⟩ (v299)).setCell ⟨go10, (x4_1 : Int).toNat * 12 + 3, none⟩ (.string t301)).setCell ⟨go10, (x4_1 : Int).toNat * 12 + 4, none⟩ (.bool t302)).setCell ⟨go10, (x4_1 : Int).toNat * 12 + 5, none⟩ (.bool t303)).setCell ⟨go10, (x4_1 : Int).toNat * 12 + 6, none⟩ (.int .i64 t304)).setCell ⟨go10, (x4_1 : Int).toNat * 12 + 7, none⟩ (v306)).setCell ⟨go10, (x4_1 : Int).toNat * 12 + 8, none⟩ (.string t308)).setCell ⟨go10, (x4_1 : Int).toNat * 12 + 9, none⟩ (.bool t309)).setCell ⟨go10, (x4_1 : Int).toNat * 12 + 10, none⟩ (.int .i64 t310)).setCell ⟨go10, (x4_1 : Int).toNat * 12 + 11, none⟩ (.int .i64 t311))) ?hg ?ho ?hn ?hr ?_; (case ho => rfl); (case hg => rfl); (case hn => rfl); (case hr => first | (go_simp; done) | (go_simp; rfl)); intro w13 hw; have hg : w11.grownBy w13 (some go10) := (by rw [hw]; exact HP12.2); have hp_ : Kd.S k58 58 w13 w.heap.size (fun _ => True) (.slice (some ⟨go10, 0, none⟩) x3_1.length co10) y312 := (by rw [hw, Ny312.out]; exact HP12.1); clear HP12; replace HO_3 := Aside0.mk (hp_); replace HB := Aside0.mk ((by rw [hw]; exact below_set (below_set (below_set (below_set (below_set (below_set (below_set (below_set (below_set (below_set (below_set (below_set (HB.out) GB10.out) GB10.out) GB10.out) GB10.out) GB10.out) GB10.out) GB10.out) GB10.out) GB10.out) GB10.out) GB10.out) GB10.out : Below w.heap.size w w13)); clear HO300; clear HO307; clear hg hw hp_))
        go_roundg k1
        case measure => have := HK1.out; omega
        case rel => exact ⟨(y312), (wrap64 (x4_1 + 1)), zs, H', ⟨by have := HK1.out; omega⟩, ⟨by (with_reducible repeat (first | apply Kd.S_alloc | apply Kd.S_drewN | apply Kd.S_drew)); exact HO_3.out⟩, ⟨zb HB⟩⟩
       ·rw [if_neg c9] at H
        exact absurd H (by simp)
      ·rw [if_neg c7] at H
       exact absurd H (by simp)
     ·rw [if_neg c6] at H
      have c6b0 := decide_eq_false c6
      clear c6
      obtain rfl := Option.some.inj H
      go_wp2
      go_ret
      exact ⟨_, ze, by (with_reducible repeat (first | apply Kd.S_alloc | apply Kd.S_drewN | apply Kd.S_drew)); exact HO_3.out, zb HB⟩
  ·rw [if_neg c3] at H
   exact absurd H (by simp)
 ·skip
  exact absurd H (by simp)

/-! ### laws_toFrame: function 50 -/
-- thin
def laws_toFrame.f (a0_0 : Int) (a0_1 : Bool) (a0_2 : Int) (a0_3 : ByteArray) : Option (Int × Bool × Int × ByteArray) := some (a0_0, a0_1, a0_2, a0_3)
set_option maxHeartbeats 8000000 in
set_option maxRecDepth 100000 in
theorem laws_toFrame.calls (a0_0 : Int) (a0_1 : Bool) (a0_2 : Int) (a0_3 : ByteArray) (r1 : Int) (r2 : Bool) (r3 : Int) (r4 : ByteArray) (w : World) (h : laws_toFrame.f a0_0 a0_1 a0_2 a0_3 = some (r1, r2, r3, r4)) :
  Calls Tryd.prog 50 #[.agg #[.int .i64 a0_0, .bool a0_1, .int .i64 a0_2, .string a0_3]] w fun e w' => e = .returned (.agg #[.int .i64 r1, .bool r2, .int .i64 r3, .string r4]) ∧ Below w.heap.size w w' := by
 have hu76 := Tryd.underlying76
 have hu79 := Tryd.underlying79
 have HB := Aside0.mk (Below.refl w.heap.size w)
 have H : (some (a0_0, a0_1, a0_2, a0_3)) = some (r1, r2, r3, r4) := h
 clear h
 simp only [Option.some.injEq, Prod.mk.injEq] at H
 obtain ⟨rfl, rfl, rfl, rfl⟩ := H
 go_enter Tryd.func50, Tryd.ntmps50
 go_wp2_with (first | ((with_reducible refine gd 1 rfl ?_); refine bx (N := 1) (cs := #[.int .i64 a0_0, .bool a0_1, .int .i64 a0_2, .string a0_3]) (t := 76) ?_; intro gb313 hg w2 hbox hb; have BK313 := Aside0.mk (hbox); have GW313 := gw HB hg; have GE313 := GW313; replace HB := Aside0.mk (below_step (zb HB) hb); clear hb hbox hg) | ((with_reducible refine gd 2 rfl ?_); refine bx (N := 2) (cs := #[.int .i64 0, .bool false, .int .i64 0, .string (⟨#[]⟩ : ByteArray)]) (t := 79) ?_; intro gb314 hg w3 hbox hb; have BK314 := Aside0.mk (hbox); have GW314 := gw HB hg; have GE314 := GW314; replace HB := Aside0.mk (below_step (zb HB) hb); obtain ⟨NB313_314, NB314_313⟩ := nb BK313 hg; replace BK313 := kb BK313 hb; clear hb hbox hg) | ((with_reducible refine gd 3 rfl ?_); refine bx (N := 3) (cs := #[.int .i64 0, .bool false, .int .i64 0, .string (⟨#[]⟩ : ByteArray)]) (t := 79) ?_; intro gb315 hg w4 hbox hb; have BK315 := Aside0.mk (hbox); have GW315 := gw HB hg; have GE315 := GW315; replace HB := Aside0.mk (below_step (zb HB) hb); obtain ⟨NB313_315, NB315_313⟩ := nb BK313 hg; replace BK313 := kb BK313 hb; obtain ⟨NB314_315, NB315_314⟩ := nb BK314 hg; replace BK314 := kb BK314 hb; clear hb hbox hg; have hnb5 := NB313_314.out; have hnc5 := NB314_313.out; have hnb6 := NB313_315.out; have hnc6 := NB315_313.out; obtain ⟨hcz7_0, hcz7_1, hcz7_2, hcz7_3, hfz7_0, hfz7_1, hfz7_2, hfz7_3⟩ := c4 BK313; have hnb8 := NB315_314.out; have hnc8 := NB314_315.out; obtain ⟨hcz9_0, hcz9_1, hcz9_2, hcz9_3, hfz9_0, hfz9_1, hfz9_2, hfz9_3⟩ := c4 BK315; obtain ⟨hcz10_0, hcz10_1, hcz10_2, hcz10_3, hfz10_0, hfz10_1, hfz10_2, hfz10_3⟩ := c4 BK314))
 refine bodyPost_ret (results_cell_row rfl _ _ gb314 79 #[.int .i64 a0_0, .bool a0_1, .int .i64 a0_2, .string a0_3] (0, 0) _ rfl (zp BK314) Tryd.underlying79 rfl (by kernel_rfl)) rfl ?_
 exact ⟨ze, zb HB⟩

end Go.Proofs.YtlpibelofcabhaaDoor.PFnExactEndCall
