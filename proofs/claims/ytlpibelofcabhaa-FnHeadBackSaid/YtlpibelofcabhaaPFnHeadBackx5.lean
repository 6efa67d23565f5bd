-- WRITTEN BY a turned print (wip/tools of the prover's repo)
import Derived.Test.YtlpibelofcabhaaPFnHeadBackx0
import Derived.Test.YtlpibelofcabhaaPFnHeadBackx2
namespace Go.Proofs.Ytlpibelofcabhaa.PFnHeadBack
open Go.RowKit Go.Proofs.YtlpibelofcabhaaW.PrintWords Go.Proofs.YtlpibelofcabhaaW.PrintLast Go.Proofs.YtlpibelofcabhaaW.PrintMore Go.Proofs.Ytlpibelofcabhaa.Lm
attribute [local go_sem] max2_int min2_int max_two min_two max_three min_three max_four min_four   -- for this text's walks alone
set_option linter.unusedVariables false
set_option linter.unusedSimpArgs false

/-! ### spec_HeadOk: function 16 -/
-- thin
def spec_HeadOk.l0 : Nat → List (S88) → Int → Option (Bool)
 | 0, _, _ => none
 | k + 1, x0, x3 => if x3 < (x0.length : Int) then (if 0 ≤ x3 then ((spec_FieldOk.f k ((rd_T88 x0 x3).f0) ((rd_T88 x0 x3).f1) ((rd_T88 x0 x3).f2)).bind fun t271 => (if t271 = true then (spec_HeadOk.l0 k x0 (wrap64 (x3 + 1))) else (some false))) else (none)) else (some (decide ((x0.length : Int) ≤ 6)))
def spec_HeadOk.f (k : Nat) (l0 : List (S88)) : Option (Bool) := spec_HeadOk.l0 k l0 0
theorem spec_HeadOk.mono_l : ∀ k, (∀ y0 y1, LeO (spec_HeadOk.l0 k y0 y1) (spec_HeadOk.l0 (k + 1) y0 y1))
 | 0 => fun _ _ r h => by simp [spec_HeadOk.l0] at h
 | k + 1 => by
  have ih0 := spec_HeadOk.mono_l k
  ·intro y0 y1
   unfold spec_HeadOk.l0
   have m0 := @spec_FieldOk.mono
   exact zm
theorem spec_HeadOk.mono : ∀ a0 k, LeO (spec_HeadOk.f k a0) (spec_HeadOk.f (k + 1) a0) := by
 intro a0 k
 have ih0 := spec_HeadOk.mono_l k
 unfold spec_HeadOk.f
 have m0 := @spec_FieldOk.mono
 exact zm
set_option maxHeartbeats 8000000 in
set_option maxRecDepth 100000 in
theorem spec_HeadOk.calls (k : Nat) (A0 : Option Addr) (c0 : Nat) (l0 : List (S88)) (r : Bool) (w : World) (hr0 : Kd.C k88 w A0 l0.length l0) (hc0 : l0.length ≤ c0) (h : spec_HeadOk.f k l0 = some r) :
  Calls Try.prog 16 #[.slice A0 l0.length c0] w fun e w' => e = .returned (.bool r) ∧ Below w.heap.size w w' := by
 have hu88 := Try.underlying88
 have HR0 := Aside0.mk hr0
 have HC0 := Aside0.mk hc0
 clear hr0 hc0
 have HB := Aside0.mk (Below.refl w.heap.size w)
 have H : (spec_HeadOk.l0 k l0 0) = some r := h
 clear h
 have H' := Aside0.mk H
 clear H
 go_enter Try.func16, Try.ntmps16
 go_wp2
 go_loopg [3] k (fun kq v3 w' => ∃ (x3_1 : Int), v3 = .int .i64 x3_1 ∧ Aside0 (spec_HeadOk.l0 kq l0 x3_1 = some r) ∧ Aside0 (kq ≤ k) ∧ Aside0 (Below w.heap.size w w'))
 case atStart => exact ⟨(0), zs, H', ⟨Nat.le_refl _⟩, ⟨zb HB⟩⟩
 case round =>
  clear H'
  try clear c1
  obtain ⟨x3_1, rfl, HA, HK1, HB⟩ := hrel
  cases gk with
  | zero => exact absurd HA.out (by simp [spec_HeadOk.l0])
  | succ k1 =>
   have H := HA.out
   clear HA
   simp only [spec_HeadOk.l0] at H
   replace H := sp H
   rcases H with ⟨c2, H⟩ | ⟨c2, H⟩
   ·skip
    have c2b0 := decide_eq_true c2
    clear c2
    by_cases c3 : 0 ≤ x3_1
    ·rw [if_pos c3] at H
     have c3b0 := decide_eq_true c3
     clear c3
     obtain ⟨t271, A4, H⟩ := ob H
     (try dsimp only at H)
     have HC5 := Aside0.mk H
     clear H
     have p270 : 0 ≤ (x3_1 : Int) := of_decide_eq_true za
     have q270 : x3_1 < (l0.length : Int) := of_decide_eq_true za
     obtain ⟨ad270, e270, hx270_0, hx270_1, hx270_2⟩ := at_T88 HR0.out x3_1 p270 q270
     cases e270
     replace hx270_0 := (HB.out.cell (World.block_lt_of_cell? w _ hx270_0)).trans hx270_0
     replace hx270_1 := (HB.out.cell (World.block_lt_of_cell? w _ hx270_1)).trans hx270_1
     replace hx270_2 := (HB.out.cell (World.block_lt_of_cell? w _ hx270_2)).trans hx270_2
     replace p270 := eq_true p270
     replace q270 := eq_true q270
     go_upto_if 15 with (first | ((with_reducible refine gq 55 rfl ?_); refine gl (some 14) Try.func55 #[.agg #[.string ((rd_T88 l0 x3_1).f0), .string ((rd_T88 l0 x3_1).f1), .bool ((rd_T88 l0 x3_1).f2)]] ?_; (with_reducible refine (spec_FieldOk.calls k1 ((rd_T88 l0 x3_1).f0) ((rd_T88 l0 x3_1).f1) ((rd_T88 l0 x3_1).f2) t271 _ A4.out).mono ?_); rintro e w6 ⟨rfl, hb⟩; refine ⟨_, rfl, ?_⟩; replace HB := Aside0.mk (below_step (zb HB) hb); (try clear hb)))
     (try simp only [Act.put, s1, s2, s3])
     have H := HC5.out
     clear HC5
     by_cases c7 : t271 = true
     ·subst c7
      rw [if_pos rfl] at H
      have H' := Aside0.mk H
      clear H
      go_wp2
      go_roundg k1
      case measure => have := HK1.out; omega
      case rel => exact ⟨(wrap64 (x3_1 + 1)), zs, H', ⟨by have := HK1.out; omega⟩, ⟨zb HB⟩⟩
     ·replace c7 := Bool.eq_false_iff.mpr c7
      subst c7
      rw [if_neg (show ¬ (false = true) by decide)] at H
      obtain rfl := Option.some.inj H
      go_wp2
      go_ret
      exact ⟨ze, zb HB⟩
    ·rw [if_neg c3] at H
     exact absurd H (by simp)
   ·skip
    have c2b0 := decide_eq_false c2
    clear c2
    obtain rfl := Option.some.inj H
    go_wp2
    go_ret
    exact ⟨ze, zb HB⟩

/-! ### spec_TableFixed: function 168 -/
-- thin
def spec_TableFixed.f  : Option ((List (S88))) := some (([(⟨(⟨#[58, 112, 97, 116, 104]⟩ : ByteArray), (⟨#[]⟩ : ByteArray), false⟩ : S88), (⟨(⟨#[58, 115, 116, 97, 116, 117, 115]⟩ : ByteArray), (⟨#[48]⟩ : ByteArray), false⟩ : S88), (⟨(⟨#[58, 115, 116, 97, 116, 117, 115]⟩ : ByteArray), (⟨#[49, 50]⟩ : ByteArray), false⟩ : S88), (⟨(⟨#[107, 105, 110, 100]⟩ : ByteArray), (⟨#[116, 101, 120, 116]⟩ : ByteArray), false⟩ : S88), (⟨(⟨#[115, 105, 122, 101]⟩ : ByteArray), (⟨#[]⟩ : ByteArray), false⟩ : S88), (⟨(⟨#[116, 101]⟩ : ByteArray), (⟨#[116, 114, 97, 105, 108, 101, 114, 115]⟩ : ByteArray), false⟩ : S88)] : List (S88)))
set_option maxHeartbeats 8000000 in
set_option maxRecDepth 100000 in
theorem spec_TableFixed.calls  (r : List (S88)) (w : World) (h : spec_TableFixed.f  = some r) :
  Calls Try.prog 168 #[] w fun e w' => ∃ v0_ : Value, e = .returned (v0_) ∧ Kd.R k88 88 w' w.heap.size (fun _ => True) v0_ r ∧ Below w.heap.size w w' := by
 have hu88 := Try.underlying88
 have HB := Aside0.mk (Below.refl w.heap.size w)
 have H : (some (([(⟨(⟨#[58, 112, 97, 116, 104]⟩ : ByteArray), (⟨#[]⟩ : ByteArray), false⟩ : S88), (⟨(⟨#[58, 115, 116, 97, 116, 117, 115]⟩ : ByteArray), (⟨#[48]⟩ : ByteArray), false⟩ : S88), (⟨(⟨#[58, 115, 116, 97, 116, 117, 115]⟩ : ByteArray), (⟨#[49, 50]⟩ : ByteArray), false⟩ : S88), (⟨(⟨#[107, 105, 110, 100]⟩ : ByteArray), (⟨#[116, 101, 120, 116]⟩ : ByteArray), false⟩ : S88), (⟨(⟨#[115, 105, 122, 101]⟩ : ByteArray), (⟨#[]⟩ : ByteArray), false⟩ : S88), (⟨(⟨#[116, 101]⟩ : ByteArray), (⟨#[116, 114, 97, 105, 108, 101, 114, 115]⟩ : ByteArray), false⟩ : S88)] : List (S88)))) = some r := h
 clear h
 obtain ⟨y272, hy272⟩ : ∃ y_ : List (S88), y_ = (([(⟨(⟨#[58, 112, 97, 116, 104]⟩ : ByteArray), (⟨#[]⟩ : ByteArray), false⟩ : S88), (⟨(⟨#[58, 115, 116, 97, 116, 117, 115]⟩ : ByteArray), (⟨#[48]⟩ : ByteArray), false⟩ : S88), (⟨(⟨#[58, 115, 116, 97, 116, 117, 115]⟩ : ByteArray), (⟨#[49, 50]⟩ : ByteArray), false⟩ : S88), (⟨(⟨#[107, 105, 110, 100]⟩ : ByteArray), (⟨#[116, 101, 120, 116]⟩ : ByteArray), false⟩ : S88), (⟨(⟨#[115, 105, 122, 101]⟩ : ByteArray), (⟨#[]⟩ : ByteArray), false⟩ : S88), (⟨(⟨#[116, 101]⟩ : ByteArray), (⟨#[116, 114, 97, 105, 108, 101, 114, 115]⟩ : ByteArray), false⟩ : S88)] : List (S88))) := ⟨_, rfl⟩
 replace H : (some y272) = some r := by first | (rw [hy272]; with_reducible exact H) | (have H2_ := (Option.bind_some _ _).symm.trans H; rw [hy272]; with_reducible exact H2_) | (have H2_ := (Option.bind_some _ _).symm.trans H; with_reducible exact H2_) | with_reducible exact H | (rw [hy272]; exact H) | exact H
 have Ny272 := Aside0.mk hy272
 clear hy272
 obtain rfl := Option.some.inj H
 go_enter Try.func168, Try.ntmps168
 go_wp2_with (first | ((with_reducible refine gd 7 rfl ?_); refine Kd.R_lit k88 _ 88 ?hg (N := 7) ?hd (xs := ([(⟨(⟨#[58, 112, 97, 116, 104]⟩ : ByteArray), (⟨#[]⟩ : ByteArray), false⟩ : S88), (⟨(⟨#[58, 115, 116, 97, 116, 117, 115]⟩ : ByteArray), (⟨#[48]⟩ : ByteArray), false⟩ : S88), (⟨(⟨#[58, 115, 116, 97, 116, 117, 115]⟩ : ByteArray), (⟨#[49, 50]⟩ : ByteArray), false⟩ : S88), (⟨(⟨#[107, 105, 110, 100]⟩ : ByteArray), (⟨#[116, 101, 120, 116]⟩ : ByteArray), false⟩ : S88), (⟨(⟨#[115, 105, 122, 101]⟩ : ByteArray), (⟨#[]⟩ : ByteArray), false⟩ : S88), (⟨(⟨#[116, 101]⟩ : ByteArray), (⟨#[116, 114, 97, 105, 108, 101, 114, 115]⟩ : ByteArray), false⟩ : S88)] : List (S88))) (inner := [.string (⟨#[58, 112, 97, 116, 104]⟩ : ByteArray), .string (⟨#[]⟩ : ByteArray), .bool false, .string (⟨#[58, 115, 116, 97, 116, 117, 115]⟩ : ByteArray), .string (⟨#[48]⟩ : ByteArray), .bool false, .string (⟨#[58, 115, 116, 97, 116, 117, 115]⟩ : ByteArray), .string (⟨#[49, 50]⟩ : ByteArray), .bool false, .string (⟨#[107, 105, 110, 100]⟩ : ByteArray), .string (⟨#[116, 101, 120, 116]⟩ : ByteArray), .bool false, .string (⟨#[115, 105, 122, 101]⟩ : ByteArray), .string (⟨#[]⟩ : ByteArray), .bool false, .string (⟨#[116, 101]⟩ : ByteArray), .string (⟨#[116, 114, 97, 105, 108, 101, 114, 115]⟩ : ByteArray), .bool false]) (ok := fun _ => True) (okp := fun _ => True) ?hr ?hp (fun _ hk => hk) trivial (Below.refl _ _) (Nat.le_refl _) (by simp) ?_; (case hd => rfl); (case hg => rfl); (case hr => first | (go_simp; done) | (go_simp; rfl)); (case hp => exact (Reps.c3 (show Kd.M k88 _ _ _ (⟨(⟨#[58, 112, 97, 116, 104]⟩ : ByteArray), (⟨#[]⟩ : ByteArray), false⟩ : S88) [.string (⟨#[58, 112, 97, 116, 104]⟩ : ByteArray), .string (⟨#[]⟩ : ByteArray), .bool false] from (k88_mkM _ _ _ (⟨(⟨#[58, 112, 97, 116, 104]⟩ : ByteArray), (⟨#[]⟩ : ByteArray), false⟩ : S88) )) (Reps.c3 (show Kd.M k88 _ _ _ (⟨(⟨#[58, 115, 116, 97, 116, 117, 115]⟩ : ByteArray), (⟨#[48]⟩ : ByteArray), false⟩ : S88) [.string (⟨#[58, 115, 116, 97, 116, 117, 115]⟩ : ByteArray), .string (⟨#[48]⟩ : ByteArray), .bool false] from (k88_mkM _ _ _ (⟨(⟨#[58, 115, 116, 97, 116, 117, 115]⟩ : ByteArray), (⟨#[48]⟩ : ByteArray), false⟩ : S88) )) (Reps.c3 (show Kd.M k88 _ _ _ (⟨(⟨#[58, 115, 116, 97, 116, 117, 115]⟩ : ByteArray), (⟨#[49, 50]⟩ : ByteArray), false⟩ : S88) [.string (⟨#[58, 115, 116, 97, 116, 117, 115]⟩ : ByteArray), .string (⟨#[49, 50]⟩ : ByteArray), .bool false] from (k88_mkM _ _ _ (⟨(⟨#[58, 115, 116, 97, 116, 117, 115]⟩ : ByteArray), (⟨#[49, 50]⟩ : ByteArray), false⟩ : S88) )) (Reps.c3 (show Kd.M k88 _ _ _ (⟨(⟨#[107, 105, 110, 100]⟩ : ByteArray), (⟨#[116, 101, 120, 116]⟩ : ByteArray), false⟩ : S88) [.string (⟨#[107, 105, 110, 100]⟩ : ByteArray), .string (⟨#[116, 101, 120, 116]⟩ : ByteArray), .bool false] from (k88_mkM _ _ _ (⟨(⟨#[107, 105, 110, 100]⟩ : ByteArray), (⟨#[116, 101, 120, 116]⟩ : ByteArray), false⟩ : S88) )) (Reps.c3 (show Kd.M k88 _ _ _ (⟨(⟨#[115, 105, 122, 101]⟩ : ByteArray), (⟨#[]⟩ : ByteArray), false⟩ : S88) [.string (⟨#[115, 105, 122, 101]⟩ : ByteArray), .string (⟨#[]⟩ : ByteArray), .bool false] from (k88_mkM _ _ _ (⟨(⟨#[115, 105, 122, 101]⟩ : ByteArray), (⟨#[]⟩ : ByteArray), false⟩ : S88) )) (Reps.c3 (show Kd.M k88 _ _ _ (⟨(⟨#[116, 101]⟩ : ByteArray), (⟨#[116, 114, 97, 105, 108, 101, 114, 115]⟩ : ByteArray), false⟩ : S88) [.string (⟨#[116, 101]⟩ : ByteArray), .string (⟨#[116, 114, 97, 105, 108, 101, 114, 115]⟩ : ByteArray), .bool false] from (k88_mkM _ _ _ (⟨(⟨#[116, 101]⟩ : ByteArray), (⟨#[116, 114, 97, 105, 108, 101, 114, 115]⟩ : ByteArray), false⟩ : S88) )) (Reps.none _ _)))))))); intro v273 w1 ho2 hb hg_ hnew_; clear hg_ hnew_; (first | rw [← Ny272.out] at ho2 | (simp only [Int.reduceToNat] at ho2; rw [← Ny272.out] at ho2)); have HO274 := Aside0.mk (Kd.R_lower ho2 (below_size (zb HB))); replace HB := Aside0.mk (below_step (zb HB) hb); clear hb ho2))
 go_ret
 exact ⟨_, ze, by (with_reducible repeat (first | apply Kd.R_alloc | apply Kd.R_drewN | apply Kd.R_drew)); exact HO274.out, zb HB⟩

/-! ### spec_l3All: function 160 -/
-- thin
def spec_l3All.f (l0_0 : List (S88)) (a0_1 : Int) : Option ((List (S88))) := (spec_TableFixed.f).bind fun t276 => (if t276.length + l0_0.length < 3518437208883 then (some (t276 ++ l0_0)) else (none))
set_option maxHeartbeats 8000000 in
set_option maxRecDepth 100000 in
theorem spec_l3All.calls (A0_0 : Option Addr) (c0_0 : Nat) (l0_0 : List (S88)) (a0_1 : Int) (r : List (S88)) (w : World) (hr0_0 : Kd.C k88 w A0_0 l0_0.length l0_0) (hc0_0 : l0_0.length ≤ c0_0) (h : spec_l3All.f l0_0 a0_1 = some r) :
  Calls Try.prog 160 #[.agg #[.slice A0_0 l0_0.length c0_0, .int .i64 a0_1]] w fun e w' => ∃ v0_ : Value, e = .returned (v0_) ∧ Kd.R k88 88 w' w.heap.size (fun _ => True) v0_ r ∧ Below w.heap.size w w' := by
 have hu25 := Try.underlying25
 have HR0_0 := Aside0.mk hr0_0
 have HC0_0 := Aside0.mk hc0_0
 clear hr0_0 hc0_0
 have HB := Aside0.mk (Below.refl w.heap.size w)
 have H : ((spec_TableFixed.f).bind fun t276 => (if t276.length + l0_0.length < 3518437208883 then (some (t276 ++ l0_0)) else (none))) = some r := h
 clear h
 obtain ⟨t276, A2, H⟩ := ob H
 (try dsimp only at H)
 replace H := sp H
 rcases H with ⟨c3, H⟩ | ⟨c3, H⟩
 ·skip
  have LMc3 := Aside0.mk c3
  clear c3
  obtain ⟨y279, hy279⟩ : ∃ y_ : List (S88), y_ = (t276 ++ l0_0) := ⟨_, rfl⟩
  replace H : (some y279) = some r := by first | (rw [hy279]; with_reducible exact H) | (have H2_ := (Option.bind_some _ _).symm.trans H; rw [hy279]; with_reducible exact H2_) | (have H2_ := (Option.bind_some _ _).symm.trans H; with_reducible exact H2_) | with_reducible exact H | (rw [hy279]; exact H) | exact H
  have Ny279 := Aside0.mk hy279
  clear hy279
  obtain rfl := Option.some.inj H
  go_enter Try.func160, Try.ntmps160
  try go_wp2_with (first | ((with_reducible refine gd 1 rfl ?_); refine bx (N := 1) (cs := #[.slice A0_0 l0_0.length c0_0, .int .i64 a0_1]) (t := 25) ?_; intro gb275 hg w4 hbox hb; have BK275 := Aside0.mk (hbox); have GW275 := gw HB hg; have GE275 := GW275; replace HB := Aside0.mk (below_step (zb HB) hb); clear hb hbox hg))
  replace BK275 := Aside0.mk (blk_drew BK275.out)
  replace HB := Aside0.mk (below_drew1 HB.out)
  refine start_ (n := 5) (S := fun w' => w'.cell? ⟨gb275, 0, none⟩ = some (.slice A0_0 l0_0.length c0_0) ∧ w'.cell? ⟨gb275, 1, none⟩ = some (.int .i64 a0_1)) (ds := []) #[false, false, false, false, false] (by kernel_rfl) rfl rfl ⟨(blk_cell BK275.out 0).trans rfl, (blk_cell BK275.out 1).trans rfl⟩ (fun hHeld => ?_)
  generalize w4.drew = w5 at BK275 HB hHeld ⊢
  refine pu 1 (some 4) (bm 5 2) rfl rfl ?_
  refine tk 2 (some 5) (bm 5 6) rfl rfl hHeld ?_
  refine one_ (i := 0) (N := some 3) (bm 5 7) rfl rfl (by kernel_rfl) (by decide) (fun K hK => ?_)
  refine gs Try.func168 #[] ?_
  with_reducible refine (spec_TableFixed.calls  t276 _ A2.out).mono ?_
  rintro e w6 ⟨v277, rfl, ho0, hb⟩
  refine ⟨_, rfl, ?_⟩
  have HO278 := Aside0.mk (Kd.R_lower ho0 (below_size (zb HB)))
  replace BK275 := kb BK275 hb
  replace HB := Aside0.mk (below_step (zb HB) hb)
  (try clear hb)
  (try clear ho0)
  refine hK.out _ _ ⟨(blk_cell BK275.out 0).trans rfl, (blk_cell BK275.out 1).trans rfl⟩ (fun hHeld => ?_)
  clear hK K
  refine nm ?_
  refine one_ (i := 3) (N := some 6) (bm 5 15) rfl rfl (by kernel_rfl) (by decide) (fun K hK => ?_)
  refine Kd.R_append_rows_step k88 (w0 := w) w.heap.size (by rfl) (.tmp 3) (.tmp 5) 23 88 (.agg #[(.string ⟨#[]⟩), (.string ⟨#[]⟩), (.bool false)]) 40 rfl Try.underlying23 info88 rfl (by decide) (by omega) v277 t276 l0_0 _ _ _ (fun _ => True) (fun _ => False) rfl rfl ?aO ?aR (fun _ _ h => h) (fun _ h => h.elim) ?aF ?aB ?aS ?aL ?_
  (case aR => exact zc (Kd.C_below HR0_0.out HB.out))
  (case aB => exact (zb HB))
  (case aF => exact (fun _ _ => trivial))
  (case aO => exact (zr HO278))
  (case aS => exact (below_size (zb HB)))
  (case aL => have := LMc3.out; omega)
  intro v280 w7 ho hb hg hat
  rw [← Ny279.out] at ho
  replace BK275 := Aside0.mk (blk_grown (zk BK275) hg (Kd.R_ne HO278.out BK275.out (by decide)))
  replace HB := Aside0.mk (hb)
  have HO281 := Aside0.mk (ho)
  clear HO278
  clear ho hb hg hat
  refine hK.out _ _ ⟨(blk_cell BK275.out 0).trans rfl, (blk_cell BK275.out 1).trans rfl⟩ (fun hHeld => ?_)
  clear hK K
  refine nm ?_
  refine pu 4 (some 2) (bm 5 31) rfl rfl ?_
  refine done_ (by kernel_rfl) ?_
  try go_wp2
  go_ret
  exact ⟨_, ze, by (with_reducible repeat (first | apply Kd.R_alloc | apply Kd.R_drewN | apply Kd.R_drew)); exact HO281.out, zb HB⟩
 ·skip
  exact absurd H (by simp)

/-! ### spec_l3Find: function 142 -/
-- thin
mutual
def spec_l3Find.l0 : Nat → List (S88) → Int → Int → ByteArray → ByteArray → Bool → Option (Int × Bool)
 | 0, _, _, _, _, _, _ => none
 | k + 1, x6, x7, x8, x284000, x284001, x284002 => if x8 ≥ 0 then (if 0 ≤ x8 then (if x8 < (x6.length : Int) then (if ((rd_T88 x6 x8).f0).toList = x284000.toList then (spec_l3Find.l0 k x6 (wrap64 (x8 + 1)) (wrap64 (x8 - 1)) x284000 x284001 x284002) else (spec_l3Find.l0 k x6 x7 (wrap64 (x8 - 1)) x284000 x284001 x284002)) else (none)) else (none)) else (spec_l3Find.l1 k x6 x7 0 x284000 x284001 x284002)
def spec_l3Find.l1 : Nat → List (S88) → Int → Int → ByteArray → ByteArray → Bool → Option (Int × Bool)
 | 0, _, _, _, _, _, _ => none
 | k + 1, x6, x7, x9, x284000, x284001, x284002 => if x9 < (x6.length : Int) then (if 0 ≤ x9 then (if ((rd_T88 x6 x9).f0).toList = x284000.toList then (if ((rd_T88 x6 x9).f1).toList = x284001.toList then (some (wrap64 (x9 + 1), true)) else (spec_l3Find.l1 k x6 x7 (wrap64 (x9 + 1)) x284000 x284001 x284002)) else (spec_l3Find.l1 k x6 x7 (wrap64 (x9 + 1)) x284000 x284001 x284002)) else (none)) else (some (x7, false))
end
def spec_l3Find.f (k : Nat) (l0_0 : List (S88)) (a0_1 : Int) (a1_0 : ByteArray) (a1_1 : ByteArray) (a1_2 : Bool) : Option (Int × Bool) := (spec_l3All.f l0_0 a0_1).bind fun t284 => (spec_l3Find.l0 k t284 0 (wrap64 ((t284.length : Int) - 1)) a1_0 a1_1 a1_2)
theorem spec_l3Find.mono_l : ∀ k, (∀ y0 y1 y2 y3 y4 y5, LeO (spec_l3Find.l0 k y0 y1 y2 y3 y4 y5) (spec_l3Find.l0 (k + 1) y0 y1 y2 y3 y4 y5)) ∧ (∀ y0 y1 y2 y3 y4 y5, LeO (spec_l3Find.l1 k y0 y1 y2 y3 y4 y5) (spec_l3Find.l1 (k + 1) y0 y1 y2 y3 y4 y5))
 | 0 => ⟨fun _ _ _ _ _ _ r h => by simp [spec_l3Find.l0] at h, fun _ _ _ _ _ _ r h => by simp [spec_l3Find.l1] at h⟩
 | k + 1 => by
  obtain ⟨ih0, ih1⟩ := spec_l3Find.mono_l k
  refine ⟨?_, ?_⟩
  ·intro y0 y1 y2 y3 y4 y5
   unfold spec_l3Find.l0
   exact zm
  ·intro y0 y1 y2 y3 y4 y5
   unfold spec_l3Find.l1
   exact zm
theorem spec_l3Find.mono : ∀ a0 a1 a2 a3 a4 k, LeO (spec_l3Find.f k a0 a1 a2 a3 a4) (spec_l3Find.f (k + 1) a0 a1 a2 a3 a4) := by
 intro a0 a1 a2 a3 a4 k
 obtain ⟨ih0, ih1⟩ := spec_l3Find.mono_l k
 unfold spec_l3Find.f
 exact zm
set_option maxHeartbeats 8000000 in
set_option maxRecDepth 100000 in
theorem spec_l3Find.calls (k : Nat) (A0_0 : Option Addr) (c0_0 : Nat) (l0_0 : List (S88)) (a0_1 : Int) (a1_0 : ByteArray) (a1_1 : ByteArray) (a1_2 : Bool) (r1 : Int) (r2 : Bool) (w : World) (hr0_0 : Kd.C k88 w A0_0 l0_0.length l0_0) (hc0_0 : l0_0.length ≤ c0_0) (h : spec_l3Find.f k l0_0 a0_1 a1_0 a1_1 a1_2 = some (r1, r2)) :
  Calls Try.prog 142 #[.agg #[.slice A0_0 l0_0.length c0_0, .int .i64 a0_1], .agg #[.string a1_0, .string a1_1, .bool a1_2]] w fun e w' => e = .returned (.tuple #[.int .i64 r1, .bool r2]) ∧ Below w.heap.size w w' := by
 have hu25 := Try.underlying25
 have hu88 := Try.underlying88
 have HR0_0 := Aside0.mk hr0_0
 have HC0_0 := Aside0.mk hc0_0
 clear hr0_0 hc0_0
 have HB := Aside0.mk (Below.refl w.heap.size w)
 have H : ((spec_l3All.f l0_0 a0_1).bind fun t284 => (spec_l3Find.l0 k t284 0 (wrap64 ((t284.length : Int) - 1)) a1_0 a1_1 a1_2)) = some (r1, r2) := h
 clear h
 obtain ⟨t284, A3, H⟩ := ob H
 (try dsimp only at H)
 have H' := Aside0.mk H
 clear H
 go_enter Try.func142, Try.ntmps142
 go_wp2_with (first | ((with_reducible refine gd 2 rfl ?_); refine bx (N := 2) (cs := #[.slice A0_0 l0_0.length c0_0, .int .i64 a0_1]) (t := 25) ?_; intro gb282 hg w4 hbox hb; have BK282 := Aside0.mk (hbox); have GW282 := gw HB hg; have GE282 := GW282; replace HB := Aside0.mk (below_step (zb HB) hb); clear hb hbox hg) | ((with_reducible refine gd 3 rfl ?_); refine bx (N := 3) (cs := #[.string a1_0, .string a1_1, .bool a1_2]) (t := 88) ?_; intro gb283 hg w5 hbox hb; have BK283 := Aside0.mk (hbox); have GW283 := gw HB hg; have GE283 := GW283; replace HB := Aside0.mk (below_step (zb HB) hb); obtain ⟨NB282_283, NB283_282⟩ := nb BK282 hg; replace BK282 := kb BK282 hb; clear hb hbox hg; have hnb6 := NB282_283.out; have hnc6 := NB283_282.out; obtain ⟨hcz7_0, hcz7_1, hfz7_0, hfz7_1⟩ := c2 BK282) | (go_at_call 160; (with_reducible refine (spec_l3All.calls _ _ l0_0 a0_1 t284 _ ?side1 ?side2 A3.out).mono ?_); (case side1 => exact zc (Kd.C_below HR0_0.out HB.out)); (case side2 => exact HC0_0.out); rintro e w8 ⟨v285, rfl, ho0, hb⟩; have HO286 := Aside0.mk (Kd.R_lower (Kd.R_newB ho0 (zk BK283)) (below_size (zb HB))); replace BK282 := kb BK282 hb; replace BK283 := kb BK283 hb; replace HB := Aside0.mk (below_step (zb HB) hb); (try clear hb); (try clear ho0); obtain ⟨Ao9, co9, eo9⟩ := Kd.R_slice HO286.out; subst eo9))
 repeat (go_quiet (first | ((with_reducible refine gd 2 rfl ?_); refine bx (N := 2) (cs := #[.slice A0_0 l0_0.length c0_0, .int .i64 a0_1]) (t := 25) ?_; intro gb282 hg w4 hbox hb; have BK282 := Aside0.mk (hbox); have GW282 := gw HB hg; have GE282 := GW282; replace HB := Aside0.mk (below_step (zb HB) hb); clear hb hbox hg) | ((with_reducible refine gd 3 rfl ?_); refine bx (N := 3) (cs := #[.string a1_0, .string a1_1, .bool a1_2]) (t := 88) ?_; intro gb283 hg w5 hbox hb; have BK283 := Aside0.mk (hbox); have GW283 := gw HB hg; have GE283 := GW283; replace HB := Aside0.mk (below_step (zb HB) hb); obtain ⟨NB282_283, NB283_282⟩ := nb BK282 hg; replace BK282 := kb BK282 hb; clear hb hbox hg; have hnb6 := NB282_283.out; have hnc6 := NB283_282.out; obtain ⟨hcz7_0, hcz7_1, hfz7_0, hfz7_1⟩ := c2 BK282) | (go_at_call 160; (with_reducible refine (spec_l3All.calls _ _ l0_0 a0_1 t284 _ ?side1 ?side2 A3.out).mono ?_); (case side1 => exact zc (Kd.C_below HR0_0.out HB.out)); (case side2 => exact HC0_0.out); rintro e w8 ⟨v285, rfl, ho0, hb⟩; have HO286 := Aside0.mk (Kd.R_lower (Kd.R_newB ho0 (zk BK283)) (below_size (zb HB))); replace BK282 := kb BK282 hb; replace BK283 := kb BK283 hb; replace HB := Aside0.mk (below_step (zb HB) hb); (try clear hb); (try clear ho0); obtain ⟨Ao9, co9, eo9⟩ := Kd.R_slice HO286.out; subst eo9)); try go_wp2_with (first | ((with_reducible refine gd 2 rfl ?_); refine bx (N := 2) (cs := #[.slice A0_0 l0_0.length c0_0, .int .i64 a0_1]) (t := 25) ?_; intro gb282 hg w4 hbox hb; have BK282 := Aside0.mk (hbox); have GW282 := gw HB hg; have GE282 := GW282; replace HB := Aside0.mk (below_step (zb HB) hb); clear hb hbox hg) | ((with_reducible refine gd 3 rfl ?_); refine bx (N := 3) (cs := #[.string a1_0, .string a1_1, .bool a1_2]) (t := 88) ?_; intro gb283 hg w5 hbox hb; have BK283 := Aside0.mk (hbox); have GW283 := gw HB hg; have GE283 := GW283; replace HB := Aside0.mk (below_step (zb HB) hb); obtain ⟨NB282_283, NB283_282⟩ := nb BK282 hg; replace BK282 := kb BK282 hb; clear hb hbox hg; have hnb6 := NB282_283.out; have hnc6 := NB283_282.out; obtain ⟨hcz7_0, hcz7_1, hfz7_0, hfz7_1⟩ := c2 BK282) | (go_at_call 160; (with_reducible refine (spec_l3All.calls _ _ l0_0 a0_1 t284 _ ?side1 ?side2 A3.out).mono ?_); (case side1 => exact zc (Kd.C_below HR0_0.out HB.out)); (case side2 => exact HC0_0.out); rintro e w8 ⟨v285, rfl, ho0, hb⟩; have HO286 := Aside0.mk (Kd.R_lower (Kd.R_newB ho0 (zk BK283)) (below_size (zb HB))); replace BK282 := kb BK282 hb; replace BK283 := kb BK283 hb; replace HB := Aside0.mk (below_step (zb HB) hb); (try clear hb); (try clear ho0); obtain ⟨Ao9, co9, eo9⟩ := Kd.R_slice HO286.out; subst eo9)))
 go_loopg [7, 8] k (fun kq v7 v8 w' => ∃ (x7_1 : Int) (x8_1 : Int), v7 = .int .i64 x7_1 ∧ v8 = .int .i64 x8_1 ∧ Aside0 (spec_l3Find.l0 kq t284 x7_1 x8_1 a1_0 a1_1 a1_2 = some (r1, r2)) ∧ Aside0 (kq ≤ k) ∧ Aside0 (Kd.R k88 88 w' w.heap.size (fun k_ => k_ ≠ gb283) (.slice Ao9 t284.length co9) t284) ∧ Aside0 (w'.heap[gb282]? = some (.cells #[(.slice A0_0 l0_0.length c0_0), .int .i64 a0_1] 25 (0, 0))) ∧ Aside0 (w'.heap[gb283]? = some (.cells #[.string a1_0, .string a1_1, .bool a1_2] 88 (0, 0))) ∧ Aside0 (Below w.heap.size w w'))
 case atStart => exact ⟨(0), (wrap64 ((t284.length : Int) - 1)), zs, zs, H', ⟨Nat.le_refl _⟩, ⟨by (with_reducible repeat (first | apply Kd.R_alloc | apply Kd.R_drewN | apply Kd.R_drew)); exact Kd.R_mono HO286.out (fun _ hk => hk.2)⟩, ⟨by exact zk BK282⟩, ⟨by exact zk BK283⟩, ⟨zb HB⟩⟩
 case round =>
  clear H'
  try clear c1
  try clear p2
  try clear c6
  try clear p6
  try clear hcz7_0
  try clear hcz7_1
  try clear hfz7_0
  try clear hfz7_1
  obtain ⟨x7_1, x8_1, rfl, rfl, HA, HK1, HO_6, BK282, BK283, HB⟩ := hrel
  cases gk with
  | zero => exact absurd HA.out (by simp [spec_l3Find.l0])
  | succ k1 =>
   have H := HA.out
   clear HA
   simp only [spec_l3Find.l0] at H
   replace H := sp H
   rcases H with ⟨c10, H⟩ | ⟨c10, H⟩
   ·skip
    have c10b0 := decide_eq_true c10
    clear c10
    by_cases c11 : 0 ≤ x8_1
    ·rw [if_pos c11] at H
     have c11b0 := decide_eq_true c11
     clear c11
     by_cases c12 : x8_1 < (t284.length : Int)
     ·rw [if_pos c12] at H
      have c12b0 := decide_eq_true c12
      clear c12
      by_cases c13 : ((rd_T88 t284 x8_1).f0).toList = a1_0.toList
      ·rw [if_pos c13] at H
       have c13b0 : (((rd_T88 t284 x8_1).f0).toList == a1_0.toList) = true := beq_iff_eq.mpr c13
       have c13b1 : (((rd_T88 t284 x8_1).f0).toList != a1_0.toList) = false := bne_eq_false_iff_eq.mpr c13
       clear c13
       have H' := Aside0.mk H
       clear H
       have p287 : 0 ≤ (x8_1 : Int) := of_decide_eq_true za
       have q287 : x8_1 < (t284.length : Int) := of_decide_eq_true za
       obtain ⟨ad287, e287, hx287_0, hx287_1, hx287_2⟩ := at_T88 (Kd.R_reads' HO_6.out).2.2 x8_1 p287 q287
       cases e287
       replace p287 := eq_true p287
       replace q287 := eq_true q287
       have hnb14 := NB283_282.out
       have hnc14 := NB282_283.out
       obtain ⟨hcz15_0, hcz15_1, hcz15_2, hfz15_0, hfz15_1, hfz15_2⟩ := c3 BK283
       go_wp2
       repeat (go_quiet (fail); try go_wp2)
       go_roundg k1
       case measure => have := HK1.out; omega
       case rel => exact ⟨(wrap64 (x8_1 + 1)), (wrap64 (x8_1 - 1)), zs, zs, H', ⟨by have := HK1.out; omega⟩, ⟨by exact zr HO_6⟩, ⟨by exact zk BK282⟩, ⟨by exact zk BK283⟩, ⟨zb HB⟩⟩
      ·rw [if_neg c13] at H
       have c13b0 : (((rd_T88 t284 x8_1).f0).toList == a1_0.toList) = false := beq_eq_false_iff_ne.mpr c13
       have c13b1 : (((rd_T88 t284 x8_1).f0).toList != a1_0.toList) = true := bne_iff_ne.mpr c13
       have H' := Aside0.mk H
       clear H
       have p287 : 0 ≤ (x8_1 : Int) := of_decide_eq_true za
       have q287 : x8_1 < (t284.length : Int) := of_decide_eq_true za
       obtain ⟨ad287, e287, hx287_0, hx287_1, hx287_2⟩ := at_T88 (Kd.R_reads' HO_6.out).2.2 x8_1 p287 q287
       cases e287
       replace p287 := eq_true p287
       replace q287 := eq_true q287
       have hnb16 := NB283_282.out
       have hnc16 := NB282_283.out
       obtain ⟨hcz17_0, hcz17_1, hcz17_2, hfz17_0, hfz17_1, hfz17_2⟩ := c3 BK283
       go_wp2
       repeat (go_quiet (fail); try go_wp2)
       go_roundg k1
       case measure => have := HK1.out; omega
       case rel => exact ⟨(x7_1), (wrap64 (x8_1 - 1)), zs, zs, H', ⟨by have := HK1.out; omega⟩, ⟨by exact zr HO_6⟩, ⟨by exact zk BK282⟩, ⟨by exact zk BK283⟩, ⟨zb HB⟩⟩
     ·rw [if_neg c12] at H
      exact absurd H (by simp)
    ·rw [if_neg c11] at H
     exact absurd H (by simp)
   ·skip
    have c10b0 := decide_eq_false c10
    clear c10
    have H' := Aside0.mk H
    clear H
    go_wp2
    repeat (go_quiet (fail); try go_wp2)
    go_loopg [9] k1 (fun kq v9 w' => ∃ (x9_2 : Int), v9 = .int .i64 x9_2 ∧ Aside0 (spec_l3Find.l1 kq t284 x7_1 x9_2 a1_0 a1_1 a1_2 = some (r1, r2)) ∧ Aside0 (kq ≤ k1) ∧ Aside0 (Kd.R k88 88 w' w.heap.size (fun k_ => k_ ≠ gb283) (.slice Ao9 t284.length co9) t284) ∧ Aside0 (w'.heap[gb282]? = some (.cells #[(.slice A0_0 l0_0.length c0_0), .int .i64 a0_1] 25 (0, 0))) ∧ Aside0 (w'.heap[gb283]? = some (.cells #[.string a1_0, .string a1_1, .bool a1_2] 88 (0, 0))) ∧ Aside0 (Below w.heap.size w w'))
    case atStart => exact ⟨(0), zs, H', ⟨Nat.le_refl _⟩, ⟨by exact zr HO_6⟩, ⟨by exact zk BK282⟩, ⟨by exact zk BK283⟩, ⟨zb HB⟩⟩
    case round =>
     clear H'
     try clear c1
     try clear p2
     try clear q2
     try clear hx2
     try clear c6
     try clear p6
     try clear c10
     try clear c10b0
     try clear c11
     try clear c11b0
     try clear c12
     try clear c12b0
     try clear c13
     try clear c13b0
     try clear c13b1
     try clear c14
     try clear c16
     try clear hcz15_0
     try clear hcz15_1
     try clear hcz15_2
     try clear hcz17_0
     try clear hcz17_1
     try clear hcz17_2
     try clear hcz7_0
     try clear hcz7_1
     try clear hfz15_0
     try clear hfz15_1
     try clear hfz15_2
     try clear hfz17_0
     try clear hfz17_1
     try clear hfz17_2
     try clear hfz7_0
     try clear hfz7_1
     try clear hx287_0
     try clear hx287_1
     try clear hx287_2
     try clear p2
     try clear p287
     try clear p6
     try clear q287
     obtain ⟨x9_2, rfl, HA, HK2, HO_6, BK282, BK283, HB⟩ := hrel
     cases gk with
     | zero => exact absurd HA.out (by simp [spec_l3Find.l1])
     | succ k2 =>
      have H := HA.out
      clear HA
      simp only [spec_l3Find.l1] at H
      replace H := sp H
      rcases H with ⟨c18, H⟩ | ⟨c18, H⟩
      ·skip
       have c18b0 := decide_eq_true c18
       clear c18
       by_cases c19 : 0 ≤ x9_2
       ·rw [if_pos c19] at H
        have c19b0 := decide_eq_true c19
        clear c19
        by_cases c20 : ((rd_T88 t284 x9_2).f0).toList = a1_0.toList
        ·rw [if_pos c20] at H
         have c20b0 : (((rd_T88 t284 x9_2).f0).toList == a1_0.toList) = true := beq_iff_eq.mpr c20
         have c20b1 : (((rd_T88 t284 x9_2).f0).toList != a1_0.toList) = false := bne_eq_false_iff_eq.mpr c20
         clear c20
         have HC21 := Aside0.mk H
         clear H
         have p288 : 0 ≤ (x9_2 : Int) := of_decide_eq_true za
         have q288 : x9_2 < (t284.length : Int) := of_decide_eq_true za
         obtain ⟨ad288, e288, hx288_0, hx288_1, hx288_2⟩ := at_T88 (Kd.R_reads' HO_6.out).2.2 x9_2 p288 q288
         cases e288
         replace p288 := eq_true p288
         replace q288 := eq_true q288
         have hnb22 := NB283_282.out
         have hnc22 := NB282_283.out
         obtain ⟨hcz23_0, hcz23_1, hcz23_2, hfz23_0, hfz23_1, hfz23_2⟩ := c3 BK283
         have p289 : 0 ≤ (x9_2 : Int) := of_decide_eq_true za
         have q289 : x9_2 < (t284.length : Int) := of_decide_eq_true za
         obtain ⟨ad289, e289, hx289_0, hx289_1, hx289_2⟩ := at_T88 (Kd.R_reads' HO_6.out).2.2 x9_2 p289 q289
         obtain rfl : ad288 = ad289 := (by injection e289)
         replace p289 := eq_true p289
         replace q289 := eq_true q289
         go_upto_if 52 with (fail)
         repeat (go_quiet (fail); go_upto_if 52 with (fail))
         have H := HC21.out
         clear HC21
         by_cases c24 : ((rd_T88 t284 x9_2).f1).toList = a1_1.toList
         ·rw [if_pos c24] at H
          have c24b0 : (((rd_T88 t284 x9_2).f1).toList == a1_1.toList) = true := beq_iff_eq.mpr c24
          have c24b1 : (((rd_T88 t284 x9_2).f1).toList != a1_1.toList) = false := bne_eq_false_iff_eq.mpr c24
          clear c24
          (first | rw [c24b0] | rw [c24b1] | (simp only [i64_w, i32_w]; rw [c24b0]) | skip)
          simp only [Option.some.injEq, Prod.mk.injEq] at H
          obtain ⟨rfl, rfl⟩ := H
          go_wp2
          repeat (go_quiet (fail); try go_wp2)
          go_ret2
          exact ⟨ze, zb HB⟩
         ·rw [if_neg c24] at H
          have c24b0 : (((rd_T88 t284 x9_2).f1).toList == a1_1.toList) = false := beq_eq_false_iff_ne.mpr c24
          have c24b1 : (((rd_T88 t284 x9_2).f1).toList != a1_1.toList) = true := bne_iff_ne.mpr c24
          (first | rw [c24b0] | rw [c24b1] | (simp only [i64_w, i32_w]; rw [c24b0]) | skip)
          have H' := Aside0.mk H
          clear H
          go_wp2
          repeat (go_quiet (fail); try go_wp2)
          go_roundg k2
          case measure => have := HK1.out; have := HK2.out; omega
          case rel => exact ⟨(wrap64 (x9_2 + 1)), zs, H', ⟨by have := HK1.out; have := HK2.out; omega⟩, ⟨by exact zr HO_6⟩, ⟨by exact zk BK282⟩, ⟨by exact zk BK283⟩, ⟨zb HB⟩⟩
        ·rw [if_neg c20] at H
         have c20b0 : (((rd_T88 t284 x9_2).f0).toList == a1_0.toList) = false := beq_eq_false_iff_ne.mpr c20
         have c20b1 : (((rd_T88 t284 x9_2).f0).toList != a1_0.toList) = true := bne_iff_ne.mpr c20
         have H' := Aside0.mk H
         clear H
         have p288 : 0 ≤ (x9_2 : Int) := of_decide_eq_true za
         have q288 : x9_2 < (t284.length : Int) := of_decide_eq_true za
         obtain ⟨ad288, e288, hx288_0, hx288_1, hx288_2⟩ := at_T88 (Kd.R_reads' HO_6.out).2.2 x9_2 p288 q288
         cases e288
         replace p288 := eq_true p288
         replace q288 := eq_true q288
         have hnb25 := NB283_282.out
         have hnc25 := NB282_283.out
         obtain ⟨hcz26_0, hcz26_1, hcz26_2, hfz26_0, hfz26_1, hfz26_2⟩ := c3 BK283
         go_wp2
         repeat (go_quiet (fail); try go_wp2)
         go_roundg k2
         case measure => have := HK1.out; have := HK2.out; omega
         case rel => exact ⟨(wrap64 (x9_2 + 1)), zs, H', ⟨by have := HK1.out; have := HK2.out; omega⟩, ⟨by exact zr HO_6⟩, ⟨by exact zk BK282⟩, ⟨by exact zk BK283⟩, ⟨zb HB⟩⟩
       ·rw [if_neg c19] at H
        exact absurd H (by simp)
      ·skip
       have c18b0 := decide_eq_false c18
       clear c18
       simp only [Option.some.injEq, Prod.mk.injEq] at H
       obtain ⟨rfl, rfl⟩ := H
       go_wp2
       repeat (go_quiet (fail); try go_wp2)
       go_ret2
       exact ⟨ze, zb HB⟩

/-! ### spec_l1Top: function 162 -/
-- thin
def spec_l1Top.l0 : Nat → Int → Int → Int → Option (Int)
 | 0, _, _, _ => none
 | k + 1, x0, x3, x4 => if x4 < x0 then (spec_l1Top.l0 k x0 (wrap64 (2 * x3)) (wrap64 (x4 + 1))) else (some x3)
def spec_l1Top.f (k : Nat) (a0 : Int) : Option (Int) := spec_l1Top.l0 k a0 1 0
theorem spec_l1Top.mono_l : ∀ k, (∀ y0 y1 y2, LeO (spec_l1Top.l0 k y0 y1 y2) (spec_l1Top.l0 (k + 1) y0 y1 y2))
 | 0 => fun _ _ _ r h => by simp [spec_l1Top.l0] at h
 | k + 1 => by
  have ih0 := spec_l1Top.mono_l k
  ·intro y0 y1 y2
   unfold spec_l1Top.l0
   exact zm
theorem spec_l1Top.mono : ∀ a0 k, LeO (spec_l1Top.f k a0) (spec_l1Top.f (k + 1) a0) := by
 intro a0 k
 have ih0 := spec_l1Top.mono_l k
 unfold spec_l1Top.f
 exact zm
set_option maxHeartbeats 8000000 in
set_option maxRecDepth 100000 in
theorem spec_l1Top.calls (k : Nat) (a0 : Int) (r : Int) (w : World) (h : spec_l1Top.f k a0 = some r) :
  Calls Try.prog 162 #[.int .i64 a0] w fun e w' => e = .returned (.int .i64 r) ∧ Drawn0 w w' := by
 have H : (spec_l1Top.l0 k a0 1 0) = some r := h
 clear h
 have H' := Aside0.mk H
 clear H
 go_enter Try.func162, Try.ntmps162
 go_wp2
 go_loopg [3, 4] k (fun kq v3 v4 w' => ∃ (x3_1 : Int) (x4_1 : Int), v3 = .int .i64 x3_1 ∧ v4 = .int .i64 x4_1 ∧ Aside0 (spec_l1Top.l0 kq a0 x3_1 x4_1 = some r) ∧ Aside0 (kq ≤ k) ∧ Drawn0 w w')
 case atStart => exact ⟨(1), (0), zs, zs, H', ⟨Nat.le_refl _⟩, by repeat (first | exact Drawn0.refl _ | apply Drawn0.step)⟩
 case round =>
  clear H'
  try clear c1
  obtain ⟨x3_1, x4_1, rfl, rfl, HA, HK1, ⟨m1, rfl⟩⟩ := hrel
  cases gk with
  | zero => exact absurd HA.out (by simp [spec_l1Top.l0])
  | succ k1 =>
   have H := HA.out
   clear HA
   simp only [spec_l1Top.l0] at H
   replace H := sp H
   rcases H with ⟨c2, H⟩ | ⟨c2, H⟩
   ·skip
    have c2b0 := decide_eq_true c2
    clear c2
    have H' := Aside0.mk H
    clear H
    go_wp2
    go_roundg k1
    case measure => have := HK1.out; omega
    case rel => exact ⟨(wrap64 (2 * x3_1)), (wrap64 (x4_1 + 1)), zs, zs, H', ⟨by have := HK1.out; omega⟩, by repeat (first | exact Drawn0.refl _ | apply Drawn0.step)⟩
   ·skip
    have c2b0 := decide_eq_false c2
    clear c2
    obtain rfl := Option.some.inj H
    go_wp2
    go_ret
    exact ⟨zs, by repeat (first | exact Drawn0.refl _ | apply Drawn0.step)⟩

/-! ### spec_l1Write: function 145 -/
-- thin
def spec_l1Write.l0 : Nat → Int → ByteArray → Option (ByteArray)
 | 0, _, _ => none
 | k + 1, x0, x8 => if x0 ≥ 128 then ((spec_l1Byte.f (wrap64 ((Int.tmod x0 128) + 128))).bind fun t293 => (if x8.size + t293.size ≤ 9223372036854775807 then (spec_l1Write.l0 k (wrap64 (Int.tdiv x0 128)) (x8 ++ t293)) else (none))) else ((spec_l1Byte.f x0).bind fun t294 => (if x8.size + t294.size ≤ 9223372036854775807 then (some (x8 ++ t294)) else (none)))
def spec_l1Write.f (k : Nat) (a0 : Int) (a1 : Int) (a2 : Int) : Option (ByteArray) := (spec_l1Top.f k a1).bind fun t290 => (if a0 < (wrap64 (t290 - 1)) then ((spec_l1Byte.f (wrap64 ((wrap64 (a2 * (wrap64 ((wrap64 (t290 - 1)) + 1)))) + a0))).bind fun t291 => (some t291)) else ((spec_l1Byte.f (wrap64 ((wrap64 (a2 * (wrap64 ((wrap64 (t290 - 1)) + 1)))) + (wrap64 (t290 - 1))))).bind fun t292 => (spec_l1Write.l0 k (wrap64 (a0 - (wrap64 (t290 - 1)))) t292)))
theorem spec_l1Write.mono_l : ∀ k, (∀ y0 y1, LeO (spec_l1Write.l0 k y0 y1) (spec_l1Write.l0 (k + 1) y0 y1))
 | 0 => fun _ _ r h => by simp [spec_l1Write.l0] at h
 | k + 1 => by
  have ih0 := spec_l1Write.mono_l k
  ·intro y0 y1
   unfold spec_l1Write.l0
   have m0 := @spec_l1Top.mono
   exact zm
theorem spec_l1Write.mono : ∀ a0 a1 a2 k, LeO (spec_l1Write.f k a0 a1 a2) (spec_l1Write.f (k + 1) a0 a1 a2) := by
 intro a0 a1 a2 k
 have ih0 := spec_l1Write.mono_l k
 unfold spec_l1Write.f
 have m0 := @spec_l1Top.mono
 exact zm
set_option maxHeartbeats 8000000 in
set_option maxRecDepth 100000 in
theorem spec_l1Write.calls (k : Nat) (a0 : Int) (a1 : Int) (a2 : Int) (r : ByteArray) (w : World) (h : spec_l1Write.f k a0 a1 a2 = some r) :
  Calls Try.prog 145 #[.int .i64 a0, .int .i64 a1, .int .i64 a2] w fun e w' => e = .returned (.string r) ∧ Below w.heap.size w w' := by
 have HB := Aside0.mk (Below.refl w.heap.size w)
 have H : ((spec_l1Top.f k a1).bind fun t290 => (if a0 < (wrap64 (t290 - 1)) then ((spec_l1Byte.f (wrap64 ((wrap64 (a2 * (wrap64 ((wrap64 (t290 - 1)) + 1)))) + a0))).bind fun t291 => (some t291)) else ((spec_l1Byte.f (wrap64 ((wrap64 (a2 * (wrap64 ((wrap64 (t290 - 1)) + 1)))) + (wrap64 (t290 - 1))))).bind fun t292 => (spec_l1Write.l0 k (wrap64 (a0 - (wrap64 (t290 - 1)))) t292)))) = some r := h
 clear h
 obtain ⟨t290, A4, H⟩ := ob H
 (try dsimp only at H)
 replace H := sp H
 rcases H with ⟨c5, H⟩ | ⟨c5, H⟩
 ·skip
  have c5b0 := decide_eq_true c5
  clear c5
  obtain ⟨t291, A6, H⟩ := ob H
  (try dsimp only at H)
  obtain rfl := Option.some.inj H
  go_enter Try.func145, Try.ntmps145
  go_wp2_with (first | ((with_reducible refine gq 162 rfl ?_); refine gl (some 10) Try.func162 #[.int .i64 a1] ?_; (with_reducible refine (spec_l1Top.calls k a1 t290 _ A4.out).mono ?_); rintro e w' ⟨rfl, ⟨nd, rfl⟩⟩; refine ⟨_, rfl, ?_⟩) | ((with_reducible refine gq 158 rfl ?_); refine gl (some 21) Try.func158 #[.int .i64 (wrap64 ((wrap64 (a2 * (wrap64 ((wrap64 (t290 - 1)) + 1)))) + a0))] ?_; (with_reducible refine (spec_l1Byte.calls (wrap64 ((wrap64 (a2 * (wrap64 ((wrap64 (t290 - 1)) + 1)))) + a0)) t291 _ A6.out).mono ?_); rintro e w7 ⟨rfl, hb⟩; refine ⟨_, rfl, ?_⟩; replace HB := Aside0.mk (below_step (zb HB) hb); (try clear hb)))
  go_ret
  exact ⟨ze, zb HB⟩
 ·skip
  have c5b0 := decide_eq_false c5
  clear c5
  obtain ⟨t292, A8, H⟩ := ob H
  (try dsimp only at H)
  have H' := Aside0.mk H
  clear H
  go_enter Try.func145, Try.ntmps145
  go_wp2_with (first | ((with_reducible refine gq 162 rfl ?_); refine gl (some 10) Try.func162 #[.int .i64 a1] ?_; (with_reducible refine (spec_l1Top.calls k a1 t290 _ A4.out).mono ?_); rintro e w' ⟨rfl, ⟨nd, rfl⟩⟩; refine ⟨_, rfl, ?_⟩) | ((with_reducible refine gq 158 rfl ?_); refine gl (some 28) Try.func158 #[.int .i64 (wrap64 ((wrap64 (a2 * (wrap64 ((wrap64 (t290 - 1)) + 1)))) + (wrap64 (t290 - 1))))] ?_; (with_reducible refine (spec_l1Byte.calls (wrap64 ((wrap64 (a2 * (wrap64 ((wrap64 (t290 - 1)) + 1)))) + (wrap64 (t290 - 1)))) t292 _ A8.out).mono ?_); rintro e w9 ⟨rfl, hb⟩; refine ⟨_, rfl, ?_⟩; replace HB := Aside0.mk (below_step (zb HB) hb); (try clear hb)))
  go_loopg [0, 8] k (fun kq v0 v8 w' => ∃ (x0_1 : Int) (x8_1 : ByteArray), v0 = .int .i64 x0_1 ∧ v8 = .string x8_1 ∧ Aside0 (spec_l1Write.l0 kq x0_1 x8_1 = some r) ∧ Aside0 (kq ≤ k) ∧ Aside0 (Below w.heap.size w w'))
  case atStart => exact ⟨(wrap64 (a0 - (wrap64 (t290 - 1)))), (t292), zs, zs, H', ⟨Nat.le_refl _⟩, ⟨zb HB⟩⟩
  case round =>
   clear H'
   try clear c1
   try clear p2
   try clear c5
   try clear c5b0
   try clear p6
   obtain ⟨x0_1, x8_1, rfl, rfl, HA, HK1, HB⟩ := hrel
   cases gk with
   | zero => exact absurd HA.out (by simp [spec_l1Write.l0])
   | succ k1 =>
    have H := HA.out
    clear HA
    simp only [spec_l1Write.l0] at H
    replace H := sp H
    rcases H with ⟨c10, H⟩ | ⟨c10, H⟩
    ·skip
     have c10b0 := decide_eq_true c10
     clear c10
     obtain ⟨t293, A11, H⟩ := ob H
     (try dsimp only at H)
     by_cases c12 : x8_1.size + t293.size ≤ 9223372036854775807
     ·rw [if_pos c12] at H
      have c12b0 := eq_true c12
      have c12b1 := decide_eq_true c12
      try have c12b2 : (9223372036854775807 < x8_1.size + t293.size) = False := eq_false (Nat.not_lt.2 c12)
      have H' := Aside0.mk H
      clear H
      go_wp2_with (first | ((with_reducible refine gq 158 rfl ?_); refine gl (some 38) Try.func158 #[.int .i64 (wrap64 ((Int.tmod x0_1 128) + 128))] ?_; (with_reducible refine (spec_l1Byte.calls (wrap64 ((Int.tmod x0_1 128) + 128)) t293 _ A11.out).mono ?_); rintro e w13 ⟨rfl, hb⟩; refine ⟨_, rfl, ?_⟩; replace HB := Aside0.mk (below_step (zb HB) hb); (try clear hb)))
      go_roundg k1
      case measure => have := HK1.out; omega
      case rel => exact ⟨(wrap64 (Int.tdiv x0_1 128)), (x8_1 ++ t293), zs, zs, H', ⟨by have := HK1.out; omega⟩, ⟨zb HB⟩⟩
     ·rw [if_neg c12] at H
      exact absurd H (by simp)
    ·skip
     have c10b0 := decide_eq_false c10
     clear c10
     obtain ⟨t294, A14, H⟩ := ob H
     (try dsimp only at H)
     replace H := sp H
     rcases H with ⟨c15, H⟩ | ⟨c15, H⟩
     ·skip
      have c15b0 := eq_true c15
      have c15b1 := decide_eq_true c15
      try have c15b2 : (9223372036854775807 < x8_1.size + t294.size) = False := eq_false (Nat.not_lt.2 c15)
      obtain rfl := Option.some.inj H
      go_wp2_with (first | ((with_reducible refine gq 158 rfl ?_); refine gl (some 44) Try.func158 #[.int .i64 x0_1] ?_; (with_reducible refine (spec_l1Byte.calls x0_1 t294 _ A14.out).mono ?_); rintro e w16 ⟨rfl, hb⟩; refine ⟨_, rfl, ?_⟩; replace HB := Aside0.mk (below_step (zb HB) hb); (try clear hb)))
      go_ret
      exact ⟨ze, zb HB⟩
     ·skip
      exact absurd H (by simp)

/-! ### spec_l2Bits: function 169 -/
-- thin
def spec_l2Bits.l0 : Nat → Int → List Int → Int → Option (List Int)
 | 0, _, _, _ => none
 | k + 1, x0, x5, x6 => if x6 ≥ 0 then (if 0 ≤ x6 then (if x6 < (x5.length : Int) then (spec_l2Bits.l0 k (wrap64 (Int.tdiv x0 2)) (x5.set (x6 : Int).toNat (Int.tmod x0 2)) (wrap64 (x6 - 1))) else (none)) else (none)) else (some x5)
def spec_l2Bits.f (k : Nat) (a0 : Int) (a1 : Int) : Option (List Int) := if 0 ≤ a1 then (if (a1 : Int).toNat ≤ 35184372088832 then (spec_l2Bits.l0 k a0 (List.replicate (a1 : Int).toNat 0) (wrap64 (a1 - 1))) else (none)) else (none)
theorem spec_l2Bits.mono_l : ∀ k, (∀ y0 y1 y2, LeO (spec_l2Bits.l0 k y0 y1 y2) (spec_l2Bits.l0 (k + 1) y0 y1 y2))
 | 0 => fun _ _ _ r h => by simp [spec_l2Bits.l0] at h
 | k + 1 => by
  have ih0 := spec_l2Bits.mono_l k
  ·intro y0 y1 y2
   unfold spec_l2Bits.l0
   exact zm
theorem spec_l2Bits.mono : ∀ a0 a1 k, LeO (spec_l2Bits.f k a0 a1) (spec_l2Bits.f (k + 1) a0 a1) := by
 intro a0 a1 k
 have ih0 := spec_l2Bits.mono_l k
 unfold spec_l2Bits.f
 exact zm
set_option maxHeartbeats 8000000 in
set_option maxRecDepth 100000 in
theorem spec_l2Bits.calls (k : Nat) (a0 : Int) (a1 : Int) (r : List Int) (w : World) (h : spec_l2Bits.f k a0 a1 = some r) :
  Calls Try.prog 169 #[.int .i64 a0, .int .i64 a1] w fun e w' => ∃ v0_ : Value, e = .returned (v0_) ∧ Kd.R (Kd.int .i64) 3 w' w.heap.size (fun _ => True) v0_ r ∧ Below w.heap.size w w' := by
 have HB := Aside0.mk (Below.refl w.heap.size w)
 have H : (if 0 ≤ a1 then (if (a1 : Int).toNat ≤ 35184372088832 then (spec_l2Bits.l0 k a0 (List.replicate (a1 : Int).toNat 0) (wrap64 (a1 - 1))) else (none)) else (none)) = some r := h
 clear h
 replace H := sp H
 rcases H with ⟨c3, H⟩ | ⟨c3, H⟩
 ·skip
  have c3b0 := eq_true c3
  have c3b1 := decide_eq_true c3
  clear c3
  by_cases c4 : (a1 : Int).toNat ≤ 35184372088832
  ·rw [if_pos c4] at H
   have c4b0 := eq_true c4
   have c4b1 := decide_eq_true c4
   clear c4
   obtain ⟨y295, hy295⟩ : ∃ y_ : List Int, y_ = (List.replicate (a1 : Int).toNat 0) := ⟨_, rfl⟩
   replace H : (spec_l2Bits.l0 k a0 y295 (wrap64 (a1 - 1))) = some r := by first | (rw [hy295]; with_reducible exact H) | (have H2_ := (Option.bind_some _ _).symm.trans H; rw [hy295]; with_reducible exact H2_) | (have H2_ := (Option.bind_some _ _).symm.trans H; with_reducible exact H2_) | with_reducible exact H | (rw [hy295]; exact H) | exact H
   have Ny295 := Aside0.mk hy295
   clear hy295
   have H' := Aside0.mk H
   clear H
   go_enter Try.func169, Try.ntmps169
   go_wp2_with (first | ((with_reducible refine gd 8 rfl ?_); refine Kd.R_make (Kd.int .i64) _ 3 rfl (N := 8) rfl 140 _ _ rfl a1 rfl rfl Try.underlying140 (.int .i64 0) 8 info3 rfl (by decide) (by omega) 0 (ok := fun _ => True) (okp := fun _ => True) rfl (fun _ hk => hk) trivial (of_decide_eq_true za) (Nat.le_trans (Nat.mul_le_mul_right _ (of_decide_eq_true za : a1.toNat ≤ 35184372088832)) (by omega)) (Below.refl _ _) (Nat.le_refl _) ?_; intro v296 w5 ho6 hb hg_ hnew_; clear hg_ hnew_; (first | rw [← Ny295.out] at ho6 | (simp only [Int.reduceToNat] at ho6; rw [← Ny295.out] at ho6)); have HO297 := Aside0.mk (Kd.R_lower ho6 (below_size (zb HB))); replace HB := Aside0.mk (below_step (zb HB) hb); clear hb ho6))
   go_loopg [0, 6] k (fun kq v0 v6 w' => ∃ (x0_1 : Int) (x5_1 : List Int) (x6_1 : Int), v0 = .int .i64 x0_1 ∧ v6 = .int .i64 x6_1 ∧ Aside0 (spec_l2Bits.l0 kq x0_1 x5_1 x6_1 = some r) ∧ Aside0 (kq ≤ k) ∧ Aside0 (Kd.R (Kd.int .i64) 3 w' w.heap.size (fun _ => True) v296 x5_1) ∧ Aside0 (Below w.heap.size w w'))
   case atStart => exact ⟨(a0), (y295), (wrap64 (a1 - 1)), zs, zs, H', ⟨Nat.le_refl _⟩, ⟨by exact zr HO297⟩, ⟨zb HB⟩⟩
   case round =>
    clear H'
    try clear c1
    try clear p2
    try clear c3
    try clear c3b0
    try clear c3b1
    try clear c4
    try clear c4b0
    try clear c4b1
    try clear p6
    obtain ⟨x0_1, x5_1, x6_1, rfl, rfl, HA, HK1, HO_5, HB⟩ := hrel
    cases gk with
    | zero => exact absurd HA.out (by simp [spec_l2Bits.l0])
    | succ k1 =>
     have H := HA.out
     clear HA
     simp only [spec_l2Bits.l0] at H
     by_cases c7 : x6_1 ≥ 0
     ·rw [if_pos c7] at H
      have c7b0 := decide_eq_true c7
      clear c7
      by_cases c8 : 0 ≤ x6_1
      ·rw [if_pos c8] at H
       have c8b0 := decide_eq_true c8
       clear c8
       by_cases c9 : x6_1 < (x5_1.length : Int)
       ·rw [if_pos c9] at H
        have c9b0 := decide_eq_true c9
        clear c9
        obtain ⟨y298, hy298⟩ : ∃ y_ : List Int, y_ = (x5_1.set (x6_1 : Int).toNat (Int.tmod x0_1 2)) := ⟨_, rfl⟩
        replace H : (spec_l2Bits.l0 k1 (wrap64 (Int.tdiv x0_1 2)) y298 (wrap64 (x6_1 - 1))) = some r := by first | (rw [hy298]; with_reducible exact H) | (have H2_ := (Option.bind_some _ _).symm.trans H; rw [hy298]; with_reducible exact H2_) | (have H2_ := (Option.bind_some _ _).symm.trans H; with_reducible exact H2_) | with_reducible exact H | (rw [hy298]; exact H) | exact H
        have Ny298 := Aside0.mk hy298
        clear hy298
        have H' := Aside0.mk H
        clear H
        have p10 : 0 ≤ (x6_1 : Int) := of_decide_eq_true za
        have q10 : (x6_1 : Int) < ((x5_1.length : Int) : Int) := of_decide_eq_true za
        obtain ⟨go10, co10, eo10, gb10, gl10, cl10, HG10⟩ := Kd.R_form HO_5.out (by omega)
        (first | cases eo10 | (injection eo10 with ea_ en_ ec_; (first | subst ea_ | (injection ea_ with ea_; subst ea_)); subst ec_; clear en_))
        have GB10 := Aside0.mk gb10
        have GG10 := Aside0.mk HG10
        clear gb10 gl10 HG10
        obtain ⟨hx10_0, hf10_0⟩ := Kd.R_celln 0 HO_5.out (x6_1 : Int) p10 q10
        replace p10 := eq_true p10
        replace q10 := eq_true q10
        have HP11 := Kd.R_putg HO_5.out (x6_1 : Int) (Int.tmod x0_1 2)
        go_wp2_with (first | ((with_reducible refine gate_store (t := 3) (p := 19) rfl ?_); refine store_event (t := 3) (p := 19) (v := ?vo_w12) (w1 := (wr.setCell ⟨go10, (x6_1 : Int).toNat, none⟩ (.int .i64 (Int.tmod x0_1 2)))) ?hg ?ho ?hn ?hr ?_; (case ho => rfl); (case hg => rfl); (case hn => rfl); (case hr => first | (go_simp; done) | (go_simp; rfl)); intro w12 hw; have hg : wr.grownBy w12 (some go10) := (by rw [hw]; exact HP11.2); have hp_ : Kd.R (Kd.int .i64) 3 w12 w.heap.size (fun _ => True) (.slice (some ⟨go10, 0, none⟩) x5_1.length co10) y298 := (by rw [hw, Ny298.out]; exact HP11.1); clear HP11; replace HO_5 := Aside0.mk (hp_); replace HB := Aside0.mk ((by rw [hw]; exact below_set (HB.out) GB10.out : Below w.heap.size w w12)); clear hg hw hp_))
        go_roundg k1
        case measure => have := HK1.out; omega
        case rel => exact ⟨(wrap64 (Int.tdiv x0_1 2)), (y298), (wrap64 (x6_1 - 1)), zs, zs, H', ⟨by have := HK1.out; omega⟩, ⟨by exact zr HO_5⟩, ⟨zb HB⟩⟩
       ·rw [if_neg c9] at H
        exact absurd H (by simp)
      ·rw [if_neg c8] at H
       exact absurd H (by simp)
     ·rw [if_neg c7] at H
      have c7b0 := decide_eq_false c7
      clear c7
      obtain rfl := Option.some.inj H
      go_wp2
      go_ret
      exact ⟨_, ze, by (with_reducible repeat (first | apply Kd.R_alloc | apply Kd.R_drewN | apply Kd.R_drew)); exact HO_5.out, zb HB⟩
  ·rw [if_neg c4] at H
   exact absurd H (by simp)
 ·skip
  exact absurd H (by simp)

/-! ### spec_l2Num: function 170 -/
-- thin
def spec_l2Num.l0 : Nat → List Int → Int → Int → Option (Int)
 | 0, _, _, _ => none
 | k + 1, x0, x3, x4 => if x4 < (x0.length : Int) then (if 0 ≤ x4 then (spec_l2Num.l0 k x0 (wrap64 ((wrap64 (2 * x3)) + (rd x0 x4))) (wrap64 (x4 + 1))) else (none)) else (some x3)
def spec_l2Num.f (k : Nat) (l0 : List Int) : Option (Int) := spec_l2Num.l0 k l0 0 0
theorem spec_l2Num.mono_l : ∀ k, (∀ y0 y1 y2, LeO (spec_l2Num.l0 k y0 y1 y2) (spec_l2Num.l0 (k + 1) y0 y1 y2))
 | 0 => fun _ _ _ r h => by simp [spec_l2Num.l0] at h
 | k + 1 => by
  have ih0 := spec_l2Num.mono_l k
  ·intro y0 y1 y2
   unfold spec_l2Num.l0
   exact zm
theorem spec_l2Num.mono : ∀ a0 k, LeO (spec_l2Num.f k a0) (spec_l2Num.f (k + 1) a0) := by
 intro a0 k
 have ih0 := spec_l2Num.mono_l k
 unfold spec_l2Num.f
 exact zm
set_option maxHeartbeats 8000000 in
set_option maxRecDepth 100000 in
theorem spec_l2Num.calls (k : Nat) (A0 : Option Addr) (c0 : Nat) (l0 : List Int) (r : Int) (w : World) (hr0 : Kd.C (Kd.int .i64) w A0 l0.length l0) (hc0 : l0.length ≤ c0) (h : spec_l2Num.f k l0 = some r) :
  Calls Try.prog 170 #[.slice A0 l0.length c0] w fun e w' => e = .returned (.int .i64 r) ∧ Drawn0 w w' := by
 have HR0 := Aside0.mk hr0
 have HC0 := Aside0.mk hc0
 clear hr0 hc0
 have H : (spec_l2Num.l0 k l0 0 0) = some r := h
 clear h
 have H' := Aside0.mk H
 clear H
 go_enter Try.func170, Try.ntmps170
 go_wp2
 go_loopg [3, 4] k (fun kq v3 v4 w' => ∃ (x3_1 : Int) (x4_1 : Int), v3 = .int .i64 x3_1 ∧ v4 = .int .i64 x4_1 ∧ Aside0 (spec_l2Num.l0 kq l0 x3_1 x4_1 = some r) ∧ Aside0 (kq ≤ k) ∧ Drawn0 w w')
 case atStart => exact ⟨(0), (0), zs, zs, H', ⟨Nat.le_refl _⟩, by repeat (first | exact Drawn0.refl _ | apply Drawn0.step)⟩
 case round =>
  clear H'
  try clear c1
  obtain ⟨x3_1, x4_1, rfl, rfl, HA, HK1, ⟨m1, rfl⟩⟩ := hrel
  cases gk with
  | zero => exact absurd HA.out (by simp [spec_l2Num.l0])
  | succ k1 =>
   have H := HA.out
   clear HA
   simp only [spec_l2Num.l0] at H
   replace H := sp H
   rcases H with ⟨c2, H⟩ | ⟨c2, H⟩
   ·skip
    have c2b0 := decide_eq_true c2
    clear c2
    by_cases c3 : 0 ≤ x4_1
    ·rw [if_pos c3] at H
     have c3b0 := decide_eq_true c3
     clear c3
     have H' := Aside0.mk H
     clear H
     have p299 : 0 ≤ (x4_1 : Int) := of_decide_eq_true za
     have q299 : x4_1 < (l0.length : Int) := of_decide_eq_true za
     obtain ⟨ad299, e299, hx299_0⟩ := Kd.at_int HR0.out x4_1 p299 q299
     cases e299
     replace p299 := eq_true p299
     replace q299 := eq_true q299
     go_wp2
     go_roundg k1
     case measure => have := HK1.out; omega
     case rel => exact ⟨(wrap64 ((wrap64 (2 * x3_1)) + (rd l0 x4_1))), (wrap64 (x4_1 + 1)), zs, zs, H', ⟨by have := HK1.out; omega⟩, by repeat (first | exact Drawn0.refl _ | apply Drawn0.step)⟩
    ·rw [if_neg c3] at H
     exact absurd H (by simp)
   ·skip
    have c2b0 := decide_eq_false c2
    clear c2
    obtain rfl := Option.some.inj H
    go_wp2
    go_ret
    exact ⟨zs, by repeat (first | exact Drawn0.refl _ | apply Drawn0.step)⟩

end Go.Proofs.Ytlpibelofcabhaa.PFnHeadBack
