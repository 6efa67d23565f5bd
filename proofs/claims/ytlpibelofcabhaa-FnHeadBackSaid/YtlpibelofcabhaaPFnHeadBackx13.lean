-- WRITTEN BY a turned print (wip/tools of the prover's repo)
import Derived.Test.YtlpibelofcabhaaPFnHeadBackx0
import Derived.Test.YtlpibelofcabhaaPFnHeadBackx7
import Derived.Test.YtlpibelofcabhaaPFnHeadBackx11
import Derived.Test.YtlpibelofcabhaaPFnHeadBackx12
namespace Go.Proofs.Ytlpibelofcabhaa.PFnHeadBack
open Go.RowKit Go.Proofs.YtlpibelofcabhaaW.PrintWords Go.Proofs.YtlpibelofcabhaaW.PrintLast Go.Proofs.YtlpibelofcabhaaW.PrintMore Go.Proofs.Ytlpibelofcabhaa.Lm
attribute [local go_sem] max2_int min2_int max_two min_two max_three min_three max_four min_four   -- for this text's walks alone
set_option linter.unusedVariables false
set_option linter.unusedSimpArgs false

/-! ### impl_Table_field: function 58 -/
-- thin
def impl_Table_field.j0 : Nat → ByteArray → Int → List (S88) → Int → Option (ByteArray × ByteArray × Bool × Int × Int × Bool)
 | 0, _, _, _, _ => none
 | k + 1, x1, x8, x508000, x508001 => (impl_NumRead.f k x1 x8).bind fun bt509 => (if bt509.2.2 = true then ((impl_Table_at.f x508000 x508001 bt509.1).bind fun bt512 => (if x8 = 7 then (some (bt512.1, bt512.2.1, bt512.2.2.1, bt509.2.1, x8, bt512.2.2.2)) else (if bt509.1 = 0 then (if 0 ≤ bt509.2.1 then (if bt509.2.1 ≤ (x1.size : Int) then ((impl_WordRead.f k (x1.extract (bt509.2.1 : Int).toNat x1.size)).bind fun bt517 => (if bt517.2.2 = true then (if 0 ≤ (wrap64 (bt509.2.1 + bt517.2.1)) then (if (wrap64 (bt509.2.1 + bt517.2.1)) ≤ (x1.size : Int) then ((impl_WordRead.f k (x1.extract ((wrap64 (bt509.2.1 + bt517.2.1)) : Int).toNat x1.size)).bind fun bt520 => (if bt520.2.2 = true then ((impl_FieldOk.f k bt517.1 bt520.1 (x8 == 4)).bind fun t523 => (some (bt517.1, bt520.1, (x8 == 4), wrap64 ((wrap64 (bt509.2.1 + bt517.2.1)) + bt520.2.1), x8, t523))) else (some (bt517.1, bt520.1, (x8 == 4), wrap64 ((wrap64 (bt509.2.1 + bt517.2.1)) + bt520.2.1), x8, false)))) else (none)) else (none)) else (some ((⟨#[]⟩ : ByteArray), (⟨#[]⟩ : ByteArray), false, 0, 0, false)))) else (none)) else (none)) else (if bt512.2.2.2 = true then (if 0 ≤ bt509.2.1 then (if bt509.2.1 ≤ (x1.size : Int) then ((impl_WordRead.f k (x1.extract (bt509.2.1 : Int).toNat x1.size)).bind fun bt524 => (if bt524.2.2 = true then ((impl_FieldOk.f k bt512.1 bt524.1 (x8 == 4)).bind fun t527 => (some (bt512.1, bt524.1, (x8 == 4), wrap64 (bt509.2.1 + bt524.2.1), x8, t527))) else (some (bt512.1, bt524.1, (x8 == 4), wrap64 (bt509.2.1 + bt524.2.1), x8, false)))) else (none)) else (none)) else (some ((⟨#[]⟩ : ByteArray), (⟨#[]⟩ : ByteArray), false, 0, 0, false)))))) else (some ((⟨#[]⟩ : ByteArray), (⟨#[]⟩ : ByteArray), false, 0, 0, false)))
def impl_Table_field.f (k : Nat) (l0_0 : List (S88)) (a0_1 : Int) (a1 : ByteArray) : Option (ByteArray × ByteArray × Bool × Int × Int × Bool) := if 0 < (a1.size : Int) then (if (bt a1 0) ≥ 128 then (impl_Table_field.j0 k a1 7 l0_0 a0_1) else (if (bt a1 0) ≥ 64 then (impl_Table_field.j0 k a1 6 l0_0 a0_1) else (if (bt a1 0) ≥ 16 then (if (bt a1 0) < 32 then (impl_Table_field.j0 k a1 4 l0_0 a0_1) else (some ((⟨#[]⟩ : ByteArray), (⟨#[]⟩ : ByteArray), false, 0, 0, false))) else (some ((⟨#[]⟩ : ByteArray), (⟨#[]⟩ : ByteArray), false, 0, 0, false))))) else (none)
theorem impl_Table_field.mono_l : ∀ k, (∀ y0 y1 y2 y3, LeO (impl_Table_field.j0 k y0 y1 y2 y3) (impl_Table_field.j0 (k + 1) y0 y1 y2 y3))
 | 0 => fun _ _ _ _ r h => by simp [impl_Table_field.j0] at h
 | k + 1 => by
  have ih0 := impl_Table_field.mono_l k
  ·intro y0 y1 y2 y3
   unfold impl_Table_field.j0
   have m0 := @impl_FieldOk.mono
   have m1 := @impl_NumRead.mono
   have m2 := @impl_WordRead.mono
   exact zm
theorem impl_Table_field.mono : ∀ a0 a1 a2 k, LeO (impl_Table_field.f k a0 a1 a2) (impl_Table_field.f (k + 1) a0 a1 a2) := by
 intro a0 a1 a2 k
 have ih0 := impl_Table_field.mono_l k
 unfold impl_Table_field.f
 have m0 := @impl_FieldOk.mono
 have m1 := @impl_NumRead.mono
 have m2 := @impl_WordRead.mono
 exact zm
def impl_Table_field.T25 : Bool × List (List Nat × List Nat) := (true, [([], []), ([], []), ([], []), ([1, 2], [1, 2]), ([], []), ([], []), ([5], [5]), ([6], [6]), ([7, 6, 6], [6, 7]), ([6, 8], [6, 8]), ([0, 8, 0], [0]), ([3, 10, 0, 1, 2, 3, 10], [3]), ([4, 11, 0, 1, 2, 3, 4, 10, 11], [4]), ([9, 12, 0, 1, 2, 3, 4, 5, 6, 7, 8, 9, 10, 11, 12], [9])])
def impl_Table_field.B25 : List Nat := [0, 0, 0, 6, 0, 0, 32, 96, 224, 480, 481, 1519, 3583, 8191]
theorem impl_Table_field.tab25 : rtab .any (opsOf Try.f58 25) = impl_Table_field.T25 := by kernel_rfl
theorem impl_Table_field.bits25 : waitsOk impl_Table_field.T25.2 impl_Table_field.B25 = true := by kernel_rfl
set_option maxHeartbeats 8000000 in
set_option maxRecDepth 100000 in
theorem impl_Table_field.calls (k : Nat) (A0_0 : Option Addr) (c0_0 : Nat) (l0_0 : List (S88)) (a0_1 : Int) (a1 : ByteArray) (r1 : ByteArray) (r2 : ByteArray) (r3 : Bool) (r4 : Int) (r5 : Int) (r6 : Bool) (w : World) (hr0_0 : Kd.C k88 w A0_0 l0_0.length l0_0) (hc0_0 : l0_0.length ≤ c0_0) (h : impl_Table_field.f k l0_0 a0_1 a1 = some (r1, r2, r3, r4, r5, r6)) :
  Calls Try.prog 58 #[.agg #[.slice A0_0 l0_0.length c0_0, .int .i64 a0_1], .string a1] w fun e w' => e = .returned (.tuple #[.agg #[.string r1, .string r2, .bool r3], .int .i64 r4, .int .i64 r5, .bool r6]) ∧ Below w.heap.size w w' := by
 have hu25 := Try.underlying25
 have hu88 := Try.underlying88
 have HR0_0 := Aside0.mk hr0_0
 have HC0_0 := Aside0.mk hc0_0
 clear hr0_0 hc0_0
 have HB := Aside0.mk (Below.refl w.heap.size w)
 have H : (if 0 < (a1.size : Int) then (if (bt a1 0) ≥ 128 then (impl_Table_field.j0 k a1 7 l0_0 a0_1) else (if (bt a1 0) ≥ 64 then (impl_Table_field.j0 k a1 6 l0_0 a0_1) else (if (bt a1 0) ≥ 16 then (if (bt a1 0) < 32 then (impl_Table_field.j0 k a1 4 l0_0 a0_1) else (some ((⟨#[]⟩ : ByteArray), (⟨#[]⟩ : ByteArray), false, 0, 0, false))) else (some ((⟨#[]⟩ : ByteArray), (⟨#[]⟩ : ByteArray), false, 0, 0, false))))) else (none)) = some (r1, r2, r3, r4, r5, r6) := h
 clear h
 replace H := sp H
 rcases H with ⟨c3, H⟩ | ⟨c3, H⟩
 ·skip
  have c3b0 := decide_eq_true c3
  have c3b1 := decide_eq_true (by omega)
  clear c3
  have HC5 := Aside0.mk H
  clear H
  go_enter Try.func58, Try.ntmps58
  go_upto_block 0 with (first | ((with_reducible refine gd 2 rfl ?_); refine bx (N := 2) (cs := #[.slice A0_0 l0_0.length c0_0, .int .i64 a0_1]) (t := 25) ?_; intro gb507 hg w6 hbox hb; have BK507 := Aside0.mk (hbox); have GW507 := gw HB hg; have GE507 := GW507; replace HB := Aside0.mk (below_step (zb HB) hb); clear hb hbox hg) | ((with_reducible refine gd 4 rfl ?_); refine bx (N := 4) (cs := #[.string (⟨#[]⟩ : ByteArray), .string (⟨#[]⟩ : ByteArray), .bool false]) (t := 88) ?_; intro gb508 hg w7 hbox hb; have BK508 := Aside0.mk (hbox); have GW508 := gw HB hg; have GE508 := GW508; replace HB := Aside0.mk (below_step (zb HB) hb); obtain ⟨NB507_508, NB508_507⟩ := nb BK507 hg; replace BK507 := kb BK507 hb; clear hb hbox hg; have p4 : 0 ≤ (0 : Int) := (by omega); have q4 : 0 < a1.size := (by have : (0 : Int) < (a1.size : Int) := of_decide_eq_true za; omega); have hx4 : ∀ h : 0 < a1.size, ((a1[0]'h).toNat : Int) = bt a1 0 := bt_at a1 0; clear p4; have qi4 : (0 < (a1.size : Int)) = True := eq_true (of_decide_eq_true za); replace q4 := eq_true q4))
  (try simp only [Act.put, s1, s2, s3])
  go_cut [8] (fun v8 wc => ∃ (kq : Nat) (x8_4 : Int) (x509000_4 : ByteArray) (x509001_4 : ByteArray) (x509002_4 : Bool), v8 = .int .i64 x8_4 ∧ Aside0 (impl_Table_field.j0 kq a1 x8_4 l0_0 a0_1 = some (r1, r2, r3, r4, r5, r6)) ∧ Aside0 (kq ≤ k) ∧ Aside0 (wc.heap[gb507]? = some (.cells #[(.slice A0_0 l0_0.length c0_0), .int .i64 a0_1] 25 (0, 0))) ∧ Aside0 (wc.heap[gb508]? = some (.cells #[.string x509000_4, .string x509001_4, .bool x509002_4] 88 (0, 0))) ∧ Aside0 (Below w.heap.size w wc))
  case first =>
   have H := HC5.out
   clear HC5
   by_cases c8 : (bt a1 0) ≥ 128
   ·rw [if_pos c8] at H
    have c8b0 := decide_eq_true c8
    clear c8
    (first | rw [c8b0] | rw [c8b1] | (simp only [i64_w, i32_w]; rw [c8b0]) | skip)
    have H' := Aside0.mk H
    clear H
    go_wp2
    go_meet
    case rel => exact ⟨_, (7), ((⟨#[]⟩ : ByteArray)), ((⟨#[]⟩ : ByteArray)), (false), zs, H', ⟨by first | omega | exact Nat.le_refl _⟩, ⟨by exact zk BK507⟩, ⟨by exact zk BK508⟩, ⟨zb HB⟩⟩
   ·rw [if_neg c8] at H
    have c8b0 := decide_eq_false c8
    clear c8
    (first | rw [c8b0] | rw [c8b1] | (simp only [i64_w, i32_w]; rw [c8b0]) | skip)
    by_cases c9 : (bt a1 0) ≥ 64
    ·rw [if_pos c9] at H
     have c9b0 := decide_eq_true c9
     clear c9
     have H' := Aside0.mk H
     clear H
     go_wp2
     go_meet
     case rel => exact ⟨_, (6), ((⟨#[]⟩ : ByteArray)), ((⟨#[]⟩ : ByteArray)), (false), zs, H', ⟨by first | omega | exact Nat.le_refl _⟩, ⟨by exact zk BK507⟩, ⟨by exact zk BK508⟩, ⟨zb HB⟩⟩
    ·rw [if_neg c9] at H
     have c9b0 := decide_eq_false c9
     clear c9
     by_cases c10 : (bt a1 0) ≥ 16
     ·rw [if_pos c10] at H
      have c10b0 := decide_eq_true c10
      clear c10
      by_cases c11 : (bt a1 0) < 32
      ·rw [if_pos c11] at H
       have c11b0 := decide_eq_true c11
       clear c11
       have H' := Aside0.mk H
       clear H
       go_wp2
       go_meet
       case rel => exact ⟨_, (4), ((⟨#[]⟩ : ByteArray)), ((⟨#[]⟩ : ByteArray)), (false), zs, H', ⟨by first | omega | exact Nat.le_refl _⟩, ⟨by exact zk BK507⟩, ⟨by exact zk BK508⟩, ⟨zb HB⟩⟩
      ·rw [if_neg c11] at H
       have c11b0 := decide_eq_false c11
       clear c11
       simp only [Option.some.injEq, Prod.mk.injEq] at H
       obtain ⟨rfl, rfl, rfl, rfl, rfl, rfl⟩ := H
       have hnb12 := NB508_507.out
       have hnc12 := NB507_508.out
       obtain ⟨hcz13_0, hcz13_1, hcz13_2, hfz13_0, hfz13_1, hfz13_2⟩ := c3 BK508
       go_wp2
       refine bodyPost_ret (results_list (rs := [.cell 4 88, .tmp 5, .tmp 6, .tmp 7]) rfl (by simp) (.cell gb508 88 #[.string (⟨#[]⟩ : ByteArray), .string (⟨#[]⟩ : ByteArray), .bool false] (0, 0) _ rfl (by (with_reducible repeat (first | refine blk_drewN ?_ _ | refine blk_drew ?_ | refine blk_alloc ?_ _)); refine blk_put (cs := #[.string (⟨#[]⟩ : ByteArray), .string (⟨#[]⟩ : ByteArray), .bool false]) ?_ 2 _ rfl; (with_reducible repeat (first | refine blk_drewN ?_ _ | refine blk_drew ?_ | refine blk_alloc ?_ _)); refine blk_put (cs := #[.string (⟨#[]⟩ : ByteArray), .string (⟨#[]⟩ : ByteArray), .bool false]) ?_ 1 _ rfl; (with_reducible repeat (first | refine blk_drewN ?_ _ | refine blk_drew ?_ | refine blk_alloc ?_ _)); refine blk_put (cs := #[.string (⟨#[]⟩ : ByteArray), .string (⟨#[]⟩ : ByteArray), .bool false]) ?_ 0 _ rfl; exact zk BK508) Try.underlying88 rfl (by kernel_rfl) (.tmp (.tmp (.tmp .nil))))) rfl ?_
       exact ⟨ze, zb HB⟩
     ·rw [if_neg c10] at H
      have c10b0 := decide_eq_false c10
      clear c10
      simp only [Option.some.injEq, Prod.mk.injEq] at H
      obtain ⟨rfl, rfl, rfl, rfl, rfl, rfl⟩ := H
      have hnb14 := NB508_507.out
      have hnc14 := NB507_508.out
      obtain ⟨hcz15_0, hcz15_1, hcz15_2, hfz15_0, hfz15_1, hfz15_2⟩ := c3 BK508
      go_wp2
      refine bodyPost_ret (results_list (rs := [.cell 4 88, .tmp 5, .tmp 6, .tmp 7]) rfl (by simp) (.cell gb508 88 #[.string (⟨#[]⟩ : ByteArray), .string (⟨#[]⟩ : ByteArray), .bool false] (0, 0) _ rfl (by (with_reducible repeat (first | refine blk_drewN ?_ _ | refine blk_drew ?_ | refine blk_alloc ?_ _)); refine blk_put (cs := #[.string (⟨#[]⟩ : ByteArray), .string (⟨#[]⟩ : ByteArray), .bool false]) ?_ 2 _ rfl; (with_reducible repeat (first | refine blk_drewN ?_ _ | refine blk_drew ?_ | refine blk_alloc ?_ _)); refine blk_put (cs := #[.string (⟨#[]⟩ : ByteArray), .string (⟨#[]⟩ : ByteArray), .bool false]) ?_ 1 _ rfl; (with_reducible repeat (first | refine blk_drewN ?_ _ | refine blk_drew ?_ | refine blk_alloc ?_ _)); refine blk_put (cs := #[.string (⟨#[]⟩ : ByteArray), .string (⟨#[]⟩ : ByteArray), .bool false]) ?_ 0 _ rfl; exact zk BK508) Try.underlying88 rfl (by kernel_rfl) (.tmp (.tmp (.tmp .nil))))) rfl ?_
      exact ⟨ze, zb HB⟩
  case rest =>
   clear HC5
   try clear c1
   try clear p2
   try clear c3
   try clear c3b0
   try clear c3b1
   try clear p4
   try clear q4
   try clear hx4
   try clear qi4
   try clear c5
   try clear c8
   try clear c8b0
   try clear c8b1
   try clear c9
   try clear c9b0
   try clear c10
   try clear c10b0
   try clear c11
   try clear c11b0
   try clear c12
   try clear c14
   try clear hcz13_0
   try clear hcz13_1
   try clear hcz13_2
   try clear hcz15_0
   try clear hcz15_1
   try clear hcz15_2
   try clear hfz13_0
   try clear hfz13_1
   try clear hfz13_2
   try clear hfz15_0
   try clear hfz15_1
   try clear hfz15_2
   try clear p4
   try clear q4
   obtain ⟨kq, x8_4, x509000_4, x509001_4, x509002_4, rfl, HA, HJ4, BK507, BK508, HB⟩ := hcut
   cases kq with
   | zero => exact absurd HA.out (by simp [impl_Table_field.j0])
   | succ kj4 =>
    have H := HA.out
    clear HA
    simp only [impl_Table_field.j0] at H
    obtain ⟨⟨t509, t510, t511⟩, A16, H⟩ := ob H
    (try dsimp only at H)
    by_cases c17 : t511 = true
    ·subst c17
     rw [if_pos rfl] at H
     obtain ⟨⟨t512, t513, t514, t515⟩, A18, H⟩ := ob H
     (try dsimp only at H)
     have HC19 := Aside0.mk H
     clear H
     go_upto_if 53 with (first | ((with_reducible refine gq 115 rfl ?_); refine gl (some 39) Try.func115 #[.string a1, .int .i64 x8_4] ?_; (with_reducible refine (impl_NumRead.calls kj4 a1 x8_4 t509 t510 true _ A16.out).mono ?_); rintro e w20 ⟨rfl, hb⟩; refine ⟨_, rfl, ?_⟩; replace BK507 := kb BK507 hb; replace BK508 := kb BK508 hb; replace HB := Aside0.mk (below_step (zb HB) hb); (try clear hb); have hnb21 := NB507_508.out; have hnc21 := NB508_507.out; obtain ⟨hcz22_0, hcz22_1, hfz22_0, hfz22_1⟩ := c2 BK507) | ((with_reducible refine gq 116 rfl ?_); refine gl (some 49) Try.func116 #[.agg #[.slice A0_0 l0_0.length c0_0, .int .i64 a0_1], .int .i64 t509] ?_; (with_reducible refine (impl_Table_at.calls _ _ l0_0 a0_1 t509 t512 t513 t514 t515 _ ?side1 ?side2 A18.out).mono ?_); (case side1 => exact zc (Kd.C_below HR0_0.out HB.out)); (case side2 => exact HC0_0.out); rintro e w23 ⟨rfl, hb⟩; refine ⟨_, rfl, ?_⟩; replace BK507 := kb BK507 hb; replace BK508 := kb BK508 hb; replace HB := Aside0.mk (below_step (zb HB) hb); (try clear hb)) | ((with_reducible refine gd 13 rfl ?_); refine bx (N := 13) (cs := #[.string (⟨#[]⟩ : ByteArray), .string (⟨#[]⟩ : ByteArray), .bool false]) (t := 88) ?_; intro gb516 hg w24 hbox hb; have BK516 := Aside0.mk (hbox); have GW516 := gw HB hg; have GE516 := GW516; replace HB := Aside0.mk (below_step (zb HB) hb); obtain ⟨NB507_516, NB516_507⟩ := nb BK507 hg; replace BK507 := kb BK507 hb; obtain ⟨NB508_516, NB516_508⟩ := nb BK508 hg; replace BK508 := kb BK508 hb; clear hb hbox hg; have hnb25 := NB516_507.out; have hnc25 := NB507_516.out; have hnb26 := NB516_508.out; have hnc26 := NB508_516.out; obtain ⟨hcz27_0, hcz27_1, hcz27_2, hfz27_0, hfz27_1, hfz27_2⟩ := c3 BK516))
     (try simp only [Act.put, s1, s2, s3])
     have H := HC19.out
     clear HC19
     by_cases c28 : x8_4 = 7
     ·rw [if_pos c28] at H
      have c28b0 : (x8_4 == 7) = true := beq_iff_eq.mpr c28
      have c28b1 : (x8_4 != 7) = false := bne_eq_false_iff_eq.mpr c28
      clear c28
      (first | rw [c28b0] | rw [c28b1] | (simp only [i64_w, i32_w]; rw [c28b0]) | skip)
      simp only [Option.some.injEq, Prod.mk.injEq] at H
      obtain ⟨rfl, rfl, rfl, rfl, rfl, rfl⟩ := H
      have hnb29 := NB516_507.out
      have hnc29 := NB507_516.out
      have hnb30 := NB516_508.out
      have hnc30 := NB508_516.out
      obtain ⟨hcz31_0, hcz31_1, hcz31_2, hfz31_0, hfz31_1, hfz31_2⟩ := c3 BK516
      have hnb32 := NB508_507.out
      have hnc32 := NB507_508.out
      obtain ⟨hcz33_0, hcz33_1, hcz33_2, hfz33_0, hfz33_1, hfz33_2⟩ := c3 BK508
      go_wp2
      refine bodyPost_ret (results_list (rs := [.cell 4 88, .tmp 5, .tmp 6, .tmp 7]) rfl (by simp) (.cell gb508 88 #[.string t512, .string t513, .bool t514] (0, 0) _ rfl (by (with_reducible repeat (first | refine blk_drewN ?_ _ | refine blk_drew ?_ | refine blk_alloc ?_ _)); refine blk_put (cs := #[.string t512, .string t513, .bool x509002_4]) ?_ 2 _ rfl; (with_reducible repeat (first | refine blk_drewN ?_ _ | refine blk_drew ?_ | refine blk_alloc ?_ _)); refine blk_put (cs := #[.string t512, .string x509001_4, .bool x509002_4]) ?_ 1 _ rfl; (with_reducible repeat (first | refine blk_drewN ?_ _ | refine blk_drew ?_ | refine blk_alloc ?_ _)); refine blk_put (cs := #[.string x509000_4, .string x509001_4, .bool x509002_4]) ?_ 0 _ rfl; (with_reducible repeat (first | refine blk_drewN ?_ _ | refine blk_drew ?_ | refine blk_alloc ?_ _)); refine blk_far ?_ NB508_516.out _; (with_reducible repeat (first | refine blk_drewN ?_ _ | refine blk_drew ?_ | refine blk_alloc ?_ _)); refine blk_far ?_ NB508_516.out _; (with_reducible repeat (first | refine blk_drewN ?_ _ | refine blk_drew ?_ | refine blk_alloc ?_ _)); refine blk_far ?_ NB508_516.out _; exact zk BK508) Try.underlying88 rfl (by kernel_rfl) (.tmp (.tmp (.tmp .nil))))) rfl ?_
      exact ⟨ze, zb HB⟩
     ·rw [if_neg c28] at H
      have c28b0 : (x8_4 == 7) = false := beq_eq_false_iff_ne.mpr c28
      have c28b1 : (x8_4 != 7) = true := bne_iff_ne.mpr c28
      (first | rw [c28b0] | rw [c28b1] | (simp only [i64_w, i32_w]; rw [c28b0]) | skip)
      by_cases c34 : t509 = 0
      ·rw [if_pos c34] at H
       have c34b0 : (t509 == 0) = true := beq_iff_eq.mpr c34
       have c34b1 : (t509 != 0) = false := bne_eq_false_iff_eq.mpr c34
       clear c34
       by_cases c35 : 0 ≤ t510
       ·rw [if_pos c35] at H
        have c35b0 := eq_true c35
        have c35b1 := decide_eq_true c35
        clear c35
        by_cases c36 : t510 ≤ (a1.size : Int)
        ·rw [if_pos c36] at H
         have c36b0 := eq_true c36
         have c36b1 := decide_eq_true c36
         clear c36
         obtain ⟨⟨t517, t518, t519⟩, A37, H⟩ := ob H
         (try dsimp only at H)
         by_cases c38 : t519 = true
         ·subst c38
          rw [if_pos rfl] at H
          obtain ⟨ji39, hji39⟩ : ∃ j_ : Int, (wrap64 (t510 + t518)) = j_ := ⟨_, rfl⟩
          replace H : (if 0 ≤ (ji39) then (if (ji39) ≤ (a1.size : Int) then ((impl_WordRead.f kj4 (a1.extract ((ji39) : Int).toNat a1.size)).bind fun bt520 => (if bt520.2.2 = true then ((impl_FieldOk.f kj4 t517 bt520.1 (x8_4 == 4)).bind fun t523 => (some (t517, bt520.1, (x8_4 == 4), wrap64 ((ji39) + bt520.2.1), x8_4, t523))) else (some (t517, bt520.1, (x8_4 == 4), wrap64 ((ji39) + bt520.2.1), x8_4, false)))) else (none)) else (none)) = some (r1, r2, r3, r4, r5, r6) := by first | (rw [hji39] at H; exact H) | (simp only [hji39] at H ⊢; exact H)
          (try rw [hji39] at A37)
          have hji39w : (IntKind.i64.wrap (t510 + t518)) = ji39 := (i64_w _).trans hji39
          by_cases c40 : 0 ≤ (ji39)
          ·rw [if_pos c40] at H
           have c40b0 := eq_true c40
           have c40b1 := decide_eq_true c40
           clear c40
           by_cases c41 : (ji39) ≤ (a1.size : Int)
           ·rw [if_pos c41] at H
            have c41b0 := eq_true c41
            have c41b1 := decide_eq_true c41
            clear c41
            obtain ⟨⟨t520, t521, t522⟩, A42, H⟩ := ob H
            (try dsimp only at H)
            by_cases c43 : t522 = true
            ·subst c43
             rw [if_pos rfl] at H
             obtain ⟨t523, A44, H⟩ := ob H
             (try dsimp only at H)
             simp only [Option.some.injEq, Prod.mk.injEq] at H
             obtain ⟨rfl, rfl, rfl, rfl, rfl, rfl⟩ := H
             try go_wp2_with (first | ((with_reducible refine gq 117 rfl ?_); refine gl (some 64) Try.func117 #[.string (a1.extract (t510 : Int).toNat a1.size)] ?_; (with_reducible refine (impl_WordRead.calls kj4 (a1.extract (t510 : Int).toNat a1.size) t517 t518 true _ A37.out).mono ?_); rintro e w45 ⟨rfl, hb⟩; refine ⟨_, rfl, ?_⟩; replace BK507 := Aside0.mk (blk_below (g := gb507) (o := .cells #[.slice A0_0 l0_0.length c0_0, .int .i64 a0_1] 25 (0, 0)) (by (with_reducible repeat (first | refine blk_drewN ?_ _ | refine blk_drew ?_ | refine blk_alloc ?_ _)); refine blk_far ?_ NB507_516.out _; (with_reducible repeat (first | refine blk_drewN ?_ _ | refine blk_drew ?_ | refine blk_alloc ?_ _)); refine blk_far ?_ NB507_516.out _; (with_reducible repeat (first | refine blk_drewN ?_ _ | refine blk_drew ?_ | refine blk_alloc ?_ _)); refine blk_far ?_ NB507_516.out _; exact zk BK507) hb); replace BK508 := Aside0.mk (blk_below (g := gb508) (o := .cells #[.string x509000_4, .string x509001_4, .bool x509002_4] 88 (0, 0)) (by (with_reducible repeat (first | refine blk_drewN ?_ _ | refine blk_drew ?_ | refine blk_alloc ?_ _)); refine blk_far ?_ NB508_516.out _; (with_reducible repeat (first | refine blk_drewN ?_ _ | refine blk_drew ?_ | refine blk_alloc ?_ _)); refine blk_far ?_ NB508_516.out _; (with_reducible repeat (first | refine blk_drewN ?_ _ | refine blk_drew ?_ | refine blk_alloc ?_ _)); refine blk_far ?_ NB508_516.out _; exact zk BK508) hb); replace BK516 := Aside0.mk (blk_below (g := gb516) (o := .cells #[.string t512, .string t513, .bool t514] 88 (0, 0)) (by (with_reducible repeat (first | refine blk_drewN ?_ _ | refine blk_drew ?_ | refine blk_alloc ?_ _)); refine blk_put (cs := #[.string t512, .string t513, .bool false]) ?_ 2 _ rfl; (with_reducible repeat (first | refine blk_drewN ?_ _ | refine blk_drew ?_ | refine blk_alloc ?_ _)); refine blk_put (cs := #[.string t512, .string (⟨#[]⟩ : ByteArray), .bool false]) ?_ 1 _ rfl; (with_reducible repeat (first | refine blk_drewN ?_ _ | refine blk_drew ?_ | refine blk_alloc ?_ _)); refine blk_put (cs := #[.string (⟨#[]⟩ : ByteArray), .string (⟨#[]⟩ : ByteArray), .bool false]) ?_ 0 _ rfl; exact zk BK516) hb); replace HB := Aside0.mk (below_step (zb HB) hb); (try clear hb); have hnb46 := NB516_507.out; have hnc46 := NB507_516.out; have hnb47 := NB516_508.out; have hnc47 := NB508_516.out; obtain ⟨hcz48_0, hcz48_1, hcz48_2, hfz48_0, hfz48_1, hfz48_2⟩ := c3 BK516) | ((with_reducible refine gq 117 rfl ?_); refine goesL_ (some 83) rfl rfl Try.func117 (by kernel_rfl) rfl #[.string (a1.extract ((ji39) : Int).toNat a1.size)] rfl (by (try simp only [List.map_toArray, List.map_cons, List.map_nil]); first | done | (simp only [hji39]; rfl) | rfl | (simp only [List.length_drop, List.length_take]; rfl)) ?_; (with_reducible refine (impl_WordRead.calls kj4 (a1.extract ((ji39) : Int).toNat a1.size) t520 t521 true _ A42.out).mono ?_); rintro e w49 ⟨rfl, hb⟩; refine ⟨_, rfl, ?_⟩; replace BK507 := Aside0.mk (blk_below (g := gb507) (o := .cells #[.slice A0_0 l0_0.length c0_0, .int .i64 a0_1] 25 (0, 0)) (by (with_reducible repeat (first | refine blk_drewN ?_ _ | refine blk_drew ?_ | refine blk_alloc ?_ _)); refine blk_far ?_ NB507_516.out _; exact zk BK507) hb); replace BK508 := Aside0.mk (blk_below (g := gb508) (o := .cells #[.string x509000_4, .string x509001_4, .bool x509002_4] 88 (0, 0)) (by (with_reducible repeat (first | refine blk_drewN ?_ _ | refine blk_drew ?_ | refine blk_alloc ?_ _)); refine blk_far ?_ NB508_516.out _; exact zk BK508) hb); replace BK516 := Aside0.mk (blk_below (g := gb516) (o := .cells #[.string t517, .string t513, .bool t514] 88 (0, 0)) (by (with_reducible repeat (first | refine blk_drewN ?_ _ | refine blk_drew ?_ | refine blk_alloc ?_ _)); refine blk_put (cs := #[.string t512, .string t513, .bool t514]) ?_ 0 _ rfl; exact zk BK516) hb); replace HB := Aside0.mk (below_step (zb HB) hb); (try clear hb); obtain ⟨hcz50_0, hcz50_1, hcz50_2, hfz50_0, hfz50_1, hfz50_2⟩ := c3 BK516))
             have n0_ : Aside0 ((((w49.setCell ⟨gb516, 0, none⟩ (.string t517)).setCell ⟨gb516, 1, none⟩ (.string t520)).setCell ⟨gb516, 2, none⟩ (.bool (x8_4 == 4))).heap[gb507]? = some (.cells #[.slice A0_0 l0_0.length c0_0, .int .i64 a0_1] 25 (0, 0))) := ⟨by (with_reducible repeat (first | refine blk_drewN ?_ _ | refine blk_drew ?_ | refine blk_alloc ?_ _)); refine blk_far ?_ NB507_516.out _; (with_reducible repeat (first | refine blk_drewN ?_ _ | refine blk_drew ?_ | refine blk_alloc ?_ _)); refine blk_far ?_ NB507_516.out _; (with_reducible repeat (first | refine blk_drewN ?_ _ | refine blk_drew ?_ | refine blk_alloc ?_ _)); refine blk_far ?_ NB507_516.out _; exact zk BK507⟩
             have n1_ : Aside0 ((((w49.setCell ⟨gb516, 0, none⟩ (.string t517)).setCell ⟨gb516, 1, none⟩ (.string t520)).setCell ⟨gb516, 2, none⟩ (.bool (x8_4 == 4))).heap[gb508]? = some (.cells #[.string x509000_4, .string x509001_4, .bool x509002_4] 88 (0, 0))) := ⟨by (with_reducible repeat (first | refine blk_drewN ?_ _ | refine blk_drew ?_ | refine blk_alloc ?_ _)); refine blk_far ?_ NB508_516.out _; (with_reducible repeat (first | refine blk_drewN ?_ _ | refine blk_drew ?_ | refine blk_alloc ?_ _)); refine blk_far ?_ NB508_516.out _; (with_reducible repeat (first | refine blk_drewN ?_ _ | refine blk_drew ?_ | refine blk_alloc ?_ _)); refine blk_far ?_ NB508_516.out _; exact zk BK508⟩
             have n2_ : Aside0 ((((w49.setCell ⟨gb516, 0, none⟩ (.string t517)).setCell ⟨gb516, 1, none⟩ (.string t520)).setCell ⟨gb516, 2, none⟩ (.bool (x8_4 == 4))).heap[gb516]? = some (.cells #[.string t517, .string t520, .bool (x8_4 == 4)] 88 (0, 0))) := ⟨by (with_reducible repeat (first | refine blk_drewN ?_ _ | refine blk_drew ?_ | refine blk_alloc ?_ _)); refine blk_put (cs := #[.string t517, .string t520, .bool t514]) ?_ 2 _ rfl; (with_reducible repeat (first | refine blk_drewN ?_ _ | refine blk_drew ?_ | refine blk_alloc ?_ _)); refine blk_put (cs := #[.string t517, .string t513, .bool t514]) ?_ 1 _ rfl; (with_reducible repeat (first | refine blk_drewN ?_ _ | refine blk_drew ?_ | refine blk_alloc ?_ _)); refine blk_put (cs := #[.string t517, .string t513, .bool t514]) ?_ 0 _ rfl; exact zk BK516⟩
             have n3_ : Aside0 (Below w.heap.size w (((w49.setCell ⟨gb516, 0, none⟩ (.string t517)).setCell ⟨gb516, 1, none⟩ (.string t520)).setCell ⟨gb516, 2, none⟩ (.bool (x8_4 == 4)))) := ⟨zb HB⟩
             (try clear BK507)
             (try clear BK508)
             (try clear BK516)
             (try clear HB)
             generalize (((w49.setCell ⟨gb516, 0, none⟩ (.string t517)).setCell ⟨gb516, 1, none⟩ (.string t520)).setCell ⟨gb516, 2, none⟩ (.bool (x8_4 == 4))) = w51 at n0_ n1_ n2_ n3_ ⊢
             have BK507 := n0_
             have BK508 := n1_
             have BK516 := n2_
             have HB := n3_
             clear n0_ n1_ n2_ n3_
             replace BK507 := Aside0.mk (blk_drew BK507.out)
             replace BK508 := Aside0.mk (blk_drew BK508.out)
             replace BK516 := Aside0.mk (blk_drew BK516.out)
             replace HB := Aside0.mk (below_drew1 HB.out)
             refine start_ (n := 14) (S := fun w' => w'.cell? ⟨gb516, 0, none⟩ = some (.string t517) ∧ w'.cell? ⟨gb516, 1, none⟩ = some (.string t520) ∧ w'.cell? ⟨gb516, 2, none⟩ = some (.bool (x8_4 == 4))) (ds := []) #[false, false, false, false, false, false, false, false, false, false, false, false, false, false] (by kernel_rfl) rfl rfl ⟨(blk_cell BK516.out 0).trans rfl, (blk_cell BK516.out 1).trans rfl, (blk_cell BK516.out 2).trans rfl⟩ (fun hHeld => ?_); refine with_tabW impl_Table_field.tab25 impl_Table_field.bits25 (fun HT_ HW_ => ?_)
             generalize w51.drew = w52 at BK507 BK508 BK516 HB hHeld ⊢
             refine pu 1 (some 94) (bm 14 2) rfl rfl ?_
             refine pu 2 (some 95) (bm 14 6) rfl rfl ?_
             refine pu 3 (some 96) (bm 14 14) rfl rfl ?_
             refine pu 4 (some 97) (bm 14 30) rfl rfl ?_
             refine pu 5 (some 98) (bm 14 62) rfl rfl ?_
             refine pu 6 (some 99) (bm 14 126) rfl rfl ?_
             refine tk 0 (some 93) (bm 14 127) rfl rfl hHeld ?_
             refine tk 7 (some 100) (bm 14 255) rfl rfl hHeld ?_
             refine one_ (i := 8) (N := some 101) (bm 14 511) rfl rfl (one_of HT_.out (by kernel_rfl)) (by decide) (fun K hK => ?_)
             refine gs Try.func64 #[.agg #[.string t517, .string t520, .bool (x8_4 == 4)]] ?_
             with_reducible refine (impl_FieldOk.calls kj4 t517 t520 (x8_4 == 4) t523 _ A44.out).mono ?_
             rintro e w53 ⟨rfl, hb⟩
             refine ⟨_, rfl, ?_⟩
             replace BK507 := kb BK507 hb
             replace BK508 := kb BK508 hb
             replace BK516 := kb BK516 hb
             replace HB := Aside0.mk (below_step (zb HB) hb)
             (try clear hb)
             refine hK.out _ _ ⟨(blk_cell BK516.out 0).trans rfl, (blk_cell BK516.out 1).trans rfl, (blk_cell BK516.out 2).trans rfl⟩ (fun hHeld => ?_)
             clear hK K
             refine nm ?_
             refine pu 9 (some 102) (bm 14 1023) rfl rfl ?_
             refine one_ (i := 10) (N := none) (bm 14 2047) rfl rfl (one_of HT_.out (by kernel_rfl)) (by decide) (fun K hK => ?_)
             have hs54 : w53.cell? ⟨gb508, 0, none⟩ = some (.string x509000_4) := (blk_cell BK508.out 0).trans rfl
             have hfs54 := blk_frozen BK508.out 0
             have hns54_0 := NB507_508.out
             have hns54_2 := NB516_508.out
             have hms54_0 := NB508_507.out
             have hms54_2 := NB508_516.out
             have hs55 : w53.cell? ⟨gb508, 1, none⟩ = some (.string x509001_4) := (blk_cell BK508.out 1).trans rfl
             have hfs55 := blk_frozen BK508.out 1
             have hns55_0 := NB507_508.out
             have hns55_2 := NB516_508.out
             have hms55_0 := NB508_507.out
             have hms55_2 := NB508_516.out
             have hs56 : w53.cell? ⟨gb508, 2, none⟩ = some (.bool x509002_4) := (blk_cell BK508.out 2).trans rfl
             have hfs56 := blk_frozen BK508.out 2
             have hns56_0 := NB507_508.out
             have hns56_2 := NB516_508.out
             have hms56_0 := NB508_507.out
             have hms56_2 := NB508_516.out
             refine skip_ (w1 := ?_) (by rfl) rfl ?_ ?_
             rotate_left
             ·go_simp
              rfl
             refine hK.out _ _ ⟨((cell_far (p := ⟨gb508, _, none⟩) NB516_508.out _).trans (((cell_far (p := ⟨gb508, _, none⟩) NB516_508.out _).trans (((cell_far (p := ⟨gb508, _, none⟩) NB516_508.out _).trans (hHeld.1)))))), ((cell_far (p := ⟨gb508, _, none⟩) NB516_508.out _).trans (((cell_far (p := ⟨gb508, _, none⟩) NB516_508.out _).trans (((cell_far (p := ⟨gb508, _, none⟩) NB516_508.out _).trans (hHeld.2.1)))))), ((cell_far (p := ⟨gb508, _, none⟩) NB516_508.out _).trans (((cell_far (p := ⟨gb508, _, none⟩) NB516_508.out _).trans (((cell_far (p := ⟨gb508, _, none⟩) NB516_508.out _).trans (hHeld.2.2))))))⟩ (fun hHeld => ?_)
             clear hK K
             refine pu 11 (some 5) (bm 14 4095) rfl rfl ?_
             refine pu 12 (some 6) (bm 14 8191) rfl rfl ?_
             refine pu 13 (some 7) (bm 14 16383) rfl rfl ?_
             refine done_ (done_of HT_.out (by kernel_rfl)) ?_
             try go_wp2
             refine bodyPost_ret (results_list (rs := [.cell 4 88, .tmp 5, .tmp 6, .tmp 7]) rfl (by simp) (.cell gb508 88 #[.string t517, .string t520, .bool (x8_4 == 4)] (0, 0) _ rfl (by (with_reducible repeat (first | refine blk_drewN ?_ _ | refine blk_drew ?_ | refine blk_alloc ?_ _)); refine blk_put (cs := #[.string t517, .string t520, .bool x509002_4]) ?_ 2 _ rfl; (with_reducible repeat (first | refine blk_drewN ?_ _ | refine blk_drew ?_ | refine blk_alloc ?_ _)); refine blk_put (cs := #[.string t517, .string x509001_4, .bool x509002_4]) ?_ 1 _ rfl; (with_reducible repeat (first | refine blk_drewN ?_ _ | refine blk_drew ?_ | refine blk_alloc ?_ _)); refine blk_put (cs := #[.string x509000_4, .string x509001_4, .bool x509002_4]) ?_ 0 _ rfl; exact zk BK508) Try.underlying88 rfl (by kernel_rfl) (.tmp (.tmp (.tmp .nil))))) rfl ?_
             exact ⟨by first | rfl | (simp [errW_none, errW_some] <;> rfl) | (simp only [← hji39]; first | rfl | (simp [errW_none, errW_some] <;> rfl)) | (simp [*, errW_none, errW_some] <;> rfl) | (simp [errW_none, errW_some]; exact (by intro l_; cases l_ <;> rfl : ∀ l_ : List UInt8, l_.isEmpty = !(l_ != [])) _), zb HB⟩
            ·replace c43 := Bool.eq_false_iff.mpr c43
             subst c43
             rw [if_neg (show ¬ (false = true) by decide)] at H
             simp only [Option.some.injEq, Prod.mk.injEq] at H
             obtain ⟨rfl, rfl, rfl, rfl, rfl, rfl⟩ := H
             try go_wp2_with (first | ((with_reducible refine gq 117 rfl ?_); refine gl (some 64) Try.func117 #[.string (a1.extract (t510 : Int).toNat a1.size)] ?_; (with_reducible refine (impl_WordRead.calls kj4 (a1.extract (t510 : Int).toNat a1.size) t517 t518 true _ A37.out).mono ?_); rintro e w57 ⟨rfl, hb⟩; refine ⟨_, rfl, ?_⟩; replace BK507 := Aside0.mk (blk_below (g := gb507) (o := .cells #[.slice A0_0 l0_0.length c0_0, .int .i64 a0_1] 25 (0, 0)) (by (with_reducible repeat (first | refine blk_drewN ?_ _ | refine blk_drew ?_ | refine blk_alloc ?_ _)); refine blk_far ?_ NB507_516.out _; (with_reducible repeat (first | refine blk_drewN ?_ _ | refine blk_drew ?_ | refine blk_alloc ?_ _)); refine blk_far ?_ NB507_516.out _; (with_reducible repeat (first | refine blk_drewN ?_ _ | refine blk_drew ?_ | refine blk_alloc ?_ _)); refine blk_far ?_ NB507_516.out _; exact zk BK507) hb); replace BK508 := Aside0.mk (blk_below (g := gb508) (o := .cells #[.string x509000_4, .string x509001_4, .bool x509002_4] 88 (0, 0)) (by (with_reducible repeat (first | refine blk_drewN ?_ _ | refine blk_drew ?_ | refine blk_alloc ?_ _)); refine blk_far ?_ NB508_516.out _; (with_reducible repeat (first | refine blk_drewN ?_ _ | refine blk_drew ?_ | refine blk_alloc ?_ _)); refine blk_far ?_ NB508_516.out _; (with_reducible repeat (first | refine blk_drewN ?_ _ | refine blk_drew ?_ | refine blk_alloc ?_ _)); refine blk_far ?_ NB508_516.out _; exact zk BK508) hb); replace BK516 := Aside0.mk (blk_below (g := gb516) (o := .cells #[.string t512, .string t513, .bool t514] 88 (0, 0)) (by (with_reducible repeat (first | refine blk_drewN ?_ _ | refine blk_drew ?_ | refine blk_alloc ?_ _)); refine blk_put (cs := #[.string t512, .string t513, .bool false]) ?_ 2 _ rfl; (with_reducible repeat (first | refine blk_drewN ?_ _ | refine blk_drew ?_ | refine blk_alloc ?_ _)); refine blk_put (cs := #[.string t512, .string (⟨#[]⟩ : ByteArray), .bool false]) ?_ 1 _ rfl; (with_reducible repeat (first | refine blk_drewN ?_ _ | refine blk_drew ?_ | refine blk_alloc ?_ _)); refine blk_put (cs := #[.string (⟨#[]⟩ : ByteArray), .string (⟨#[]⟩ : ByteArray), .bool false]) ?_ 0 _ rfl; exact zk BK516) hb); replace HB := Aside0.mk (below_step (zb HB) hb); (try clear hb); have hnb58 := NB516_507.out; have hnc58 := NB507_516.out; have hnb59 := NB516_508.out; have hnc59 := NB508_516.out; obtain ⟨hcz60_0, hcz60_1, hcz60_2, hfz60_0, hfz60_1, hfz60_2⟩ := c3 BK516) | ((with_reducible refine gq 117 rfl ?_); refine goesL_ (some 83) rfl rfl Try.func117 (by kernel_rfl) rfl #[.string (a1.extract ((ji39) : Int).toNat a1.size)] rfl (by (try simp only [List.map_toArray, List.map_cons, List.map_nil]); first | done | (simp only [hji39]; rfl) | rfl | (simp only [List.length_drop, List.length_take]; rfl)) ?_; (with_reducible refine (impl_WordRead.calls kj4 (a1.extract ((ji39) : Int).toNat a1.size) t520 t521 false _ A42.out).mono ?_); rintro e w61 ⟨rfl, hb⟩; refine ⟨_, rfl, ?_⟩; replace BK507 := Aside0.mk (blk_below (g := gb507) (o := .cells #[.slice A0_0 l0_0.length c0_0, .int .i64 a0_1] 25 (0, 0)) (by (with_reducible repeat (first | refine blk_drewN ?_ _ | refine blk_drew ?_ | refine blk_alloc ?_ _)); refine blk_far ?_ NB507_516.out _; exact zk BK507) hb); replace BK508 := Aside0.mk (blk_below (g := gb508) (o := .cells #[.string x509000_4, .string x509001_4, .bool x509002_4] 88 (0, 0)) (by (with_reducible repeat (first | refine blk_drewN ?_ _ | refine blk_drew ?_ | refine blk_alloc ?_ _)); refine blk_far ?_ NB508_516.out _; exact zk BK508) hb); replace BK516 := Aside0.mk (blk_below (g := gb516) (o := .cells #[.string t517, .string t513, .bool t514] 88 (0, 0)) (by (with_reducible repeat (first | refine blk_drewN ?_ _ | refine blk_drew ?_ | refine blk_alloc ?_ _)); refine blk_put (cs := #[.string t512, .string t513, .bool t514]) ?_ 0 _ rfl; exact zk BK516) hb); replace HB := Aside0.mk (below_step (zb HB) hb); (try clear hb); obtain ⟨hcz62_0, hcz62_1, hcz62_2, hfz62_0, hfz62_1, hfz62_2⟩ := c3 BK516))
             have n0_ : Aside0 ((((w61.setCell ⟨gb516, 0, none⟩ (.string t517)).setCell ⟨gb516, 1, none⟩ (.string t520)).setCell ⟨gb516, 2, none⟩ (.bool (x8_4 == 4))).heap[gb507]? = some (.cells #[.slice A0_0 l0_0.length c0_0, .int .i64 a0_1] 25 (0, 0))) := ⟨by (with_reducible repeat (first | refine blk_drewN ?_ _ | refine blk_drew ?_ | refine blk_alloc ?_ _)); refine blk_far ?_ NB507_516.out _; (with_reducible repeat (first | refine blk_drewN ?_ _ | refine blk_drew ?_ | refine blk_alloc ?_ _)); refine blk_far ?_ NB507_516.out _; (with_reducible repeat (first | refine blk_drewN ?_ _ | refine blk_drew ?_ | refine blk_alloc ?_ _)); refine blk_far ?_ NB507_516.out _; exact zk BK507⟩
             have n1_ : Aside0 ((((w61.setCell ⟨gb516, 0, none⟩ (.string t517)).setCell ⟨gb516, 1, none⟩ (.string t520)).setCell ⟨gb516, 2, none⟩ (.bool (x8_4 == 4))).heap[gb508]? = some (.cells #[.string x509000_4, .string x509001_4, .bool x509002_4] 88 (0, 0))) := ⟨by (with_reducible repeat (first | refine blk_drewN ?_ _ | refine blk_drew ?_ | refine blk_alloc ?_ _)); refine blk_far ?_ NB508_516.out _; (with_reducible repeat (first | refine blk_drewN ?_ _ | refine blk_drew ?_ | refine blk_alloc ?_ _)); refine blk_far ?_ NB508_516.out _; (with_reducible repeat (first | refine blk_drewN ?_ _ | refine blk_drew ?_ | refine blk_alloc ?_ _)); refine blk_far ?_ NB508_516.out _; exact zk BK508⟩
             have n2_ : Aside0 ((((w61.setCell ⟨gb516, 0, none⟩ (.string t517)).setCell ⟨gb516, 1, none⟩ (.string t520)).setCell ⟨gb516, 2, none⟩ (.bool (x8_4 == 4))).heap[gb516]? = some (.cells #[.string t517, .string t520, .bool (x8_4 == 4)] 88 (0, 0))) := ⟨by (with_reducible repeat (first | refine blk_drewN ?_ _ | refine blk_drew ?_ | refine blk_alloc ?_ _)); refine blk_put (cs := #[.string t517, .string t520, .bool t514]) ?_ 2 _ rfl; (with_reducible repeat (first | refine blk_drewN ?_ _ | refine blk_drew ?_ | refine blk_alloc ?_ _)); refine blk_put (cs := #[.string t517, .string t513, .bool t514]) ?_ 1 _ rfl; (with_reducible repeat (first | refine blk_drewN ?_ _ | refine blk_drew ?_ | refine blk_alloc ?_ _)); refine blk_put (cs := #[.string t517, .string t513, .bool t514]) ?_ 0 _ rfl; exact zk BK516⟩
             have n3_ : Aside0 (Below w.heap.size w (((w61.setCell ⟨gb516, 0, none⟩ (.string t517)).setCell ⟨gb516, 1, none⟩ (.string t520)).setCell ⟨gb516, 2, none⟩ (.bool (x8_4 == 4)))) := ⟨zb HB⟩
             (try clear BK507)
             (try clear BK508)
             (try clear BK516)
             (try clear HB)
             generalize (((w61.setCell ⟨gb516, 0, none⟩ (.string t517)).setCell ⟨gb516, 1, none⟩ (.string t520)).setCell ⟨gb516, 2, none⟩ (.bool (x8_4 == 4))) = w63 at n0_ n1_ n2_ n3_ ⊢
             have BK507 := n0_
             have BK508 := n1_
             have BK516 := n2_
             have HB := n3_
             clear n0_ n1_ n2_ n3_
             replace BK507 := Aside0.mk (blk_drew BK507.out)
             replace BK508 := Aside0.mk (blk_drew BK508.out)
             replace BK516 := Aside0.mk (blk_drew BK516.out)
             replace HB := Aside0.mk (below_drew1 HB.out)
             refine start_ (n := 14) (S := fun w' => w'.cell? ⟨gb516, 0, none⟩ = some (.string t517) ∧ w'.cell? ⟨gb516, 1, none⟩ = some (.string t520) ∧ w'.cell? ⟨gb516, 2, none⟩ = some (.bool (x8_4 == 4))) (ds := []) #[false, false, false, false, false, false, false, false, false, false, false, false, false, false] (by kernel_rfl) rfl rfl ⟨(blk_cell BK516.out 0).trans rfl, (blk_cell BK516.out 1).trans rfl, (blk_cell BK516.out 2).trans rfl⟩ (fun hHeld => ?_); refine with_tabW impl_Table_field.tab25 impl_Table_field.bits25 (fun HT_ HW_ => ?_)
             generalize w63.drew = w64 at BK507 BK508 BK516 HB hHeld ⊢
             refine pu 1 (some 94) (bm 14 2) rfl rfl ?_
             refine pu 2 (some 95) (bm 14 6) rfl rfl ?_
             refine pu 3 (some 96) (bm 14 14) rfl rfl ?_
             refine pu 4 (some 97) (bm 14 30) rfl rfl ?_
             refine pu 5 (some 98) (bm 14 62) rfl rfl ?_
             refine pu 6 (some 99) (bm 14 126) rfl rfl ?_
             refine pv 7 (some 100) (bm 14 254) rfl rfl ?_
             refine pv 8 (some 101) (bm 14 510) rfl rfl ?_
             refine pu 9 (some 102) (bm 14 1022) rfl rfl ?_
             refine tk 0 (some 93) (bm 14 1023) rfl rfl hHeld ?_
             refine one_ (i := 10) (N := none) (bm 14 2047) rfl rfl (one_of HT_.out (by kernel_rfl)) (by decide) (fun K hK => ?_)
             have hs65 : w64.cell? ⟨gb508, 0, none⟩ = some (.string x509000_4) := (blk_cell BK508.out 0).trans rfl
             have hfs65 := blk_frozen BK508.out 0
             have hns65_0 := NB507_508.out
             have hns65_2 := NB516_508.out
             have hms65_0 := NB508_507.out
             have hms65_2 := NB508_516.out
             have hs66 : w64.cell? ⟨gb508, 1, none⟩ = some (.string x509001_4) := (blk_cell BK508.out 1).trans rfl
             have hfs66 := blk_frozen BK508.out 1
             have hns66_0 := NB507_508.out
             have hns66_2 := NB516_508.out
             have hms66_0 := NB508_507.out
             have hms66_2 := NB508_516.out
             have hs67 : w64.cell? ⟨gb508, 2, none⟩ = some (.bool x509002_4) := (blk_cell BK508.out 2).trans rfl
             have hfs67 := blk_frozen BK508.out 2
             have hns67_0 := NB507_508.out
             have hns67_2 := NB516_508.out
             have hms67_0 := NB508_507.out
             have hms67_2 := NB508_516.out
             refine skip_ (w1 := ?_) (by rfl) rfl ?_ ?_
             rotate_left
             ·go_simp
              rfl
             refine hK.out _ _ ⟨((cell_far (p := ⟨gb508, _, none⟩) NB516_508.out _).trans (((cell_far (p := ⟨gb508, _, none⟩) NB516_508.out _).trans (((cell_far (p := ⟨gb508, _, none⟩) NB516_508.out _).trans (hHeld.1)))))), ((cell_far (p := ⟨gb508, _, none⟩) NB516_508.out _).trans (((cell_far (p := ⟨gb508, _, none⟩) NB516_508.out _).trans (((cell_far (p := ⟨gb508, _, none⟩) NB516_508.out _).trans (hHeld.2.1)))))), ((cell_far (p := ⟨gb508, _, none⟩) NB516_508.out _).trans (((cell_far (p := ⟨gb508, _, none⟩) NB516_508.out _).trans (((cell_far (p := ⟨gb508, _, none⟩) NB516_508.out _).trans (hHeld.2.2))))))⟩ (fun hHeld => ?_)
             clear hK K
             refine pu 11 (some 5) (bm 14 4095) rfl rfl ?_
             refine pu 12 (some 6) (bm 14 8191) rfl rfl ?_
             refine pu 13 (some 7) (bm 14 16383) rfl rfl ?_
             refine done_ (done_of HT_.out (by kernel_rfl)) ?_
             try go_wp2
             refine bodyPost_ret (results_list (rs := [.cell 4 88, .tmp 5, .tmp 6, .tmp 7]) rfl (by simp) (.cell gb508 88 #[.string t517, .string t520, .bool (x8_4 == 4)] (0, 0) _ rfl (by (with_reducible repeat (first | refine blk_drewN ?_ _ | refine blk_drew ?_ | refine blk_alloc ?_ _)); refine blk_put (cs := #[.string t517, .string t520, .bool x509002_4]) ?_ 2 _ rfl; (with_reducible repeat (first | refine blk_drewN ?_ _ | refine blk_drew ?_ | refine blk_alloc ?_ _)); refine blk_put (cs := #[.string t517, .string x509001_4, .bool x509002_4]) ?_ 1 _ rfl; (with_reducible repeat (first | refine blk_drewN ?_ _ | refine blk_drew ?_ | refine blk_alloc ?_ _)); refine blk_put (cs := #[.string x509000_4, .string x509001_4, .bool x509002_4]) ?_ 0 _ rfl; exact zk BK508) Try.underlying88 rfl (by kernel_rfl) (.tmp (.tmp (.tmp .nil))))) rfl ?_
             exact ⟨by first | rfl | (simp [errW_none, errW_some] <;> rfl) | (simp only [← hji39]; first | rfl | (simp [errW_none, errW_some] <;> rfl)) | (simp [*, errW_none, errW_some] <;> rfl) | (simp [errW_none, errW_some]; exact (by intro l_; cases l_ <;> rfl : ∀ l_ : List UInt8, l_.isEmpty = !(l_ != [])) _), zb HB⟩
           ·rw [if_neg c41] at H
            exact absurd H (by simp)
          ·rw [if_neg c40] at H
           exact absurd H (by simp)
         ·replace c38 := Bool.eq_false_iff.mpr c38
          subst c38
          rw [if_neg (show ¬ (false = true) by decide)] at H
          simp only [Option.some.injEq, Prod.mk.injEq] at H
          obtain ⟨rfl, rfl, rfl, rfl, rfl, rfl⟩ := H
          go_wp2_with (first | ((with_reducible refine gq 117 rfl ?_); refine gl (some 64) Try.func117 #[.string (a1.extract (t510 : Int).toNat a1.size)] ?_; (with_reducible refine (impl_WordRead.calls kj4 (a1.extract (t510 : Int).toNat a1.size) t517 t518 false _ A37.out).mono ?_); rintro e w68 ⟨rfl, hb⟩; refine ⟨_, rfl, ?_⟩; replace BK507 := Aside0.mk (blk_below (g := gb507) (o := .cells #[.slice A0_0 l0_0.length c0_0, .int .i64 a0_1] 25 (0, 0)) (by (with_reducible repeat (first | refine blk_drewN ?_ _ | refine blk_drew ?_ | refine blk_alloc ?_ _)); refine blk_far ?_ NB507_516.out _; (with_reducible repeat (first | refine blk_drewN ?_ _ | refine blk_drew ?_ | refine blk_alloc ?_ _)); refine blk_far ?_ NB507_516.out _; (with_reducible repeat (first | refine blk_drewN ?_ _ | refine blk_drew ?_ | refine blk_alloc ?_ _)); refine blk_far ?_ NB507_516.out _; exact zk BK507) hb); replace BK508 := Aside0.mk (blk_below (g := gb508) (o := .cells #[.string x509000_4, .string x509001_4, .bool x509002_4] 88 (0, 0)) (by (with_reducible repeat (first | refine blk_drewN ?_ _ | refine blk_drew ?_ | refine blk_alloc ?_ _)); refine blk_far ?_ NB508_516.out _; (with_reducible repeat (first | refine blk_drewN ?_ _ | refine blk_drew ?_ | refine blk_alloc ?_ _)); refine blk_far ?_ NB508_516.out _; (with_reducible repeat (first | refine blk_drewN ?_ _ | refine blk_drew ?_ | refine blk_alloc ?_ _)); refine blk_far ?_ NB508_516.out _; exact zk BK508) hb); replace BK516 := Aside0.mk (blk_below (g := gb516) (o := .cells #[.string t512, .string t513, .bool t514] 88 (0, 0)) (by (with_reducible repeat (first | refine blk_drewN ?_ _ | refine blk_drew ?_ | refine blk_alloc ?_ _)); refine blk_put (cs := #[.string t512, .string t513, .bool false]) ?_ 2 _ rfl; (with_reducible repeat (first | refine blk_drewN ?_ _ | refine blk_drew ?_ | refine blk_alloc ?_ _)); refine blk_put (cs := #[.string t512, .string (⟨#[]⟩ : ByteArray), .bool false]) ?_ 1 _ rfl; (with_reducible repeat (first | refine blk_drewN ?_ _ | refine blk_drew ?_ | refine blk_alloc ?_ _)); refine blk_put (cs := #[.string (⟨#[]⟩ : ByteArray), .string (⟨#[]⟩ : ByteArray), .bool false]) ?_ 0 _ rfl; exact zk BK516) hb); replace HB := Aside0.mk (below_step (zb HB) hb); (try clear hb); have hnb69 := NB508_507.out; have hnc69 := NB507_508.out; have hnb70 := NB508_516.out; have hnc70 := NB516_508.out; obtain ⟨hcz71_0, hcz71_1, hcz71_2, hfz71_0, hfz71_1, hfz71_2⟩ := c3 BK508))
          refine bodyPost_ret (results_list (rs := [.cell 4 88, .tmp 5, .tmp 6, .tmp 7]) rfl (by simp) (.cell gb508 88 #[.string (⟨#[]⟩ : ByteArray), .string (⟨#[]⟩ : ByteArray), .bool false] (0, 0) _ rfl (by (with_reducible repeat (first | refine blk_drewN ?_ _ | refine blk_drew ?_ | refine blk_alloc ?_ _)); refine blk_put (cs := #[.string (⟨#[]⟩ : ByteArray), .string (⟨#[]⟩ : ByteArray), .bool x509002_4]) ?_ 2 _ rfl; (with_reducible repeat (first | refine blk_drewN ?_ _ | refine blk_drew ?_ | refine blk_alloc ?_ _)); refine blk_put (cs := #[.string (⟨#[]⟩ : ByteArray), .string x509001_4, .bool x509002_4]) ?_ 1 _ rfl; (with_reducible repeat (first | refine blk_drewN ?_ _ | refine blk_drew ?_ | refine blk_alloc ?_ _)); refine blk_put (cs := #[.string x509000_4, .string x509001_4, .bool x509002_4]) ?_ 0 _ rfl; exact zk BK508) Try.underlying88 rfl (by kernel_rfl) (.tmp (.tmp (.tmp .nil))))) rfl ?_
          exact ⟨ze, zb HB⟩
        ·rw [if_neg c36] at H
         exact absurd H (by simp)
       ·rw [if_neg c35] at H
        exact absurd H (by simp)
      ·rw [if_neg c34] at H
       have c34b0 : (t509 == 0) = false := beq_eq_false_iff_ne.mpr c34
       have c34b1 : (t509 != 0) = true := bne_iff_ne.mpr c34
       by_cases c72 : t515 = true
       ·subst c72
        rw [if_pos rfl] at H
        by_cases c73 : 0 ≤ t510
        ·rw [if_pos c73] at H
         have c73b0 := eq_true c73
         have c73b1 := decide_eq_true c73
         clear c73
         by_cases c74 : t510 ≤ (a1.size : Int)
         ·rw [if_pos c74] at H
          have c74b0 := eq_true c74
          have c74b1 := decide_eq_true c74
          clear c74
          obtain ⟨⟨t524, t525, t526⟩, A75, H⟩ := ob H
          (try dsimp only at H)
          by_cases c76 : t526 = true
          ·subst c76
           rw [if_pos rfl] at H
           obtain ⟨t527, A77, H⟩ := ob H
           (try dsimp only at H)
           simp only [Option.some.injEq, Prod.mk.injEq] at H
           obtain ⟨rfl, rfl, rfl, rfl, rfl, rfl⟩ := H
           try go_wp2_with (first | ((with_reducible refine gq 117 rfl ?_); refine gl (some 83) Try.func117 #[.string (a1.extract (t510 : Int).toNat a1.size)] ?_; (with_reducible refine (impl_WordRead.calls kj4 (a1.extract (t510 : Int).toNat a1.size) t524 t525 true _ A75.out).mono ?_); rintro e w78 ⟨rfl, hb⟩; refine ⟨_, rfl, ?_⟩; replace BK507 := Aside0.mk (blk_below (g := gb507) (o := .cells #[.slice A0_0 l0_0.length c0_0, .int .i64 a0_1] 25 (0, 0)) (by (with_reducible repeat (first | refine blk_drewN ?_ _ | refine blk_drew ?_ | refine blk_alloc ?_ _)); refine blk_far ?_ NB507_516.out _; (with_reducible repeat (first | refine blk_drewN ?_ _ | refine blk_drew ?_ | refine blk_alloc ?_ _)); refine blk_far ?_ NB507_516.out _; (with_reducible repeat (first | refine blk_drewN ?_ _ | refine blk_drew ?_ | refine blk_alloc ?_ _)); refine blk_far ?_ NB507_516.out _; exact zk BK507) hb); replace BK508 := Aside0.mk (blk_below (g := gb508) (o := .cells #[.string x509000_4, .string x509001_4, .bool x509002_4] 88 (0, 0)) (by (with_reducible repeat (first | refine blk_drewN ?_ _ | refine blk_drew ?_ | refine blk_alloc ?_ _)); refine blk_far ?_ NB508_516.out _; (with_reducible repeat (first | refine blk_drewN ?_ _ | refine blk_drew ?_ | refine blk_alloc ?_ _)); refine blk_far ?_ NB508_516.out _; (with_reducible repeat (first | refine blk_drewN ?_ _ | refine blk_drew ?_ | refine blk_alloc ?_ _)); refine blk_far ?_ NB508_516.out _; exact zk BK508) hb); replace BK516 := Aside0.mk (blk_below (g := gb516) (o := .cells #[.string t512, .string t513, .bool t514] 88 (0, 0)) (by (with_reducible repeat (first | refine blk_drewN ?_ _ | refine blk_drew ?_ | refine blk_alloc ?_ _)); refine blk_put (cs := #[.string t512, .string t513, .bool false]) ?_ 2 _ rfl; (with_reducible repeat (first | refine blk_drewN ?_ _ | refine blk_drew ?_ | refine blk_alloc ?_ _)); refine blk_put (cs := #[.string t512, .string (⟨#[]⟩ : ByteArray), .bool false]) ?_ 1 _ rfl; (with_reducible repeat (first | refine blk_drewN ?_ _ | refine blk_drew ?_ | refine blk_alloc ?_ _)); refine blk_put (cs := #[.string (⟨#[]⟩ : ByteArray), .string (⟨#[]⟩ : ByteArray), .bool false]) ?_ 0 _ rfl; exact zk BK516) hb); replace HB := Aside0.mk (below_step (zb HB) hb); (try clear hb); have hnb79 := NB516_507.out; have hnc79 := NB507_516.out; have hnb80 := NB516_508.out; have hnc80 := NB508_516.out; obtain ⟨hcz81_0, hcz81_1, hcz81_2, hfz81_0, hfz81_1, hfz81_2⟩ := c3 BK516))
           have n0_ : Aside0 ((((w78.setCell ⟨gb516, 0, none⟩ (.string t512)).setCell ⟨gb516, 1, none⟩ (.string t524)).setCell ⟨gb516, 2, none⟩ (.bool (x8_4 == 4))).heap[gb507]? = some (.cells #[.slice A0_0 l0_0.length c0_0, .int .i64 a0_1] 25 (0, 0))) := ⟨by (with_reducible repeat (first | refine blk_drewN ?_ _ | refine blk_drew ?_ | refine blk_alloc ?_ _)); refine blk_far ?_ NB507_516.out _; (with_reducible repeat (first | refine blk_drewN ?_ _ | refine blk_drew ?_ | refine blk_alloc ?_ _)); refine blk_far ?_ NB507_516.out _; (with_reducible repeat (first | refine blk_drewN ?_ _ | refine blk_drew ?_ | refine blk_alloc ?_ _)); refine blk_far ?_ NB507_516.out _; exact zk BK507⟩
           have n1_ : Aside0 ((((w78.setCell ⟨gb516, 0, none⟩ (.string t512)).setCell ⟨gb516, 1, none⟩ (.string t524)).setCell ⟨gb516, 2, none⟩ (.bool (x8_4 == 4))).heap[gb508]? = some (.cells #[.string x509000_4, .string x509001_4, .bool x509002_4] 88 (0, 0))) := ⟨by (with_reducible repeat (first | refine blk_drewN ?_ _ | refine blk_drew ?_ | refine blk_alloc ?_ _)); refine blk_far ?_ NB508_516.out _; (with_reducible repeat (first | refine blk_drewN ?_ _ | refine blk_drew ?_ | refine blk_alloc ?_ _)); refine blk_far ?_ NB508_516.out _; (with_reducible repeat (first | refine blk_drewN ?_ _ | refine blk_drew ?_ | refine blk_alloc ?_ _)); refine blk_far ?_ NB508_516.out _; exact zk BK508⟩
           have n2_ : Aside0 ((((w78.setCell ⟨gb516, 0, none⟩ (.string t512)).setCell ⟨gb516, 1, none⟩ (.string t524)).setCell ⟨gb516, 2, none⟩ (.bool (x8_4 == 4))).heap[gb516]? = some (.cells #[.string t512, .string t524, .bool (x8_4 == 4)] 88 (0, 0))) := ⟨by (with_reducible repeat (first | refine blk_drewN ?_ _ | refine blk_drew ?_ | refine blk_alloc ?_ _)); refine blk_put (cs := #[.string t512, .string t524, .bool t514]) ?_ 2 _ rfl; (with_reducible repeat (first | refine blk_drewN ?_ _ | refine blk_drew ?_ | refine blk_alloc ?_ _)); refine blk_put (cs := #[.string t512, .string t513, .bool t514]) ?_ 1 _ rfl; (with_reducible repeat (first | refine blk_drewN ?_ _ | refine blk_drew ?_ | refine blk_alloc ?_ _)); refine blk_put (cs := #[.string t512, .string t513, .bool t514]) ?_ 0 _ rfl; exact zk BK516⟩
           have n3_ : Aside0 (Below w.heap.size w (((w78.setCell ⟨gb516, 0, none⟩ (.string t512)).setCell ⟨gb516, 1, none⟩ (.string t524)).setCell ⟨gb516, 2, none⟩ (.bool (x8_4 == 4)))) := ⟨zb HB⟩
           (try clear BK507)
           (try clear BK508)
           (try clear BK516)
           (try clear HB)
           generalize (((w78.setCell ⟨gb516, 0, none⟩ (.string t512)).setCell ⟨gb516, 1, none⟩ (.string t524)).setCell ⟨gb516, 2, none⟩ (.bool (x8_4 == 4))) = w82 at n0_ n1_ n2_ n3_ ⊢
           have BK507 := n0_
           have BK508 := n1_
           have BK516 := n2_
           have HB := n3_
           clear n0_ n1_ n2_ n3_
           replace BK507 := Aside0.mk (blk_drew BK507.out)
           replace BK508 := Aside0.mk (blk_drew BK508.out)
           replace BK516 := Aside0.mk (blk_drew BK516.out)
           replace HB := Aside0.mk (below_drew1 HB.out)
           refine start_ (n := 14) (S := fun w' => w'.cell? ⟨gb516, 0, none⟩ = some (.string t512) ∧ w'.cell? ⟨gb516, 1, none⟩ = some (.string t524) ∧ w'.cell? ⟨gb516, 2, none⟩ = some (.bool (x8_4 == 4))) (ds := []) #[false, false, false, false, false, false, false, false, false, false, false, false, false, false] (by kernel_rfl) rfl rfl ⟨(blk_cell BK516.out 0).trans rfl, (blk_cell BK516.out 1).trans rfl, (blk_cell BK516.out 2).trans rfl⟩ (fun hHeld => ?_); refine with_tabW impl_Table_field.tab25 impl_Table_field.bits25 (fun HT_ HW_ => ?_)
           generalize w82.drew = w83 at BK507 BK508 BK516 HB hHeld ⊢
           refine pu 1 (some 94) (bm 14 2) rfl rfl ?_
           refine pu 2 (some 95) (bm 14 6) rfl rfl ?_
           refine pu 3 (some 96) (bm 14 14) rfl rfl ?_
           refine pu 4 (some 97) (bm 14 30) rfl rfl ?_
           refine pu 5 (some 98) (bm 14 62) rfl rfl ?_
           refine pu 6 (some 99) (bm 14 126) rfl rfl ?_
           refine tk 0 (some 93) (bm 14 127) rfl rfl hHeld ?_
           refine tk 7 (some 100) (bm 14 255) rfl rfl hHeld ?_
           refine one_ (i := 8) (N := some 101) (bm 14 511) rfl rfl (one_of HT_.out (by kernel_rfl)) (by decide) (fun K hK => ?_)
           refine gs Try.func64 #[.agg #[.string t512, .string t524, .bool (x8_4 == 4)]] ?_
           with_reducible refine (impl_FieldOk.calls kj4 t512 t524 (x8_4 == 4) t527 _ A77.out).mono ?_
           rintro e w84 ⟨rfl, hb⟩
           refine ⟨_, rfl, ?_⟩
           replace BK507 := kb BK507 hb
           replace BK508 := kb BK508 hb
           replace BK516 := kb BK516 hb
           replace HB := Aside0.mk (below_step (zb HB) hb)
           (try clear hb)
           refine hK.out _ _ ⟨(blk_cell BK516.out 0).trans rfl, (blk_cell BK516.out 1).trans rfl, (blk_cell BK516.out 2).trans rfl⟩ (fun hHeld => ?_)
           clear hK K
           refine nm ?_
           refine pu 9 (some 102) (bm 14 1023) rfl rfl ?_
           refine one_ (i := 10) (N := none) (bm 14 2047) rfl rfl (one_of HT_.out (by kernel_rfl)) (by decide) (fun K hK => ?_)
           have hs85 : w84.cell? ⟨gb508, 0, none⟩ = some (.string x509000_4) := (blk_cell BK508.out 0).trans rfl
           have hfs85 := blk_frozen BK508.out 0
           have hns85_0 := NB507_508.out
           have hns85_2 := NB516_508.out
           have hms85_0 := NB508_507.out
           have hms85_2 := NB508_516.out
           have hs86 : w84.cell? ⟨gb508, 1, none⟩ = some (.string x509001_4) := (blk_cell BK508.out 1).trans rfl
           have hfs86 := blk_frozen BK508.out 1
           have hns86_0 := NB507_508.out
           have hns86_2 := NB516_508.out
           have hms86_0 := NB508_507.out
           have hms86_2 := NB508_516.out
           have hs87 : w84.cell? ⟨gb508, 2, none⟩ = some (.bool x509002_4) := (blk_cell BK508.out 2).trans rfl
           have hfs87 := blk_frozen BK508.out 2
           have hns87_0 := NB507_508.out
           have hns87_2 := NB516_508.out
           have hms87_0 := NB508_507.out
           have hms87_2 := NB508_516.out
           refine skip_ (w1 := ?_) (by rfl) rfl ?_ ?_
           rotate_left
           ·go_simp
            rfl
           refine hK.out _ _ ⟨((cell_far (p := ⟨gb508, _, none⟩) NB516_508.out _).trans (((cell_far (p := ⟨gb508, _, none⟩) NB516_508.out _).trans (((cell_far (p := ⟨gb508, _, none⟩) NB516_508.out _).trans (hHeld.1)))))), ((cell_far (p := ⟨gb508, _, none⟩) NB516_508.out _).trans (((cell_far (p := ⟨gb508, _, none⟩) NB516_508.out _).trans (((cell_far (p := ⟨gb508, _, none⟩) NB516_508.out _).trans (hHeld.2.1)))))), ((cell_far (p := ⟨gb508, _, none⟩) NB516_508.out _).trans (((cell_far (p := ⟨gb508, _, none⟩) NB516_508.out _).trans (((cell_far (p := ⟨gb508, _, none⟩) NB516_508.out _).trans (hHeld.2.2))))))⟩ (fun hHeld => ?_)
           clear hK K
           refine pu 11 (some 5) (bm 14 4095) rfl rfl ?_
           refine pu 12 (some 6) (bm 14 8191) rfl rfl ?_
           refine pu 13 (some 7) (bm 14 16383) rfl rfl ?_
           refine done_ (done_of HT_.out (by kernel_rfl)) ?_
           try go_wp2
           refine bodyPost_ret (results_list (rs := [.cell 4 88, .tmp 5, .tmp 6, .tmp 7]) rfl (by simp) (.cell gb508 88 #[.string t512, .string t524, .bool (x8_4 == 4)] (0, 0) _ rfl (by (with_reducible repeat (first | refine blk_drewN ?_ _ | refine blk_drew ?_ | refine blk_alloc ?_ _)); refine blk_put (cs := #[.string t512, .string t524, .bool x509002_4]) ?_ 2 _ rfl; (with_reducible repeat (first | refine blk_drewN ?_ _ | refine blk_drew ?_ | refine blk_alloc ?_ _)); refine blk_put (cs := #[.string t512, .string x509001_4, .bool x509002_4]) ?_ 1 _ rfl; (with_reducible repeat (first | refine blk_drewN ?_ _ | refine blk_drew ?_ | refine blk_alloc ?_ _)); refine blk_put (cs := #[.string x509000_4, .string x509001_4, .bool x509002_4]) ?_ 0 _ rfl; exact zk BK508) Try.underlying88 rfl (by kernel_rfl) (.tmp (.tmp (.tmp .nil))))) rfl ?_
           exact ⟨ze, zb HB⟩
          ·replace c76 := Bool.eq_false_iff.mpr c76
           subst c76
           rw [if_neg (show ¬ (false = true) by decide)] at H
           simp only [Option.some.injEq, Prod.mk.injEq] at H
           obtain ⟨rfl, rfl, rfl, rfl, rfl, rfl⟩ := H
           try go_wp2_with (first | ((with_reducible refine gq 117 rfl ?_); refine gl (some 83) Try.func117 #[.string (a1.extract (t510 : Int).toNat a1.size)] ?_; (with_reducible refine (impl_WordRead.calls kj4 (a1.extract (t510 : Int).toNat a1.size) t524 t525 false _ A75.out).mono ?_); rintro e w88 ⟨rfl, hb⟩; refine ⟨_, rfl, ?_⟩; replace BK507 := Aside0.mk (blk_below (g := gb507) (o := .cells #[.slice A0_0 l0_0.length c0_0, .int .i64 a0_1] 25 (0, 0)) (by (with_reducible repeat (first | refine blk_drewN ?_ _ | refine blk_drew ?_ | refine blk_alloc ?_ _)); refine blk_far ?_ NB507_516.out _; (with_reducible repeat (first | refine blk_drewN ?_ _ | refine blk_drew ?_ | refine blk_alloc ?_ _)); refine blk_far ?_ NB507_516.out _; (with_reducible repeat (first | refine blk_drewN ?_ _ | refine blk_drew ?_ | refine blk_alloc ?_ _)); refine blk_far ?_ NB507_516.out _; exact zk BK507) hb); replace BK508 := Aside0.mk (blk_below (g := gb508) (o := .cells #[.string x509000_4, .string x509001_4, .bool x509002_4] 88 (0, 0)) (by (with_reducible repeat (first | refine blk_drewN ?_ _ | refine blk_drew ?_ | refine blk_alloc ?_ _)); refine blk_far ?_ NB508_516.out _; (with_reducible repeat (first | refine blk_drewN ?_ _ | refine blk_drew ?_ | refine blk_alloc ?_ _)); refine blk_far ?_ NB508_516.out _; (with_reducible repeat (first | refine blk_drewN ?_ _ | refine blk_drew ?_ | refine blk_alloc ?_ _)); refine blk_far ?_ NB508_516.out _; exact zk BK508) hb); replace BK516 := Aside0.mk (blk_below (g := gb516) (o := .cells #[.string t512, .string t513, .bool t514] 88 (0, 0)) (by (with_reducible repeat (first | refine blk_drewN ?_ _ | refine blk_drew ?_ | refine blk_alloc ?_ _)); refine blk_put (cs := #[.string t512, .string t513, .bool false]) ?_ 2 _ rfl; (with_reducible repeat (first | refine blk_drewN ?_ _ | refine blk_drew ?_ | refine blk_alloc ?_ _)); refine blk_put (cs := #[.string t512, .string (⟨#[]⟩ : ByteArray), .bool false]) ?_ 1 _ rfl; (with_reducible repeat (first | refine blk_drewN ?_ _ | refine blk_drew ?_ | refine blk_alloc ?_ _)); refine blk_put (cs := #[.string (⟨#[]⟩ : ByteArray), .string (⟨#[]⟩ : ByteArray), .bool false]) ?_ 0 _ rfl; exact zk BK516) hb); replace HB := Aside0.mk (below_step (zb HB) hb); (try clear hb); have hnb89 := NB516_507.out; have hnc89 := NB507_516.out; have hnb90 := NB516_508.out; have hnc90 := NB508_516.out; obtain ⟨hcz91_0, hcz91_1, hcz91_2, hfz91_0, hfz91_1, hfz91_2⟩ := c3 BK516))
           have n0_ : Aside0 ((((w88.setCell ⟨gb516, 0, none⟩ (.string t512)).setCell ⟨gb516, 1, none⟩ (.string t524)).setCell ⟨gb516, 2, none⟩ (.bool (x8_4 == 4))).heap[gb507]? = some (.cells #[.slice A0_0 l0_0.length c0_0, .int .i64 a0_1] 25 (0, 0))) := ⟨by (with_reducible repeat (first | refine blk_drewN ?_ _ | refine blk_drew ?_ | refine blk_alloc ?_ _)); refine blk_far ?_ NB507_516.out _; (with_reducible repeat (first | refine blk_drewN ?_ _ | refine blk_drew ?_ | refine blk_alloc ?_ _)); refine blk_far ?_ NB507_516.out _; (with_reducible repeat (first | refine blk_drewN ?_ _ | refine blk_drew ?_ | refine blk_alloc ?_ _)); refine blk_far ?_ NB507_516.out _; exact zk BK507⟩
           have n1_ : Aside0 ((((w88.setCell ⟨gb516, 0, none⟩ (.string t512)).setCell ⟨gb516, 1, none⟩ (.string t524)).setCell ⟨gb516, 2, none⟩ (.bool (x8_4 == 4))).heap[gb508]? = some (.cells #[.string x509000_4, .string x509001_4, .bool x509002_4] 88 (0, 0))) := ⟨by (with_reducible repeat (first | refine blk_drewN ?_ _ | refine blk_drew ?_ | refine blk_alloc ?_ _)); refine blk_far ?_ NB508_516.out _; (with_reducible repeat (first | refine blk_drewN ?_ _ | refine blk_drew ?_ | refine blk_alloc ?_ _)); refine blk_far ?_ NB508_516.out _; (with_reducible repeat (first | refine blk_drewN ?_ _ | refine blk_drew ?_ | refine blk_alloc ?_ _)); refine blk_far ?_ NB508_516.out _; exact zk BK508⟩
           have n2_ : Aside0 ((((w88.setCell ⟨gb516, 0, none⟩ (.string t512)).setCell ⟨gb516, 1, none⟩ (.string t524)).setCell ⟨gb516, 2, none⟩ (.bool (x8_4 == 4))).heap[gb516]? = some (.cells #[.string t512, .string t524, .bool (x8_4 == 4)] 88 (0, 0))) := ⟨by (with_reducible repeat (first | refine blk_drewN ?_ _ | refine blk_drew ?_ | refine blk_alloc ?_ _)); refine blk_put (cs := #[.string t512, .string t524, .bool t514]) ?_ 2 _ rfl; (with_reducible repeat (first | refine blk_drewN ?_ _ | refine blk_drew ?_ | refine blk_alloc ?_ _)); refine blk_put (cs := #[.string t512, .string t513, .bool t514]) ?_ 1 _ rfl; (with_reducible repeat (first | refine blk_drewN ?_ _ | refine blk_drew ?_ | refine blk_alloc ?_ _)); refine blk_put (cs := #[.string t512, .string t513, .bool t514]) ?_ 0 _ rfl; exact zk BK516⟩
           have n3_ : Aside0 (Below w.heap.size w (((w88.setCell ⟨gb516, 0, none⟩ (.string t512)).setCell ⟨gb516, 1, none⟩ (.string t524)).setCell ⟨gb516, 2, none⟩ (.bool (x8_4 == 4)))) := ⟨zb HB⟩
           (try clear BK507)
           (try clear BK508)
           (try clear BK516)
           (try clear HB)
           generalize (((w88.setCell ⟨gb516, 0, none⟩ (.string t512)).setCell ⟨gb516, 1, none⟩ (.string t524)).setCell ⟨gb516, 2, none⟩ (.bool (x8_4 == 4))) = w92 at n0_ n1_ n2_ n3_ ⊢
           have BK507 := n0_
           have BK508 := n1_
           have BK516 := n2_
           have HB := n3_
           clear n0_ n1_ n2_ n3_
           replace BK507 := Aside0.mk (blk_drew BK507.out)
           replace BK508 := Aside0.mk (blk_drew BK508.out)
           replace BK516 := Aside0.mk (blk_drew BK516.out)
           replace HB := Aside0.mk (below_drew1 HB.out)
           refine start_ (n := 14) (S := fun w' => w'.cell? ⟨gb516, 0, none⟩ = some (.string t512) ∧ w'.cell? ⟨gb516, 1, none⟩ = some (.string t524) ∧ w'.cell? ⟨gb516, 2, none⟩ = some (.bool (x8_4 == 4))) (ds := []) #[false, false, false, false, false, false, false, false, false, false, false, false, false, false] (by kernel_rfl) rfl rfl ⟨(blk_cell BK516.out 0).trans rfl, (blk_cell BK516.out 1).trans rfl, (blk_cell BK516.out 2).trans rfl⟩ (fun hHeld => ?_); refine with_tabW impl_Table_field.tab25 impl_Table_field.bits25 (fun HT_ HW_ => ?_)
           generalize w92.drew = w93 at BK507 BK508 BK516 HB hHeld ⊢
           refine pu 1 (some 94) (bm 14 2) rfl rfl ?_
           refine pu 2 (some 95) (bm 14 6) rfl rfl ?_
           refine pu 3 (some 96) (bm 14 14) rfl rfl ?_
           refine pu 4 (some 97) (bm 14 30) rfl rfl ?_
           refine pu 5 (some 98) (bm 14 62) rfl rfl ?_
           refine pu 6 (some 99) (bm 14 126) rfl rfl ?_
           refine pv 7 (some 100) (bm 14 254) rfl rfl ?_
           refine pv 8 (some 101) (bm 14 510) rfl rfl ?_
           refine pu 9 (some 102) (bm 14 1022) rfl rfl ?_
           refine tk 0 (some 93) (bm 14 1023) rfl rfl hHeld ?_
           refine one_ (i := 10) (N := none) (bm 14 2047) rfl rfl (one_of HT_.out (by kernel_rfl)) (by decide) (fun K hK => ?_)
           have hs94 : w93.cell? ⟨gb508, 0, none⟩ = some (.string x509000_4) := (blk_cell BK508.out 0).trans rfl
           have hfs94 := blk_frozen BK508.out 0
           have hns94_0 := NB507_508.out
           have hns94_2 := NB516_508.out
           have hms94_0 := NB508_507.out
           have hms94_2 := NB508_516.out
           have hs95 : w93.cell? ⟨gb508, 1, none⟩ = some (.string x509001_4) := (blk_cell BK508.out 1).trans rfl
           have hfs95 := blk_frozen BK508.out 1
           have hns95_0 := NB507_508.out
           have hns95_2 := NB516_508.out
           have hms95_0 := NB508_507.out
           have hms95_2 := NB508_516.out
           have hs96 : w93.cell? ⟨gb508, 2, none⟩ = some (.bool x509002_4) := (blk_cell BK508.out 2).trans rfl
           have hfs96 := blk_frozen BK508.out 2
           have hns96_0 := NB507_508.out
           have hns96_2 := NB516_508.out
           have hms96_0 := NB508_507.out
           have hms96_2 := NB508_516.out
           refine skip_ (w1 := ?_) (by rfl) rfl ?_ ?_
           rotate_left
           ·go_simp
            rfl
           refine hK.out _ _ ⟨((cell_far (p := ⟨gb508, _, none⟩) NB516_508.out _).trans (((cell_far (p := ⟨gb508, _, none⟩) NB516_508.out _).trans (((cell_far (p := ⟨gb508, _, none⟩) NB516_508.out _).trans (hHeld.1)))))), ((cell_far (p := ⟨gb508, _, none⟩) NB516_508.out _).trans (((cell_far (p := ⟨gb508, _, none⟩) NB516_508.out _).trans (((cell_far (p := ⟨gb508, _, none⟩) NB516_508.out _).trans (hHeld.2.1)))))), ((cell_far (p := ⟨gb508, _, none⟩) NB516_508.out _).trans (((cell_far (p := ⟨gb508, _, none⟩) NB516_508.out _).trans (((cell_far (p := ⟨gb508, _, none⟩) NB516_508.out _).trans (hHeld.2.2))))))⟩ (fun hHeld => ?_)
           clear hK K
           refine pu 11 (some 5) (bm 14 4095) rfl rfl ?_
           refine pu 12 (some 6) (bm 14 8191) rfl rfl ?_
           refine pu 13 (some 7) (bm 14 16383) rfl rfl ?_
           refine done_ (done_of HT_.out (by kernel_rfl)) ?_
           try go_wp2
           refine bodyPost_ret (results_list (rs := [.cell 4 88, .tmp 5, .tmp 6, .tmp 7]) rfl (by simp) (.cell gb508 88 #[.string t512, .string t524, .bool (x8_4 == 4)] (0, 0) _ rfl (by (with_reducible repeat (first | refine blk_drewN ?_ _ | refine blk_drew ?_ | refine blk_alloc ?_ _)); refine blk_put (cs := #[.string t512, .string t524, .bool x509002_4]) ?_ 2 _ rfl; (with_reducible repeat (first | refine blk_drewN ?_ _ | refine blk_drew ?_ | refine blk_alloc ?_ _)); refine blk_put (cs := #[.string t512, .string x509001_4, .bool x509002_4]) ?_ 1 _ rfl; (with_reducible repeat (first | refine blk_drewN ?_ _ | refine blk_drew ?_ | refine blk_alloc ?_ _)); refine blk_put (cs := #[.string x509000_4, .string x509001_4, .bool x509002_4]) ?_ 0 _ rfl; exact zk BK508) Try.underlying88 rfl (by kernel_rfl) (.tmp (.tmp (.tmp .nil))))) rfl ?_
           exact ⟨ze, zb HB⟩
         ·rw [if_neg c74] at H
          exact absurd H (by simp)
        ·rw [if_neg c73] at H
         exact absurd H (by simp)
       ·replace c72 := Bool.eq_false_iff.mpr c72
        subst c72
        rw [if_neg (show ¬ (false = true) by decide)] at H
        simp only [Option.some.injEq, Prod.mk.injEq] at H
        obtain ⟨rfl, rfl, rfl, rfl, rfl, rfl⟩ := H
        have hnb97 := NB508_507.out
        have hnc97 := NB507_508.out
        have hnb98 := NB508_516.out
        have hnc98 := NB516_508.out
        obtain ⟨hcz99_0, hcz99_1, hcz99_2, hfz99_0, hfz99_1, hfz99_2⟩ := c3 BK508
        go_wp2
        refine bodyPost_ret (results_list (rs := [.cell 4 88, .tmp 5, .tmp 6, .tmp 7]) rfl (by simp) (.cell gb508 88 #[.string (⟨#[]⟩ : ByteArray), .string (⟨#[]⟩ : ByteArray), .bool false] (0, 0) _ rfl (by (with_reducible repeat (first | refine blk_drewN ?_ _ | refine blk_drew ?_ | refine blk_alloc ?_ _)); refine blk_put (cs := #[.string (⟨#[]⟩ : ByteArray), .string (⟨#[]⟩ : ByteArray), .bool x509002_4]) ?_ 2 _ rfl; (with_reducible repeat (first | refine blk_drewN ?_ _ | refine blk_drew ?_ | refine blk_alloc ?_ _)); refine blk_put (cs := #[.string (⟨#[]⟩ : ByteArray), .string x509001_4, .bool x509002_4]) ?_ 1 _ rfl; (with_reducible repeat (first | refine blk_drewN ?_ _ | refine blk_drew ?_ | refine blk_alloc ?_ _)); refine blk_put (cs := #[.string x509000_4, .string x509001_4, .bool x509002_4]) ?_ 0 _ rfl; (with_reducible repeat (first | refine blk_drewN ?_ _ | refine blk_drew ?_ | refine blk_alloc ?_ _)); refine blk_far ?_ NB508_516.out _; (with_reducible repeat (first | refine blk_drewN ?_ _ | refine blk_drew ?_ | refine blk_alloc ?_ _)); refine blk_far ?_ NB508_516.out _; (with_reducible repeat (first | refine blk_drewN ?_ _ | refine blk_drew ?_ | refine blk_alloc ?_ _)); refine blk_far ?_ NB508_516.out _; exact zk BK508) Try.underlying88 rfl (by kernel_rfl) (.tmp (.tmp (.tmp .nil))))) rfl ?_
        exact ⟨ze, zb HB⟩
    ·replace c17 := Bool.eq_false_iff.mpr c17
     subst c17
     rw [if_neg (show ¬ (false = true) by decide)] at H
     simp only [Option.some.injEq, Prod.mk.injEq] at H
     obtain ⟨rfl, rfl, rfl, rfl, rfl, rfl⟩ := H
     go_wp2_with (first | ((with_reducible refine gq 115 rfl ?_); refine gl (some 39) Try.func115 #[.string a1, .int .i64 x8_4] ?_; (with_reducible refine (impl_NumRead.calls kj4 a1 x8_4 t509 t510 false _ A16.out).mono ?_); rintro e w100 ⟨rfl, hb⟩; refine ⟨_, rfl, ?_⟩; replace BK507 := kb BK507 hb; replace BK508 := kb BK508 hb; replace HB := Aside0.mk (below_step (zb HB) hb); (try clear hb); have hnb101 := NB508_507.out; have hnc101 := NB507_508.out; obtain ⟨hcz102_0, hcz102_1, hcz102_2, hfz102_0, hfz102_1, hfz102_2⟩ := c3 BK508))
     refine bodyPost_ret (results_list (rs := [.cell 4 88, .tmp 5, .tmp 6, .tmp 7]) rfl (by simp) (.cell gb508 88 #[.string (⟨#[]⟩ : ByteArray), .string (⟨#[]⟩ : ByteArray), .bool false] (0, 0) _ rfl (by (with_reducible repeat (first | refine blk_drewN ?_ _ | refine blk_drew ?_ | refine blk_alloc ?_ _)); refine blk_put (cs := #[.string (⟨#[]⟩ : ByteArray), .string (⟨#[]⟩ : ByteArray), .bool x509002_4]) ?_ 2 _ rfl; (with_reducible repeat (first | refine blk_drewN ?_ _ | refine blk_drew ?_ | refine blk_alloc ?_ _)); refine blk_put (cs := #[.string (⟨#[]⟩ : ByteArray), .string x509001_4, .bool x509002_4]) ?_ 1 _ rfl; (with_reducible repeat (first | refine blk_drewN ?_ _ | refine blk_drew ?_ | refine blk_alloc ?_ _)); refine blk_put (cs := #[.string x509000_4, .string x509001_4, .bool x509002_4]) ?_ 0 _ rfl; exact zk BK508) Try.underlying88 rfl (by kernel_rfl) (.tmp (.tmp (.tmp .nil))))) rfl ?_
     exact ⟨ze, zb HB⟩
 ·skip
  exact absurd H (by simp)

end Go.Proofs.Ytlpibelofcabhaa.PFnHeadBack
